import PyProof.Rows.All
import Wide.All
import OpenK.AllK
import Wide.FinOn
import PyProof.EqAt
import PyProof.EqKinds
import PyProof.TupleCall
import HandS.ForMost
import HandS.ForExc
import HandS.Wide
import HandS.Deep
import HandS.Sort
import HandS.SortRule
import HandS.IsInst
import HandS.ExcIs
import HandS.TryMany
import HandS.Defaults
import HandS.Codes
import HandS.Style
import HandS.Head0
import HandS.Head1
import HandS.Head2
import HandS.HeadEnd
import HandS.HeadHook1
import HandS.HeadHook2
import HandS.HeadHook3
import HandS.HeadHook4
import KE.DataFind
import HandS.SortInts
import PyProof.Rows.SetFrom
import PyProof.SetRoads
import PySem.Challenge.RW_buddyyard_k09_which_piece_is_given
set_option Elab.async false
set_option linter.all false
set_option maxRecDepth 100000
set_option maxHeartbeats 4000000
set_option linter.all false
/-! The mathematics of halves of halves: trees, their free pieces and those that are out. No program here. -/
namespace Bud

/-- a piece: where it begins, its size -/
abbrev Pc := Int × Int

def pw (k : Nat) : Int := 2 ^ k
theorem pw_zero : pw 0 = 1 := rfl
theorem pw_succ (k : Nat) : pw (k + 1) = 2 * pw k := by
  show (2 : Int) ^ (k + 1) = 2 * 2 ^ k
  rw [Int.pow_succ, Int.mul_comm]
theorem pw_pos (k : Nat) : 0 < pw k := by
  induction k with
  | zero => exact Int.zero_lt_one
  | succ k ih => rw [pw_succ]; omega
theorem pw_add (j k : Nat) : pw (j + k) = pw j * pw k := Int.pow_add 2 j k
theorem pw_dvd {j k : Nat} (h : j ≤ k) : pw j ∣ pw k := by
  obtain ⟨d, rfl⟩ := Nat.exists_eq_add_of_le h
  rw [pw_add]
  exact Int.dvd_mul_right _ _
theorem pw_le {j k : Nat} (h : j ≤ k) : pw j ≤ pw k := Int.le_of_dvd (pw_pos k) (pw_dvd h)
theorem pw_lt {j k : Nat} (h : j < k) : pw j < pw k := by
  have h1 := pw_le (Nat.succ_le_of_lt h)
  have h2 := pw_pos j
  rw [Nat.succ_eq_add_one, pw_succ] at h1
  omega
theorem pw_inj {j k : Nat} (h : pw j = pw k) : j = k := by
  rcases Nat.lt_trichotomy j k with q | q | q
  · have := pw_lt q; omega
  · exact q
  · have := pw_lt q; omega
theorem pw_lt_iff {j k : Nat} : pw j < pw k ↔ j < k := by
  constructor
  · intro h
    rcases Nat.lt_or_ge j k with q | q
    · exact q
    · have := pw_le q; omega
  · exact pw_lt
theorem pw_le_iff {j k : Nat} : pw j ≤ pw k ↔ j ≤ k := by
  constructor
  · intro h
    rcases Nat.lt_or_ge k j with q | q
    · have := pw_lt q; omega
    · exact q
  · exact pw_le

/-! ### two multiples of one number -/
theorem mul_gap {s a b : Int} (hs : 0 < s) (ha : s ∣ a) (hb : s ∣ b) (h : a < b) : a + s ≤ b := by
  obtain ⟨x, rfl⟩ := ha
  obtain ⟨y, rfl⟩ := hb
  have h1 : x < y := Int.lt_of_mul_lt_mul_left h (Int.le_of_lt hs)
  have h2 : s * (x + 1) ≤ s * y := Int.mul_le_mul_of_nonneg_left (by omega) (Int.le_of_lt hs)
  rw [Int.mul_add, Int.mul_one] at h2
  exact h2

/-! ### the order of pieces -/
def lexle (p q : Pc) : Prop := p.1 < q.1 ∨ (p.1 = q.1 ∧ p.2 ≤ q.2)
theorem lexle_antisymm {p q : Pc} (h : lexle p q) (h' : lexle q p) : p = q := by
  obtain ⟨a, b⟩ := p
  obtain ⟨c, d⟩ := q
  unfold lexle at h h'
  simp only at h h'
  have e1 : a = c := by omega
  have e2 : b = d := by omega
  rw [e1, e2]
theorem lexle_trans {p q r : Pc} (h : lexle p q) (h' : lexle q r) : lexle p r := by
  unfold lexle at *
  omega
def Srt (l : List Pc) : Prop := l.Pairwise lexle
theorem srt_uniq : ∀ {l m : List Pc}, Srt l → Srt m → l.Perm m → l = m
  | [], m, _, _, h => (List.Perm.eq_nil h.symm).symm
  | x :: l, [], _, _, h => absurd h.length_eq (by simp)
  | x :: l, y :: m, hl, hm, h => by
    have e : x = y := by
      rcases List.mem_cons.mp (h.mem_iff.mp (List.mem_cons_self (a := x) (l := l))) with e | hx
      · exact e
      · rcases List.mem_cons.mp (h.mem_iff.mpr (List.mem_cons_self (a := y) (l := m))) with e | hy
        · exact e.symm
        · exact lexle_antisymm ((List.pairwise_cons.mp hl).1 y hy) ((List.pairwise_cons.mp hm).1 x hx)
    subst e
    rw [srt_uniq (List.pairwise_cons.mp hl).2 (List.pairwise_cons.mp hm).2 h.cons_inv]

/-! ### trees -/
inductive T : Nat → Type where
  | free {k : Nat} : T k
  | out {k : Nat} : T k
  | node {k : Nat} (l r : T k) : T (k + 1)

def isFree : {k : Nat} → T k → Bool
  | _, .free => true
  | _, .out => false
  | _, .node _ _ => false
def frees : {k : Nat} → T k → Int → List Pc
  | k, .free, b => [(b, pw k)]
  | _, .out, _ => []
  | k + 1, .node l r, b => frees l b ++ frees r (b + pw k)
def outs : {k : Nat} → T k → Int → List Pc
  | _, .free, _ => []
  | k, .out, b => [(b, pw k)]
  | k + 1, .node l r, b => outs l b ++ outs r (b + pw k)
def Can : {k : Nat} → T k → Prop
  | _, .free => True
  | _, .out => True
  | _, .node l r => Can l ∧ Can r ∧ ¬ (isFree l = true ∧ isFree r = true)
/-- all pieces in a row, whether each is out -/
def pcs : {k : Nat} → T k → Int → List (Pc × Bool)
  | k, .free, b => [((b, pw k), false)]
  | k, .out, b => [((b, pw k), true)]
  | k + 1, .node l r, b => pcs l b ++ pcs r (b + pw k)
def isOut : {k : Nat} → T k → Bool
  | _, .free => false
  | _, .out => true
  | _, .node _ _ => false

theorem free_of_isFree {k : Nat} {t : T k} (h : isFree t = true) : t = .free := by
  cases t with
  | free => rfl
  | out => cases h
  | node l r => cases h

/-- what a piece of a tree of height k at b is -/
def In (k : Nat) (b : Int) (p : Pc) : Prop := b ≤ p.1 ∧ p.1 + p.2 ≤ b + pw k ∧ ∃ j, j ≤ k ∧ p.2 = pw j ∧ pw j ∣ p.1
theorem In.left {k : Nat} {b : Int} {p : Pc} (h : In k b p) : In (k + 1) b p := by
  obtain ⟨h1, h2, j, h3, h4, h5⟩ := h
  have := pw_pos k
  exact ⟨h1, by rw [pw_succ]; omega, j, Nat.le_succ_of_le h3, h4, h5⟩
theorem In.right {k : Nat} {b : Int} {p : Pc} (h : In k (b + pw k) p) : In (k + 1) b p := by
  obtain ⟨h1, h2, j, h3, h4, h5⟩ := h
  have := pw_pos k
  exact ⟨by omega, by rw [pw_succ]; omega, j, Nat.le_succ_of_le h3, h4, h5⟩
theorem dvd_left {k : Nat} {b : Int} (h : pw (k + 1) ∣ b) : pw k ∣ b := Int.dvd_trans (pw_dvd (Nat.le_succ k)) h
theorem dvd_right {k : Nat} {b : Int} (h : pw (k + 1) ∣ b) : pw k ∣ b + pw k := Int.dvd_add (dvd_left h) (Int.dvd_refl _)
theorem in_self {k : Nat} {b : Int} (h : pw k ∣ b) : In k b (b, pw k) := ⟨Int.le_refl _, Int.le_refl _, k, Nat.le_refl k, rfl, h⟩
theorem in_frees : ∀ {k : Nat} (t : T k) {b : Int} {p : Pc}, pw k ∣ b → p ∈ frees t b → In k b p
  | _, .free, b, p, h, hp => by
    rw [List.mem_singleton.mp hp]
    exact in_self h
  | _, .out, b, p, h, hp => by cases hp
  | _, .node l r, b, p, h, hp => by
    rcases List.mem_append.mp hp with q | q
    · exact (in_frees l (dvd_left h) q).left
    · exact (in_frees r (dvd_right h) q).right
theorem in_outs : ∀ {k : Nat} (t : T k) {b : Int} {p : Pc}, pw k ∣ b → p ∈ outs t b → In k b p
  | _, .free, b, p, h, hp => by cases hp
  | _, .out, b, p, h, hp => by
    rw [List.mem_singleton.mp hp]
    exact in_self h
  | _, .node l r, b, p, h, hp => by
    rcases List.mem_append.mp hp with q | q
    · exact (in_outs l (dvd_left h) q).left
    · exact (in_outs r (dvd_right h) q).right
theorem In.pos {k : Nat} {b : Int} {p : Pc} (h : In k b p) : 0 < p.2 := by
  obtain ⟨_, _, j, _, e, _⟩ := h
  rw [e]
  exact pw_pos j

/-! ### in a row -/
/-- one behind the other, from b to e -/
def Row : List Pc → Int → Int → Prop
  | [], b, e => b = e
  | p :: l, b, e => p.1 = b ∧ Row l (b + p.2) e
theorem Row.append : ∀ {l m : List Pc} {b c e : Int}, Row l b c → Row m c e → Row (l ++ m) b e
  | [], m, b, c, e, h, h' => by
    cases h
    exact h'
  | p :: l, m, b, c, e, h, h' => ⟨h.1, Row.append h.2 h'⟩
theorem pcs_row : ∀ {k : Nat} (t : T k) (b : Int), Row ((pcs t b).map (·.1)) b (b + pw k)
  | _, .free, b => ⟨rfl, rfl⟩
  | _, .out, b => ⟨rfl, rfl⟩
  | k + 1, .node l r, b => by
    show Row ((pcs l b ++ pcs r (b + pw k)).map (·.1)) b (b + pw (k + 1))
    rw [List.map_append]
    have e : b + pw (k + 1) = b + pw k + pw k := by rw [pw_succ]; omega
    rw [e]
    exact (pcs_row l b).append (pcs_row r (b + pw k))
theorem pcs_frees : ∀ {k : Nat} (t : T k) (b : Int), ((pcs t b).filter (fun p => !p.2)).map (·.1) = frees t b
  | _, .free, b => rfl
  | _, .out, b => rfl
  | k + 1, .node l r, b => by
    show ((pcs l b ++ pcs r (b + pw k)).filter (fun p => !p.2)).map (·.1) = frees l b ++ frees r (b + pw k)
    rw [List.filter_append, List.map_append, pcs_frees, pcs_frees]
theorem pcs_outs : ∀ {k : Nat} (t : T k) (b : Int), ((pcs t b).filter (fun p => p.2)).map (·.1) = outs t b
  | _, .free, b => rfl
  | _, .out, b => rfl
  | k + 1, .node l r, b => by
    show ((pcs l b ++ pcs r (b + pw k)).filter (fun p => p.2)).map (·.1) = outs l b ++ outs r (b + pw k)
    rw [List.filter_append, List.map_append, pcs_outs, pcs_outs]
theorem pcs_perm : ∀ {k : Nat} (t : T k) (b : Int), ((pcs t b).map (·.1)).Perm (outs t b ++ frees t b)
  | _, .free, b => List.Perm.refl _
  | _, .out, b => List.Perm.refl _
  | k + 1, .node l r, b => by
    show ((pcs l b ++ pcs r (b + pw k)).map (·.1)).Perm ((outs l b ++ outs r (b + pw k)) ++ (frees l b ++ frees r (b + pw k)))
    rw [List.map_append]
    refine ((pcs_perm l b).append (pcs_perm r (b + pw k))).trans ?_
    rw [List.append_assoc, List.append_assoc]
    refine List.Perm.append_left _ ?_
    rw [← List.append_assoc, ← List.append_assoc]
    exact List.Perm.append_right _ List.perm_append_comm

/-- apart, the left one ahead -/
def Ahead (p q : Pc) : Prop := p.1 + p.2 ≤ q.1
theorem ahead_frees : ∀ {k : Nat} (t : T k) {b : Int}, pw k ∣ b → (frees t b).Pairwise Ahead
  | _, .free, b, _ => List.pairwise_singleton _ _
  | _, .out, b, _ => List.Pairwise.nil
  | k + 1, .node l r, b, h => by
    refine List.pairwise_append.mpr ⟨ahead_frees l (dvd_left h), ahead_frees r (dvd_right h), fun x hx y hy => ?_⟩
    have h1 := (in_frees l (dvd_left h) hx).2.1
    have h2 := (in_frees r (dvd_right h) hy).1
    unfold Ahead
    omega
theorem ahead_outs : ∀ {k : Nat} (t : T k) {b : Int}, pw k ∣ b → (outs t b).Pairwise Ahead
  | _, .free, b, _ => List.Pairwise.nil
  | _, .out, b, _ => List.pairwise_singleton _ _
  | k + 1, .node l r, b, h => by
    refine List.pairwise_append.mpr ⟨ahead_outs l (dvd_left h), ahead_outs r (dvd_right h), fun x hx y hy => ?_⟩
    have h1 := (in_outs l (dvd_left h) hx).2.1
    have h2 := (in_outs r (dvd_right h) hy).1
    unfold Ahead
    omega
theorem apart : ∀ {k : Nat} (t : T k) {b : Int}, pw k ∣ b → ∀ p ∈ outs t b, ∀ q ∈ frees t b, Ahead p q ∨ Ahead q p
  | _, .free, b, _, p, hp, q, hq => by cases hp
  | _, .out, b, _, p, hp, q, hq => by cases hq
  | k + 1, .node l r, b, h, p, hp, q, hq => by
    rcases List.mem_append.mp hp with hp | hp
    · rcases List.mem_append.mp hq with hq | hq
      · exact apart l (dvd_left h) p hp q hq
      · have h1 := (in_outs l (dvd_left h) hp).2.1
        have h2 := (in_frees r (dvd_right h) hq).1
        unfold Ahead
        omega
    · rcases List.mem_append.mp hq with hq | hq
      · have h1 := (in_frees l (dvd_left h) hq).2.1
        have h2 := (in_outs r (dvd_right h) hp).1
        unfold Ahead
        omega
      · exact apart r (dvd_right h) p hp q hq
theorem srt_of_ahead {l : List Pc} (h : l.Pairwise Ahead) (hp : ∀ p ∈ l, 0 < p.2) : Srt l := by
  refine List.Pairwise.imp_of_mem (R := Ahead) (fun {p q} hx hy a => ?_) h
  have := hp p hx
  unfold Ahead at a
  exact .inl (by omega)
theorem srt_frees {k : Nat} (t : T k) {b : Int} (h : pw k ∣ b) : Srt (frees t b) := srt_of_ahead (ahead_frees t h) fun p hp => (in_frees t h hp).pos
theorem srt_outs {k : Nat} (t : T k) {b : Int} (h : pw k ∣ b) : Srt (outs t b) := srt_of_ahead (ahead_outs t h) fun p hp => (in_outs t h hp).pos
theorem fst_inj_of_ahead {l : List Pc} (h : l.Pairwise Ahead) (hp : ∀ p ∈ l, 0 < p.2) : ∀ p ∈ l, ∀ q ∈ l, p.1 = q.1 → p = q := by
  induction l with
  | nil => intro p hp; cases hp
  | cons x l ih =>
    have ⟨h1, h2⟩ := List.pairwise_cons.mp h
    intro p hp' q hq' e
    rcases List.mem_cons.mp hp' with rfl | hp1
    · rcases List.mem_cons.mp hq' with rfl | hq1
      · rfl
      · have a := h1 q hq1
        have := hp p List.mem_cons_self
        unfold Ahead at a
        omega
    · rcases List.mem_cons.mp hq' with rfl | hq1
      · have a := h1 p hp1
        have := hp q List.mem_cons_self
        unfold Ahead at a
        omega
      · exact ih h2 (fun z hz => hp z (List.mem_cons_of_mem _ hz)) p hp1 q hq1 e
theorem nodup_fst_of_ahead {l : List Pc} (h : l.Pairwise Ahead) (hp : ∀ p ∈ l, 0 < p.2) : (l.map (·.1)).Nodup := by
  refine List.pairwise_map.mpr ?_
  refine List.Pairwise.imp_of_mem (R := Ahead) (fun {p q} hx hy a => ?_) h
  have := hp p hx
  unfold Ahead at a
  omega

/-! ### a tree of which nothing is out is free -/
theorem free_of_noOuts : ∀ {k : Nat} (t : T k) (b : Int), Can t → outs t b = [] → isFree t = true
  | _, .free, b, _, _ => rfl
  | _, .out, b, _, h => by cases h
  | k + 1, .node l r, b, h, e => by
    have ⟨e1, e2⟩ := List.append_eq_nil_iff.mp e
    exact absurd ⟨free_of_noOuts l b h.1 e1, free_of_noOuts r (b + pw k) h.2.1 e2⟩ h.2.2

/-! ### no two twins are free -/
theorem no_twins : ∀ {k : Nat} (t : T k) {b : Int}, Can t → pw k ∣ b → ∀ (j : Nat) (a : Int), j < k → pw (j + 1) ∣ a → (a, pw j) ∈ frees t b → (a + pw j, pw j) ∈ frees t b → False
  | k, .free, b, _, _, j, a, hj, _, h1, _ => by
    have e := List.mem_singleton.mp h1
    have e2 : pw j = pw k := congrArg Prod.snd e
    have := pw_inj e2
    omega
  | _, .out, b, _, _, j, a, _, _, h1, _ => by cases h1
  | k + 1, .node l r, b, hc, hb, j, a, hj, ha, h1, h2 => by
    have il := fun {p} (hp : p ∈ frees l b) => in_frees l (dvd_left hb) hp
    have ir := fun {p} (hp : p ∈ frees r (b + pw k)) => in_frees r (dvd_right hb) hp
    have pj := pw_pos j
    rcases Nat.lt_or_ge j k with q | q
    · rcases List.mem_append.mp h1 with g1 | g1
      · rcases List.mem_append.mp h2 with g2 | g2
        · exact no_twins l hc.1 (dvd_left hb) j a q ha g1 g2
        · have i1 := (il g1).2.1
          have i2 := (ir g2).1
          simp only at i1 i2
          have e : a + pw j = b + pw k := by omega
          have d1 : pw (j + 1) ∣ b + pw k := Int.dvd_trans (pw_dvd q) (dvd_right hb)
          have d2 : pw (j + 1) ∣ pw j := by
            have : pw j = (b + pw k) - a := by omega
            rw [this]
            exact Int.dvd_sub d1 ha
          have := Int.le_of_dvd pj d2
          rw [pw_succ] at this
          omega
      · rcases List.mem_append.mp h2 with g2 | g2
        · have i1 := (ir g1).1
          have i2 := (il g2).2.1
          simp only at i1 i2
          omega
        · exact no_twins r hc.2.1 (dvd_right hb) j a q ha g1 g2
    · have ej : j = k := by omega
      subst ej
      rcases List.mem_append.mp h1 with g1 | g1
      · rcases List.mem_append.mp h2 with g2 | g2
        · have i1 := (il g1).1
          have i2 := (il g2).2.1
          simp only at i1 i2
          omega
        · -- both children are free
          have f1 : isFree l = true := by
            cases l with
            | free => rfl
            | out => cases g1
            | node x y =>
              rename_i k'
              exfalso
              rcases List.mem_append.mp g1 with g | g
              · have i := (in_frees x (dvd_left (dvd_left hb)) g).2.2
                obtain ⟨i, hi, e, _⟩ := i
                have := pw_inj e
                omega
              · have i := (in_frees y (dvd_right (dvd_left hb)) g).2.2
                obtain ⟨i, hi, e, _⟩ := i
                have := pw_inj e
                omega
          have f2 : isFree r = true := by
            cases r with
            | free => rfl
            | out => cases g2
            | node x y =>
              rename_i k'
              exfalso
              rcases List.mem_append.mp g2 with g | g
              · have i := (in_frees x (dvd_left (dvd_right hb)) g).2.2
                obtain ⟨i, hi, e, _⟩ := i
                have := pw_inj e
                omega
              · have i := (in_frees y (dvd_right (dvd_right hb)) g).2.2
                obtain ⟨i, hi, e, _⟩ := i
                have := pw_inj e
                omega
          exact hc.2.2 ⟨f1, f2⟩
      · rcases List.mem_append.mp h2 with g2 | g2
        · have i1 := (ir g1).1
          have i2 := (il g2).2.1
          simp only at i1 i2
          omega
        · have i1 := (ir g1).1
          have i2 := (ir g2).2.1
          simp only at i1 i2
          omega

/-! ### a part of a tree, and another in its place -/
inductive At : {k : Nat} → T k → Int → {m : Nat} → T m → Int → Prop where
  | here {k : Nat} (t : T k) (b : Int) : At t b t b
  | left {k m : Nat} {l r : T k} {b : Int} {v : T m} {a : Int} (h : At l b v a) : At (.node l r) b v a
  | right {k m : Nat} {l r : T k} {b : Int} {v : T m} {a : Int} (h : At r (b + pw k) v a) : At (.node l r) b v a
theorem At.le {k m : Nat} {t : T k} {b : Int} {v : T m} {a : Int} (h : At t b v a) : m ≤ k := by
  induction h with
  | here => exact Nat.le_refl _
  | left _ ih => omega
  | right _ ih => omega
theorem at_free : ∀ {k : Nat} (t : T k) {b : Int} {a : Int} {m : Nat}, (a, pw m) ∈ frees t b → At t b (.free : T m) a
  | k, .free, b, a, m, h => by
    have e := List.mem_singleton.mp h
    have e1 : a = b := congrArg Prod.fst e
    have e2 := pw_inj (congrArg Prod.snd e : pw m = pw k)
    subst e1
    subst e2
    exact .here _ _
  | _, .out, b, a, m, h => by cases h
  | k + 1, .node l r, b, a, m, h => by
    rcases List.mem_append.mp h with q | q
    · exact .left (at_free l q)
    · exact .right (at_free r q)
theorem at_out : ∀ {k : Nat} (t : T k) {b : Int} {a : Int} {m : Nat}, (a, pw m) ∈ outs t b → At t b (.out : T m) a
  | _, .free, b, a, m, h => by cases h
  | k, .out, b, a, m, h => by
    have e := List.mem_singleton.mp h
    have e1 : a = b := congrArg Prod.fst e
    have e2 := pw_inj (congrArg Prod.snd e : pw m = pw k)
    subst e1
    subst e2
    exact .here _ _
  | k + 1, .node l r, b, a, m, h => by
    rcases List.mem_append.mp h with q | q
    · exact .left (at_out l q)
    · exact .right (at_out r q)
/-- u, which is not free, in v's place -/
theorem At.put {k m : Nat} {t : T k} {b : Int} {v : T m} {a : Int} (h : At t b v a) (hc : Can t) (u : T m) (hu : Can u) (hf : isFree u = false) :
    ∃ t' : T k, Can t' ∧ isFree t' = false ∧ ∃ L R L' R', frees t b = L ++ frees v a ++ R ∧ frees t' b = L ++ frees u a ++ R ∧ outs t b = L' ++ outs v a ++ R' ∧ outs t' b = L' ++ outs u a ++ R' := by
  induction h with
  | here t b => exact ⟨u, hu, hf, [], [], [], [], by simp, by simp, by simp, by simp⟩
  | @left k m l r b v a h ih =>
    obtain ⟨t', c', f', L, R, L', R', e1, e2, e3, e4⟩ := ih hc.1 u hu hf
    refine ⟨.node t' r, ⟨c', hc.2.1, fun q => by rw [f'] at q; cases q.1⟩, rfl, L, R ++ frees r (b + pw k), L', R' ++ outs r (b + pw k), ?_, ?_, ?_, ?_⟩
    · show frees l b ++ frees r (b + pw k) = _
      rw [e1]; simp
    · show frees t' b ++ frees r (b + pw k) = _
      rw [e2]; simp
    · show outs l b ++ outs r (b + pw k) = _
      rw [e3]; simp
    · show outs t' b ++ outs r (b + pw k) = _
      rw [e4]; simp
  | @right k m l r b v a h ih =>
    obtain ⟨t', c', f', L, R, L', R', e1, e2, e3, e4⟩ := ih hc.2.1 u hu hf
    refine ⟨.node l t', ⟨hc.1, c', fun q => by rw [f'] at q; cases q.2⟩, rfl, frees l b ++ L, R, outs l b ++ L', R', ?_, ?_, ?_, ?_⟩
    · show frees l b ++ frees r (b + pw k) = _
      rw [e1]; simp
    · show frees l b ++ frees t' (b + pw k) = _
      rw [e2]; simp
    · show outs l b ++ outs r (b + pw k) = _
      rw [e3]; simp
    · show outs l b ++ outs t' (b + pw k) = _
      rw [e4]; simp

/-! ### halved down to the lower end -/
/-- j: the height of what is out; d more levels above -/
def spine (j : Nat) : (d : Nat) → T (j + d)
  | 0 => .out
  | d + 1 => .node (spine j d) .free
theorem spine_can (j : Nat) : ∀ d, Can (spine j d) ∧ isFree (spine j d) = false
  | 0 => ⟨trivial, rfl⟩
  | d + 1 => ⟨⟨(spine_can j d).1, trivial, fun q => by rw [(spine_can j d).2] at q; cases q.1⟩, rfl⟩
theorem spine_outs (j : Nat) (b : Int) : ∀ d, outs (spine j d) b = [(b, pw j)]
  | 0 => rfl
  | d + 1 => by
    show outs (spine j d) b ++ [] = _
    rw [spine_outs j b d]
    rfl
/-- the upper halves, the least first -/
def ups (b : Int) (j : Nat) : Nat → List Pc
  | 0 => []
  | d + 1 => ups b j d ++ [(b + pw (j + d), pw (j + d))]
theorem spine_frees (j : Nat) (b : Int) : ∀ d, frees (spine j d) b = ups b j d
  | 0 => rfl
  | d + 1 => by
    show frees (spine j d) b ++ [(b + pw (j + d), pw (j + d))] = ups b j (d + 1)
    rw [spine_frees j b d]
    rfl
theorem mem_ups {b : Int} {j : Nat} {p : Pc} : ∀ {d : Nat}, p ∈ ups b j d ↔ ∃ i, i < d ∧ p = (b + pw (j + i), pw (j + i))
  | 0 => ⟨fun h => (by cases h), fun ⟨i, h, _⟩ => absurd h (Nat.not_lt_zero i)⟩
  | d + 1 => by
    show p ∈ ups b j d ++ [(b + pw (j + d), pw (j + d))] ↔ _
    rw [List.mem_append, mem_ups, List.mem_singleton]
    constructor
    · rintro (⟨i, h, e⟩ | e)
      · exact ⟨i, Nat.lt_succ_of_lt h, e⟩
      · exact ⟨d, Nat.lt_succ_self d, e⟩
    · rintro ⟨i, h, e⟩
      rcases Nat.lt_or_ge i d with q | q
      · exact .inl ⟨i, q, e⟩
      · have : i = d := by omega
        subst this
        exact .inr e
/-- a tree of which just the piece at its lower end is out -/
theorem spine_of : ∀ {k : Nat} (t : T k) {b : Int} {j : Nat}, Can t → pw k ∣ b → outs t b = [(b, pw j)] → ∃ d, ∃ e : j + d = k, t = e ▸ spine j d
  | _, .free, b, j, _, _, h => by cases h
  | k, .out, b, j, _, _, h => by
    have e : pw k = pw j := congrArg Prod.snd (List.cons.inj h).1
    have := pw_inj e
    subst this
    exact ⟨0, rfl, rfl⟩
  | k + 1, .node l r, b, j, hc, hb, h => by
    have h' : outs l b ++ outs r (b + pw k) = [(b, pw j)] := h
    have pk := pw_pos k
    cases e : outs l b with
    | nil =>
      rw [e, List.nil_append] at h'
      have m : ((b, pw j) : Pc) ∈ outs r (b + pw k) := by rw [h']; exact List.mem_singleton.mpr rfl
      have := (in_outs r (dvd_right hb) m).1
      simp only at this
      omega
    | cons p l' =>
      rw [e] at h'
      have ⟨e1, e2⟩ := List.cons.inj h'
      have ⟨e3, e4⟩ := List.append_eq_nil_iff.mp e2
      subst e1
      subst e3
      have fr := free_of_isFree (free_of_noOuts r (b + pw k) hc.2.1 e4)
      subst fr
      obtain ⟨d, ed, et⟩ := spine_of l hc.1 (dvd_left hb) e
      subst ed
      refine ⟨d + 1, rfl, ?_⟩
      rw [et]
      rfl
end Bud

set_option linter.all false
namespace Bud

theorem top_free {k : Nat} {t : T k} {b c : Int} (hb : pw k ∣ b) (h : (c, pw k) ∈ frees t b) : isFree t = true := by
  cases t with
  | free => rfl
  | out => cases h
  | node x y =>
    rename_i k'
    exfalso
    rcases List.mem_append.mp h with g | g
    · have i := (in_frees x (dvd_left hb) g).2.2
      obtain ⟨i, hi, e, _⟩ := i
      have := pw_inj e
      omega
    · have i := (in_frees y (dvd_right hb) g).2.2
      obtain ⟨i, hi, e, _⟩ := i
      have := pw_inj e
      omega
theorem free_mem {k : Nat} {t : T k} {b : Int} (h : isFree t = true) : (b, pw k) ∈ frees t b := by
  rw [free_of_isFree h]
  exact List.mem_singleton.mpr rfl

/-! ### the fitting size -/
def feG : Nat → Nat → Int → Nat
  | 0, n, _ => n
  | f + 1, n, w => if w ≤ pw n then n else feG f (n + 1) w
def fe (w : Int) : Nat := feG w.toNat 0 w
def fit (w : Int) : Int := pw (fe w)
theorem pw_ge (n : Nat) : (n : Int) < pw n := by
  induction n with
  | zero => exact Int.zero_lt_one
  | succ n ih => rw [pw_succ]; omega
theorem feG_spec : ∀ (f n : Nat) (w : Int), w ≤ pw (n + f) → (∀ i, i < n → pw i < w) → w ≤ pw (feG f n w) ∧ ∀ i, i < feG f n w → pw i < w
  | 0, n, w, h, h' => ⟨h, h'⟩
  | f + 1, n, w, h, h' => by
    unfold feG
    by_cases c : w ≤ pw n
    · rw [if_pos c]
      exact ⟨c, h'⟩
    · rw [if_neg c]
      refine feG_spec f (n + 1) w ?_ ?_
      · have : n + 1 + f = n + (f + 1) := by omega
        rw [this]
        exact h
      · intro i hi
        rcases Nat.lt_or_ge i n with q | q
        · exact h' i q
        · have : i = n := by omega
          rw [this]
          omega
theorem fe_spec (w : Int) : w ≤ pw (fe w) ∧ ∀ i, i < fe w → pw i < w := by
  refine feG_spec w.toNat 0 w ?_ (fun i hi => absurd hi (Nat.not_lt_zero i))
  have := pw_ge w.toNat
  rw [Nat.zero_add]
  omega
theorem fe_le {w : Int} {n : Nat} (h : w ≤ pw n) : fe w ≤ n := by
  rcases Nat.lt_or_ge n (fe w) with q | q
  · have := (fe_spec w).2 n q
    omega
  · exact q
theorem fit_ge (w : Int) : w ≤ fit w := (fe_spec w).1
theorem fe_eq {w : Int} {n : Nat} (h : w ≤ pw n) (h' : ∀ i, i < n → pw i < w) : fe w = n := by
  have h1 := fe_le h
  rcases Nat.lt_or_ge (fe w) n with q | q
  · have := h' _ q
    have := fit_ge w
    unfold fit at this
    omega
  · omega
theorem fe_eq' {w : Int} {n : Nat} (h : w ≤ pw n) (h' : n = 0 ∨ ∃ m, n = m + 1 ∧ pw m < w) : fe w = n := by
  refine fe_eq h fun i hi => ?_
  rcases h' with e | ⟨m, e, q⟩
  · omega
  · have := pw_le (show i ≤ m by omega)
    omega
theorem fit_le_iff {w : Int} {n : Nat} : fit w ≤ pw n ↔ w ≤ pw n := by
  constructor
  · intro h
    have := fit_ge w
    omega
  · intro h
    exact pw_le (fe_le h)

/-! ### twins -/
def twin (a s : Int) : Int := if a / s % 2 = 0 then a + s else a - s
theorem twin_even {a s : Int} (hs : 0 < s) (h : 2 * s ∣ a) : twin a s = a + s := by
  obtain ⟨x, rfl⟩ := h
  unfold twin
  have e : 2 * s * x / s = 2 * x := by
    rw [show 2 * s * x = s * (2 * x) by rw [Int.mul_comm 2 s, Int.mul_assoc]]
    exact Int.mul_ediv_cancel_left _ (by omega)
  rw [e, if_pos (by omega)]
theorem twin_odd {a s : Int} (hs : 0 < s) (h : 2 * s ∣ a - s) : twin a s = a - s := by
  obtain ⟨x, hx⟩ := h
  unfold twin
  have e : a / s = 2 * x + 1 := by
    have : a = s * (2 * x + 1) := by
      rw [Int.mul_add, Int.mul_one, ← Int.mul_assoc, Int.mul_comm s 2]
      omega
    rw [this]
    exact Int.mul_ediv_cancel_left _ (by omega)
  rw [e, if_neg (by omega)]
theorem dvd_two {a s : Int} (hs : 0 < s) (h : s ∣ a) : 2 * s ∣ a ∨ 2 * s ∣ a - s := by
  obtain ⟨x, rfl⟩ := h
  rcases (show x % 2 = 0 ∨ x % 2 = 1 by omega) with q | q
  · left
    refine ⟨x / 2, ?_⟩
    have e : x = 2 * (x / 2) := by omega
    calc s * x = s * (2 * (x / 2)) := by rw [← e]
      _ = 2 * s * (x / 2) := by rw [← Int.mul_assoc, Int.mul_comm s 2]
  · right
    refine ⟨x / 2, ?_⟩
    have e : x = 2 * (x / 2) + 1 := by omega
    calc s * x - s = s * (2 * (x / 2) + 1) - s := by rw [← e]
      _ = 2 * s * (x / 2) := by rw [Int.mul_add, Int.mul_one, ← Int.mul_assoc, Int.mul_comm s 2]; omega
theorem twin_left {k : Nat} {b : Int} (h : pw (k + 1) ∣ b) : twin b (pw k) = b + pw k := twin_even (pw_pos k) (by rw [← pw_succ]; exact h)
theorem twin_right {k : Nat} {b : Int} (h : pw (k + 1) ∣ b) : twin (b + pw k) (pw k) = b := by
  rw [twin_odd (pw_pos k)]
  · omega
  · rw [← pw_succ]
    have : b + pw k - pw k = b := by omega
    rw [this]
    exact h
/-- the twin lies a size on, where the piece begins at a multiple of twice the size, and only there -/
theorem twin_eq_iff {j : Nat} {a : Int} (h : pw j ∣ a) : twin a (pw j) = a + pw j ↔ pw (j + 1) ∣ a := by
  have hp := pw_pos j
  constructor
  · intro e
    rcases dvd_two hp h with q | q
    · rw [pw_succ]; exact q
    · rw [twin_odd hp q] at e
      omega
  · intro e
    exact twin_left e

/-! ### the smallest that is large enough -/
def better (w : Int) (f : Option Pc) (p : Pc) : Option Pc :=
  if w ≤ p.2 then (match f with | none => some p | some q => if p.2 < q.2 then some p else some q) else f
def bestOf (L : List Pc) (w : Int) : Option Pc := L.foldl (better w) none
theorem best_fold (w : Int) : ∀ (L : List Pc) (f : Option Pc), (∀ q, f = some q → w ≤ q.2) →
    (L.foldl (better w) f = none ↔ f = none ∧ ∀ p ∈ L, p.2 < w) ∧
    ∀ x, L.foldl (better w) f = some x → w ≤ x.2 ∧ (f = some x ∨ ∃ A B, L = A ++ x :: B ∧ (∀ p ∈ A, w ≤ p.2 → x.2 < p.2) ∧ ∀ q, f = some q → x.2 < q.2) ∧ (∀ p ∈ L, w ≤ p.2 → x.2 ≤ p.2) ∧ ∀ q, f = some q → x.2 ≤ q.2
  | [], f, hf => by
    refine ⟨⟨fun h => ⟨h, fun p hp => by cases hp⟩, fun h => h.1⟩, fun x hx => ?_⟩
    have hx' : f = some x := hx
    refine ⟨hf x hx', .inl hx', fun p hp => (by cases hp), fun q hq => ?_⟩
    rw [hx'] at hq
    cases hq
    exact Int.le_refl _
  | p :: L, f, hf => by
    show (L.foldl (better w) (better w f p) = none ↔ _) ∧ ∀ x, L.foldl (better w) (better w f p) = some x → _
    have hf' : ∀ q, better w f p = some q → w ≤ q.2 := by
      intro q hq
      unfold better at hq
      by_cases c : w ≤ p.2
      · rw [if_pos c] at hq
        cases f with
        | none => cases hq; exact c
        | some z =>
          simp only at hq
          by_cases d : p.2 < z.2
          · rw [if_pos d] at hq; cases hq; exact c
          · rw [if_neg d] at hq; cases hq; exact hf _ rfl
      · rw [if_neg c] at hq
        exact hf q hq
    obtain ⟨h1, h2⟩ := best_fold w L (better w f p) hf'
    constructor
    · rw [h1]
      constructor
      · rintro ⟨e, h⟩
        unfold better at e
        by_cases c : w ≤ p.2
        · rw [if_pos c] at e
          cases f with
          | none => cases e
          | some z =>
            simp only at e
            by_cases d : p.2 < z.2
            · rw [if_pos d] at e; cases e
            · rw [if_neg d] at e; cases e
        · rw [if_neg c] at e
          refine ⟨e, fun q hq => ?_⟩
          rcases List.mem_cons.mp hq with rfl | hq
          · omega
          · exact h q hq
      · rintro ⟨e, h⟩
        have c : ¬ w ≤ p.2 := by have := h p List.mem_cons_self; omega
        refine ⟨?_, fun q hq => h q (List.mem_cons_of_mem _ hq)⟩
        unfold better
        rw [if_neg c]
        exact e
    · intro x hx
      obtain ⟨g1, g2, g3, g4⟩ := h2 x hx
      by_cases c : w ≤ p.2
      · cases f with
        | none =>
          have eb : better w none p = some p := by unfold better; rw [if_pos c]
          rw [eb] at g2 g4
          have g4p := g4 p rfl
          refine ⟨g1, .inr ?_, fun q hq hw => ?_, fun q hq => by cases hq⟩
          · rcases g2 with e | ⟨A, B, e, g, g'⟩
            · cases e
              exact ⟨[], L, rfl, fun q hq => (by cases hq), fun q hq => by cases hq⟩
            · refine ⟨p :: A, B, by rw [e]; rfl, fun q hq hw => ?_, fun q hq => by cases hq⟩
              rcases List.mem_cons.mp hq with rfl | hq
              · exact g' _ rfl
              · exact g q hq hw
          · rcases List.mem_cons.mp hq with rfl | hq
            · exact g4p
            · exact g3 q hq hw
        | some z =>
          by_cases d : p.2 < z.2
          · have eb : better w (some z) p = some p := by unfold better; rw [if_pos c]; exact if_pos d
            rw [eb] at g2 g4
            have g4p := g4 p rfl
            refine ⟨g1, .inr ?_, fun q hq hw => ?_, fun q hq => ?_⟩
            · rcases g2 with e | ⟨A, B, e, g, g'⟩
              · cases e
                exact ⟨[], L, rfl, fun q hq => (by cases hq), fun q hq => by cases hq; exact d⟩
              · refine ⟨p :: A, B, by rw [e]; rfl, fun q hq hw => ?_, fun q hq => ?_⟩
                · rcases List.mem_cons.mp hq with rfl | hq
                  · exact g' _ rfl
                  · exact g q hq hw
                · cases hq
                  have := g' p rfl
                  omega
            · rcases List.mem_cons.mp hq with rfl | hq
              · exact g4p
              · exact g3 q hq hw
            · cases hq
              omega
          · have eb : better w (some z) p = some z := by unfold better; rw [if_pos c]; exact if_neg d
            rw [eb] at g2 g4
            have g4z := g4 z rfl
            refine ⟨g1, ?_, fun q hq hw => ?_, fun q hq => ?_⟩
            · rcases g2 with e | ⟨A, B, e, g, g'⟩
              · exact .inl e
              · refine .inr ⟨p :: A, B, by rw [e]; rfl, fun q hq hw => ?_, g'⟩
                rcases List.mem_cons.mp hq with rfl | hq
                · have := g' z rfl
                  omega
                · exact g q hq hw
            · rcases List.mem_cons.mp hq with rfl | hq
              · omega
              · exact g3 q hq hw
            · cases hq
              exact g4z
      · have eb : better w f p = f := by unfold better; rw [if_neg c]
        rw [eb] at g2 g4
        refine ⟨g1, ?_, fun q hq hw => ?_, g4⟩
        · rcases g2 with e | ⟨A, B, e, g, g'⟩
          · exact .inl e
          · refine .inr ⟨p :: A, B, by rw [e]; rfl, fun q hq hw => ?_, g'⟩
            rcases List.mem_cons.mp hq with rfl | hq
            · exact absurd hw c
            · exact g q hq hw
        · rcases List.mem_cons.mp hq with rfl | hq
          · exact absurd hw c
          · exact g3 q hq hw
theorem best_none {L : List Pc} {w : Int} : bestOf L w = none ↔ ∀ p ∈ L, p.2 < w := by
  have h := (best_fold w L none (fun q hq => by cases hq)).1
  exact ⟨fun e => (h.mp e).2, fun e => h.mpr ⟨rfl, e⟩⟩
theorem best_some {L : List Pc} {w : Int} {x : Pc} (h : bestOf L w = some x) : w ≤ x.2 ∧ (∃ A B, L = A ++ x :: B ∧ ∀ p ∈ A, w ≤ p.2 → x.2 < p.2) ∧ ∀ p ∈ L, w ≤ p.2 → x.2 ≤ p.2 := by
  obtain ⟨g1, g2, g3, _⟩ := (best_fold w L none (fun q hq => by cases hq)).2 x h
  rcases g2 with e | ⟨A, B, e, g, _⟩
  · cases e
  · exact ⟨g1, ⟨A, B, e, g⟩, g3⟩
theorem best_mem {L : List Pc} {w : Int} {x : Pc} (h : bestOf L w = some x) : x ∈ L := by
  obtain ⟨_, ⟨A, B, e, _⟩, _⟩ := best_some h
  rw [e]
  exact List.mem_append_right _ List.mem_cons_self
/-- among equally small ones the least place -/
theorem best_first {L : List Pc} {w : Int} {x : Pc} (hs : Srt L) (h : bestOf L w = some x) : ∀ p ∈ L, p.2 = x.2 → x.1 ≤ p.1 := by
  obtain ⟨g, ⟨A, B, e, hA⟩, _⟩ := best_some h
  intro p hp ep
  rw [e] at hp hs
  rcases List.mem_append.mp hp with q | q
  · have := hA p q (by omega)
    omega
  · rcases List.mem_cons.mp q with rfl | q
    · exact Int.le_refl _
    · have := (List.pairwise_cons.mp (List.pairwise_append.mp hs).2.1).1 p q
      unfold lexle at this
      omega
theorem best_uniq {L : List Pc} {w : Int} {x : Pc} (hs : Srt L) (hm : x ∈ L) (hw : w ≤ x.2) (hl : ∀ p ∈ L, w ≤ p.2 → x.2 ≤ p.2) (hf : ∀ p ∈ L, p.2 = x.2 → x.1 ≤ p.1) : bestOf L w = some x := by
  cases e : bestOf L w with
  | none => have := best_none.mp e x hm; omega
  | some y =>
    obtain ⟨g1, _, g3⟩ := best_some e
    have h1 := hl y (best_mem e) g1
    have h2 := g3 x hm hw
    have e2 : x.2 = y.2 := by omega
    have h3 := hf y (best_mem e) e2.symm
    have h4 := best_first hs e x hm e2
    have e1 : x.1 = y.1 := by omega
    rw [Prod.ext e1 e2]

/-! ### one that comes back -/
def pbk : Nat → List Pc → Int → Int → List Pc × Pc
  | 0, L, a, s => (L, (a, s))
  | n + 1, L, a, s => if (twin a s, s) ∈ L then pbk n (L.erase (twin a s, s)) (min a (twin a s)) (s * 2) else (L, (a, s))
def pb (L : List Pc) (a s : Int) : List Pc × Pc := pbk L.length L a s
theorem pb_in {L : List Pc} {a s : Int} (h : (twin a s, s) ∈ L) : pb L a s = pb (L.erase (twin a s, s)) (min a (twin a s)) (s * 2) := by
  have e := List.length_erase_of_mem h
  have hl := List.length_pos_of_mem h
  obtain ⟨n, hn⟩ : ∃ n, L.length = n + 1 := ⟨L.length - 1, by omega⟩
  unfold pb
  rw [e, hn]
  show (if (twin a s, s) ∈ L then _ else _) = _
  rw [if_pos h]
  rfl
theorem pb_out {L : List Pc} {a s : Int} (h : (twin a s, s) ∉ L) : pb L a s = (L, (a, s)) := by
  unfold pb
  cases L.length with
  | zero => rfl
  | succ n =>
    show (if (twin a s, s) ∈ L then _ else _) = _
    rw [if_neg h]

def mk {k : Nat} (l r : T k) : T (k + 1) := if isFree l = true ∧ isFree r = true then .free else .node l r
theorem mk_can {k : Nat} {l r : T k} (hl : Can l) (hr : Can r) : Can (mk l r) := by
  unfold mk
  by_cases c : isFree l = true ∧ isFree r = true
  · rw [if_pos c]; trivial
  · rw [if_neg c]; exact ⟨hl, hr, c⟩
theorem mk_outs {k : Nat} (l r : T k) (b : Int) : outs (mk l r) b = outs l b ++ outs r (b + pw k) := by
  unfold mk
  by_cases c : isFree l = true ∧ isFree r = true
  · rw [if_pos c, free_of_isFree c.1, free_of_isFree c.2]
    rfl
  · rw [if_neg c]; rfl
/-- the piece at a is free again -/
def back : {k : Nat} → T k → Int → Int → T k
  | _, .free, _, _ => .free
  | _, .out, _, _ => .free
  | k + 1, .node l r, b, a => if a < b + pw k then mk (back l b a) r else mk l (back r (b + pw k) a)
theorem back_can : ∀ {k : Nat} (t : T k) (b a : Int), Can t → Can (back t b a)
  | _, .free, _, _, _ => trivial
  | _, .out, _, _, _ => trivial
  | k + 1, .node l r, b, a, h => by
    show Can (if a < b + pw k then mk (back l b a) r else mk l (back r (b + pw k) a))
    by_cases c : a < b + pw k
    · rw [if_pos c]; exact mk_can (back_can l b a h.1) h.2.1
    · rw [if_neg c]; exact mk_can h.1 (back_can r _ a h.2.1)
theorem back_outs : ∀ {k : Nat} (t : T k) {b a s : Int}, pw k ∣ b → (a, s) ∈ outs t b → (outs t b).Perm ((a, s) :: outs (back t b a) b)
  | _, .free, b, a, s, _, h => by cases h
  | _, .out, b, a, s, _, h => by
    rw [List.mem_singleton.mp h]
    exact List.Perm.refl _
  | k + 1, .node l r, b, a, s, hb, h => by
    show (outs l b ++ outs r (b + pw k)).Perm ((a, s) :: outs (if a < b + pw k then mk (back l b a) r else mk l (back r (b + pw k) a)) b)
    rcases List.mem_append.mp h with q | q
    · have i := in_outs l (dvd_left hb) q
      have p := i.pos
      have i2 := i.2.1
      simp only at i2 p
      rw [if_pos (by omega), mk_outs]
      exact (back_outs l (dvd_left hb) q).append_right _
    · have i := (in_outs r (dvd_right hb) q).1
      simp only at i
      rw [if_neg (by omega), mk_outs]
      refine (List.Perm.append_left _ (back_outs r (dvd_right hb) q)).trans ?_
      exact List.perm_middle
/-- what the joining comes to: the sub-tree as a whole became free, and goes on, or it stops within it -/
theorem pb_back : ∀ {k : Nat} (t : T k) {b a : Int} {j : Nat} {F O : List Pc}, Can t → pw k ∣ b → (a, pw j) ∈ outs t b → (∀ p ∈ O, p.1 < b ∨ b + pw k ≤ p.1) → F.Perm (frees t b ++ O) →
    (isFree (back t b a) = true ∧ ∃ F', F'.Perm O ∧ pb F a (pw j) = pb F' b (pw k)) ∨
    (isFree (back t b a) = false ∧ ((pb F a (pw j)).2 :: (pb F a (pw j)).1).Perm (frees (back t b a) b ++ O))
  | _, .free, b, a, j, F, O, _, _, h, _, _ => by cases h
  | k, .out, b, a, j, F, O, _, _, h, _, hF => by
    have e := List.mem_singleton.mp h
    have e1 : a = b := congrArg Prod.fst e
    have e2 : pw j = pw k := congrArg Prod.snd e
    rw [e1, e2]
    exact .inl ⟨rfl, F, hF, rfl⟩
  | k + 1, .node l r, b, a, j, F, O, hc, hb, h, hO, hF => by
    have hF' : F.Perm (frees l b ++ frees r (b + pw k) ++ O) := hF
    have pk := pw_pos k
    have pk1 : pw (k + 1) = 2 * pw k := pw_succ k
    have eback : back (.node l r) b a = if a < b + pw k then mk (back l b a) r else mk l (back r (b + pw k) a) := rfl
    rcases List.mem_append.mp h with q | q
    · have i := in_outs l (dvd_left hb) q
      have p := i.pos
      have i2 := i.2.1
      simp only at i2 p
      rw [eback, if_pos (by omega)]
      have hO' : ∀ p ∈ frees r (b + pw k) ++ O, p.1 < b ∨ b + pw k ≤ p.1 := by
        intro p hp
        rcases List.mem_append.mp hp with hp | hp
        · exact .inr (in_frees r (dvd_right hb) hp).1
        · have := hO p hp
          omega
      rcases pb_back l (F := F) (O := frees r (b + pw k) ++ O) hc.1 (dvd_left hb) q hO' (by rw [← List.append_assoc]; exact hF') with ⟨g, F', hP, e⟩ | ⟨g, hP⟩
      · -- the lower half is free as a whole
        rw [e]
        by_cases c : isFree r = true
        · left
          have em : mk (back l b a) r = .free := by unfold mk; rw [if_pos ⟨g, c⟩]
          rw [em]
          refine ⟨rfl, F'.erase (b + pw k, pw k), ?_, ?_⟩
          · have er := free_of_isFree c
            rw [er] at hP
            have h1 := hP.erase (b + pw k, pw k)
            have e3 : (frees (.free : T k) (b + pw k) ++ O).erase (b + pw k, pw k) = O := by
              show ((b + pw k, pw k) :: O).erase (b + pw k, pw k) = O
              exact List.erase_cons_head _ _
            rw [e3] at h1
            exact h1
          · have et := twin_left hb
            have hm : (twin b (pw k), pw k) ∈ F' := by
              rw [et]
              exact hP.mem_iff.mpr (List.mem_append_left _ (free_mem c))
            rw [pb_in hm, et, pk1, Int.mul_comm 2 (pw k)]
            rw [show min b (b + pw k) = b by omega]
        · right
          have em : mk (back l b a) r = .node (back l b a) r := by unfold mk; rw [if_neg (fun z => c z.2)]
          rw [em]
          refine ⟨rfl, ?_⟩
          have et := twin_left hb
          have hm : (twin b (pw k), pw k) ∉ F' := by
            rw [et]
            intro z
            rcases List.mem_append.mp (hP.mem_iff.mp z) with z | z
            · exact c (top_free (dvd_right hb) z)
            · have := hO _ z
              simp only at this
              omega
          rw [pb_out hm]
          show ((b, pw k) :: F').Perm ((frees (back l b a) b ++ frees r (b + pw k)) ++ O)
          rw [free_of_isFree g]
          show ((b, pw k) :: F').Perm ((b, pw k) :: frees r (b + pw k) ++ O)
          exact hP.cons _
      · right
        have em : mk (back l b a) r = .node (back l b a) r := by unfold mk; rw [if_neg (fun z => by rw [g] at z; cases z.1)]
        rw [em]
        refine ⟨rfl, ?_⟩
        show (_ : List Pc).Perm ((frees (back l b a) b ++ frees r (b + pw k)) ++ O)
        rw [List.append_assoc]
        exact hP
    · have i := (in_outs r (dvd_right hb) q).1
      simp only at i
      rw [eback, if_neg (by omega)]
      have hO' : ∀ p ∈ frees l b ++ O, p.1 < b + pw k ∨ b + pw k + pw k ≤ p.1 := by
        intro p hp
        rcases List.mem_append.mp hp with hp | hp
        · have i := in_frees l (dvd_left hb) hp
          have := i.pos
          have := i.2.1
          omega
        · have := hO p hp
          omega
      have hF2 : F.Perm (frees r (b + pw k) ++ (frees l b ++ O)) := by
        refine hF'.trans ?_
        rw [← List.append_assoc]
        exact List.Perm.append_right _ List.perm_append_comm
      rcases pb_back r (F := F) (O := frees l b ++ O) hc.2.1 (dvd_right hb) q hO' hF2 with ⟨g, F', hP, e⟩ | ⟨g, hP⟩
      · rw [e]
        by_cases c : isFree l = true
        · left
          have em : mk l (back r (b + pw k) a) = .free := by unfold mk; rw [if_pos ⟨c, g⟩]
          rw [em]
          refine ⟨rfl, F'.erase (b, pw k), ?_, ?_⟩
          · have er := free_of_isFree c
            rw [er] at hP
            have h1 := hP.erase (b, pw k)
            have e3 : (frees (.free : T k) b ++ O).erase (b, pw k) = O := by
              show ((b, pw k) :: O).erase (b, pw k) = O
              exact List.erase_cons_head _ _
            rw [e3] at h1
            exact h1
          · have et := twin_right hb
            have hm : (twin (b + pw k) (pw k), pw k) ∈ F' := by
              rw [et]
              exact hP.mem_iff.mpr (List.mem_append_left _ (free_mem c))
            rw [pb_in hm, et, pk1, Int.mul_comm 2 (pw k)]
            rw [show min (b + pw k) b = b by omega]
        · right
          have em : mk l (back r (b + pw k) a) = .node l (back r (b + pw k) a) := by unfold mk; rw [if_neg (fun z => c z.1)]
          rw [em]
          refine ⟨rfl, ?_⟩
          have et := twin_right hb
          have hm : (twin (b + pw k) (pw k), pw k) ∉ F' := by
            rw [et]
            intro z
            rcases List.mem_append.mp (hP.mem_iff.mp z) with z | z
            · exact c (top_free (dvd_left hb) z)
            · have := hO _ z
              simp only at this
              omega
          rw [pb_out hm]
          show ((b + pw k, pw k) :: F').Perm ((frees l b ++ frees (back r (b + pw k) a) (b + pw k)) ++ O)
          rw [free_of_isFree g]
          show ((b + pw k, pw k) :: F').Perm ((frees l b ++ [(b + pw k, pw k)]) ++ O)
          refine (hP.cons _).trans ?_
          rw [List.append_assoc]
          exact List.perm_middle.symm
      · right
        have em : mk l (back r (b + pw k) a) = .node l (back r (b + pw k) a) := by unfold mk; rw [if_neg (fun z => by rw [g] at z; cases z.2)]
        rw [em]
        refine ⟨rfl, ?_⟩
        show (_ : List Pc).Perm ((frees l b ++ frees (back r (b + pw k) a) (b + pw k)) ++ O)
        refine hP.trans ?_
        rw [← List.append_assoc]
        exact List.Perm.append_right _ List.perm_append_comm
end Bud

set_option linter.all false
namespace Bud

theorem perm_srt {l m : List Pc} (h : l.Perm m) (hl : Srt l) (hm : Srt m) : l = m := srt_uniq hl hm h
theorem zdvd (k : Nat) : pw k ∣ 0 := Int.dvd_zero _
/-- the whole yard, all free, has one piece -/
theorem frees_free (k : Nat) (b : Int) : frees (.free : T k) b = [(b, pw k)] := rfl

/-! ### give -/
/-- the free pieces but one -/
def without (L : List Pc) (p : Pc) : List Pc := L.filter fun q => decide (q ≠ p)
theorem without_mid {A B : List Pc} {p : Pc} (h : (A ++ p :: B).Nodup) : without (A ++ p :: B) p = A ++ B := by
  have ⟨h1, h2, h3⟩ := List.nodup_append.mp h
  have ⟨h4, h5⟩ := List.nodup_cons.mp h2
  unfold without
  rw [List.filter_append, List.filter_cons_of_neg (by simp)]
  congr 1
  · refine List.filter_eq_self.mpr fun q hq => ?_
    exact decide_eq_true (h3 q hq p List.mem_cons_self)
  · refine List.filter_eq_self.mpr fun q hq => ?_
    refine decide_eq_true fun e => ?_
    rw [e] at hq
    exact h4 hq
theorem nodup_of_fst {l : List Pc} (h : (l.map (·.1)).Nodup) : l.Nodup := by
  have h' : (l.map (·.1)).Pairwise (· ≠ ·) := h
  rw [List.pairwise_map] at h'
  exact h'.imp fun {a b} hab e => hab (by rw [e])
theorem nodup_frees {k : Nat} (t : T k) {b : Int} (h : pw k ∣ b) : (frees t b).Nodup := nodup_of_fst (nodup_fst_of_ahead (ahead_frees t h) fun p hp => (in_frees t h hp).pos)
theorem nodup_outs {k : Nat} (t : T k) {b : Int} (h : pw k ∣ b) : (outs t b).Nodup := nodup_of_fst (nodup_fst_of_ahead (ahead_outs t h) fun p hp => (in_outs t h hp).pos)

theorem give_tree {k : Nat} {t : T k} {b a : Int} {m j : Nat} (hc : Can t) (hb : pw k ∣ b) (h : (a, pw m) ∈ frees t b) (hj : j ≤ m) :
    ∃ t' : T k, Can t' ∧ isFree t' = false ∧ (frees t' b).Perm (without (frees t b) (a, pw m) ++ ups a j (m - j)) ∧ (outs t' b).Perm ((a, pw j) :: outs t b) := by
  obtain ⟨d, rfl⟩ := Nat.exists_eq_add_of_le hj
  have hat := at_free t h
  obtain ⟨t', c', f', L, R, L', R', e1, e2, e3, e4⟩ := hat.put hc (spine j d) (spine_can j d).1 (spine_can j d).2
  rw [frees_free] at e1
  rw [spine_frees] at e2
  rw [spine_outs] at e4
  have e3' : outs t b = L' ++ R' := by rw [e3]; show L' ++ [] ++ R' = _; simp
  have nd := nodup_frees t hb
  have e1' : frees t b = L ++ (a, pw (j + d)) :: R := by rw [e1]; simp
  rw [e1'] at nd
  have ew : without (frees t b) (a, pw (j + d)) = L ++ R := by rw [e1', without_mid nd]
  refine ⟨t', c', f', ?_, ?_⟩
  · rw [ew, e2, Nat.add_sub_cancel_left, List.append_assoc, List.append_assoc]
    exact List.Perm.append_left _ List.perm_append_comm
  · rw [e4, e3', List.append_assoc]
    exact List.perm_middle

/-! ### back -/
theorem back_tree {k : Nat} {t : T k} {a : Int} {j : Nat} (hc : Can t) (h : (a, pw j) ∈ outs t 0) :
    (frees (back t 0 a) 0).Perm ((pb (frees t 0) a (pw j)).2 :: (pb (frees t 0) a (pw j)).1) := by
  rcases pb_back t (F := frees t 0) (O := []) hc (zdvd k) h (fun p hp => by cases hp) (by rw [List.append_nil]) with ⟨g, F', hP, e⟩ | ⟨g, hP⟩
  · have : F' = [] := hP.eq_nil
    subst this
    rw [e, free_of_isFree g]
    exact List.Perm.refl _
  · rw [List.append_nil] at hP
    exact hP.symm
/-- of the joined ones all are within the yard's sizes -/
theorem pb_mem {k : Nat} {t : T k} {a : Int} {j : Nat} (hc : Can t) (h : (a, pw j) ∈ outs t 0) : ∀ p ∈ (pb (frees t 0) a (pw j)).2 :: (pb (frees t 0) a (pw j)).1, In k 0 p := fun p hp =>
  in_frees (back t 0 a) (zdvd k) ((back_tree hc h).mem_iff.mpr hp)

/-! ### smaller -/
theorem shrink_tree {k : Nat} {t : T k} {b a : Int} {m j : Nat} (hc : Can t) (hb : pw k ∣ b) (h : (a, pw m) ∈ outs t b) (hj : j ≤ m) :
    ∃ t' : T k, Can t' ∧ (frees t' b).Perm (frees t b ++ ups a j (m - j)) ∧ (outs t' b).Perm ((a, pw j) :: (outs t b).erase (a, pw m)) := by
  obtain ⟨d, rfl⟩ := Nat.exists_eq_add_of_le hj
  have hat := at_out t h
  obtain ⟨t', c', f', L, R, L', R', e1, e2, e3, e4⟩ := hat.put hc (spine j d) (spine_can j d).1 (spine_can j d).2
  rw [spine_frees] at e2
  rw [spine_outs] at e4
  have e1' : frees t b = L ++ R := by rw [e1]; show L ++ [] ++ R = _; simp
  have e3' : outs t b = L' ++ (a, pw (j + d)) :: R' := by rw [e3]; show L' ++ [(a, pw (j + d))] ++ R' = _; simp
  have nd := nodup_outs t hb
  have hm : (outs t b).Perm ((a, pw (j + d)) :: (L' ++ R')) := by rw [e3']; exact List.perm_middle
  have he := hm.erase (a, pw (j + d))
  rw [List.erase_cons_head] at he
  refine ⟨t', c', ?_, ?_⟩
  · rw [e1', e2, Nat.add_sub_cancel_left, List.append_assoc, List.append_assoc]
    exact List.Perm.append_left _ List.perm_append_comm
  · rw [e4, List.append_assoc]
    exact List.perm_middle.trans (List.Perm.cons _ he.symm)

/-! ### larger -/
def grw : Nat → List Pc → Int → Nat → Option (List Pc)
  | 0, L, _, _ => some L
  | d + 1, L, a, j => if twin a (pw j) = a + pw j ∧ (a + pw j, pw j) ∈ L then grw d (L.erase (a + pw j, pw j)) a (j + 1) else none
theorem ups_cons (a : Int) (j : Nat) : ∀ d, ups a j (d + 1) = (a + pw j, pw j) :: ups a (j + 1) d
  | 0 => rfl
  | d + 1 => by
    show ups a j (d + 1) ++ [(a + pw (j + (d + 1)), pw (j + (d + 1)))] = _
    rw [ups_cons a j d]
    show (a + pw j, pw j) :: (ups a (j + 1) d ++ [(a + pw (j + (d + 1)), pw (j + (d + 1)))]) = (a + pw j, pw j) :: (ups a (j + 1) d ++ [(a + pw (j + 1 + d), pw (j + 1 + d))])
    rw [show j + (d + 1) = j + 1 + d by omega]
theorem grw_some : ∀ (d : Nat) {L : List Pc} {a : Int} {j : Nat}, (∀ i, i < d → twin a (pw (j + i)) = a + pw (j + i) ∧ (a + pw (j + i), pw (j + i)) ∈ L) →
    ∃ L', grw d L a j = some L' ∧ L.Perm (ups a j d ++ L') ∧ L'.Sublist L
  | 0, L, a, j, _ => ⟨L, rfl, List.Perm.refl _, List.Sublist.refl _⟩
  | d + 1, L, a, j, h => by
    have h0 := h 0 (Nat.succ_pos _)
    rw [Nat.add_zero] at h0
    have h' : ∀ i, i < d → twin a (pw (j + 1 + i)) = a + pw (j + 1 + i) ∧ (a + pw (j + 1 + i), pw (j + 1 + i)) ∈ L.erase (a + pw j, pw j) := by
      intro i hi
      have g := h (i + 1) (Nat.succ_lt_succ hi)
      have e : j + (i + 1) = j + 1 + i := by omega
      rw [e] at g
      refine ⟨g.1, ?_⟩
      refine (List.mem_erase_of_ne ?_).mpr g.2
      intro z
      have := pw_inj (congrArg Prod.snd z : pw (j + 1 + i) = pw j)
      omega
    obtain ⟨L', e1, e2, e3⟩ := grw_some d h'
    refine ⟨L', ?_, ?_, e3.trans List.erase_sublist⟩
    · show (if _ then _ else _) = _
      rw [if_pos h0]
      exact e1
    · rw [ups_cons]
      exact (List.perm_cons_erase h0.2).trans (List.Perm.cons _ e2)
theorem grw_none : ∀ (d : Nat) {L : List Pc} {a : Int} {j : Nat}, grw d L a j = none → ∃ i, i < d ∧ ¬ (twin a (pw (j + i)) = a + pw (j + i) ∧ (a + pw (j + i), pw (j + i)) ∈ L)
  | 0, L, a, j, h => by cases h
  | d + 1, L, a, j, h => by
    have h' : (if twin a (pw j) = a + pw j ∧ (a + pw j, pw j) ∈ L then grw d (L.erase (a + pw j, pw j)) a (j + 1) else none) = none := h
    by_cases c : twin a (pw j) = a + pw j ∧ (a + pw j, pw j) ∈ L
    · rw [if_pos c] at h'
      obtain ⟨i, hi, g⟩ := grw_none d h'
      refine ⟨i + 1, Nat.succ_lt_succ hi, fun z => g ?_⟩
      have e : j + (i + 1) = j + 1 + i := by omega
      rw [e] at z
      refine ⟨z.1, (List.mem_erase_of_ne ?_).mpr z.2⟩
      intro q
      have := pw_inj (congrArg Prod.snd q : pw (j + 1 + i) = pw j)
      omega
    · exact ⟨0, Nat.succ_pos _, by rw [Nat.add_zero]; exact c⟩
/-- room for a larger piece where it stands -/
def Fits {k : Nat} (t : T k) (b a : Int) (j m : Nat) : Prop := pw m ∣ a ∧ a + pw m ≤ b + pw k ∧ ∀ p ∈ outs t b, p ≠ (a, pw j) → ¬ (p.1 < a + pw m ∧ a < p.1 + p.2)
theorem all_eq_one {l : List Pc} {p : Pc} (hn : l.Nodup) (hp : p ∈ l) (h : ∀ q ∈ l, q = p) : l = [p] := by
  cases l with
  | nil => cases hp
  | cons x l =>
    have ex := h x List.mem_cons_self
    subst ex
    cases l with
    | nil => rfl
    | cons y l =>
      have ey := h y (List.mem_cons_of_mem _ List.mem_cons_self)
      rw [ey] at hn
      exact absurd List.mem_cons_self (List.nodup_cons.mp hn).1
theorem fits_at : ∀ {k : Nat} (t : T k) {b a : Int} {j d : Nat}, Can t → pw k ∣ b → 0 < d → (a, pw j) ∈ outs t b → j + d ≤ k → Fits t b a j (j + d) → At t b (spine j d) a
  | _, .free, b, a, j, d, _, _, _, h, _, _ => by cases h
  | k, .out, b, a, j, d, _, _, hd, h, hk, _ => by
    have e := List.mem_singleton.mp h
    have := pw_inj (congrArg Prod.snd e : pw j = pw k)
    omega
  | k + 1, .node l r, b, a, j, d, hc, hb, hd, h, hk, ⟨f1, f2, f3⟩ => by
    have pk := pw_pos k
    have pk1 := pw_succ k
    rcases Nat.lt_or_ge k (j + d) with q | q
    · -- the whole
      have ed : j + d = k + 1 := by omega
      have i := in_outs (.node l r) hb h
      have i1 := i.1
      simp only at i1
      rw [ed] at f2
      have ea : a = b := by omega
      subst ea
      have hone : outs (.node l r) a = [(a, pw j)] := by
        refine all_eq_one (nodup_outs _ hb) h fun p hp => ?_
        refine Classical.byContradiction fun np => f3 p hp np ?_
        have i := in_outs (.node l r) hb hp
        have p0 := i.pos
        have i1 := i.1
        have i2 := i.2.1
        rw [ed]
        omega
      obtain ⟨d', e, et⟩ := spine_of (.node l r) hc hb hone
      have e2 : d' = d := by omega
      subst e2
      have key : ∀ (n : Nat) (t : T n) (e : j + d' = n), t = e ▸ spine j d' → At t a (spine j d') a := by
        intro n t e et
        subst e
        rw [et]
        exact .here _ _
      exact key _ _ e et
    · have hdv : pw (j + d) ∣ pw k := pw_dvd q
      rcases List.mem_append.mp h with g | g
      · refine .left (fits_at l hc.1 (dvd_left hb) hd g q ⟨f1, ?_, fun p hp => f3 p (List.mem_append_left _ hp)⟩)
        have i := in_outs l (dvd_left hb) g
        have p0 := i.pos
        have i2 := i.2.1
        simp only at i2 p0
        exact mul_gap (pw_pos _) f1 (Int.dvd_trans hdv (dvd_right hb)) (by omega)
      · refine .right (fits_at r hc.2.1 (dvd_right hb) hd g q ⟨f1, ?_, fun p hp => f3 p (List.mem_append_right _ hp)⟩)
        omega
theorem fits_ups {k : Nat} {t : T k} {b a : Int} {j d : Nat} (hc : Can t) (hb : pw k ∣ b) (hd : 0 < d) (h : (a, pw j) ∈ outs t b) (hk : j + d ≤ k) (hf : Fits t b a j (j + d)) :
    ∀ i, i < d → twin a (pw (j + i)) = a + pw (j + i) ∧ (a + pw (j + i), pw (j + i)) ∈ frees t b := by
  intro i hi
  have hat := fits_at t hc hb hd h hk hf
  obtain ⟨t', c', f', L, R, L', R', e1, e2, e3, e4⟩ := hat.put hc (.out) trivial rfl
  refine ⟨twin_left (Int.dvd_trans (pw_dvd (by omega)) hf.1), ?_⟩
  rw [e1, spine_frees]
  exact List.mem_append_left _ (List.mem_append_right _ (mem_ups.mpr ⟨i, hi, rfl⟩))
theorem ups_fits {k : Nat} {t : T k} {b a : Int} {j d : Nat} (hb : pw k ∣ b) (hd : 0 < d) (h : (a, pw j) ∈ outs t b)
    (hu : ∀ i, i < d → twin a (pw (j + i)) = a + pw (j + i) ∧ (a + pw (j + i), pw (j + i)) ∈ frees t b) : Fits t b a j (j + d) := by
  have ia := in_outs t hb h
  have hdiv : ∀ i, i ≤ d → pw (j + i) ∣ a := by
    intro i
    induction i with
    | zero =>
      intro _
      obtain ⟨_, _, j', _, e, g⟩ := ia
      have := pw_inj (show pw j = pw j' from e)
      subst this
      exact g
    | succ i ih =>
      intro hi
      exact (twin_eq_iff (ih (by omega))).mp (hu i (by omega)).1
  refine ⟨hdiv d (Nat.le_refl _), ?_, fun p hp np hx => ?_⟩
  · obtain ⟨e, rfl⟩ : ∃ e, d = e + 1 := ⟨d - 1, by omega⟩
    have g := (in_frees t hb (hu e (by omega)).2).2.1
    simp only at g
    have := pw_succ (j + e)
    rw [show j + (e + 1) = j + e + 1 by omega]
    omega
  · have ip := in_outs t hb hp
    have p0 := ip.pos
    have hne : p.1 + p.2 ≤ a ∨ a + pw j ≤ p.1 := by
      have hap := ahead_outs t hb
      have key : ∀ {l : List Pc}, l.Pairwise Ahead → ∀ x ∈ l, ∀ y ∈ l, x ≠ y → Ahead x y ∨ Ahead y x := by
        intro l hl
        induction l with
        | nil => intro x hx; cases hx
        | cons z l ih =>
          have ⟨h1, h2⟩ := List.pairwise_cons.mp hl
          intro x hx y hy ne
          rcases List.mem_cons.mp hx with rfl | hx1
          · rcases List.mem_cons.mp hy with rfl | hy1
            · exact absurd rfl ne
            · exact .inl (h1 y hy1)
          · rcases List.mem_cons.mp hy with rfl | hy1
            · exact .inr (h1 x hx1)
            · exact ih h2 x hx1 y hy1 ne
      have := key hap p hp (a, pw j) h np
      unfold Ahead at this
      simp only at this
      exact this
    have step : ∀ i, i ≤ d → a + pw (j + i) ≤ p.1 := by
      intro i
      induction i with
      | zero => intro _; rw [Nat.add_zero]; omega
      | succ i ih =>
        intro hi
        have g := ih (by omega)
        have := apart t hb p hp _ (hu i (by omega)).2
        unfold Ahead at this
        simp only at this
        have := pw_succ (j + i)
        rw [show j + (i + 1) = j + i + 1 by omega]
        omega
    have := step d (Nat.le_refl _)
    omega
theorem grow_tree {k : Nat} {t : T k} {b a : Int} {j d : Nat} (hc : Can t) (hb : pw k ∣ b) (hd : 0 < d) (h : (a, pw j) ∈ outs t b) (hk : j + d ≤ k) :
    (Fits t b a j (j + d) ∧ ∃ t' : T k, Can t' ∧ grw d (frees t b) a j = some (frees t' b) ∧ (outs t' b).Perm ((a, pw (j + d)) :: (outs t b).erase (a, pw j))) ∨
    (¬ Fits t b a j (j + d) ∧ grw d (frees t b) a j = none) := by
  by_cases c : Fits t b a j (j + d)
  · left
    refine ⟨c, ?_⟩
    have hat := fits_at t hc hb hd h hk c
    obtain ⟨t', c', f', L, R, L', R', e1, e2, e3, e4⟩ := hat.put hc (.out) trivial rfl
    obtain ⟨G, g1, g2, g3⟩ := grw_some d (fits_ups hc hb hd h hk c)
    have eG : G = frees t' b := by
      refine srt_uniq ((srt_frees t hb).sublist g3) (srt_frees t' hb) ?_
      have e2' : frees t' b = L ++ R := by rw [e2]; show L ++ [] ++ R = _; simp
      rw [e2']
      rw [e1, spine_frees] at g2
      have g4 : (ups a j d ++ G).Perm (ups a j d ++ (L ++ R)) := by
        refine g2.symm.trans ?_
        rw [← List.append_assoc]
        exact List.Perm.append_right _ List.perm_append_comm
      exact (List.perm_append_left_iff _).mp g4
    refine ⟨t', c', by rw [g1, eG], ?_⟩
    have e4' : outs t' b = L' ++ (a, pw (j + d)) :: R' := by rw [e4]; show L' ++ [(a, pw (j + d))] ++ R' = _; simp
    have e3' : outs t b = L' ++ (a, pw j) :: R' := by rw [e3, spine_outs]; simp
    have hm : (outs t b).Perm ((a, pw j) :: (L' ++ R')) := by rw [e3']; exact List.perm_middle
    have he := hm.erase (a, pw j)
    rw [List.erase_cons_head] at he
    rw [e4']
    exact List.perm_middle.trans (List.Perm.cons _ he.symm)
  · right
    refine ⟨c, ?_⟩
    cases e : grw d (frees t b) a j with
    | none => rfl
    | some G =>
      exfalso
      refine c (ups_fits hb hd h fun i hi => ?_)
      have hall : ∀ (d : Nat) (L : List Pc) (j : Nat) (G : List Pc), grw d L a j = some G → ∀ i, i < d → twin a (pw (j + i)) = a + pw (j + i) ∧ (a + pw (j + i), pw (j + i)) ∈ L := by
        intro d
        induction d with
        | zero => intro L j G _ i hi; exact absurd hi (Nat.not_lt_zero i)
        | succ d ih =>
          intro L j G e i hi
          have e' : (if twin a (pw j) = a + pw j ∧ (a + pw j, pw j) ∈ L then grw d (L.erase (a + pw j, pw j)) a (j + 1) else none) = some G := e
          by_cases c : twin a (pw j) = a + pw j ∧ (a + pw j, pw j) ∈ L
          · rw [if_pos c] at e'
            cases i with
            | zero => rw [Nat.add_zero]; exact c
            | succ i =>
              have g := ih _ _ _ e' i (by omega)
              rw [show j + (i + 1) = j + 1 + i by omega]
              exact ⟨g.1, List.mem_of_mem_erase g.2⟩
          · rw [if_neg c] at e'
            cases e'
      exact hall d _ j G e i hi

/-! ### a tree is told by what is out -/
theorem outs_uniq : ∀ {k : Nat} (t u : T k) {b : Int}, Can t → Can u → pw k ∣ b → outs t b = outs u b → t = u
  | k, .free, u, b, _, hu, _, h => (free_of_isFree (free_of_noOuts u b hu h.symm)).symm
  | k, t, .free, b, ht, _, _, h => free_of_isFree (free_of_noOuts t b ht h)
  | k, .out, .out, b, _, _, _, _ => rfl
  | k + 1, .out, .node l r, b, _, _, hb, h => by
    exfalso
    have h' : [((b, pw (k + 1)) : Pc)] = outs l b ++ outs r (b + pw k) := h
    have m : ((b, pw (k + 1)) : Pc) ∈ outs l b ++ outs r (b + pw k) := by rw [← h']; exact List.mem_singleton.mpr rfl
    rcases List.mem_append.mp m with g | g
    · obtain ⟨i, hi, e, _⟩ := (in_outs l (dvd_left hb) g).2.2
      have := pw_inj e
      omega
    · obtain ⟨i, hi, e, _⟩ := (in_outs r (dvd_right hb) g).2.2
      have := pw_inj e
      omega
  | k + 1, .node l r, .out, b, _, _, hb, h => by
    exfalso
    have h' : outs l b ++ outs r (b + pw k) = [((b, pw (k + 1)) : Pc)] := h
    have m : ((b, pw (k + 1)) : Pc) ∈ outs l b ++ outs r (b + pw k) := by rw [h']; exact List.mem_singleton.mpr rfl
    rcases List.mem_append.mp m with g | g
    · obtain ⟨i, hi, e, _⟩ := (in_outs l (dvd_left hb) g).2.2
      have := pw_inj e
      omega
    · obtain ⟨i, hi, e, _⟩ := (in_outs r (dvd_right hb) g).2.2
      have := pw_inj e
      omega
  | k + 1, .node l r, .node l' r', b, ht, hu, hb, h => by
    have h' : outs l b ++ outs r (b + pw k) = outs l' b ++ outs r' (b + pw k) := h
    have fl : ∀ (x y : T k), (outs x b ++ outs y (b + pw k)).filter (fun p => decide (p.1 < b + pw k)) = outs x b := by
      intro x y
      rw [List.filter_append]
      have h1 : (outs x b).filter (fun p => decide (p.1 < b + pw k)) = outs x b := List.filter_eq_self.mpr fun p hp => by
        have i := in_outs x (dvd_left hb) hp
        have := i.pos
        have := i.2.1
        exact decide_eq_true (by omega)
      have h2 : (outs y (b + pw k)).filter (fun p => decide (p.1 < b + pw k)) = [] := List.filter_eq_nil_iff.mpr fun p hp => by
        have i := (in_outs y (dvd_right hb) hp).1
        simp only [decide_eq_true_eq]
        omega
      rw [h1, h2, List.append_nil]
    have e1 : outs l b = outs l' b := by rw [← fl l r, ← fl l' r', h']
    have e2 : outs r (b + pw k) = outs r' (b + pw k) := by
      rw [e1] at h'
      exact List.append_cancel_left h'
    rw [outs_uniq l l' ht.1 hu.1 (dvd_left hb) e1, outs_uniq r r' ht.2.1 hu.2.1 (dvd_right hb) e2]
theorem tree_uniq {k : Nat} {t u : T k} (ht : Can t) (hu : Can u) (h : (outs t 0).Perm (outs u 0)) : t = u :=
  outs_uniq t u ht hu (zdvd k) (srt_uniq (srt_outs t (zdvd k)) (srt_outs u (zdvd k)) h)
end Bud
namespace Bud
/-- there are not many more free pieces than pieces that are out -/
theorem frees_few : ∀ {k : Nat} (t : T k) (b : Int), Can t → (frees t b).length ≤ k * (outs t b).length + 1 ∧ (isFree t = false → (frees t b).length ≤ k * (outs t b).length)
  | k, .free, b, _ => ⟨by show 1 ≤ _; omega, fun h => by cases h⟩
  | k, .out, b, _ => ⟨Nat.zero_le _, fun _ => Nat.zero_le _⟩
  | k + 1, .node l r, b, h => by
    obtain ⟨l1, l2⟩ := frees_few l b h.1
    obtain ⟨r1, r2⟩ := frees_few r (b + pw k) h.2.1
    have key : (frees l b ++ frees r (b + pw k)).length ≤ (k + 1) * (outs l b ++ outs r (b + pw k)).length := by
      rw [List.length_append, List.length_append]
      generalize hfl : (frees l b).length = fl at *
      generalize hfr : (frees r (b + pw k)).length = fr at *
      generalize hol : (outs l b).length = ol at *
      generalize hor : (outs r (b + pw k)).length = or at *
      have e : (k + 1) * (ol + or) = k * ol + k * or + ol + or := by rw [Nat.add_mul, Nat.one_mul, Nat.mul_add]; omega
      rw [e]
      cases hl : isFree l with
      | false =>
        have := l2 hl
        cases hr : isFree r with
        | false =>
          have := r2 hr
          omega
        | true =>
          have : 0 < ol := by
            rw [← hol]
            refine List.length_pos_iff.mpr fun q => ?_
            have := free_of_noOuts l b h.1 q
            rw [hl] at this
            cases this
          omega
      | true =>
        cases hr : isFree r with
        | true => exact absurd ⟨hl, hr⟩ h.2.2
        | false =>
          have := r2 hr
          have : 0 < or := by
            rw [← hor]
            refine List.length_pos_iff.mpr fun q => ?_
            have := free_of_noOuts r (b + pw k) h.2.1 q
            rw [hr] at this
            cases this
          omega
    exact ⟨Nat.le_succ_of_le key, fun _ => key⟩
/-- the free pieces where just one, at the lower end, is out -/
theorem spine_frees_of {k : Nat} {t : T k} {b : Int} {j : Nat} (hc : Can t) (hb : pw k ∣ b) (h : outs t b = [(b, pw j)]) : frees t b = ups b j (k - j) := by
  obtain ⟨d, e, et⟩ := spine_of t hc hb h
  subst e
  rw [et, Nat.add_sub_cancel_left]
  exact spine_frees j b d
theorem perm_one {p : Pc} {l : List Pc} (h : l.Perm [p]) : l = [p] := List.perm_singleton.mp h
theorem perm_one_nil {p : Pc} {l : List Pc} {q : Pc} (h : ([p] : List Pc).Perm (q :: l)) : q = p ∧ l = [] := by
  have e := List.perm_singleton.mp h.symm
  exact ⟨(List.cons.inj e).1, (List.cons.inj e).2⟩
theorem free_of_nil {k : Nat} {t : T k} (hc : Can t) (h : outs t 0 = []) : t = .free := free_of_isFree (free_of_noOuts t 0 hc h)
end Bud

set_option linter.all false
namespace Bud
/-! ### the cells of all pieces -/
def sizes (l : List Pc) : Int := (l.map (·.2)).sum
theorem sizes_nil : sizes [] = 0 := rfl
theorem sizes_cons (p : Pc) (l : List Pc) : sizes (p :: l) = p.2 + sizes l := by
  unfold sizes
  rw [List.map_cons, List.sum_cons]
theorem sizes_append (l m : List Pc) : sizes (l ++ m) = sizes l + sizes m := by
  induction l with
  | nil => rw [List.nil_append, sizes_nil, Int.zero_add]
  | cons p l ih => rw [List.cons_append, sizes_cons, sizes_cons, ih]; omega
theorem sizes_perm {l m : List Pc} (h : l.Perm m) : sizes l = sizes m := by
  induction h with
  | nil => rfl
  | cons x _ ih => rw [sizes_cons, sizes_cons, ih]
  | swap x y l => rw [sizes_cons, sizes_cons, sizes_cons, sizes_cons]; omega
  | trans _ _ h1 h2 => rw [h1, h2]
theorem sizes_all : ∀ {k : Nat} (t : T k) (b : Int), sizes (outs t b) + sizes (frees t b) = pw k
  | k, .free, b => by
    show sizes [] + sizes [(b, pw k)] = pw k
    rw [sizes_cons, sizes_nil]
    show 0 + (pw k + 0) = pw k
    omega
  | k, .out, b => by
    show sizes [(b, pw k)] + sizes [] = pw k
    rw [sizes_cons, sizes_nil]
    show pw k + 0 + 0 = pw k
    omega
  | k + 1, .node l r, b => by
    show sizes (outs l b ++ outs r (b + pw k)) + sizes (frees l b ++ frees r (b + pw k)) = pw (k + 1)
    rw [sizes_append, sizes_append, pw_succ]
    have h1 := sizes_all l b
    have h2 := sizes_all r (b + pw k)
    omega
theorem sizes_ones {l : List Pc} (h : ∀ p ∈ l, p.2 = 1) : sizes l = l.length := by
  induction l with
  | nil => rfl
  | cons p l ih =>
    rw [sizes_cons, ih fun q hq => h q (List.mem_cons_of_mem _ hq), h p List.mem_cons_self, List.length_cons]
    omega
/-- one cell more is free where fewer cells are out than there are -/
theorem best_one {k : Nat} {t : T k} (h : sizes (outs t 0) < pw k) : ∃ a S, bestOf (frees t 0) 1 = some (a, S) := by
  cases e : bestOf (frees t 0) 1 with
  | some p => exact ⟨p.1, p.2, rfl⟩
  | none =>
    exfalso
    have hn := best_none.mp e
    have hf : frees t 0 = [] := by
      cases ef : frees t 0 with
      | nil => rfl
      | cons p l =>
        have hm : p ∈ frees t 0 := by rw [ef]; exact List.mem_cons_self
        have h1 := hn p hm
        have h2 := (in_frees t (zdvd k) hm).pos
        omega
    have := sizes_all t 0
    rw [hf, sizes_nil] at this
    omega
/-! ### every second -/
def evens : List Pc → List Pc
  | [] => []
  | [p] => [p]
  | p :: _ :: l => p :: evens l
def odds : List Pc → List Pc
  | [] => []
  | [_] => []
  | _ :: q :: l => q :: odds l
theorem evens_odds : ∀ l : List Pc, l.Perm (evens l ++ odds l)
  | [] => List.Perm.refl _
  | [p] => List.Perm.refl _
  | p :: q :: l => by
    show (p :: q :: l).Perm (p :: (evens l ++ q :: odds l))
    refine List.Perm.cons _ ?_
    exact ((evens_odds l).cons q).trans List.perm_middle.symm
theorem odds_len : ∀ l : List Pc, (odds l).length = l.length / 2
  | [] => rfl
  | [p] => by show 0 = 1 / 2; decide
  | p :: q :: l => by
    show (odds l).length + 1 = (l.length + 2) / 2
    rw [odds_len l]
    omega
theorem odds_at : ∀ (l : List Pc) (i : Nat), (odds l)[i]? = l[2 * i + 1]?
  | [], i => by simp [odds]
  | [p], i => by simp [odds]
  | p :: q :: l, 0 => rfl
  | p :: q :: l, i + 1 => by
    show (odds l)[i]? = (p :: q :: l)[2 * (i + 1) + 1]?
    rw [odds_at l i, show 2 * (i + 1) + 1 = (2 * i + 1) + 1 + 1 by omega, List.getElem?_cons_succ, List.getElem?_cons_succ]
/-- those at even places among the first i -/
def evTo (l : List Pc) (i : Nat) : List Pc := evens (l.take i)
theorem evens_snoc : ∀ (l : List Pc) (p : Pc), evens (l ++ [p]) = evens l ++ (if l.length % 2 = 0 then [p] else [])
  | [], p => rfl
  | [q], p => rfl
  | q :: r :: l, p => by
    show q :: evens (l ++ [p]) = q :: (evens l ++ _)
    rw [evens_snoc l p]
    have e : (q :: r :: l).length % 2 = l.length % 2 := by
      show (l.length + 2) % 2 = l.length % 2
      omega
    rw [e]
theorem evTo_succ {l : List Pc} {i : Nat} {p : Pc} (h : l[i]? = some p) : evTo l (i + 1) = evTo l i ++ (if i % 2 = 0 then [p] else []) := by
  unfold evTo
  rw [List.take_add_one, h]
  show evens (l.take i ++ [p]) = _
  rw [evens_snoc]
  have hl : i < l.length := (List.getElem?_eq_some_iff.mp h).1
  have e : (l.take i).length = i := by rw [List.length_take]; omega
  rw [e]
theorem evTo_all (l : List Pc) : evTo l l.length = evens l := by
  unfold evTo
  rw [List.take_length]
/-! ### another size -/
/-- the piece (a, s) may have the size z -/
def Fits2 {k : Nat} (t : T k) (a s z : Int) : Prop := z ∣ a ∧ a + z ≤ pw k ∧ ∀ p ∈ outs t 0, p ≠ (a, s) → ¬ (p.1 < a + z ∧ a < p.1 + p.2)
theorem fits_iff {k : Nat} {t : T k} {a : Int} {j m : Nat} : Fits t 0 a j m ↔ Fits2 t a (pw j) (pw m) := by
  unfold Fits Fits2
  rw [Int.zero_add]
theorem key_uniq {k : Nat} {t : T k} {a s r : Int} (h : (a, s) ∈ outs t 0) (h' : (a, r) ∈ outs t 0) : s = r := by
  have := fst_inj_of_ahead (ahead_outs t (zdvd k)) (fun p hp => (in_outs t (zdvd k) hp).pos) _ h _ h' rfl
  exact congrArg Prod.snd this
/-- two pieces that are out share no cell -/
theorem outs_apart {k : Nat} {t : T k} {p q : Pc} (hp : p ∈ outs t 0) (hq : q ∈ outs t 0) (hne : p ≠ q) : p.1 + p.2 ≤ q.1 ∨ q.1 + q.2 ≤ p.1 := by
  have key : ∀ {l : List Pc}, l.Pairwise Ahead → ∀ x ∈ l, ∀ y ∈ l, x ≠ y → Ahead x y ∨ Ahead y x := by
    intro l hl
    induction l with
    | nil => intro x hx; cases hx
    | cons z l ih =>
      have ⟨h1, h2⟩ := List.pairwise_cons.mp hl
      intro x hx y hy ne
      rcases List.mem_cons.mp hx with rfl | hx1
      · rcases List.mem_cons.mp hy with rfl | hy1
        · exact absurd rfl ne
        · exact .inl (h1 y hy1)
      · rcases List.mem_cons.mp hy with rfl | hy1
        · exact .inr (h1 x hx1)
        · exact ih h2 x hx1 y hy1 ne
  exact key (ahead_outs t (zdvd k)) p hp q hq hne
/-- a smaller size always fits -/
theorem fits_small {k : Nat} {t : T k} {a : Int} {j m : Nat} (h : (a, pw j) ∈ outs t 0) (hm : m ≤ j) : Fits2 t a (pw j) (pw m) := by
  obtain ⟨h0, h1, j', _, e, hd⟩ := in_outs t (zdvd k) h
  have ej := pw_inj (show pw j = pw j' from e)
  subst ej
  have hle := pw_le hm
  simp only at h1
  refine ⟨Int.dvd_trans (pw_dvd hm) hd, by omega, fun p hp hne hx => ?_⟩
  have := outs_apart hp h hne
  simp only at this
  omega
/-- the free pieces without the upper twins that are wanted, or not -/
def regrow (L : List Pc) (a : Int) (j m : Nat) : Option (List Pc) := grw (m - j) L a j
end Bud
namespace Bud
theorem row_ge : ∀ {l : List Pc} {b c : Int}, Row l b c → (∀ p ∈ l, 0 < p.2) → ∀ p ∈ l, b ≤ p.1
  | [], _, _, _, _, p, hp => by cases hp
  | q :: l, b, c, h, hp, p, hm => by
    have h0 := hp q List.mem_cons_self
    have e := h.1
    rcases List.mem_cons.mp hm with rfl | hm
    · omega
    · have := row_ge h.2 (fun p hp' => hp p (List.mem_cons_of_mem _ hp')) p hm
      omega
theorem row_srt : ∀ {l : List Pc} {b c : Int}, Row l b c → (∀ p ∈ l, 0 < p.2) → Srt l
  | [], _, _, _, _ => List.Pairwise.nil
  | q :: l, b, c, h, hp => by
    have h0 := hp q List.mem_cons_self
    have hp' := fun p hp' => hp p (List.mem_cons_of_mem _ hp')
    refine List.Pairwise.cons (fun p hm => ?_) (row_srt h.2 hp')
    have := row_ge h.2 hp' p hm
    have e := h.1
    unfold lexle
    omega
/-- all the pieces, sorted, stand side by side -/
theorem side_row {k : Nat} {t : T k} {M : List Pc} (hs : Srt M) (hp : M.Perm (outs t 0 ++ frees t 0)) : Row M 0 (pw k) := by
  have hr := pcs_row t 0
  have hpm := pcs_perm t 0
  have hpos : ∀ p ∈ (pcs t 0).map (·.1), 0 < p.2 := fun p hm => by
    rcases List.mem_append.mp (hpm.mem_iff.mp hm) with h | h
    · exact (in_outs t (Int.dvd_zero _) h).pos
    · exact (in_frees t (Int.dvd_zero _) h).pos
  have e : M = (pcs t 0).map (·.1) := srt_uniq hs (row_srt hr hpos) (hp.trans hpm.symm)
  rw [e]
  have : (0 : Int) + pw k = pw k := by omega
  rw [this] at hr
  exact hr
end Bud

set_option Elab.async false
set_option linter.all false
/-! Counting blocks. -/
namespace Bud
/-- how many blocks of the size s the pieces of at least s cover -/
def cov (L : List Pc) (s : Int) : Int := ((L.filter fun p => decide (s ≤ p.2)).map fun p => p.2 / s).sum
theorem cov_nil (s : Int) : cov [] s = 0 := rfl
theorem cov_cons (p : Pc) (L : List Pc) (s : Int) : cov (p :: L) s = (if s ≤ p.2 then p.2 / s else 0) + cov L s := by
  unfold cov
  by_cases h : s ≤ p.2
  · rw [List.filter_cons_of_pos (by simpa using h), if_pos h, List.map_cons, List.sum_cons]
  · rw [List.filter_cons_of_neg (by simpa using h), if_neg h, Int.zero_add]
theorem cov_append (L M : List Pc) (s : Int) : cov (L ++ M) s = cov L s + cov M s := by
  unfold cov
  rw [List.filter_append, List.map_append, List.sum_append]
theorem cov_perm {L M : List Pc} (h : L.Perm M) (s : Int) : cov L s = cov M s := by
  induction h with
  | nil => rfl
  | cons x _ ih => rw [cov_cons, cov_cons, ih]
  | swap x y l => rw [cov_cons, cov_cons, cov_cons, cov_cons]; omega
  | trans _ _ h1 h2 => rw [h1, h2]
theorem cov_small {L : List Pc} {s : Int} (h : ∀ p ∈ L, p.2 < s) : cov L s = 0 := by
  induction L with
  | nil => rfl
  | cons p L ih =>
    have h1 := h p List.mem_cons_self
    rw [cov_cons, if_neg (by omega), ih fun q hq => h q (List.mem_cons_of_mem _ hq), Int.zero_add]
theorem div_ge_one {a s : Int} (hs : 0 < s) (h : s ≤ a) : 1 ≤ a / s := (Int.le_ediv_iff_mul_le hs).mpr (by omega)
theorem cov_nonneg {L : List Pc} {s : Int} (hs : 0 < s) : 0 ≤ cov L s := by
  induction L with
  | nil => exact Int.le_refl _
  | cons p L ih =>
    rw [cov_cons]
    split
    · have := div_ge_one hs (a := p.2) (by assumption)
      omega
    · omega
theorem cov_zero {L : List Pc} {s : Int} (hs : 0 < s) (h : cov L s = 0) : ∀ p ∈ L, p.2 < s := by
  induction L with
  | nil => intro p hp; cases hp
  | cons q L ih =>
    rw [cov_cons] at h
    have h0 := cov_nonneg (L := L) hs
    by_cases c : s ≤ q.2
    · rw [if_pos c] at h
      have := div_ge_one hs c
      omega
    · rw [if_neg c] at h
      intro p hp
      rcases List.mem_cons.mp hp with rfl | hp
      · omega
      · exact ih (by omega) p hp
theorem pw_div {k m : Nat} (h : m ≤ k) : pw k / pw m = pw (k - m) := by
  have e : pw k = pw m * pw (k - m) := by rw [← pw_add, show m + (k - m) = k by omega]
  rw [e, Int.mul_ediv_cancel_left _ (Int.ne_of_gt (pw_pos m))]
theorem div_block {s a b : Int} (hs : 0 < s) (hb : s ∣ b) (h1 : b ≤ a) (h2 : a < b + s) : a / s = b / s := by
  obtain ⟨c, rfl⟩ := hb
  rw [Int.mul_ediv_cancel_left _ (Int.ne_of_gt hs)]
  refine Int.le_antisymm ?_ ((Int.le_ediv_iff_mul_le hs).mpr (by rw [Int.mul_comm]; exact h1))
  have : a / s < c + 1 := (Int.ediv_lt_iff_lt_mul hs).mpr (by rw [Int.add_mul, Int.mul_comm c]; omega)
  omega
theorem count : ∀ {k : Nat} (t : T k) {b : Int} {m : Nat}, Can t → pw k ∣ b → m ≤ k →
    ∃ B : List Int, B.Nodup ∧ (∀ x, x ∈ B ↔ ∃ p ∈ outs t b, p.2 < pw m ∧ p.1 / pw m = x) ∧ cov (frees t b) (pw m) + cov (outs t b) (pw m) + B.length = pw (k - m)
  | k, .free, b, m, _, hb, hm => by
    refine ⟨[], List.nodup_nil, fun x => ⟨fun h => (by cases h), fun ⟨p, hp, _⟩ => (by cases hp)⟩, ?_⟩
    show cov [(b, pw k)] (pw m) + cov [] (pw m) + 0 = _
    rw [cov_cons, if_pos (pw_le hm), cov_nil, pw_div hm]
    omega
  | k, .out, b, m, _, hb, hm => by
    refine ⟨[], List.nodup_nil, fun x => ⟨fun h => (by cases h), fun ⟨p, hp, h, _⟩ => ?_⟩, ?_⟩
    · rw [List.mem_singleton.mp hp] at h
      have := pw_le hm
      simp only at h
      omega
    · show cov [] (pw m) + cov [(b, pw k)] (pw m) + 0 = _
      rw [cov_cons, if_pos (pw_le hm), cov_nil, pw_div hm]
      omega
  | k + 1, .node l r, b, m, hc, hb, hm => by
    have hp := pw_pos m
    by_cases e : m = k + 1
    · subst e
      have small : ∀ p, p ∈ outs (.node l r) b ∨ p ∈ frees (.node l r) b → p.2 < pw (k + 1) := fun p h => by
        have hle : ∀ {j : Nat}, j ≤ k → pw j < pw (k + 1) := fun h => pw_lt (by omega)
        rcases h with h | h
        · rcases List.mem_append.mp h with h | h
          · obtain ⟨_, _, j, hj, e, _⟩ := in_outs l (dvd_left hb) h
            rw [e]; exact hle hj
          · obtain ⟨_, _, j, hj, e, _⟩ := in_outs r (dvd_right hb) h
            rw [e]; exact hle hj
        · rcases List.mem_append.mp h with h | h
          · obtain ⟨_, _, j, hj, e, _⟩ := in_frees l (dvd_left hb) h
            rw [e]; exact hle hj
          · obtain ⟨_, _, j, hj, e, _⟩ := in_frees r (dvd_right hb) h
            rw [e]; exact hle hj
      have hne : outs (.node l r) b ≠ [] := fun z => by
        have := free_of_noOuts (.node l r) b hc z
        cases this
      refine ⟨[b / pw (k + 1)], List.nodup_cons.mpr ⟨List.not_mem_nil, List.nodup_nil⟩, fun x => ⟨fun h => ?_, fun ⟨p, hp, _, e⟩ => ?_⟩, ?_⟩
      · rw [List.mem_singleton.mp h]
        obtain ⟨p, hpm⟩ := List.exists_mem_of_ne_nil _ hne
        have hi := in_outs (.node l r) hb hpm
        exact ⟨p, hpm, small p (.inl hpm), div_block hp hb hi.1 (by have := hi.2.1; have := hi.pos; omega)⟩
      · have hi := in_outs (.node l r) hb hp
        rw [← e, div_block (pw_pos _) hb hi.1 (by have := hi.2.1; have := hi.pos; omega)]
        exact List.mem_singleton.mpr rfl
      · rw [cov_small fun p h => small p (.inr h), cov_small fun p h => small p (.inl h), Nat.sub_self]
        rfl
    · have hm' : m ≤ k := by omega
      obtain ⟨B1, n1, m1, e1⟩ := count l (m := m) hc.1 (dvd_left hb) hm'
      obtain ⟨B2, n2, m2, e2⟩ := count r (m := m) hc.2.1 (dvd_right hb) hm'
      have hbm : pw m ∣ b + pw k := Int.dvd_trans (pw_dvd hm') (dvd_right hb)
      have dis : ∀ x ∈ B1, ∀ y ∈ B2, x ≠ y := fun x hx y hy => by
        obtain ⟨p, hp1, _, rfl⟩ := (m1 x).mp hx
        obtain ⟨q, hq1, _, rfl⟩ := (m2 y).mp hy
        have i1 := in_outs l (dvd_left hb) hp1
        have i2 := in_outs r (dvd_right hb) hq1
        have h1 : p.1 / pw m < (b + pw k) / pw m := (Int.ediv_lt_iff_lt_mul hp).mpr (by
          rw [Int.ediv_mul_cancel hbm]
          have := i1.2.1
          have := i1.pos
          omega)
        have h2 : (b + pw k) / pw m ≤ q.1 / pw m := Int.ediv_le_ediv hp i2.1
        omega
      refine ⟨B1 ++ B2, List.nodup_append.mpr ⟨n1, n2, dis⟩, fun x => ?_, ?_⟩
      · rw [List.mem_append, m1, m2]
        show _ ↔ ∃ p ∈ outs l b ++ outs r (b + pw k), _
        constructor
        · rintro (⟨p, hp, h⟩ | ⟨p, hp, h⟩)
          · exact ⟨p, List.mem_append_left _ hp, h⟩
          · exact ⟨p, List.mem_append_right _ hp, h⟩
        · rintro ⟨p, hp, h⟩
          rcases List.mem_append.mp hp with hp | hp
          · exact .inl ⟨p, hp, h⟩
          · exact .inr ⟨p, hp, h⟩
      · show cov (frees l b ++ frees r (b + pw k)) (pw m) + cov (outs l b ++ outs r (b + pw k)) (pw m) + _ = _
        rw [cov_append, cov_append, List.length_append, show k + 1 - m = (k - m) + 1 by omega, pw_succ]
        omega
/-- the touched blocks and the covered ones -/
theorem touched {k : Nat} {t : T k} {m : Nat} {D : List Pc} {B : List Int} (hc : Can t) (hm : m ≤ k) (hD : D.Perm (outs t 0)) (hn : B.Nodup) (hB : ∀ x, x ∈ B ↔ ∃ p ∈ D, p.2 < pw m ∧ p.1 / pw m = x) :
    cov D (pw m) + B.length = pw k / pw m - cov (frees t 0) (pw m) := by
  obtain ⟨C, n1, m1, e1⟩ := count t (b := 0) hc (Int.dvd_zero _) hm
  have hp : B.Perm C := (List.perm_ext_iff_of_nodup hn n1).mpr fun x => by
    rw [hB, m1]
    exact ⟨fun ⟨p, hp, h⟩ => ⟨p, hD.mem_iff.mp hp, h⟩, fun ⟨p, hp, h⟩ => ⟨p, hD.mem_iff.mpr hp, h⟩⟩
  rw [hp.length_eq, cov_perm hD, pw_div hm]
  omega
/-- no piece for a wish -/
theorem room_iff {k : Nat} {t : T k} {w : Int} (hw : 1 ≤ w) : bestOf (frees t 0) w = none ↔ cov (frees t 0) (fit w) = 0 := by
  have hp : 0 < fit w := pw_pos _
  rw [best_none]
  constructor
  · intro h
    exact cov_small fun p hp => by
      have := h p hp
      have := fit_ge w
      omega
  · intro h p hpm
    have h1 := cov_zero hp h p hpm
    obtain ⟨_, _, j, hj, e, _⟩ := in_frees t (Int.dvd_zero _) hpm
    rw [e] at h1 ⊢
    have : ¬ w ≤ pw j := fun z => by
      have := fit_le_iff.mpr z
      omega
    omega
end Bud

set_option Elab.async false
set_option linter.all false
/-! Free pieces by what stands beside them. -/
namespace Bud
/-- the block beside -/
def nb (x : Int) : Int := x + 1 - 2 * (x % 2)
theorem nb_range {B N x : Int} (hB : B % 2 = 0) (hN : N % 2 = 0) (h1 : B ≤ x) (h2 : x < B + N) : B ≤ nb x ∧ nb x < B + N := by
  unfold nb
  omega
theorem nb_even {x : Int} (h : x % 2 = 0) : nb x = x + 1 := by unfold nb; omega
theorem nb_odd {x : Int} (h : x % 2 = 0) : nb (x + 1) = x := by unfold nb; omega
theorem blk_even {k j : Nat} {b : Int} (hb : pw k ∣ b) (h : j < k) : b / pw j % 2 = 0 := by
  have hp := pw_pos j
  obtain ⟨c, rfl⟩ := Int.dvd_trans (pw_dvd (show j + 1 ≤ k by omega)) hb
  rw [pw_succ, show 2 * pw j * c = pw j * (2 * c) by rw [Int.mul_comm 2, Int.mul_assoc], Int.mul_ediv_cancel_left _ (Int.ne_of_gt hp)]
  omega
theorem num_even {k j : Nat} (h : j < k) : pw (k - j) % 2 = 0 := by
  rw [show k - j = (k - j - 1) + 1 by omega, pw_succ]
  omega
theorem blk_range {k j : Nat} {b a : Int} (hb : pw k ∣ b) (h : j ≤ k) (h1 : b ≤ a) (h2 : a < b + pw k) : b / pw j ≤ a / pw j ∧ a / pw j < b / pw j + pw (k - j) := by
  have hp := pw_pos j
  have hbj : pw j ∣ b := Int.dvd_trans (pw_dvd h) hb
  refine ⟨Int.ediv_le_ediv hp h1, ?_⟩
  have e : b / pw j + pw (k - j) = (b + pw k) / pw j := by
    rw [Int.add_ediv_of_dvd_left hbj, pw_div h]
  rw [e]
  refine (Int.ediv_lt_iff_lt_mul hp).mpr ?_
  rw [Int.ediv_mul_cancel (Int.dvd_add hbj (pw_dvd h))]
  exact h2
theorem top_mem {k : Nat} {t : T k} {b a : Int} (hb : pw k ∣ b) : (a, pw k) ∈ frees t b ↔ isFree t = true ∧ a = b := by
  constructor
  · intro h
    have h1 := top_free hb h
    refine ⟨h1, ?_⟩
    have := free_of_isFree h1
    subst this
    exact congrArg Prod.fst (List.mem_singleton.mp h)
  · rintro ⟨h, rfl⟩
    exact free_mem h
theorem noOuts_of_free {k : Nat} {t : T k} (h : isFree t = true) (b : Int) : outs t b = [] := by
  rw [free_of_isFree h]
  rfl
theorem beside : ∀ {k : Nat} (t : T k) {b : Int} {j : Nat}, Can t → pw k ∣ b → j < k → ∀ a : Int,
    (a, pw j) ∈ frees t b ↔ ∃ p ∈ outs t b, p.2 ≤ pw j ∧ a = nb (p.1 / pw j) * pw j ∧ ∀ q ∈ outs t b, q.2 ≤ pw j → q.1 / pw j ≠ nb (p.1 / pw j)
  | k, .free, b, j, _, hb, hj, a => by
    constructor
    · intro h
      have e := congrArg Prod.snd (List.mem_singleton.mp h)
      have := pw_inj (show pw j = pw k from e)
      omega
    · rintro ⟨p, hp, _⟩
      cases hp
  | k, .out, b, j, _, hb, hj, a => by
    constructor
    · intro h
      cases h
    · rintro ⟨p, hp, h, _⟩
      rw [List.mem_singleton.mp hp] at h
      have := pw_lt hj
      simp only at h
      omega
  | k + 1, .node l r, b, j, hc, hb, hj, a => by
    have hp := pw_pos j
    have hbl := dvd_left hb
    have hbr := dvd_right hb
    by_cases e : j = k
    · subst e
      have hB : b / pw j % 2 = 0 := blk_even hb (by omega)
      have eb : b / pw j * pw j = b := Int.ediv_mul_cancel hbl
      have er : (b + pw j) / pw j = b / pw j + 1 := by
        rw [Int.add_ediv_of_dvd_left hbl, Int.ediv_self (Int.ne_of_gt hp)]
      have bl : ∀ p ∈ outs l b, p.1 / pw j = b / pw j := fun p h => by
        have i := in_outs l hbl h
        exact div_block hp hbl i.1 (by have := i.2.1; have := i.pos; omega)
      have br : ∀ p ∈ outs r (b + pw j), p.1 / pw j = b / pw j + 1 := fun p h => by
        have i := in_outs r hbr h
        rw [← er]
        exact div_block hp hbr i.1 (by have := i.2.1; have := i.pos; omega)
      have sz : ∀ p ∈ outs (.node l r) b, p.2 ≤ pw j := fun p h => by
        rcases List.mem_append.mp h with h | h
        · obtain ⟨_, _, i, hi, e, _⟩ := in_outs l hbl h
          rw [e]; exact pw_le hi
        · obtain ⟨_, _, i, hi, e, _⟩ := in_outs r hbr h
          rw [e]; exact pw_le hi
      have fl : isFree l = true ↔ outs l b = [] := ⟨fun h => noOuts_of_free h b, free_of_noOuts l b hc.1⟩
      have fr : isFree r = true ↔ outs r (b + pw j) = [] := ⟨fun h => noOuts_of_free h _, free_of_noOuts r _ hc.2.1⟩
      have e1 : nb (b / pw j) * pw j = b + pw j := by rw [nb_even hB, Int.add_mul, eb, Int.one_mul]
      have e2 : nb (b / pw j + 1) * pw j = b := by rw [nb_odd hB, eb]
      show (a, pw j) ∈ frees l b ++ frees r (b + pw j) ↔ _
      rw [List.mem_append, top_mem hbl, top_mem hbr]
      constructor
      · rintro (⟨h, rfl⟩ | ⟨h, rfl⟩)
        · have hr : outs r (a + pw j) ≠ [] := fun z => hc.2.2 ⟨h, fr.mpr z⟩
          obtain ⟨p, hpm⟩ := List.exists_mem_of_ne_nil _ hr
          refine ⟨p, List.mem_append_right _ hpm, sz p (List.mem_append_right _ hpm), ?_, fun q hq _ => ?_⟩
          · rw [br p hpm, e2]
          · rw [br p hpm, nb_odd hB]
            rcases List.mem_append.mp hq with hq | hq
            · rw [fl.mp h] at hq
              cases hq
            · rw [br q hq]
              omega
        · have hl : outs l b ≠ [] := fun z => hc.2.2 ⟨fl.mpr z, h⟩
          obtain ⟨p, hpm⟩ := List.exists_mem_of_ne_nil _ hl
          refine ⟨p, List.mem_append_left _ hpm, sz p (List.mem_append_left _ hpm), ?_, fun q hq _ => ?_⟩
          · rw [bl p hpm, e1]
          · rw [bl p hpm, nb_even hB]
            rcases List.mem_append.mp hq with hq | hq
            · rw [bl q hq]
              omega
            · rw [fr.mp h] at hq
              cases hq
      · rintro ⟨p, hpm, _, rfl, hn⟩
        rcases List.mem_append.mp hpm with h | h
        · right
          rw [bl p h] at hn ⊢
          refine ⟨fr.mpr (Classical.byContradiction fun z => ?_), e1⟩
          obtain ⟨q, hq⟩ := List.exists_mem_of_ne_nil _ z
          have := hn q (List.mem_append_right _ hq) (sz q (List.mem_append_right _ hq))
          rw [br q hq, nb_even hB] at this
          exact this rfl
        · left
          rw [br p h] at hn ⊢
          refine ⟨fl.mpr (Classical.byContradiction fun z => ?_), e2⟩
          obtain ⟨q, hq⟩ := List.exists_mem_of_ne_nil _ z
          have := hn q (List.mem_append_left _ hq) (sz q (List.mem_append_left _ hq))
          rw [bl q hq, nb_odd hB] at this
          exact this rfl
    · have hj' : j < k := by omega
      have hBl := blk_even hbl hj'
      have hBr := blk_even hbr hj'
      have hN := num_even hj'
      have er : (b + pw k) / pw j = b / pw j + pw (k - j) := by
        rw [Int.add_ediv_of_dvd_left (Int.dvd_trans (pw_dvd (by omega)) hbl), pw_div (by omega)]
      have rl : ∀ p ∈ outs l b, b / pw j ≤ p.1 / pw j ∧ p.1 / pw j < b / pw j + pw (k - j) := fun p h => by
        have i := in_outs l hbl h
        exact blk_range hbl (by omega) i.1 (by have := i.2.1; have := i.pos; omega)
      have rr : ∀ p ∈ outs r (b + pw k), (b + pw k) / pw j ≤ p.1 / pw j ∧ p.1 / pw j < (b + pw k) / pw j + pw (k - j) := fun p h => by
        have i := in_outs r hbr h
        exact blk_range hbr (by omega) i.1 (by have := i.2.1; have := i.pos; omega)
      show (a, pw j) ∈ frees l b ++ frees r (b + pw k) ↔ _
      rw [List.mem_append, beside l hc.1 hbl hj' a, beside r hc.2.1 hbr hj' a]
      constructor
      · rintro (⟨p, hpm, h1, h2, h3⟩ | ⟨p, hpm, h1, h2, h3⟩)
        · refine ⟨p, List.mem_append_left _ hpm, h1, h2, fun q hq hs => ?_⟩
          rcases List.mem_append.mp hq with hq | hq
          · exact h3 q hq hs
          · have g1 := nb_range hBl hN (rl p hpm).1 (rl p hpm).2
            have g2 := rr q hq
            rw [er] at g2
            omega
        · refine ⟨p, List.mem_append_right _ hpm, h1, h2, fun q hq hs => ?_⟩
          rcases List.mem_append.mp hq with hq | hq
          · have g1 := nb_range hBr hN (rr p hpm).1 (rr p hpm).2
            have g2 := rl q hq
            rw [er] at g1
            omega
          · exact h3 q hq hs
      · rintro ⟨p, hpm, h1, h2, h3⟩
        rcases List.mem_append.mp hpm with h | h
        · exact .inl ⟨p, h, h1, h2, fun q hq => h3 q (List.mem_append_left _ hq)⟩
        · exact .inr ⟨p, h, h1, h2, fun q hq => h3 q (List.mem_append_right _ hq)⟩
/-- the beside block lies in the yard -/
theorem nb_in {k j : Nat} {t : T k} {p : Pc} (hj : j < k) (h : p ∈ outs t 0) : 0 ≤ nb (p.1 / pw j) * pw j ∧ nb (p.1 / pw j) * pw j < pw k := by
  have hp := pw_pos j
  have i := in_outs t (Int.dvd_zero _) h
  have hr := blk_range (b := 0) (Int.dvd_zero (pw k)) (Nat.le_of_lt hj) i.1 (by have := i.2.1; have := i.pos; omega)
  have g := nb_range (by rw [Int.zero_ediv]; rfl) (num_even hj) hr.1 hr.2
  rw [Int.zero_ediv] at g
  refine ⟨Int.mul_nonneg g.1 (by omega), ?_⟩
  have e : pw k = pw (k - j) * pw j := by rw [← pw_add, show k - j + j = k by omega]
  rw [e]
  exact Int.mul_lt_mul_of_pos_right (by omega) hp
/-- no free piece of at least w that is smaller than the yard, and the yard not all free: none at all -/
theorem best_none_of {k : Nat} {t : T k} {w : Int} (hne : outs t 0 ≠ [] ∨ pw k < w) (h : ∀ j, fe w ≤ j → j < k → ∀ a, (a, pw j) ∉ frees t 0) : bestOf (frees t 0) w = none := by
  refine best_none.mpr fun p hp => ?_
  obtain ⟨h1, h2, j, hj, e, hd⟩ := in_frees t (Int.dvd_zero _) hp
  rw [e]
  refine Classical.byContradiction fun hw => ?_
  have hw' : w ≤ pw j := by omega
  have hfe := fe_le hw'
  rcases Nat.lt_or_ge j k with q | q
  · refine h j hfe q p.1 ?_
    rw [← e]
    exact hp
  · have : j = k := by omega
    subst this
    rcases hne with z | z
    · have : (p.1, pw j) ∈ frees t 0 := by rw [← e]; exact hp
      exact z (noOuts_of_free (top_free (Int.dvd_zero _) this) 0)
    · omega
/-- the lowest free piece of the first size that has one is the best -/
theorem best_of_first {k : Nat} {t : T k} {w a : Int} {j : Nat} (hj : fe w ≤ j) (hm : (a, pw j) ∈ frees t 0) (hl : ∀ c, (c, pw j) ∈ frees t 0 → a ≤ c) (h : ∀ i, fe w ≤ i → i < j → ∀ c, (c, pw i) ∉ frees t 0) : bestOf (frees t 0) w = some (a, pw j) := by
  have hw : w ≤ pw j := Int.le_trans (fit_ge w) (pw_le hj)
  refine best_uniq (srt_frees t (Int.dvd_zero _)) hm hw (fun p hp hwp => ?_) fun p hp e => ?_
  · obtain ⟨_, _, i, _, e, _⟩ := in_frees t (Int.dvd_zero _) hp
    rw [e] at hwp ⊢
    refine Classical.byContradiction fun z => ?_
    have hij : i < j := pw_lt_iff.mp (by simp only at z; omega)
    refine h i (fe_le hwp) hij p.1 ?_
    rw [← e]
    exact hp
  · have e' : p.2 = pw j := e
    exact hl p.1 (by rw [← e']; exact hp)
end Bud

set_option Elab.async false
set_option linter.all false
/-! Gives one after the other. -/
namespace Bud
/-- the wishes' sizes, turned, each with its place -/
def ordP (ws : List Int) : List Pc := (List.range ws.length).map fun i => (0 - fit (ws.getD i 0), (i : Int))
theorem ordP_len (ws : List Int) : (ordP ws).length = ws.length := by unfold ordP; rw [List.length_map, List.length_range]
theorem ordP_at {ws : List Int} {i : Nat} (h : i < ws.length) : (ordP ws)[i]? = some (0 - fit (ws.getD i 0), (i : Int)) := by
  unfold ordP
  rw [List.getElem?_map, List.getElem?_range h]
  rfl
/-- the places in the order of a sorted list -/
def ordN (M : List Pc) : List Nat := M.map fun p => p.2.toNat
theorem ordN_perm {ws : List Int} {M : List Pc} (h : M.Perm (ordP ws)) : (ordN M).Perm (List.range ws.length) := by
  have e : ordN (ordP ws) = List.range ws.length := by
    unfold ordN ordP
    rw [List.map_map]
    exact (List.map_congr_left fun i _ => rfl).trans (List.map_id _)
  rw [← e]
  exact h.map _
theorem ordN_back {ws : List Int} {M : List Pc} (h : M.Perm (ordP ws)) {p : Pc} (hp : p ∈ M) : p.2 = ((p.2.toNat : Nat) : Int) ∧ p.2.toNat < ws.length ∧ p.1 = 0 - fit (ws.getD p.2.toNat 0) := by
  have := h.mem_iff.mp hp
  unfold ordP at this
  obtain ⟨i, hi, rfl⟩ := List.mem_map.mp this
  exact ⟨rfl, List.mem_range.mp hi, rfl⟩
inductive Gives (ws : List Int) {k : Nat} : T k → List Nat → List Int → T k → Prop
  | nil (t : T k) : Gives ws t [] [] t
  | cons {t t1 t' : T k} {i : Nat} {is : List Nat} {a S : Int} {as : List Int} (h : bestOf (frees t 0) (ws.getD i 0) = some (a, S)) (hc : Can t1) (hp : (outs t1 0).Perm ((a, fit (ws.getD i 0)) :: outs t 0)) (r : Gives ws t1 is as t') : Gives ws t (i :: is) (a :: as) t'
theorem Gives.len {ws : List Int} {k : Nat} {t t' : T k} {is : List Nat} {as : List Int} (h : Gives ws t is as t') : as.length = is.length := by
  induction h with
  | nil => rfl
  | cons _ _ _ _ ih => rw [List.length_cons, List.length_cons, ih]
theorem Gives.can {ws : List Int} {k : Nat} {t t' : T k} {is : List Nat} {as : List Int} (h : Gives ws t is as t') (hc : Can t) : Can t' := by
  induction h with
  | nil => exact hc
  | cons _ h1 _ _ ih => exact ih h1
theorem Gives.outs {ws : List Int} {k : Nat} {t t' : T k} {is : List Nat} {as : List Int} (h : Gives ws t is as t') : (outs t' 0).Perm ((is.zip as).map (fun p => (p.2, fit (ws.getD p.1 0))) ++ outs t 0) := by
  induction h with
  | nil => exact List.Perm.refl _
  | cons _ _ hp _ ih =>
    rw [List.zip_cons_cons, List.map_cons]
    refine ih.trans ((List.Perm.append_left _ hp).trans ?_)
    exact List.perm_middle
theorem Gives.snoc {ws : List Int} {k : Nat} {t t1 t2 : T k} {is : List Nat} {as : List Int} {i : Nat} {a S : Int} (h : Gives ws t is as t1) (hb : bestOf (frees t1 0) (ws.getD i 0) = some (a, S)) (hc : Can t2) (hp : (Bud.outs t2 0).Perm ((a, fit (ws.getD i 0)) :: Bud.outs t1 0)) :
    Gives ws t (is ++ [i]) (as ++ [a]) t2 := by
  induction h with
  | nil => exact .cons hb hc hp (.nil _)
  | cons h1 h2 h3 _ ih => exact .cons h1 h2 h3 (ih hb hp)
/-- the steps ahead, when some are done -/
theorem Gives.split {ws : List Int} {k : Nat} {t t' : T k} {is : List Nat} {as : List Int} (h : Gives ws t is as t') : ∀ n, ∃ t1, Gives ws t (is.take n) (as.take n) t1 ∧ Gives ws t1 (is.drop n) (as.drop n) t' := by
  induction h with
  | nil t => intro n; rw [List.take_nil, List.take_nil, List.drop_nil, List.drop_nil]; exact ⟨t, .nil t, .nil t⟩
  | cons h1 h2 h3 r ih =>
    intro n
    cases n with
    | zero => exact ⟨_, .nil _, .cons h1 h2 h3 r⟩
    | succ n =>
      obtain ⟨t1, g1, g2⟩ := ih n
      exact ⟨t1, .cons h1 h2 h3 g1, g2⟩
theorem Gives.det {ws : List Int} {k : Nat} {t t1 t2 : T k} {is : List Nat} {as bs : List Int} (h : Gives ws t is as t1) (g : Gives ws t is bs t2) (hc : Can t) : as = bs ∧ t1 = t2 := by
  induction h generalizing bs with
  | nil => cases g; exact ⟨rfl, rfl⟩
  | cons h1 h2 h3 r ih =>
    cases g with
    | cons g1 g2 g3 q =>
      rw [h1] at g1
      cases g1
      have := tree_uniq h2 g2 (h3.trans g3.symm)
      subst this
      obtain ⟨e1, e2⟩ := ih q h2
      exact ⟨by rw [e1], e2⟩
/-- the place of the wish i -/
def plOf (is : List Nat) (as : List Int) (i : Nat) : Int := ((is.zip as).lookup i).getD 0
theorem lookup_append_some {i : Nat} {a : Int} : ∀ {L M : List (Nat × Int)}, L.lookup i = some a → (L ++ M).lookup i = some a
  | [], M, h => by cases h
  | (j, b) :: L, M, h => by
    rw [List.cons_append, List.lookup_cons] at *
    split <;> rename_i c
    · rw [c] at h; exact h
    · rw [c] at h; exact lookup_append_some h
theorem lookup_append_none {i : Nat} : ∀ {L M : List (Nat × Int)}, L.lookup i = none → (L ++ M).lookup i = M.lookup i
  | [], M, h => rfl
  | (j, b) :: L, M, h => by
    rw [List.cons_append, List.lookup_cons] at *
    split <;> rename_i c
    · rw [c] at h; cases h
    · rw [c] at h; exact lookup_append_none h
theorem lookup_none_of {i : Nat} : ∀ {L : List (Nat × Int)}, (∀ p ∈ L, p.1 ≠ i) → L.lookup i = none
  | [], _ => rfl
  | (j, b) :: L, h => by
    rw [List.lookup_cons]
    have h1 := h (j, b) List.mem_cons_self
    have : (i == j) = false := by simpa using fun e : i = j => h1 e.symm
    rw [this]
    exact lookup_none_of fun p hp => h p (List.mem_cons_of_mem _ hp)
theorem zip_snoc {α β : Type} {is : List α} {as : List β} {i : α} {a : β} (h : as.length = is.length) : (is ++ [i]).zip (as ++ [a]) = is.zip as ++ [(i, a)] := by
  rw [List.zip_append h.symm]
  rfl
theorem plOf_snoc {is : List Nat} {as : List Int} {i : Nat} {a : Int} (h : as.length = is.length) (hn : i ∉ is) (j : Nat) : plOf (is ++ [i]) (as ++ [a]) j = if j = i then a else plOf is as j := by
  unfold plOf
  rw [zip_snoc h]
  by_cases e : j = i
  · subst e
    rw [if_pos rfl, lookup_append_none (lookup_none_of fun p hp e => hn (by rw [← e]; exact (List.of_mem_zip hp).1)), List.lookup_cons]
    simp
  · rw [if_neg e]
    cases q : (is.zip as).lookup j with
    | some b => rw [lookup_append_some q]
    | none =>
      rw [lookup_append_none q, List.lookup_cons]
      have : (j == i) = false := by simpa using e
      rw [this]
      rfl
theorem plOf_map : ∀ {is : List Nat} {as : List Int} {f : Int → Nat → Pc}, as.length = is.length → is.Nodup → (is.zip as).map (fun p => f p.2 p.1) = is.map fun i => f (plOf is as i) i
  | [], as, f, h, _ => by
    rw [List.zip_nil_left]
    rfl
  | i :: is, [], f, h, _ => by cases h
  | i :: is, a :: as, f, h, nd => by
    have ⟨n1, n2⟩ := List.nodup_cons.mp nd
    have hl : as.length = is.length := by simpa using h
    rw [List.zip_cons_cons, List.map_cons, List.map_cons, plOf_map hl n2]
    congr 1
    · unfold plOf
      rw [List.zip_cons_cons, List.lookup_cons]
      simp
    · refine List.map_congr_left fun j hj => ?_
      have e : ¬ j = i := fun e => n1 (by rw [← e]; exact hj)
      unfold plOf
      rw [List.zip_cons_cons, List.lookup_cons]
      have : (j == i) = false := by simpa using e
      rw [this]
/-- the pieces given, by the wishes' places -/
theorem gives_held {ws : List Int} {k : Nat} {t t' : T k} {M : List Pc} {as : List Int} (hM : M.Perm (ordP ws)) (h : Gives ws t (ordN M) as t') :
    (outs t' 0).Perm ((List.range ws.length).map (fun i => ((plOf (ordN M) as i, fit (ws.getD i 0)) : Pc)) ++ outs t 0) := by
  have hp := ordN_perm hM
  have nd : (ordN M).Nodup := hp.nodup_iff.mpr List.nodup_range
  refine h.outs.trans (List.Perm.append_right _ ?_)
  rw [plOf_map (f := fun a i => (a, fit (ws.getD i 0))) h.len nd]
  exact hp.map _
end Bud

set_option Elab.async false
set_option linter.all false
set_option maxRecDepth 100000
set_option maxHeartbeats 4000000
/-! Own words over the hand layer. -/
namespace Yd
open PySem PySem.Spec L2
open PyProof.Rows (envOfC)

/-! ### a def of the text, ready to be called by its name -/
structure DefOk (P : Program) (w : World) (K : PySem.W.Frag) (mg : Str → Option Value) (base : Heap) (k : Nat) (x : Str) (ps : List Str) (sp : Sp) : Prop where
  ex : ∃ fd, FnOk P w K mg base (L2.CX P w) k (He.ga K x) fd ps sp ∧ Binds K fd ps []
  g : mg x = some (.ref (He.ga K x))
  kp : PySem.W.keepIn K (.ref (He.ga K x)) = true
/-- a method of the class named c -/
structure MethOk (P : Program) (w : World) (K : PySem.W.Frag) (mg : Str → Option Value) (base : Heap) (k : Nat) (c m : Str) (ps : List Str) (sp : Sp) : Prop where
  ex : ∃ fd, FnOk P w K mg base (L2.CX P w) k (He.ma K (He.ga K c) m) fd ps sp ∧ Binds K fd ps []
  cl : Cls K (He.ga K c)
  mt : Meth K (He.ga K c) m (He.ma K (He.ga K c) m)
/-- a class that is called -/
structure MakeOk (P : Program) (w : World) (K : PySem.W.Frag) (mg : Str → Option Value) (base : Heap) (k : Nat) (c : Str) (ps : List Str) (sp : Sp) : Prop where
  ex : ∃ fd, FnOk P w K mg base (L2.CX P w) k (He.ma K (He.ga K c) "__init__") fd ps sp ∧ Binds K fd ps []
  mkr : Mk K (He.ga K c) (He.ma K (He.ga K c) "__init__")
  g : mg c = some (.ref (He.ga K c))

section
variable {X : Cx} {k : Nat} {ps : List Str} {sp : Sp} {E : St → XK} {W : WX} {x m c : Str} {p pos apos : Pos} {e o : Expr} {es : List Expr} {ta : TE} {t : TA}
/-- f(e, ..), nothing is raised -/
theorem pe_cd (D : DefOk X.prog X.w X.K X.mg X.base k x ps sp) (hr : Room k X.A) (ha : PA X (e :: es) t) (hg : Gl X x := by rfl)
    (hdb : (x == ("__debug__" : Str)) = false := by decide) (he : starEach (e :: es) X.env = (false, eval e X.env) :: starEach es X.env := by rfl) (hpl : (backTo pos (starEach es X.env)).any (·.1) = false := by rfl) :
    PE X (.Call (.Name x p) (e :: es) [] pos) (tCall sp [] E0 t) := by
  obtain ⟨fd, F, b⟩ := D.ex
  exact pe_call F hr hg D.g D.kp b .nil passL ha hdb he hpl
theorem pe_cd0 (D : DefOk X.prog X.w X.K X.mg X.base k x ps sp) (hr : Room k X.A) (hg : Gl X x := by rfl)
    (hdb : (x == ("__debug__" : Str)) = false := by decide) :
    PE X (.Call (.Name x p) [] [] pos) (tCall sp [] E0 tNil) := by
  obtain ⟨fd, F, b⟩ := D.ex
  exact pe_call0 F hr hg D.g D.kp b .nil passL hdb
/-- f(e, ..), what is raised is wished for -/
theorem pe_cx (tk : Takes X W) (D : DefOk X.prog X.w X.K X.mg X.base k x ps sp) (hr : Room k X.A) (ha : PA X (e :: es) t) (hg : Gl X x := by rfl)
    (hdb : (x == ("__debug__" : Str)) = false := by decide) (he : starEach (e :: es) X.env = (false, eval e X.env) :: starEach es X.env := by rfl) (hpl : (backTo pos (starEach es X.env)).any (·.1) = false := by rfl) :
    PE X (.Call (.Name x p) (e :: es) [] pos) (tCallS sp (WE W) t) := by
  obtain ⟨fd, F, b⟩ := D.ex
  exact pe_callS F hr hg D.g D.kp b (fun σ => passAt tk σ) ha hdb he hpl
theorem passAt0 {X : Cx} (σ : St) : PassesAt (L2.CX X.prog X.w) X σ E0 := fun _ _ _ _ _ _ h => by
  obtain ⟨_, _, _, _, _, _, _, _, _, _, _, _, z⟩ := h
  exact z.elim
/-- o.m(e, ..) -/
def tMt (c m : Str) (sp : Sp) (E : St → XK) (K : PySem.W.Frag) (ta : TE) (t : TA) : TE := fun σ H Q => ta σ H fun x H1 => ∃ a dx fs, x = .ref a ∧ H1 a = some (.ins (He.ga K c) dx fs) ∧ fs.lookup m = none ∧
  t σ H1 fun vs H2 => sp (x :: vs) H2 Q (E σ)
theorem pe_mE {pl : Sem Bool} {K : PySem.W.Frag} (he : PE X o ta) (D : MethOk X.prog X.w K X.mg X.base k c m ps sp) (hr : Room k X.A) (hx : ∀ σ, PassesAt (L2.CX X.prog X.w) X σ (E σ)) (ha : PA X (e :: es) t)
    (hst : starEach (e :: es) X.env = (false, eval e X.env) :: starEach es X.env := by rfl) (hpl : (backTo pos (starEach es X.env)).any (·.1) = false := by rfl)
    (ht : eval (.Call (.Attribute o m apos) (e :: es) [] pos) X.env = (do
      let ov ← eval o X.env
      standAt apos.atName
      let (f, first) ← holding [ov] (getMethod ov m pl)
      callWith pos f first (backTo pos (starEach (e :: es) X.env)) (backToKw pos (keywordEach [] X.env))) := by rfl) (hK : X.K = K := by rfl) :
    PE X (.Call (.Attribute o m apos) (e :: es) [] pos) (tMt c m sp E K ta t) := by
  subst hK
  obtain ⟨fd, F, b⟩ := D.ex
  refine ⟨fun pins s σ H Q I h => ?_⟩
  refine PySem.W.methodCall_KW (pl := pl) (thn (he.run pins s σ H _ I h) fun u s1 ⟨x, H1, I1, rx, a, dx, fs, ex, ea, l, q⟩ => ?_) ht
  subst ex
  obtain rfl : u = Value.ref a := rx
  refine getmeth_ok I1 ea D.cl D.mt l ?_
  refine PySem.W.callWith_K (first := [.ref a]) (h₀ := X.base) I.ok.mod.kin D.mt.kp (thn (ha.run pos pins s1 σ H1 _ I1 q) fun us s2 ⟨vs, H2, I2, r, q2⟩ => ⟨I2.kIn, ?_⟩) hst hpl
  exact run_fnS (us := .ref a :: us) (vs := .ref a :: vs) F hr b (hx σ) I2 (.cons rfl r) q2
theorem pe_mE0 {pl : Sem Bool} {K : PySem.W.Frag} (he : PE X o ta) (D : MethOk X.prog X.w K X.mg X.base k c m ps sp) (hr : Room k X.A) (hx : ∀ σ, PassesAt (L2.CX X.prog X.w) X σ (E σ))
    (ht : eval (.Call (.Attribute o m apos) [] [] pos) X.env = (do
      let ov ← eval o X.env
      standAt apos.atName
      let (f, first) ← holding [ov] (getMethod ov m pl)
      callWith pos f first (backTo pos (starEach [] X.env)) (backToKw pos (keywordEach [] X.env))) := by rfl) (hK : X.K = K := by rfl) :
    PE X (.Call (.Attribute o m apos) [] [] pos) (tMt c m sp E K ta tNil) := by
  subst hK
  obtain ⟨fd, F, b⟩ := D.ex
  refine ⟨fun pins s σ H Q I h => ?_⟩
  refine PySem.W.methodCall_KW (pl := pl) (thn (he.run pins s σ H _ I h) fun u s1 ⟨x, H1, I1, rx, a, dx, fs, ex, ea, l, q⟩ => ?_) ht
  subst ex
  obtain rfl : u = Value.ref a := rx
  refine getmeth_ok I1 ea D.cl D.mt l ?_
  exact PySem.W.callWith_K0 (first := [.ref a]) I1.kIn D.mt.kp (run_fnS (us := [.ref a]) (vs := [.ref a]) F hr b (hx σ) I1 (.cons rfl .nil) q)
theorem pe_m {pl : Sem Bool} {K : PySem.W.Frag} (he : PE X o ta) (D : MethOk X.prog X.w K X.mg X.base k c m ps sp) (hr : Room k X.A) (ha : PA X (e :: es) t)
    (hst : starEach (e :: es) X.env = (false, eval e X.env) :: starEach es X.env := by rfl) (hpl : (backTo pos (starEach es X.env)).any (·.1) = false := by rfl)
    (ht : eval (.Call (.Attribute o m apos) (e :: es) [] pos) X.env = (do
      let ov ← eval o X.env
      standAt apos.atName
      let (f, first) ← holding [ov] (getMethod ov m pl)
      callWith pos f first (backTo pos (starEach (e :: es) X.env)) (backToKw pos (keywordEach [] X.env))) := by rfl) (hK : X.K = K := by rfl) :
    PE X (.Call (.Attribute o m apos) (e :: es) [] pos) (tMt c m sp (fun _ => E0) K ta t) := pe_mE he D hr passAt0 ha hst hpl ht hK
theorem pe_m0 {pl : Sem Bool} {K : PySem.W.Frag} (he : PE X o ta) (D : MethOk X.prog X.w K X.mg X.base k c m ps sp) (hr : Room k X.A)
    (ht : eval (.Call (.Attribute o m apos) [] [] pos) X.env = (do
      let ov ← eval o X.env
      standAt apos.atName
      let (f, first) ← holding [ov] (getMethod ov m pl)
      callWith pos f first (backTo pos (starEach [] X.env)) (backToKw pos (keywordEach [] X.env))) := by rfl) (hK : X.K = K := by rfl) :
    PE X (.Call (.Attribute o m apos) [] [] pos) (tMt c m sp (fun _ => E0) K ta tNil) := pe_mE0 he D hr passAt0 ht hK
/-- o.m(e, ..), nothing is raised -/
abbrev tM (c m : Str) (sp : Sp) (K : PySem.W.Frag) (ta : TE) (t : TA) : TE := tMt c m sp (fun _ => E0) K ta t
/-- what a class's making wants -/
def tMkX (c : Str) (sp : Sp) (E : St → XK) (K : PySem.W.Frag) (t : TA) : TE := fun σ H Q => t σ H fun vs H1 => ∀ x dx, H1 x = none → H1 dx = none → dx ≠ x →
  sp (.ref x :: vs) (upd (upd H1 dx (.own x)) x (.ins (He.ga K c) dx [])) (fun v H2 => v = .non ∧ Q (.ref x) H2) (E σ)
end

/-! ### a class called -/
section
variable {X : Cx} {k : Nat} {ps : List Str} {sp : Sp} {E : L2.St → XK} {c : Str} {p pos : Pos} {e : Expr} {es : List Expr} {t : TA}
theorem run_mk {pins : List (Addr × Obj)} {σ : L2.St} {H : Hp} {s : Shared} {Q : VK} {us : List Value} {vs : List V} (D : MakeOk X.prog X.w X.K X.mg X.base k c ps sp) (hr : Room (k + 1) X.A) (hx : PassesAt (L2.CX X.prog X.w) X σ (E σ))
    (I : Inv X pins σ H s) (r : Vals vs us)
    (h : ∀ x dx, H x = none → H dx = none → dx ≠ x → sp (.ref x :: vs) (upd (upd H dx (.own x)) x (.ins (He.ga X.K c) dx [])) (fun v H2 => v = .non ∧ Q (.ref x) H2) (E σ)) :
    wpAny (model X.prog X.w) X.A (call (.ref (He.ga X.K c)) us) (EP X pins σ Q) X.xe s := by
  obtain ⟨fd, F, b⟩ := D.ex
  have hq := h (s.heap.objs.size + 1) s.heap.objs.size (I.hok.fresh (Nat.le_succ _)) (I.hok.fresh (Nat.le_refl _)) (Nat.ne_of_lt (Nat.lt_succ_self _))
  have I2 := Inv.made (C := He.ga X.K c) I
  have r2 : Vals (V.ref (s.heap.objs.size + 1) :: vs) (Value.ref (s.heap.objs.size + 1) :: us) := .cons rfl r
  have hl : (Value.ref (s.heap.objs.size + 1) :: us).length = ps.length := by
    have e := r2.length
    rw [F.len _ _ _ _ hq] at e
    exact e.symm
  have b2 := b _ (Value.ref (s.heap.objs.size + 1) :: us) I2.kIn (by rw [List.append_nil]; exact hl)
  rw [List.append_nil] at b2
  refine wpAny_call (make_map (f := He.ma X.K (He.ga X.K c) "__init__") I.kIn D.mkr.makes D.mkr.init (beq_iff_eq.mp D.mkr.fn)
    (codeAny_mono (F.run _ X.stack _ _ ⟨Value.ref (s.heap.objs.size + 1) :: us, []⟩ (Value.ref (s.heap.objs.size + 1) :: us) _ _ (E σ) (hr.make _ us []) (I2.env0.make _ us []) b2 r2 hq) fun r s' hq' => ?_))
  cases r with
  | error e => exact hx pins _ _ e s' I2 hq'
  | ok fl =>
    cases fl with
    | ret u =>
      obtain ⟨v, H', I3, rv, ev, q3⟩ := I2.after hq'
      subst ev
      exact ⟨rv, ⟨V.ref (s.heap.objs.size + 1), H', I3, rfl, q3⟩⟩
    | next => exact False.elim hq'
    | brk => exact False.elim hq'
    | cont => exact False.elim hq'
theorem pe_mk {K : PySem.W.Frag} (D : MakeOk X.prog X.w K X.mg X.base k c ps sp) (hr : Room (k + 1) X.A) (hx : ∀ σ, PassesAt (L2.CX X.prog X.w) X σ (E σ)) (ha : PA X (e :: es) t) (hg : Gl X c := by rfl)
    (hdb : (c == ("__debug__" : Str)) = false := by decide) (he : starEach (e :: es) X.env = (false, eval e X.env) :: starEach es X.env := by rfl) (hpl : (backTo pos (starEach es X.env)).any (·.1) = false := by rfl) (hK : X.K = K := by rfl) :
    PE X (.Call (.Name c p) (e :: es) [] pos) (tMkX c sp E K t) := by
  subst hK
  refine ⟨fun pins s σ H Q I h => ?_⟩
  refine wpAny_Call_Name_kw (ld_glob I hg D.g ?_ hdb)
  refine PySem.W.callWith_K (h₀ := X.base) I.ok.mod.kin D.mkr.kp (thn (ha.run pos pins s σ H _ I h) fun us s1 ⟨vs, H1, I1, r, q⟩ => ⟨I1.kIn, ?_⟩) he hpl
  exact run_mk D hr (hx σ) I1 r q
end

/-! ### a def by its body -/
section
variable {P : Program} {w : World} {K : PySem.W.Frag} {mg : Str → Option Value} {base : Heap} {x qual : Str} {params : Arguments} {body : List Stmt} {scope : Scope} {f : Addr}
theorem mkFn {CX : CXT} {fd : FuncData} {N ps : List Str} {k : Nat} {sp : Sp} (F : FunD K x qual params body scope [] [] f fd) (S : FnScope N ps scope) (len : ∀ vs H Q E, sp vs H Q E → vs.length = ps.length)
    (hbody : ∀ (cdv : Value) (A : Around) (outer : List Env) (s : Shared) (H : Hp) (vs : List V) (Q : VK) (E : XK), Room k (A.deeper (envOfC qual scope s.heap.objs.size f cdv)) → sp vs H Q E →
      ∃ t, PSs (cxOf CX P w K mg base N qual scope f cdv A outer s H E) body t ∧ t { nx := fun _ H' => Q .non H', rt := Q } (start N vs) H) : FnOk P w K mg base CX (k + 1) f fd ps sp := F.ok S len hbody
theorem mkDef {N ps : List Str} {k : Nat} {sp : Sp} (F : ∃ fd, FunD K x qual params body scope [] [] (He.ga K x) fd) (g : mg x = some (.ref (He.ga K x)))
    (b : ∀ (kV doc pm : Value) (an : Option Addr) (cdv ct : Value) (us : List Value), us.length = ps.length → bindArgs (PySem.W.fnOf x qual params body scope .none kV doc pm an cdv ct) ⟨us, []⟩ = pure (ps.zip us))
    (S : FnScope N ps scope) (len : ∀ vs H Q E, sp vs H Q E → vs.length = ps.length)
    (hbody : ∀ (cdv : Value) (A : Around) (outer : List Env) (s : Shared) (H : Hp) (vs : List V) (Q : VK) (E : XK), Room k (A.deeper (envOfC qual scope s.heap.objs.size (He.ga K x) cdv)) → sp vs H Q E →
      ∃ t, PSs (cxOf (L2.CX P w) P w K mg base N qual scope (He.ga K x) cdv A outer s H E) body t ∧ t { nx := fun _ H' => Q .non H', rt := Q } (start N vs) H) : DefOk P w K mg base (k + 1) x ps sp := by
  obtain ⟨fd, F⟩ := F
  exact ⟨⟨fd, mkFn F S len hbody, F.bindsN b⟩, g, F.kp⟩
theorem DefOk.mono {j k : Nat} {ps : List Str} {sp : Sp} (D : DefOk P w K mg base j x ps sp) (h : j ≤ k) : DefOk P w K mg base k x ps sp := by
  obtain ⟨fd, F, b⟩ := D.ex
  exact ⟨⟨fd, F.mono h, b⟩, D.g, D.kp⟩
theorem mkMake {c : Str} {N ps : List Str} {k : Nat} {sp : Sp} (F : ∃ fd, FunD K "__init__" qual params body scope [] [] (He.ma K (He.ga K c) "__init__") fd) (mk : Mk K (He.ga K c) (He.ma K (He.ga K c) "__init__")) (g : mg c = some (.ref (He.ga K c)))
    (b : ∀ (kV doc pm : Value) (an : Option Addr) (cdv ct : Value) (us : List Value), us.length = ps.length → bindArgs (PySem.W.fnOf "__init__" qual params body scope .none kV doc pm an cdv ct) ⟨us, []⟩ = pure (ps.zip us))
    (S : FnScope N ps scope) (len : ∀ vs H Q E, sp vs H Q E → vs.length = ps.length)
    (hbody : ∀ (cdv : Value) (A : Around) (outer : List Env) (s : Shared) (H : Hp) (vs : List V) (Q : VK) (E : XK), Room k (A.deeper (envOfC qual scope s.heap.objs.size (He.ma K (He.ga K c) "__init__") cdv)) → sp vs H Q E →
      ∃ t, PSs (cxOf (L2.CX P w) P w K mg base N qual scope (He.ma K (He.ga K c) "__init__") cdv A outer s H E) body t ∧ t { nx := fun _ H' => Q .non H', rt := Q } (start N vs) H) : MakeOk P w K mg base (k + 1) c ps sp := by
  obtain ⟨fd, F⟩ := F
  exact ⟨⟨fd, mkFn F S len hbody, F.bindsN b⟩, mk, g⟩
theorem mkMeth {c m : Str} {N ps : List Str} {k : Nat} {sp : Sp} (F : ∃ fd, FunD K x qual params body scope [] [] (He.ma K (He.ga K c) m) fd) (cl : Cls K (He.ga K c)) (mt : Meth K (He.ga K c) m (He.ma K (He.ga K c) m))
    (b : ∀ (kV doc pm : Value) (an : Option Addr) (cdv ct : Value) (us : List Value), us.length = ps.length → bindArgs (PySem.W.fnOf x qual params body scope .none kV doc pm an cdv ct) ⟨us, []⟩ = pure (ps.zip us))
    (S : FnScope N ps scope) (len : ∀ vs H Q E, sp vs H Q E → vs.length = ps.length)
    (hbody : ∀ (cdv : Value) (A : Around) (outer : List Env) (s : Shared) (H : Hp) (vs : List V) (Q : VK) (E : XK), Room k (A.deeper (envOfC qual scope s.heap.objs.size (He.ma K (He.ga K c) m) cdv)) → sp vs H Q E →
      ∃ t, PSs (cxOf (L2.CX P w) P w K mg base N qual scope (He.ma K (He.ga K c) m) cdv A outer s H E) body t ∧ t { nx := fun _ H' => Q .non H', rt := Q } (start N vs) H) : MethOk P w K mg base (k + 1) c m ps sp := by
  obtain ⟨fd, F⟩ := F
  exact ⟨⟨fd, mkFn F S len hbody, F.bindsN b⟩, cl, mt⟩
end

/-! ### a while by the number of its turns -/
section
variable {c : TT} {tb : TS} {D : Ends} {σ : L2.St} {H : Hp}
theorem while_n (n : Nat) (Pv : Nat → L2.St → Hp → Prop) (h0 : Pv 0 σ H)
    (hs : ∀ i σ H, i ≤ n → Pv i σ H → c σ H fun b H1 => if b = true then ∃ N : L2.St → Hp → Prop, (∀ σ' H', N σ' H' → ∃ m', m' < n - i ∧ ∃ i', i' ≤ n ∧ m' = n - i' ∧ Pv i' σ' H') ∧ tb { D with nx := N, ct := N, bk := D.nx } σ H1 else D.nx σ H1) : tWhile c tb D σ H := by
  refine ⟨fun m σ H => ∃ i, i ≤ n ∧ m = n - i ∧ Pv i σ H, ⟨n - 0, 0, Nat.zero_le _, rfl, h0⟩, ?_⟩
  rintro m σ H ⟨i, hi, rfl, p⟩
  exact hs i σ H hi p
theorem wh_step {n i : Nat} {Pv : Nat → L2.St → Hp → Prop} (h : i < n) : ∀ σ' H', Pv (i + 1) σ' H' → ∃ m', m' < n - i ∧ ∃ i', i' ≤ n ∧ m' = n - i' ∧ Pv i' σ' H' := fun _ _ p => ⟨n - (i + 1), by omega, i + 1, h, rfl, p⟩
end
/-- an if whose test is known to come to b -/
theorem ifP {c : TT} {t u : TS} {D : Ends} {σ : L2.St} {H : Hp} (b : Bool) (hc : ∀ Q : Bool → Hp → Prop, Q b H → c σ H Q) (h1 : b = true → t D σ H) (h2 : b = false → u D σ H) : tIfS c t u D σ H := by
  refine hc _ ?_
  cases b with
  | true => exact iteT (h1 rfl)
  | false => exact iteF (h2 rfl)
theorem ifS {c : TT} {t u v : TS} {D : Ends} {σ : L2.St} {H : Hp} (b : Bool) (hc : ∀ Q : Bool → Hp → Prop, Q b H → c σ H Q) (h1 : b = true → t { D with nx := v D } σ H) (h2 : b = false → u { D with nx := v D } σ H) : tSeq (tIfS c t u) v D σ H := ifP (D := { D with nx := v D }) b hc h1 h2
/-- the same, the test lays new things alone -/
theorem ifN {c : TT} {t u v : TS} {D : Ends} {σ : L2.St} {H : Hp} (b : Bool) (hc : ∀ Q : Bool → Hp → Prop, (∀ H', Same H H' → Q b H') → c σ H Q) (h1 : b = true → ∀ H', Same H H' → t { D with nx := v D } σ H') (h2 : b = false → ∀ H', Same H H' → u { D with nx := v D } σ H') : tSeq (tIfS c t u) v D σ H := by
  refine hc _ fun H' s => ?_
  cases b with
  | true => exact iteT (h1 rfl H' s)
  | false => exact iteF (h2 rfl H' s)
theorem blT {c : Prop} [Decidable c] (h : c) : V.bl (decide c) = V.bl true := congrArg V.bl (decide_eq_true h)
theorem blF {c : Prop} [Decidable c] (h : ¬ c) : V.bl (decide c) = V.bl false := congrArg V.bl (decide_eq_false h)
/-! ### sizes -/
/-- whether it is a size -/
def isSz (n : Int) : Bool := (List.range 61).any fun k => n == Bud.pw k
theorem isSz_iff {n : Int} : isSz n = true ↔ ∃ k, k ≤ 60 ∧ n = Bud.pw k := by
  unfold isSz
  rw [List.any_eq_true]
  constructor
  · rintro ⟨k, hk, e⟩
    exact ⟨k, by have := List.mem_range.mp hk; omega, eq_of_beq e⟩
  · rintro ⟨k, hk, e⟩
    exact ⟨k, List.mem_range.mpr (by omega), beq_iff_eq.mpr e⟩
theorem pw60 : Bud.pw 60 = 1152921504606846976 := by decide +kernel
theorem pw61 : Bud.pw 61 = 2305843009213693952 := by decide +kernel
theorem pw_bound {n : Nat} (h : n ≤ 61) : Bud.pw n ≤ 2305843009213693952 := by
  rw [← pw61]
  exact Bud.pw_le h
theorem isSz_low {n : Int} (h : n < 1) : isSz n = false := by
  cases e : isSz n with
  | false => rfl
  | true =>
    obtain ⟨k, hk, rfl⟩ := isSz_iff.mp e
    have := Bud.pw_pos k
    omega
theorem isSz_high {n : Int} (h : 1152921504606846976 < n) : isSz n = false := by
  cases e : isSz n with
  | false => rfl
  | true =>
    obtain ⟨k, hk, rfl⟩ := isSz_iff.mp e
    have := Bud.pw_le hk
    rw [pw60] at this
    omega
theorem isSz_fit {n : Int} (h : 1 ≤ n) (h' : n ≤ 1152921504606846976) : decide (Bud.fit n = n) = isSz n := by
  have hf : Bud.fe n ≤ 60 := Bud.fe_le (by rw [pw60]; exact h')
  cases e : isSz n with
  | true =>
    obtain ⟨k, hk, rfl⟩ := isSz_iff.mp e
    refine decide_eq_true ?_
    unfold Bud.fit
    rw [Bud.fe_eq (n := k) (Int.le_refl _) fun i hi => Bud.pw_lt hi]
  | false =>
    refine decide_eq_false fun q => ?_
    have : isSz n = true := isSz_iff.mpr ⟨Bud.fe n, hf, q.symm⟩
    rw [e] at this
    cases this

/-! ### isinstance of the exception that the suite holds, its class told in the reading -/
section
variable {X : Cx} {a : Addr} {oe : Obj} {cls : Value} {d : Option Addr} {pn : List (Addr × Obj)}
def rIsEv (K : PySem.W.Frag) (a : Addr) (cls : Value) (d : Option Addr) : List V → Hp → VK → Prop := fun xs H Q => ∃ (D : Addr) (c : V) (cv : Value) (b : Bool), cls = .ref D ∧ d = none ∧ ExcC K D ∧ xs = [.ref a, c] ∧ ClsV c cv ∧ PySem.W.kitOne K (.ref D) cv = some b ∧ Q (.bl b) H
theorem call_isEv (hz : Zc cls d oe) (hf : ∃ vs, oe.data = .fields vs) : CallR (X.suite a ((a, oe) :: pn)) (.builtin "isinstance") (rIsEv X.K a cls d) := by
  intro pins s σ H xs us Q I r h
  obtain ⟨D, c, cv, b, rfl, rfl, C, e, hc, hk, q⟩ := h
  exact call_isE C hz hf pins s σ H xs us Q I r ⟨c, cv, b, e, fun u ru => hc.eq ru, hk, q⟩
def rIsETv (K : PySem.W.Frag) (a : Addr) (cls : Value) (d : Option Addr) : List V → Hp → VK → Prop := fun xs H Q => ∃ (D tp : Addr) (cs : List V) (ws : List Value) (b : Bool), cls = .ref D ∧ d = none ∧ ExcC K D ∧ xs = [.ref a, .ref tp] ∧ H tp = some (.tup cs) ∧ Paired ClsV cs ws ∧ PySem.W.kitAny K (.ref D) ws = some b ∧ Q (.bl b) H
theorem call_isETv (hz : Zc cls d oe) (hf : ∃ vs, oe.data = .fields vs) : CallR (X.suite a ((a, oe) :: pn)) (.builtin "isinstance") (rIsETv X.K a cls d) := by
  intro pins s σ H xs us Q I r h
  obtain ⟨D, tp, cs, ws, b, rfl, rfl, C, rfl, hT, k, e, q⟩ := h
  obtain ⟨u1, u2, rfl, r1, r2⟩ := vals2 r
  cases (show u2 = Value.ref tp from r2)
  cases (show u1 = Value.ref a from r1)
  obtain ⟨hget, _⟩ := I.pin (a, oe) (List.mem_append.mpr (.inl List.mem_cons_self))
  obtain ⟨vs, hv⟩ := hf
  have J : PySem.W.InstAt s.heap a oe D none := by
    obtain ⟨oc, od, oda, osl⟩ := oe
    obtain ⟨h1, h2⟩ := hz
    dsimp only at h1 h2 hv
    subst h1 h2 hv
    exact ⟨hget, rfl, rfl, trivial⟩
  obtain ⟨_, its, rv, o, h1, h2, n, h3⟩ := (show ObjOk X.prog X.w H s.heap tp (.tup cs) from I.hok tp _ hT)
  have e3 := ClsV.all k rv
  subst e3
  obtain ⟨oc, od, dt, sl⟩ := o
  simp only at h2 h3
  subst h2 h3
  exact PySem.W.kia_tup (PySem.W.handS_kitx_exc C.hg C.hk C.hs C.hd C.ha C.hn C.ht C.hm) I.kIn J h1 e (fun z => nomatch z) fun tk => ⟨.bl b, H, I.kept (t' := tk) fun _ _ z => z, rfl, q⟩
end
/-- ExcC by one Bool -/
def exB (K : PySem.W.Frag) (D : Addr) : Bool :=
  He.eqO (PySem.W.findIn K (.ref D) "__getattribute__") (some (some (.builtin "BaseException.__getattribute__"))) &&
  (He.eqO (PySem.W.findIn K (.ref D) "__getattr__") (some none) &&
  (decide (PySem.W.subIn K (.ref D) (.type "BaseException") = some true) &&
  (PySem.W.hasDictIn K D &&
  (He.eqO (PySem.W.findIn K (.ref D) "__class__") (some (some (.builtin "object.__class__"))) &&
  (He.eqO (PySem.W.specialIn K (.builtin "object.__class__") "__get__") (some (some (.builtin "getset_descriptor.__get__"))) &&
  (decide (PySem.W.takesIn K (.builtin "object.__class__") = some true) &&
  decide (PySem.W.mroIn K D (.type "object") = some true)))))))
theorem exB_ok {K : PySem.W.Frag} {D : Addr} (h : exB K D = true) : ExcC K D := by
  unfold exB at h
  simp only [Bool.and_eq_true] at h
  obtain ⟨h1, h2, h3, h4, h5, h6, h7, h8⟩ := h
  exact ⟨He.eqO_ok h1, He.eqO_ok h2, of_decide_eq_true h3, h4, He.eqO_ok h5, He.eqO_ok h6, of_decide_eq_true h7, of_decide_eq_true h8⟩
end Yd

set_option Elab.async false
set_option linter.all false
set_option maxRecDepth 100000
set_option maxHeartbeats 4000000
/-! Lists of pairs of whole numbers, a yard in the heap. -/
namespace Yd
open PySem PySem.Spec L2
open PyProof.Rows (envOfC)
open Bud (Pc)

theorem hu65 {A : Around} {k : Nat} (hr : Room k A) : A.units + 65 < cLine := by have := hr.un; omega
/-! ### pairs -/
/-- x is a pair of whole numbers p -/
def IsPr (H : Hp) (x : V) (p : Pc) : Prop := ∃ t, x = .ref t ∧ H t = some (.tup [.int p.1, .int p.2])
/-- xs are the pairs L -/
abbrev Prs (H : Hp) : List V → List Pc → Prop := Paired (IsPr H)
def pairOf (H : Hp) (x : V) : Pc := match x with
  | .ref t => (match H t with
    | some (.tup [.int i, .int j]) => (i, j)
    | _ => (0, 0))
  | _ => (0, 0)
theorem IsPr.of {H : Hp} {x : V} {p : Pc} (h : IsPr H x p) : pairOf H x = p := by
  obtain ⟨t, rfl, e⟩ := h
  unfold pairOf
  simp only [e]
theorem Prs.length {H : Hp} {xs : List V} {L : List Pc} (h : Prs H xs L) : xs.length = L.length := Paired.length h
theorem Prs.map_of {H : Hp} : ∀ {xs : List V} {L : List Pc}, Prs H xs L → L = xs.map (pairOf H)
  | _, _, .nil => rfl
  | _, _, .cons r t => by rw [List.map_cons, ← Prs.map_of t, r.of]
theorem Prs.mem {H : Hp} : ∀ {xs : List V} {L : List Pc}, Prs H xs L → ∀ x ∈ xs, IsPr H x (pairOf H x)
  | _, _, .nil, x, hx => by cases hx
  | _, _, .cons r t, x, hx => by
    rcases List.mem_cons.mp hx with rfl | hx
    · rw [r.of]; exact r
    · exact Prs.mem t x hx
theorem Prs.of_mem {H : Hp} : ∀ {xs : List V}, (∀ x ∈ xs, IsPr H x (pairOf H x)) → Prs H xs (xs.map (pairOf H))
  | [], _ => .nil
  | x :: xs, h => .cons (h x List.mem_cons_self) (Prs.of_mem fun y hy => h y (List.mem_cons_of_mem _ hy))
theorem Prs.append {H : Hp} : ∀ {xs ys : List V} {L M : List Pc}, Prs H xs L → Prs H ys M → Prs H (xs ++ ys) (L ++ M)
  | _, _, _, _, .nil, h => h
  | _, _, _, _, .cons r t, h => .cons r (Prs.append t h)
theorem Prs.get {H : Hp} : ∀ {xs : List V} {L : List Pc} {i : Nat} {x : V}, Prs H xs L → xs[i]? = some x → ∃ p, L[i]? = some p ∧ IsPr H x p
  | _, _, _, _, .nil, e => by simp at e
  | _, _, 0, _, .cons r _, e => by simp at e; subst e; exact ⟨_, rfl, r⟩
  | _, _, i + 1, x, .cons _ t, e => by
    obtain ⟨u, h1, h2⟩ := Prs.get (i := i) (x := x) t (by simpa using e)
    exact ⟨u, by simpa using h1, h2⟩
theorem Prs.get' {H : Hp} : ∀ {xs : List V} {L : List Pc} {i : Nat} {p : Pc}, Prs H xs L → L[i]? = some p → ∃ x, xs[i]? = some x ∧ IsPr H x p
  | _, _, _, _, .nil, e => by simp at e
  | _, _, 0, _, .cons r _, e => by simp at e; subst e; exact ⟨_, rfl, r⟩
  | _, _, i + 1, p, .cons _ t, e => by
    obtain ⟨u, h1, h2⟩ := Prs.get' (i := i) (p := p) t (by simpa using e)
    exact ⟨u, by simpa using h1, h2⟩
theorem Prs.eraseIdx {H : Hp} : ∀ {xs : List V} {L : List Pc} (i : Nat), Prs H xs L → Prs H (xs.eraseIdx i) (L.eraseIdx i)
  | _, _, _, .nil => .nil
  | _, _, 0, .cons _ t => t
  | _, _, i + 1, .cons r t => .cons r (Prs.eraseIdx i t)
theorem Prs.take {H : Hp} : ∀ {xs : List V} {L : List Pc} (i : Nat), Prs H xs L → Prs H (xs.take i) (L.take i)
  | _, _, 0, _ => .nil
  | _, _, _ + 1, .nil => .nil
  | _, _, i + 1, .cons r t => .cons r (Prs.take i t)
/-- the tuples stand still -/
def TupKept (H H' : Hp) : Prop := ∀ t xs, H t = some (.tup xs) → H' t = some (.tup xs)
theorem IsPr.kept {H H' : Hp} {x : V} {p : Pc} (k : TupKept H H') (h : IsPr H x p) : IsPr H' x p := by
  obtain ⟨t, e, e2⟩ := h
  exact ⟨t, e, k _ _ e2⟩
theorem Prs.kept {H H' : Hp} (k : TupKept H H') {xs : List V} {L : List Pc} (h : Prs H xs L) : Prs H' xs L := Paired.mapP h fun _ _ r => r.kept k
theorem Same.tups {H H' : Hp} (s : Same H H') : TupKept H H' := fun t xs e => s t _ e
theorem tups_upd {H : Hp} {a : Addr} {o : HO} (h : H a = none) : TupKept H (upd H a o) := fun t xs e => by
  rw [upd_ne (ne_of_none e h)]
  exact e
/-- a store to what is no tuple -/
theorem tups_put {H : Hp} {a : Addr} {o u : HO} (h : H a = some u) (hn : ∀ xs, u ≠ .tup xs) : TupKept H (upd H a o) := fun t xs e => by
  refine (upd_ne ?_).trans e
  intro q
  rw [q, h] at e
  exact hn xs (Option.some.inj e)
theorem TupKept.trans {H H1 H2 : Hp} (a : TupKept H H1) (b : TupKept H1 H2) : TupKept H H2 := fun t xs e => b _ _ (a _ _ e)
theorem same_new {H : Hp} {p : Addr} {o : HO} (h : H p = none) : Same H (upd H p o) := fun b u e => by
  rw [upd_ne (ne_of_none e h)]
  exact e

/-! ### the same as data -/
def pD (p : Pc) : PyData := .tuple [.int p.1, .int p.2]
theorem pD_depth (p : Pc) : (pD p).depth = 1 := by simp [pD, PyData.depth, PyData.depthAll]
theorem pD_lay (p : Pc) : (pD p).canLay0 = true := by simp [pD, PyData.canLay0, PyData.canLayAll0]
theorem pDs_lay : ∀ L : List Pc, PyData.canLayAll0 (L.map pD) = true
  | [] => by simp [PyData.canLayAll0]
  | p :: L => by simp [PyData.canLayAll0, pD_lay p, pDs_lay L]
theorem pD_plain (p : Pc) : (pD p).plain = true := by simp [pD, PyData.plain, PyData.plainAll]
theorem pDs_plain : ∀ L : List Pc, PyData.plainAll (L.map pD) = true
  | [] => by simp [PyData.plainAll]
  | p :: L => by simp [PyData.plainAll, pD_plain p, pDs_plain L]
theorem pDs_depth : ∀ L : List Pc, PyData.depthAll (L.map pD) ≤ 1
  | [] => by simp [PyData.depthAll]
  | p :: L => by
    have h1 := pDs_depth L
    have h2 := pD_depth p
    simp only [List.map_cons, PyData.depthAll]
    omega
theorem pD_shaped (p : Pc) : SeqAt.shaped (pD p) = true := by
  have h := pD_depth p
  show ((pD p).canLay0 && decide ((pD p).depth ≤ 64)) = true
  rw [Bool.and_eq_true]
  exact ⟨pD_lay p, decide_eq_true (by omega)⟩
theorem pDs_shaped (L : List Pc) : SeqAt.shaped (.list (L.map pD)) = true := by
  have h1 := pDs_depth L
  have h2 : PyData.depth (.list (L.map pD)) ≤ 64 := by
    simp only [PyData.depth]
    omega
  show (PyData.canLay0 (.list (L.map pD)) && decide (PyData.depth (.list (L.map pD)) ≤ 64)) = true
  rw [Bool.and_eq_true]
  exact ⟨by simp only [PyData.canLay0]; exact pDs_lay L, decide_eq_true h2⟩
theorem pD_eqv (p q : Pc) : PyData.eqv (pD p) (pD q) = decide (p = q) := by
  obtain ⟨a, b⟩ := p
  obtain ⟨c, d⟩ := q
  have e : PyData.eqv (pD (a, b)) (pD (c, d)) = ((a == c) && ((b == d) && true)) := by simp only [pD, PyData.eqv, PyData.eqvAll]
  rw [e]
  by_cases h : ((a, b) : Pc) = (c, d)
  · cases h
    simp
  · rw [decide_eq_false h]
    by_cases h1 : a = c
    · have h2 : ¬ b = d := fun q => h (by rw [h1, q])
      rw [beq_eq_false_iff_ne.mpr h2, Bool.false_and, Bool.and_false]
    · rw [beq_eq_false_iff_ne.mpr h1, Bool.false_and]
theorem pDs_eqv : ∀ L M : List Pc, PyData.eqvAll (L.map pD) (M.map pD) = decide (L = M)
  | [], [] => by simp [PyData.eqvAll]
  | [], q :: M => by simp [PyData.eqvAll]
  | p :: L, [] => by simp [PyData.eqvAll]
  | p :: L, q :: M => by
    simp only [List.map_cons, PyData.eqvAll, pD_eqv, pDs_eqv L M]
    by_cases h1 : p = q
    · by_cases h2 : L = M
      · rw [decide_eq_true h1, decide_eq_true h2, decide_eq_true (by rw [h1, h2])]
        rfl
      · rw [decide_eq_false h2, decide_eq_false (fun z => h2 (List.cons.inj z).2), Bool.and_false]
    · rw [decide_eq_false h1, decide_eq_false (fun z => h1 (List.cons.inj z).1), Bool.false_and]
theorem IsPr.dp {K : PySem.W.Frag} {H : Hp} {x : V} {p : Pc} (h : IsPr H x p) : Dp K H x (pD p) := by
  obtain ⟨t, rfl, e⟩ := h
  exact .tup (SqT.of e) (.cons (.int _) (.cons (.int _) .nil))
theorem Prs.dps {K : PySem.W.Frag} {H : Hp} : ∀ {xs : List V} {L : List Pc}, Prs H xs L → DpAll K H xs (L.map pD)
  | _, _, .nil => .nil
  | _, _, .cons r t => .cons r.dp (Prs.dps t)
theorem Prs.dp {K : PySem.W.Frag} {H : Hp} {l : Addr} {xs : List V} {L : List Pc} (h : Prs H xs L) (hl : SqL K H l xs) : Dp K H (.ref l) (.list (L.map pD)) := .lst hl h.dps
theorem any_pD (L : List Pc) (p : Pc) : ((L.map pD).any fun z => PyData.eqv z (pD p)) = decide (p ∈ L) := by
  rw [List.any_map]
  by_cases h : p ∈ L
  · rw [decide_eq_true h]
    exact List.any_eq_true.mpr ⟨p, h, by simp [Function.comp, pD_eqv]⟩
  · rw [decide_eq_false h]
    refine List.any_eq_false.mpr fun q hq => ?_
    simp only [Function.comp, pD_eqv, decide_eq_true_eq]
    intro e
    rw [e] at hq
    exact h hq

section
variable {X : Cx}
def rInP (K : PySem.W.Frag) (neg : Bool) : R2 := fun x y H Q => ∃ (l : Addr) (vs : List V) (L : List Pc) (p : Pc), y = .ref l ∧ SqL K H l vs ∧ Prs H vs L ∧ IsPr H x p ∧ Q (.bl (if neg then !decide (p ∈ L) else decide (p ∈ L))) H
theorem op_inP (hu : X.A.units + 65 < cLine) : OpR X (compareOp .In) (rInP X.K false) := by
  intro pins s σ H x y v u Q I rx ry h
  obtain ⟨l, vs, L, p, rfl, hl, hp, hx, q⟩ := h
  refine op_inD hu pins s σ H x _ v u Q I rx ry ⟨pD p, L.map pD, hx.dp, hp.dp hl, pD_shaped p, pDs_shaped L, ?_⟩
  rw [any_pD]
  exact q
theorem op_notInP (hu : X.A.units + 65 < cLine) : OpR X (compareOp .NotIn) (rInP X.K true) := by
  intro pins s σ H x y v u Q I rx ry h
  obtain ⟨l, vs, L, p, rfl, hl, hp, hx, q⟩ := h
  refine op_notInD hu pins s σ H x _ v u Q I rx ry ⟨pD p, L.map pD, hx.dp, hp.dp hl, pD_shaped p, pDs_shaped L, ?_⟩
  rw [any_pD]
  exact q
/-- two lists of pairs -/
def rEqPs (K : PySem.W.Frag) (neg : Bool) : R2 := fun x y H Q => ∃ (l m : Addr) (vs us : List V) (L M : List Pc), x = .ref l ∧ y = .ref m ∧ SqL K H l vs ∧ SqL K H m us ∧ Prs H vs L ∧ Prs H us M ∧ Q (.bl (if neg then !decide (L = M) else decide (L = M))) H
theorem op_eqPs (hu : X.A.units + 64 < cLine) : OpR X (compareOp .Eq) (rEqPs X.K false) := by
  intro pins s σ H x y v u Q I rx ry h
  obtain ⟨l, m, vs, us, L, M, rfl, rfl, hl, hm, hp, hq, q⟩ := h
  refine op_eqD hu pins s σ H _ _ v u Q I rx ry ⟨_, _, hp.dp hl, hq.dp hm, pDs_shaped L, pDs_shaped M, ?_⟩
  simp only [PyData.eqv]
  rw [pDs_eqv]
  exact q
theorem op_nePs (hu : X.A.units + 64 < cLine) : OpR X (compareOp .NotEq) (rEqPs X.K true) := by
  intro pins s σ H x y v u Q I rx ry h
  obtain ⟨l, m, vs, us, L, M, rfl, rfl, hl, hm, hp, hq, q⟩ := h
  refine op_neD hu pins s σ H _ _ v u Q I rx ry ⟨_, _, hp.dp hl, hq.dp hm, pDs_shaped L, pDs_shaped M, ?_⟩
  simp only [PyData.eqv]
  rw [pDs_eqv]
  exact q
theorem eqT {L M : List Pc} (h : L = M) : V.bl (if false = true then !decide (L = M) else decide (L = M)) = V.bl true := by
  rw [decide_eq_true h]
  rfl
theorem neF {L M : List Pc} (h : L = M) : V.bl (if true = true then !decide (L = M) else decide (L = M)) = V.bl false := by
  rw [decide_eq_true h]
  rfl
/-- two pairs -/
def rNeP : R2 := fun x y H Q => ∃ p q : Pc, IsPr H x p ∧ IsPr H y q ∧ Q (.bl (!decide (p = q))) H
theorem op_neP (hu : X.A.units + 64 < cLine) : OpR X (compareOp .NotEq) rNeP := by
  intro pins s σ H x y v u Q I rx ry h
  obtain ⟨p, q, hp, hq, k⟩ := h
  refine op_neD hu pins s σ H _ _ v u Q I rx ry ⟨_, _, hp.dp, hq.dp, pD_shaped p, pD_shaped q, ?_⟩
  rw [pD_eqv]
  exact k
/-- sorted of a list of pairs -/
def rSortPs (K : PySem.W.Frag) : List V → Hp → VK → Prop := fun vs H Q => ∃ (a : Addr) (xs : List V) (L : List Pc), vs = [.ref a] ∧ SqL K H a xs ∧ Prs H xs L ∧
  ∀ (ys : List V) (M : List Pc) (q : Addr), M.Perm L → Bud.Srt M → Prs H ys M → H q = none → Q (.ref q) (upd H q (.lst ys))
theorem cr_sortPs : CallR X (.builtin "sorted") (rSortPs X.K) := by
  intro pins s σ H vs us Q I r h
  obtain ⟨a, xs, L, rfl, hl, hp, k⟩ := h
  refine cr_sortedPO pins s σ H _ us Q I r ⟨a, xs, pairOf H, rfl, hl, fun x hx => hp.mem x hx, fun ys q hs hb hq => ?_⟩
  have hm : ∀ y ∈ ys, IsPr H y (pairOf H y) := fun y hy => hp.mem y (hb.perm.mem_iff.mp hy)
  refine k ys (ys.map (pairOf H)) q ?_ ?_ (Prs.of_mem hm) hq
  · rw [hp.map_of]
    exact hb.perm.map _
  · refine List.pairwise_map.mpr (List.Pairwise.imp (fun {x y} h => ?_) hs)
    have := SrtO.lexB_no.mp h
    unfold Bud.lexle
    omega
end

/-! ### p[0], p[1] of a pair -/
section
variable {X : Cx} {e i : Expr} {te : TE} {pos p2 : Pos} {k : Nat}
def tSel0 (te : TE) : TE := fun σ H Q => te σ H fun x H1 => ∃ p : Pc, IsPr H1 x p ∧ Q (.int p.1) H1
def tSel1 (te : TE) : TE := fun σ H Q => te σ H fun x H1 => ∃ p : Pc, IsPr H1 x p ∧ Q (.int p.2) H1
theorem pe_p0 {p3 : Pos} (he : PE X e te) : PE X (.Subscript e (.Constant (.int 0) k p3) pos) (tSel0 te) := by
  refine ⟨fun pins s σ H Q I h => ?_⟩
  refine PyProof.Rows.Subscript_ (thn (he.run pins s σ H _ I h) fun v s1 ⟨x, H1, I1, rx, p, hp, q⟩ => thn (pe_int.run pins s1 σ H1 (fun y H2 => y = .int 0 ∧ H2 = H1) I1 ⟨rfl, rfl⟩) fun u s2 ⟨y, H2, I2, ry, ey, eH⟩ => ?_)
  subst ey
  subst eH
  obtain ⟨t, rfl, et⟩ := hp
  exact ix_tup e _ pins s2 σ H2 _ _ v u Q I2 rx ry ⟨t, _, 0, _, rfl, rfl, SqT.of et, rfl, q⟩ rfl
theorem pe_p1 {p3 : Pos} (he : PE X e te) : PE X (.Subscript e (.Constant (.int 1) k p3) pos) (tSel1 te) := by
  refine ⟨fun pins s σ H Q I h => ?_⟩
  refine PyProof.Rows.Subscript_ (thn (he.run pins s σ H _ I h) fun v s1 ⟨x, H1, I1, rx, p, hp, q⟩ => thn (pe_int.run pins s1 σ H1 (fun y H2 => y = .int 1 ∧ H2 = H1) I1 ⟨rfl, rfl⟩) fun u s2 ⟨y, H2, I2, ry, ey, eH⟩ => ?_)
  subst ey
  subst eH
  obtain ⟨t, rfl, et⟩ := hp
  exact ix_tup e _ pins s2 σ H2 _ _ v u Q I2 rx ry ⟨t, _, 1, _, rfl, rfl, SqT.of et, rfl, q⟩ rfl
theorem PE.imp {X : Cx} {e : Expr} {t t' : TE} (h : PE X e t) (i : ∀ σ H Q, t' σ H Q → t σ H Q) : PE X e t' := ⟨fun pins s σ H Q I q => h.run pins s σ H Q I (i σ H Q q)⟩
end

/-! ### xs.remove(p), p a pair that is there -/
theorem place_pD : ∀ {L : List Pc} {p : Pc}, p ∈ L → ∃ j, SeqAt.dataPlace (L.map pD) (pD p) = some j ∧ L.eraseIdx j = L.erase p
  | [], p, h => by cases h
  | q :: L, p, h => by
    unfold SeqAt.dataPlace
    rw [List.map_cons, List.findIdx?_cons, pD_eqv]
    by_cases e : q = p
    · subst e
      rw [decide_eq_true rfl]
      exact ⟨0, rfl, by rw [List.erase_cons_head]; rfl⟩
    · rw [decide_eq_false e]
      have hp : p ∈ L := by
        rcases List.mem_cons.mp h with z | z
        · exact absurd z.symm e
        · exact z
      obtain ⟨j, h1, h2⟩ := place_pD hp
      unfold SeqAt.dataPlace at h1
      refine ⟨j + 1, ?_, ?_⟩
      · simp only [Bool.false_eq_true, if_false]
        rw [h1]
        rfl
      · rw [List.erase_cons_tail (by simpa using e), ← h2]
        rfl
section
variable {X : Cx}
def rRemP : V → List V → Hp → VK → Prop := fun x xs H Q => ∃ (l : Addr) (y : V) (vs : List V) (L : List Pc) (p : Pc), x = .ref l ∧ xs = [y] ∧ H l = some (.lst vs) ∧ Prs H vs L ∧ IsPr H y p ∧ p ∈ L ∧
  ∀ vs', Prs H vs' (L.erase p) → Q .non (upd H l (.lst vs'))
theorem mt_removeP (hu : X.A.units + 65 < cLine) : MtR X "list.remove" rRemP := by
  intro pins s σ H x xs v us Q I rx rxs h
  obtain ⟨l, y, vs, L, p, rfl, rfl, hl, hp, hy, hm, q⟩ := h
  cases rx
  obtain ⟨u, rfl, ry⟩ := vals1 rxs
  obtain ⟨z, its, n, r, hlen, e0⟩ := I.lstM hl
  obtain ⟨bs, r1⟩ := Dp.reads I (pD p) y u (hy.dp (K := X.K)) ry
  obtain ⟨as, r2⟩ := Dp.readsAll I (L.map pD) vs its (hp.dps (K := X.K)) r
  obtain ⟨j, hj, he⟩ := place_pD hm
  have hsz : its.toArray.size ≤ sizeLine := by rw [List.size_toArray, ← hlen]; exact z
  refine SeqAt.remove_list_data (vs := its.toArray) ⟨_, e0, rfl, n, rfl⟩ r2 r1 (pDs_plain L) (pD_plain p) ?_ hj hsz ?_
  · have h1 := pD_depth p
    have h2 : min (PyData.depthAll (L.map pD)) (pD p).depth ≤ (pD p).depth := Nat.min_le_right _ _
    omega
  · refine ⟨.non, _, I.lset (its' := its.eraseIdx j) hl e0 ?_ (r.eraseIdx j) ?_, rfl, q (vs.eraseIdx j) ?_⟩
    · show its.toArray.eraseIdxIfInBounds j = (its.eraseIdx j).toArray
      rw [List.eraseIdxIfInBounds_toArray]
    · have := List.length_eraseIdx_le vs j
      omega
    · rw [← he]
      exact hp.eraseIdx j
/-- sorted(d): the keys of a dict, all whole numbers, any number of them -/
def rSortD : List V → Hp → VK → Prop := fun xs H Q => ∃ (a : Addr) (kvs : List (Key × V)) (ks : List Int), xs = [.ref a] ∧ Rd H a (.dK kvs) ∧ kvs.map (·.1) = ks.map Sum.inl ∧
    ∀ (ys : List Int) (p : Addr), ys.Perm ks → ys.Pairwise (· ≤ ·) → H p = none → Q (.ref p) (upd H p (.lst (ys.map V.int)))
theorem cr_sortD (hcalm : X.calm = true) : CallR X (.builtin "sorted") rSortD := by
  intro pins s σ H xs us Q I r q
  obtain ⟨a, kvs, ks, rfl, hd, hks, q⟩ := q
  obtain ⟨u, rfl, rx⟩ := vals1 r
  cases rx
  obtain ⟨z, lo, vs, rel, dd⟩ := dk_rd I.hok hd
  obtain ⟨ep, hat⟩ := dd.dictAt
  have hkeys : vs.map (·.1) = ks.map Sum.inl := rel.keys.symm.trans hks
  have hl : vs.length = ks.length := by
    have e := congrArg List.length hkeys
    rw [List.length_map, List.length_map] at e
    exact e
  have h16 : vs.length ≤ sizeLine := by
    have e : kvs.length = vs.length := Paired.length rel
    omega
  refine Calls.call_function_entry PyProof.Rows.kind_sorted PyProof.Rows.plain_sorted PyProof.Rows.entry_sorted (PyProof.Rows.args_sorted1 _) ?_
  unfold Builtin.«sorted»
  refine wpAny_bind (m := checkCount "sorted" 1 1 _) (wpAny_pure ?_)
  refine wpAny_bind (PySem.W.kdu_collect (A := X.A.in1) (PySem.W.kdl_dict (knd := mixKind X.prog X.w) (kvs := vs) (ep := ep) lo) (I.ok.hd hcalm) hat h16 fun h' tk acc hk hacc => ?_)
  have hal : acc.toList.length = ks.length := by rw [Array.length_toList, hacc.1, hl]
  have hS : PyProof.Rows.IntsAre acc.toList ks := ints_each hal fun j v e => by
    obtain ⟨k, x, e1, e2⟩ := hacc.2 j v (by rw [← Array.getElem?_toList]; exact e)
    have e3 : (vs.map (·.1))[j]? = some k := by rw [List.getElem?_map, e1]; rfl
    rw [hkeys, List.getElem?_map] at e3
    cases e4 : ks[j]? with
    | none => rw [e4] at e3; cases e3
    | some y =>
      rw [e4] at e3
      have e5 : Sum.inl y = k := Option.some.inj e3
      subst e5
      rcases keyIs_shape (show keyIs (Sum.inl y) v = true from e2) with ⟨i, t, ek, ev⟩ | ⟨z, t, ek, ev⟩
      · cases ek
        exact ⟨y, t, rfl, ev⟩
      · cases ek
  have I1 : Inv X pins σ H { s with heap := h', toks := tk } := I.kept hk
  have hzz : acc.toList.length ≤ sizeLine := by omega
  refine wpAny_bind (wpAny_newList ?_ hzz)
  have hoL : (h'.push (PyProof.Rows.seqObj "list" acc.toList.toArray 0)).get? h'.objs.size = some (PyProof.Rows.seqObj "list" acc.toList.toArray 0) := Heap.get?_push_size _ rfl
  show wpAny _ _ _ _ _ { s with heap := h'.push (PyProof.Rows.seqObj "list" acc.toList.toArray 0), toks := tk }
  refine wpAny_bind (wpAny_holding (wpAny_call_entry PyProof.Rows.slot_list_sort ⟨_, hoL, rfl⟩ PyProof.Rows.entry_list_sort
    (SrtO.list_sort_ord (s := { s with heap := h'.push (PyProof.Rows.seqObj "list" acc.toList.toArray 0), toks := tk }) SrtO.swo_int hoL hzz (fun h2 => SrtO.ints_sortable hS h2) fun out g1 g2 => ⟨_, rfl, ?_⟩) (PyProof.Rows.args_list_sort _)))
  obtain ⟨k1, k2, k3⟩ := SrtO.ints_out hS g1 g2
  obtain ⟨e', he'⟩ := PyProof.Rows.sortedHeap_at (vs := acc.toList) (out := out.toArray) hoL
  have hlen : ((out.map SrtO.iv).map V.int).length ≤ sizeLine := by
    rw [List.length_map, k2.length_eq]
    omega
  refine wpAny_pure ⟨_, rfl, .ref h'.objs.size, upd H h'.objs.size (.lst ((out.map SrtO.iv).map V.int)), I1.laid (t' := tk) (fun b u e => ?_) (Nat.le_refl _)
    (show ObjOk X.prog X.w _ _ _ (.lst ((out.map SrtO.iv).map V.int)) from ⟨hlen, out, e', vals_of_ints k1, he'⟩), rfl, q _ _ k2 k3 (I1.hok.fresh (Nat.le_refl _))⟩
  have hb : b < h'.objs.size := Heap.lt_size e
  rw [PyProof.Rows.sortedHeap_old (Nat.ne_of_lt hb) (by rw [Heap.size_push]; exact Nat.lt_succ_of_lt hb)]
  exact Heap.get?_push_of_some _ e
end
end Yd

set_option Elab.async false
set_option linter.all false
set_option maxRecDepth 100000
set_option maxHeartbeats 4000000
/-! A yard in the heap. -/
namespace Yd
open PySem PySem.Spec L2
open PyProof.Rows (envOfC)
open Bud (Pc T Can frees outs pw)

/-! ### its fields -/
theorem n_cs : ¬ (("cells" : Str) = "spare") := by decide +kernel
theorem n_cg : ¬ (("cells" : Str) = "given") := by decide +kernel
theorem n_sg : ¬ (("spare" : Str) = "given") := by decide +kernel
def yf (c : Int) (l d : Addr) : List (Str × V) := putF "given" (.ref d) (putF "spare" (.ref l) (putF "cells" (.int c) []))
theorem yf_eq (c : Int) (l d : Addr) : yf c l d = ([("cells", V.int c), ("spare", V.ref l), ("given", V.ref d)] : List (Str × V)) := by
  unfold yf
  show (if ("cells" : Str) = "given" then _ else (("cells" : Str), V.int c) :: putF "given" (.ref d) (putF "spare" (.ref l) [])) = _ <;>
  first
  | rfl
  | (simp only [putF, if_neg n_cs, if_neg n_cg, if_neg n_sg])
theorem yf_cells (c : Int) (l d : Addr) : (yf c l d).lookup ("cells" : Str) = some (.int c) := by
  unfold yf
  rw [lookup_putF, if_neg n_cg, lookup_putF, if_neg n_cs, lookup_putF, if_pos rfl]
theorem yf_spare (c : Int) (l d : Addr) : (yf c l d).lookup ("spare" : Str) = some (.ref l) := by
  unfold yf
  rw [lookup_putF, if_neg n_sg, lookup_putF, if_pos rfl]
theorem yf_given (c : Int) (l d : Addr) : (yf c l d).lookup ("given" : Str) = some (.ref d) := by
  unfold yf
  rw [lookup_putF, if_pos rfl]
theorem yf_no (c : Int) (l d : Addr) {m : Str} (h1 : ¬ m = "cells") (h2 : ¬ m = "spare") (h3 : ¬ m = "given") : (yf c l d).lookup m = none := by
  unfold yf
  rw [lookup_putF, if_neg h3, lookup_putF, if_neg h2, lookup_putF, if_neg h1]
  rfl
theorem yf_put (c : Int) (l m d : Addr) : putF "spare" (.ref m) (yf c l d) = yf c m d := by
  rw [yf_eq, yf_eq]
  simp only [putF, if_neg n_cs, if_pos]
theorem yf_len (c : Int) (l d : Addr) : (yf c l d).length < 1000 := by
  rw [yf_eq]
  show 3 < 1000
  decide

/-! ### the dict of what is given -/
def gk (G : List Pc) : List (Key × V) := G.map fun p => ((Sum.inl p.1 : Key), V.int p.2)
theorem gk_len (G : List Pc) : (gk G).length = G.length := List.length_map _
theorem gk_keys (G : List Pc) : (gk G).map (·.1) = (G.map (·.1)).map Sum.inl := by
  unfold gk
  rw [List.map_map, List.map_map]
  rfl
theorem gk_none {a : Int} : ∀ {G : List Pc}, (∀ p ∈ G, p.1 ≠ a) → valV (gk G) (Sum.inl a : Key) = none
  | [], _ => rfl
  | p :: G, h => by
    show valV (((Sum.inl p.1 : Key), V.int p.2) :: gk G) (Sum.inl a) = none
    rw [valV_neg (fun q => h p List.mem_cons_self (Sum.inl.inj q))]
    exact gk_none fun q hq => h q (List.mem_cons_of_mem _ hq)
theorem gk_val {a s : Int} : ∀ {G : List Pc}, (G.map (·.1)).Nodup → (a, s) ∈ G → valV (gk G) (Sum.inl a : Key) = some (.int s)
  | [], _, h => by cases h
  | p :: G, nd, h => by
    show valV (((Sum.inl p.1 : Key), V.int p.2) :: gk G) (Sum.inl a) = some (.int s)
    have ⟨n1, n2⟩ := List.nodup_cons.mp nd
    rcases List.mem_cons.mp h with e | h
    · rw [← e]
      exact valV_pos rfl
    · rw [valV_neg (fun q => n1 (by
      show p.1 ∈ G.map (·.1)
      rw [show p.1 = a from Sum.inl.inj q]
      exact List.mem_map.mpr ⟨_, h, rfl⟩))]
      exact gk_val n2 h
theorem gk_some {a : Int} {v : V} : ∀ {G : List Pc}, valV (gk G) (Sum.inl a : Key) = some v → ∃ s, v = .int s ∧ (a, s) ∈ G
  | [], h => by cases h
  | p :: G, h => by
    have h' : valV (((Sum.inl p.1 : Key), V.int p.2) :: gk G) (Sum.inl a) = some v := h
    by_cases e : p.1 = a
    · rw [valV_pos (by rw [e])] at h'
      refine ⟨p.2, (Option.some.inj h').symm, ?_⟩
      rw [← e]
      exact List.mem_cons_self
    · rw [valV_neg (fun q => e (Sum.inl.inj q))] at h'
      obtain ⟨s, e1, e2⟩ := gk_some h'
      exact ⟨s, e1, List.mem_cons_of_mem _ e2⟩
theorem gk_drop (G : List Pc) (a : Int) : dropK (gk G) (Sum.inl a : Key) = gk (G.filter fun p => decide (p.1 ≠ a)) := by
  unfold dropK gk
  rw [List.filter_map]
  congr 1
  refine List.filter_congr fun p _ => ?_
  show decide ((Sum.inl p.1 : Key) ≠ Sum.inl a) = decide (p.1 ≠ a)
  exact decide_eq_decide.mpr ⟨fun h q => h (by rw [q]), fun h q => h (Sum.inl.inj q)⟩
theorem gk_new {G : List Pc} {a s : Int} (h : valV (gk G) (Sum.inl a : Key) = none) : putK (gk G) (Sum.inl a) (.int s) = gk (G ++ [(a, s)]) := by
  rw [putK_new _ h]
  unfold gk
  rw [List.map_append]
  rfl
theorem gk_old {G : List Pc} {a s : Int} {v : V} (h : valV (gk G) (Sum.inl a : Key) = some v) : putK (gk G) (Sum.inl a) (.int s) = gk (G.map fun p => if p.1 = a then (p.1, s) else p) := by
  unfold putK
  rw [valV_any, h, if_pos (show (some v).isSome = true from rfl)]
  unfold gk
  rw [List.map_map, List.map_map]
  refine List.map_congr_left fun p _ => ?_
  show (if (Sum.inl p.1 : Key) = Sum.inl a then _ else _) = _
  by_cases e : p.1 = a
  · rw [if_pos (by rw [e])]
    show _ = ((Sum.inl (if p.1 = a then (p.1, s) else p).1 : Key), V.int (if p.1 = a then (p.1, s) else p).2)
    rw [if_pos e]
  · rw [if_neg (fun q => e (Sum.inl.inj q))]
    show _ = ((Sum.inl (if p.1 = a then (p.1, s) else p).1 : Key), V.int (if p.1 = a then (p.1, s) else p).2)
    rw [if_neg e]

/-! ### what stays -/
/-- all but what stands at p and d is as it was -/
def Kp (p d : Addr) (H H' : Hp) : Prop := ∀ b o, H b = some o → b ≠ p → b ≠ d → H' b = some o
theorem Same.kp {H H' : Hp} (s : Same H H') (p d : Addr) : Kp p d H H' := fun b o e _ _ => s b o e
theorem Kp.trans {p d : Addr} {H H1 H2 : Hp} (a : Kp p d H H1) (b : Kp p d H1 H2) : Kp p d H H2 := fun c o e h1 h2 => b c o (a c o e h1 h2) h1 h2
theorem Kp.free {p d : Addr} {H H' : Hp} (k : Kp p d H H') {b : Addr} (hp : b ≠ p) (hd : b ≠ d) (h : H' b = none) : H b = none := by
  cases q : H b with
  | none => rfl
  | some o =>
    rw [k b o q hp hd] at h
    cases h
/-- a yard at p, its dict at d -/
def YardAt (K : PySem.W.Frag) (H : Hp) (p d : Addr) (c : Int) (L G : List Pc) : Prop := ∃ (dx l : Addr) (xs : List V), H p = some (.ins (He.ga K "Yard") dx (yf c l d)) ∧ H l = some (.lst xs) ∧ Prs H xs L ∧ H d = some (.dK (gk G))
/-- there is a yard -/
def HasY (H : Hp) (p d : Addr) : Prop := (∃ C dx fs, H p = some (.ins C dx fs)) ∧ ∃ kvs, H d = some (.dK kvs)
section
variable {K : PySem.W.Frag} {H H' : Hp} {p d : Addr} {c : Int} {L G : List Pc}
theorem YardAt.has (y : YardAt K H p d c L G) : HasY H p d := by
  obtain ⟨dx, l, xs, h1, _, _, h2⟩ := y
  exact ⟨⟨_, _, _, h1⟩, _, h2⟩
theorem YardAt.same (s : Same H H') (y : YardAt K H p d c L G) : YardAt K H' p d c L G := by
  obtain ⟨dx, l, xs, h1, h2, h3, h4⟩ := y
  exact ⟨dx, l, xs, s _ _ h1, s _ _ h2, h3.kept (Same.tups s), s _ _ h4⟩
theorem HasY.ne (y : HasY H p d) : p ≠ d := by
  obtain ⟨⟨_, _, _, h1⟩, _, h2⟩ := y
  exact ne_of h1 h2 (by intro z; cases z)
theorem HasY.other (y : HasY H p d) {b : Addr} {o : HO} (h : H b = some o) (h1 : ∀ C dx fs, o ≠ .ins C dx fs) (h2 : ∀ kvs, o ≠ .dK kvs) : b ≠ p ∧ b ≠ d := by
  obtain ⟨⟨_, _, _, e1⟩, _, e2⟩ := y
  exact ⟨ne_of h e1 (h1 _ _ _), ne_of h e2 (h2 _)⟩
theorem HasY.keep (y : HasY H p d) (k : Kp p d H H') {b : Addr} {o : HO} (h : H b = some o) (h1 : ∀ C dx fs, o ≠ .ins C dx fs) (h2 : ∀ kvs, o ≠ .dK kvs) : H' b = some o := by
  obtain ⟨n1, n2⟩ := y.other h h1 h2
  exact k b o h n1 n2
theorem HasY.lst (y : HasY H p d) (k : Kp p d H H') {b : Addr} {xs : List V} (h : H b = some (.lst xs)) : H' b = some (.lst xs) := y.keep k h (fun _ _ _ z => by cases z) (fun _ z => by cases z)
theorem HasY.tups (y : HasY H p d) (k : Kp p d H H') : TupKept H H' := fun b xs h => y.keep k h (fun _ _ _ z => by cases z) (fun _ z => by cases z)
theorem HasY.prs (y : HasY H p d) (k : Kp p d H H') {xs : List V} {M : List Pc} (h : Prs H xs M) : Prs H' xs M := h.kept (y.tups k)
theorem HasY.seq (y : HasY H p d) (k : Kp p d H H') {a : Addr} {xs : List V} (h : SqL K H a xs) : SqL K H' a xs := by
  rcases h with (h | ⟨o, h⟩) | h
  · exact .inl (.inl (y.lst k h))
  · exact .inl (.inr ⟨o, y.keep k h (fun _ _ _ z => by cases z) (fun _ z => by cases z)⟩)
  · exact .inr h
end
/-- a yard of 2 ** k cells whose pieces are t's -/
def YardT (K : PySem.W.Frag) (H : Hp) (p d : Addr) {k : Nat} (t : T k) : Prop := k ≤ 60 ∧ Can t ∧ ∃ G, G.Perm (outs t 0) ∧ YardAt K H p d (pw k) (frees t 0) G
section
variable {K : PySem.W.Frag} {H H' : Hp} {p d : Addr} {k : Nat} {t : T k}
theorem YardT.has (y : YardT K H p d t) : HasY H p d := by
  obtain ⟨_, _, G, _, y⟩ := y
  exact y.has
theorem YardT.same (s : Same H H') (y : YardT K H p d t) : YardT K H' p d t := by
  obtain ⟨h1, h2, G, h3, y⟩ := y
  exact ⟨h1, h2, G, h3, y.same s⟩
end
theorem keys_nd {k : Nat} {t : T k} {G : List Pc} (h : G.Perm (outs t 0)) : (G.map (·.1)).Nodup :=
  (h.map (·.1)).nodup_iff.mpr (Bud.nodup_fst_of_ahead (Bud.ahead_outs t (Bud.zdvd k)) fun p hp => (Bud.in_outs t (Bud.zdvd k) hp).pos)
theorem frees_1000 {k : Nat} {t : T k} (hk : k ≤ 60) (hc : Can t) (h : (outs t 0).length ≤ 1000) : (frees t 0).length ≤ 100000 := by
  have h1 := (Bud.frees_few t 0 hc).1
  have h2 : k * (outs t 0).length ≤ 60 * 1000 := Nat.mul_le_mul hk h
  omega
theorem frees_sz {k : Nat} {t : T k} (hk : k ≤ 60) : ∀ p ∈ frees t 0, 0 < p.2 ∧ p.2 ≤ pw 60 := fun p hp => by
  have i := Bud.in_frees t (Bud.zdvd k) hp
  obtain ⟨_, _, j, hj, e, _⟩ := i
  rw [e]
  exact ⟨Bud.pw_pos j, Bud.pw_le (by omega)⟩

structure NoM (fs : List (Str × V)) : Prop where
  give : fs.lookup ("give" : Str) = none
  take : fs.lookup ("take_back" : Str) = none
  resize : fs.lookup ("resize" : Str) = none
  free : fs.lookup ("free" : Str) = none
  out : fs.lookup ("out" : Str) = none
  owner : fs.lookup ("owner" : Str) = none
theorem noM (c : Int) (l d : Addr) : NoM (yf c l d) :=
  ⟨yf_no _ _ _ (by decide +kernel) (by decide +kernel) (by decide +kernel), yf_no _ _ _ (by decide +kernel) (by decide +kernel) (by decide +kernel), yf_no _ _ _ (by decide +kernel) (by decide +kernel) (by decide +kernel),
    yf_no _ _ _ (by decide +kernel) (by decide +kernel) (by decide +kernel), yf_no _ _ _ (by decide +kernel) (by decide +kernel) (by decide +kernel), yf_no _ _ _ (by decide +kernel) (by decide +kernel) (by decide +kernel)⟩
theorem YardAt.at_ {K : PySem.W.Frag} {H : Hp} {p d : Addr} {c : Int} {L G : List Pc} (y : YardAt K H p d c L G) : ∃ dx fs, H p = some (.ins (He.ga K "Yard") dx fs) ∧ NoM fs ∧ fs.lookup ("cells" : Str) = some (.int c) := by
  obtain ⟨dx, l, xs, h1, _⟩ := y
  exact ⟨dx, _, h1, noM c l d, yf_cells c l d⟩
theorem YardT.at_ {K : PySem.W.Frag} {H : Hp} {p d : Addr} {k : Nat} {t : T k} (y : YardT K H p d t) : ∃ dx fs, H p = some (.ins (He.ga K "Yard") dx fs) ∧ NoM fs ∧ fs.lookup ("cells" : Str) = some (.int (pw k)) := by
  obtain ⟨_, _, G, _, y⟩ := y
  exact y.at_
theorem yardT_new {K : PySem.W.Frag} {H : Hp} {p d : Addr} {k : Nat} (hk : k ≤ 60) (y : YardAt K H p d (pw k) [(0, pw k)] []) : YardT K H p d (.free : T k) := ⟨hk, trivial, [], List.Perm.refl _, y⟩
/-- a read-only raw yard of a tree's -/
theorem YardT.raw {K : PySem.W.Frag} {H : Hp} {p d : Addr} {k : Nat} {t : T k} (y : YardT K H p d t) : ∃ G, G.Perm (outs t 0) ∧ (G.map (·.1)).Nodup ∧ YardAt K H p d (pw k) (frees t 0) G := by
  obtain ⟨_, _, G, hG, y⟩ := y
  exact ⟨G, hG, keys_nd hG, y⟩
/-- the list of the free pieces stands at l -/
def Spare (H : Hp) (p l : Addr) : Prop := ∃ C dx fs, H p = some (.ins C dx fs) ∧ fs.lookup ("spare" : Str) = some (.ref l)
theorem Spare.eq {H : Hp} {p l m d C dx : Addr} {c : Int} (h : Spare H p l) (e : H p = some (.ins C dx (yf c m d))) : l = m := by
  obtain ⟨_, _, fs, e1, e2⟩ := h
  rw [e] at e1
  cases e1
  rw [yf_spare] at e2
  cases e2
  rfl
theorem Same.none {H H' : Hp} (s : Same H H') {b : Addr} (h : H' b = none) : H b = none := by
  cases q : H b with
  | none => rfl
  | some o =>
    rw [s _ _ q] at h
    cases h
theorem none_upd {H : Hp} {a b : Addr} {o : HO} (h : (upd H a o) b = none) : H b = none := by
  by_cases e : b = a
  · subst e
    rw [upd_same] at h
    cases h
  · rw [upd_ne e] at h
    exact h
/-- a store to a list that is not the yard's -/
theorem YardT.put {K : PySem.W.Frag} {H : Hp} {p d h : Addr} {k : Nat} {t : T k} (y : YardT K H p d t) {xs : List V} (hl : H h = some (.lst xs)) (ns : ¬ Spare H p h) (o : HO) : YardT K (upd H h o) p d t := by
  obtain ⟨hk, hc, G, hG, dx, l, zs, h1, h2, h3, h4⟩ := y
  have e1 : p ≠ h := ne_of h1 hl (by intro z; cases z)
  have e2 : d ≠ h := ne_of h4 hl (by intro z; cases z)
  have e3 : l ≠ h := fun z => ns ⟨_, _, _, h1, by rw [← z]; exact yf_spare _ _ _⟩
  exact ⟨hk, hc, G, hG, dx, l, zs, by rw [upd_ne e1]; exact h1, by rw [upd_ne e3]; exact h2, h3.kept (tups_put hl (fun xs z => by cases z)), by rw [upd_ne e2]; exact h4⟩
theorem Spare.upd {H : Hp} {p l a : Addr} {o : HO} (h : Spare (L2.upd H a o) p l) (ne : p ≠ a) : Spare H p l := by
  obtain ⟨C, dx, fs, e1, e2⟩ := h
  rw [upd_ne ne] at e1
  exact ⟨C, dx, fs, e1, e2⟩
theorem Spare.same {H H' : Hp} {p l d : Addr} (s : Same H H') (y : HasY H p d) (h : Spare H' p l) : Spare H p l := by
  obtain ⟨⟨C, dx, fs, e⟩, _⟩ := y
  obtain ⟨C2, dx2, fs2, e1, e2⟩ := h
  rw [s _ _ e] at e1
  cases e1
  exact ⟨C, dx, fs, e, e2⟩
theorem isSz_pw {k : Nat} (h : k ≤ 60) : isSz (pw k) = true := isSz_iff.mpr ⟨k, h, rfl⟩
end Yd

set_option Elab.async false
set_option linter.all false
set_option maxRecDepth 100000
set_option maxHeartbeats 4000000
/-! Two yards, slices, pairs of lists of pairs. -/
namespace Yd
open PySem PySem.Spec L2
open PyProof.Rows (envOfC)
open Bud (Pc T Can frees outs pw)

/-- cells, the part lo to hi -/
def cutI {α : Type} (xs : List α) (lo hi : Option Int) : List α := (xs.drop (HT.sIx xs.length 0 lo)).take (HT.sIx xs.length xs.length hi - HT.sIx xs.length 0 lo)
theorem cutV_ints (ns : List Int) (lo hi : Option Int) : cutV (ns.map V.int) lo hi = (cutI ns lo hi).map V.int := by
  unfold cutV cutI
  rw [List.length_map, List.map_take, List.map_drop]
theorem cutI_length {α : Type} (xs : List α) (lo hi : Option Int) : (cutI xs lo hi).length ≤ xs.length := by
  unfold cutI
  rw [List.length_take, List.length_drop]
  omega
theorem Prs.drop {H : Hp} : ∀ {xs : List V} {L : List Pc} (i : Nat), Prs H xs L → Prs H (xs.drop i) (L.drop i)
  | _, _, 0, h => h
  | _, _, _ + 1, .nil => .nil
  | _, _, i + 1, .cons _ t => Prs.drop i t
theorem Prs.cut {H : Hp} {xs : List V} {L : List Pc} (h : Prs H xs L) (lo hi : Option Int) : Prs H (cutV xs lo hi) (cutI L lo hi) := by
  unfold cutV cutI
  rw [h.length]
  exact (h.drop _).take _
/-! ### another yard stands still -/
theorem YardT.frame {K : PySem.W.Frag} {H H' : Hp} {p d p2 d2 : Addr} {k : Nat} {t : T k} (y : YardT K H p2 d2 t) (h : HasY H p d) (kp : Kp p d H H') (n1 : p2 ≠ p) (n2 : d2 ≠ d) : YardT K H' p2 d2 t := by
  obtain ⟨hk, hc, G, hG, dx, l, zs, h1, h2, h3, h4⟩ := y
  obtain ⟨⟨C, dy, fs, e1⟩, kvs, e2⟩ := id h
  have n3 : p2 ≠ d := ne_of h1 e2 (by intro z; cases z)
  have n4 : d2 ≠ p := ne_of h4 e1 (by intro z; cases z)
  exact ⟨hk, hc, G, hG, dx, l, zs, kp _ _ h1 n1 n3, h.lst kp h2, h.prs kp h3, kp _ _ h4 n4 n2⟩
theorem HasY.frame {H H' : Hp} {p d p2 d2 : Addr} (y : HasY H p2 d2) (h : HasY H p d) (kp : Kp p d H H') (n1 : p2 ≠ p) (n2 : d2 ≠ d) : HasY H' p2 d2 := by
  obtain ⟨⟨C, dx, fs, h1⟩, kvs, h4⟩ := y
  obtain ⟨⟨_, dy, gs, e1⟩, kvs', e2⟩ := id h
  exact ⟨⟨C, dx, fs, kp _ _ h1 n1 (ne_of h1 e2 (by intro z; cases z))⟩, kvs, kp _ _ h4 (ne_of h4 e1 (by intro z; cases z)) n2⟩
theorem HasY.same {H H' : Hp} {p d : Addr} (y : HasY H p d) (s : Same H H') : HasY H' p d := by
  obtain ⟨⟨C, dx, fs, h1⟩, kvs, h4⟩ := y
  exact ⟨⟨C, dx, fs, s _ _ h1⟩, kvs, s _ _ h4⟩
/-! ### [out, free] -/
def lD (L : List Pc) : PyData := .list (L.map pD)
def LL (L M : List Pc) : PyData := .list [lD L, lD M]
theorem LL_shaped (L M : List Pc) : SeqAt.shaped (LL L M) = true := by
  have h1 := pDs_depth L
  have h2 := pDs_depth M
  have h3 : PyData.depth (LL L M) ≤ 64 := by
    simp only [LL, lD, PyData.depth, PyData.depthAll]
    omega
  show (PyData.canLay0 (LL L M) && decide (PyData.depth (LL L M) ≤ 64)) = true
  rw [Bool.and_eq_true]
  refine ⟨?_, decide_eq_true h3⟩
  simp only [LL, lD, PyData.canLay0, PyData.canLayAll0, pDs_lay, Bool.and_true]
theorem LL_eqv (L M L' M' : List Pc) : PyData.eqv (LL L M) (LL L' M') = decide (L = L' ∧ M = M') := by
  simp only [LL, lD, PyData.eqv, PyData.eqvAll, pDs_eqv, Bool.and_true]
  rw [Bool.decide_and]
/-- l is a list of two lists of pairs -/
def IsLL (K : PySem.W.Frag) (H : Hp) (x : V) (L M : List Pc) : Prop := ∃ (l a b : Addr) (xs ys : List V), x = .ref l ∧ H l = some (.lst [.ref a, .ref b]) ∧ H a = some (.lst xs) ∧ H b = some (.lst ys) ∧ Prs H xs L ∧ Prs H ys M
section
variable {K : PySem.W.Frag} {H H' : Hp} {x : V} {L M : List Pc} {p d : Addr}
theorem IsLL.dp (h : IsLL K H x L M) : Dp K H x (LL L M) := by
  obtain ⟨l, a, b, xs, ys, rfl, e, e1, e2, p1, p2⟩ := h
  exact .lst (SqL.of e) (.cons (p1.dp (SqL.of e1)) (.cons (p2.dp (SqL.of e2)) .nil))
theorem IsLL.same (s : Same H H') (h : IsLL K H x L M) : IsLL K H' x L M := by
  obtain ⟨l, a, b, xs, ys, rfl, e, e1, e2, p1, p2⟩ := h
  exact ⟨l, a, b, xs, ys, rfl, s _ _ e, s _ _ e1, s _ _ e2, p1.kept (Same.tups s), p2.kept (Same.tups s)⟩
theorem IsLL.kp (y : HasY H p d) (k : Kp p d H H') (h : IsLL K H x L M) : IsLL K H' x L M := by
  obtain ⟨l, a, b, xs, ys, rfl, e, e1, e2, p1, p2⟩ := h
  exact ⟨l, a, b, xs, ys, rfl, y.lst k e, y.lst k e1, y.lst k e2, y.prs k p1, y.prs k p2⟩
end
section
variable {X : Cx}
def rNeLL (K : PySem.W.Frag) : R2 := fun x y H Q => ∃ L M L' M', IsLL K H x L M ∧ IsLL K H y L' M' ∧ Q (.bl (!decide (L = L' ∧ M = M'))) H
theorem op_neLL (hu : X.A.units + 64 < cLine) : OpR X (compareOp .NotEq) (rNeLL X.K) := by
  intro pins s σ H x y v u Q I rx ry h
  obtain ⟨L, M, L', M', h1, h2, q⟩ := h
  refine op_neD hu pins s σ H x y v u Q I rx ry ⟨_, _, h1.dp, h2.dp, LL_shaped _ _, LL_shaped _ _, ?_⟩
  rw [LL_eqv]
  exact q
def rEqLL (K : PySem.W.Frag) : R2 := fun x y H Q => ∃ L M L' M', IsLL K H x L M ∧ IsLL K H y L' M' ∧ Q (.bl (decide (L = L' ∧ M = M'))) H
theorem op_eqLL (hu : X.A.units + 64 < cLine) : OpR X (compareOp .Eq) (rEqLL X.K) := by
  intro pins s σ H x y v u Q I rx ry h
  obtain ⟨L, M, L', M', h1, h2, q⟩ := h
  refine op_eqD hu pins s σ H x y v u Q I rx ry ⟨_, _, h1.dp, h2.dp, LL_shaped _ _, LL_shaped _ _, ?_⟩
  rw [LL_eqv]
  exact q
end
theorem wo_take {L : List Pc} {i : Nat} {q p : Pc} (h : L[i]? = some q) : Bud.without (L.take (i + 1)) p = Bud.without (L.take i) p ++ (if q = p then [] else [q]) := by
  unfold Bud.without
  rw [List.take_add_one, h, List.filter_append]
  congr 1
  by_cases e : q = p
  · rw [if_pos e]
    show List.filter _ [q] = []
    rw [List.filter_cons_of_neg (by simpa using e)]
    rfl
  · rw [if_neg e]
    show List.filter _ [q] = [q]
    rw [List.filter_cons_of_pos (by simpa using e)]
    rfl
/-- [one for one in held if one != piece] -/
theorem rd_without {K : PySem.W.Frag} {σ : St} {H : Hp} {Q : VK} {i j o : Nat} {h : Addr} {xs : List V} {D : List Pc} {x : V} {g : Pc} (hi : σ[i]? = some (some (V.ref h))) (hj : σ[j]? = some (some x)) (ho : o < σ.length) (hjo : o ≠ j)
    (hl : H h = some (.lst xs)) (hD : Prs H xs D) (hx : IsPr H x g) (hlen : D.length ≤ 1000000) (k : ∀ (B : Addr) (ys : List V), H B = none → Prs H ys (Bud.without D g) → Q (.ref B) (upd H B (.lst ys))) :
    tLc (iList K (tVar i)) (gName o) (tTest (tOp rNeP (tVar o) (tVar j))) (tVar o) [o] σ H Q := by
  refine ⟨_, hi, h, rfl, ⟨_, SqL.of hl⟩, fun B hB => ?_⟩
  refine lc_list (K := K) (a := h) (xs := xs) (fun i H' => ∃ ys, H' = upd H B (.lst ys) ∧ Prs H ys (Bud.without (D.take i) g)) ⟨[], rfl, .nil⟩ (fun i H' _ ⟨ys, e, _⟩ => by rw [e]; exact (same_new hB).seq (SqL.of hl)) ?_ ?_
  · rintro i z H' hi ⟨ys, rfl, hys⟩
    obtain ⟨g', hg', hz⟩ := hD.get hi
    have kt : TupKept H (upd H B (.lst ys)) := tups_upd hB
    have e1 : ((wipe σ [o]).set o (some z))[o]? = some (some z) := by
      rw [List.getElem?_set_self]
      rw [wipe_length]
      exact ho
    have e2 : ((wipe σ [o]).set o (some z))[j]? = some (some x) := by
      rw [List.getElem?_set_ne hjo]
      show ((σ.set o none))[j]? = _
      rw [List.getElem?_set_ne hjo]
      exact hj
    refine ⟨?_, _, e1, _, e2, g', _, hz.kept kt, hx.kept kt, _, rfl, ?_⟩
    · show ((σ.set o none).set o (some z)).set o none = σ.set o none
      rw [List.set_set, List.set_set]
    have hw := wo_take (p := g) hg'
    refine ite2 (fun c => ?_) (fun c => ?_)
    · have c' : ¬ g' = g := by simpa using c
      rw [if_neg c'] at hw
      have hlt : ys.length < sizeLine := by
        have h1 := hys.length
        have h2 : (Bud.without (D.take i) g).length ≤ D.length := Nat.le_trans (List.length_filter_le _ _) (by rw [List.length_take]; omega)
        rw [sizeLine_eq]
        omega
      refine ⟨_, e1, ys, upd_same, hlt, ys ++ [z], by rw [upd_upd], ?_⟩
      rw [hw]
      exact hys.append (.cons hz .nil)
    · have c' : g' = g := by simpa using c
      rw [if_pos c', List.append_nil] at hw
      exact ⟨ys, rfl, by rw [hw]; exact hys⟩
  · rintro H' ⟨ys, rfl, hys⟩
    rw [hD.length, List.take_length] at hys
    exact k B ys hB hys
/-- an if whose test lays new things alone -/
theorem ifPN {c : TT} {t u : TS} {D : Ends} {σ : L2.St} {H : Hp} (b : Bool) (hc : ∀ Q : Bool → Hp → Prop, (∀ H', Same H H' → Q b H') → c σ H Q) (h1 : b = true → ∀ H', Same H H' → t D σ H') (h2 : b = false → ∀ H', Same H H' → u D σ H') : tIfS c t u D σ H := by
  refine hc _ fun H' s => ?_
  cases b with
  | true => exact iteT (h1 rfl H' s)
  | false => exact iteF (h2 rfl H' s)
theorem tst_mk {te tb : TE} {r : R2} {σ : St} {H : Hp} {R : Bool → Hp → Prop} (h : te σ H fun x H1 => tb σ H1 fun y H2 => r x y H2 fun v H3 => ∃ b, v = .bl b ∧ R b H3) : tTest (tOp r te tb) σ H R := h
theorem neLLF {L M L' M' : List Pc} (h : L = L') (h' : M = M') : V.bl (!decide (L = L' ∧ M = M')) = V.bl false := by
  rw [decide_eq_true ⟨h, h'⟩]
  rfl
theorem neT {L M : List Pc} (h : L ≠ M) : V.bl (if true = true then !decide (L = M) else decide (L = M)) = V.bl true := by
  rw [decide_eq_false h]
  rfl
theorem eqF {L M : List Pc} (h : L ≠ M) : V.bl (if false = true then !decide (L = M) else decide (L = M)) = V.bl false := by
  rw [decide_eq_false h]
  rfl
/-- list(a list) -/
def rListOf (K : PySem.W.Frag) : List V → Hp → VK → Prop := fun xs H Q => ∃ p ys, xs = [.ref p] ∧ SqL K H p ys ∧ ∀ l, H l = none → Q (.ref l) (upd H l (.lst ys))
theorem call_listK {X : Cx} : CallR X (.type "list") (rListOf X.K) := by
  intro pins s σ H xs us Q I r h
  obtain ⟨p, ys, e, hq, q⟩ := h
  exact call_list_of pins s σ H xs us Q I r ⟨p, ys, e, .inl hq, q⟩
end Yd
namespace Yd
open PySem PySem.Spec L2
open Bud (Pc T Can frees outs pw)
/-! ### in a list of whole numbers -/
theorem inV_ints (i : Int) : ∀ L : List Int, inV (.int i) (L.map V.int) = decide (i ∈ L)
  | [] => rfl
  | j :: L => by
    have h := inV_ints i L
    unfold inV at *
    rw [List.map_cons, List.any_cons, h]
    by_cases e : i = j
    · subst e
      rw [decide_eq_true (List.mem_cons_self)]
      simp [eqV]
    · have e2 : eqV (V.int j) (V.int i) = false := by simp [eqV]; omega
      rw [e2, Bool.false_or]
      exact decide_eq_decide.mpr ⟨List.mem_cons_of_mem _, fun z => (List.mem_cons.mp z).resolve_left e⟩
theorem flat_ints : ∀ L : List Int, (L.map V.int).all flatV = true
  | [] => rfl
  | j :: L => by rw [List.map_cons, List.all_cons, flat_ints L]; rfl
end Yd
namespace Yd
open PySem PySem.Spec L2
open Bud (Pc T Can frees outs pw)
/-- sum([piece[1] for piece in pieces]) -/
theorem rd_sizes {K : PySem.W.Frag} {σ : St} {H : Hp} {Q : VK} {i o : Nat} {h : Addr} {xs : List V} {D : List Pc} (hi : σ[i]? = some (some (V.ref h))) (ho : o < σ.length)
    (hl : H h = some (.lst xs)) (hD : Prs H xs D) (hlen : D.length ≤ 1000000) (k : ∀ H', Same H H' → Q (.int (Bud.sizes D)) H') :
    tCB (rSum K) (tCons (tLc (iList K (tVar i)) (gName o) tYes (tSel1 (tVar o)) [o]) tNil) σ H Q := by
  refine ⟨_, hi, h, rfl, ⟨_, SqL.of hl⟩, fun B hB => ?_⟩
  refine lc_list (K := K) (a := h) (xs := xs) (fun i H' => H' = upd H B (.lst (((D.take i).map (·.2)).map V.int))) rfl (fun i H' _ e => by rw [e]; exact (same_new hB).seq (SqL.of hl)) ?_ ?_
  · rintro i z H' hi ⟨rfl⟩
    obtain ⟨g, hg, hz⟩ := hD.get hi
    have e1 : ((wipe σ [o]).set o (some z))[o]? = some (some z) := by
      rw [List.getElem?_set_self]
      rw [wipe_length]
      exact ho
    refine ⟨?_, _, e1, g, hz.kept (tups_upd hB), _, upd_same, ?_, ?_⟩
    · show ((σ.set o none).set o (some z)).set o none = σ.set o none
      rw [List.set_set, List.set_set]
    · rw [List.length_map, List.length_map, List.length_take, sizeLine_eq]
      omega
    · rw [upd_upd, List.take_add_one, hg, List.map_append, List.map_append]
      rfl
  · rintro H' ⟨rfl⟩
    refine ⟨B, _, rfl, SqL.of upd_same, ?_⟩
    rw [hD.length, List.take_length]
    exact k _ (same_new hB)
end Yd

set_option Elab.async false
set_option linter.all false
set_option maxRecDepth 100000
set_option maxHeartbeats 4000000
/-! set of a list of whole numbers (repeats allowed), and its len. -/
namespace Yd
open PySem PySem.Spec L2
open PyProof.Rows (firstMet firstMet_any firstMet_succ firstMet_length_le)
theorem firstMet_nodup (val : Nat → Int) : ∀ i, (firstMet val i).Nodup
  | 0 => List.nodup_nil
  | i + 1 => by
    rw [firstMet_succ]
    unfold PyProof.Rows.step_dedup
    split
    · exact firstMet_nodup val i
    · rename_i h
      refine List.nodup_append.mpr ⟨firstMet_nodup val i, List.nodup_cons.mpr ⟨List.not_mem_nil, List.nodup_nil⟩, fun x hx y hy => ?_⟩
      rw [List.mem_singleton.mp hy]
      intro e
      exact h (List.any_eq_true.mpr ⟨x, hx, by simp [e]⟩)
theorem firstMet_mem {ns : List Int} {k : Int} : k ∈ firstMet (fun i => ns.getD i 0) ns.length ↔ k ∈ ns := by
  have h := firstMet_any (fun i => ns.getD i 0) ns.length k
  have e : (List.range ns.length).map (fun i => ns.getD i 0) = ns := by
    refine List.ext_getElem (by simp) fun i h1 h2 => ?_
    simp only [List.getElem_map, List.getElem_range]
    rw [List.getD_eq_getElem?_getD, List.getElem?_eq_getElem h2]
    rfl
  rw [e] at h
  have h1 : (firstMet (fun i => ns.getD i 0) ns.length).any (· == k) = true ↔ ns.any (· == k) = true := by rw [h]
  simpa using h1
section
variable {X : Cx}
/-- set(xs) of a list of whole numbers -/
def rSetOfInts (K : PySem.W.Frag) : List V → Hp → VK → Prop := fun vs H Q => ∃ (a : Addr) (ns : List Int), vs = [V.ref a] ∧ SqL K H a (ns.map V.int) ∧ ns.length ≤ 4000 ∧
  ∀ (p : Addr) (S : Int → Bool) (m : List Int), H p = none → m.Nodup → (∀ k, k ∈ m ↔ k ∈ ns) → Q (.ref p) (upd H p (.set S m.length))
theorem cr_setOfInts (hc : X.calm = true) : CallR X (.type "set") (rSetOfInts X.K) := by
  intro pins s σ H vs us Q I r h
  obtain ⟨a, ns, rfl, hs, hlen, q⟩ := h
  obtain ⟨its, rv, hl, _⟩ := I.list hs
  rw [Vals.ref1 r]
  have hi := rv.ints
  have hlen2 : its.length = ns.length := PyProof.Rows.IntsAre.length hi
  refine PySem.call_set_list (items := its.toArray) (ns := ns) (I.ok.hd hc) hl.isList (by simpa using hi) (by rw [List.size_toArray]; show its.length + 1 < 4096; omega) fun h' tk hS hk => ?_
  rw [show its.toArray.size = ns.length from by rw [List.size_toArray]; exact hlen2] at hS
  have hf : H s.heap.objs.size = none := I.hok.fresh (Nat.le_refl _)
  exact ⟨.ref s.heap.objs.size, upd H s.heap.objs.size (.set _ _), I.laid (t' := tk) (fun b u e => hk b u (Heap.lt_size e) e) (Nat.le_refl _) hS, rfl, q _ _ _ hf (firstMet_nodup _ _) fun k => firstMet_mem⟩
/-- len of such a set -/
def rLenSet : List V → Hp → VK → Prop := fun vs H Q => ∃ (p : Addr) (S : Int → Bool) (n : Nat), vs = [V.ref p] ∧ H p = some (.set S n) ∧ Q (.int n) H
theorem cr_lenSet : CallR X (.builtin "len") rLenSet := by
  intro pins s σ H vs us Q I r h
  obtain ⟨p, S, n, rfl, hp, q⟩ := h
  rw [Vals.ref1 r]
  obtain ⟨o, es, ep, t, ho, hex, hd, _, _, hsz, hf, hn⟩ := (show ObjOk X.prog X.w H s.heap p (.set S n) from I.hok p _ hp)
  subst hn
  have h4 : es.size < 4096 := hsz
  exact PySem.call_len_set ho hex hd hf (by omega) ⟨.int _, H, I.tok _, ⟨_, rfl⟩, q⟩
end
end Yd
namespace Yd
open PySem PySem.Spec L2
section
variable {X : Cx} {x : Str} {c : Value} {body suite : List Stmt} {b₀ : Stmt} {np pos pos' : Pos} {tb : WX → TS} {ts : Addr → Value → Option Addr → TS} {Wout : WX}
/-- a try as one word, for loops -/
def tTryO (K : PySem.W.Frag) (c : Value) (ts : Addr → Value → Option Addr → TS) (Wout : WX) (tb : WX → TS) : TS := fun D σ H => tb (wOnly K c ts Wout D) D σ H
theorem ps_try_onlyT (hs : X.stack = X.env :: X.outer) (hf : X.env.frame = some X.env.locals) (hc : Names X x c) (tk : Takes X Wout)
    (hb : ∀ (W : WX) (pn : List (Addr × Obj)) (xe : Value → Shared → Prop), Takes (X.tr pn xe) W → PassesOwn (model X.prog X.w) X.A X.env xe → PSs (X.tr pn xe) body (tb W))
    (hsu : ∀ (a : Addr) (oe : Obj) (cls : Value) (d : Option Addr) (pn : List (Addr × Obj)), Zc cls d oe → (∃ vs, oe.data = .fields vs) → PSs (X.suite a ((a, oe) :: pn)) (b₀ :: suite) (ts a cls d)) :
    PS X (.Try body [.ExceptHandler (some (.Name x np)) none (b₀ :: suite) pos'] [] [] pos) (tTryO X.K c ts Wout tb) := ps_try_only hs hf hc tk hb hsu
end
end Yd
namespace Yd
open PySem PySem.Spec L2
/-! ### lists of whole numbers compared -/
theorem iDs_lay : ∀ L : List Int, PyData.canLayAll0 (L.map PyData.int) = true
  | [] => by simp [PyData.canLayAll0]
  | p :: L => by simp [PyData.canLayAll0, PyData.canLay0, iDs_lay L]
theorem iDs_depth : ∀ L : List Int, PyData.depthAll (L.map PyData.int) ≤ 1
  | [] => by simp [PyData.depthAll]
  | p :: L => by
    have h1 := iDs_depth L
    have h2 : PyData.depth (.int p) ≤ 1 := by simp [PyData.depth]
    simp only [List.map_cons, PyData.depthAll]
    omega
theorem iDs_shaped (L : List Int) : SeqAt.shaped (.list (L.map PyData.int)) = true := by
  have h1 := iDs_depth L
  have h2 : PyData.depth (.list (L.map PyData.int)) ≤ 64 := by
    simp only [PyData.depth]
    omega
  show (PyData.canLay0 (.list (L.map PyData.int)) && decide (PyData.depth (.list (L.map PyData.int)) ≤ 64)) = true
  rw [Bool.and_eq_true]
  exact ⟨by simp only [PyData.canLay0]; exact iDs_lay L, decide_eq_true h2⟩
theorem iDs_eqv : ∀ L M : List Int, PyData.eqvAll (L.map PyData.int) (M.map PyData.int) = decide (L = M)
  | [], [] => by simp [PyData.eqvAll]
  | [], q :: M => by simp [PyData.eqvAll]
  | p :: L, [] => by simp [PyData.eqvAll]
  | p :: L, q :: M => by
    have e : PyData.eqv (.int p) (.int q) = (p == q) := by simp only [PyData.eqv]
    simp only [List.map_cons, PyData.eqvAll, e, iDs_eqv L M]
    by_cases h1 : p = q
    · subst h1
      by_cases h2 : L = M
      · subst h2
        simp
      · simp [h2]
    · rw [beq_eq_false_iff_ne.mpr h1, decide_eq_false (fun z => h1 (List.cons.inj z).1)]
      rfl
theorem iDs_dp {K : PySem.W.Frag} {H : Hp} : ∀ L : List Int, DpAll K H (L.map V.int) (L.map PyData.int)
  | [] => .nil
  | p :: L => .cons (.int _) (iDs_dp L)
section
variable {X : Cx}
def rCmpIs (K : PySem.W.Frag) (neg : Bool) : R2 := fun x y H Q => ∃ (l m : Addr) (L M : List Int), x = .ref l ∧ y = .ref m ∧ SqL K H l (L.map V.int) ∧ SqL K H m (M.map V.int) ∧ Q (.bl (if neg then !decide (L = M) else decide (L = M))) H
theorem op_eqIs (hu : X.A.units + 64 < cLine) : OpR X (compareOp .Eq) (rCmpIs X.K false) := by
  intro pins s σ H x y v u Q I rx ry h
  obtain ⟨l, m, L, M, rfl, rfl, hl, hm, q⟩ := h
  refine op_eqD hu pins s σ H _ _ v u Q I rx ry ⟨_, _, .lst hl (iDs_dp L), .lst hm (iDs_dp M), iDs_shaped L, iDs_shaped M, ?_⟩
  simp only [PyData.eqv]
  rw [iDs_eqv]
  exact q
theorem op_neIs (hu : X.A.units + 64 < cLine) : OpR X (compareOp .NotEq) (rCmpIs X.K true) := by
  intro pins s σ H x y v u Q I rx ry h
  obtain ⟨l, m, L, M, rfl, rfl, hl, hm, q⟩ := h
  refine op_neD hu pins s σ H _ _ v u Q I rx ry ⟨_, _, .lst hl (iDs_dp L), .lst hm (iDs_dp M), iDs_shaped L, iDs_shaped M, ?_⟩
  simp only [PyData.eqv]
  rw [iDs_eqv]
  exact q
theorem neIF {L M : List Int} (h : L = M) : V.bl (if true = true then !decide (L = M) else decide (L = M)) = V.bl false := by
  rw [decide_eq_true h]
  rfl
theorem neIT {L M : List Int} (h : L ≠ M) : V.bl (if true = true then !decide (L = M) else decide (L = M)) = V.bl true := by
  rw [decide_eq_false h]
  rfl
theorem eqIT {L M : List Int} (h : L = M) : V.bl (if false = true then !decide (L = M) else decide (L = M)) = V.bl true := by
  rw [decide_eq_true h]
  rfl
theorem eqIF {L M : List Int} (h : L ≠ M) : V.bl (if false = true then !decide (L = M) else decide (L = M)) = V.bl false := by
  rw [decide_eq_false h]
  rfl
end
end Yd
namespace Yd
open PySem L2
open PyProof.Rows (envOfC)
/-! ### the text by places -/
def top (i : Nat) : Stmt := PySem.Challenge.pw_buddyyard_k09_which_piece_is_given.main.body.getD i (.Pass ⟨0, 0, 0, 0⟩)
abbrev s__wall : Stmt := top 0
abbrev s_is_size : Stmt := top 9
theorem sc_is_size : FnScope ["number", "size"] ["number"] (defScope s_is_size) := ⟨rfl, rfl, rfl, by decide +kernel, rfl, by decide +kernel, by decide +kernel⟩
theorem bd_is_size : ∀ (kV doc pm : Value) (an : Option Addr) (cdv ct : Value) (us : List Value), us.length = 1 → bindArgs (PySem.W.fnOf "is_size" "is_size" (defArgs s_is_size) (defBody s_is_size) (defScope s_is_size) .none kV doc pm an cdv ct) ⟨us, []⟩ = pure ((["number"] : List Str).zip us) := fun _ _ _ _ _ _ us hl => match us, hl with | [_], _ => rfl
abbrev s_size_for : Stmt := top 10
theorem sc_size_for : FnScope ["want", "size"] ["want"] (defScope s_size_for) := ⟨rfl, rfl, rfl, by decide +kernel, rfl, by decide +kernel, by decide +kernel⟩
theorem bd_size_for : ∀ (kV doc pm : Value) (an : Option Addr) (cdv ct : Value) (us : List Value), us.length = 1 → bindArgs (PySem.W.fnOf "size_for" "size_for" (defArgs s_size_for) (defBody s_size_for) (defScope s_size_for) .none kV doc pm an cdv ct) ⟨us, []⟩ = pure ((["want"] : List Str).zip us) := fun _ _ _ _ _ _ us hl => match us, hl with | [_], _ => rfl
abbrev s_twin_of : Stmt := top 11
theorem sc_twin_of : FnScope ["at", "size"] ["at", "size"] (defScope s_twin_of) := ⟨rfl, rfl, rfl, by decide +kernel, rfl, by decide +kernel, by decide +kernel⟩
theorem bd_twin_of : ∀ (kV doc pm : Value) (an : Option Addr) (cdv ct : Value) (us : List Value), us.length = 2 → bindArgs (PySem.W.fnOf "twin_of" "twin_of" (defArgs s_twin_of) (defBody s_twin_of) (defScope s_twin_of) .none kV doc pm an cdv ct) ⟨us, []⟩ = pure ((["at", "size"] : List Str).zip us) := fun _ _ _ _ _ _ us hl => match us, hl with | [_, _], _ => rfl
abbrev s_best_of : Stmt := top 13
theorem sc_best_of : FnScope ["spare", "want", "found", "piece"] ["spare", "want"] (defScope s_best_of) := ⟨rfl, rfl, rfl, by decide +kernel, rfl, by decide +kernel, by decide +kernel⟩
theorem bd_best_of : ∀ (kV doc pm : Value) (an : Option Addr) (cdv ct : Value) (us : List Value), us.length = 2 → bindArgs (PySem.W.fnOf "best_of" "best_of" (defArgs s_best_of) (defBody s_best_of) (defScope s_best_of) .none kV doc pm an cdv ct) ⟨us, []⟩ = pure ((["spare", "want"] : List Str).zip us) := fun _ _ _ _ _ _ us hl => match us, hl with | [_, _], _ => rfl
abbrev s_without : Stmt := top 14
theorem sc_without : FnScope ["spare", "piece", "one"] ["spare", "piece"] (defScope s_without) := ⟨rfl, rfl, rfl, by decide +kernel, rfl, by decide +kernel, by decide +kernel⟩
theorem bd_without : ∀ (kV doc pm : Value) (an : Option Addr) (cdv ct : Value) (us : List Value), us.length = 2 → bindArgs (PySem.W.fnOf "without" "without" (defArgs s_without) (defBody s_without) (defScope s_without) .none kV doc pm an cdv ct) ⟨us, []⟩ = pure ((["spare", "piece"] : List Str).zip us) := fun _ _ _ _ _ _ us hl => match us, hl with | [_, _], _ => rfl
abbrev s_cut_down : Stmt := top 15
theorem sc_cut_down : FnScope ["spare", "at", "size", "want", "left"] ["spare", "at", "size", "want"] (defScope s_cut_down) := ⟨rfl, rfl, rfl, by decide +kernel, rfl, by decide +kernel, by decide +kernel⟩
theorem bd_cut_down : ∀ (kV doc pm : Value) (an : Option Addr) (cdv ct : Value) (us : List Value), us.length = 4 → bindArgs (PySem.W.fnOf "cut_down" "cut_down" (defArgs s_cut_down) (defBody s_cut_down) (defScope s_cut_down) .none kV doc pm an cdv ct) ⟨us, []⟩ = pure ((["spare", "at", "size", "want"] : List Str).zip us) := fun _ _ _ _ _ _ us hl => match us, hl with | [_, _, _, _], _ => rfl
abbrev s_put_back : Stmt := top 16
theorem sc_put_back : FnScope ["spare", "at", "size", "left", "other"] ["spare", "at", "size"] (defScope s_put_back) := ⟨rfl, rfl, rfl, by decide +kernel, rfl, by decide +kernel, by decide +kernel⟩
theorem bd_put_back : ∀ (kV doc pm : Value) (an : Option Addr) (cdv ct : Value) (us : List Value), us.length = 3 → bindArgs (PySem.W.fnOf "put_back" "put_back" (defArgs s_put_back) (defBody s_put_back) (defScope s_put_back) .none kV doc pm an cdv ct) ⟨us, []⟩ = pure ((["spare", "at", "size"] : List Str).zip us) := fun _ _ _ _ _ _ us hl => match us, hl with | [_, _, _], _ => rfl
abbrev s_grown : Stmt := top 17
theorem sc_grown : FnScope ["spare", "at", "size", "due", "left", "other"] ["spare", "at", "size", "due"] (defScope s_grown) := ⟨rfl, rfl, rfl, by decide +kernel, rfl, by decide +kernel, by decide +kernel⟩
theorem bd_grown : ∀ (kV doc pm : Value) (an : Option Addr) (cdv ct : Value) (us : List Value), us.length = 4 → bindArgs (PySem.W.fnOf "grown" "grown" (defArgs s_grown) (defBody s_grown) (defScope s_grown) .none kV doc pm an cdv ct) ⟨us, []⟩ = pure ((["spare", "at", "size", "due"] : List Str).zip us) := fun _ _ _ _ _ _ us hl => match us, hl with | [_, _, _, _], _ => rfl
abbrev s_Yard_init : Stmt := inClass (top 19) 0
theorem sc_Yard_init : FnScope ["self", "cells"] ["self", "cells"] (defScope s_Yard_init) := ⟨rfl, rfl, rfl, by decide +kernel, rfl, by decide +kernel, by decide +kernel⟩
theorem bd_Yard_init : ∀ (kV doc pm : Value) (an : Option Addr) (cdv ct : Value) (us : List Value), us.length = 2 → bindArgs (PySem.W.fnOf "__init__" "Yard.__init__" (defArgs s_Yard_init) (defBody s_Yard_init) (defScope s_Yard_init) .none kV doc pm an cdv ct) ⟨us, []⟩ = pure ((["self", "cells"] : List Str).zip us) := fun _ _ _ _ _ _ us hl => match us, hl with | [_, _], _ => rfl
abbrev s_Yard_free : Stmt := inClass (top 19) 1
theorem sc_Yard_free : FnScope ["self"] ["self"] (defScope s_Yard_free) := ⟨rfl, rfl, rfl, by decide +kernel, rfl, by decide +kernel, by decide +kernel⟩
theorem bd_Yard_free : ∀ (kV doc pm : Value) (an : Option Addr) (cdv ct : Value) (us : List Value), us.length = 1 → bindArgs (PySem.W.fnOf "free" "Yard.free" (defArgs s_Yard_free) (defBody s_Yard_free) (defScope s_Yard_free) .none kV doc pm an cdv ct) ⟨us, []⟩ = pure ((["self"] : List Str).zip us) := fun _ _ _ _ _ _ us hl => match us, hl with | [_], _ => rfl
abbrev s_Yard_out : Stmt := inClass (top 19) 2
theorem sc_Yard_out : FnScope ["self", "at"] ["self"] (defScope s_Yard_out) := ⟨rfl, rfl, rfl, by decide +kernel, rfl, by decide +kernel, by decide +kernel⟩
theorem bd_Yard_out : ∀ (kV doc pm : Value) (an : Option Addr) (cdv ct : Value) (us : List Value), us.length = 1 → bindArgs (PySem.W.fnOf "out" "Yard.out" (defArgs s_Yard_out) (defBody s_Yard_out) (defScope s_Yard_out) .none kV doc pm an cdv ct) ⟨us, []⟩ = pure ((["self"] : List Str).zip us) := fun _ _ _ _ _ _ us hl => match us, hl with | [_], _ => rfl
abbrev s_Yard_owner : Stmt := inClass (top 19) 3
abbrev s_Yard_give : Stmt := inClass (top 19) 4
theorem sc_Yard_give : FnScope ["self", "want", "piece", "at", "left"] ["self", "want"] (defScope s_Yard_give) := ⟨rfl, rfl, rfl, by decide +kernel, rfl, by decide +kernel, by decide +kernel⟩
theorem bd_Yard_give : ∀ (kV doc pm : Value) (an : Option Addr) (cdv ct : Value) (us : List Value), us.length = 2 → bindArgs (PySem.W.fnOf "give" "Yard.give" (defArgs s_Yard_give) (defBody s_Yard_give) (defScope s_Yard_give) .none kV doc pm an cdv ct) ⟨us, []⟩ = pure ((["self", "want"] : List Str).zip us) := fun _ _ _ _ _ _ us hl => match us, hl with | [_, _], _ => rfl
abbrev s_Yard_take_back : Stmt := inClass (top 19) 5
theorem sc_Yard_take_back : FnScope ["self", "at", "size"] ["self", "at"] (defScope s_Yard_take_back) := ⟨rfl, rfl, rfl, by decide +kernel, rfl, by decide +kernel, by decide +kernel⟩
theorem bd_Yard_take_back : ∀ (kV doc pm : Value) (an : Option Addr) (cdv ct : Value) (us : List Value), us.length = 2 → bindArgs (PySem.W.fnOf "take_back" "Yard.take_back" (defArgs s_Yard_take_back) (defBody s_Yard_take_back) (defScope s_Yard_take_back) .none kV doc pm an cdv ct) ⟨us, []⟩ = pure ((["self", "at"] : List Str).zip us) := fun _ _ _ _ _ _ us hl => match us, hl with | [_, _], _ => rfl
abbrev s_Yard_resize : Stmt := inClass (top 19) 6
theorem sc_Yard_resize : FnScope ["self", "at", "want", "due", "size", "left"] ["self", "at", "want"] (defScope s_Yard_resize) := ⟨rfl, rfl, rfl, by decide +kernel, rfl, by decide +kernel, by decide +kernel⟩
theorem bd_Yard_resize : ∀ (kV doc pm : Value) (an : Option Addr) (cdv ct : Value) (us : List Value), us.length = 3 → bindArgs (PySem.W.fnOf "resize" "Yard.resize" (defArgs s_Yard_resize) (defBody s_Yard_resize) (defScope s_Yard_resize) .none kV doc pm an cdv ct) ⟨us, []⟩ = pure ((["self", "at", "want"] : List Str).zip us) := fun _ _ _ _ _ _ us hl => match us, hl with | [_, _, _], _ => rfl
abbrev s_by_size : Stmt := top 21
theorem sc_by_size : FnScope ["wants", "order", "place", "pair"] ["wants"] (defScope s_by_size) := ⟨rfl, rfl, rfl, by decide +kernel, rfl, by decide +kernel, by decide +kernel⟩
theorem bd_by_size : ∀ (kV doc pm : Value) (an : Option Addr) (cdv ct : Value) (us : List Value), us.length = 1 → bindArgs (PySem.W.fnOf "by_size" "by_size" (defArgs s_by_size) (defBody s_by_size) (defScope s_by_size) .none kV doc pm an cdv ct) ⟨us, []⟩ = pure ((["wants"] : List Str).zip us) := fun _ _ _ _ _ _ us hl => match us, hl with | [_], _ => rfl
abbrev s_give_all : Stmt := top 22
theorem sc_give_all : FnScope ["yard", "wants", "want", "found", "place", "at"] ["yard", "wants"] (defScope s_give_all) := ⟨rfl, rfl, rfl, by decide +kernel, rfl, by decide +kernel, by decide +kernel⟩
theorem bd_give_all : ∀ (kV doc pm : Value) (an : Option Addr) (cdv ct : Value) (us : List Value), us.length = 2 → bindArgs (PySem.W.fnOf "give_all" "give_all" (defArgs s_give_all) (defBody s_give_all) (defScope s_give_all) .none kV doc pm an cdv ct) ⟨us, []⟩ = pure ((["yard", "wants"] : List Str).zip us) := fun _ _ _ _ _ _ us hl => match us, hl with | [_, _], _ => rfl
abbrev s__law_whole : Stmt := top 24
theorem sc__law_whole : FnScope ["_law_found"] ["_law_found"] (defScope s__law_whole) := ⟨rfl, rfl, rfl, by decide +kernel, rfl, by decide +kernel, by decide +kernel⟩
theorem bd__law_whole : ∀ (kV doc pm : Value) (an : Option Addr) (cdv ct : Value) (us : List Value), us.length = 1 → bindArgs (PySem.W.fnOf "_law_whole" "_law_whole" (defArgs s__law_whole) (defBody s__law_whole) (defScope s__law_whole) .none kV doc pm an cdv ct) ⟨us, []⟩ = pure ((["_law_found"] : List Str).zip us) := fun _ _ _ _ _ _ us hl => match us, hl with | [_], _ => rfl
abbrev s__law_cell_at : Stmt := top 25
theorem sc__law_cell_at : FnScope ["_law_script", "_law_k"] ["_law_script", "_law_k"] (defScope s__law_cell_at) := ⟨rfl, rfl, rfl, by decide +kernel, rfl, by decide +kernel, by decide +kernel⟩
theorem bd__law_cell_at : ∀ (kV doc pm : Value) (an : Option Addr) (cdv ct : Value) (us : List Value), us.length = 2 → bindArgs (PySem.W.fnOf "_law_cell_at" "_law_cell_at" (defArgs s__law_cell_at) (defBody s__law_cell_at) (defScope s__law_cell_at) .none kV doc pm an cdv ct) ⟨us, []⟩ = pure ((["_law_script", "_law_k"] : List Str).zip us) := fun _ _ _ _ _ _ us hl => match us, hl with | [_, _], _ => rfl
abbrev s__law_doubled : Stmt := top 26
theorem sc__law_doubled : FnScope ["_law_times", "_law_size", "_law_k"] ["_law_times"] (defScope s__law_doubled) := ⟨rfl, rfl, rfl, by decide +kernel, rfl, by decide +kernel, by decide +kernel⟩
theorem bd__law_doubled : ∀ (kV doc pm : Value) (an : Option Addr) (cdv ct : Value) (us : List Value), us.length = 1 → bindArgs (PySem.W.fnOf "_law_doubled" "_law_doubled" (defArgs s__law_doubled) (defBody s__law_doubled) (defScope s__law_doubled) .none kV doc pm an cdv ct) ⟨us, []⟩ = pure ((["_law_times"] : List Str).zip us) := fun _ _ _ _ _ _ us hl => match us, hl with | [_], _ => rfl
abbrev s__law_fitting : Stmt := top 27
theorem sc__law_fitting : FnScope ["_law_want_here", "_law_size"] ["_law_want_here"] (defScope s__law_fitting) := ⟨rfl, rfl, rfl, by decide +kernel, rfl, by decide +kernel, by decide +kernel⟩
theorem bd__law_fitting : ∀ (kV doc pm : Value) (an : Option Addr) (cdv ct : Value) (us : List Value), us.length = 1 → bindArgs (PySem.W.fnOf "_law_fitting" "_law_fitting" (defArgs s__law_fitting) (defBody s__law_fitting) (defScope s__law_fitting) .none kV doc pm an cdv ct) ⟨us, []⟩ = pure ((["_law_want_here"] : List Str).zip us) := fun _ _ _ _ _ _ us hl => match us, hl with | [_], _ => rfl
abbrev s__law_yard_size : Stmt := top 28
theorem sc__law_yard_size : FnScope ["_law_script", "_law_way", "_law_cell"] ["_law_script"] (defScope s__law_yard_size) := ⟨rfl, rfl, rfl, by decide +kernel, rfl, by decide +kernel, by decide +kernel⟩
theorem bd__law_yard_size : ∀ (kV doc pm : Value) (an : Option Addr) (cdv ct : Value) (us : List Value), us.length = 1 → bindArgs (PySem.W.fnOf "_law_yard_size" "_law_yard_size" (defArgs s__law_yard_size) (defBody s__law_yard_size) (defScope s__law_yard_size) .none kV doc pm an cdv ct) ⟨us, []⟩ = pure ((["_law_script"] : List Str).zip us) := fun _ _ _ _ _ _ us hl => match us, hl with | [_], _ => rfl
abbrev s__law_room : Stmt := top 29
theorem sc__law_room : FnScope ["_law_script", "_law_few", "_law_many"] ["_law_script", "_law_few", "_law_many"] (defScope s__law_room) := ⟨rfl, rfl, rfl, by decide +kernel, rfl, by decide +kernel, by decide +kernel⟩
theorem bd__law_room : ∀ (kV doc pm : Value) (an : Option Addr) (cdv ct : Value) (us : List Value), us.length = 3 → bindArgs (PySem.W.fnOf "_law_room" "_law_room" (defArgs s__law_room) (defBody s__law_room) (defScope s__law_room) .none kV doc pm an cdv ct) ⟨us, []⟩ = pure ((["_law_script", "_law_few", "_law_many"] : List Str).zip us) := fun _ _ _ _ _ _ us hl => match us, hl with | [_, _, _], _ => rfl
abbrev s__law_want : Stmt := top 30
theorem sc__law_want : FnScope ["_law_cell", "_law_cells", "_law_way", "_law_rest"] ["_law_cell", "_law_cells"] (defScope s__law_want) := ⟨rfl, rfl, rfl, by decide +kernel, rfl, by decide +kernel, by decide +kernel⟩
theorem bd__law_want : ∀ (kV doc pm : Value) (an : Option Addr) (cdv ct : Value) (us : List Value), us.length = 2 → bindArgs (PySem.W.fnOf "_law_want" "_law_want" (defArgs s__law_want) (defBody s__law_want) (defScope s__law_want) .none kV doc pm an cdv ct) ⟨us, []⟩ = pure ((["_law_cell", "_law_cells"] : List Str).zip us) := fun _ _ _ _ _ _ us hl => match us, hl with | [_, _], _ => rfl
abbrev s__law_begun : Stmt := top 31
theorem sc__law_begun : FnScope ["_law_yard", "_law_cell", "_law_cells", "_law_held", "_law_many", "_law_k"] ["_law_yard", "_law_cell", "_law_cells"] (defScope s__law_begun) := ⟨rfl, rfl, rfl, by decide +kernel, rfl, by decide +kernel, by decide +kernel⟩
theorem bd__law_begun : ∀ (kV doc pm : Value) (an : Option Addr) (cdv ct : Value) (us : List Value), us.length = 3 → bindArgs (PySem.W.fnOf "_law_begun" "_law_begun" (defArgs s__law_begun) (defBody s__law_begun) (defScope s__law_begun) .none kV doc pm an cdv ct) ⟨us, []⟩ = pure ((["_law_yard", "_law_cell", "_law_cells"] : List Str).zip us) := fun _ _ _ _ _ _ us hl => match us, hl with | [_, _, _], _ => rfl
abbrev s__law_done : Stmt := top 32
theorem sc__law_done : FnScope ["_law_yard", "_law_held", "_law_cell", "_law_cells", "_law_rest", "_law_want_here", "_law_at", "_law_piece", "_law_left", "_law_size", "_law_one"] ["_law_yard", "_law_held", "_law_cell", "_law_cells"] (defScope s__law_done) := ⟨rfl, rfl, rfl, by decide +kernel, rfl, by decide +kernel, by decide +kernel⟩
theorem bd__law_done : ∀ (kV doc pm : Value) (an : Option Addr) (cdv ct : Value) (us : List Value), us.length = 4 → bindArgs (PySem.W.fnOf "_law_done" "_law_done" (defArgs s__law_done) (defBody s__law_done) (defScope s__law_done) .none kV doc pm an cdv ct) ⟨us, []⟩ = pure ((["_law_yard", "_law_held", "_law_cell", "_law_cells"] : List Str).zip us) := fun _ _ _ _ _ _ us hl => match us, hl with | [_, _, _, _], _ => rfl
abbrev s__law_beside : Stmt := top 33
theorem sc__law_beside : FnScope ["_law_held", "_law_size", "_law_cells", "_law_blocks", "_law_twins", "_law_piece", "_law_block", "_law_twin"] ["_law_held", "_law_size", "_law_cells"] (defScope s__law_beside) := ⟨rfl, rfl, rfl, by decide +kernel, rfl, by decide +kernel, by decide +kernel⟩
theorem bd__law_beside : ∀ (kV doc pm : Value) (an : Option Addr) (cdv ct : Value) (us : List Value), us.length = 3 → bindArgs (PySem.W.fnOf "_law_beside" "_law_beside" (defArgs s__law_beside) (defBody s__law_beside) (defScope s__law_beside) .none kV doc pm an cdv ct) ⟨us, []⟩ = pure ((["_law_held", "_law_size", "_law_cells"] : List Str).zip us) := fun _ _ _ _ _ _ us hl => match us, hl with | [_, _, _], _ => rfl
abbrev s__law_due : Stmt := top 34
theorem sc__law_due : FnScope ["_law_held", "_law_want_here", "_law_cells", "_law_size", "_law_found"] ["_law_held", "_law_want_here", "_law_cells"] (defScope s__law_due) := ⟨rfl, rfl, rfl, by decide +kernel, rfl, by decide +kernel, by decide +kernel⟩
theorem bd__law_due : ∀ (kV doc pm : Value) (an : Option Addr) (cdv ct : Value) (us : List Value), us.length = 3 → bindArgs (PySem.W.fnOf "_law_due" "_law_due" (defArgs s__law_due) (defBody s__law_due) (defScope s__law_due) .none kV doc pm an cdv ct) ⟨us, []⟩ = pure ((["_law_held", "_law_want_here", "_law_cells"] : List Str).zip us) := fun _ _ _ _ _ _ us hl => match us, hl with | [_, _, _], _ => rfl
abbrev s__law_order : Stmt := top 35
theorem sc__law_order : FnScope ["_law_wants", "_law_order_here", "_law_k", "_law_pair"] ["_law_wants"] (defScope s__law_order) := ⟨rfl, rfl, rfl, by decide +kernel, rfl, by decide +kernel, by decide +kernel⟩
theorem bd__law_order : ∀ (kV doc pm : Value) (an : Option Addr) (cdv ct : Value) (us : List Value), us.length = 1 → bindArgs (PySem.W.fnOf "_law_order" "_law_order" (defArgs s__law_order) (defBody s__law_order) (defScope s__law_order) .none kV doc pm an cdv ct) ⟨us, []⟩ = pure ((["_law_wants"] : List Str).zip us) := fun _ _ _ _ _ _ us hl => match us, hl with | [_], _ => rfl
abbrev s__law_places : Stmt := top 36
theorem sc__law_places : FnScope ["_law_held", "_law_wants", "_law_cells", "_law_places_here", "_law_k", "_law_at", "_law_want_here"] ["_law_held", "_law_wants", "_law_cells"] (defScope s__law_places) := ⟨rfl, rfl, rfl, by decide +kernel, rfl, by decide +kernel, by decide +kernel⟩
theorem bd__law_places : ∀ (kV doc pm : Value) (an : Option Addr) (cdv ct : Value) (us : List Value), us.length = 3 → bindArgs (PySem.W.fnOf "_law_places" "_law_places" (defArgs s__law_places) (defBody s__law_places) (defScope s__law_places) .none kV doc pm an cdv ct) ⟨us, []⟩ = pure ((["_law_held", "_law_wants", "_law_cells"] : List Str).zip us) := fun _ _ _ _ _ _ us hl => match us, hl with | [_, _, _], _ => rfl
abbrev s__law_told : Stmt := top 37
theorem sc__law_told : FnScope ["_law_yard", "_law_wants", "_law_alone"] ["_law_yard", "_law_wants", "_law_alone"] (defScope s__law_told) := ⟨rfl, rfl, rfl, by decide +kernel, rfl, by decide +kernel, by decide +kernel⟩
theorem bd__law_told : ∀ (kV doc pm : Value) (an : Option Addr) (cdv ct : Value) (us : List Value), us.length = 3 → bindArgs (PySem.W.fnOf "_law_told" "_law_told" (defArgs s__law_told) (defBody s__law_told) (defScope s__law_told) .none kV doc pm an cdv ct) ⟨us, []⟩ = pure ((["_law_yard", "_law_wants", "_law_alone"] : List Str).zip us) := fun _ _ _ _ _ _ us hl => match us, hl with | [_, _, _], _ => rfl
abbrev s_law : Stmt := top 38
theorem sc_law : FnScope ["_law_script", "_law_cells", "_law_yard", "_law_held", "_law_k", "_law_cell", "_law_wants", "_law_due_here", "_law_found", "_law_j", "_law_at"] ["_law_script"] (defScope s_law) := ⟨rfl, rfl, rfl, by decide +kernel, rfl, by decide +kernel, by decide +kernel⟩
theorem bd_law : ∀ (kV doc pm : Value) (an : Option Addr) (cdv ct : Value) (us : List Value), us.length = 1 → bindArgs (PySem.W.fnOf "law" "law" (defArgs s_law) (defBody s_law) (defScope s_law) .none kV doc pm an cdv ct) ⟨us, []⟩ = pure ((["_law_script"] : List Str).zip us) := fun _ _ _ _ _ _ us hl => match us, hl with | [_], _ => rfl
/-! ### what the top has written -/
structure Txt (K : PySem.W.Frag) (mg : Str → Option Value) : Prop where
  n_ValueError : mg "ValueError" = none
  n_bool : mg "bool" = none
  n_int : mg "int" = none
  n_isinstance : mg "isinstance" = none
  n_len : mg "len" = none
  n_list : mg "list" = none
  n_max : mg "max" = none
  n_min : mg "min" = none
  n_range : mg "range" = none
  n_sorted : mg "sorted" = none
  g_is_size : mg "is_size" = some (.ref (He.ga K "is_size"))
  g_size_for : mg "size_for" = some (.ref (He.ga K "size_for"))
  g_twin_of : mg "twin_of" = some (.ref (He.ga K "twin_of"))
  g_best_of : mg "best_of" = some (.ref (He.ga K "best_of"))
  g_without : mg "without" = some (.ref (He.ga K "without"))
  g_cut_down : mg "cut_down" = some (.ref (He.ga K "cut_down"))
  g_put_back : mg "put_back" = some (.ref (He.ga K "put_back"))
  g_grown : mg "grown" = some (.ref (He.ga K "grown"))
  m_Yard_free : Meth K (He.ga K "Yard") "free" (He.ma K (He.ga K "Yard") "free")
  m_Yard_out : Meth K (He.ga K "Yard") "out" (He.ma K (He.ga K "Yard") "out")
  m_Yard_give : Meth K (He.ga K "Yard") "give" (He.ma K (He.ga K "Yard") "give")
  m_Yard_take_back : Meth K (He.ga K "Yard") "take_back" (He.ma K (He.ga K "Yard") "take_back")
  m_Yard_resize : Meth K (He.ga K "Yard") "resize" (He.ma K (He.ga K "Yard") "resize")
  g_by_size : mg "by_size" = some (.ref (He.ga K "by_size"))
  g_give_all : mg "give_all" = some (.ref (He.ga K "give_all"))
  g__law_whole : mg "_law_whole" = some (.ref (He.ga K "_law_whole"))
  g__law_cell_at : mg "_law_cell_at" = some (.ref (He.ga K "_law_cell_at"))
  g__law_doubled : mg "_law_doubled" = some (.ref (He.ga K "_law_doubled"))
  g__law_fitting : mg "_law_fitting" = some (.ref (He.ga K "_law_fitting"))
  g__law_yard_size : mg "_law_yard_size" = some (.ref (He.ga K "_law_yard_size"))
  g__law_room : mg "_law_room" = some (.ref (He.ga K "_law_room"))
  g__law_want : mg "_law_want" = some (.ref (He.ga K "_law_want"))
  g__law_begun : mg "_law_begun" = some (.ref (He.ga K "_law_begun"))
  g__law_done : mg "_law_done" = some (.ref (He.ga K "_law_done"))
  g__law_beside : mg "_law_beside" = some (.ref (He.ga K "_law_beside"))
  g__law_due : mg "_law_due" = some (.ref (He.ga K "_law_due"))
  g__law_order : mg "_law_order" = some (.ref (He.ga K "_law_order"))
  g__law_places : mg "_law_places" = some (.ref (He.ga K "_law_places"))
  g__law_told : mg "_law_told" = some (.ref (He.ga K "_law_told"))
  g_law : mg "law" = some (.ref (He.ga K "law"))
  g_YardError : mg "YardError" = some (.ref (He.ga K "YardError"))
  g_NoYard : mg "NoYard" = some (.ref (He.ga K "NoYard"))
  g_NoWish : mg "NoWish" = some (.ref (He.ga K "NoWish"))
  g_NoRoom : mg "NoRoom" = some (.ref (He.ga K "NoRoom"))
  g_NotOut : mg "NotOut" = some (.ref (He.ga K "NotOut"))
  g_Yard : mg "Yard" = some (.ref (He.ga K "Yard"))
  cl : Cls K (He.ga K "Yard")
  a_cells : NoAttr K (He.ga K "Yard") "cells"
  a_spare : NoAttr K (He.ga K "Yard") "spare"
  a_given : NoAttr K (He.ga K "Yard") "given"
  mkr : Mk K (He.ga K "Yard") (He.ma K (He.ga K "Yard") "__init__")
  x_YardError : PySem.W.excIn K (He.ga K "YardError") He.veBase "ValueError.__new__" = true ∧ PySem.W.keepIn K (.ref (He.ga K "YardError")) = true ∧ PySem.W.subIn K (.ref (He.ga K "YardError")) (.type "BaseException") = some true ∧ PySem.W.typeIn K (.ref (He.ga K "YardError")) = some (.type "type")
  x_NoYard : PySem.W.excIn K (He.ga K "NoYard") He.veBase "ValueError.__new__" = true ∧ PySem.W.keepIn K (.ref (He.ga K "NoYard")) = true ∧ PySem.W.subIn K (.ref (He.ga K "NoYard")) (.type "BaseException") = some true ∧ PySem.W.typeIn K (.ref (He.ga K "NoYard")) = some (.type "type")
  x_NoWish : PySem.W.excIn K (He.ga K "NoWish") He.veBase "ValueError.__new__" = true ∧ PySem.W.keepIn K (.ref (He.ga K "NoWish")) = true ∧ PySem.W.subIn K (.ref (He.ga K "NoWish")) (.type "BaseException") = some true ∧ PySem.W.typeIn K (.ref (He.ga K "NoWish")) = some (.type "type")
  x_NoRoom : PySem.W.excIn K (He.ga K "NoRoom") He.veBase "ValueError.__new__" = true ∧ PySem.W.keepIn K (.ref (He.ga K "NoRoom")) = true ∧ PySem.W.subIn K (.ref (He.ga K "NoRoom")) (.type "BaseException") = some true ∧ PySem.W.typeIn K (.ref (He.ga K "NoRoom")) = some (.type "type")
  x_NotOut : PySem.W.excIn K (He.ga K "NotOut") He.veBase "ValueError.__new__" = true ∧ PySem.W.keepIn K (.ref (He.ga K "NotOut")) = true ∧ PySem.W.subIn K (.ref (He.ga K "NotOut")) (.type "BaseException") = some true ∧ PySem.W.typeIn K (.ref (He.ga K "NotOut")) = some (.type "type")
  e_NoYard_NoRoom : PySem.W.exmOne K (.ref (He.ga K "NoYard")) (.ref (He.ga K "NoRoom")) = some false
  e_NoWish_NoRoom : PySem.W.exmOne K (.ref (He.ga K "NoWish")) (.ref (He.ga K "NoRoom")) = some false
  e_NoRoom_NoRoom : PySem.W.exmOne K (.ref (He.ga K "NoRoom")) (.ref (He.ga K "NoRoom")) = some true
  e_NotOut_NoRoom : PySem.W.exmOne K (.ref (He.ga K "NotOut")) (.ref (He.ga K "NoRoom")) = some false
  e_NoYard_YardError : PySem.W.exmOne K (.ref (He.ga K "NoYard")) (.ref (He.ga K "YardError")) = some true
  e_NoWish_YardError : PySem.W.exmOne K (.ref (He.ga K "NoWish")) (.ref (He.ga K "YardError")) = some true
  e_NoRoom_YardError : PySem.W.exmOne K (.ref (He.ga K "NoRoom")) (.ref (He.ga K "YardError")) = some true
  e_NotOut_YardError : PySem.W.exmOne K (.ref (He.ga K "NotOut")) (.ref (He.ga K "YardError")) = some true
  c_MOST : ∃ t, mg "MOST" = some (.int 1152921504606846976 t)
  F_is_size : ∃ fd, FunD K "is_size" "is_size" (defArgs s_is_size) (defBody s_is_size) (defScope s_is_size) [] [] (He.ga K "is_size") fd
  F_size_for : ∃ fd, FunD K "size_for" "size_for" (defArgs s_size_for) (defBody s_size_for) (defScope s_size_for) [] [] (He.ga K "size_for") fd
  F_twin_of : ∃ fd, FunD K "twin_of" "twin_of" (defArgs s_twin_of) (defBody s_twin_of) (defScope s_twin_of) [] [] (He.ga K "twin_of") fd
  F_best_of : ∃ fd, FunD K "best_of" "best_of" (defArgs s_best_of) (defBody s_best_of) (defScope s_best_of) [] [] (He.ga K "best_of") fd
  F_without : ∃ fd, FunD K "without" "without" (defArgs s_without) (defBody s_without) (defScope s_without) [] [] (He.ga K "without") fd
  F_cut_down : ∃ fd, FunD K "cut_down" "cut_down" (defArgs s_cut_down) (defBody s_cut_down) (defScope s_cut_down) [] [] (He.ga K "cut_down") fd
  F_put_back : ∃ fd, FunD K "put_back" "put_back" (defArgs s_put_back) (defBody s_put_back) (defScope s_put_back) [] [] (He.ga K "put_back") fd
  F_grown : ∃ fd, FunD K "grown" "grown" (defArgs s_grown) (defBody s_grown) (defScope s_grown) [] [] (He.ga K "grown") fd
  F_Yard_init : ∃ fd, FunD K "__init__" "Yard.__init__" (defArgs s_Yard_init) (defBody s_Yard_init) (defScope s_Yard_init) [] [] (He.ma K (He.ga K "Yard") "__init__") fd
  F_Yard_free : ∃ fd, FunD K "free" "Yard.free" (defArgs s_Yard_free) (defBody s_Yard_free) (defScope s_Yard_free) [] [] (He.ma K (He.ga K "Yard") "free") fd
  F_Yard_out : ∃ fd, FunD K "out" "Yard.out" (defArgs s_Yard_out) (defBody s_Yard_out) (defScope s_Yard_out) [] [] (He.ma K (He.ga K "Yard") "out") fd
  F_Yard_give : ∃ fd, FunD K "give" "Yard.give" (defArgs s_Yard_give) (defBody s_Yard_give) (defScope s_Yard_give) [] [] (He.ma K (He.ga K "Yard") "give") fd
  F_Yard_take_back : ∃ fd, FunD K "take_back" "Yard.take_back" (defArgs s_Yard_take_back) (defBody s_Yard_take_back) (defScope s_Yard_take_back) [] [] (He.ma K (He.ga K "Yard") "take_back") fd
  F_Yard_resize : ∃ fd, FunD K "resize" "Yard.resize" (defArgs s_Yard_resize) (defBody s_Yard_resize) (defScope s_Yard_resize) [] [] (He.ma K (He.ga K "Yard") "resize") fd
  F_by_size : ∃ fd, FunD K "by_size" "by_size" (defArgs s_by_size) (defBody s_by_size) (defScope s_by_size) [] [] (He.ga K "by_size") fd
  F_give_all : ∃ fd, FunD K "give_all" "give_all" (defArgs s_give_all) (defBody s_give_all) (defScope s_give_all) [] [] (He.ga K "give_all") fd
  F__law_whole : ∃ fd, FunD K "_law_whole" "_law_whole" (defArgs s__law_whole) (defBody s__law_whole) (defScope s__law_whole) [] [] (He.ga K "_law_whole") fd
  F__law_cell_at : ∃ fd, FunD K "_law_cell_at" "_law_cell_at" (defArgs s__law_cell_at) (defBody s__law_cell_at) (defScope s__law_cell_at) [] [] (He.ga K "_law_cell_at") fd
  F__law_doubled : ∃ fd, FunD K "_law_doubled" "_law_doubled" (defArgs s__law_doubled) (defBody s__law_doubled) (defScope s__law_doubled) [] [] (He.ga K "_law_doubled") fd
  F__law_fitting : ∃ fd, FunD K "_law_fitting" "_law_fitting" (defArgs s__law_fitting) (defBody s__law_fitting) (defScope s__law_fitting) [] [] (He.ga K "_law_fitting") fd
  F__law_yard_size : ∃ fd, FunD K "_law_yard_size" "_law_yard_size" (defArgs s__law_yard_size) (defBody s__law_yard_size) (defScope s__law_yard_size) [] [] (He.ga K "_law_yard_size") fd
  F__law_room : ∃ fd, FunD K "_law_room" "_law_room" (defArgs s__law_room) (defBody s__law_room) (defScope s__law_room) [] [] (He.ga K "_law_room") fd
  F__law_want : ∃ fd, FunD K "_law_want" "_law_want" (defArgs s__law_want) (defBody s__law_want) (defScope s__law_want) [] [] (He.ga K "_law_want") fd
  F__law_begun : ∃ fd, FunD K "_law_begun" "_law_begun" (defArgs s__law_begun) (defBody s__law_begun) (defScope s__law_begun) [] [] (He.ga K "_law_begun") fd
  F__law_done : ∃ fd, FunD K "_law_done" "_law_done" (defArgs s__law_done) (defBody s__law_done) (defScope s__law_done) [] [] (He.ga K "_law_done") fd
  F__law_beside : ∃ fd, FunD K "_law_beside" "_law_beside" (defArgs s__law_beside) (defBody s__law_beside) (defScope s__law_beside) [] [] (He.ga K "_law_beside") fd
  F__law_due : ∃ fd, FunD K "_law_due" "_law_due" (defArgs s__law_due) (defBody s__law_due) (defScope s__law_due) [] [] (He.ga K "_law_due") fd
  F__law_order : ∃ fd, FunD K "_law_order" "_law_order" (defArgs s__law_order) (defBody s__law_order) (defScope s__law_order) [] [] (He.ga K "_law_order") fd
  F__law_places : ∃ fd, FunD K "_law_places" "_law_places" (defArgs s__law_places) (defBody s__law_places) (defScope s__law_places) [] [] (He.ga K "_law_places") fd
  F__law_told : ∃ fd, FunD K "_law_told" "_law_told" (defArgs s__law_told) (defBody s__law_told) (defScope s__law_told) [] [] (He.ga K "_law_told") fd
  F_law : ∃ fd, FunD K "law" "law" (defArgs s_law) (defBody s_law) (defScope s_law) [] [] (He.ga K "law") fd
section
variable {P : Program} {w : World} {K : PySem.W.Frag} {mg : Str → Option Value} {base : Heap}
def spLaw (K : PySem.W.Frag) : Sp := fun vs H Q _ => ∃ (a : Addr) (ns : List Int), vs = [.ref a] ∧ SqL K H a (ns.map V.int) ∧ ns.length ≤ 63 ∧ ∀ H', Q (.bl true) H'
abbrev lawLevel : Nat := 8
/-! #### is_size -/
/-- is_size(number) -/
def spIsSize : Sp := fun vs H Q _ => ∃ n : Int, vs = [.int n] ∧ Q (.bl (isSz n)) H
theorem ok_is_size (T : Txt K mg) : DefOk P w K mg base 1 "is_size" ["number"] spIsSize := by
  refine mkDef T.F_is_size T.g_is_size bd_is_size sc_is_size (fun vs H Q E h => ?_) (fun cdv A outer s H vs Q E hr h => ?_)
  · obtain ⟨n, rfl, _⟩ := h
    rfl
  · obtain ⟨n, rfl, k⟩ := h
    obtain ⟨t, hM⟩ := T.c_MOST
    refine ⟨_, pss_cons (ps_if (PW.pt (pw_or (pt_cmpR op_lt (pv 0) pe_int (nomark _)) (pw_or1 (pt_cmpR op_gt (pv 0) (pe_glob (v := .int 1152921504606846976) rfl hM ⟨_, rfl⟩) (nomark _))))) (pss_one (ps_ret pe_bl)) pss_nil)
      (pss_cons (ps_set (i := 1) sc_is_size.nd rfl (Or.inl rfl) pe_int)
      (pss_cons (ps_while (passes_of rfl) (pt_cmpR op_lt (pv 1) (pv 0) (nomark _)) (pss_one (ps_set (i := 1) sc_is_size.nd rfl (Or.inl rfl) (pe_op op_mul (pv 1) pe_int))))
      (pss_one (ps_ret (pe_cmpR op_eq (pv 1) (pv 0) (nomark _)))))), ?_⟩
    refine ⟨_, rfl, _, _, rfl, rfl, _, rfl, ?_⟩
    refine ite2 (fun c => ?_) (fun c => ?_)
    · have c' : n < 1 := by simpa using c
      rw [isSz_low c'] at k
      exact iteT k
    · have c1 : ¬ n < 1 := by simpa using c
      refine ⟨_, rfl, _, _, rfl, rfl, _, rfl, ?_⟩
      refine ite2 (fun c => ?_) (fun c => ?_)
      · have c' : 1152921504606846976 < n := by simpa using c
        rw [isSz_high c'] at k
        exact k
      · have c2 : ¬ 1152921504606846976 < n := by simpa using c
        refine while_n (Bud.fe n) (fun i σ H' => H' = H ∧ σ = [some (.int n), some (.int (Bud.pw i))]) ⟨rfl, rfl⟩ ?_
        rintro i σ H' hi ⟨rfl, rfl⟩
        refine ⟨_, rfl, _, rfl, _, _, rfl, rfl, _, rfl, ?_⟩
        refine ite2 (fun c => ?_) (fun c => ?_)
        · have c' : Bud.pw i < n := by simpa using c
          have hlt : i < Bud.fe n := by
            rcases Nat.lt_or_ge i (Bud.fe n) with q | q
            · exact q
            · have := Bud.pw_le q
              have := Bud.fit_ge n
              unfold Bud.fit at this
              omega
          refine ⟨_, wh_step hlt, ?_⟩
          refine ⟨_, rfl, _, _, rfl, rfl, .inr ⟨by decide, by decide⟩, rfl, ?_⟩
          rw [Bud.pw_succ, Int.mul_comm 2]
          rfl
        · have c' : ¬ Bud.pw i < n := by simpa using c
          have e : i = Bud.fe n := by
            have := Bud.fe_le (w := n) (n := i) (by omega)
            omega
          subst e
          refine ⟨_, rfl, _, rfl, rfl, ?_⟩
          have ed : decide (V.int (Bud.pw (Bud.fe n)) = V.int n) = isSz n := by
            rw [← isSz_fit (by omega) (by omega)]
            exact decide_eq_decide.mpr ⟨fun q => V.int.inj q, fun q => congrArg V.int q⟩
          show Q (V.bl (decide (V.int (Bud.pw (Bud.fe n)) = V.int n))) _
          rw [ed]
          exact k
/-! #### size_for -/
/-- size_for(want) -/
def spSizeFor (K : PySem.W.Frag) : Sp := fun vs H Q E => ∃ n : Int, vs = [.int n] ∧ (1 ≤ n ∧ n ≤ 1152921504606846976 → Q (.int (Bud.fit n)) H) ∧ (¬ (1 ≤ n ∧ n ≤ 1152921504606846976) → E (.ref (He.ga K "NoWish")) none H)
theorem ok_size_for (T : Txt K mg) : DefOk P w K mg base 1 "size_for" ["want"] (spSizeFor K) := by
  refine mkDef T.F_size_for T.g_size_for bd_size_for sc_size_for (fun vs H Q E h => ?_) (fun cdv A outer s H vs Q E hr h => ?_)
  · obtain ⟨n, rfl, _⟩ := h
    rfl
  · obtain ⟨n, rfl, k1, k2⟩ := h
    obtain ⟨t, hM⟩ := T.c_MOST
    refine ⟨_, pss_cons (ps_if (PW.pt (pw_or (pt_cmpR op_lt (pv 0) pe_int (nomark _)) (pw_or1 (pt_cmpR op_gt (pv 0) (pe_glob (v := .int 1152921504606846976) rfl hM ⟨_, rfl⟩) (nomark _)))))
        (pss_one (ps_raise rfl (takes_of rfl rfl rfl rfl) (pmk_own PySem.F.excBase_ValueError T.x_NoWish.1 T.g_NoWish T.x_NoWish.2.1 (raises_own T.x_NoWish.2.2.1 T.x_NoWish.2.2.2) rfl))) pss_nil)
      (pss_cons (ps_set (i := 1) sc_size_for.nd rfl (Or.inl rfl) pe_int)
      (pss_cons (ps_while (passes_of rfl) (pt_cmpR op_lt (pv 1) (pv 0) (nomark _)) (pss_one (ps_set (i := 1) sc_size_for.nd rfl (Or.inl rfl) (pe_op op_mul (pv 1) pe_int))))
      (pss_one (ps_ret (pv 1))))), ?_⟩
    refine ⟨_, rfl, _, _, rfl, rfl, _, rfl, ?_⟩
    refine ite2 (fun c => ?_) (fun c => ?_)
    · have c' : n < 1 := by simpa using c
      exact iteT (k2 (by omega))
    · have c1 : ¬ n < 1 := by simpa using c
      refine ⟨_, rfl, _, _, rfl, rfl, _, rfl, ?_⟩
      refine ite2 (fun c => ?_) (fun c => ?_)
      · have c' : 1152921504606846976 < n := by simpa using c
        exact k2 (by omega)
      · have c2 : ¬ 1152921504606846976 < n := by simpa using c
        refine while_n (Bud.fe n) (fun i σ H' => H' = H ∧ σ = [some (.int n), some (.int (Bud.pw i))]) ⟨rfl, rfl⟩ ?_
        rintro i σ H' hi ⟨rfl, rfl⟩
        refine ⟨_, rfl, _, rfl, _, _, rfl, rfl, _, rfl, ?_⟩
        refine ite2 (fun c => ?_) (fun c => ?_)
        · have c' : Bud.pw i < n := by simpa using c
          have hlt : i < Bud.fe n := by
            rcases Nat.lt_or_ge i (Bud.fe n) with q | q
            · exact q
            · have := Bud.pw_le q
              have := Bud.fit_ge n
              unfold Bud.fit at this
              omega
          refine ⟨_, wh_step hlt, ?_⟩
          refine ⟨_, rfl, _, _, rfl, rfl, .inr ⟨by decide, by decide⟩, rfl, ?_⟩
          rw [Bud.pw_succ, Int.mul_comm 2]
          rfl
        · have c' : ¬ Bud.pw i < n := by simpa using c
          have e : i = Bud.fe n := by
            have := Bud.fe_le (w := n) (n := i) (by omega)
            omega
          subst e
          exact ⟨_, rfl, k1 (by omega)⟩
/-! #### twin_of -/
/-- twin_of(at, size) -/
def spTwin : Sp := fun vs H Q _ => ∃ a s : Int, vs = [.int a, .int s] ∧ 0 < s ∧ s ≤ Bud.pw 61 ∧ Q (.int (Bud.twin a s)) H
theorem ok_twin_of (T : Txt K mg) : DefOk P w K mg base 1 "twin_of" ["at", "size"] spTwin := by
  refine mkDef T.F_twin_of T.g_twin_of bd_twin_of sc_twin_of (fun vs H Q E h => ?_) (fun cdv A outer s H vs Q E hr h => ?_)
  · obtain ⟨a, s, rfl, _⟩ := h
    rfl
  · obtain ⟨a, s, rfl, h0, h1, k⟩ := h
    refine ⟨_, pss_cons (ps_if (pt_cmpR op_eq (pe_op op_mod (pe_op op_fdivW (pv 0) (pv 1)) pe_int) pe_int (nomark _)) (pss_one (ps_ret (pe_op op_add (pv 0) (pv 1)))) pss_nil)
      (pss_one (ps_ret (pe_op op_sub (pv 0) (pv 1)))), ?_⟩
    have hs : s.natAbs < 2 ^ 62 := by
      have e : Bud.pw 61 = 2305843009213693952 := by decide +kernel
      rw [e] at h1
      omega
    refine ⟨_, rfl, _, rfl, _, _, rfl, rfl, wide_div h0 hs (by decide) (by decide), _, _, rfl, rfl, (by show (0 : Int) < 2; decide), rfl, _, rfl, ?_⟩
    unfold Bud.twin at k
    refine ite2 (fun c => ?_) (fun c => ?_)
    · have c' : a / s % 2 = 0 := by simpa using c
      rw [if_pos c'] at k
      exact ⟨_, rfl, _, rfl, _, _, rfl, rfl, k⟩
    · have c' : ¬ a / s % 2 = 0 := by simpa using c
      rw [if_neg c'] at k
      exact ⟨_, rfl, _, rfl, _, _, rfl, rfl, k⟩
/-! #### best_of -/
/-- the smallest that is large enough -/
def spBest (K : PySem.W.Frag) : Sp := fun vs H Q _ => ∃ (l : Addr) (xs : List V) (L : List Bud.Pc) (w : Int), vs = [.ref l, .int w] ∧ SqL K H l xs ∧ Prs H xs L ∧
  (∀ x p, Bud.bestOf L w = some p → IsPr H x p → Q x H) ∧ (Bud.bestOf L w = none → Q .non H)
/-- what a slot holds that may be a pair -/
def OptPr (H : Hp) (v : V) : Option Bud.Pc → Prop
  | none => v = .non
  | some p => IsPr H v p
theorem fold_take {L : List Bud.Pc} {i : Nat} {p : Bud.Pc} {w : Int} (h : L[i]? = some p) : (L.take (i + 1)).foldl (Bud.better w) none = Bud.better w ((L.take i).foldl (Bud.better w) none) p := by
  rw [List.take_add_one, h, List.foldl_append]
  rfl
theorem ok_best_of (T : Txt K mg) : DefOk P w K mg base 1 "best_of" ["spare", "want"] (spBest K) := by
  refine mkDef T.F_best_of T.g_best_of bd_best_of sc_best_of (fun vs H Q E h => ?_) (fun cdv A outer s H vs Q E hr h => ?_)
  · obtain ⟨l, xs, L, w, rfl, _⟩ := h
    rfl
  · obtain ⟨l, xs, L, w, rfl, hl, hp, k1, k2⟩ := h
    have nd := sc_best_of.nd
    refine ⟨_, pss_cons (ps_set (i := 2) nd rfl (Or.inl rfl) pe_non)
      (pss_cons (ps_for (passes_of rfl) rfl (pi_list (pv 0)) (pg_name (i := 3) nd rfl (Or.inl rfl))
        (pss_one (ps_if (PW.pt (pw_and (pt_cmpR op_ge (pe_ix ix_tup (pv 3) pe_int (fun _ _ => rfl)) (pv 1) (nomark _)) (pw_and1 (PW.pt (pw_or (pt_cmpR op_isN (pv 2) pe_non (nomark _)) (pw_or1 (pt_cmpR op_lt (pe_ix ix_tup (pv 3) pe_int (fun _ _ => rfl)) (pe_ix ix_tup (pv 2) pe_int (fun _ _ => rfl)) (nomark _))))))))
          (pss_one (ps_set (i := 2) nd rfl (Or.inl rfl) (pv 3))) pss_nil)))
      (pss_one (ps_ret (pv 2)))), ?_⟩
    refine ⟨_, rfl, l, rfl, ⟨_, hl⟩, for_list (K := K) (a := l) (xs := xs) (fun i σ H' => H' = H ∧ ∃ (f : V) (y : Option V), σ = [some (.ref l), some (.int w), some f, y] ∧ OptPr H f ((L.take i).foldl (Bud.better w) none))
      ⟨rfl, .non, none, rfl, rfl⟩ (fun i σ H' _ h => by rw [h.1]; exact hl) ?_ ?_⟩
    · rintro i x σ H' hi ⟨rfl, f, y, rfl, ho⟩
      obtain ⟨p, hpi, hx⟩ := hp.get hi
      obtain ⟨t, rfl, et⟩ := id hx
      have ft := fold_take (w := w) hpi
      refine ⟨_, rfl, t, _, 1, _, rfl, rfl, SqT.of et, rfl, _, rfl, _, _, rfl, rfl, _, rfl, ?_⟩
      refine ite2 (fun c => ?_) (fun c => ?_)
      · have c' : w ≤ p.2 := by simpa using c
        cases e : (L.take i).foldl (Bud.better w) none with
        | none =>
          rw [e] at ho ft
          cases (show f = V.non from ho)
          have eb : Bud.better w none p = some p := by unfold Bud.better; rw [if_pos c']
          rw [eb] at ft
          refine ⟨_, rfl, rfl, _, rfl, iteT (iteT ?_)⟩
          exact ⟨_, rfl, rfl, .ref t, _, rfl, by rw [ft]; exact hx⟩
        | some q =>
          rw [e] at ho ft
          obtain ⟨u, rfl, eu⟩ := (show IsPr H' f q from ho)
          refine ⟨_, rfl, rfl, _, rfl, iteF ?_⟩
          refine ⟨_, rfl, t, _, 1, _, rfl, rfl, SqT.of et, rfl, _, rfl, u, _, 1, _, rfl, rfl, SqT.of eu, rfl, _, _, rfl, rfl, _, rfl, ?_⟩
          refine ite2 (fun d => ?_) (fun d => ?_)
          · have d' : p.2 < q.2 := by simpa using d
            have eb : Bud.better w (some q) p = some p := by unfold Bud.better; rw [if_pos c']; exact if_pos d'
            rw [eb] at ft
            exact ⟨_, rfl, rfl, .ref t, _, rfl, by rw [ft]; exact hx⟩
          · have d' : ¬ p.2 < q.2 := by simpa using d
            have eb : Bud.better w (some q) p = some q := by unfold Bud.better; rw [if_pos c']; exact if_neg d'
            rw [eb] at ft
            exact ⟨rfl, .ref u, _, rfl, by rw [ft]; exact ho⟩
      · have c' : ¬ w ≤ p.2 := by simpa using c
        have eb : ∀ f, Bud.better w f p = f := fun f => by unfold Bud.better; rw [if_neg c']
        rw [eb] at ft
        exact ⟨rfl, f, _, rfl, by rw [ft]; exact ho⟩
    · rintro σ H' ⟨rfl, f, y, rfl, ho⟩
      rw [hp.length, List.take_length] at ho
      refine ⟨_, rfl, ?_⟩
      cases e : Bud.bestOf L w with
      | none =>
        have e' : L.foldl (Bud.better w) none = none := e
        rw [e'] at ho
        cases (show f = V.non from ho)
        exact k2 e
      | some q =>
        have e' : L.foldl (Bud.better w) none = some q := e
        rw [e'] at ho
        exact k1 f q e ho
/-! #### without -/
/-- the free pieces but one -/
def spWithout (K : PySem.W.Frag) : Sp := fun vs H Q _ => ∃ (l : Addr) (xs : List V) (L : List Bud.Pc) (x : V) (p : Bud.Pc), vs = [.ref l, x] ∧ SqL K H l xs ∧ Prs H xs L ∧ IsPr H x p ∧ L.length ≤ 1000000 ∧
  ∀ (q : Addr) (ys : List V), H q = none → Prs H ys (Bud.without L p) → Q (.ref q) (upd H q (.lst ys))
theorem without_take {L : List Bud.Pc} {i : Nat} {q p : Bud.Pc} (h : L[i]? = some q) : Bud.without (L.take (i + 1)) p = Bud.without (L.take i) p ++ (if q = p then [] else [q]) := by
  unfold Bud.without
  rw [List.take_add_one, h, List.filter_append]
  congr 1
  by_cases e : q = p
  · rw [if_pos e]
    show List.filter _ [q] = []
    rw [List.filter_cons_of_neg (by simpa using e)]
    rfl
  · rw [if_neg e]
    show List.filter _ [q] = [q]
    rw [List.filter_cons_of_pos (by simpa using e)]
    rfl
theorem ok_without (T : Txt K mg) : DefOk P w K mg base 1 "without" ["spare", "piece"] (spWithout K) := by
  refine mkDef T.F_without T.g_without bd_without sc_without (fun vs H Q E h => ?_) (fun cdv A outer s H vs Q E hr h => ?_)
  · obtain ⟨l, xs, L, x, p, rfl, _⟩ := h
    rfl
  · obtain ⟨l, xs, L, x, p, rfl, hl, hp, hx, hlen, k⟩ := h
    have nd := sc_without.nd
    refine ⟨_, pss_one (ps_ret (pe_lc (own := [("one", 2)]) (g := gName 2) (by rfl) nd (pi_list (pv 0)) (blkOk_by (own := [("one", 2)]) (N := ["spare", "piece", "one"]) (sc := defScope s_without) (by decide +kernel)) (fun _ _ _ _ _ => pg_name (i := 2) nd rfl (Or.inl rfl))
      (fun _ _ _ _ _ => pts_one (pt_cmpR (op_neP hr.units) (pv 2) (pv 1) (nomark _))) (fun _ _ _ _ _ => pv 2))), ?_⟩
    refine ⟨_, rfl, l, rfl, ⟨_, hl⟩, fun D hD => ?_⟩
    refine lc_list (K := K) (a := l) (xs := xs) (fun i H' => ∃ ys, H' = upd H D (.lst ys) ∧ Prs H ys (Bud.without (L.take i) p)) ⟨[], rfl, .nil⟩ (fun i H' _ ⟨ys, e, _⟩ => by rw [e]; exact (same_new hD).seq hl) ?_ ?_
    · rintro i y H' hi ⟨ys, rfl, hys⟩
      obtain ⟨q, hq, hy⟩ := hp.get hi
      have kt : TupKept H (upd H D (.lst ys)) := tups_upd hD
      refine ⟨rfl, _, rfl, _, rfl, q, p, hy.kept kt, hx.kept kt, _, rfl, ?_⟩
      have hw := without_take (p := p) hq
      refine ite2 (fun c => ?_) (fun c => ?_)
      · have c' : ¬ q = p := by simpa using c
        rw [if_neg c'] at hw
        have hlt : ys.length < sizeLine := by
          have h1 := hys.length
          have h2 : (Bud.without (L.take i) p).length ≤ L.length := Nat.le_trans (List.length_filter_le _ _) (by rw [List.length_take]; omega)
          rw [sizeLine_eq]
          omega
        refine ⟨_, rfl, ys, upd_same, hlt, ys ++ [y], by rw [upd_upd], ?_⟩
        rw [hw]
        exact hys.append (.cons hy .nil)
      · have c' : q = p := by simpa using c
        rw [if_pos c', List.append_nil] at hw
        exact ⟨ys, rfl, by rw [hw]; exact hys⟩
    · rintro H' ⟨ys, rfl, hys⟩
      rw [hp.length, List.take_length] at hys
      exact k D ys hD hys
/-! #### cut_down -/
/-- the height to which size pw m is halved for a wish w -/
def cutE (w : Int) (m : Nat) : Nat := min (Bud.fe w) m
theorem cut_go {w : Int} {m i : Nat} (hi : i < m - cutE w m) : w ≤ Bud.pw (m - i - 1) := by
  have h1 : Bud.fe w ≤ m - i - 1 := by unfold cutE at hi; omega
  have h2 := Bud.fit_ge w
  have h3 := Bud.pw_le h1
  unfold Bud.fit at h2
  omega
theorem cut_stop {w : Int} {m : Nat} (hw : 1 ≤ w) : Bud.pw (cutE w m) / 2 < w := by
  rcases Nat.lt_or_ge m (Bud.fe w) with q | q
  · have e : cutE w m = m := by unfold cutE; omega
    rw [e]
    have := (Bud.fe_spec w).2 m q
    have := Bud.pw_pos m
    omega
  · have e : cutE w m = Bud.fe w := by unfold cutE; omega
    rw [e]
    cases e2 : Bud.fe w with
    | zero => show (1 : Int) / 2 < w; omega
    | succ n =>
      have h := (Bud.fe_spec w).2 n (by omega)
      rw [Bud.pw_succ, Int.mul_ediv_cancel_left _ (by decide)]
      exact h
theorem ups_rev (a : Int) (j d : Nat) : (Bud.ups a j (d + 1)).reverse = (Bud.ups a (j + 1) d).reverse ++ [(a + Bud.pw j, Bud.pw j)] := by
  rw [Bud.ups_cons, List.reverse_cons]
theorem ups_length (a : Int) (j : Nat) : ∀ d, (Bud.ups a j d).length = d
  | 0 => rfl
  | d + 1 => by
    show (Bud.ups a j d ++ [_]).length = d + 1
    rw [List.length_append, ups_length a j d]
    rfl
theorem pw_half' {n : Nat} (h : 0 < n) : Bud.pw n / 2 = Bud.pw (n - 1) := by
  obtain ⟨m, rfl⟩ : ∃ m, n = m + 1 := ⟨n - 1, by omega⟩
  rw [Bud.pw_succ, Int.mul_ediv_cancel_left _ (by decide)]
  rfl
/-- halved as long as half is enough -/
def spCut (K : PySem.W.Frag) : Sp := fun vs H Q _ => ∃ (l : Addr) (xs : List V) (L : List Bud.Pc) (a w : Int) (m : Nat), vs = [.ref l, .int a, .int (Bud.pw m), .int w] ∧ SqL K H l xs ∧ Prs H xs L ∧ L.length ≤ 1000000 ∧ m ≤ 60 ∧ 1 ≤ w ∧
  ∀ (H' : Hp) (q r : Addr) (ys : List V) (M : List Bud.Pc), Same H H' → H q = none → H r = none → H' q = some (.tup [.ref r, .int (Bud.pw (cutE w m))]) → H' r = some (.lst ys) → Prs H' ys M → M.Perm (L ++ Bud.ups a (cutE w m) (m - cutE w m)) → Bud.Srt M → Q (.ref q) H'
theorem ok_cut_down (T : Txt K mg) : DefOk P w K mg base 1 "cut_down" ["spare", "at", "size", "want"] (spCut K) := by
  refine mkDef T.F_cut_down T.g_cut_down bd_cut_down sc_cut_down (fun vs H Q E h => ?_) (fun cdv A outer s H vs Q E hr h => ?_)
  · obtain ⟨l, xs, L, a, w, m, rfl, _⟩ := h
    rfl
  · obtain ⟨l, xs, L, a, w, m, rfl, hl, hp, hlen, hm, hw, k⟩ := h
    have nd := sc_cut_down.nd
    refine ⟨_, pss_cons (ps_set (i := 4) nd rfl (Or.inl rfl) (pe_callTy call_list_of (by rfl) T.n_list (by decide +kernel) (pa_cons (pv 0) pa_nil)))
      (pss_cons (ps_while (passes_of rfl) (pt_cmpR op_ge (pe_op op_fdiv (pv 2) pe_int) (pv 3) (nomark _))
        (pss_cons (ps_set (i := 2) nd rfl (Or.inl rfl) (pe_op op_fdiv (pv 2) pe_int))
        (pss_one (ps_expr (pe_bm PySem.F.plainAttrs_list PySem.F.slot_list_append PySem.F.type_list_append mt_append (pv 4) (pa_cons (pe_tup (pa_cons (pe_op op_add (pv 1) (pv 2)) (pa_cons (pv 2) pa_nil))) pa_nil))))))
      (pss_one (ps_ret (pe_tup (pa_cons (pe_callB cr_sortPs (by rfl) T.n_sorted (by decide +kernel) (pa_cons (pv 4) pa_nil)) (pa_cons (pv 2) pa_nil)))))), ?_⟩
    refine ⟨_, rfl, l, _, rfl, .inl hl, fun D hD => ?_⟩
    refine while_n (m - cutE w m) (fun i σ H' => Same H H' ∧ ∃ ys, σ = [some (.ref l), some (.int a), some (.int (Bud.pw (m - i))), some (.int w), some (.ref D)] ∧ H' D = some (.lst ys) ∧ Prs H' ys (L ++ (Bud.ups a (m - i) i).reverse))
      ⟨same_new hD, xs, rfl, upd_same, by
        show Prs _ xs (L ++ [])
        rw [List.append_nil]
        exact hp.kept (tups_upd hD)⟩ ?_
    rintro i σ H1 hi ⟨s1, ys, rfl, hDl, hys⟩
    refine ⟨_, rfl, _, _, rfl, rfl, ⟨by decide, by decide⟩, _, rfl, _, _, rfl, rfl, _, rfl, ?_⟩
    rcases Nat.lt_or_ge i (m - cutE w m) with q | q
    · have hpos : 0 < m - i := by omega
      have e1 : decide (w ≤ Bud.pw (m - i) / 2) = true := decide_eq_true (by rw [pw_half' hpos]; exact cut_go q)
      show if decide (w ≤ Bud.pw (m - i) / 2) = true then _ else _
      rw [e1]
      refine iteT ⟨_, wh_step q, ?_⟩
      refine ⟨_, rfl, _, _, rfl, rfl, ⟨by decide, by decide⟩, ?_⟩
      have ylen : ys.length < sizeLine := by
        have h1 := hys.length
        rw [List.length_append, List.length_reverse, ups_length] at h1
        rw [sizeLine_eq]
        omega
      refine ⟨_, rfl, .inl ⟨rfl, _, SqL.of hDl⟩, _, rfl, _, rfl, _, _, rfl, rfl, _, rfl, (by show 2 ≤ sizeLine; decide), fun t ht => ?_⟩
      have ntD : D ≠ t := ne_of_none hDl ht
      refine ⟨D, _, _, rfl, rfl, by rw [upd_ne ntD]; exact hDl, ylen, ?_⟩
      have kt : TupKept H1 (upd H1 t (.tup [V.int (a + Bud.pw (m - i) / 2), V.int (Bud.pw (m - i) / 2)])) := tups_upd ht
      have kt2 : TupKept (upd H1 t (.tup [V.int (a + Bud.pw (m - i) / 2), V.int (Bud.pw (m - i) / 2)])) (upd (upd H1 t (.tup [V.int (a + Bud.pw (m - i) / 2), V.int (Bud.pw (m - i) / 2)])) D (.lst (ys ++ [V.ref t]))) :=
        tups_put (by rw [upd_ne ntD]; exact hDl) (fun xs z => by cases z)
      refine ⟨fun b o e => ?_, ys ++ [.ref t], ?_, upd_same, ?_⟩
      · have nb : b ≠ D := fun z => by
          rw [z, hD] at e
          cases e
        rw [upd_ne nb, upd_ne (ne_of_none (s1 _ _ e) ht)]
        exact s1 _ _ e
      · show [some (V.ref l), some (V.int a), some (V.int (Bud.pw (m - i) / 2)), some (V.int w), some (V.ref D)] = _
        rw [pw_half' hpos, show m - i - 1 = m - (i + 1) by omega]
      · have e3 : (Bud.ups a (m - (i + 1)) (i + 1)).reverse = (Bud.ups a (m - i) i).reverse ++ [(a + Bud.pw (m - (i + 1)), Bud.pw (m - (i + 1)))] := by
          rw [ups_rev, show m - (i + 1) + 1 = m - i by omega]
        rw [e3, ← List.append_assoc]
        refine Prs.append ((hys.kept kt).kept kt2) (.cons ⟨t, rfl, ?_⟩ .nil)
        refine kt2 _ _ ?_
        rw [upd_same, pw_half' hpos, show m - i - 1 = m - (i + 1) by omega]
    · have e : i = m - cutE w m := by omega
      have hle : cutE w m ≤ m := Nat.min_le_right _ _
      have e0 : m - i = cutE w m := by omega
      have e1 : decide (w ≤ Bud.pw (m - i) / 2) = false := decide_eq_false (by rw [e0]; have := cut_stop (m := m) hw; omega)
      show if decide (w ≤ Bud.pw (m - i) / 2) = true then _ else _
      rw [e1]
      refine iteF ?_
      refine ⟨_, rfl, D, _, _, rfl, SqL.of hDl, hys, fun zs M r hperm hsrt hzs hr => ?_⟩
      refine ⟨_, rfl, (by show 2 ≤ sizeLine; decide), fun q hq => ?_⟩
      have nrq : r ≠ q := ne_of_none upd_same hq
      have hq1 : H1 q = none := by
        rw [upd_ne nrq.symm] at hq
        exact hq
      refine k _ q r zs M (fun b o e => ?_) (s1.free hq1) (s1.free hr) ?_ ?_ ?_ ?_ hsrt
      · rw [upd_ne (ne_of_none (s1 _ _ e) hq1), upd_ne (ne_of_none (s1 _ _ e) hr)]
        exact s1 _ _ e
      · rw [upd_same, e0]
      · rw [upd_ne nrq, upd_same]
      · exact (hzs.kept (tups_upd hr)).kept (tups_upd hq)
      · refine hperm.trans ?_
        rw [e0, show i = m - cutE w m from e]
        exact List.Perm.append_left _ (List.reverse_perm _)
/-! #### put_back -/
/-- the free pieces with one more, joined -/
def spBack (K : PySem.W.Frag) : Sp := fun vs H Q _ => ∃ (l : Addr) (xs : List V) (L : List Bud.Pc) (a s : Int), vs = [.ref l, .int a, .int s] ∧ SqL K H l xs ∧ Prs H xs L ∧ L.length ≤ 1000000 ∧ (0 < s ∧ s ≤ Bud.pw 60) ∧ (∀ p ∈ L, 0 < p.2 ∧ p.2 ≤ Bud.pw 60) ∧
  ∀ (H' : Hp) (r : Addr) (ys : List V) (M : List Bud.Pc), Same H H' → H r = none → H' r = some (.lst ys) → Prs H' ys M → M.Perm ((Bud.pb L a s).2 :: (Bud.pb L a s).1) → Bud.Srt M → Q (.ref r) H'
theorem min_if (a b : Int) : (if b < a then b else a) = min a b := by
  by_cases h : b < a
  · rw [if_pos h]; omega
  · rw [if_neg h]; omega
theorem ok_put_back (T : Txt K mg) : DefOk P w K mg base 2 "put_back" ["spare", "at", "size"] (spBack K) := by
  refine mkDef T.F_put_back T.g_put_back bd_put_back sc_put_back (fun vs H Q E h => ?_) (fun cdv A outer s H vs Q E hr h => ?_)
  · obtain ⟨l, xs, L, a, s, rfl, _⟩ := h
    rfl
  · obtain ⟨l, xs, L, a, s, rfl, hl, hp, hlen, hs, hall, k⟩ := h
    have nd := sc_put_back.nd
    have hr1 : Room 1 _ := hr
    have hu := hu65 hr
    refine ⟨_, pss_cons (ps_set (i := 3) nd rfl (Or.inl rfl) (pe_callTy call_list_of (by rfl) T.n_list (by decide +kernel) (pa_cons (pv 0) pa_nil)))
      (pss_cons (ps_set (i := 4) nd rfl (Or.inl rfl) (pe_tup (pa_cons (pe_cd (ok_twin_of T) hr1 (pa_cons (pv 1) (pa_cons (pv 2) pa_nil))) (pa_cons (pv 2) pa_nil))))
      (pss_cons (ps_while (passes_of rfl) (pt_cmpR (op_inP hu) (pv 4) (pv 3) (by rfl))
        (pss_cons (ps_expr (pe_bm PySem.F.plainAttrs_list PySem.F.slot_list_remove PySem.F.type_list_remove (mt_removeP hu) (pv 3) (pa_cons (pv 4) pa_nil)))
        (pss_cons (ps_set (i := 1) nd rfl (Or.inl rfl) (pe_callB (call_min2 rfl) (by rfl) T.n_min (by decide +kernel) (pa_cons (pv 1) (pa_cons (pe_ix ix_tup (pv 4) pe_int (fun _ _ => rfl)) pa_nil))))
        (pss_cons (ps_set (i := 2) nd rfl (Or.inl rfl) (pe_op op_mul (pv 2) pe_int))
        (pss_one (ps_set (i := 4) nd rfl (Or.inl rfl) (pe_tup (pa_cons (pe_cd (ok_twin_of T) hr1 (pa_cons (pv 1) (pa_cons (pv 2) pa_nil))) (pa_cons (pv 2) pa_nil)))))))))
      (pss_cons (ps_expr (pe_bm PySem.F.plainAttrs_list PySem.F.slot_list_append PySem.F.type_list_append mt_append (pv 3) (pa_cons (pe_tup (pa_cons (pv 1) (pa_cons (pv 2) pa_nil))) pa_nil)))
      (pss_one (ps_ret (pe_callB cr_sortPs (by rfl) T.n_sorted (by decide +kernel) (pa_cons (pv 3) pa_nil))))))), ?_⟩
    have e61 := pw61
    have e60 := pw60
    have hs61 : s ≤ Bud.pw 61 := by omega
    refine ⟨_, rfl, l, _, rfl, .inl hl, fun D hD => ?_⟩
    refine ⟨_, rfl, _, rfl, a, s, rfl, hs.1, hs61, _, rfl, (by show 2 ≤ sizeLine; decide), fun t0 ht0 => ?_⟩
    have nDt0 : D ≠ t0 := ne_of_none upd_same ht0
    have ht0' : H t0 = none := by
      rw [upd_ne nDt0.symm] at ht0
      exact ht0
    -- behind i turns
    refine while_n L.length (fun i σ H' => Same H H' ∧ ∃ (ys : List V) (Li : List Bud.Pc) (ai si : Int) (t : Addr), σ = [some (.ref l), some (.int ai), some (.int si), some (.ref D), some (.ref t)] ∧ H' D = some (.lst ys) ∧ Prs H' ys Li ∧
        H' t = some (.tup [.int (Bud.twin ai si), .int si]) ∧ Li.length + i = L.length ∧ 0 < si ∧ si ≤ Bud.pw 61 ∧ (∀ p ∈ Li, 0 < p.2 ∧ p.2 ≤ Bud.pw 60) ∧ Bud.pb Li ai si = Bud.pb L a s)
      ⟨fun b o e => ?_, xs, L, a, s, t0, rfl, ?_, ?_, upd_same, rfl, hs.1, hs61, hall, rfl⟩ ?_
    · rw [upd_ne (ne_of_none e ht0'), upd_ne (ne_of_none e hD)]
      exact e
    · rw [upd_ne nDt0, upd_same]
    · exact (hp.kept (tups_upd hD)).kept (tups_upd ht0)
    rintro i σ H1 hi ⟨s1, ys, Li, ai, si, t, rfl, hDl, hys, ht, hlen2, hsi, hsi2, hall2, hpb⟩
    have hx : IsPr H1 (.ref t) (Bud.twin ai si, si) := ⟨t, rfl, ht⟩
    refine ⟨_, rfl, _, rfl, D, ys, Li, (Bud.twin ai si, si), rfl, SqL.of hDl, hys, hx, _, rfl, ?_⟩
    have ntD : t ≠ D := ne_of ht hDl (by intro z; cases z)
    refine ite2 (fun c => ?_) (fun c => ?_)
    · have c' : (Bud.twin ai si, si) ∈ Li := by simpa using c
      have hli : i < L.length := by
        have := List.length_pos_of_mem c'
        omega
      have hsz := (hall2 _ c').2
      simp only at hsz
      refine ⟨_, wh_step hli, ?_⟩
      refine ⟨_, rfl, .inl ⟨rfl, _, SqL.of hDl⟩, _, rfl, D, _, ys, Li, _, rfl, rfl, hDl, hys, hx, c', fun ys' hys' => ?_⟩
      have k2 : TupKept H1 (upd H1 D (.lst ys')) := tups_put hDl (fun xs z => by cases z)
      have ht2 := k2 _ _ ht
      refine ⟨_, rfl, _, rfl, t, _, 0, _, rfl, rfl, SqT.of ht2, rfl, _, _, rfl, ?_⟩
      refine ⟨_, rfl, _, _, rfl, rfl, .inr ⟨by decide, by decide⟩, ?_⟩
      refine ⟨_, rfl, _, rfl, _, _, rfl, (by show 0 < si * 2; omega), (by show si * 2 ≤ Bud.pw 61; omega), _, rfl, (by show 2 ≤ sizeLine; decide), fun t' ht' => ?_⟩
      have nD' : D ≠ t' := ne_of_none upd_same ht'
      refine ⟨fun b o e => ?_, ys', _, _, _, t', rfl, ?_, hys'.kept (k2.trans (tups_upd ht')), upd_same, ?_, (by show 0 < si * 2; omega), (by show si * 2 ≤ Bud.pw 61; omega), fun p hp => hall2 p (List.mem_of_mem_erase hp), ?_⟩
      · have nb : b ≠ D := fun z => by
          rw [z, hD] at e
          cases e
        have ht1 : H1 t' = none := by
          rw [upd_ne nD'.symm] at ht'
          exact ht'
        rw [upd_ne (ne_of_none (s1 _ _ e) ht1), upd_ne nb]
        exact s1 _ _ e
      · rw [upd_ne nD', upd_same]
      · have := List.length_erase_of_mem c'
        have := List.length_pos_of_mem c'
        omega
      · rw [← hpb, Bud.pb_in c']
        show Bud.pb _ (if Bud.twin ai si < ai then Bud.twin ai si else ai) (si * 2) = _
        rw [min_if]
    · have c' : ¬ (Bud.twin ai si, si) ∈ Li := by simpa using c
      have hpb2 : Bud.pb L a s = (Li, (ai, si)) := by rw [← hpb, Bud.pb_out c']
      have ylen : ys.length < sizeLine := by
        have h1 := hys.length
        rw [sizeLine_eq]
        omega
      refine ⟨_, rfl, .inl ⟨rfl, _, SqL.of hDl⟩, _, rfl, _, rfl, (by show 2 ≤ sizeLine; decide), fun t1 ht1 => ?_⟩
      have ntD1 : D ≠ t1 := ne_of_none hDl ht1
      have hDl1 : ∀ o, (upd H1 t1 o) D = some (.lst ys) := fun o => by rw [upd_ne ntD1]; exact hDl
      refine ⟨D, _, _, rfl, rfl, hDl1 _, ylen, ?_⟩
      have k3 : TupKept H1 (upd (upd H1 t1 (.tup [V.int ai, V.int si])) D (.lst (ys ++ [V.ref t1]))) := (tups_upd ht1).trans (tups_put (hDl1 _) (fun xs z => by cases z))
      refine ⟨_, rfl, D, _, Li ++ [(ai, si)], rfl, SqL.of upd_same, (hys.kept k3).append (.cons ⟨t1, rfl, ?_⟩ .nil), fun zs M r hperm hsrt hzs hr => ?_⟩
      · rw [upd_ne ntD1.symm, upd_same]
      · have nDr : D ≠ r := ne_of_none upd_same hr
        have hr1' : (upd H1 t1 (.tup [V.int ai, V.int si])) r = none := by
          rw [upd_ne nDr.symm] at hr
          exact hr
        have ntr : t1 ≠ r := ne_of_none upd_same hr1'
        have hr0 : H1 r = none := by
          rw [upd_ne ntr.symm] at hr1'
          exact hr1'
        refine k _ r zs M (fun b o e => ?_) (s1.free hr0) upd_same (hzs.kept (tups_upd hr)) ?_ hsrt
        · have nb : b ≠ D := fun z => by
            rw [z, hD] at e
            cases e
          rw [upd_ne (ne_of_none (s1 _ _ e) hr0), upd_ne nb, upd_ne (ne_of_none (s1 _ _ e) ht1)]
          exact s1 _ _ e
        · rw [hpb2]
          exact hperm.trans List.perm_append_comm
/-! #### grown -/
/-- the free pieces without the upper twins that lead to a greater size -/
def spGrown (K : PySem.W.Frag) : Sp := fun vs H Q _ => ∃ (l : Addr) (xs : List V) (L : List Bud.Pc) (a : Int) (j e : Nat), vs = [.ref l, .int a, .int (Bud.pw j), .int (Bud.pw (j + e))] ∧ SqL K H l xs ∧ Prs H xs L ∧ L.length ≤ 1000000 ∧ j + e ≤ 60 ∧
  (∀ G, Bud.grw e L a j = some G → ∀ (H' : Hp) (r : Addr) (ys : List V), Same H H' → H r = none → H' r = some (.lst ys) → Prs H' ys G → Q (.ref r) H') ∧ (Bud.grw e L a j = none → ∀ H', Same H H' → Q .non H')
theorem ok_grown (T : Txt K mg) : DefOk P w K mg base 2 "grown" ["spare", "at", "size", "due"] (spGrown K) := by
  refine mkDef T.F_grown T.g_grown bd_grown sc_grown (fun vs H Q E h => ?_) (fun cdv A outer s H vs Q E hr h => ?_)
  · obtain ⟨l, xs, L, a, j, e, rfl, _⟩ := h
    rfl
  · obtain ⟨l, xs, L, a, j, e, rfl, hl, hp, hlen, hje, k1, k2⟩ := h
    have nd := sc_grown.nd
    have hr1 : Room 1 _ := hr
    have hu := hu65 hr
    refine ⟨_, pss_cons (ps_set (i := 4) nd rfl (Or.inl rfl) (pe_callTy call_list_of (by rfl) T.n_list (by decide +kernel) (pa_cons (pv 0) pa_nil)))
      (pss_cons (ps_while (passes_of rfl) (pt_cmpR op_lt (pv 2) (pv 3) (nomark _))
        (pss_cons (ps_set (i := 5) nd rfl (Or.inl rfl) (pe_tup (pa_cons (pe_op op_add (pv 1) (pv 2)) (pa_cons (pv 2) pa_nil))))
        (pss_cons (ps_if (PW.pt (pw_or (pt_cmpR op_ne (pe_cd (ok_twin_of T) hr1 (pa_cons (pv 1) (pa_cons (pv 2) pa_nil))) (pe_op op_add (pv 1) (pv 2)) (nomark _)) (pw_or1 (pt_cmpR (op_notInP hu) (pv 5) (pv 4) (by rfl))))) (pss_one (ps_ret pe_non)) pss_nil)
        (pss_cons (ps_expr (pe_bm PySem.F.plainAttrs_list PySem.F.slot_list_remove PySem.F.type_list_remove (mt_removeP hu) (pv 4) (pa_cons (pv 5) pa_nil)))
        (pss_one (ps_set (i := 2) nd rfl (Or.inl rfl) (pe_op op_mul (pv 2) pe_int)))))))
      (pss_one (ps_ret (pv 4)))), ?_⟩
    refine ⟨_, rfl, l, _, rfl, .inl hl, fun D hD => ?_⟩
    refine while_n e (fun i σ H' => Same H H' ∧ ∃ (ys : List V) (Li : List Bud.Pc) (o : Option V), σ = [some (.ref l), some (.int a), some (.int (Bud.pw (j + i))), some (.int (Bud.pw (j + e))), some (.ref D), o] ∧ H' D = some (.lst ys) ∧ Prs H' ys Li ∧ Bud.grw (e - i) Li a (j + i) = Bud.grw e L a j)
      ⟨same_new hD, xs, L, none, rfl, upd_same, hp.kept (tups_upd hD), rfl⟩ ?_
    rintro i σ H1 hi ⟨s1, ys, Li, o, rfl, hDl, hys, hg⟩
    refine ⟨_, rfl, _, rfl, _, _, rfl, rfl, _, rfl, ?_⟩
    refine ite2 (fun c => ?_) (fun c => ?_)
    · have c' : j + i < j + e := Bud.pw_lt_iff.mp (by simpa using c)
      have hie : i < e := by omega
      obtain ⟨f, ef⟩ : ∃ f, e - i = f + 1 := ⟨e - i - 1, by omega⟩
      rw [ef] at hg
      have hg' : (if Bud.twin a (Bud.pw (j + i)) = a + Bud.pw (j + i) ∧ (a + Bud.pw (j + i), Bud.pw (j + i)) ∈ Li then Bud.grw f (Li.erase (a + Bud.pw (j + i), Bud.pw (j + i))) a (j + i + 1) else none) = Bud.grw e L a j := hg
      have b1 := Bud.pw_pos (j + i)
      have b2 : Bud.pw (j + i) ≤ Bud.pw 61 := Bud.pw_le (by omega)
      refine ⟨_, wh_step hie, ?_⟩
      refine ⟨_, rfl, _, rfl, _, _, rfl, rfl, _, rfl, (by show 2 ≤ sizeLine; decide), fun t ht => ?_⟩
      have nDt : D ≠ t := ne_of_none hDl ht
      have hDl2 : (upd H1 t (.tup [V.int (a + Bud.pw (j + i)), V.int (Bud.pw (j + i))])) D = some (.lst ys) := by rw [upd_ne nDt]; exact hDl
      have s2 : Same H (upd H1 t (.tup [V.int (a + Bud.pw (j + i)), V.int (Bud.pw (j + i))])) := s1.trans (same_new ht)
      have hx : IsPr (upd H1 t (.tup [V.int (a + Bud.pw (j + i)), V.int (Bud.pw (j + i))])) (.ref t) (a + Bud.pw (j + i), Bud.pw (j + i)) := ⟨t, rfl, upd_same⟩
      have hys2 := hys.kept (tups_upd (o := .tup [V.int (a + Bud.pw (j + i)), V.int (Bud.pw (j + i))]) ht)
      refine ⟨_, rfl, _, rfl, _, _, rfl, b1, b2, _, rfl, _, rfl, _, _, rfl, rfl, rfl, _, rfl, ?_⟩
      refine ite2 (fun c => ?_) (fun c => ?_)
      · have c' : ¬ Bud.twin a (Bud.pw (j + i)) = a + Bud.pw (j + i) := fun q => by
          rw [q] at c
          simp at c
        rw [if_neg (fun q => c' q.1)] at hg'
        exact iteT (k2 hg'.symm _ s2)
      · have c1 : Bud.twin a (Bud.pw (j + i)) = a + Bud.pw (j + i) := by
          refine Classical.byContradiction fun q => c ?_
          have : ¬ V.int (Bud.twin a (Bud.pw (j + i))) = V.int (a + Bud.pw (j + i)) := fun z => q (V.int.inj z)
          show (!decide (V.int (Bud.twin a (Bud.pw (j + i))) = V.int (a + Bud.pw (j + i)))) = true
          rw [decide_eq_false this]
          rfl
        refine ⟨_, rfl, _, rfl, D, ys, Li, _, rfl, SqL.of hDl2, hys2, hx, _, rfl, ?_⟩
        refine ite2 (fun c => ?_) (fun c => ?_)
        · have c' : ¬ (a + Bud.pw (j + i), Bud.pw (j + i)) ∈ Li := by simpa using c
          rw [if_neg (fun q => c' q.2)] at hg'
          exact k2 hg'.symm _ s2
        · have c' : (a + Bud.pw (j + i), Bud.pw (j + i)) ∈ Li := by simpa using c
          rw [if_pos ⟨c1, c'⟩] at hg'
          refine ⟨_, rfl, .inl ⟨rfl, _, SqL.of hDl2⟩, _, rfl, D, _, ys, Li, _, rfl, rfl, hDl2, hys2, hx, c', fun ys' hys' => ?_⟩
          have k3 := tups_put (o := .lst ys') hDl2 (fun xs z => by cases z)
          refine ⟨_, rfl, _, _, rfl, rfl, .inr ⟨by decide, by decide⟩, fun b u hb => ?_, ys', _, some (.ref t), ?_, upd_same, hys'.kept k3, ?_⟩
          · have nb : b ≠ D := fun z => by
              rw [z, hD] at hb
              cases hb
            rw [upd_ne nb]
            exact s2 _ _ hb
          · rw [show j + (i + 1) = j + i + 1 by omega, Bud.pw_succ, Int.mul_comm 2]
            rfl
          · rw [show e - (i + 1) = f by omega, show j + (i + 1) = j + i + 1 by omega]
            exact hg'
    · have c' : ¬ j + i < j + e := fun q => c (by simpa using Bud.pw_lt q)
      have ei : i = e := by omega
      subst ei
      rw [Nat.sub_self] at hg
      exact ⟨_, rfl, k1 Li hg.symm H1 D ys s1 hD hDl hys⟩
/-! #### Yard.__init__ -/
/-- Yard(cells) -/
def spInit (K : PySem.W.Frag) : Sp := fun vs H Q E => ∃ (p dx : Addr) (n : Int), vs = [.ref p, .int n] ∧ H p = some (.ins (He.ga K "Yard") dx []) ∧
  (isSz n = true → ∀ (H' : Hp) (d : Addr), (∀ b o, H b = some o → b ≠ p → H' b = some o) → H d = none → YardAt K H' p d n [(0, n)] [] → Q .non H') ∧
  (isSz n = false → E (.ref (He.ga K "NoYard")) none H)
theorem ok_init (T : Txt K mg) : MakeOk P w K mg base 2 "Yard" ["self", "cells"] (spInit K) := by
  refine mkMake T.F_Yard_init T.mkr T.g_Yard bd_Yard_init sc_Yard_init (fun vs H Q E h => ?_) (fun cdv A outer s H vs Q E hr h => ?_)
  · obtain ⟨p, dx, n, rfl, _⟩ := h
    rfl
  · obtain ⟨p, dx, n, rfl, hp, k1, k2⟩ := h
    have hr1 : Room 1 _ := hr
    refine ⟨_, pss_cons (ps_if (pt_not (pt_val (pe_cd (ok_is_size T) hr1 (pa_cons (pv 1) pa_nil)))) (pss_one (ps_raise rfl (takes_of rfl rfl rfl rfl) (pmk_own PySem.F.excBase_ValueError T.x_NoYard.1 T.g_NoYard T.x_NoYard.2.1 (raises_own T.x_NoYard.2.2.1 T.x_NoYard.2.2.2) rfl))) pss_nil)
      (pss_cons (ps_fld (pv 0) (pv 1) rfl)
      (pss_cons (ps_fld (pv 0) (pe_lst (pa_cons (pe_tup (pa_cons pe_int (pa_cons (pv 1) pa_nil))) pa_nil)) rfl)
      (pss_one (ps_fld (pv 0) pe_dnewK rfl)))), ?_⟩
    refine ⟨_, rfl, n, rfl, _, rfl, ?_⟩
    cases e : isSz n with
    | false => exact iteT (k2 e)
    | true =>
      refine iteF ?_
      refine ⟨_, rfl, _, rfl, p, _, dx, _, rfl, hp, T.cl, T.a_cells, (by show 0 < 1000; decide), ?_⟩
      refine ⟨_, rfl, (by show 2 ≤ sizeLine; decide), fun t ht => ⟨(by show 1 ≤ sizeLine; decide), fun l hl => ?_⟩⟩
      have npt : p ≠ t := ne_of_none upd_same ht
      have hp1 : ∀ o, (upd (upd H p (.ins (He.ga K "Yard") dx (putF "cells" (.int n) []))) t o) p = some (.ins (He.ga K "Yard") dx (putF "cells" (.int n) [])) := fun o => by rw [upd_ne npt, upd_same]
      have npl : p ≠ l := ne_of_none (hp1 _) hl
      have ntl : t ≠ l := ne_of_none upd_same hl
      have ht0 : H t = none := by rw [upd_ne npt.symm] at ht; exact ht
      have hl0 : H l = none := by rw [upd_ne ntl.symm, upd_ne npl.symm] at hl; exact hl
      refine ⟨_, rfl, p, _, dx, _, rfl, (by rw [upd_ne npl]; exact hp1 _), T.cl, T.a_spare, (by show 1 < 1000; decide), fun d hd => ?_⟩
      have npd : p ≠ d := ne_of_none upd_same hd
      rw [upd_ne npd.symm] at hd
      have nld : l ≠ d := ne_of_none upd_same hd
      rw [upd_ne nld.symm] at hd
      have ntd : t ≠ d := ne_of_none upd_same hd
      rw [upd_ne ntd.symm, upd_ne npd.symm] at hd
      refine ⟨_, rfl, p, _, dx, _, rfl, Eq.trans (upd_ne npd) upd_same, T.cl, T.a_given, (by show 2 < 1000; decide), ?_⟩
      refine k1 e _ d (fun b o hb nb => ?_) hd ⟨dx, l, [.ref t], upd_same, ?_, .cons ⟨t, rfl, ?_⟩ .nil, ?_⟩
      · rw [upd_ne nb, upd_ne (ne_of_none hb hd), upd_ne nb, upd_ne (ne_of_none hb hl0), upd_ne (ne_of_none hb ht0), upd_ne nb]
        exact hb
      · rw [upd_ne npl.symm, upd_ne nld, upd_ne npl.symm, upd_same]
      · rw [upd_ne npt.symm, upd_ne ntd, upd_ne npt.symm, upd_ne ntl, upd_same]
      · rw [upd_ne npd.symm, upd_same]
        rfl
theorem rd_yard {σ : St} {H : Hp} {Q : VK} {i k : Nat} (hv : σ[i]? = some (some (V.int (Bud.pw k)))) (hk : k ≤ 60)
    (k0 : ∀ (H' : Hp) (x d : Addr), Same H H' → H x = none → H d = none → YardT K H' x d (.free : Bud.T k) → Q (.ref x) H') : tMkX "Yard" (spInit K) (fun _ => E0) K (tCons (tVar i) tNil) σ H Q := by
  refine ⟨_, hv, fun x dx nx ndx nex => ⟨x, dx, _, rfl, upd_same, fun _ H2 d hk2 nd2 y2 => ⟨rfl, ?_⟩, fun e => absurd e (by rw [isSz_pw hk]; decide)⟩⟩
  refine k0 H2 x d (fun b o hb => hk2 _ _ ?_ (ne_of_none hb nx)) nx (none_upd (none_upd nd2)) (yardT_new hk y2)
  rw [upd_ne (ne_of_none hb nx), upd_ne (ne_of_none hb ndx)]
  exact hb
/-! #### Yard.free -/
/-- the free pieces: a new list -/
def spFree (K : PySem.W.Frag) : Sp := fun vs H Q _ => ∃ (p d : Addr) (c : Int) (L G : List Bud.Pc), vs = [.ref p] ∧ YardAt K H p d c L G ∧
  ∀ (H' : Hp) (q : Addr) (xs : List V), Same H H' → H q = none → H' q = some (.lst xs) → Prs H' xs L → Q (.ref q) H'
theorem ok_free (T : Txt K mg) : MethOk P w K mg base 1 "Yard" "free" ["self"] (spFree K) := by
  refine mkMeth T.F_Yard_free T.cl T.m_Yard_free bd_Yard_free sc_Yard_free (fun vs H Q E h => ?_) (fun cdv A outer s H vs Q E hr h => ?_)
  · obtain ⟨p, d, c, L, G, rfl, _⟩ := h
    rfl
  · obtain ⟨p, d, c, L, G, rfl, ⟨dx, l, xs, h1, h2, h3, h4⟩, k⟩ := h
    refine ⟨_, pss_one (ps_ret (pe_callTy call_list_of (by rfl) T.n_list (by decide +kernel) (pa_cons (pe_fld (pv 0) rfl) pa_nil))), ?_⟩
    refine ⟨_, rfl, p, _, dx, _, _, rfl, h1, T.cl, T.a_spare, yf_spare _ _ _, l, _, rfl, .inl (SqL.of h2), fun q hq => ?_⟩
    exact k _ q xs (same_new hq) hq upd_same (h3.kept (tups_upd hq))
/-! #### Yard.out -/
/-- the pieces that are out, rising: a new list -/
def spOut (K : PySem.W.Frag) : Sp := fun vs H Q _ => ∃ (p d : Addr) (c : Int) (L G : List Bud.Pc), vs = [.ref p] ∧ YardAt K H p d c L G ∧ (G.map (·.1)).Nodup ∧ G.length ≤ 1000000 ∧
  ∀ (H' : Hp) (q : Addr) (xs : List V) (O : List Bud.Pc), Same H H' → H q = none → H' q = some (.lst xs) → Prs H' xs O → O.Perm G → Bud.Srt O → Q (.ref q) H'
/-- the pieces at the places ks -/
def atKeys (G : List Bud.Pc) (ks : List Int) : List Bud.Pc := ks.map fun a => (a, ((G.find? fun p => decide (p.1 = a)).map (·.2)).getD 0)
theorem find_key {G : List Bud.Pc} (nd : (G.map (·.1)).Nodup) {p : Bud.Pc} (hp : p ∈ G) : ((G.find? fun q => decide (q.1 = p.1)).map (·.2)).getD 0 = p.2 := by
  induction G with
  | nil => cases hp
  | cons q G ih =>
    have ⟨n1, n2⟩ := List.nodup_cons.mp nd
    rcases List.mem_cons.mp hp with rfl | hp
    · rw [List.find?_cons_of_pos (by simp)]
      rfl
    · have hne : ¬ q.1 = p.1 := fun e => n1 (by
        show q.1 ∈ G.map (·.1)
        rw [e]
        exact List.mem_map.mpr ⟨_, hp, rfl⟩)
      rw [List.find?_cons_of_neg (by simpa using hne)]
      exact ih n2 hp
theorem atKeys_self {G : List Bud.Pc} (nd : (G.map (·.1)).Nodup) : atKeys G (G.map (·.1)) = G := by
  unfold atKeys
  rw [List.map_map]
  refine (List.map_congr_left fun p hp => ?_).trans (List.map_id _)
  show (p.1, _) = p
  rw [find_key nd hp]
theorem atKeys_srt (G : List Bud.Pc) {ks : List Int} (h : ks.Pairwise (· ≤ ·)) (nd : ks.Nodup) : Bud.Srt (atKeys G ks) := by
  refine List.pairwise_map.mpr ?_
  have h2 := List.Pairwise.and h nd
  refine h2.imp fun {a b} q => ?_
  unfold Bud.lexle
  have := q.1
  have := q.2
  show a < b ∨ _
  left
  omega
theorem ok_out (T : Txt K mg) : MethOk P w K mg base 1 "Yard" "out" ["self"] (spOut K) := by
  refine mkMeth T.F_Yard_out T.cl T.m_Yard_out bd_Yard_out sc_Yard_out (fun vs H Q E h => ?_) (fun cdv A outer s H vs Q E hr h => ?_)
  · obtain ⟨p, d, c, L, G, rfl, _⟩ := h
    rfl
  · obtain ⟨p, d, c, L, G, rfl, ⟨dx, l, xs, h1, h2, h3, h4⟩, nd, hlen, k⟩ := h
    have nN := sc_Yard_out.nd
    refine ⟨_, pss_one (ps_ret (pe_lc (own := [("at", 1)]) (g := gName 1) (tt := tYes) (by rfl) nN (pi_list (pe_callB (cr_sortD rfl) (by rfl) T.n_sorted (by decide +kernel) (pa_cons (pe_fld (pv 0) rfl) pa_nil))) (blkOk_by (own := [("at", 1)]) (N := ["self", "at"]) (sc := defScope s_Yard_out) (by decide +kernel)) (fun _ _ _ _ _ => pg_name (i := 1) nN rfl (Or.inl rfl))
      (fun _ _ _ _ _ => pts_nil) (fun _ _ _ _ _ => pe_tup (pa_cons (pv 1) (pa_cons (pe_dget (by exact hu_of hr) (show PE _ _ (tFld K (tVar 0) "given") from pe_fld (pv 0) rfl) (pv 1) (fun _ _ => rfl)) pa_nil))))), ?_⟩
    refine ⟨_, rfl, p, _, dx, _, _, rfl, h1, T.cl, T.a_given, yf_given _ _ _, d, _, G.map (·.1), rfl, .inl h4, gk_keys G, fun ks r hperm hle hr0 => ?_⟩
    have ndk : ks.Nodup := hperm.nodup_iff.mpr nd
    have s0 : Same H (upd H r (.lst (ks.map V.int))) := same_new hr0
    refine ⟨r, rfl, ⟨_, SqL.of upd_same⟩, fun D hD => ?_⟩
    have nrD : r ≠ D := ne_of_none upd_same hD
    have hD0 : H D = none := by rw [upd_ne nrD.symm] at hD; exact hD
    refine lc_list (K := K) (a := r) (xs := ks.map V.int) (fun i H' => Same H H' ∧ H' r = some (.lst (ks.map V.int)) ∧ ∃ ys, H' D = some (.lst ys) ∧ Prs H' ys (atKeys G (ks.take i)))
      ⟨fun b o e => by rw [upd_ne (ne_of_none e hD0)]; exact s0 b o e, by rw [upd_ne nrD, upd_same], [], upd_same, .nil⟩ (fun i H' _ h => SqL.of h.2.1) ?_ ?_
    · rintro i y H' hi ⟨s1, hr1, ys, hDl, hys⟩
      rw [List.getElem?_map] at hi
      obtain ⟨a, ha, rfl⟩ : ∃ a, ks[i]? = some a ∧ y = V.int a := by
        cases e : ks[i]? with
        | none => rw [e] at hi; cases hi
        | some a => rw [e] at hi; exact ⟨a, rfl, (Option.some.inj hi).symm⟩
      have hmem : a ∈ G.map (·.1) := hperm.mem_iff.mp (List.mem_of_getElem? ha)
      obtain ⟨g, hg, eg⟩ := List.mem_map.mp hmem
      subst eg
      have hv : valV (gk G) (Sum.inl g.1 : Key) = some (.int g.2) := gk_val nd hg
      refine ⟨rfl, ?_⟩
      refine ⟨_, rfl, _, rfl, p, _, dx, _, _, rfl, s1 _ _ h1, T.cl, T.a_given, yf_given _ _ _, _, rfl, d, .int g.2, rfl, ?_, (by show 2 ≤ sizeLine; decide), fun t ht => ?_⟩
      · rw [← hv]
        exact DGet.k (k := Sum.inl g.1) (s1 _ _ h4)
      have nDt : D ≠ t := ne_of_none hDl ht
      have hlt : ys.length < sizeLine := by
        have e1 := hys.length
        have e2 : (atKeys G (ks.take i)).length ≤ G.length := by
          unfold atKeys
          rw [List.length_map, List.length_take]
          have := hperm.length_eq
          rw [List.length_map] at this
          omega
        rw [sizeLine_eq]
        omega
      refine ⟨ys, by rw [upd_ne nDt]; exact hDl, hlt, fun b o e => ?_, ?_, _, upd_same, ?_⟩
      · rw [upd_ne (ne_of_none e hD0), upd_ne (ne_of_none (s1 _ _ e) ht)]
        exact s1 _ _ e
      · rw [upd_ne nrD, upd_ne (ne_of_none hr1 ht)]
        exact hr1
      · have e3 : atKeys G (ks.take (i + 1)) = atKeys G (ks.take i) ++ [(g.1, g.2)] := by
          unfold atKeys
          rw [List.take_add_one, ha, List.map_append]
          show _ ++ [(g.1, _)] = _
          rw [find_key nd hg]
        rw [e3]
        refine Prs.append ((hys.kept (tups_upd ht)).kept (tups_put (by rw [upd_ne nDt]; exact hDl) (fun xs z => by cases z))) (.cons ⟨t, rfl, ?_⟩ .nil)
        rw [upd_ne nDt.symm, upd_same]
    · rintro H' ⟨s1, hr1, ys, hDl, hys⟩
      rw [List.length_map, List.take_length] at hys
      refine k H' D ys _ s1 hD0 hDl hys ?_ (atKeys_srt G hle ndk)
      have e4 : (atKeys G ks).Perm (atKeys G (G.map (·.1))) := hperm.map _
      rw [atKeys_self nd] at e4
      exact e4
/-! ### what a yard tells, read at once -/
theorem rd_out {σ : St} {H : Hp} {Q : VK} {i : Nat} {p d : Addr} {k : Nat} {t : Bud.T k} (hv : σ[i]? = some (some (V.ref p))) (y : YardT K H p d t) (hlen : (Bud.outs t 0).length ≤ 1000)
    (k0 : ∀ (H' : Hp) (q : Addr) (xs : List V), Same H H' → H q = none → H' q = some (.lst xs) → Prs H' xs (Bud.outs t 0) → Q (.ref q) H') : tM "Yard" "out" (spOut K) K (tVar i) tNil σ H Q := by
  obtain ⟨G, hG, nd, ya⟩ := y.raw
  obtain ⟨dx, fs, ef, nm, _⟩ := ya.at_
  exact ⟨_, hv, p, dx, fs, rfl, ef, nm.out, p, d, _, _, G, rfl, ya, nd, by rw [hG.length_eq]; omega, fun H' q xs O s nq eq pq perm srt => by
    have e : O = Bud.outs t 0 := Bud.srt_uniq srt (Bud.srt_outs t (Bud.zdvd k)) (perm.trans hG)
    subst e
    exact k0 H' q xs s nq eq pq⟩
theorem rd_free {σ : St} {H : Hp} {Q : VK} {i : Nat} {p d : Addr} {k : Nat} {t : Bud.T k} (hv : σ[i]? = some (some (V.ref p))) (y : YardT K H p d t)
    (k0 : ∀ (H' : Hp) (q : Addr) (xs : List V), Same H H' → H q = none → H' q = some (.lst xs) → Prs H' xs (Bud.frees t 0) → Q (.ref q) H') : tM "Yard" "free" (spFree K) K (tVar i) tNil σ H Q := by
  obtain ⟨G, hG, nd, ya⟩ := y.raw
  obtain ⟨dx, fs, ef, nm, _⟩ := ya.at_
  exact ⟨_, hv, p, dx, fs, rfl, ef, nm.free, p, d, _, _, G, rfl, ya, fun H' q xs s nq eq pq => k0 H' q xs s nq eq pq⟩
theorem rd_LL {σ : St} {H : Hp} {Q : VK} {i j : Nat} {p d : Addr} {k : Nat} {t : Bud.T k} (hv : σ[i]? = some (some (V.ref p))) (hv2 : σ[j]? = some (some (V.ref p))) (y : YardT K H p d t) (hlen : (Bud.outs t 0).length ≤ 1000)
    (k0 : ∀ (H' : Hp) (l : Addr), Same H H' → H l = none → IsLL K H' (.ref l) (Bud.outs t 0) (Bud.frees t 0) → Q (.ref l) H') : tLst (tCons (tM "Yard" "out" (spOut K) K (tVar i) tNil) (tCons (tM "Yard" "free" (spFree K) K (tVar j) tNil) tNil)) σ H Q := by
  refine rd_out hv y hlen fun H1 q1 xs s1 n1 e1 p1 => ?_
  refine rd_free hv2 (y.same s1) fun H2 q2 ys s2 n2 e2 p2 => ?_
  refine ⟨(by show 2 ≤ sizeLine; decide), fun l hl => ?_⟩
  have s3 : Same H2 (upd H2 l (.lst [.ref q1, .ref q2])) := same_new hl
  exact k0 _ l ((s1.trans s2).trans s3) (Same.none (s1.trans s2) hl) ⟨l, q1, q2, xs, ys, rfl, upd_same, s3 _ _ (s2 _ _ e1), s3 _ _ e2, (p1.kept (Same.tups s2)).kept (Same.tups s3), p2.kept (Same.tups s3)⟩
theorem rd_LLc {σ : St} {H : Hp} {Q : VK} {i j : Nat} {p d : Addr} {k : Nat} {t : Bud.T k} (hv : σ[i]? = some (some (V.ref p))) (hv2 : σ[j]? = some (some (V.ref p))) (y : YardT K H p d t) (hlen : (Bud.outs t 0).length ≤ 1000)
    (k0 : ∀ (H' : Hp) (l : Addr), Same H H' → H l = none → IsLL K H' (.ref l) (Bud.outs t 0) (Bud.frees t 0) → Q (.ref l) H') : tLst (tCons (tCB (rListOf K) (tCons (tM "Yard" "out" (spOut K) K (tVar i) tNil) tNil)) (tCons (tCB (rListOf K) (tCons (tM "Yard" "free" (spFree K) K (tVar j) tNil) tNil)) tNil)) σ H Q := by
  refine rd_out hv y hlen fun H1 q1 xs s1 n1 e1 p1 => ?_
  refine ⟨q1, xs, rfl, SqL.of e1, fun r1 hr1 => ?_⟩
  have t1 : Same H1 (upd H1 r1 (.lst xs)) := same_new hr1
  refine rd_free hv2 ((y.same s1).same t1) fun H2 q2 ys s2 n2 e2 p2 => ?_
  refine ⟨q2, ys, rfl, SqL.of e2, fun r2 hr2 => ?_⟩
  have t2 : Same H2 (upd H2 r2 (.lst ys)) := same_new hr2
  refine ⟨(by show 2 ≤ sizeLine; decide), fun l hl => ?_⟩
  have s3 : Same (upd H2 r2 (.lst ys)) (upd (upd H2 r2 (.lst ys)) l (.lst [.ref r1, .ref r2])) := same_new hl
  have sA := t1.trans (s2.trans (t2.trans s3))
  exact k0 _ l (s1.trans sA) (Same.none (s1.trans (t1.trans (s2.trans t2))) hl) ⟨l, r1, r2, xs, ys, rfl, upd_same, s3 _ _ (t2 _ _ (s2 _ _ upd_same)), s3 _ _ upd_same, p1.kept (Same.tups sA), (p2.kept (Same.tups t2)).kept (Same.tups s3)⟩
/-! #### Yard.give -/
/-- a piece is given out -/
def spGive (K : PySem.W.Frag) : Sp := fun vs H Q E => ∃ (p d : Addr) (k : Nat) (t : Bud.T k) (w : Int), vs = [.ref p, .int w] ∧ YardT K H p d t ∧ (Bud.outs t 0).length ≤ 1000 ∧
  (w < 1 → E (.ref (He.ga K "NoWish")) none H) ∧ (1 ≤ w → Bud.bestOf (Bud.frees t 0) w = none → E (.ref (He.ga K "NoRoom")) none H) ∧
  (1 ≤ w → ∀ a S, Bud.bestOf (Bud.frees t 0) w = some (a, S) → ∀ (H' : Hp) (t' : Bud.T k), Kp p d H H' → YardT K H' p d t' → (∀ l, Spare H' p l → H l = none) → (Bud.outs t' 0).Perm ((a, Bud.fit w) :: Bud.outs t 0) → Q (.int a) H')
theorem ok_give (T : Txt K mg) : MethOk P w K mg base 2 "Yard" "give" ["self", "want"] (spGive K) := by
  refine mkMeth T.F_Yard_give T.cl T.m_Yard_give bd_Yard_give sc_Yard_give (fun vs H Q E h => ?_) (fun cdv A outer s H vs Q E hr h => ?_)
  · obtain ⟨p, d, k, t, w, rfl, _⟩ := h
    rfl
  · obtain ⟨p, d, k, t, w, rfl, y, hlen, k1, k2, k3⟩ := h
    have hY := y.has
    obtain ⟨hk, hc, G, hG, dx, l, xs, h1, h2, h3, h4⟩ := id y
    have nd := sc_Yard_give.nd
    have hr1 : Room 1 _ := hr
    have hfl := frees_1000 hk hc hlen
    refine ⟨_, pss_cons (ps_if (pt_cmpR op_lt (pv 1) pe_int (nomark _)) (pss_one (ps_raise rfl (takes_of rfl rfl rfl rfl) (pmk_own PySem.F.excBase_ValueError T.x_NoWish.1 T.g_NoWish T.x_NoWish.2.1 (raises_own T.x_NoWish.2.2.1 T.x_NoWish.2.2.2) rfl))) pss_nil)
      (pss_cons (ps_set (i := 2) nd rfl (Or.inl rfl) (pe_cd (ok_best_of T) hr1 (pa_cons (pe_fld (pv 0) rfl) (pa_cons (pv 1) pa_nil))))
      (pss_cons (ps_if (pt_cmpR op_isN (pv 2) pe_non (nomark _)) (pss_one (ps_raise rfl (takes_of rfl rfl rfl rfl) (pmk_own PySem.F.excBase_ValueError T.x_NoRoom.1 T.g_NoRoom T.x_NoRoom.2.1 (raises_own T.x_NoRoom.2.2.1 T.x_NoRoom.2.2.2) rfl))) pss_nil)
      (pss_cons (ps_set (i := 3) nd rfl (Or.inl rfl) (pe_p0 (pv 2)))
      (pss_cons (ps_set (i := 4) nd rfl (Or.inl rfl) (pe_cd (ok_cut_down T) hr1 (pa_cons (pe_cd (ok_without T) hr1 (pa_cons (pe_fld (pv 0) rfl) (pa_cons (pv 2) pa_nil))) (pa_cons (pv 3) (pa_cons (pe_p1 (pv 2)) (pa_cons (pv 1) pa_nil))))))
      (pss_cons (ps_fld (pv 0) (pe_ix ix_tup (pv 4) pe_int (fun _ _ => rfl)) rfl)
      (pss_cons (ps_dput (hu_of hr) (pe_fld (pv 0) rfl) (pv 3) (pe_ix ix_tup (pv 4) pe_int (fun _ _ => rfl)) rfl)
      (pss_one (ps_ret (pv 3))))))))), ?_⟩
    refine ⟨_, rfl, _, _, rfl, rfl, _, rfl, ?_⟩
    refine ite2 (fun c => ?_) (fun c => ?_)
    · exact k1 (by simpa using c)
    have hw : 1 ≤ w := by
      have : ¬ w < 1 := by simpa using c
      omega
    refine ⟨_, rfl, p, _, dx, _, _, rfl, h1, T.cl, T.a_spare, yf_spare _ _ _, _, rfl, l, xs, Bud.frees t 0, w, rfl, SqL.of h2, h3, fun x b hb hx => ?_, fun hb => ?_⟩
    · obtain ⟨a, S⟩ := b
      obtain ⟨tx, rfl, etx⟩ := id hx
      refine ⟨_, rfl, rfl, _, rfl, iteF ?_⟩
      refine ⟨_, rfl, (a, S), hx, ?_⟩
      have hmem := Bud.best_mem hb
      obtain ⟨_, _, m, hm, eS, _⟩ := Bud.in_frees t (Bud.zdvd k) hmem
      have eS' : S = Bud.pw m := eS
      subst eS'
      refine ⟨_, rfl, p, _, dx, _, _, rfl, h1, T.cl, T.a_spare, yf_spare _ _ _, _, rfl, l, xs, Bud.frees t 0, .ref tx, (a, Bud.pw m), rfl, SqL.of h2, h3, hx, by omega, fun q ys hq hys => ?_⟩
      have s1 : Same H (upd H q (.lst ys)) := same_new hq
      refine ⟨_, rfl, _, rfl, (a, Bud.pw m), hx.kept (tups_upd hq), _, rfl, q, ys, _, a, w, m, rfl, SqL.of upd_same, hys.kept (tups_upd hq), ?_, by omega, hw, fun H2 q2 r zs M s2 nq2 nr hq2 hr2 hzs hperm hsrt => ?_⟩
      · exact Nat.le_trans (List.length_filter_le _ _) (by omega)
      have s02 := s1.trans s2
      have hwm : w ≤ Bud.pw m := (Bud.best_some hb).1
      have ecut : cutE w m = Bud.fe w := by
        have := Bud.fe_le hwm
        unfold cutE
        omega
      rw [ecut] at hq2 hperm
      obtain ⟨t', c', f', e1, e2⟩ := Bud.give_tree hc (Bud.zdvd k) hmem (Bud.fe_le hwm)
      have eM : M = Bud.frees t' 0 := Bud.srt_uniq hsrt (Bud.srt_frees t' (Bud.zdvd k)) (hperm.trans e1.symm)
      have npd : p ≠ d := hY.ne
      have npr : p ≠ r := ne_of (s02 _ _ h1) hr2 (by intro z; cases z)
      have ndr : d ≠ r := ne_of (s02 _ _ h4) hr2 (by intro z; cases z)
      have npq : p ≠ q2 := ne_of (s02 _ _ h1) hq2 (by intro z; cases z)
      refine ⟨_, rfl, q2, _, 0, _, rfl, rfl, SqT.of hq2, rfl, _, rfl, p, _, dx, _, rfl, s02 _ _ h1, T.cl, T.a_spare, yf_len _ _ _, ?_⟩
      rw [yf_put]
      have hq3 : ∀ o, (upd H2 p o) q2 = some (.tup [.ref r, .int (Bud.pw (Bud.fe w))]) := fun o => by rw [upd_ne npq.symm]; exact hq2
      refine ⟨_, rfl, q2, _, 1, _, rfl, rfl, SqT.of (hq3 _), rfl, _, rfl, p, _, dx, _, _, rfl, upd_same, T.cl, T.a_given, yf_given _ _ _, _, rfl, d, _, rfl, DPut.k (k := Sum.inl a) (by rw [upd_ne npd.symm]; exact s02 _ _ h4) ?_, ?_⟩
      · rw [gk_len, hG.length_eq, sizeLine_eq]
        omega
      have hfresh : ∀ g ∈ G, g.1 ≠ a := fun g hg e => by
        have ho : g ∈ Bud.outs t 0 := hG.mem_iff.mp hg
        have hap := Bud.apart t (Bud.zdvd k) g ho _ hmem
        have p1 := (Bud.in_outs t (Bud.zdvd k) ho).pos
        have p2 := Bud.pw_pos m
        unfold Bud.Ahead at hap
        simp only at hap
        omega
      rw [gk_new (gk_none hfresh)]
      refine ⟨_, rfl, k3 hw a _ hb _ t' (fun b o hb' nbp nbd => ?_) ⟨hk, c', G ++ [(a, Bud.fit w)], ?_, dx, r, zs, ?_, ?_, ?_, upd_same⟩ (fun l' hs => by rw [hs.eq (by rw [upd_ne npd, upd_same])]; exact none_upd nr) e2⟩
      · rw [upd_ne nbd, upd_ne nbp]
        exact s02 _ _ hb'
      · refine (List.perm_append_comm (l₁ := G) (l₂ := [(a, Bud.fit w)])).trans ?_
        exact (List.Perm.cons _ hG).trans e2.symm
      · rw [upd_ne npd, upd_same]
      · rw [upd_ne ndr.symm, upd_ne npr.symm]
        exact hr2
      · rw [eM] at hzs
        exact hzs.kept ((tups_put (s02 _ _ h1) (fun xs z => by cases z)).trans (tups_put (by rw [upd_ne npd.symm]; exact s02 _ _ h4) (fun xs z => by cases z)))
    · exact ⟨_, rfl, rfl, _, rfl, iteT (k2 hw hb)⟩
/-! #### Yard.take_back -/
/-- a piece comes back -/
def spTake (K : PySem.W.Frag) : Sp := fun vs H Q E => ∃ (p d : Addr) (k : Nat) (t : Bud.T k) (a : Int), vs = [.ref p, .int a] ∧ YardT K H p d t ∧ (Bud.outs t 0).length ≤ 1000 ∧
  ((∀ g ∈ Bud.outs t 0, g.1 ≠ a) → E (.ref (He.ga K "NotOut")) none H) ∧
  (∀ s, (a, s) ∈ Bud.outs t 0 → ∀ (H' : Hp) (t' : Bud.T k), Kp p d H H' → YardT K H' p d t' → (∀ l, Spare H' p l → H l = none) → (Bud.outs t 0).Perm ((a, s) :: Bud.outs t' 0) → Q (.int s) H')
theorem filter_key {G R : List Bud.Pc} {a s : Int} (h : G.Perm ((a, s) :: R)) (nd : (G.map (·.1)).Nodup) : (G.filter fun p => decide (p.1 ≠ a)).Perm R := by
  have h1 := h.filter fun p => decide (p.1 ≠ a)
  rw [List.filter_cons_of_neg (by simp)] at h1
  have nd2 : (((a, s) :: R).map (·.1)).Nodup := (h.map (·.1)).nodup_iff.mp nd
  have ⟨n1, _⟩ := List.nodup_cons.mp nd2
  have e : R.filter (fun p => decide (p.1 ≠ a)) = R := List.filter_eq_self.mpr fun q hq => decide_eq_true fun e => n1 (by
    show a ∈ R.map (·.1)
    rw [← e]
    exact List.mem_map.mpr ⟨_, hq, rfl⟩)
  rw [e] at h1
  exact h1
theorem ok_take_back (T : Txt K mg) : MethOk P w K mg base 3 "Yard" "take_back" ["self", "at"] (spTake K) := by
  refine mkMeth T.F_Yard_take_back T.cl T.m_Yard_take_back bd_Yard_take_back sc_Yard_take_back (fun vs H Q E h => ?_) (fun cdv A outer s H vs Q E hr h => ?_)
  · obtain ⟨p, d, k, t, a, rfl, _⟩ := h
    rfl
  · obtain ⟨p, d, k, t, a, rfl, y, hlen, k1, k2⟩ := h
    have hY := y.has
    obtain ⟨hk, hc, G, hG, dx, l, xs, h1, h2, h3, h4⟩ := id y
    have nd := sc_Yard_take_back.nd
    have hr2 : Room 2 _ := hr
    have hfl := frees_1000 hk hc hlen
    have ndk := keys_nd hG
    refine ⟨_, pss_cons (ps_if (pt_cmp (pc_dnotin (hu_of hr) (pv 1) (pe_fld (pv 0) rfl))) (pss_one (ps_raise rfl (takes_of rfl rfl rfl rfl) (pmk_own PySem.F.excBase_ValueError T.x_NotOut.1 T.g_NotOut T.x_NotOut.2.1 (raises_own T.x_NotOut.2.2.1 T.x_NotOut.2.2.2) rfl))) pss_nil)
      (pss_cons (ps_set (i := 2) nd rfl (Or.inl rfl) (pe_dpop1 (pe_fld (pv 0) rfl) (pv 1) ⟨rfl, rfl, rfl, rfl⟩))
      (pss_cons (ps_fld (pv 0) (pe_cd (ok_put_back T) hr2 (pa_cons (pe_fld (pv 0) rfl) (pa_cons (pv 1) (pa_cons (pv 2) pa_nil)))) rfl)
      (pss_one (ps_ret (pv 2))))), ?_⟩
    refine ⟨_, rfl, _, rfl, p, _, dx, _, _, rfl, h1, T.cl, T.a_given, yf_given _ _ _, d, _, rfl, DGet.k (k := Sum.inl a) h4, _, rfl, ?_⟩
    cases e : valV (gk G) (Sum.inl a : Key) with
    | none =>
      refine iteT (k1 fun g hg e2 => ?_)
      have hg' : (a, g.2) ∈ G := by
        rw [← e2]
        exact hG.mem_iff.mpr hg
      rw [gk_val ndk hg'] at e
      cases e
    | some v =>
      obtain ⟨s, rfl, hs⟩ := gk_some e
      have ho : (a, s) ∈ Bud.outs t 0 := hG.mem_iff.mp hs
      refine iteF ?_
      refine ⟨_, rfl, p, _, dx, _, _, rfl, h1, T.cl, T.a_given, yf_given _ _ _, d, rfl, .inl ⟨_, .inl h4⟩, _, rfl, _, Sum.inl a, _, h4, rfl, e, ?_⟩
      rw [gk_drop]
      have npd : p ≠ d := hY.ne
      have nld : l ≠ d := ne_of h2 h4 (by intro z; cases z)
      obtain ⟨_, _, j, hj, eS, _⟩ := Bud.in_outs t (Bud.zdvd k) ho
      have eS' : s = Bud.pw j := eS
      subst eS'
      have kd : TupKept H (upd H d (.dK (gk (G.filter fun p => decide (p.1 ≠ a))))) := tups_put h4 (fun xs z => by cases z)
      refine ⟨_, rfl, p, _, dx, _, _, rfl, by rw [upd_ne npd]; exact h1, T.cl, T.a_spare, yf_spare _ _ _, _, rfl, _, rfl, l, xs, Bud.frees t 0, a, _, rfl, SqL.of (by rw [upd_ne nld]; exact h2), h3.kept kd, by omega, ⟨Bud.pw_pos j, Bud.pw_le (by omega)⟩, frees_sz hk, fun H1 r ys M s1 nr hr1 hys hperm hsrt => ?_⟩
      have eM : M = Bud.frees (Bud.back t 0 a) 0 := Bud.srt_uniq hsrt (Bud.srt_frees _ (Bud.zdvd k)) (hperm.trans (Bud.back_tree hc ho).symm)
      have hp1 : H1 p = some (.ins (He.ga K "Yard") dx (yf (Bud.pw k) l d)) := s1 _ _ (by rw [upd_ne npd]; exact h1)
      have hd1 : H1 d = some (.dK (gk (G.filter fun p => decide (p.1 ≠ a)))) := s1 _ _ upd_same
      have npr : p ≠ r := ne_of hp1 hr1 (by intro z; cases z)
      refine ⟨_, rfl, p, _, dx, _, rfl, hp1, T.cl, T.a_spare, yf_len _ _ _, ?_⟩
      rw [yf_put]
      refine ⟨_, rfl, k2 _ ho _ (Bud.back t 0 a) (fun b o hb nbp nbd => ?_) ⟨hk, Bud.back_can t 0 a hc, _, filter_key (hG.trans (Bud.back_outs t (Bud.zdvd k) ho)) ndk, dx, r, ys, upd_same, ?_, ?_, ?_⟩ (fun l' hs => by rw [hs.eq upd_same]; exact none_upd nr) (Bud.back_outs t (Bud.zdvd k) ho)⟩
      · rw [upd_ne nbp]
        exact s1 _ _ (by rw [upd_ne nbd]; exact hb)
      · rw [upd_ne npr.symm]
        exact hr1
      · rw [eM] at hys
        exact hys.kept (tups_put hp1 (fun xs z => by cases z))
      · rw [upd_ne npd.symm]
        exact hd1
/-! #### Yard.resize -/
/-- another size -/
def spResize (K : PySem.W.Frag) : Sp := fun vs H Q E => ∃ (p d : Addr) (k : Nat) (t : Bud.T k) (a w : Int), vs = [.ref p, .int a, .int w] ∧ YardT K H p d t ∧ (Bud.outs t 0).length ≤ 1000 ∧
  ((∀ g ∈ Bud.outs t 0, g.1 ≠ a) → E (.ref (He.ga K "NotOut")) none H) ∧
  ∀ s, (a, s) ∈ Bud.outs t 0 → (w < 1 → E (.ref (He.ga K "NoWish")) none H) ∧
    (1 ≤ w → ¬ Bud.Fits2 t a s (Bud.fit w) → ∀ H', Same H H' → E (.ref (He.ga K "NoRoom")) none H') ∧
    (1 ≤ w → Bud.Fits2 t a s (Bud.fit w) → ∀ (H' : Hp) (t' : Bud.T k), Kp p d H H' → YardT K H' p d t' → (∀ l, Spare H' p l → H l = none) → (Bud.outs t' 0).Perm ((a, Bud.fit w) :: (Bud.outs t 0).erase (a, s)) → Q (.int (Bud.fit w)) H')
theorem put_key {G : List Bud.Pc} {a s z : Int} (nd : (G.map (·.1)).Nodup) (h : (a, s) ∈ G) : (G.map fun p => if p.1 = a then (p.1, z) else p).Perm ((a, z) :: G.erase (a, s)) := by
  induction G with
  | nil => cases h
  | cons q G ih =>
    have ⟨n1, n2⟩ := List.nodup_cons.mp nd
    rcases List.mem_cons.mp h with e | h
    · rw [← e, List.erase_cons_head, List.map_cons, if_pos rfl]
      refine List.Perm.cons _ ?_
      have e2 : G.map (fun p => if p.1 = a then (p.1, z) else p) = G := (List.map_congr_left fun p hp => if_neg fun q' => n1 (by
        show q.1 ∈ G.map (·.1)
        rw [← e]
        show a ∈ _
        rw [← q']
        exact List.mem_map.mpr ⟨_, hp, rfl⟩)).trans (List.map_id _)
      rw [e2]
    · have hne : ¬ q.1 = a := fun q' => n1 (by
        show q.1 ∈ G.map (·.1)
        rw [q']
        exact List.mem_map.mpr ⟨_, h, rfl⟩)
      have hne2 : ¬ q = (a, s) := fun q' => hne (by rw [q'])
      rw [List.map_cons, if_neg hne, List.erase_cons_tail (by simpa using hne2)]
      exact ((ih n2 h).cons _).trans (List.Perm.swap _ _ _)
theorem ok_resize (T : Txt K mg) : MethOk P w K mg base 3 "Yard" "resize" ["self", "at", "want"] (spResize K) := by
  refine mkMeth T.F_Yard_resize T.cl T.m_Yard_resize bd_Yard_resize sc_Yard_resize (fun vs H Q E h => ?_) (fun cdv A outer s H vs Q E hr h => ?_)
  · obtain ⟨p, d, k, t, a, w, rfl, _⟩ := h
    rfl
  · obtain ⟨p, d, k, t, a, w, rfl, y, hlen, k1, k2⟩ := h
    have hY := y.has
    obtain ⟨hk, hc, G, hG, dx, l, xs, h1, h2, h3, h4⟩ := id y
    have nd := sc_Yard_resize.nd
    have hr1 : Room 1 _ := hr.mono (by decide)
    have hr2 : Room 2 _ := hr
    have hfl := frees_1000 hk hc hlen
    have ndk := keys_nd hG
    have npd : p ≠ d := hY.ne
    refine ⟨_, pss_cons (ps_if (pt_cmp (pc_dnotin (hu_of hr) (pv 1) (pe_fld (pv 0) rfl))) (pss_one (ps_raise rfl (takes_of rfl rfl rfl rfl) (pmk_own PySem.F.excBase_ValueError T.x_NotOut.1 T.g_NotOut T.x_NotOut.2.1 (raises_own T.x_NotOut.2.2.1 T.x_NotOut.2.2.2) rfl))) pss_nil)
      (pss_cons (ps_if (pt_cmpR op_lt (pv 2) pe_int (nomark _)) (pss_one (ps_raise rfl (takes_of rfl rfl rfl rfl) (pmk_own PySem.F.excBase_ValueError T.x_NoWish.1 T.g_NoWish T.x_NoWish.2.1 (raises_own T.x_NoWish.2.2.1 T.x_NoWish.2.2.2) rfl))) pss_nil)
      (pss_cons (ps_if (pt_cmpR op_gt (pv 2) (pe_fld (pv 0) rfl) (nomark _)) (pss_one (ps_raise rfl (takes_of rfl rfl rfl rfl) (pmk_own PySem.F.excBase_ValueError T.x_NoRoom.1 T.g_NoRoom T.x_NoRoom.2.1 (raises_own T.x_NoRoom.2.2.1 T.x_NoRoom.2.2.2) rfl))) pss_nil)
      (pss_cons (ps_set (i := 3) nd rfl (Or.inl rfl) (pe_cd (ok_size_for T) hr1 (pa_cons (pv 2) pa_nil)))
      (pss_cons (ps_set (i := 4) nd rfl (Or.inl rfl) (pe_dget (hu_of hr) (pe_fld (pv 0) rfl) (pv 1) (fun _ _ => rfl)))
      (pss_cons (ps_set (i := 5) nd rfl (Or.inl rfl) (pe_ix ix_tup (pe_cd (ok_cut_down T) hr1 (pa_cons (pe_fld (pv 0) rfl) (pa_cons (pv 1) (pa_cons (pv 4) (pa_cons (pv 2) pa_nil))))) pe_int (fun _ _ => rfl)))
      (C8.pss_cut (ps_if (pt_cmpR op_gt (pv 3) (pv 4) (nomark _)) (pss_one (ps_set (i := 5) nd rfl (Or.inl rfl) (pe_cd (ok_grown T) hr2 (pa_cons (pe_fld (pv 0) rfl) (pa_cons (pv 1) (pa_cons (pv 4) (pa_cons (pv 3) pa_nil))))))) pss_nil)
      (pss_cons (ps_if (pt_cmpR op_isN (pv 5) pe_non (nomark _)) (pss_one (ps_raise rfl (takes_of rfl rfl rfl rfl) (pmk_own PySem.F.excBase_ValueError T.x_NoRoom.1 T.g_NoRoom T.x_NoRoom.2.1 (raises_own T.x_NoRoom.2.2.1 T.x_NoRoom.2.2.2) rfl))) pss_nil)
      (pss_cons (ps_fld (pv 0) (pv 5) rfl)
      (pss_cons (ps_dput (hu_of hr) (pe_fld (pv 0) rfl) (pv 1) (pv 3) rfl)
      (pss_one (ps_ret (pv 3)))))))))))), ?_⟩
    refine ⟨_, rfl, _, rfl, p, _, dx, _, _, rfl, h1, T.cl, T.a_given, yf_given _ _ _, d, _, rfl, DGet.k (k := Sum.inl a) h4, _, rfl, ?_⟩
    cases e : valV (gk G) (Sum.inl a : Key) with
    | none =>
      refine iteT (k1 fun g hg e2 => ?_)
      have hg' : (a, g.2) ∈ G := by
        rw [← e2]
        exact hG.mem_iff.mpr hg
      rw [gk_val ndk hg'] at e
      cases e
    | some v =>
      obtain ⟨s, rfl, hs⟩ := gk_some e
      have ho : (a, s) ∈ Bud.outs t 0 := hG.mem_iff.mp hs
      obtain ⟨q1, q2, q3⟩ := k2 s ho
      refine iteF ?_
      refine ⟨_, rfl, _, _, rfl, rfl, _, rfl, ?_⟩
      refine ite2 (fun c => ?_) (fun c => ?_)
      · exact q1 (by simpa using c)
      have hw : 1 ≤ w := by
        have : ¬ w < 1 := by simpa using c
        omega
      refine ⟨_, rfl, _, rfl, p, _, dx, _, _, rfl, h1, T.cl, T.a_cells, yf_cells _ _ _, _, _, rfl, rfl, _, rfl, ?_⟩
      refine ite2 (fun c => ?_) (fun c => ?_)
      · have c' : Bud.pw k < w := by simpa using c
        refine q2 hw (fun z => ?_) _ (Same.refl _)
        have h0 := (Bud.in_outs t (Bud.zdvd k) ho).1
        have hf := Bud.fit_ge w
        have := z.2.1
        simp only at h0
        omega
      have hwk : w ≤ Bud.pw k := by
        have : ¬ Bud.pw k < w := by simpa using c
        omega
      have hfe := Bud.fe_le hwk
      have hk60 : Bud.pw k ≤ Bud.pw 60 := Bud.pw_le hk
      rw [pw60] at hk60
      refine ⟨_, rfl, w, rfl, fun _ => ?_, fun z => absurd ⟨hw, by omega⟩ z⟩
      refine ⟨_, rfl, p, _, dx, _, _, rfl, h1, T.cl, T.a_given, yf_given _ _ _, _, rfl, d, .int s, rfl, (by rw [← e]; exact DGet.k (k := Sum.inl a) h4), ?_⟩
      obtain ⟨_, _, j, hj, eS, _⟩ := Bud.in_outs t (Bud.zdvd k) ho
      have eS' : s = Bud.pw j := eS
      subst eS'
      refine ⟨_, rfl, p, _, dx, _, _, rfl, h1, T.cl, T.a_spare, yf_spare _ _ _, _, rfl, _, rfl, _, rfl, l, xs, Bud.frees t 0, a, w, j, rfl, SqL.of h2, h3, by omega, by omega, hw, fun H1 q r ys M s1 nq nr hq1 hr1 hys hperm hsrt => ?_⟩
      refine ⟨q, _, 0, _, rfl, rfl, SqT.of hq1, rfl, ?_⟩
      -- the join: the new free pieces, or none
      refine ⟨fun σ H' => Same H H' ∧ ∃ v : V, σ = [some (.ref p), some (.int a), some (.int w), some (.int (Bud.fit w)), some (.int (Bud.pw j)), some v] ∧
        ((v = .non ∧ ¬ Bud.Fits2 t a (Bud.pw j) (Bud.fit w)) ∨ (Bud.Fits2 t a (Bud.pw j) (Bud.fit w) ∧ ∃ (r : Addr) (ys : List V) (t' : Bud.T k), v = .ref r ∧ H r = none ∧ H' r = some (.lst ys) ∧ Prs H' ys (Bud.frees t' 0) ∧ Bud.Can t' ∧ (Bud.outs t' 0).Perm ((a, Bud.fit w) :: (Bud.outs t 0).erase (a, Bud.pw j)))), ?_, ?_⟩
      · refine ⟨_, rfl, _, rfl, _, _, rfl, rfl, _, rfl, ?_⟩
        refine ite2 (fun c => ?_) (fun c => ?_)
        · have c' : j < Bud.fe w := Bud.pw_lt_iff.mp (show Bud.pw j < Bud.fit w from of_decide_eq_true c)
          obtain ⟨e', ee⟩ : ∃ e', Bud.fe w = j + e' := ⟨Bud.fe w - j, by omega⟩
          have efit : Bud.fit w = Bud.pw (j + e') := by unfold Bud.fit; rw [ee]
          have y1 := y.same s1
          obtain ⟨_, _, G1, hG1, dx1, l1, xs1, g1, g2, g3, g4⟩ := id y1
          refine ⟨_, rfl, p, _, dx1, _, _, rfl, g1, T.cl, T.a_spare, yf_spare _ _ _, _, rfl, _, rfl, _, rfl, l1, xs1, Bud.frees t 0, a, j, e', by show [V.ref l1, V.int a, V.int (Bud.pw j), V.int (Bud.fit w)] = _; rw [efit], SqL.of g2, g3, by omega, by omega, fun G' hG' H2 r2 zs s2 nr2 hr2 hzs => ?_, fun hN H2 s2 => ?_⟩
          · rcases Bud.grow_tree (d := e') hc (Bud.zdvd k) (by omega) ho (by omega) with ⟨hf, t', c2, e2, e3⟩ | ⟨hf, e2⟩
            · rw [hG'] at e2
              cases e2
              rw [Bud.fits_iff, ← efit] at hf
              rw [← efit] at e3
              exact ⟨s1.trans s2, _, rfl, .inr ⟨hf, r2, zs, t', rfl, Same.none s1 nr2, hr2, hzs, c2, e3⟩⟩
            · rw [hG'] at e2
              cases e2
          · rcases Bud.grow_tree (d := e') hc (Bud.zdvd k) (by omega) ho (by omega) with ⟨hf, t', c2, e2, e3⟩ | ⟨hf, e2⟩
            · rw [hN] at e2
              cases e2
            · rw [Bud.fits_iff, ← efit] at hf
              exact ⟨s1.trans s2, _, rfl, .inl ⟨rfl, hf⟩⟩
        · have c' : Bud.fe w ≤ j := by
            rcases Nat.lt_or_ge j (Bud.fe w) with q | q
            · exact absurd (decide_eq_true (show Bud.pw j < Bud.fit w from Bud.pw_lt q)) c
            · exact q
          have ecut : cutE w j = Bud.fe w := by unfold cutE; omega
          rw [ecut] at hperm
          obtain ⟨t', c2, e1, e2⟩ := Bud.shrink_tree hc (Bud.zdvd k) ho c'
          have eM : M = Bud.frees t' 0 := Bud.srt_uniq hsrt (Bud.srt_frees t' (Bud.zdvd k)) (hperm.trans e1.symm)
          rw [eM] at hys
          exact ⟨s1, _, rfl, .inr ⟨Bud.fits_small ho c', r, ys, t', rfl, nr, hr1, hys, c2, e2⟩⟩
      · rintro σ H2 ⟨s2, v, rfl, hv⟩
        rcases hv with ⟨rfl, hnf⟩ | ⟨hf, r2, zs, t', rfl, nr2, hr2, hzs, c2, e2⟩
        · exact ⟨_, rfl, rfl, _, rfl, iteT (q2 hw hnf _ s2)⟩
        · refine ⟨_, rfl, rfl, _, rfl, iteF ?_⟩
          have npr : p ≠ r2 := ne_of (s2 _ _ h1) hr2 (by intro z; cases z)
          have ndr : d ≠ r2 := ne_of (s2 _ _ h4) hr2 (by intro z; cases z)
          refine ⟨_, rfl, _, rfl, p, _, dx, _, rfl, s2 _ _ h1, T.cl, T.a_spare, yf_len _ _ _, ?_⟩
          rw [yf_put]
          have hd2 : ∀ o, (upd H2 p o) d = some (.dK (gk G)) := fun o => by rw [upd_ne npd.symm]; exact s2 _ _ h4
          refine ⟨_, rfl, _, rfl, p, _, dx, _, _, rfl, upd_same, T.cl, T.a_given, yf_given _ _ _, _, rfl, d, _, rfl, DPut.k (k := Sum.inl a) (hd2 _) ?_, ?_⟩
          · rw [gk_len, hG.length_eq, sizeLine_eq]
            omega
          rw [gk_old e]
          refine ⟨_, rfl, q3 hw hf _ t' (fun b o hb nbp nbd => ?_) ⟨hk, c2, _, ?_, dx, r2, zs, ?_, ?_, ?_, upd_same⟩ (fun l' hs => by rw [hs.eq (by rw [upd_ne npd, upd_same])]; exact nr2) e2⟩
          · rw [upd_ne nbd, upd_ne nbp]
            exact s2 _ _ hb
          · exact (put_key ndk hs).trans (((hG.erase _).cons _).trans e2.symm)
          · rw [upd_ne npd, upd_same]
          · rw [upd_ne ndr.symm, upd_ne npr.symm]
            exact hr2
          · exact hzs.kept ((tups_put (s2 _ _ h1) (fun xs z => by cases z)).trans (tups_put (hd2 _) (fun xs z => by cases z)))
/-! #### by_size -/
/-- the places of the wishes, the largest size first -/
def spBySize (K : PySem.W.Frag) : Sp := fun vs H Q _ => ∃ (l : Addr) (ws : List Int), vs = [.ref l] ∧ SqL K H l (ws.map V.int) ∧ (∀ w ∈ ws, 1 ≤ w ∧ w ≤ 1152921504606846976) ∧ ws.length ≤ 1000 ∧
  ∀ (H' : Hp) (q : Addr) (M : List Bud.Pc), Same H H' → M.Perm (Bud.ordP ws) → Bud.Srt M → H' q = some (.lst (M.map fun p => V.int p.2)) → Q (.ref q) H'
theorem ok_by_size (T : Txt K mg) : DefOk P w K mg base 2 "by_size" ["wants"] (spBySize K) := by
  refine mkDef T.F_by_size T.g_by_size bd_by_size sc_by_size (fun vs H Q E h => ?_) (fun cdv A outer s H vs Q E hr h => ?_)
  · obtain ⟨l, ws, rfl, _⟩ := h
    rfl
  · obtain ⟨l, ws, rfl, hl, hw, hlen, kQ⟩ := h
    have nd := sc_by_size.nd
    have hr1 : Room 1 _ := hr
    refine ⟨_, (pss_cons (ps_set (i := 1) nd rfl (Or.inl rfl) (pe_lst pa_nil))
      (pss_cons (ps_for (passes_of rfl) rfl (pi_range1 rfl T.n_range (pa_cons (pe_callB call_len_seq (by rfl) T.n_len PySem.boot_len (pa_cons (pv 0) pa_nil)) pa_nil)) (pg_name (i := 2) nd rfl (Or.inl rfl))
        (pss_one (ps_expr (pe_bm PySem.F.plainAttrs_list PySem.F.slot_list_append PySem.F.type_list_append mt_append (pv 1) (pa_cons (pe_tup (pa_cons (pe_op op_sub pe_int (pe_cd (ok_size_for T) hr1 (pa_cons (pe_ix ix_list (pv 0) (pv 2) (fun _ _ => rfl)) pa_nil))) (pa_cons (pv 2) pa_nil))) pa_nil)))))
      (pss_one (ps_ret (pe_lc (own := [("pair", 3)]) (g := gName 3) (tt := tYes) (te := tSel1 (tVar 3)) (by rfl) nd (pi_list (pe_callB cr_sortPs (by rfl) T.n_sorted (by decide +kernel) (pa_cons (pv 1) pa_nil)))
          (blkOk_by (own := [("pair", 3)]) (N := ["wants", "order", "place", "pair"]) (sc := defScope s_by_size) (by decide +kernel)) (fun _ _ _ _ _ => pg_name (i := 3) nd rfl (Or.inl rfl))
          (fun _ _ _ _ _ => pts_nil) (fun _ _ _ _ _ => pe_p1 (pv 3))))))), ?_⟩
    refine ⟨Nat.zero_le _, fun o ho => ?_⟩
    refine ⟨_, rfl, l, _, rfl, .inl ((same_new ho).seq hl), _, rfl, by rw [List.length_map]; omega, by rw [List.length_map]; omega, ?_⟩
    rw [List.length_map, show ((ws.length : Int)).toNat = ws.length from rfl]
    refine for_range (n := ws.length) (fun i σ H' => Same H H' ∧ ∃ v ys, σ = [some (.ref l), some (.ref o), v, none] ∧ H' o = some (.lst ys) ∧ Prs H' ys ((Bud.ordP ws).take i))
      ⟨same_new ho, none, [], rfl, upd_same, .nil⟩ ?_ ?_
    · rintro i σ H1 hi ⟨s1, v, ys, rfl, e1, p1⟩
      have hwi := hw _ (List.getElem_mem hi)
      have eg : ws.getD i 0 = ws[i] := by rw [List.getD_eq_getElem?_getD, List.getElem?_eq_getElem hi]; rfl
      refine ⟨_, rfl, .inl ⟨rfl, _, SqL.of e1⟩, _, rfl, _, rfl, l, _, _, V.int ws[i], rfl, rfl, s1.seq hl, (show atI _ (0 + (i : Int)) = _ by rw [Int.zero_add]; exact atI_nat (by rw [List.getElem?_map, List.getElem?_eq_getElem hi]; rfl)), ws[i], rfl, fun _ => ?_, fun z => absurd hwi z⟩
      refine ⟨_, _, rfl, rfl, _, rfl, (by show 2 ≤ sizeLine; decide), fun t ht => ?_⟩
      have nt : o ≠ t := ne_of_none e1 ht
      refine ⟨o, _, _, rfl, rfl, by rw [upd_ne nt]; exact e1, ?_, ?_⟩
      · have h1 := p1.length
        rw [List.length_take] at h1
        rw [sizeLine_eq]
        omega
      refine ⟨fun b u hb => ?_, _, _, rfl, upd_same, ?_⟩
      · rw [upd_ne (ne_of_none hb ho), upd_ne (ne_of_none (s1 _ _ hb) ht)]
        exact s1 _ _ hb
      · rw [List.take_add_one, Bud.ordP_at hi]
        refine Prs.append ((p1.kept (tups_upd ht)).kept (tups_put (by rw [upd_ne nt]; exact e1) (fun xs z => by cases z))) (.cons ⟨t, rfl, ?_⟩ .nil)
        rw [upd_ne nt.symm, upd_same, eg]
        show some (HO.tup [V.int (0 - Bud.fit ws[i]), V.int (0 + (i : Int))]) = _
        rw [Int.zero_add]
    · rintro σ H1 ⟨s1, v, ys, rfl, e1, p1⟩
      rw [← Bud.ordP_len ws, List.take_length] at p1
      refine ⟨_, rfl, o, ys, _, rfl, SqL.of e1, p1, fun zs M q pM sM hzs hq => ?_⟩
      have s2 : Same H1 (upd H1 q (.lst zs)) := same_new hq
      have hz2 := hzs.kept (Same.tups s2)
      have eq2 : (upd H1 q (.lst zs)) q = some (.lst zs) := upd_same
      generalize upd H1 q (.lst zs) = H2 at *
      have hML : M.length ≤ 1000 := by rw [pM.length_eq, Bud.ordP_len]; exact hlen
      refine ⟨q, rfl, ⟨_, SqL.of eq2⟩, fun C hC => ?_⟩
      refine lc_list (K := K) (a := q) (xs := zs) (fun i H' => H' = upd H2 C (.lst ((M.take i).map fun p => V.int p.2))) rfl (fun i H' _ e => by rw [e]; exact (same_new hC).seq (SqL.of eq2)) ?_ ?_
      · rintro i z H' hi rfl
        obtain ⟨g, hg, hz⟩ := hz2.get hi
        refine ⟨rfl, ?_⟩
        refine ⟨_, rfl, g, hz.kept (tups_upd hC), _, upd_same, ?_, ?_⟩
        · rw [List.length_map, List.length_take, sizeLine_eq]
          omega
        · rw [upd_upd, List.take_add_one, hg, List.map_append]
          rfl
      rintro H' rfl
      rw [hz2.length, List.take_length]
      exact kQ _ C M ((s1.trans s2).trans (same_new hC)) pM sM upd_same
/-! #### give_all -/
def kd (L : List (Nat × Int)) : List (Key × V) := L.map fun p => ((Sum.inl (p.1 : Int) : Key), V.int p.2)
theorem kd_val (i : Nat) : ∀ L : List (Nat × Int), valV (kd L) (Sum.inl (i : Int) : Key) = (L.lookup i).map V.int
  | [] => rfl
  | (j, a) :: L => by
    show valV (((Sum.inl (j : Int) : Key), V.int a) :: kd L) (Sum.inl (i : Int)) = _
    rw [List.lookup_cons]
    by_cases e : i = j
    · subst e
      rw [valV_pos rfl]
      simp
    · rw [valV_neg (fun q => e (by have := Sum.inl.inj q; omega)), kd_val i L]
      have : (i == j) = false := by simpa using e
      rw [this]
theorem kd_new {L : List (Nat × Int)} {i : Nat} {a : Int} (h : ∀ p ∈ L, p.1 ≠ i) : putK (kd L) (Sum.inl (i : Int) : Key) (.int a) = kd (L ++ [(i, a)]) := by
  rw [putK_new _ (by rw [kd_val, Bud.lookup_none_of h]; rfl)]
  unfold kd
  rw [List.map_append]
  rfl
theorem YardT.putD {H : Hp} {p d f : Addr} {k : Nat} {t : Bud.T k} {kvs : List (Key × V)} (y : YardT K H p d t) (hf : H f = some (.dK kvs)) (n : d ≠ f) (o : HO) : YardT K (upd H f o) p d t := by
  obtain ⟨hk, hc, G, hG, dx, l, zs, h1, h2, h3, h4⟩ := y
  have e1 : p ≠ f := ne_of h1 hf (by intro z; cases z)
  have e3 : l ≠ f := ne_of h2 hf (by intro z; cases z)
  exact ⟨hk, hc, G, hG, dx, l, zs, by rw [upd_ne e1]; exact h1, by rw [upd_ne e3]; exact h2, h3.kept (tups_put hf (fun xs z => by cases z)), by rw [upd_ne n]; exact h4⟩
theorem pss_never {X : Cx} {body : List Stmt} : PSs X body (fun _ _ _ => False) := ⟨fun _ _ _ _ _ _ h => h.elim⟩
/-- all the wishes are given -/
def spGiveAll (K : PySem.W.Frag) : Sp := fun vs H Q _ => ∃ (p d : Addr) (k : Nat) (t t' : Bud.T k) (l : Addr) (ws : List Int) (M : List Bud.Pc) (as : List Int), vs = [.ref p, .ref l] ∧ YardT K H p d t ∧ SqL K H l (ws.map V.int) ∧ (∀ w ∈ ws, 1 ≤ w ∧ w ≤ Bud.pw k) ∧ ws.length ≤ 200 ∧ (Bud.outs t 0).length ≤ 700 ∧
  M.Perm (Bud.ordP ws) ∧ Bud.Srt M ∧ Bud.Gives ws t (Bud.ordN M) as t' ∧
  ∀ (H' : Hp) (q : Addr), Kp p d H H' → YardT K H' p d t' → H' q = some (.lst ((List.range ws.length).map fun i => V.int (Bud.plOf (Bud.ordN M) as i))) → Q (.ref q) H'
theorem ok_give_all (T : Txt K mg) : DefOk P w K mg base 4 "give_all" ["yard", "wants"] (spGiveAll K) := by
  refine mkDef T.F_give_all T.g_give_all bd_give_all sc_give_all (fun vs H Q E h => ?_) (fun cdv A outer s H vs Q E hr h => ?_)
  · obtain ⟨p, d, k, t, t', l, ws, M, as, rfl, _⟩ := h
    rfl
  · obtain ⟨p, d, k, t, t', l, ws, M, as, rfl, y, hl, hw, hlen, hout, hM, sM, hG, kQ⟩ := h
    have nd := sc_give_all.nd
    have hr2 : Room 2 _ := hr.mono (by decide)
    have hY := y.has
    obtain ⟨dx, fs, ep, nm, ec⟩ := y.at_
    have hk60 := Bud.pw_le y.1
    rw [pw60] at hk60
    refine ⟨_, (pss_cons (ps_for (passes_of rfl) rfl (pi_list (pv 1)) (pg_name (i := 2) nd rfl (Or.inl rfl))
        (pss_one (ps_if (pt_cmpR op_lt (pv 2) pe_int (nomark _)) (pss_one (ps_raise rfl (takes_of rfl rfl rfl rfl) (pmk_own PySem.F.excBase_ValueError T.x_NoWish.1 T.g_NoWish T.x_NoWish.2.1 (raises_own T.x_NoWish.2.2.1 T.x_NoWish.2.2.2) rfl))) pss_nil)))
      (pss_cons (ps_for (passes_of rfl) rfl (pi_list (pv 1)) (pg_name (i := 2) nd rfl (Or.inl rfl))
        (pss_one (ps_if (pt_cmpR op_gt (pv 2) (pe_fld (pv 0) rfl) (nomark _)) (pss_one (ps_raise rfl (takes_of rfl rfl rfl rfl) (pmk_own PySem.F.excBase_ValueError T.x_NoRoom.1 T.g_NoRoom T.x_NoRoom.2.1 (raises_own T.x_NoRoom.2.2.1 T.x_NoRoom.2.2.2) rfl))) pss_nil)))
      (pss_cons (ps_set (i := 3) nd rfl (Or.inr rfl) pe_dnewK)
      (pss_cons (ps_for (passes_of rfl) rfl (pi_list (pe_cd (ok_by_size T) hr2 (pa_cons (pv 1) pa_nil))) (pg_name (i := 4) nd rfl (Or.inl rfl))
        (pss_one (ps_try_onlyT rfl rfl ⟨rfl, by decide, .inl T.g_NoRoom⟩ (takes_of rfl rfl rfl rfl)
          (fun W pn xe tk hp => pss_one (ps_dput (by exact hu_of hr) (pv 3) (pv 4) (by exact (pe_mE (E := WE W) (pv 0) (ok_give T) hr2 (fun σ => passAt tk σ) (pa_cons (show PE _ _ (tOp (rIxL K) (tVar 1) (tVar 4)) from pe_ix ix_list (pv 1) (pv 4) (fun _ _ => rfl)) pa_nil))) rfl))
          (fun a oe cls d pn hz hf => pss_never))))
      (pss_one (ps_ret (pe_lc (own := [("place", 4)]) (g := gName 4) (tt := tYes) (te := tDGet (tVar 3) (tVar 4)) (by rfl) nd (pi_range1 rfl T.n_range (pa_cons (pe_callB call_len_seq (by rfl) T.n_len PySem.boot_len (pa_cons (pv 1) pa_nil)) pa_nil))
          (blkOk_by (own := [("place", 4)]) (N := ["yard", "wants", "want", "found", "place", "at"]) (sc := defScope s_give_all) (by decide +kernel)) (fun _ _ _ _ _ => pg_name (i := 4) nd rfl (Or.inl rfl))
          (fun _ _ _ _ _ => pts_nil) (fun _ _ _ _ _ => pe_dget (by exact hu_of hr) (pv 3) (pv 4) (fun _ _ => rfl))))))))), ?_⟩
    refine ⟨_, rfl, l, rfl, ⟨_, hl⟩, for_list (K := K) (a := l) (xs := ws.map V.int) (fun i σ H' => H' = H ∧ ∃ v, σ = [some (.ref p), some (.ref l), v, none, none, none])
      ⟨rfl, none, rfl⟩ (fun i σ H' _ h => by rw [h.1]; exact hl) ?_ ?_⟩
    · rintro i x σ H' hi ⟨rfl, v, rfl⟩
      rw [List.getElem?_map] at hi
      obtain ⟨b, hb, rfl⟩ : ∃ b, ws[i]? = some b ∧ x = V.int b := by
        cases e : ws[i]? with
        | none => rw [e] at hi; cases hi
        | some b => rw [e] at hi; exact ⟨b, rfl, (Option.some.inj hi).symm⟩
      have := hw b (List.mem_of_getElem? hb)
      refine ⟨_, rfl, _, _, rfl, rfl, _, rfl, ?_⟩
      refine ite2 (fun c => absurd (of_decide_eq_true c) (by omega)) (fun c => ⟨rfl, _, rfl⟩)
    rintro σ H' ⟨rfl, v, rfl⟩
    refine ⟨_, rfl, l, rfl, ⟨_, hl⟩, for_list (K := K) (a := l) (xs := ws.map V.int) (fun i σ H2 => H2 = H' ∧ ∃ v, σ = [some (.ref p), some (.ref l), v, none, none, none])
      ⟨rfl, v, rfl⟩ (fun i σ H' _ h => by rw [h.1]; exact hl) ?_ ?_⟩
    · rintro i x σ H2 hi ⟨rfl, v, rfl⟩
      rw [List.getElem?_map] at hi
      obtain ⟨b, hb, rfl⟩ : ∃ b, ws[i]? = some b ∧ x = V.int b := by
        cases e : ws[i]? with
        | none => rw [e] at hi; cases hi
        | some b => rw [e] at hi; exact ⟨b, rfl, (Option.some.inj hi).symm⟩
      have := hw b (List.mem_of_getElem? hb)
      refine ⟨_, rfl, _, rfl, p, _, dx, fs, _, rfl, ep, T.cl, T.a_cells, ec, _, _, rfl, rfl, _, rfl, ?_⟩
      refine ite2 (fun c => absurd (of_decide_eq_true c) (by omega)) (fun c => ⟨rfl, _, rfl⟩)
    rintro σ H2 ⟨rfl, v, rfl⟩
    intro f hf
    have s1 : Same H2 (upd H2 f (.dK [])) := same_new hf
    have ndf : d ≠ f := by
      obtain ⟨_, _, e⟩ := hY
      exact ne_of_none e hf
    have npf : p ≠ f := ne_of_none ep hf
    refine ⟨_, rfl, l, ws, rfl, s1.seq hl, fun w hm => ?_, by omega, fun H3 q M' s3 hM' sM' e3 => ?_⟩
    · have := hw w hm
      omega
    have eM : M' = M := Bud.srt_uniq sM' sM (hM'.trans hM.symm)
    subst eM
    have hML : M'.length = ws.length := by rw [hM.length_eq, Bud.ordP_len]
    have lenO : (Bud.ordN M').length = ws.length := by unfold Bud.ordN; rw [List.length_map, hML]
    have lenA : as.length = ws.length := by rw [hG.len, lenO]
    have ndO : (Bud.ordN M').Nodup := (Bud.ordN_perm hM).nodup_iff.mpr List.nodup_range
    have s13 := s1.trans s3
    refine ⟨q, rfl, ⟨_, SqL.of e3⟩, for_list (K := K) (a := q) (xs := M'.map fun p => V.int p.2) (fun i σ H4 => ∃ (v v4 : Option V) (t1 : Bud.T k), σ = [some (.ref p), some (.ref l), v, some (.ref f), v4, none] ∧ Kp p d H2 H4 ∧ YardT K H4 p d t1 ∧ H4 q = some (.lst (M'.map fun p => V.int p.2)) ∧ H4 f = some (.dK (kd (((Bud.ordN M').zip as).take i))) ∧
        (Bud.outs t1 0).length ≤ 700 + i ∧ Bud.Gives ws t1 ((Bud.ordN M').drop i) (as.drop i) t')
      ⟨v, none, t, rfl, Same.kp s13 p d, y.same s13, e3, by rw [List.take_zero]; exact s3 _ _ upd_same, hout, hG⟩ (fun i σ H' _ ⟨_, _, _, _, _, _, e, _⟩ => SqL.of e) ?_ ?_⟩
    · rintro i x σ H4 hi ⟨v, v4, t1, rfl, k4, y4, e4, ef4, l4, g4⟩
      rw [List.getElem?_map] at hi
      obtain ⟨g, hg, rfl⟩ : ∃ b, M'[i]? = some b ∧ x = V.int b.2 := by
        cases e : M'[i]? with
        | none => rw [e] at hi; cases hi
        | some b => rw [e] at hi; exact ⟨b, rfl, (Option.some.inj hi).symm⟩
      have hil := (List.getElem?_eq_some_iff.mp hg).1
      obtain ⟨b1, b2, b3⟩ := Bud.ordN_back hM (List.mem_of_getElem? hg)
      have eo : (Bud.ordN M')[i]? = some g.2.toNat := by unfold Bud.ordN; rw [List.getElem?_map, hg]; rfl
      rw [b1]
      generalize g.2.toNat = n at *
      have hdr : (Bud.ordN M').drop i = n :: (Bud.ordN M').drop (i + 1) := by
        have h1 := (List.getElem?_eq_some_iff.mp eo).1
        rw [List.drop_eq_getElem_cons h1]
        congr 1
        rw [List.getElem?_eq_getElem h1] at eo
        exact Option.some.inj eo
      have hda : as.drop i = as[i] :: as.drop (i + 1) := List.drop_eq_getElem_cons (by omega)
      rw [hdr, hda] at g4
      generalize hai : as[i]'(by omega) = ai at *
      cases g4 with
      | @cons _ tn _ _ _ _ S _ hb hc hp r =>
      have hwn := hw (ws[n]) (List.getElem_mem b2)
      have eg : ws.getD n 0 = ws[n] := by rw [List.getD_eq_getElem?_getD, List.getElem?_eq_getElem b2]; rfl
      rw [eg] at hb hp
      obtain ⟨dx4, fs4, ep4, nm4, _⟩ := y4.at_
      have hl4 : SqL K H4 l (ws.map V.int) := hY.seq k4 hl
      refine ⟨_, rfl, p, dx4, fs4, rfl, ep4, nm4.give, _, rfl, _, rfl, l, _, _, V.int ws[n], rfl, rfl, hl4, atI_nat (by rw [List.getElem?_map, List.getElem?_eq_getElem b2]; rfl), p, d, k, t1, ws[n], rfl, y4, by omega, fun z => absurd z (by omega), fun _ hb' => ?_, fun _ a' S' hb' H5 t5 k5 y5 sp5 perm5 => ?_⟩
      · rw [hb] at hb'
        cases hb'
      rw [hb] at hb'
      cases hb'
      have et : t5 = tn := Bud.tree_uniq y5.2.1 hc (perm5.trans hp.symm)
      subst et
      have hY4 := y4.has
      have ef5 : H5 f = some (.dK (kd (((Bud.ordN M').zip as).take i))) := k5 _ _ ef4 npf.symm ndf.symm
      have hzip : ((Bud.ordN M').zip as)[i]? = some (n, ai) := by
        rw [List.getElem?_zip_eq_some]
        exact ⟨eo, by rw [List.getElem?_eq_getElem (by omega), hai]⟩
      have hnew : ∀ p ∈ ((Bud.ordN M').zip as).take i, p.1 ≠ n := fun p hp e => by
        obtain ⟨j, hj, ej⟩ := List.getElem_of_mem hp
        rw [List.length_take] at hj
        have h1 : ((Bud.ordN M').zip as)[j]? = some p := by
          rw [← ej, List.getElem_take]
          exact List.getElem?_eq_getElem (by omega)
        have h2 := (List.getElem?_zip_eq_some.mp h1).1
        rw [e] at h2
        have h3 := (List.getElem?_eq_some_iff.mp h2)
        have h4 := (List.getElem?_eq_some_iff.mp eo)
        obtain ⟨h3a, h3b⟩ := h3
        obtain ⟨h4a, h4b⟩ := h4
        exact (List.pairwise_iff_getElem.mp ndO) j i h3a h4a (by omega) (by rw [h3b, h4b])
      refine ⟨_, rfl, _, rfl, f, _, rfl, DPut.k (k := (Sum.inl (n : Int) : Key)) ef5 ?_, ?_⟩
      · unfold kd
        rw [List.length_map, List.length_take, sizeLine_eq]
        omega
      rw [kd_new hnew]
      refine ⟨v, _, t5, rfl, fun b o hb' nbp nbd => ?_, y5.putD ef5 ndf _, ?_, ?_, ?_, r⟩
      · have hne : b ≠ f := ne_of_none hb' hf
        rw [upd_ne hne]
        exact k5 _ _ (k4 _ _ hb' nbp nbd) nbp nbd
      · have hqf : q ≠ f := ne_of e4 ef4 (by intro z; cases z)
        rw [upd_ne hqf]
        exact hY4.lst k5 e4
      · rw [upd_same, List.take_add_one, hzip]
        rfl
      · rw [perm5.length_eq, List.length_cons]
        omega
    · rintro σ H4 ⟨v, v4, t1, rfl, k4, y4, e4, ef4, l4, g4⟩
      rw [List.length_map] at ef4 g4
      rw [List.drop_eq_nil_of_le (by rw [lenO, hML]; exact Nat.le_refl _), List.drop_eq_nil_of_le (by rw [lenA, hML]; exact Nat.le_refl _)] at g4
      rw [List.take_of_length_le (by rw [List.length_zip]; omega)] at ef4
      cases g4
      refine ⟨_, rfl, l, _, rfl, .inl (hY.seq k4 hl), _, rfl, by rw [List.length_map]; omega, by rw [List.length_map]; omega, ?_⟩
      rw [List.length_map, show ((ws.length : Int)).toNat = ws.length from rfl]
      intro C hC
      refine lc_range (lo := 0) (n := ws.length) (fun i H' => H' = upd H4 C (.lst ((List.range i).map fun i => V.int (Bud.plOf (Bud.ordN M') as i)))) rfl ?_ ?_
      · rintro i H5 hi rfl
        have hin : i ∈ Bud.ordN M' := (Bud.ordN_perm hM).mem_iff.mpr (List.mem_range.mpr hi)
        obtain ⟨a', ha'⟩ : ∃ a, ((Bud.ordN M').zip as).lookup i = some a := by
          cases e : ((Bud.ordN M').zip as).lookup i with
          | some a => exact ⟨a, rfl⟩
          | none =>
            exfalso
            obtain ⟨j, hj, ej⟩ := List.getElem_of_mem hin
            have h1 : (i, as[j]'(by omega)) ∈ (Bud.ordN M').zip as := by
              refine List.mem_of_getElem? (i := j) (List.getElem?_zip_eq_some.mpr ⟨?_, List.getElem?_eq_getElem (by omega)⟩)
              rw [List.getElem?_eq_getElem hj, ej]
            have h2 := List.lookup_eq_none_iff.mp e _ h1
            simp at h2
        refine ⟨rfl, ?_⟩
        refine ⟨_, rfl, _, rfl, f, V.int a', rfl, ?_, _, upd_same, ?_, ?_⟩
        · have hd := DGet.k (k := (Sum.inl (i : Int) : Key)) ((same_new hC (o := .lst ((List.range i).map fun i => V.int (Bud.plOf (Bud.ordN M') as i)))) _ _ ef4)
          rw [kd_val, ha'] at hd
          show DGet _ _ (V.int (0 + (i : Int))) _
          rw [Int.zero_add]
          exact hd
        · rw [List.length_map, List.length_range, sizeLine_eq]
          omega
        · rw [upd_upd, List.range_succ, List.map_append]
          congr 3
          show [V.int a'] = [V.int (Bud.plOf (Bud.ordN M') as i)]
          unfold Bud.plOf
          rw [ha']
          rfl
      · rintro H5 rfl
        exact kQ _ C (k4.trans (Same.kp (same_new hC) p d)) (y4.same (same_new hC)) upd_same
/-! #### _law_whole -/
/-- whether it is a whole number -/
def spWhole : Sp := fun vs H Q _ => ∃ i : Int, vs = [.int i] ∧ Q (.bl true) H
theorem ok_whole (T : Txt K mg) : DefOk P w K mg base 1 "_law_whole" ["_law_found"] spWhole := by
  refine mkDef T.F__law_whole T.g__law_whole bd__law_whole sc__law_whole (fun vs H Q E h => ?_) (fun cdv A outer s H vs Q E hr h => ?_)
  · obtain ⟨i, rfl, _⟩ := h
    rfl
  · obtain ⟨i, rfl, k⟩ := h
    refine ⟨_, pss_one (ps_ret (pe_and (pe_callB call_isi (by rfl) T.n_isinstance (by decide +kernel) (pa_cons (pv 0) (pa_cons (pe_bltn (v := .ty "int") (u := .type "int") (by rfl) T.n_int (by decide +kernel) rfl) pa_nil)))
      (pe_one (pe_not (pe_callB call_isi (by rfl) T.n_isinstance (by decide +kernel) (pa_cons (pv 0) (pa_cons (pe_bltn (v := .ty "bool") (u := .type "bool") (by rfl) T.n_bool (by decide +kernel) rfl) pa_nil))))))), ?_⟩
    refine ⟨_, rfl, _, _, _, _, true, rfl, .ty "int", .base (.int i), kit_ty (by decide +kernel), _, rfl, iteT ?_⟩
    exact ⟨_, rfl, _, _, _, _, false, rfl, .ty "bool", .base (.int i), kit_ty (by decide +kernel), _, rfl, k⟩
/-! #### _law_cell_at -/
def cell (ns : List Int) (k : Nat) : Int := ns.getD k 0
/-- a cell of the script, nought behind its end -/
def spCell (K : PySem.W.Frag) : Sp := fun vs H Q _ => ∃ (a : Addr) (ns : List Int) (j : Nat), vs = [.ref a, .int j] ∧ SqL K H a (ns.map V.int) ∧ Q (.int (cell ns j)) H
theorem ok_cell (T : Txt K mg) : DefOk P w K mg base 1 "_law_cell_at" ["_law_script", "_law_k"] (spCell K) := by
  refine mkDef T.F__law_cell_at T.g__law_cell_at bd__law_cell_at sc__law_cell_at (fun vs H Q E h => ?_) (fun cdv A outer s H vs Q E hr h => ?_)
  · obtain ⟨a, ns, j, rfl, _⟩ := h
    rfl
  · obtain ⟨a, ns, j, rfl, hS, k⟩ := h
    refine ⟨_, pss_cons (ps_if (pt_cmpR op_lt (pv 1) (pe_callB call_len_seq (by rfl) T.n_len PySem.boot_len (pa_cons (pv 0) pa_nil)) (nomark _)) (pss_one (ps_ret (pe_ix ix_list (pv 0) (pv 1) (fun _ _ => rfl)))) pss_nil)
      (pss_one (ps_ret pe_int)), ?_⟩
    refine ⟨_, rfl, _, rfl, a, _, rfl, .inl hS, _, _, rfl, rfl, _, rfl, ?_⟩
    rw [List.length_map]
    refine ite2 (fun c => ?_) (fun c => ?_)
    · have c' : j < ns.length := by simpa using c
      refine ⟨_, rfl, _, rfl, a, _, _, _, rfl, rfl, hS, atI_nat (by rw [List.getElem?_map, List.getElem?_eq_getElem c']; rfl), ?_⟩
      have e : cell ns j = ns[j] := by unfold cell; rw [List.getD_eq_getElem?_getD, List.getElem?_eq_getElem c']; rfl
      rw [← e]
      exact k
    · have c' : ns.length ≤ j := by
        have : ¬ j < ns.length := by simpa using c
        omega
      have e : cell ns j = 0 := by unfold cell; rw [List.getD_eq_getElem?_getD, List.getElem?_eq_none c']; rfl
      rw [e] at k
      exact k
/-! #### _law_doubled -/
/-- 2 ** times -/
def spDoubled : Sp := fun vs H Q _ => ∃ n : Nat, vs = [.int n] ∧ n < 1000 ∧ Q (.int (Bud.pw n)) H
theorem ok_doubled (T : Txt K mg) : DefOk P w K mg base 1 "_law_doubled" ["_law_times"] spDoubled := by
  refine mkDef T.F__law_doubled T.g__law_doubled bd__law_doubled sc__law_doubled (fun vs H Q E h => ?_) (fun cdv A outer s H vs Q E hr h => ?_)
  · obtain ⟨n, rfl, _⟩ := h
    rfl
  · obtain ⟨n, rfl, hn, k⟩ := h
    refine ⟨_, pss_cons (ps_set (i := 1) sc__law_doubled.nd rfl (Or.inl rfl) pe_int)
      (pss_cons (ps_for (passes_of rfl) rfl (pi_range1 rfl T.n_range (pa_cons (pv 0) pa_nil)) (pg_name (i := 2) sc__law_doubled.nd rfl (Or.inl rfl)) (pss_one (ps_set (i := 1) sc__law_doubled.nd rfl (Or.inl rfl) (pe_op op_mul (pv 1) pe_int))))
      (pss_one (ps_ret (pv 1)))), ?_⟩
    refine ⟨_, rfl, _, rfl, by omega, by omega, ?_⟩
    rw [show ((n : Int)).toNat = n from rfl]
    refine for_range (n := n) (fun i σ H' => H' = H ∧ ∃ v, σ = [some (.int n), some (.int (Bud.pw i)), v]) ⟨rfl, none, rfl⟩ ?_ ?_
    · rintro i σ H' hi ⟨rfl, v, rfl⟩
      refine ⟨_, rfl, _, _, rfl, rfl, .inr ⟨by decide, by decide⟩, ?_⟩
      refine ⟨rfl, some (.int (0 + (i : Int))), ?_⟩
      rw [Bud.pw_succ, Int.mul_comm 2]
      rfl
    · rintro σ H' ⟨rfl, v, rfl⟩
      exact ⟨_, rfl, k⟩
/-! #### _law_fitting -/
/-- the fitting size -/
def spFitting : Sp := fun vs H Q _ => ∃ w : Int, vs = [.int w] ∧ Q (.int (Bud.fit w)) H
theorem ok_fitting (T : Txt K mg) : DefOk P w K mg base 1 "_law_fitting" ["_law_want_here"] spFitting := by
  refine mkDef T.F__law_fitting T.g__law_fitting bd__law_fitting sc__law_fitting (fun vs H Q E h => ?_) (fun cdv A outer s H vs Q E hr h => ?_)
  · obtain ⟨n, rfl, _⟩ := h
    rfl
  · obtain ⟨n, rfl, k1⟩ := h
    refine ⟨_, pss_cons (ps_set (i := 1) sc__law_fitting.nd rfl (Or.inl rfl) pe_int)
      (pss_cons (ps_while (passes_of rfl) (pt_cmpR op_lt (pv 1) (pv 0) (nomark _)) (pss_one (ps_set (i := 1) sc__law_fitting.nd rfl (Or.inl rfl) (pe_op op_mul (pv 1) pe_int))))
      (pss_one (ps_ret (pv 1)))), ?_⟩
    refine while_n (Bud.fe n) (fun i σ H' => H' = H ∧ σ = [some (.int n), some (.int (Bud.pw i))]) ⟨rfl, rfl⟩ ?_
    rintro i σ H' hi ⟨rfl, rfl⟩
    refine ⟨_, rfl, _, rfl, _, _, rfl, rfl, _, rfl, ?_⟩
    refine ite2 (fun c => ?_) (fun c => ?_)
    · have c' : Bud.pw i < n := by simpa using c
      have hlt : i < Bud.fe n := by
        rcases Nat.lt_or_ge i (Bud.fe n) with q | q
        · exact q
        · have := Bud.pw_le q
          have := Bud.fit_ge n
          unfold Bud.fit at this
          omega
      refine ⟨_, wh_step hlt, ?_⟩
      refine ⟨_, rfl, _, _, rfl, rfl, .inr ⟨by decide, by decide⟩, rfl, ?_⟩
      rw [Bud.pw_succ, Int.mul_comm 2]
      rfl
    · have c' : ¬ Bud.pw i < n := by simpa using c
      have e : i = Bud.fe n := by
        have := Bud.fe_le (w := n) (n := i) (by omega)
        omega
      subst e
      exact ⟨_, rfl, k1⟩
/-! #### _law_yard_size -/
/-- some size -/
def spYSize (K : PySem.W.Frag) : Sp := fun vs H Q _ => ∃ (a : Addr) (ns : List Int), vs = [.ref a] ∧ SqL K H a (ns.map V.int) ∧ ∀ k : Nat, k ≤ 60 → Q (.int (Bud.pw k)) H
theorem ok_ysize (T : Txt K mg) : DefOk P w K mg base 2 "_law_yard_size" ["_law_script"] (spYSize K) := by
  refine mkDef T.F__law_yard_size T.g__law_yard_size bd__law_yard_size sc__law_yard_size (fun vs H Q E h => ?_) (fun cdv A outer s H vs Q E hr h => ?_)
  · obtain ⟨a, ns, rfl, _⟩ := h
    rfl
  · obtain ⟨a, ns, rfl, hS, k⟩ := h
    have nd := sc__law_yard_size.nd
    have hr1 : Room 1 _ := hr
    refine ⟨_, (pss_cons (ps_set (i := 1) nd rfl (Or.inl rfl) (pe_op op_mod (pe_cd (ok_cell T) hr1 (pa_cons (pv 0) (pa_cons pe_int pa_nil))) pe_int))
      (pss_cons (ps_set (i := 2) nd rfl (Or.inl rfl) (pe_cd (ok_cell T) hr1 (pa_cons (pv 0) (pa_cons pe_int pa_nil))))
      (pss_cons (ps_if (pt_cmpR op_lt (pv 1) pe_int (nomark _)) (pss_one (ps_ret (pe_cd (ok_doubled T) hr1 (pa_cons (pe_op op_mod (pv 2) pe_int) pa_nil)))) pss_nil)
      (pss_cons (ps_if (pt_cmpR op_lt (pv 1) pe_int (nomark _)) (pss_one (ps_ret (pe_cd (ok_doubled T) hr1 (pa_cons (pe_op op_mod (pv 2) pe_int) pa_nil)))) pss_nil)
      (pss_cons (ps_if (pt_cmpR op_lt (pv 1) pe_int (nomark _)) (pss_one (ps_ret (pe_cd (ok_doubled T) hr1 (pa_cons (pe_op op_add pe_int (pe_op op_mod (pv 2) pe_int)) pa_nil)))) pss_nil)
      (pss_one (ps_ret (pe_op op_pow pe_int pe_int)))))))), ?_⟩
    refine ⟨_, rfl, a, ns, 0, rfl, hS, _, _, rfl, rfl, (by show (0 : Int) < 8; decide), ?_⟩
    refine ⟨_, rfl, a, ns, 1, rfl, hS, ?_⟩
    refine ⟨_, rfl, _, _, rfl, rfl, _, rfl, ?_⟩
    refine ite2 (fun _ => ?_) (fun _ => ?_)
    · obtain ⟨n, en, hn⟩ : ∃ n : Nat, cell ns 1 % 8 = (n : Int) ∧ n < 8 := ⟨(cell ns 1 % 8).toNat, by omega, by omega⟩
      exact ⟨_, rfl, _, _, rfl, rfl, (by show (0 : Int) < 8; decide), n, by rw [← en] <;> rfl, by omega, k n (by omega)⟩
    refine ⟨_, rfl, _, _, rfl, rfl, _, rfl, ?_⟩
    refine ite2 (fun _ => ?_) (fun _ => ?_)
    · obtain ⟨n, en, hn⟩ : ∃ n : Nat, cell ns 1 % 61 = (n : Int) ∧ n < 61 := ⟨(cell ns 1 % 61).toNat, by omega, by omega⟩
      exact ⟨_, rfl, _, _, rfl, rfl, (by show (0 : Int) < 61; decide), n, by rw [← en] <;> rfl, by omega, k n (by omega)⟩
    refine ⟨_, rfl, _, _, rfl, rfl, _, rfl, ?_⟩
    refine ite2 (fun _ => ?_) (fun _ => ?_)
    · obtain ⟨n, en, hn⟩ : ∃ n : Nat, 40 + cell ns 1 % 21 = (n : Int) ∧ n ≤ 60 := ⟨(40 + cell ns 1 % 21).toNat, by omega, by omega⟩
      exact ⟨_, rfl, _, _, rfl, rfl, (by show (0 : Int) < 21; decide), _, _, rfl, rfl, n, by rw [← en] <;> rfl, by omega, k n hn⟩
    have e60 : (2 : Int) ^ (60 : Int).toNat = Bud.pw 60 := by decide +kernel
    refine ⟨_, _, rfl, rfl, ⟨by decide, by decide, by decide⟩, ?_⟩
    show Q (V.int ((2 : Int) ^ (60 : Int).toNat)) H
    rw [e60]
    exact k 60 (Nat.le_refl _)
/-! #### _law_room -/
/-- how many turns -/
def spRoom (K : PySem.W.Frag) : Sp := fun vs H Q _ => ∃ (a : Addr) (ns : List Int) (m n : Int), vs = [.ref a, .int m, .int n] ∧ SqL K H a (ns.map V.int) ∧ ns.length ≤ 63 ∧ Q (.int m) H
theorem ok_room (T : Txt K mg) : DefOk P w K mg base 1 "_law_room" ["_law_script", "_law_few", "_law_many"] (spRoom K) := by
  refine mkDef T.F__law_room T.g__law_room bd__law_room sc__law_room (fun vs H Q E h => ?_) (fun cdv A outer s H vs Q E hr h => ?_)
  · obtain ⟨a, ns, m, n, rfl, _⟩ := h
    rfl
  · obtain ⟨a, ns, m, n, rfl, hS, hl, k⟩ := h
    refine ⟨_, pss_cons (ps_if (pt_cmpR op_gt (pe_callB call_len_seq (by rfl) T.n_len PySem.boot_len (pa_cons (pv 0) pa_nil)) pe_int (nomark _)) (pss_one (ps_ret (pv 2))) pss_nil)
      (pss_one (ps_ret (pv 1))), ?_⟩
    refine ⟨_, rfl, a, _, rfl, .inl hS, _, _, rfl, rfl, _, rfl, ?_⟩
    rw [List.length_map]
    have e : decide (((63 : Int)) < (ns.length : Int)) = false := decide_eq_false (by omega)
    rw [e]
    refine iteF ?_
    exact ⟨_, rfl, k⟩
/-! #### _law_want -/
/-- the wish that a cell tells -/
def wantF (c n : Int) : Int :=
  if c % 8 < 3 then 1 + c / 8 % 9 else if c % 8 < 6 then n / Bud.pw (c / 8 % 7).toNat + c / 8 / 7 % 3 - 1 else if c % 8 < 7 then 1 + c / 8 % n else
    if c / 8 % 3 = 0 then 0 else if c / 8 % 3 = 1 then -1 - c / 8 % 10 ^ 30 else n + 1 + c / 8 % 10 ^ 20
def spWant (K : PySem.W.Frag) : Sp := fun vs H Q _ => ∃ (c : Int) (k : Nat), vs = [.int c, .int (Bud.pw k)] ∧ ∀ H', Same H H' → Q (.int (wantF c (Bud.pw k))) H'
theorem ok_want (T : Txt K mg) : DefOk P w K mg base 2 "_law_want" ["_law_cell", "_law_cells"] (spWant K) := by
  refine mkDef T.F__law_want T.g__law_want bd__law_want sc__law_want (fun vs H Q E h => ?_) (fun cdv A outer s H vs Q E hr h => ?_)
  · obtain ⟨c, k, rfl, _⟩ := h
    rfl
  · obtain ⟨c, k, rfl, q⟩ := h
    have nd := sc__law_want.nd
    have hr1 : Room 1 _ := hr
    have hpk := Bud.pw_pos k
    refine ⟨_, (pss_cons (ps_set (i := 2) nd rfl (Or.inl rfl) (pe_op op_mod (pv 0) pe_int))
      (pss_cons (ps_set (i := 3) nd rfl (Or.inl rfl) (pe_op op_fdiv (pv 0) pe_int))
      (pss_cons (ps_if (pt_cmpR op_lt (pv 2) pe_int (nomark _)) (pss_one (ps_ret (pe_op op_add pe_int (pe_op op_mod (pv 3) pe_int)))) pss_nil)
      (pss_cons (ps_if (pt_cmpR op_lt (pv 2) pe_int (nomark _)) (pss_one (ps_ret (pe_op op_sub (pe_op op_add (pe_op op_fdiv (pv 1) (pe_cd (ok_doubled T) hr1 (pa_cons (pe_op op_mod (pv 3) pe_int) pa_nil))) (pe_op op_mod (pe_op op_fdiv (pv 3) pe_int) pe_int)) pe_int))) pss_nil)
      (pss_cons (ps_if (pt_cmpR op_lt (pv 2) pe_int (nomark _)) (pss_one (ps_ret (pe_op op_add pe_int (pe_op op_mod (pv 3) (pv 1))))) pss_nil)
      (pss_one (ps_ret (pe_ix ix_list (pe_lst (pa_cons pe_int (pa_cons (pe_op op_sub (pe_un un_neg pe_int) (pe_op op_mod (pv 3) (pe_op op_pow pe_int pe_int))) (pa_cons (pe_op op_add (pe_op op_add (pv 1) pe_int) (pe_op op_mod (pv 3) (pe_op op_pow pe_int pe_int))) pa_nil)))) (pe_op op_mod (pv 3) pe_int) (fun _ _ => rfl))))))))), ?_⟩
    refine ⟨_, rfl, _, _, rfl, rfl, (by show (0 : Int) < 8; decide), ?_⟩
    refine ⟨_, rfl, _, _, rfl, rfl, ⟨by decide, by decide⟩, ?_⟩
    unfold wantF at q
    refine ⟨_, rfl, _, _, rfl, rfl, _, rfl, ?_⟩
    refine ite2 (fun b => ?_) (fun b => ?_)
    · have b' : c % 8 < 3 := by simpa using b
      rw [if_pos b'] at q
      exact ⟨_, rfl, _, _, rfl, rfl, (by show (0 : Int) < 9; decide), _, _, rfl, rfl, q _ (Same.refl _)⟩
    have b' : ¬ c % 8 < 3 := by simpa using b
    rw [if_neg b'] at q
    refine ⟨_, rfl, _, _, rfl, rfl, _, rfl, ?_⟩
    refine ite2 (fun b => ?_) (fun b => ?_)
    · have b' : c % 8 < 6 := by simpa using b
      rw [if_pos b'] at q
      obtain ⟨n, en, hn⟩ : ∃ n : Nat, c / 8 % 7 = (n : Int) ∧ n < 7 := ⟨(c / 8 % 7).toNat, by omega, by omega⟩
      rw [en] at q
      have h6 : Bud.pw n ≤ Bud.pw 6 := Bud.pw_le (by omega)
      have e6 : Bud.pw 6 = 64 := by decide +kernel
      have h0 := Bud.pw_pos n
      exact ⟨_, rfl, _, rfl, _, _, rfl, rfl, (by show (0 : Int) < 7; decide), n, by rw [← en] <;> rfl, by omega, _, _, rfl, rfl, ⟨h0, by omega⟩, _, rfl, _, _, rfl, rfl, ⟨by decide, by decide⟩, _, _, rfl, rfl, (by show (0 : Int) < 3; decide), _, _, rfl, rfl, _, _, rfl, rfl, q _ (Same.refl _)⟩
    have b' : ¬ c % 8 < 6 := by simpa using b
    rw [if_neg b'] at q
    refine ⟨_, rfl, _, _, rfl, rfl, _, rfl, ?_⟩
    refine ite2 (fun b => ?_) (fun b => ?_)
    · have b' : c % 8 < 7 := by simpa using b
      rw [if_pos b'] at q
      exact ⟨_, rfl, _, rfl, _, _, rfl, rfl, hpk, _, _, rfl, rfl, q _ (Same.refl _)⟩
    have b' : ¬ c % 8 < 7 := by simpa using b
    rw [if_neg b'] at q
    refine ⟨_, rfl, _, rfl, _, _, rfl, rfl, ⟨by decide, by decide, by decide⟩, _, _, rfl, rfl, (by show (0 : Int) < 10 ^ 30; decide), _, _, rfl, rfl, ?_⟩
    refine ⟨_, rfl, _, _, rfl, rfl, _, rfl, _, _, rfl, rfl, ⟨by decide, by decide, by decide⟩, _, _, rfl, rfl, (by show (0 : Int) < 10 ^ 20; decide), _, _, rfl, rfl, ?_⟩
    refine ⟨(by show 3 ≤ sizeLine; decide), fun l hl => ?_⟩
    refine ⟨_, rfl, _, _, rfl, rfl, (by show (0 : Int) < 3; decide), ?_⟩
    have three : c / 8 % 3 = 0 ∨ c / 8 % 3 = 1 ∨ c / 8 % 3 = 2 := by omega
    rcases three with e | e | e
    · rw [if_pos e] at q
      exact ⟨l, _, _, _, rfl, rfl, SqL.of upd_same, by show atI _ (c / 8 % 3) = _; rw [e]; rfl, q _ (same_new hl)⟩
    · rw [if_neg (by omega), if_pos e] at q
      exact ⟨l, _, _, _, rfl, rfl, SqL.of upd_same, by show atI _ (c / 8 % 3) = _; rw [e]; rfl, q _ (same_new hl)⟩
    · rw [if_neg (by omega), if_neg (by omega)] at q
      exact ⟨l, _, _, _, rfl, rfl, SqL.of upd_same, by show atI _ (c / 8 % 3) = _; rw [e]; rfl, q _ (same_new hl)⟩
/-! #### _law_begun -/
/-- a yard's beginning -/
def spBegun (K : PySem.W.Frag) : Sp := fun vs H Q _ => ∃ (p d : Addr) (k : Nat) (c : Int), vs = [.ref p, .int c, .int (Bud.pw k)] ∧ YardT K H p d (.free : Bud.T k) ∧
  ∀ (H' : Hp) (t' : Bud.T k) (h : Addr) (xs : List V) (D : List Bud.Pc), Kp p d H H' → YardT K H' p d t' → H h = none → H' h = some (.lst xs) → Prs H' xs D → D.Perm (Bud.outs t' 0) → D.length ≤ 130 → Q (.ref h) H'
theorem ok_begun (T : Txt K mg) : DefOk P w K mg base 4 "_law_begun" ["_law_yard", "_law_cell", "_law_cells"] (spBegun K) := by
  refine mkDef T.F__law_begun T.g__law_begun bd__law_begun sc__law_begun (fun vs H Q E h => ?_) (fun cdv A outer s H vs Q E hr h => ?_)
  · obtain ⟨p, d, k, c, rfl, _⟩ := h
    rfl
  · obtain ⟨p, d, k, c, rfl, y, q⟩ := h
    have nd := sc__law_begun.nd
    have hr2 : Room 2 _ := hr.mono (by decide)
    have hr3 : Room 3 _ := hr
    have hY := y.has
    have hp0 := Bud.pw_pos k
    refine ⟨_, pss_cons (ps_set (i := 3) nd rfl (Or.inr rfl) (pe_lst pa_nil))
      (pss_cons (ps_set (i := 4) nd rfl (Or.inl rfl) pe_int)
      (C8.pss_cut (ps_if (pt_cmpR op_eq (pe_op op_mod (pv 1) pe_int) pe_int (nomark _)) (pss_one (ps_set (i := 4) nd rfl (Or.inl rfl) (pe_callB (call_min2 rfl) (by rfl) T.n_min (by decide +kernel) (pa_cons (pv 2) (pa_cons (pe_op op_mod (pe_op op_fdiv (pv 1) pe_int) pe_int) pa_nil))))) pss_nil)
      (C8.pss_cut (ps_if (pt_cmpR op_eq (pe_op op_mod (pv 1) pe_int) pe_int (nomark _)) (pss_one (ps_set (i := 4) nd rfl (Or.inl rfl) (pe_callB (call_min2 rfl) (by rfl) T.n_min (by decide +kernel) (pa_cons (pv 2) (pa_cons (pe_op op_mod (pe_op op_fdiv (pv 1) pe_int) pe_int) pa_nil))))) pss_nil)
      (pss_cons (ps_for (passes_of rfl) rfl (pi_range1 rfl T.n_range (pa_cons (pv 4) pa_nil)) (pg_name (i := 5) nd rfl (Or.inl rfl))
        (pss_one (ps_expr (pe_bm PySem.F.plainAttrs_list PySem.F.slot_list_append PySem.F.type_list_append mt_append (pv 3) (pa_cons (pe_tup (pa_cons (pe_m (pv 0) (ok_give T) hr2 (pa_cons pe_int pa_nil)) (pa_cons pe_int pa_nil))) pa_nil)))))
      (pss_cons (ps_if (pt_cmpR op_eq (pe_op op_mod (pv 1) pe_int) pe_int (nomark _))
        (pss_cons (ps_for (passes_of rfl) rfl (pi_range1 rfl T.n_range (pa_cons (pe_op op_fdiv (pv 4) pe_int) pa_nil)) (pg_name (i := 5) nd rfl (Or.inl rfl))
          (pss_one (ps_expr (pe_m (pv 0) (ok_take_back T) hr3 (pa_cons (pe_p0 (pe_ix ix_list (pv 3) (pe_op op_add (pe_op op_mul pe_int (pv 5)) pe_int) (fun _ _ => rfl))) pa_nil)))))
        (pss_one (ps_set (i := 3) nd rfl (Or.inr rfl) (pe_lc (own := [("_law_k", 5)]) (g := gName 5) (te := tOp (rIxL K) (tVar 3) (tVar 5)) (by rfl) nd (pi_range1 rfl T.n_range (pa_cons (pv 4) pa_nil))
          (blkOk_by (own := [("_law_k", 5)]) (N := ["_law_yard", "_law_cell", "_law_cells", "_law_held", "_law_many", "_law_k"]) (sc := defScope s__law_begun) (by decide +kernel)) (fun _ _ _ _ _ => pg_name (i := 5) nd rfl (Or.inl rfl))
          (fun _ _ _ _ _ => pts_one (pt_cmpR op_eq (pe_op op_mod (pv 5) pe_int) pe_int (nomark _))) (fun _ _ _ _ _ => pe_ix ix_list (pv 3) (pv 5) (fun _ _ => rfl))))))
        pss_nil)
      (pss_one (ps_ret (pv 3)))))))), ?_⟩
    refine ⟨Nat.zero_le _, fun h hh => ?_⟩
    have k0 : Kp p d H (upd H h (.lst [])) := Same.kp (same_new hh) p d
    -- how many
    refine ⟨fun σ H' => H' = upd H h (.lst []) ∧ ∃ m : Nat, m ≤ 130 ∧ (m : Int) ≤ Bud.pw k ∧ σ = [some (.ref p), some (.int c), some (.int (Bud.pw k)), some (.ref h), some (.int m), none], ?_, ?_⟩
    · refine ⟨_, rfl, _, _, rfl, rfl, (by show (0 : Int) < 4; decide), rfl, _, rfl, ?_⟩
      refine ite2 (fun b => ?_) (fun b => ?_)
      · refine ⟨_, rfl, _, rfl, _, _, rfl, rfl, ⟨by decide, by decide⟩, _, _, rfl, rfl, (by show (0 : Int) < 71; decide), _, _, rfl, rfl, ?_⟩
        rw [min_if]
        exact ⟨(min (Bud.pw k) (c / 4 % 71)).toNat, by omega, by omega, by rw [show ((min (Bud.pw k) (c / 4 % 71)).toNat : Int) = min (Bud.pw k) (c / 4 % 71) by omega]; rfl⟩
      · exact ⟨rfl, 0, by omega, by omega, rfl⟩
    rintro σ H1 ⟨rfl, m0, _, _, rfl⟩
    refine ⟨fun σ H' => H' = upd H h (.lst []) ∧ ∃ m : Nat, m ≤ 130 ∧ (m : Int) ≤ Bud.pw k ∧ σ = [some (.ref p), some (.int c), some (.int (Bud.pw k)), some (.ref h), some (.int m), none], ?_, ?_⟩
    · refine ⟨_, rfl, _, _, rfl, rfl, (by show (0 : Int) < 4; decide), rfl, _, rfl, ?_⟩
      refine ite2 (fun b => ?_) (fun b => ?_)
      · refine ⟨_, rfl, _, rfl, _, _, rfl, rfl, ⟨by decide, by decide⟩, _, _, rfl, rfl, (by show (0 : Int) < 131; decide), _, _, rfl, rfl, ?_⟩
        rw [min_if]
        exact ⟨(min (Bud.pw k) (c / 4 % 131)).toNat, by omega, by omega, by rw [show ((min (Bud.pw k) (c / 4 % 131)).toNat : Int) = min (Bud.pw k) (c / 4 % 131) by omega]; rfl⟩
      · exact ⟨rfl, m0, by omega, by omega, rfl⟩
    rintro σ H1 ⟨rfl, m, hm, hmk, rfl⟩
    -- ones are given
    refine ⟨_, rfl, _, rfl, by omega, by omega, ?_⟩
    rw [show ((m : Int)).toNat = m from rfl]
    refine for_range (n := m) (fun i σ H' => ∃ (v : Option V) (t : Bud.T k) (xs : List V) (D : List Bud.Pc), σ = [some (.ref p), some (.int c), some (.int (Bud.pw k)), some (.ref h), some (.int m), v] ∧ Kp p d H H' ∧ YardT K H' p d t ∧ H' h = some (.lst xs) ∧ Prs H' xs D ∧ D.Perm (Bud.outs t 0) ∧ D.length = i ∧ ∀ g ∈ D, g.2 = 1)
      ⟨none, .free, [], [], rfl, k0, y.same (same_new hh), upd_same, .nil, List.Perm.refl _, rfl, fun g hg => by cases hg⟩ ?_ ?_
    · rintro i σ H1 hi ⟨v, t, xs, D, rfl, k1, y1, hl, hD, hperm, hlen, hone⟩
      have hY1 := y1.has
      have hlen2 : (Bud.outs t 0).length ≤ 1000 := by rw [← hperm.length_eq]; omega
      obtain ⟨dx, fs, ef, nm, _⟩ := y1.at_
      refine ⟨_, rfl, .inl ⟨rfl, _, SqL.of hl⟩, _, rfl, p, dx, fs, rfl, ef, nm.give, p, d, k, t, 1, rfl, y1, hlen2, fun z => absurd z (by decide), fun _ hb => ?_, fun _ a S hb H2 t2 k2 y2 sp2 perm2 => ?_⟩
      · have hs : Bud.sizes (Bud.outs t 0) < Bud.pw k := by
          rw [← Bud.sizes_perm hperm, Bud.sizes_ones hone, hlen]
          omega
        obtain ⟨a, S, e⟩ := Bud.best_one hs
        rw [e] at hb
        cases hb
      · have hl2 : H2 h = some (.lst xs) := hY1.lst k2 hl
        refine ⟨(by show 2 ≤ sizeLine; decide), fun tt ht => ?_⟩
        have nlt : h ≠ tt := ne_of_none hl2 ht
        refine ⟨h, _, _, rfl, rfl, by rw [upd_ne nlt]; exact hl2, ?_, ?_⟩
        · have e1 := hD.length
          rw [sizeLine_eq]
          omega
        obtain ⟨⟨C, dy, gs, hyp⟩, kvs, hyd⟩ := y2.has
        have nph : p ≠ h := ne_of hyp hl2 (by intro z; cases z)
        have ndh : d ≠ h := ne_of hyd hl2 (by intro z; cases z)
        have nsp : ¬ Spare (upd H2 tt (.tup [.int a, .int 1])) p h := fun z => by
          have z2 := sp2 _ (z.upd (ne_of_none hyp ht))
          rw [hl] at z2
          cases z2
        have hl3 : (upd H2 tt (.tup [.int a, .int 1])) h = some (.lst xs) := by rw [upd_ne nlt]; exact hl2
        have kt : TupKept H1 (upd (upd H2 tt (.tup [.int a, .int 1])) h (.lst (xs ++ [.ref tt]))) := ((hY1.tups k2).trans (tups_upd ht)).trans (tups_put hl3 (fun xs z => by cases z))
        refine ⟨some (.int (0 + (i : Int))), t2, _, D ++ [(a, Bud.fit 1)], rfl, fun b o hb nbp nbd => ?_, (y2.same (same_new ht)).put hl3 nsp _, upd_same, ?_, ?_, ?_, ?_⟩
        · have nbh : b ≠ h := ne_of_none hb hh
          rw [upd_ne nbh, upd_ne (ne_of_none (k2 _ _ (k1 _ _ hb nbp nbd) nbp nbd) ht)]
          exact k2 _ _ (k1 _ _ hb nbp nbd) nbp nbd
        · refine Prs.append (hD.kept kt) (.cons ⟨tt, rfl, ?_⟩ .nil)
          rw [upd_ne nlt.symm, upd_same]
          rfl
        · refine (List.perm_append_comm (l₁ := D) (l₂ := [(a, Bud.fit 1)])).trans ?_
          exact (hperm.cons _).trans perm2.symm
        · rw [List.length_append, hlen]
          rfl
        · intro g hg
          rcases List.mem_append.mp hg with z | z
          · exact hone g z
          · rw [List.mem_singleton.mp z]
            show Bud.fit 1 = 1
            decide +kernel
    rintro σ H1 ⟨v, t, xs, D, rfl, k1, y1, hl, hD, hperm, hlen, hone⟩
    refine ⟨_, rfl, _, _, rfl, rfl, (by show (0 : Int) < 4; decide), rfl, _, rfl, ?_⟩
    refine ite2 (fun b => ?_) (fun b => ?_)
    · -- every other comes back
      refine ⟨_, rfl, _, _, rfl, rfl, ⟨by decide, by decide⟩, _, rfl, by omega, by omega, ?_⟩
      rw [show ((m : Int) / 2).toNat = m / 2 by omega]
      refine for_range (n := m / 2) (fun i σ H' => ∃ (v : Option V) (t : Bud.T k), σ = [some (.ref p), some (.int c), some (.int (Bud.pw k)), some (.ref h), some (.int m), v] ∧ Kp p d H H' ∧ YardT K H' p d t ∧ H' h = some (.lst xs) ∧ Prs H' xs D ∧ (Bud.outs t 0).Perm (Bud.evens D ++ (Bud.odds D).drop i))
        ⟨v, t, rfl, k1, y1, hl, hD, hperm.symm.trans (Bud.evens_odds D)⟩ ?_ ?_
      · rintro i σ H2 hi ⟨v, t, rfl, k2, y2, hl2, hD2, perm2⟩
        have hY2 := y2.has
        obtain ⟨dx, fs, ef, nm, _⟩ := y2.at_
        have hi2 : 2 * i + 1 < D.length := by omega
        have hod : (Bud.odds D)[i]? = some D[2 * i + 1] := by rw [Bud.odds_at, List.getElem?_eq_getElem hi2]
        obtain ⟨x, hx, hpr⟩ := hD2.get' (i := 2 * i + 1) (List.getElem?_eq_getElem hi2)
        have hdr : (Bud.odds D).drop i = D[2 * i + 1] :: (Bud.odds D).drop (i + 1) := by
          have hlo : i < (Bud.odds D).length := (List.getElem?_eq_some_iff.mp hod).1
          rw [List.drop_eq_getElem_cons hlo]
          congr 1
          rw [List.getElem?_eq_getElem hlo] at hod
          exact Option.some.inj hod
        have hmem : D[2 * i + 1] ∈ Bud.outs t 0 := perm2.mem_iff.mpr (by rw [hdr]; exact List.mem_append_right _ List.mem_cons_self)
        have hlen2 : (Bud.outs t 0).length ≤ 1000 := by
          have e1 := (Bud.evens_odds D).length_eq
          rw [perm2.length_eq, List.length_append, List.length_drop]
          rw [List.length_append] at e1
          omega
        refine ⟨_, rfl, p, dx, fs, rfl, ef, nm.take, _, rfl, _, rfl, _, _, rfl, rfl, .inr ⟨by omega, by omega⟩, _, _, rfl, rfl, h, xs, _, x, rfl, rfl, SqL.of hl2, ?_, D[2 * i + 1], hpr, p, d, k, t, _, rfl, y2, hlen2, fun z => absurd rfl (z _ hmem), fun s hs H3 t3 k3 y3 sp3 perm3 => ?_⟩
        · show atI xs (2 * (0 + (i : Int)) + 1) = _
          rw [show (2 * (0 + (i : Int)) + 1) = ((2 * i + 1 : Nat) : Int) by omega]
          exact atI_nat hx
        have es : s = D[2 * i + 1].2 := Bud.key_uniq hs hmem
        subst es
        refine ⟨some (.int (0 + (i : Int))), t3, rfl, k2.trans k3, y3, hY2.lst k3 hl2, hY2.prs k3 hD2, ?_⟩
        have e1 := perm3.symm.trans perm2
        rw [hdr] at e1
        exact List.Perm.cons_inv (e1.trans List.perm_middle)
      rintro σ H2 ⟨v, t, rfl, k2, y2, hl2, hD2, perm2⟩
      have hfin : (Bud.outs t 0).Perm (Bud.evens D) := by
        have e1 : (Bud.odds D).drop (m / 2) = [] := List.drop_eq_nil_of_le (by rw [Bud.odds_len, hlen]; exact Nat.le_refl _)
        rw [e1, List.append_nil] at perm2
        exact perm2
      refine ⟨_, rfl, _, rfl, by omega, by omega, ?_⟩
      rw [show ((m : Int)).toNat = m from rfl]
      intro E0 hE
      refine lc_range (lo := 0) (n := m) (fun i H' => Same H2 H' ∧ ∃ ys, H' E0 = some (.lst ys) ∧ Prs H' ys (Bud.evTo D i)) ⟨same_new hE, [], upd_same, .nil⟩ ?_ ?_
      · rintro i H3 hi ⟨s3, ys, hEl, hys⟩
        have hi2 : i < D.length := by omega
        obtain ⟨x, hx, hpr⟩ := hD2.get' (i := i) (List.getElem?_eq_getElem hi2)
        have hst := Bud.evTo_succ (l := D) (i := i) (List.getElem?_eq_getElem hi2)
        have hle : ys.length < sizeLine := by
          have e1 := hys.length
          have e2 : (Bud.evTo D i).length ≤ i := by
            have e3 := (Bud.evens_odds (D.take i)).length_eq
            rw [List.length_append, List.length_take] at e3
            unfold Bud.evTo
            omega
          rw [sizeLine_eq]
          omega
        refine ⟨rfl, _, rfl, _, _, rfl, rfl, (by show (0 : Int) < 2; decide), rfl, _, rfl, ?_⟩
        have ei : (0 + (i : Int)) % 2 = 0 ↔ i % 2 = 0 := by omega
        refine ite2 (fun b => ?_) (fun b => ?_)
        · have b1 : (i : Int) % 2 = 0 := by simpa using b
          have b' : i % 2 = 0 := by omega
          rw [if_pos b'] at hst
          refine ⟨_, rfl, _, rfl, h, xs, _, x, rfl, rfl, SqL.of (s3 _ _ hl2), ?_, ys, hEl, hle, fun b o hb => ?_, _, upd_same, ?_⟩
          · show atI xs (0 + (i : Int)) = _
            rw [Int.zero_add]
            exact atI_nat hx
          · rw [upd_ne (ne_of_none hb hE)]
            exact s3 _ _ hb
          · rw [hst]
            refine Prs.append (hys.kept (tups_put hEl (fun xs z => by cases z))) (.cons ?_ .nil)
            exact (hpr.kept (Same.tups s3)).kept (tups_put hEl (fun xs z => by cases z))
        · have b1 : ¬ (i : Int) % 2 = 0 := by simpa using b
          have b' : ¬ i % 2 = 0 := by omega
          rw [if_neg b', List.append_nil] at hst
          exact ⟨s3, ys, hEl, by rw [hst]; exact hys⟩
      · rintro H3 ⟨s3, ys, hEl, hys⟩
        rw [← hlen, Bud.evTo_all] at hys
        have hle : (Bud.evens D).length ≤ 130 := by
          have e1 := (Bud.evens_odds D).length_eq
          rw [List.length_append] at e1
          omega
        refine ⟨_, rfl, q H3 t E0 ys _ (fun b o hb nbp nbd => s3 _ _ (k2 _ _ hb nbp nbd)) (y2.same s3) ?_ hEl hys hfin.symm hle⟩
        refine k2.free ?_ ?_ hE
        · exact fun z => by
            obtain ⟨⟨_, _, _, e⟩, _⟩ := y2.has
            rw [z, e] at hE
            cases hE
        · exact fun z => by
            obtain ⟨_, _, e⟩ := y2.has
            rw [z, e] at hE
            cases hE
    · exact ⟨_, rfl, q H1 t h xs D k1 y1 hh hl hD hperm (by omega)⟩
/-! #### _law_done -/
open Classical in
/-- what a turn makes of the pieces that are held -/
noncomputable def doneF {k : Nat} (t : Bud.T k) (D : List Bud.Pc) (c : Int) : List Bud.Pc :=
  if c % 4 < 2 ∨ D = [] then
    (if 1 ≤ wantF (c / 4) (Bud.pw k) then (match Bud.bestOf (Bud.frees t 0) (wantF (c / 4) (Bud.pw k)) with
      | some p => D ++ [(p.1, Bud.fit (wantF (c / 4) (Bud.pw k)))]
      | none => D) else D)
  else
    if c % 4 = 2 then Bud.without D (D.getD (c / 4 % D.length).toNat (0, 0)) else
    if 1 ≤ wantF (c / 4 / D.length) (Bud.pw k) ∧ Bud.Fits2 t (D.getD (c / 4 % D.length).toNat (0, 0)).1 (D.getD (c / 4 % D.length).toNat (0, 0)).2 (Bud.fit (wantF (c / 4 / D.length) (Bud.pw k))) then
      Bud.without D (D.getD (c / 4 % D.length).toNat (0, 0)) ++ [((D.getD (c / 4 % D.length).toNat (0, 0)).1, Bud.fit (wantF (c / 4 / D.length) (Bud.pw k)))] else D
theorem doneF_len {k : Nat} (t : Bud.T k) (D : List Bud.Pc) (c : Int) : (doneF t D c).length ≤ D.length + 1 := by
  have hw : ∀ p, (Bud.without D p).length ≤ D.length := fun p => List.length_filter_le _ _
  unfold doneF
  split
  · split
    · split
      · rw [List.length_append]; exact Nat.le_refl _
      · omega
    · omega
  · split
    · exact Nat.le_succ_of_le (hw _)
    · split
      · rw [List.length_append]
        exact Nat.succ_le_succ (hw _)
      · omega
theorem without_perm {L : List Bud.Pc} {p : Bud.Pc} (hn : L.Nodup) (hp : p ∈ L) : L.Perm (p :: Bud.without L p) := by
  obtain ⟨A, B, rfl⟩ := List.append_of_mem hp
  rw [Bud.without_mid hn]
  exact List.perm_middle
def spDone (K : PySem.W.Frag) : Sp := fun vs H Q _ => ∃ (p d : Addr) (k : Nat) (t : Bud.T k) (h : Addr) (xs : List V) (D : List Bud.Pc) (c : Int), vs = [.ref p, .ref h, .int c, .int (Bud.pw k)] ∧ YardT K H p d t ∧ H h = some (.lst xs) ∧ Prs H xs D ∧ D.Perm (Bud.outs t 0) ∧ D.length ≤ 500 ∧
  ∀ (H' : Hp) (t' : Bud.T k) (h' : Addr) (xs' : List V), Kp p d H H' → YardT K H' p d t' → (∀ l, Spare H' p l → Spare H p l ∨ H l = none) → H' h' = some (.lst xs') → Prs H' xs' (doneF t D c) → (doneF t D c).Perm (Bud.outs t' 0) → Q (.ref h') H'
theorem ok_done (T : Txt K mg) : DefOk P w K mg base 4 "_law_done" ["_law_yard", "_law_held", "_law_cell", "_law_cells"] (spDone K) := by
  refine mkDef T.F__law_done T.g__law_done bd__law_done sc__law_done (fun vs H Q E h => ?_) (fun cdv A outer s H vs Q E hr h => ?_)
  · obtain ⟨p, d, k, t, h, xs, D, c, rfl, _⟩ := h
    rfl
  · obtain ⟨p, d, k, t, h, xs, D, c, rfl, y, hl, hD, hperm, hlen, q⟩ := h
    have nd := sc__law_done.nd
    have hr1 : Room 1 _ := hr.mono (by decide)
    have hr2 : Room 2 _ := hr.mono (by decide)
    have hr3 : Room 3 _ := hr
    have hu := hr.units
    have hY := y.has
    have hlen2 : (Bud.outs t 0).length ≤ 1000 := by rw [← hperm.length_eq]; omega
    refine ⟨_, C8.pss_cut (ps_set (i := 4) nd rfl (Or.inl rfl) (pe_op op_fdiv (pv 2) pe_int))
      (pss_cons (ps_if (PW.pt (pw_or (pt_cmpR op_lt (pe_op op_mod (pv 2) pe_int) pe_int (nomark _)) (pw_or1 (pt_cmpR (op_eqPs hu) (pv 1) (pe_lst pa_nil) (nomark _)))))
        (pss_cons (ps_set (i := 5) nd rfl (Or.inl rfl) (pe_cd (ok_want T) hr2 (pa_cons (pv 4) (pa_cons (pv 3) pa_nil))))
        (pss_cons (ps_try_only rfl rfl ⟨rfl, by decide, .inl T.g_YardError⟩ (takes_of rfl rfl rfl rfl)
            (fun W pn xe tk hp => pss_one (ps_set (i := 6) nd rfl (Or.inl rfl) (by exact (pe_mE (E := WE W) (pv 0) (ok_give T) hr2 (fun σ => passAt tk σ) (pa_cons (pv 5) pa_nil)))))
            (fun a oe cls d pn hz hf => pss_one (ps_ret (pv 1))))
        (pss_one (ps_ret (pe_op op_cat (pv 1) (pe_lst (pa_cons (pe_tup (pa_cons (pv 6) (pa_cons (pe_cd (ok_fitting T) hr1 (pa_cons (pv 5) pa_nil)) pa_nil))) pa_nil)))))))
        pss_nil)
      (pss_cons (ps_set (i := 7) nd rfl (Or.inr rfl) (pe_ix ix_list (pv 1) (pe_op op_mod (pv 4) (pe_callB call_len_seq (by rfl) T.n_len PySem.boot_len (pa_cons (pv 1) pa_nil))) (fun _ _ => rfl)))
      (pss_cons (ps_setLc (i := 8) (own := [("_law_one", 10)]) (g := gName 10) (te := tVar 10) rfl nd rfl rfl (by exact sw_true (by rfl) (by rfl) (by rfl) (by decide +kernel)) (pi_list (pv 1))
          (blkOk_by (own := [("_law_one", 10)]) (N := ["_law_yard", "_law_held", "_law_cell", "_law_cells", "_law_rest", "_law_want_here", "_law_at", "_law_piece", "_law_left", "_law_size", "_law_one"]) (sc := defScope s__law_done) (by decide +kernel)) (fun _ _ _ _ _ => pg_name (i := 10) nd rfl (Or.inl rfl))
          (fun _ _ _ _ _ => pts_one (pt_cmpR (op_neP hu) (pv 10) (pv 7) (nomark _))) (fun _ _ _ _ _ => pv 10))
      (pss_cons (ps_if (pt_cmpR op_eq (pe_op op_mod (pv 2) pe_int) pe_int (nomark _))
        (pss_cons (ps_expr (pe_m (pv 0) (ok_take_back T) hr3 (pa_cons (pe_p0 (pv 7)) pa_nil)))
        (pss_one (ps_ret (pv 8)))) pss_nil)
      (pss_cons (ps_set (i := 5) nd rfl (Or.inl rfl) (pe_cd (ok_want T) hr2 (pa_cons (pe_op op_fdiv (pv 4) (pe_callB call_len_seq (by rfl) T.n_len PySem.boot_len (pa_cons (pv 1) pa_nil))) (pa_cons (pv 3) pa_nil))))
      (pss_cons (ps_try_only rfl rfl ⟨rfl, by decide, .inl T.g_YardError⟩ (takes_of rfl rfl rfl rfl)
          (fun W pn xe tk hp => pss_one (ps_set (i := 9) nd rfl (Or.inl rfl) (by exact (pe_mE (E := WE W) (pv 0) (ok_resize T) hr3 (fun σ => passAt tk σ) (pa_cons (pe_p0 (pv 7)) (pa_cons (pv 5) pa_nil))))))
          (fun a oe cls d pn hz hf => pss_one (ps_ret (pv 1))))
      (pss_one (ps_ret (pe_op op_cat (pv 8) (pe_lst (pa_cons (pe_tup (pa_cons (pe_p0 (pv 7)) (pa_cons (pv 9) pa_nil))) pa_nil))))))))))), ?_⟩
    refine ⟨fun σ H' => H' = H ∧ σ = [some (.ref p), some (.ref h), some (.int c), some (.int (Bud.pw k)), some (.int (c / 4)), none, none, none, none, none, none], ⟨_, rfl, _, _, rfl, rfl, ⟨by decide, by decide⟩, rfl, rfl⟩, ?_⟩
    rintro σ H' ⟨rfl, rfl⟩
    have hq0 : ∀ H2, Same H' H2 → doneF t D c = D → Q (.ref h) H2 := fun H2 s1 e => q H2 t h xs (Same.kp s1 p d) (y.same s1) (fun l hs => .inl (Spare.same s1 hY hs)) (s1 _ _ hl) (by rw [e]; exact hD.kept (Same.tups s1)) (by rw [e]; exact hperm)
    have hxs : xs.length ≤ 500 := by rw [hD.length]; exact hlen
    refine ifN (decide (c % 4 < 2 ∨ D = [])) (fun R q1 => ?_) (fun e H1 s1 => ?_) (fun e H1 s1 => ?_)
    · refine ⟨_, rfl, _, _, rfl, rfl, (by show (0 : Int) < 4; decide), _, _, rfl, rfl, _, rfl, ?_⟩
      refine ite2 (fun b => ?_) (fun b => ?_)
      · have b' : c % 4 < 2 := by simpa using b
        have := q1 _ (Same.refl _)
        rw [decide_eq_true (Or.inl b')] at this
        exact this
      · have b' : ¬ c % 4 < 2 := by simpa using b
        refine ⟨_, rfl, Nat.zero_le _, fun l hl0 => ⟨h, l, xs, [], D, [], rfl, rfl, SqL.of ((same_new hl0) _ _ hl), SqL.of upd_same, hD.kept (tups_upd hl0), .nil, _, rfl, ?_⟩⟩
        have := q1 _ (same_new hl0 (o := .lst []))
        have ed : decide (D = []) = decide (c % 4 < 2 ∨ D = []) := decide_eq_decide.mpr ⟨Or.inr, fun z => z.resolve_left b'⟩
        rw [← ed] at this
        exact this
    · have hb : c % 4 < 2 ∨ D = [] := of_decide_eq_true e
      have eF : doneF t D c = (if 1 ≤ wantF (c / 4) (Bud.pw k) then (match Bud.bestOf (Bud.frees t 0) (wantF (c / 4) (Bud.pw k)) with
        | some p => D ++ [(p.1, Bud.fit (wantF (c / 4) (Bud.pw k)))]
        | none => D) else D) := by unfold doneF; rw [if_pos hb]
      refine ⟨_, rfl, _, rfl, c / 4, k, rfl, fun H2 s2 => ?_⟩
      revert eF
      generalize wantF (c / 4) (Bud.pw k) = w
      intro eF
      have s12 := s1.trans s2
      have y2 := y.same s12
      obtain ⟨dx, fs, ef, nm, _⟩ := y2.at_
      refine ⟨_, rfl, p, dx, fs, rfl, ef, nm.give, _, rfl, p, d, k, t, w, rfl, y2, hlen2, fun hw => ?_, fun hw hb => ?_, fun hw a S hb H3 t3 k3 y3 sp3 perm3 => ?_⟩
      · refine ⟨true, T.e_NoWish_YardError, fun _ _ _ => ⟨_, rfl, hq0 H2 s12 ?_⟩, fun q => Bool.noConfusion q⟩
        rw [eF, if_neg (by omega)]
      · refine ⟨true, T.e_NoRoom_YardError, fun _ _ _ => ⟨_, rfl, hq0 H2 s12 ?_⟩, fun q => Bool.noConfusion q⟩
        rw [eF, if_pos hw, hb]
      · rw [if_pos hw, hb] at eF
        have eF2 : doneF t D c = D ++ [(a, Bud.fit w)] := eF
        refine ⟨_, rfl, _, rfl, _, rfl, w, rfl, (by show 2 ≤ sizeLine; decide), fun tt ht => ⟨(by show 1 ≤ sizeLine; decide), fun l hl2 => ?_⟩⟩
        have s4 : Same H3 (upd (upd H3 tt (.tup [.int a, .int (Bud.fit w)])) l (.lst [.ref tt])) := (same_new ht).trans (same_new hl2)
        have hl3 : H3 h = some (.lst xs) := y2.has.lst k3 (s12 _ _ hl)
        refine ⟨h, l, xs, _, rfl, rfl, s4 _ _ hl3, upd_same, ?_, fun r hr0 => ?_⟩
        · rw [sizeLine_eq]
          show xs.length + 1 ≤ _
          omega
        have s5 := s4.trans (same_new hr0 (o := .lst (xs ++ [.ref tt])))
        refine q _ t3 r _ (fun b o hb nbp nbd => s5 _ _ (k3 _ _ (s12 _ _ hb) nbp nbd)) (y3.same s5) (fun l' hs => .inr (Same.none s12 (sp3 _ (Spare.same s5 y3.has hs)))) upd_same ?_ ?_
        · rw [eF2]
          refine Prs.append ((y.has.prs (fun b o hb nbp nbd => s5 _ _ (k3 _ _ (s12 _ _ hb) nbp nbd)) hD)) (.cons ⟨tt, rfl, ?_⟩ .nil)
          exact (same_new hr0) _ _ ((same_new hl2) _ _ upd_same)
        · rw [eF2]
          refine (List.perm_append_comm (l₁ := D) (l₂ := [(a, Bud.fit w)])).trans ?_
          exact (hperm.cons _).trans perm3.symm
    · have hb : ¬ (c % 4 < 2 ∨ D = []) := of_decide_eq_false e
      have eF := show doneF t D c = _ by unfold doneF; exact if_neg hb
      have hne : D ≠ [] := fun z => hb (.inr z)
      have hpos : 0 < D.length := List.length_pos_iff.mpr hne
      have hj : (c / 4 % D.length).toNat < D.length := by
        have h1 := Int.emod_nonneg (c / 4) (b := (D.length : Int)) (by omega)
        have h2 := Int.emod_lt_of_pos (c / 4) (b := (D.length : Int)) (by omega)
        omega
      obtain ⟨j, ej⟩ : ∃ j : Nat, c / 4 % D.length = (j : Int) := ⟨(c / 4 % D.length).toNat, by
        have h1 := Int.emod_nonneg (c / 4) (b := (D.length : Int)) (by omega)
        omega⟩
      rw [ej] at hj eF
      have hj : j < D.length := hj
      have ep : D.getD ((j : Int)).toNat (0, 0) = D[j] := by
        show D.getD j (0, 0) = _
        rw [List.getD_eq_getElem?_getD, List.getElem?_eq_getElem hj]
        rfl
      rw [ep] at eF
      obtain ⟨x, hx, hpr⟩ := hD.get' (i := j) (List.getElem?_eq_getElem hj)
      have hmem : D[j] ∈ D := List.getElem_mem _
      have homem : D[j] ∈ Bud.outs t 0 := hperm.mem_iff.mp hmem
      generalize D[j] = g at *
      obtain ⟨ga, gs⟩ := g
      have ndD : D.Nodup := hperm.nodup_iff.mpr (Bud.nodup_outs t (Bud.zdvd k))
      have hl1 := s1 _ _ hl
      have hD1 := hD.kept (Same.tups s1)
      have hpr1 := hpr.kept (Same.tups s1)
      refine ⟨_, rfl, _, rfl, _, rfl, h, _, rfl, .inl (SqL.of hl1), _, _, rfl, rfl, (by show (0 : Int) < (xs.length : Int); rw [hD.length]; omega), h, xs, _, x, rfl, rfl, SqL.of hl1, ?_, ?_⟩
      · show atI xs (c / 4 % (xs.length : Int)) = _
        rw [hD.length, ej]
        exact atI_nat hx
      refine ⟨_, rfl, h, rfl, ⟨_, SqL.of hl1⟩, fun B hB => ?_⟩
      refine lc_list (K := K) (a := h) (xs := xs) (fun i H' => ∃ ys, H' = upd H1 B (.lst ys) ∧ Prs H1 ys (Bud.without (D.take i) (ga, gs))) ⟨[], rfl, .nil⟩ (fun i H' _ ⟨ys, e, _⟩ => by rw [e]; exact (same_new hB).seq (SqL.of hl1)) ?_ ?_
      · rintro i z H' hi ⟨ys, rfl, hys⟩
        obtain ⟨g', hg', hz⟩ := hD1.get hi
        have kt : TupKept H1 (upd H1 B (.lst ys)) := tups_upd hB
        refine ⟨rfl, _, rfl, _, rfl, g', _, hz.kept kt, hpr1.kept kt, _, rfl, ?_⟩
        have hw := without_take (p := ((ga, gs) : Bud.Pc)) hg'
        refine ite2 (fun c => ?_) (fun c => ?_)
        · have c' : ¬ g' = (ga, gs) := by simpa using c
          rw [if_neg c'] at hw
          have hlt : ys.length < sizeLine := by
            have h1 := hys.length
            have h2 : (Bud.without (D.take i) (ga, gs)).length ≤ D.length := Nat.le_trans (List.length_filter_le _ _) (by rw [List.length_take]; omega)
            rw [sizeLine_eq]
            omega
          refine ⟨_, rfl, ys, upd_same, hlt, ys ++ [z], by rw [upd_upd], ?_⟩
          rw [hw]
          exact hys.append (.cons hz .nil)
        · have c' : g' = (ga, gs) := by simpa using c
          rw [if_pos c', List.append_nil] at hw
          exact ⟨ys, rfl, by rw [hw]; exact hys⟩
      rintro H2 ⟨ys, rfl, hys⟩
      rw [hD.length, List.take_length] at hys
      have s2 : Same H1 (upd H1 B (.lst ys)) := same_new hB
      replace hys := hys.kept (Same.tups s2)
      generalize hH2 : upd H1 B (.lst ys) = H2 at *
      have hB2 : H2 B = some (.lst ys) := by rw [← hH2]; exact upd_same
      have s12 := s1.trans s2
      have y2 := y.same s12
      have hY2 := y2.has
      obtain ⟨dx, fs, ef, nm, _⟩ := y2.at_
      have hpr2 := hpr1.kept (Same.tups s2)
      have hDw := without_perm ndD hmem
      refine ⟨_, rfl, _, _, rfl, rfl, (by show (0 : Int) < 4; decide), rfl, _, rfl, ?_⟩
      refine ite2 (fun b => ?_) (fun b => ?_)
      · have b' : c % 4 = 2 := by simpa using b
        rw [if_pos b'] at eF
        refine ⟨_, rfl, p, dx, fs, rfl, ef, nm.take, _, rfl, (ga, gs), hpr2, p, d, k, t, ga, rfl, y2, hlen2, fun z => absurd rfl (z _ homem), fun s' hs H3 t3 k3 y3 sp3 perm3 => ?_⟩
        have es : s' = gs := Bud.key_uniq hs homem
        subst es
        refine ⟨_, rfl, q H3 t3 B ys (fun b o hb nbp nbd => k3 _ _ (s12 _ _ hb) nbp nbd) y3 (fun l hs => .inr (Same.none s12 (sp3 _ hs))) (hY2.lst k3 hB2) ?_ ?_⟩
        · rw [eF]
          exact hY2.prs k3 hys
        · rw [eF]
          exact List.Perm.cons_inv (hDw.symm.trans (hperm.trans perm3))
      have b' : ¬ c % 4 = 2 := by simpa using b
      rw [if_neg b'] at eF
      refine ⟨_, rfl, _, rfl, h, _, rfl, .inl (SqL.of (s12 _ _ hl)), _, _, rfl, rfl, (by show 0 < (xs.length : Int) ∧ (xs.length : Int) < 1073741824; rw [hD.length]; omega), _, rfl, _, k, rfl, fun H3 s3 => ?_⟩
      rw [hD.length]
      revert eF
      generalize wantF (c / 4 / (D.length : Int)) (Bud.pw k) = w
      intro eF
      have s13 := s12.trans s3
      have y3 := y.same s13
      have hY3 := y3.has
      obtain ⟨dx, fs, ef, nm, _⟩ := y3.at_
      have hpr3 := hpr2.kept (Same.tups s3)
      refine ⟨_, rfl, p, dx, fs, rfl, ef, nm.resize, _, rfl, (ga, gs), hpr3, _, rfl, p, d, k, t, ga, w, rfl, y3, hlen2, fun z => absurd rfl (z _ homem), fun s' hs => ?_⟩
      have es : s' = gs := Bud.key_uniq hs homem
      subst es
      refine ⟨fun hw => ?_, fun hw hnf H4 s4 => ?_, fun hw hf H4 t4 k4 y4 sp4 perm4 => ?_⟩
      · refine ⟨true, T.e_NoWish_YardError, fun _ _ _ => ⟨_, rfl, hq0 H3 s13 ?_⟩, fun q => Bool.noConfusion q⟩
        rw [eF, if_neg (fun z => absurd z.1 (by omega))]
      · refine ⟨true, T.e_NoRoom_YardError, fun _ _ _ => ⟨_, rfl, hq0 H4 (s13.trans s4) ?_⟩, fun q => Bool.noConfusion q⟩
        rw [eF, if_neg (fun z => hnf z.2)]
      · rw [if_pos ⟨hw, hf⟩] at eF
        have hpr4 := hpr3.kept (hY3.tups k4)
        have hB4 : H4 B = some (.lst ys) := hY3.lst k4 (s3 _ _ hB2)
        refine ⟨_, rfl, _, rfl, (ga, s'), hpr4, _, rfl, (by show 2 ≤ sizeLine; decide), fun tt ht => ⟨(by show 1 ≤ sizeLine; decide), fun l hl2 => ?_⟩⟩
        have s5 : Same H4 (upd (upd H4 tt (.tup [.int ga, .int (Bud.fit w)])) l (.lst [.ref tt])) := (same_new ht).trans (same_new hl2)
        have hyl : ys.length ≤ 500 := by
          have h1 := hys.length
          have h2 : (Bud.without D (ga, s')).length ≤ D.length := List.length_filter_le _ _
          omega
        refine ⟨B, l, ys, _, rfl, rfl, s5 _ _ hB4, upd_same, ?_, fun r hr0 => ?_⟩
        · rw [sizeLine_eq]
          show ys.length + 1 ≤ _
          omega
        have s6 := s5.trans (same_new hr0 (o := .lst (ys ++ [.ref tt])))
        refine q _ t4 r _ (fun b o hb nbp nbd => s6 _ _ (k4 _ _ (s13 _ _ hb) nbp nbd)) (y4.same s6) (fun l' hs => .inr (Same.none s13 (sp4 _ (Spare.same s6 y4.has hs)))) upd_same ?_ ?_
        · rw [eF]
          refine Prs.append ((hY3.prs k4 (hys.kept (Same.tups s3))).kept (Same.tups s6)) (.cons ⟨tt, rfl, ?_⟩ .nil)
          exact (same_new hr0) _ _ ((same_new hl2) _ _ upd_same)
        · rw [eF]
          refine (List.perm_append_comm (l₁ := Bud.without D (ga, s')) (l₂ := [(ga, Bud.fit w)])).trans ?_
          refine (List.Perm.cons _ ?_).trans perm4.symm
          have e1 : (Bud.outs t 0).Perm ((ga, s') :: (Bud.outs t 0).erase (ga, s')) := List.perm_cons_erase homem
          exact List.Perm.cons_inv (hDw.symm.trans (hperm.trans e1))
/-! #### _law_beside -/
/-- the free places of one size, by what stands beside -/
def spBeside (K : PySem.W.Frag) : Sp := fun vs H Q _ => ∃ (l : Addr) (xs : List V) (D : List Bud.Pc) (j k : Nat) (t : Bud.T k), vs = [.ref l, .int (Bud.pw j), .int (Bud.pw k)] ∧ j < k ∧ k ≤ 60 ∧ Bud.Can t ∧ H l = some (.lst xs) ∧ Prs H xs D ∧ D.Perm (Bud.outs t 0) ∧ D.length ≤ 1000 ∧
  ∀ (H' : Hp) (q : Addr) (F : List Int), Same H H' → H' q = some (.lst (F.map V.int)) → F.length ≤ 1000 → (∀ a, a ∈ F ↔ (a, Bud.pw j) ∈ Bud.frees t 0) → Q (.ref q) H'
theorem filt_take {α : Type} {L : List α} {i : Nat} {g : α} (f : α → Bool) (h : L[i]? = some g) : (L.take (i + 1)).filter f = (L.take i).filter f ++ (if f g = true then [g] else []) := by
  rw [List.take_add_one, h, List.filter_append]
  congr 1
  show List.filter f [g] = _
  by_cases e : f g = true
  · rw [if_pos e, List.filter_cons_of_pos e]
    rfl
  · rw [if_neg e, List.filter_cons_of_neg e]
    rfl
theorem ok_beside (T : Txt K mg) : DefOk P w K mg base 1 "_law_beside" ["_law_held", "_law_size", "_law_cells"] (spBeside K) := by
  refine mkDef T.F__law_beside T.g__law_beside bd__law_beside sc__law_beside (fun vs H Q E h => ?_) (fun cdv A outer s H vs Q E hr h => ?_)
  · obtain ⟨l, xs, D, j, k, t, rfl, _⟩ := h
    rfl
  · obtain ⟨l, xs, D, j, k, t, rfl, hj, hk, hc, hl, hD, hperm, hlen, kQ⟩ := h
    have nd := sc__law_beside.nd
    have hp := Bud.pw_pos j
    have h60 := Bud.pw_le (show j ≤ 60 by omega)
    have e60 := pw60
    have hs : (Bud.pw j).natAbs < 2 ^ 62 := by omega
    have hpk := Bud.pw_pos k
    refine ⟨_, (pss_cons (ps_set (i := 3) nd rfl (Or.inr rfl) (pe_lc (own := [("_law_piece", 5)]) (g := gName 5) (tt := tTest (tOp (rI0 fun i j => V.bl (decide (i ≤ j))) (tSel1 (tVar 5)) (tVar 1))) (te := tOp (rI CDivW fun i j => V.int (i / j)) (tSel0 (tVar 5)) (tVar 1)) (by rfl) nd (pi_list (pv 0))
          (blkOk_by (own := [("_law_piece", 5)]) (N := ["_law_held", "_law_size", "_law_cells", "_law_blocks", "_law_twins", "_law_piece", "_law_block", "_law_twin"]) (sc := defScope s__law_beside) (by decide +kernel)) (fun _ _ _ _ _ => pg_name (i := 5) nd rfl (Or.inl rfl))
          (fun _ _ _ _ _ => pts_one (pt_cmpR op_le (pe_p1 (pv 5)) (pv 1) (nomark _))) (fun _ _ _ _ _ => pe_op op_fdivW (pe_p0 (pv 5)) (pv 1))))
      (pss_cons (ps_setLc (i := 4) (own := [("_law_block", 6)]) (g := gName 6) (tt := tYes) (te := tOp (rI0 fun i j => V.int (i - j)) (tOp (rI0 fun i j => V.int (i + j)) (tVar 6) (tC (.int 1))) (tOp (rI CMul fun i j => V.int (i * j)) (tC (.int 2)) (tOp (rI (fun _ j => 0 < j) fun i j => V.int (i % j)) (tVar 6) (tC (.int 2))))) rfl nd rfl rfl (by exact sw_true (by rfl) (by rfl) (by rfl) (by decide +kernel)) (pi_list (pv 3))
          (blkOk_by (own := [("_law_block", 6)]) (N := ["_law_held", "_law_size", "_law_cells", "_law_blocks", "_law_twins", "_law_piece", "_law_block", "_law_twin"]) (sc := defScope s__law_beside) (by decide +kernel)) (fun _ _ _ _ _ => pg_name (i := 6) nd rfl (Or.inl rfl))
          (fun _ _ _ _ _ => pts_nil) (fun _ _ _ _ _ => pe_op op_sub (pe_op op_add (pv 6) pe_int) (pe_op op_mul pe_int (pe_op op_mod (pv 6) pe_int))))
      (pss_one (ps_ret (pe_lc (own := [("_law_twin", 7)]) (g := gName 7) (tt := tAnd (tTest (tOp (rIn K true) (tVar 7) (tVar 3))) (tTest (tOp (rI0 fun i j => V.bl (decide (i < j))) (tOp (rI CMul fun i j => V.int (i * j)) (tVar 7) (tVar 1)) (tVar 2)))) (te := tOp (rI CMul fun i j => V.int (i * j)) (tVar 7) (tVar 1)) (by rfl) nd (pi_list (pv 4))
          (blkOk_by (own := [("_law_twin", 7)]) (N := ["_law_held", "_law_size", "_law_cells", "_law_blocks", "_law_twins", "_law_piece", "_law_block", "_law_twin"]) (sc := defScope s__law_beside) (by decide +kernel)) (fun _ _ _ _ _ => pg_name (i := 7) nd rfl (Or.inl rfl))
          (fun _ _ _ _ _ => pts_one (PW.pt (pw_and (pt_cmpR op_notIn_seq (pv 7) (pv 3) (by rfl)) (pw_and1 (pt_cmpR op_lt (pe_op op_mul (pv 7) (pv 1)) (pv 2) (nomark _)))))) (fun _ _ _ _ _ => pe_op op_mul (pv 7) (pv 1))))))), ?_⟩
    refine ⟨_, rfl, l, rfl, ⟨_, SqL.of hl⟩, fun C hC => ?_⟩
    refine lc_list (K := K) (a := l) (xs := xs) (fun i H' => H' = upd H C (.lst ((((D.take i).filter fun p => decide (p.2 ≤ Bud.pw j)).map fun p => p.1 / Bud.pw j).map V.int))) rfl (fun i H' _ e => by rw [e]; exact (same_new hC).seq (SqL.of hl)) ?_ ?_
    · rintro i z H' hi rfl
      obtain ⟨g, hg, hz⟩ := hD.get hi
      have hz1 := hz.kept (tups_upd hC (o := .lst ((((D.take i).filter fun p => decide (p.2 ≤ Bud.pw j)).map fun p => p.1 / Bud.pw j).map V.int)))
      have hft := filt_take (fun p => decide (p.2 ≤ Bud.pw j)) hg
      refine ⟨rfl, _, rfl, g, hz1, _, rfl, _, _, rfl, rfl, _, rfl, ?_⟩
      refine ite2 (fun c => ?_) (fun c => ?_)
      · rw [if_pos c] at hft
        refine ⟨_, rfl, g, hz1, _, rfl, _, _, rfl, rfl, wide_div hp hs (by decide) (by decide), _, upd_same, ?_, ?_⟩
        · have h2 : ((D.take i).filter fun p => decide (p.2 ≤ Bud.pw j)).length ≤ D.length := Nat.le_trans (List.length_filter_le _ _) (by rw [List.length_take]; omega)
          rw [List.length_map, List.length_map, sizeLine_eq]
          omega
        · rw [upd_upd, hft, List.map_append, List.map_append]
          rfl
      · rw [if_neg c, List.append_nil] at hft
        rw [hft]
    rintro H1 rfl
    rw [hD.length, List.take_length]
    generalize hB : (D.filter fun p => decide (p.2 ≤ Bud.pw j)).map (fun p => p.1 / Bud.pw j) = B
    have lB : B.length ≤ 1000 := by
      rw [← hB, List.length_map]
      exact Nat.le_trans (List.length_filter_le _ _) hlen
    have s1 : Same H (upd H C (.lst (B.map V.int))) := same_new hC
    have eC : (upd H C (.lst (B.map V.int))) C = some (.lst (B.map V.int)) := upd_same
    generalize upd H C (.lst (B.map V.int)) = H1 at *
    -- the twins
    refine ⟨_, rfl, C, rfl, ⟨_, SqL.of eC⟩, fun C2 hC2 => ?_⟩
    refine lc_list (K := K) (a := C) (xs := B.map V.int) (fun i H' => H' = upd H1 C2 (.lst (((B.take i).map Bud.nb).map V.int))) rfl (fun i H' _ e => by rw [e]; exact (same_new hC2).seq (SqL.of eC)) ?_ ?_
    · rintro i z H' hi rfl
      rw [List.getElem?_map] at hi
      obtain ⟨b, hb, rfl⟩ : ∃ b, B[i]? = some b ∧ z = V.int b := by
        cases e : B[i]? with
        | none => rw [e] at hi; cases hi
        | some b => rw [e] at hi; exact ⟨b, rfl, (Option.some.inj hi).symm⟩
      refine ⟨rfl, ?_⟩
      refine ⟨_, rfl, _, _, rfl, rfl, _, rfl, _, _, rfl, rfl, (by show (0 : Int) < 2; decide), _, _, rfl, rfl, .inl ⟨by decide, by decide⟩, _, _, rfl, rfl, _, upd_same, ?_, ?_⟩
      · rw [List.length_map, List.length_map, List.length_take, sizeLine_eq]
        omega
      · rw [upd_upd, List.take_add_one, hb, List.map_append, List.map_append]
        rfl
    rintro H2 rfl
    rw [List.length_map, List.take_length]
    generalize hW : B.map Bud.nb = W
    have lW : W.length ≤ 1000 := by rw [← hW, List.length_map]; exact lB
    have s2 : Same H1 (upd H1 C2 (.lst (W.map V.int))) := same_new hC2
    have eC2 : (upd H1 C2 (.lst (W.map V.int))) C2 = some (.lst (W.map V.int)) := upd_same
    generalize upd H1 C2 (.lst (W.map V.int)) = H2 at *
    -- the free ones
    refine ⟨_, rfl, C2, rfl, ⟨_, SqL.of eC2⟩, fun C3 hC3 => ?_⟩
    refine lc_list (K := K) (a := C2) (xs := W.map V.int) (fun i H' => H' = upd H2 C3 (.lst ((((W.take i).filter fun x => decide (x ∉ B ∧ x * Bud.pw j < Bud.pw k)).map fun x => x * Bud.pw j).map V.int))) rfl (fun i H' _ e => by rw [e]; exact (same_new hC3).seq (SqL.of eC2)) ?_ ?_
    · rintro i z H' hi rfl
      rw [List.getElem?_map] at hi
      obtain ⟨x, hx, rfl⟩ : ∃ b, W[i]? = some b ∧ z = V.int b := by
        cases e : W[i]? with
        | none => rw [e] at hi; cases hi
        | some b => rw [e] at hi; exact ⟨b, rfl, (Option.some.inj hi).symm⟩
      have hft := filt_take (fun x => decide (x ∉ B ∧ x * Bud.pw j < Bud.pw k)) hx
      have hmul : CMul x (Bud.pw j) := .inr ⟨by omega, by omega⟩
      have eC' : (upd H2 C3 (.lst ((((W.take i).filter fun x => decide (x ∉ B ∧ x * Bud.pw j < Bud.pw k)).map fun x => x * Bud.pw j).map V.int))) C = some (.lst (B.map V.int)) := (same_new hC3) _ _ (s2 _ _ eC)
      refine ⟨rfl, _, rfl, _, rfl, C, _, rfl, .inl (SqL.of eC'), rfl, flat_ints _, _, rfl, ?_⟩
      rw [inV_ints]
      by_cases c1 : x ∈ B
      · rw [decide_eq_true c1]
        refine iteF ?_
        rw [if_neg (fun z => (of_decide_eq_true z).1 c1), List.append_nil] at hft
        refine iteF ?_
        rw [hft]
      · rw [decide_eq_false c1]
        refine iteT ?_
        refine ⟨_, rfl, _, rfl, _, _, rfl, rfl, hmul, _, rfl, _, _, rfl, rfl, _, rfl, ?_⟩
        refine ite2 (fun c2 => ?_) (fun c2 => ?_)
        · have c2' : x * Bud.pw j < Bud.pw k := of_decide_eq_true c2
          rw [if_pos (decide_eq_true ⟨c1, c2'⟩)] at hft
          refine ⟨_, rfl, _, rfl, _, _, rfl, rfl, hmul, _, upd_same, ?_, ?_⟩
          · have h2 : ((W.take i).filter fun x => decide (x ∉ B ∧ x * Bud.pw j < Bud.pw k)).length ≤ W.length := Nat.le_trans (List.length_filter_le _ _) (by rw [List.length_take]; omega)
            rw [List.length_map, List.length_map, sizeLine_eq]
            omega
          · rw [upd_upd, hft, List.map_append, List.map_append]
            rfl
        · have c2' : ¬ x * Bud.pw j < Bud.pw k := fun z => c2 (decide_eq_true z)
          rw [if_neg (fun z => c2' (of_decide_eq_true z).2), List.append_nil] at hft
          rw [hft]
    rintro H3 rfl
    rw [List.length_map, List.take_length]
    have s3 := (s1.trans s2).trans (same_new hC3 (o := .lst (((W.filter fun x => decide (x ∉ B ∧ x * Bud.pw j < Bud.pw k)).map fun x => x * Bud.pw j).map V.int)))
    refine kQ _ C3 _ s3 upd_same ?_ fun a => ?_
    · rw [List.length_map]
      exact Nat.le_trans (List.length_filter_le _ _) lW
    rw [Bud.beside t hc (Bud.zdvd k) hj, List.mem_map]
    have mB : ∀ x, x ∈ B ↔ ∃ p ∈ D, p.2 ≤ Bud.pw j ∧ p.1 / Bud.pw j = x := fun x => by
      rw [← hB, List.mem_map]
      constructor
      · rintro ⟨p, hp, rfl⟩
        obtain ⟨h1, h2⟩ := List.mem_filter.mp hp
        exact ⟨p, h1, of_decide_eq_true h2, rfl⟩
      · rintro ⟨p, h1, h2, rfl⟩
        exact ⟨p, List.mem_filter.mpr ⟨h1, decide_eq_true h2⟩, rfl⟩
    constructor
    · rintro ⟨x, hx, rfl⟩
      obtain ⟨h1, h2⟩ := List.mem_filter.mp hx
      obtain ⟨n1, _⟩ := of_decide_eq_true h2
      rw [← hW] at h1
      obtain ⟨b, hb, rfl⟩ := List.mem_map.mp h1
      obtain ⟨p, hp1, hp2, rfl⟩ := (mB b).mp hb
      exact ⟨p, hperm.mem_iff.mp hp1, hp2, rfl, fun q hq hs e => n1 ((mB _).mpr ⟨q, hperm.mem_iff.mpr hq, hs, e⟩)⟩
    · rintro ⟨p, hp1, hp2, rfl, hn⟩
      refine ⟨Bud.nb (p.1 / Bud.pw j), List.mem_filter.mpr ⟨?_, decide_eq_true ⟨fun z => ?_, (Bud.nb_in hj hp1).2⟩⟩, rfl⟩
      · rw [← hW]
        exact List.mem_map.mpr ⟨_, (mB _).mpr ⟨p, hperm.mem_iff.mpr hp1, hp2, rfl⟩, rfl⟩
      · obtain ⟨q, hq, hs, e⟩ := (mB _).mp z
        exact hn q (hperm.mem_iff.mp hq) hs e
/-! #### _law_due -/
/-- where the next piece is due -/
def dueF {k : Nat} (t : Bud.T k) (w : Int) : Option Int := (Bud.bestOf (Bud.frees t 0) w).map (·.1)
def optV : Option Int → V
  | none => .non
  | some i => .int i
def spDue (K : PySem.W.Frag) : Sp := fun vs H Q _ => ∃ (l : Addr) (xs : List V) (D : List Bud.Pc) (w : Int) (k : Nat) (t : Bud.T k), vs = [.ref l, .int w, .int (Bud.pw k)] ∧ k ≤ 60 ∧ Bud.Can t ∧ H l = some (.lst xs) ∧ Prs H xs D ∧ D.Perm (Bud.outs t 0) ∧ D.length ≤ 1000 ∧ 1 ≤ w ∧
  ∀ H', Same H H' → Q (optV (dueF t w)) H'
theorem ok_due (T : Txt K mg) : DefOk P w K mg base 2 "_law_due" ["_law_held", "_law_want_here", "_law_cells"] (spDue K) := by
  refine mkDef T.F__law_due T.g__law_due bd__law_due sc__law_due (fun vs H Q E h => ?_) (fun cdv A outer s H vs Q E hr h => ?_)
  · obtain ⟨l, xs, D, w, k, t, rfl, _⟩ := h
    rfl
  · obtain ⟨l, xs, D, w, k, t, rfl, hk, hc, hl, hD, hperm, hlen, hw, kQ⟩ := h
    have nd := sc__law_due.nd
    have hr1 : Room 1 _ := hr
    have hu := hr.units
    refine ⟨_, (pss_cons (ps_if (PW.pt (pw_and (pt_cmpR (op_eqPs hu) (pv 0) (pe_lst pa_nil) (nomark _)) (pw_and1 (pt_cmpR op_le (pv 1) (pv 2) (nomark _))))) (pss_one (ps_ret pe_int)) pss_nil)
      (pss_cons (ps_set (i := 3) nd rfl (Or.inl rfl) (pe_cd (ok_fitting T) hr1 (pa_cons (pv 1) pa_nil)))
      (pss_cons (ps_while (passes_of rfl) (pt_cmpR op_lt (pv 3) (pv 2) (nomark _))
        (pss_cons (ps_set (i := 4) nd rfl (Or.inl rfl) (pe_cd (ok_beside T) hr1 (pa_cons (pv 0) (pa_cons (pv 3) (pa_cons (pv 2) pa_nil)))))
        (pss_cons (ps_if (pt_cmpR (op_neIs hu) (pv 4) (pe_lst pa_nil) (nomark _)) (pss_one (ps_ret (pe_callB (cr_min rfl) (by rfl) T.n_min (by decide +kernel) (pa_cons (pv 4) pa_nil)))) pss_nil)
        (pss_one (ps_set (i := 3) nd rfl (Or.inl rfl) (pe_op op_mul (pv 3) pe_int))))))
      (pss_one (ps_ret pe_non))))), ?_⟩
    -- behind the first test
    have main : ∀ H1, Same H H1 → (Bud.outs t 0 ≠ [] ∨ Bud.pw k < w) → tWhile (tTest (tOp (rI0 fun i j => V.bl (decide (i < j))) (tVar 3) (tVar 2))) (tSeq (tAsg (tCall (spBeside K) [] E0 (tCons (tVar 0) (tCons (tVar 3) (tCons (tVar 2) tNil)))) (gName 4)) (tSeq (tIfS (tTest (tOp (rCmpIs K true) (tVar 4) (tLst tNil))) (tRet (tCB (rMin K) (tCons (tVar 4) tNil))) tNext) (tAsg (tOp (rI CMul fun i j => V.int (i * j)) (tVar 3) (tC (.int 2))) (gName 3))))
        { nx := tRet (tC .non) { nx := fun _ H' => Q .non H', rt := Q }, rt := Q } [some (.ref l), some (.int w), some (.int (Bud.pw k)), some (.int (Bud.fit w)), none] H1 := fun H1 s1 hne => by
      refine while_n (k - Bud.fe w) (fun i σ H' => Same H1 H' ∧ Bud.fe w + i ≤ max k (Bud.fe w) ∧ (∃ v, σ = [some (.ref l), some (.int w), some (.int (Bud.pw k)), some (.int (Bud.pw (Bud.fe w + i))), v]) ∧ ∀ j, Bud.fe w ≤ j → j < Bud.fe w + i → ∀ a, (a, Bud.pw j) ∉ Bud.frees t 0)
        ⟨Same.refl _, by omega, ⟨none, rfl⟩, fun j h1 h2 => absurd h2 (by omega)⟩ ?_
      rintro i σ H2 hi ⟨s2, hle, ⟨v, rfl⟩, hno⟩
      refine ⟨_, rfl, _, rfl, _, _, rfl, rfl, _, rfl, ?_⟩
      refine ite2 (fun c => ?_) (fun c => ?_)
      · have hlt : Bud.fe w + i < k := Bud.pw_lt_iff.mp (of_decide_eq_true c)
        refine ⟨_, wh_step (by omega), ?_⟩
        have s12 := s1.trans s2
        refine ⟨_, rfl, _, rfl, _, rfl, l, xs, D, Bud.fe w + i, k, t, rfl, hlt, hk, hc, s12 _ _ hl, hD.kept (Same.tups s12), hperm, hlen, fun H3 q F s3 e3 lF mF => ?_⟩
        have s4 : ∀ b, H3 b = none → Same H3 (upd H3 b (.lst [])) := fun b hb => same_new hb
        by_cases hF : F = []
        · refine ⟨_, rfl, Nat.zero_le _, fun b hb => ⟨q, b, F, [], rfl, rfl, SqL.of ((s4 b hb) _ _ e3), SqL.of upd_same, false, neIF hF, iteF ?_⟩⟩
          refine ⟨_, rfl, _, _, rfl, rfl, .inr ⟨by decide, by decide⟩, (s2.trans s3).trans (s4 b hb), by omega, ⟨some (.ref q), ?_⟩, fun j h1 h2 a ha => ?_⟩
          · rw [show Bud.fe w + (i + 1) = Bud.fe w + i + 1 by omega, Bud.pw_succ, Int.mul_comm 2]
            rfl
          · rcases Nat.lt_or_ge j (Bud.fe w + i) with z | z
            · exact hno j h1 z a ha
            · have : j = Bud.fe w + i := by omega
              subst this
              have := (mF a).mpr ha
              rw [hF] at this
              cases this
        · refine ⟨_, rfl, Nat.zero_le _, fun b hb => ⟨q, b, F, [], rfl, rfl, SqL.of ((s4 b hb) _ _ e3), SqL.of upd_same, true, neIT hF, iteT ?_⟩⟩
          refine ⟨_, rfl, q, F, rfl, SqL.of ((s4 b hb) _ _ e3), List.length_pos_iff.mpr hF, fun m hm hmin => ?_⟩
          have hb := Bud.best_of_first (t := t) (w := w) (j := Bud.fe w + i) (by omega) ((mF m).mp hm) (fun c hc => hmin c ((mF c).mpr hc)) hno
          have := kQ _ ((s12.trans s3).trans (s4 b ‹_›))
          unfold dueF at this
          rw [hb] at this
          exact this
      · have hge : k ≤ Bud.fe w + i := by
          have : ¬ Bud.pw (Bud.fe w + i) < Bud.pw k := fun z => c (decide_eq_true z)
          rcases Nat.lt_or_ge (Bud.fe w + i) k with z | z
          · exact absurd (Bud.pw_lt z) this
          · exact z
        have hb := Bud.best_none_of hne fun j h1 h2 => hno j h1 (by omega)
        have := kQ _ (s1.trans s2)
        unfold dueF at this
        rw [hb] at this
        exact this
    by_cases hne : D = []
    · refine ⟨_, rfl, Nat.zero_le _, fun b hb => ⟨l, b, xs, [], D, [], rfl, rfl, SqL.of ((same_new hb) _ _ hl), SqL.of upd_same, hD.kept (tups_upd hb), .nil, true, eqT hne, iteT ?_⟩⟩
      have s1 : Same H (upd H b (.lst [])) := same_new hb
      refine ⟨_, rfl, _, rfl, _, _, rfl, rfl, _, rfl, ?_⟩
      have et : t = .free := Bud.free_of_nil hc (by rw [hne] at hperm; exact (List.Perm.nil_eq hperm).symm)
      refine ite2 (fun c => ?_) (fun c => ?_)
      · have c' : w ≤ Bud.pw k := of_decide_eq_true c
        have := kQ _ s1
        have hb : Bud.bestOf (Bud.frees t 0) w = some (0, Bud.pw k) := by
          subst et
          refine Bud.best_uniq (Bud.srt_frees _ (Bud.zdvd k)) (List.mem_singleton.mpr rfl) c' (fun p hp _ => ?_) fun p hp _ => ?_
          · rw [List.mem_singleton.mp hp]
            exact Int.le_refl _
          · rw [List.mem_singleton.mp hp]
            exact Int.le_refl _
        unfold dueF at this
        rw [hb] at this
        exact this
      · have c' : ¬ w ≤ Bud.pw k := fun z => c (decide_eq_true z)
        exact ⟨_, rfl, w, rfl, main _ s1 (.inr (by omega))⟩
    · refine ⟨_, rfl, Nat.zero_le _, fun b hb => ⟨l, b, xs, [], D, [], rfl, rfl, SqL.of ((same_new hb) _ _ hl), SqL.of upd_same, hD.kept (tups_upd hb), .nil, false, eqF hne, iteF ?_⟩⟩
      refine iteF ?_
      refine ⟨_, rfl, w, rfl, main _ (same_new hb) (.inl fun z => hne (by rw [z] at hperm; exact List.perm_nil.mp hperm))⟩
/-! #### _law_order -/
/-- the order of the wishes -/
def spOrder (K : PySem.W.Frag) : Sp := fun vs H Q _ => ∃ (l : Addr) (ws : List Int), vs = [.ref l] ∧ SqL K H l (ws.map V.int) ∧ ws.length ≤ 1000 ∧
  ∀ (H' : Hp) (q : Addr) (M : List Bud.Pc), Same H H' → H q = none → M.Perm (Bud.ordP ws) → Bud.Srt M → H' q = some (.lst (M.map fun p => V.int p.2)) → Q (.ref q) H'
theorem ok_order (T : Txt K mg) : DefOk P w K mg base 2 "_law_order" ["_law_wants"] (spOrder K) := by
  refine mkDef T.F__law_order T.g__law_order bd__law_order sc__law_order (fun vs H Q E h => ?_) (fun cdv A outer s H vs Q E hr h => ?_)
  · obtain ⟨l, ws, rfl, _⟩ := h
    rfl
  · obtain ⟨l, ws, rfl, hl, hlen, kQ⟩ := h
    have nd := sc__law_order.nd
    have hr1 : Room 1 _ := hr
    refine ⟨_, (pss_cons (ps_set (i := 1) nd rfl (Or.inl rfl) (pe_callB cr_sortPs (by rfl) T.n_sorted (by decide +kernel) (pa_cons (pe_lc (own := [("_law_k", 2)]) (g := gName 2) (tt := tYes)
          (te := tTup (tCons (tOp (rI0 fun i j => V.int (i - j)) (tC (.int 0)) (tCall spFitting [] E0 (tCons (tOp (rIxL K) (tVar 0) (tVar 2)) tNil))) (tCons (tVar 2) tNil))) (by rfl) nd (pi_range1 rfl T.n_range (pa_cons (pe_callB call_len_seq (by rfl) T.n_len PySem.boot_len (pa_cons (pv 0) pa_nil)) pa_nil))
          (blkOk_by (own := [("_law_k", 2)]) (N := ["_law_wants", "_law_order_here", "_law_k", "_law_pair"]) (sc := defScope s__law_order) (by decide +kernel)) (fun _ _ _ _ _ => pg_name (i := 2) nd rfl (Or.inl rfl))
          (fun _ _ _ _ _ => pts_nil) (fun _ _ _ _ _ => pe_tup (pa_cons (pe_op op_sub pe_int (pe_cd (ok_fitting T) (by exact hr1) (pa_cons (pe_ix ix_list (pv 0) (pv 2) (fun _ _ => rfl)) pa_nil))) (pa_cons (pv 2) pa_nil)))) pa_nil)))
      (pss_one (ps_ret (pe_lc (own := [("_law_pair", 3)]) (g := gName 3) (tt := tYes) (te := tSel1 (tVar 3)) (by rfl) nd (pi_list (pv 1))
          (blkOk_by (own := [("_law_pair", 3)]) (N := ["_law_wants", "_law_order_here", "_law_k", "_law_pair"]) (sc := defScope s__law_order) (by decide +kernel)) (fun _ _ _ _ _ => pg_name (i := 3) nd rfl (Or.inl rfl))
          (fun _ _ _ _ _ => pts_nil) (fun _ _ _ _ _ => pe_p1 (pv 3)))))), ?_⟩
    refine ⟨_, rfl, l, _, rfl, .inl hl, _, rfl, by rw [List.length_map]; omega, by rw [List.length_map]; omega, ?_⟩
    rw [List.length_map, show ((ws.length : Int)).toNat = ws.length from rfl]
    intro o ho
    refine lc_range (lo := 0) (n := ws.length) (fun i H' => Same H H' ∧ ∃ ys, H' o = some (.lst ys) ∧ Prs H' ys ((Bud.ordP ws).take i)) ⟨same_new ho, [], upd_same, .nil⟩ ?_ ?_
    · rintro i H1 hi ⟨s1, ys, e1, p1⟩
      have eg : ws.getD i 0 = ws[i] := by rw [List.getD_eq_getElem?_getD, List.getElem?_eq_getElem hi]; rfl
      refine ⟨rfl, ?_⟩
      refine ⟨_, rfl, _, rfl, l, _, _, V.int ws[i], rfl, rfl, s1.seq hl, (show atI _ (0 + (i : Int)) = _ by rw [Int.zero_add]; exact atI_nat (by rw [List.getElem?_map, List.getElem?_eq_getElem hi]; rfl)), ws[i], rfl, ?_⟩
      refine ⟨_, _, rfl, rfl, _, rfl, (by show 2 ≤ sizeLine; decide), fun t ht => ?_⟩
      have nt : o ≠ t := ne_of_none e1 ht
      refine ⟨ys, by rw [upd_ne nt]; exact e1, ?_, fun b u hb => ?_, _, upd_same, ?_⟩
      · have h1 := p1.length
        rw [List.length_take] at h1
        rw [sizeLine_eq]
        omega
      · rw [upd_ne (ne_of_none hb ho), upd_ne (ne_of_none (s1 _ _ hb) ht)]
        exact s1 _ _ hb
      · rw [List.take_add_one, Bud.ordP_at hi]
        refine Prs.append ((p1.kept (tups_upd ht)).kept (tups_put (by rw [upd_ne nt]; exact e1) (fun xs z => by cases z))) (.cons ⟨t, rfl, ?_⟩ .nil)
        rw [upd_ne nt.symm, upd_same, eg]
        show some (HO.tup [V.int (0 - Bud.fit ws[i]), V.int (0 + (i : Int))]) = _
        rw [Int.zero_add]
    · rintro H1 ⟨s1, ys, e1, p1⟩
      rw [← Bud.ordP_len ws, List.take_length] at p1
      refine ⟨o, ys, _, rfl, SqL.of e1, p1, fun zs M q pM sM hzs hq => ?_⟩
      have s2 : Same H1 (upd H1 q (.lst zs)) := same_new hq
      have hz2 := hzs.kept (Same.tups s2)
      have eq2 : (upd H1 q (.lst zs)) q = some (.lst zs) := upd_same
      generalize upd H1 q (.lst zs) = H2 at *
      have hML : M.length ≤ 1000 := by rw [pM.length_eq, Bud.ordP_len]; exact hlen
      refine ⟨_, rfl, q, rfl, ⟨_, SqL.of eq2⟩, fun C hC => ?_⟩
      refine lc_list (K := K) (a := q) (xs := zs) (fun i H' => H' = upd H2 C (.lst ((M.take i).map fun p => V.int p.2))) rfl (fun i H' _ e => by rw [e]; exact (same_new hC).seq (SqL.of eq2)) ?_ ?_
      · rintro i z H' hi rfl
        obtain ⟨g, hg, hz⟩ := hz2.get hi
        refine ⟨rfl, ?_⟩
        refine ⟨_, rfl, g, hz.kept (tups_upd hC), _, upd_same, ?_, ?_⟩
        · rw [List.length_map, List.length_take, sizeLine_eq]
          omega
        · rw [upd_upd, List.take_add_one, hg, List.map_append]
          rfl
      rintro H' rfl
      rw [hz2.length, List.take_length]
      exact kQ _ C M ((s1.trans s2).trans (same_new hC)) (Same.none (s1.trans s2) hC) pM sM upd_same
/-! #### _law_places -/
/-- the places that are due -/
def spPlaces (K : PySem.W.Frag) : Sp := fun vs H Q _ => ∃ (l wl : Addr) (xs : List V) (D : List Bud.Pc) (ws : List Int) (k : Nat) (t : Bud.T k), vs = [.ref l, .ref wl, .int (Bud.pw k)] ∧ k ≤ 60 ∧ Bud.Can t ∧ H l = some (.lst xs) ∧ Prs H xs D ∧ D.Perm (Bud.outs t 0) ∧ D.length ≤ 700 ∧ SqL K H wl (ws.map V.int) ∧ (∀ w ∈ ws, 1 ≤ w) ∧ ws.length ≤ 200 ∧
  (∀ H', Same H H' → Q .non H') ∧
  ∀ (H' : Hp) (q : Addr) (M : List Bud.Pc) (as : List Int) (t' : Bud.T k), Same H H' → M.Perm (Bud.ordP ws) → Bud.Srt M → Bud.Gives ws t (Bud.ordN M) as t' → H' q = some (.lst ((List.range ws.length).map fun i => V.int (Bud.plOf (Bud.ordN M) as i))) → Q (.ref q) H'
theorem ok_places (T : Txt K mg) : DefOk P w K mg base 3 "_law_places" ["_law_held", "_law_wants", "_law_cells"] (spPlaces K) := by
  refine mkDef T.F__law_places T.g__law_places bd__law_places sc__law_places (fun vs H Q E h => ?_) (fun cdv A outer s H vs Q E hr h => ?_)
  · obtain ⟨l, wl, xs, D, ws, k, t, rfl, _⟩ := h
    rfl
  · obtain ⟨l, wl, xs, D, ws, k, t, rfl, hk, hc, hl, hD, hperm, hlen, hwl, hw, hwlen, kN, kQ⟩ := h
    have nd := sc__law_places.nd
    have hr1 : Room 1 _ := hr.mono (by decide)
    have hr2 : Room 2 _ := hr
    refine ⟨_, (pss_cons (ps_setLc (i := 3) (own := [("_law_want_here", 6)]) (g := gName 6) (tt := tYes) (te := tC (.int 0)) rfl nd rfl rfl (by exact sw_true (by rfl) (by rfl) (by rfl) (by decide +kernel)) (pi_list (pv 1))
          (blkOk_by (own := [("_law_want_here", 6)]) (N := ["_law_held", "_law_wants", "_law_cells", "_law_places_here", "_law_k", "_law_at", "_law_want_here"]) (sc := defScope s__law_places) (by decide +kernel)) (fun _ _ _ _ _ => pg_name (i := 6) nd rfl (Or.inl rfl))
          (fun _ _ _ _ _ => pts_nil) (fun _ _ _ _ _ => pe_int))
      (pss_cons (ps_for (passes_of rfl) rfl (pi_list (pe_cd (ok_order T) hr2 (pa_cons (pv 1) pa_nil))) (pg_name (i := 4) nd rfl (Or.inl rfl))
        (pss_cons (ps_set (i := 5) nd rfl (Or.inl rfl) (pe_cd (ok_due T) hr2 (pa_cons (pv 0) (pa_cons (pe_ix ix_list (pv 1) (pv 4) (fun _ _ => rfl)) (pa_cons (pv 2) pa_nil)))))
        (pss_cons (ps_if (pt_cmpR op_isN (pv 5) pe_non (nomark _)) (pss_one (ps_ret pe_non)) pss_nil)
        (pss_cons (ps_asg (pv 5) (pg_sub (pv 3) (pv 4) set_list))
        (pss_one (ps_set (i := 0) nd rfl (Or.inl rfl) (pe_op op_cat (pv 0) (pe_lst (pa_cons (pe_tup (pa_cons (pv 5) (pa_cons (pe_cd (ok_fitting T) hr1 (pa_cons (pe_ix ix_list (pv 1) (pv 4) (fun _ _ => rfl)) pa_nil)) pa_nil))) pa_nil)))))))))
      (pss_one (ps_ret (pv 3))))), ?_⟩
    refine ⟨_, rfl, wl, rfl, ⟨_, hwl⟩, fun ph hph => ?_⟩
    refine lc_list (K := K) (a := wl) (xs := ws.map V.int) (fun i H' => H' = upd H ph (.lst ((List.range i).map fun j => V.int (Bud.plOf [] [] j)))) rfl (fun i H' _ e => by rw [e]; exact (same_new hph).seq hwl) ?_ ?_
    · rintro i z H' hi rfl
      have hil := (List.getElem?_eq_some_iff.mp hi).1
      rw [List.length_map] at hil
      refine ⟨rfl, _, upd_same, ?_, ?_⟩
      · rw [List.length_map, List.length_range, sizeLine_eq]
        omega
      · rw [upd_upd, List.range_succ, List.map_append]
        rfl
    rintro H1 rfl
    rw [List.length_map]
    have s1 : Same H (upd H ph (.lst ((List.range ws.length).map fun j => V.int (Bud.plOf [] [] j)))) := same_new hph
    have e1 : (upd H ph (.lst ((List.range ws.length).map fun j => V.int (Bud.plOf [] [] j)))) ph = some (.lst ((List.range ws.length).map fun j => V.int (Bud.plOf [] [] j))) := upd_same
    generalize upd H ph (.lst ((List.range ws.length).map fun j => V.int (Bud.plOf [] [] j))) = H1 at *
    refine ⟨_, rfl, wl, ws, rfl, s1.seq hwl, by omega, fun H2 q M s2 nq2 hM sM e2 => ?_⟩
    have hML : M.length = ws.length := by rw [hM.length_eq, Bud.ordP_len]
    have lenO : (Bud.ordN M).length = ws.length := by unfold Bud.ordN; rw [List.length_map, hML]
    have ndO : (Bud.ordN M).Nodup := (Bud.ordN_perm hM).nodup_iff.mpr List.nodup_range
    have s12 := s1.trans s2
    have nqp : q ≠ ph := (ne_of_none e1 nq2).symm
    refine ⟨q, rfl, ⟨_, SqL.of e2⟩, for_list (K := K) (a := q) (xs := M.map fun p => V.int p.2) (fun i σ H4 => ∃ (v4 v5 : Option V) (l' : Addr) (xs' : List V) (D' : List Bud.Pc) (t1 : Bud.T k) (as : List Int), σ = [some (.ref l'), some (.ref wl), some (.int (Bud.pw k)), some (.ref ph), v4, v5, none] ∧ Same H H4 ∧ H4 q = some (.lst (M.map fun p => V.int p.2)) ∧
        H4 l' = some (.lst xs') ∧ l' ≠ ph ∧ Prs H4 xs' D' ∧ D'.Perm (Bud.outs t1 0) ∧ D'.length ≤ 700 + i ∧ Bud.Can t1 ∧ Bud.Gives ws t ((Bud.ordN M).take i) as t1 ∧ H4 ph = some (.lst ((List.range ws.length).map fun j => V.int (Bud.plOf ((Bud.ordN M).take i) as j))))
      ⟨none, none, l, xs, D, t, [], rfl, s12, e2, s12 _ _ hl, ne_of_none hl hph, hD.kept (Same.tups s12), hperm, hlen, hc, .nil t, s2 _ _ e1⟩ (fun i σ H' _ ⟨_, _, _, _, _, _, _, _, _, e, _⟩ => SqL.of e) ?_ ?_⟩
    · rintro i x σ H4 hi ⟨v4, v5, l', xs', D', t1, as, rfl, s4, e4, hl', nl', hD', hperm', hlen', hc', g4, ep4⟩
      rw [List.getElem?_map] at hi
      obtain ⟨g, hg, rfl⟩ : ∃ b, M[i]? = some b ∧ x = V.int b.2 := by
        cases e : M[i]? with
        | none => rw [e] at hi; cases hi
        | some b => rw [e] at hi; exact ⟨b, rfl, (Option.some.inj hi).symm⟩
      have hil := (List.getElem?_eq_some_iff.mp hg).1
      obtain ⟨b1, b2, b3⟩ := Bud.ordN_back hM (List.mem_of_getElem? hg)
      have eo : (Bud.ordN M)[i]? = some g.2.toNat := by unfold Bud.ordN; rw [List.getElem?_map, hg]; rfl
      rw [b1]
      generalize g.2.toNat = n at *
      have hwn := hw (ws[n]) (List.getElem_mem b2)
      have eg : ws.getD n 0 = ws[n] := by rw [List.getD_eq_getElem?_getD, List.getElem?_eq_getElem b2]; rfl
      have hix : atI (ws.map V.int) (n : Int) = some (V.int ws[n]) := atI_nat (by rw [List.getElem?_map, List.getElem?_eq_getElem b2]; rfl)
      refine ⟨_, rfl, _, rfl, _, rfl, wl, _, _, V.int ws[n], rfl, rfl, s4.seq hwl, hix, _, rfl, l', xs', D', ws[n], k, t1, rfl, hk, hc', hl', hD', hperm', by omega, hwn, fun H5 s5 => ?_⟩
      have s05 := s4.trans s5
      unfold dueF
      cases hb : Bud.bestOf (Bud.frees t1 0) ws[n] with
      | none => exact ⟨_, rfl, rfl, true, rfl, iteT (kN _ s05)⟩
      | some y =>
        obtain ⟨a, S⟩ := y
        refine ⟨_, rfl, rfl, false, rfl, iteF ?_⟩
        have hmem := Bud.best_mem hb
        obtain ⟨_, _, m, hm, eS, _⟩ := Bud.in_frees t1 (Bud.zdvd k) hmem
        have eS' : S = Bud.pw m := eS
        subst eS'
        have hwm : ws[n] ≤ Bud.pw m := (Bud.best_some hb).1
        obtain ⟨t2, c2, _, _, p2⟩ := Bud.give_tree hc' (Bud.zdvd k) hmem (Bud.fe_le hwm)
        have ep5 := s5 _ _ ep4
        have hl5 := s5 _ _ hl'
        refine ⟨_, rfl, _, rfl, _, rfl, ph, _, (n : Int), n, rfl, rfl, ep5, ?_, ?_⟩
        · rw [List.length_map, List.length_range]
          unfold ixN
          rw [if_pos (by omega), if_pos (by omega)]
          simp
        have kp : ∀ {b : Addr} {o : HO} {u : HO}, H5 b = some o → b ≠ ph → (upd H5 ph u) b = some o := fun e ne => by rw [upd_ne ne]; exact e
        have ktp : ∀ u, TupKept H5 (upd H5 ph u) := fun u => tups_put ep5 (fun xs z => by cases z)
        have sH : ∀ u, Same H (upd H5 ph u) := fun u b o hb => by
          rw [upd_ne (ne_of_none hb hph)]
          exact s05 _ _ hb
        generalize hset : ((List.range ws.length).map fun j => V.int (Bud.plOf ((Bud.ordN M).take i) as j)).set n (optV (Option.map (fun x => x.1) (some (a, Bud.pw m)))) = pl2
        refine ⟨_, rfl, _, rfl, _, rfl, _, rfl, wl, _, _, V.int ws[n], rfl, rfl, (sH _).seq hwl, hix, ws[n], rfl, (by show 2 ≤ sizeLine; decide), fun tt ht => ⟨(by show 1 ≤ sizeLine; decide), fun c hc0 => ?_⟩⟩
        have sx : Same (upd H5 ph (.lst pl2)) (upd (upd (upd H5 ph (.lst pl2)) tt (.tup [optV (Option.map (fun x => x.1) (some (a, Bud.pw m))), .int (Bud.fit ws[n])])) c (.lst [.ref tt])) := (same_new ht).trans (same_new hc0)
        refine ⟨l', c, xs', _, rfl, rfl, sx _ _ (kp hl5 nl'), upd_same, ?_, fun h' hh' => ?_⟩
        · have := hD'.length
          rw [sizeLine_eq]
          show xs'.length + 1 ≤ _
          omega
        have sy := sx.trans (same_new hh' (o := .lst (xs' ++ [.ref tt])))
        have hlenA : as.length = ((Bud.ordN M).take i).length := g4.len
        have hnot : n ∉ (Bud.ordN M).take i := fun hin => by
          obtain ⟨j, hj, ej⟩ := List.getElem_of_mem hin
          rw [List.length_take] at hj
          have h4 := List.getElem?_eq_some_iff.mp eo
          obtain ⟨h4a, h4b⟩ := h4
          rw [List.getElem_take] at ej
          exact (List.pairwise_iff_getElem.mp ndO) j i (by omega) h4a (by omega) (by rw [ej, h4b])
        have htk : (Bud.ordN M).take (i + 1) = (Bud.ordN M).take i ++ [n] := by
          rw [List.take_add_one, eo]
          rfl
        refine ⟨_, _, h', _, D' ++ [(a, Bud.fit ws[n])], t2, as ++ [a], rfl, (sH _).trans sy, sy _ _ (kp (s5 _ _ e4) nqp), upd_same, ?_, ?_, ?_, ?_, c2, ?_, ?_⟩
        · exact (ne_of_none (sx _ _ upd_same) hh').symm
        · refine Prs.append ((hD'.kept (Same.tups s5)).kept ((ktp _).trans (Same.tups sy))) (.cons ⟨tt, rfl, ?_⟩ .nil)
          exact (same_new hh') _ _ ((same_new hc0) _ _ upd_same)
        · refine (List.perm_append_comm (l₁ := D') (l₂ := [(a, Bud.fit ws[n])])).trans ?_
          exact (hperm'.cons _).trans p2.symm
        · rw [List.length_append]
          show D'.length + 1 ≤ _
          omega
        · rw [htk]
          exact g4.snoc (by rw [eg]; exact hb) c2 (by rw [eg]; exact p2)
        · rw [htk, sy _ _ upd_same, ← hset]
          congr 2
          refine List.ext_getElem? fun j => ?_
          rw [List.getElem?_set]
          by_cases e : n = j
          · subst e
            rw [if_pos rfl, List.length_map, List.length_range, if_pos b2, List.getElem?_map, List.getElem?_range b2]
            show some (V.int a) = some (V.int (Bud.plOf _ _ n))
            rw [Bud.plOf_snoc hlenA hnot, if_pos rfl]
          · rw [if_neg e, List.getElem?_map, List.getElem?_map]
            cases q : (List.range ws.length)[j]? with
            | none => rfl
            | some u =>
              have hu := List.getElem?_eq_some_iff.mp q
              obtain ⟨hu1, hu2⟩ := hu
              rw [List.getElem_range] at hu2
              subst hu2
              show some (V.int _) = some (V.int _)
              rw [Bud.plOf_snoc hlenA hnot, if_neg (fun z => e z.symm)]
    · rintro σ H4 ⟨v4, v5, l', xs', D', t1, as, rfl, s4, e4, hl', nl', hD', hperm', hlen', hc', g4, ep4⟩
      rw [List.length_map] at g4 ep4
      rw [List.take_of_length_le (by rw [lenO, hML]; exact Nat.le_refl _)] at g4 ep4
      exact ⟨_, rfl, kQ H4 ph M as t1 s4 hM sM g4 ep4⟩
/-! #### _law_told -/
/-- what the yard gives -/
def spTold (K : PySem.W.Frag) : Sp := fun vs H Q _ => ∃ (p d : Addr) (k : Nat) (t t' : Bud.T k) (l : Addr) (ws : List Int) (M : List Bud.Pc) (as : List Int) (b : Bool), vs = [.ref p, .ref l, .bl b] ∧ YardT K H p d t ∧ SqL K H l (ws.map V.int) ∧ (∀ w ∈ ws, 1 ≤ w ∧ w ≤ Bud.pw k) ∧ ws.length ≤ 200 ∧ (Bud.outs t 0).length ≤ 700 ∧
  M.Perm (Bud.ordP ws) ∧ Bud.Srt M ∧ Bud.Gives ws t (Bud.ordN M) as t' ∧ (b = true → ws.length = 1) ∧
  ∀ (H' : Hp) (q : Addr), Kp p d H H' → YardT K H' p d t' → H' q = some (.lst ((List.range ws.length).map fun i => V.int (Bud.plOf (Bud.ordN M) as i))) → Q (.ref q) H'
theorem ok_told (T : Txt K mg) : DefOk P w K mg base 5 "_law_told" ["_law_yard", "_law_wants", "_law_alone"] (spTold K) := by
  refine mkDef T.F__law_told T.g__law_told bd__law_told sc__law_told (fun vs H Q E h => ?_) (fun cdv A outer s H vs Q E hr h => ?_)
  · obtain ⟨p, d, k, t, t', l, ws, M, as, b, rfl, _⟩ := h
    rfl
  · obtain ⟨p, d, k, t, t', l, ws, M, as, b, rfl, y, hl, hw, hlen, hout, hM, sM, hG, hb1, kQ⟩ := h
    have nd := sc__law_told.nd
    have hr2 : Room 2 _ := hr.mono (by decide)
    have hr4 : Room 4 _ := hr
    refine ⟨_, pss_cons (ps_if (pt_val (pv 2)) (pss_one (ps_ret (pe_lst (pa_cons (pe_m (pv 0) (ok_give T) hr2 (pa_cons (pe_ix ix_list (pv 1) pe_int (fun _ _ => rfl)) pa_nil)) pa_nil)))) pss_nil)
      (pss_one (ps_ret (pe_cd (ok_give_all T) hr4 (pa_cons (pv 0) (pa_cons (pv 1) pa_nil))))), ?_⟩
    refine ⟨_, rfl, b, rfl, ?_⟩
    cases b with
    | false =>
      refine iteF ?_
      exact ⟨_, rfl, _, rfl, p, d, k, t, t', l, ws, M, as, rfl, y, hl, hw, hlen, hout, hM, sM, hG, kQ⟩
    | true =>
      refine iteT ?_
      have h1 := hb1 rfl
      obtain ⟨w0, rfl⟩ : ∃ w0, ws = [w0] := List.length_eq_one_iff.mp h1
      have hp1 : (Bud.ordN M).Perm [0] := Bud.ordN_perm hM
      have eO : Bud.ordN M = [0] := List.perm_singleton.mp hp1
      rw [eO] at hG
      have hw0 := hw w0 (List.mem_singleton.mpr rfl)
      obtain ⟨dx, fs, ep, nm, _⟩ := y.at_
      cases hG with
      | @cons _ t1 _ _ _ a S as' hb hc hp r =>
      cases r
      have hb : Bud.bestOf (Bud.frees t 0) w0 = some (a, S) := hb
      have hp : (Bud.outs t' 0).Perm ((a, Bud.fit w0) :: Bud.outs t 0) := hp
      refine ⟨_, rfl, p, dx, fs, rfl, ep, nm.give, _, rfl, l, _, 0, V.int w0, rfl, rfl, hl, rfl, p, d, k, t, w0, rfl, y, by omega, fun z => absurd z (by omega), fun _ hb' => ?_, fun _ a' S' hb' H5 t5 k5 y5 sp5 perm5 => ?_⟩
      · rw [hb] at hb'
        cases hb'
      rw [hb] at hb'
      cases hb'
      have et : t5 = t' := Bud.tree_uniq y5.2.1 hc (perm5.trans hp.symm)
      subst et
      refine ⟨(by show 1 ≤ sizeLine; decide), fun c hc0 => ?_⟩
      refine kQ _ c (k5.trans (Same.kp (same_new hc0) p d)) (y5.same (same_new hc0)) ?_
      rw [upd_same, eO]
      rfl
/-! #### law -/
theorem gives_le {ws : List Int} {k : Nat} {t t' : Bud.T k} {is : List Nat} {as : List Int} (h : Bud.Gives ws t is as t') : ∀ i ∈ is, ws.getD i 0 ≤ Bud.pw k := by
  induction h with
  | nil => intro i hi; cases hi
  | @cons t t1 t' i is a S as hb _ _ _ ih =>
    intro j hj
    rcases List.mem_cons.mp hj with rfl | hj
    · have h1 := (Bud.best_some hb).1
      have h2 := Bud.in_frees t (Bud.zdvd k) (Bud.best_mem hb)
      have h3 := h2.1
      have h4 := h2.2.1
      simp only at h1 h3 h4
      omega
    · exact ih j hj
theorem ok_law (T : Txt K mg) {f : Addr} {fd : FuncData} (F : FunD K "law" "law" (defArgs s_law) (defBody s_law) (defScope s_law) [] [] f fd) : FnOk P w K mg base CX0 lawLevel f fd ["_law_script"] (spLaw K) := by
  refine mkFn F sc_law (fun vs H Q E h => ?_) (fun cdv A outer s H vs Q E hr h => ?_)
  · obtain ⟨a, ns, rfl, _⟩ := h
    rfl
  · obtain ⟨a, ns, rfl, hS, hl, kQ⟩ := h
    have nd := sc_law.nd
    have hr1 : Room 1 _ := hr.mono (by decide)
    have hr2 : Room 2 _ := hr.mono (by decide)
    have hr3 : Room 3 _ := hr.mono (by decide)
    have hr4 : Room 4 _ := hr.mono (by decide)
    have hr5 : Room 5 _ := hr.mono (by decide)
    have hu := hr.units
    refine ⟨_, PSs.nox (pss_cons (ps_set (i := 1) nd rfl (Or.inr rfl) (pe_cd (ok_ysize T) hr2 (pa_cons (pv 0) pa_nil)))
      (C8.pss_cut (ps_set (i := 2) nd rfl (Or.inl rfl) (pe_mk (E := fun _ => E0) (ok_init T) hr3 passAt0 (pa_cons (pv 1) pa_nil)))
      (C8.pss_cut (ps_set (i := 3) nd rfl (Or.inl rfl) (pe_cd (ok_begun T) hr4 (pa_cons (pv 2) (pa_cons (pe_cd (ok_cell T) hr1 (pa_cons (pv 0) (pa_cons pe_int pa_nil))) (pa_cons (pv 1) pa_nil)))))
      (pss_cons (ps_for PassesOwn.never rfl (pi_range2 (by rfl) T.n_range (pa_cons pe_int (pa_cons (pe_callB (call_min2 rfl) (by rfl) T.n_min (by decide +kernel) (pa_cons (pe_callB call_len_seq (by rfl) T.n_len PySem.boot_len (pa_cons (pv 0) pa_nil)) (pa_cons (pe_op op_add pe_int (pe_cd (ok_room T) hr1 (pa_cons (pv 0) (pa_cons pe_int (pa_cons pe_int pa_nil))))) pa_nil))) pa_nil))) (pg_name (i := 4) nd rfl (Or.inr rfl))
        (C8.pss_cut (ps_set (i := 5) nd rfl (Or.inr rfl) (pe_ix ix_list (pv 0) (pv 4) (fun _ _ => rfl)))
        (pss_one (ps_if (pt_cmpR op_lt (pe_op op_mod (pv 5) pe_int) pe_int (nomark _))
          (C8.pss_cut (ps_set (i := 6) nd rfl (Or.inr rfl) (pe_lc (own := [("_law_j", 9)]) (g := gName 9) (tt := tYes)
              (te := tCB (fun xs H Q => ∃ i j, xs = [.int i, .int j] ∧ Q (.int (if j > i then j else i)) H) (tCons (tC (.int 1)) (tCons (tCall (spWant K) [] E0 (tCons (tOp (rI CDiv fun i j => V.int (i / j)) (tCall (spCell K) [] E0 (tCons (tVar 0) (tCons (tOp (rI0 fun i j => V.int (i + j)) (tVar 4) (tVar 9)) tNil))) (tC (.int 4))) (tCons (tVar 1) tNil))) tNil))) (by rfl) nd (pi_range1 rfl T.n_range (pa_cons (pe_op op_add pe_int (pe_op op_mod (pe_op op_fdiv (pv 5) pe_int) pe_int)) pa_nil))
              (blkOk_by (own := [("_law_j", 9)]) (N := ["_law_script", "_law_cells", "_law_yard", "_law_held", "_law_k", "_law_cell", "_law_wants", "_law_due_here", "_law_found", "_law_j", "_law_at"]) (sc := defScope s_law) (by decide +kernel)) (fun _ _ _ _ _ => pg_name (i := 9) nd rfl (Or.inl rfl))
              (fun _ _ _ _ _ => pts_nil) (fun _ _ _ _ _ => pe_callB (call_max2 (by rfl)) (by rfl) T.n_max (by decide +kernel) (pa_cons pe_int (pa_cons (pe_cd (ok_want T) (by exact hr2) (pa_cons (pe_op op_fdiv (pe_cd (ok_cell T) (by exact hr1) (pa_cons (pv 0) (pa_cons (pe_op op_add (pv 4) (pv 9)) pa_nil))) pe_int) (pa_cons (pv 1) pa_nil))) pa_nil)))))
          (C8.pss_cut (ps_if (pt_cmpR op_eq (pe_op op_mod (pv 5) pe_int) pe_int (nomark _))
              (pss_one (ps_set (i := 6) nd rfl (Or.inr rfl) (pe_slice sl_list (pv 6) po_none (po_some pe_int))))
              (pss_one (ps_if (pt_cmpR op_eq (pe_op op_mod (pe_op op_fdiv (pv 5) pe_int) pe_int) pe_int (nomark _))
                (pss_one (ps_set (i := 6) nd rfl (Or.inr rfl) (pe_lc (own := [("_law_j", 9)]) (g := gName 9) (tt := tYes)
                  (te := tOp (rI0 fun i j => V.int (i + j)) (tC (.int 1)) (tOp (rI (fun _ j => 0 < j) fun i j => V.int (i % j)) (tOp (rI0 fun i j => V.int (i + j)) (tOp (rI CDiv fun i j => V.int (i / j)) (tVar 5) (tC (.int 432))) (tOp (rI CMul fun i j => V.int (i * j)) (tOp (rI CDiv fun i j => V.int (i / j)) (tVar 5) (tC (.int 3888))) (tVar 9))) (tC (.int 9)))) (by rfl) nd (pi_range1 rfl T.n_range (pa_cons pe_int pa_nil))
                  (blkOk_by (own := [("_law_j", 9)]) (N := ["_law_script", "_law_cells", "_law_yard", "_law_held", "_law_k", "_law_cell", "_law_wants", "_law_due_here", "_law_found", "_law_j", "_law_at"]) (sc := defScope s_law) (by decide +kernel)) (fun _ _ _ _ _ => pg_name (i := 9) nd rfl (Or.inl rfl))
                  (fun _ _ _ _ _ => pts_nil) (fun _ _ _ _ _ => pe_op op_add pe_int (pe_op op_mod (pe_op op_add (pe_op op_fdiv (pv 5) pe_int) (pe_op op_mul (pe_op op_fdiv (pv 5) pe_int) (pv 9))) pe_int))))) pss_nil)))
          (C8.pss_cut (ps_set (i := 7) nd rfl (Or.inr rfl) (pe_cd (ok_places T) hr3 (pa_cons (pv 3) (pa_cons (pv 6) (pa_cons (pv 1) pa_nil)))))
          (pss_one (ps_if (pt_cmpR op_notN (pv 7) pe_non (nomark _))
            (C8.pss_cut (ps_set (i := 8) nd rfl (Or.inl rfl) (pe_cd (ok_told T) hr5 (pa_cons (pv 2) (pa_cons (pe_callTy call_listK (by rfl) T.n_list (by decide +kernel) (pa_cons (pv 6) pa_nil)) (pa_cons (pe_cmpR op_eq (pe_op op_mod (pv 5) pe_int) pe_int (nomark _)) pa_nil)))))
            (C8.pss_cut (ps_if (PW.pt (pw_or (pt_not (pt_val (pe_callB call_isi (by rfl) T.n_isinstance (by decide +kernel) (pa_cons (pv 8) (pa_cons (pe_bltn (v := .ty "list") (u := .type "list") (by rfl) T.n_list (by decide +kernel) rfl) pa_nil))))) (pw_or (pt_cmpR (op_neIs hu) (pv 8) (pv 7) (nomark _))
                (pw_or1 (pt_cmpR op_gt (pe_callB call_len_seq (by rfl) T.n_len PySem.boot_len (pa_cons (pe_lc (own := [("_law_at", 10)]) (g := gName 10) (te := tVar 10) (by rfl) nd (pi_list (pv 8))
                  (blkOk_by (own := [("_law_at", 10)]) (N := ["_law_script", "_law_cells", "_law_yard", "_law_held", "_law_k", "_law_cell", "_law_wants", "_law_due_here", "_law_found", "_law_j", "_law_at"]) (sc := defScope s_law) (by decide +kernel)) (fun _ _ _ _ _ => pg_name (i := 10) nd rfl (Or.inl rfl))
                  (fun _ _ _ _ _ => pts_one (pt_not (pt_val (pe_cd (ok_whole T) (by exact hr1) (pa_cons (pv 10) pa_nil))))) (fun _ _ _ _ _ => pv 10)) pa_nil)) pe_int (nomark _)))))) (pss_one (ps_ret pe_bl)) pss_nil)
            (pss_one (ps_set (i := 3) nd rfl (Or.inl rfl) (pe_op op_cat (pv 3) (pe_lc (own := [("_law_j", 9)]) (g := gName 9) (tt := tYes)
                (te := tTup (tCons (tOp (rIxL K) (tVar 7) (tVar 9)) (tCons (tCall spFitting [] E0 (tCons (tOp (rIxL K) (tVar 6) (tVar 9)) tNil)) tNil))) (by rfl) nd (pi_range1 rfl T.n_range (pa_cons (pe_callB call_len_seq (by rfl) T.n_len PySem.boot_len (pa_cons (pv 6) pa_nil)) pa_nil))
                (blkOk_by (own := [("_law_j", 9)]) (N := ["_law_script", "_law_cells", "_law_yard", "_law_held", "_law_k", "_law_cell", "_law_wants", "_law_due_here", "_law_found", "_law_j", "_law_at"]) (sc := defScope s_law) (by decide +kernel)) (fun _ _ _ _ _ => pg_name (i := 9) nd rfl (Or.inl rfl))
                (fun _ _ _ _ _ => pts_nil) (fun _ _ _ _ _ => pe_tup (pa_cons (pe_ix ix_list (pv 7) (pv 9) (fun _ _ => rfl)) (pa_cons (pe_cd (ok_fitting T) (by exact hr1) (pa_cons (pe_ix ix_list (pv 6) (pv 9) (fun _ _ => rfl)) pa_nil)) pa_nil)))))))))
            pss_nil)))))
          (pss_one (ps_set (i := 3) nd rfl (Or.inl rfl) (pe_cd (ok_done T) hr4 (pa_cons (pv 2) (pa_cons (pv 3) (pa_cons (pv 5) (pa_cons (pv 1) pa_nil)))))))))))
      (pss_one (ps_ret pe_bl)))))), ?_⟩
    refine ⟨_, rfl, a, ns, rfl, hS, fun k hk => ?_⟩
    have hp0 := Bud.pw_pos k
    refine ⟨fun σ H2 => ∃ x d, σ = [some (.ref a), some (.int (Bud.pw k)), some (.ref x), none, none, none, none, none, none, none, none] ∧ SqL K H2 a (ns.map V.int) ∧ YardT K H2 x d (.free : Bud.T k), rd_yard rfl hk fun H2 x d s2 nx nd' y2 => ⟨x, d, rfl, s2.seq hS, y2⟩, ?_⟩
    rintro σ H2 ⟨x, d, rfl, hS2, yx⟩
    refine ⟨fun σ H6 => ∃ (h : Addr) (xs : List V) (D : List Bud.Pc) (t : Bud.T k), σ = [some (.ref a), some (.int (Bud.pw k)), some (.ref x), some (.ref h), none, none, none, none, none, none, none] ∧ SqL K H6 a (ns.map V.int) ∧ YardT K H6 x d t ∧ H6 h = some (.lst xs) ∧ Prs H6 xs D ∧ D.Perm (Bud.outs t 0) ∧ D.length ≤ 130, ?_, ?_⟩
    · refine ⟨_, rfl, _, rfl, a, ns, 2, rfl, hS2, _, rfl, x, d, k, _, rfl, yx, fun H6 t h xs D k6 y6 nh hh hD perm hlen => ?_⟩
      exact ⟨h, xs, D, t, rfl, yx.has.seq k6 hS2, y6, hh, hD, perm, hlen⟩
    rintro σ H6 ⟨h, xs, D, t, rfl, hS6, yx6, hh, hD, perm, hlen⟩
    refine ⟨_, rfl, a, _, rfl, .inl hS6, _, rfl, a, ns, 12, 40, rfl, hS6, hl, _, _, rfl, rfl, _, _, rfl, ?_⟩
    rw [List.length_map]
    obtain ⟨m, em, hm⟩ : ∃ m : Int, (if (3 + 12 : Int) < (ns.length : Int) then (3 + 12 : Int) else (ns.length : Int)) = m ∧ 0 ≤ m ∧ m ≤ ns.length ∧ m ≤ 15 := by
      refine ⟨_, rfl, ?_⟩
      split <;> omega
    refine ⟨3, m, by rw [← em], ⟨by decide, by decide, by omega, by omega⟩, ?_⟩
    refine for_range (lo := 3) (n := (m - 3).toNat) (fun i σ H7 => ∃ (h : Addr) (xs : List V) (D : List Bud.Pc) (t : Bud.T k) (v4 v5 v6 v7 v8 v9 v10 : Option V), σ = [some (.ref a), some (.int (Bud.pw k)), some (.ref x), some (.ref h), v4, v5, v6, v7, v8, v9, v10] ∧ SqL K H7 a (ns.map V.int) ∧ YardT K H7 x d t ∧ H7 h = some (.lst xs) ∧ Prs H7 xs D ∧ D.Perm (Bud.outs t 0) ∧ D.length ≤ 130 + 24 * i)
      ⟨h, xs, D, t, none, none, none, none, none, none, none, rfl, hS6, yx6, hh, hD, perm, hlen⟩ ?_ ?_
    · rintro i σ H7 hi ⟨h, xs, D, t, v4, v5, v6, v7, v8, v9, v10, rfl, hS7, yx7, hh7, hD7, perm7, hlen7⟩
      have hin : 3 + i < ns.length := by omega
      have hi12 : i < 12 := by omega
      refine ⟨fun σ H8 => H8 = H7 ∧ σ = [some (.ref a), some (.int (Bud.pw k)), some (.ref x), some (.ref h), some (.int (3 + i)), some (.int ns[3 + i]), v6, v7, v8, v9, v10], ?_, ?_⟩
      · exact ⟨_, rfl, _, rfl, a, _, _, _, rfl, rfl, hS7, (show atI _ (3 + (i : Int)) = _ by rw [show (3 + (i : Int)) = ((3 + i : Nat) : Int) by omega]; exact atI_nat (by rw [List.getElem?_map, List.getElem?_eq_getElem hin]; rfl)), rfl, rfl⟩
      rintro σ H8 ⟨rfl, rfl⟩
      generalize ns[3 + i] = cl
      have hlo : (Bud.outs t 0).length ≤ 1000 := by rw [← perm7.length_eq]; omega
      refine ⟨_, rfl, _, _, rfl, rfl, (by show (0 : Int) < 4; decide), _, _, rfl, rfl, _, rfl, ?_⟩
      refine ite2 (fun b => ?_) (fun b => ?_)
      · -- wishes
        refine ⟨fun σ H9 => ∃ (r : Addr) (ws : List Int), σ = [some (.ref a), some (.int (Bud.pw k)), some (.ref x), some (.ref h), some (.int (3 + i)), some (.int cl), some (.ref r), v7, v8, v9, v10] ∧ Same H8 H9 ∧ H9 r = some (.lst (ws.map V.int)) ∧ (∀ w ∈ ws, 1 ≤ w) ∧ 1 ≤ ws.length ∧ ws.length ≤ 9, ?_, ?_⟩
        · refine ⟨_, rfl, _, _, rfl, rfl, ⟨by decide, by decide⟩, _, _, rfl, rfl, (by show (0 : Int) < 9; decide), _, _, rfl, rfl, _, rfl, ?_, ?_, ?_⟩
          · show -(2 ^ 62) ≤ 1 + cl / 4 % 9
            omega
          · show 1 + cl / 4 % 9 < 2 ^ 62
            omega
          obtain ⟨n, en, hn1, hn2⟩ : ∃ n : Nat, (1 + cl / 4 % 9).toNat = n ∧ 1 ≤ n ∧ n ≤ 9 := ⟨_, rfl, by omega, by omega⟩
          show ∀ D, _
          rw [show ((fun i j => i + j) 1 (cl / 4 % 9) : Int).toNat = n from en]
          intro C hC
          refine lc_range (lo := 0) (n := n) (fun i H' => Same H8 H' ∧ ∃ ws : List Int, H' C = some (.lst (ws.map V.int)) ∧ ws.length = i ∧ ∀ w ∈ ws, 1 ≤ w) ⟨same_new hC, [], upd_same, rfl, fun w hw => by cases hw⟩ ?_ ?_
          · rintro j H' hj ⟨sA, ws, eC, lw, hw⟩
            refine ⟨rfl, ?_⟩
            refine ⟨_, rfl, _, rfl, _, rfl, _, _, rfl, rfl, a, ns, 3 + i + j, by show [V.ref a, V.int (3 + (i : Int) + (0 + (j : Int)))] = _; rw [show (3 + (i : Int) + (0 + (j : Int))) = ((3 + i + j : Nat) : Int) by omega], sA.seq hS7, _, _, rfl, rfl, ⟨by decide, by decide⟩, _, rfl, _, k, rfl, fun H'' sB => ?_⟩
            refine ⟨_, _, rfl, _, sB _ _ eC, ?_, ?_⟩
            · rw [List.length_map, sizeLine_eq]
              omega
            generalize wantF _ (Bud.pw k) = w
            refine ⟨fun b o hb => ?_, ws ++ [if w > 1 then w else 1], ?_, by rw [List.length_append, lw]; rfl, fun u hu => ?_⟩
            · rw [upd_ne (ne_of_none hb hC)]
              exact sB _ _ (sA _ _ hb)
            · rw [upd_same, List.map_append]
              rfl
            · rcases List.mem_append.mp hu with q | q
              · exact hw u q
              · rw [List.mem_singleton.mp q]
                split <;> omega
          · rintro H' ⟨sA, ws, eC, lw, hw⟩
            exact ⟨C, ws, rfl, sA, eC, hw, by omega, by omega⟩
        rintro σ H9 ⟨r, ws, rfl, s9, er, hw, hw1, hw9⟩
        refine ⟨fun σ H10 => ∃ (r : Addr) (ws : List Int), σ = [some (.ref a), some (.int (Bud.pw k)), some (.ref x), some (.ref h), some (.int (3 + i)), some (.int cl), some (.ref r), v7, v8, v9, v10] ∧ Same H8 H10 ∧ H10 r = some (.lst (ws.map V.int)) ∧ (∀ w ∈ ws, 1 ≤ w) ∧ 1 ≤ ws.length ∧ ws.length ≤ 24 ∧ (cl % 4 = 0 → ws.length = 1), ?_, ?_⟩
        · refine ⟨_, rfl, _, _, rfl, rfl, (by show (0 : Int) < 4; decide), rfl, _, rfl, ?_⟩
          refine ite2 (fun b0 => ?_) (fun b0 => ?_)
          · refine ⟨_, rfl, _, rfl, r, _, rfl, SqL.of er, fun c hc => ?_⟩
            rw [cutV_ints]
            have e1 : cutI ws none (some 1) = ws.take 1 := by
              unfold cutI
              show (ws.drop 0).take (HT.sIx ws.length ws.length (some ((1 : Nat) : Int)) - 0) = _
              rw [HT.sIx_nat, List.drop_zero, Nat.sub_zero, Nat.min_eq_left hw1]
            rw [e1]
            exact ⟨c, _, rfl, s9.trans (same_new hc), upd_same, fun w hm => hw w (List.mem_of_mem_take hm), by rw [List.length_take]; omega, by rw [List.length_take]; omega, fun _ => by rw [List.length_take]; omega⟩
          · have b0' : ¬ cl % 4 = 0 := by simpa using b0
            refine ⟨_, rfl, _, _, rfl, rfl, ⟨by decide, by decide⟩, _, _, rfl, rfl, (by show (0 : Int) < 12; decide), rfl, _, rfl, ?_⟩
            refine ite2 (fun b1 => ?_) (fun b1 => ?_)
            · refine ⟨_, rfl, by decide, by decide, ?_⟩
              intro C hC
              refine lc_range (lo := 0) (n := 24) (fun i H' => Same H9 H' ∧ ∃ ws : List Int, H' C = some (.lst (ws.map V.int)) ∧ ws.length = i ∧ ∀ w ∈ ws, 1 ≤ w) ⟨same_new hC, [], upd_same, rfl, fun w hw => by cases hw⟩ ?_ ?_
              · rintro j H' hj ⟨sA, ws, eC, lw, hw⟩
                refine ⟨rfl, ?_⟩
                refine ⟨_, rfl, _, _, rfl, rfl, ⟨by decide, by decide⟩, _, rfl, _, _, rfl, rfl, ⟨by decide, by decide⟩, _, rfl, _, _, rfl, rfl, .inr ⟨by omega, by omega⟩, _, _, rfl, rfl, _, _, rfl, rfl, (by show (0 : Int) < 9; decide), _, _, rfl, rfl, _, eC, ?_, ?_⟩
                · rw [List.length_map, sizeLine_eq]
                  omega
                refine ⟨fun b o hb => ?_, ws ++ [1 + (cl / 432 + cl / 3888 * (0 + (j : Int))) % 9], ?_, by rw [List.length_append, lw]; rfl, fun u hu => ?_⟩
                · rw [upd_ne (ne_of_none hb hC)]
                  exact sA _ _ hb
                · rw [upd_same, List.map_append]
                  rfl
                · rcases List.mem_append.mp hu with q | q
                  · exact hw u q
                  · rw [List.mem_singleton.mp q]
                    omega
              · rintro H' ⟨sA, ws, eC, lw, hw⟩
                exact ⟨C, ws, rfl, s9.trans sA, eC, hw, by omega, by omega, fun z => absurd z b0'⟩
            · exact ⟨r, ws, rfl, s9, er, hw, hw1, by omega, fun z => absurd z b0'⟩
        clear er s9 hw hw1 hw9 r ws
        rintro σ H10 ⟨r, ws, rfl, s10, er, hw, hw1, hw24, hone⟩
        have hlo700 : D.length ≤ 700 := by omega
        refine ⟨fun σ H11 => ∃ y : V, σ = [some (.ref a), some (.int (Bud.pw k)), some (.ref x), some (.ref h), some (.int (3 + i)), some (.int cl), some (.ref r), some y, v8, v9, v10] ∧ Same H10 H11 ∧ (y = .non ∨ ∃ (q : Addr) (M : List Bud.Pc) (as : List Int) (t' : Bud.T k), y = .ref q ∧ M.Perm (Bud.ordP ws) ∧ Bud.Srt M ∧ Bud.Gives ws t (Bud.ordN M) as t' ∧ H11 q = some (.lst ((List.range ws.length).map fun i => V.int (Bud.plOf (Bud.ordN M) as i)))), ?_, ?_⟩
        · refine ⟨_, rfl, _, rfl, _, rfl, h, r, xs, D, ws, k, t, rfl, hk, yx7.2.1, s10 _ _ hh7, hD7.kept (Same.tups s10), perm7, hlo700, SqL.of er, hw, by omega, fun H11 s11 => ⟨_, rfl, s11, .inl rfl⟩, fun H11 q M as t' s11 hM sM hG eq => ⟨_, rfl, s11, .inr ⟨q, M, as, t', rfl, hM, sM, hG, eq⟩⟩⟩
        rintro σ H11 ⟨y, rfl, s11, hy⟩
        have s811 := s10.trans s11
        rcases hy with rfl | ⟨q, M, as, t', rfl, hM, sM, hG, eq⟩
        · refine ⟨_, rfl, rfl, false, rfl, iteF ?_⟩
          exact ⟨h, xs, D, t, _, _, _, _, _, _, _, rfl, s811.seq hS7, yx7.same s811, s811 _ _ hh7, hD7.kept (Same.tups s811), perm7, by omega⟩
        refine ⟨_, rfl, rfl, true, rfl, iteT ?_⟩
        have y11 := yx7.same s811
        have hY11 := y11.has
        have hwk : ∀ w ∈ ws, 1 ≤ w ∧ w ≤ Bud.pw k := fun w hm => ⟨hw w hm, by
          obtain ⟨j, hj, ej⟩ := List.getElem_of_mem hm
          have := gives_le hG j ((Bud.ordN_perm hM).mem_iff.mpr (List.mem_range.mpr hj))
          rw [List.getD_eq_getElem?_getD, List.getElem?_eq_getElem hj] at this
          rw [← ej]
          exact this⟩
        generalize hP : (fun i => Bud.plOf (Bud.ordN M) as i) = pl at *
        have ePl : ∀ i, Bud.plOf (Bud.ordN M) as i = pl i := fun i => by rw [← hP]
        simp only [ePl] at eq
        have eqP : ((List.range ws.length).map fun i => V.int (pl i)) = ((List.range ws.length).map pl).map V.int := by rw [List.map_map]; rfl
        -- the yard
        refine ⟨fun σ H12 => ∃ f : Addr, σ = [some (.ref a), some (.int (Bud.pw k)), some (.ref x), some (.ref h), some (.int (3 + i)), some (.int cl), some (.ref r), some (.ref q), some (.ref f), v9, v10] ∧ Kp x d H11 H12 ∧ YardT K H12 x d t' ∧ H12 f = some (.lst (((List.range ws.length).map pl).map V.int)), ?_, ?_⟩
        · refine ⟨_, rfl, _, rfl, r, _, rfl, SqL.of (s11 _ _ er), fun c hc => ?_⟩
          have sc := same_new (H := H11) hc (o := .lst (ws.map V.int))
          refine ⟨_, rfl, _, _, rfl, rfl, (by show (0 : Int) < 4; decide), rfl, ?_⟩
          refine ⟨x, d, k, t, t', c, ws, M, as, _, rfl, y11.same sc, SqL.of upd_same, hwk, by omega, by rw [← perm7.length_eq]; omega, hM, sM, hG, fun hb => hone ?_, fun H12 f k12 y12 e12 => ?_⟩
          · exact V.int.inj (of_decide_eq_true hb)
          · refine ⟨f, rfl, fun b o hb nbp nbd => k12 _ _ (sc _ _ hb) nbp nbd, y12, ?_⟩
            rw [← eqP]
            simp only [ePl] at e12
            exact e12
        rintro σ H12 ⟨f, rfl, k12, y12, ef⟩
        have eq12 : H12 q = some (.lst (((List.range ws.length).map pl).map V.int)) := by
          rw [← eqP]
          exact hY11.lst k12 eq
        -- it is as due
        refine ⟨fun σ H13 => σ = [some (.ref a), some (.int (Bud.pw k)), some (.ref x), some (.ref h), some (.int (3 + i)), some (.int cl), some (.ref r), some (.ref q), some (.ref f), v9, v10] ∧ Same H12 H13, ?_, ?_⟩
        · refine ⟨_, rfl, _, _, _, _, true, rfl, .ty "list", .base (.lst ef), kit_ty (by decide +kernel), _, rfl, iteF ?_⟩
          refine ⟨_, rfl, _, rfl, f, q, _, _, rfl, rfl, SqL.of ef, SqL.of eq12, false, neIF rfl, iteF ?_⟩
          refine ⟨_, rfl, f, rfl, ⟨_, SqL.of ef⟩, fun C hC => ?_⟩
          refine lc_list (K := K) (a := f) (xs := ((List.range ws.length).map pl).map V.int) (fun i H' => H' = upd H12 C (.lst [])) rfl (fun i H' _ e => by rw [e]; exact (same_new hC).seq (SqL.of ef)) ?_ ?_
          · rintro i' z H' hi' rfl
            rw [List.getElem?_map] at hi'
            obtain ⟨u, hu, rfl⟩ : ∃ u, ((List.range ws.length).map pl)[i']? = some u ∧ z = V.int u := by
              cases e : ((List.range ws.length).map pl)[i']? with
              | none => rw [e] at hi'; cases hi'
              | some u => rw [e] at hi'; exact ⟨u, rfl, (Option.some.inj hi').symm⟩
            exact ⟨rfl, _, rfl, u, rfl, _, rfl, iteF rfl⟩
          · rintro H' rfl
            exact ⟨C, [], rfl, .inl (SqL.of upd_same), _, _, rfl, rfl, _, rfl, iteF ⟨rfl, same_new hC⟩⟩
        rintro σ H13 ⟨rfl, s13⟩
        have y13 := y12.same s13
        have er13 : H13 r = some (.lst (ws.map V.int)) := s13 _ _ (hY11.lst k12 (s11 _ _ er))
        have eq13 := s13 _ _ eq12
        have hh13 : H13 h = some (.lst xs) := s13 _ _ (hY11.lst k12 (s811 _ _ hh7))
        have hD13 : Prs H13 xs D := (hY11.prs k12 (hD7.kept (Same.tups s811))).kept (Same.tups s13)
        refine ⟨_, rfl, _, rfl, r, _, rfl, .inl (SqL.of er13), _, rfl, by rw [List.length_map]; omega, by rw [List.length_map]; omega, ?_⟩
        rw [List.length_map, show ((ws.length : Int)).toNat = ws.length from rfl]
        intro C hC
        refine lc_range (lo := 0) (n := ws.length) (fun i H' => Same H13 H' ∧ ∃ ys, H' C = some (.lst ys) ∧ Prs H' ys ((List.range i).map fun i => ((pl i, Bud.fit (ws.getD i 0)) : Bud.Pc))) ⟨same_new hC, [], upd_same, .nil⟩ ?_ ?_
        · rintro j H' hj ⟨sA, ys, eC, pC⟩
          have ej : ws.getD j 0 = ws[j] := by rw [List.getD_eq_getElem?_getD, List.getElem?_eq_getElem hj]; rfl
          refine ⟨rfl, ?_⟩
          refine ⟨_, rfl, _, rfl, q, _, _, V.int (pl j), rfl, rfl, SqL.of (sA _ _ eq13), (show atI _ (0 + (j : Int)) = _ by rw [Int.zero_add]; exact atI_nat (by rw [List.getElem?_map, List.getElem?_map, List.getElem?_range hj]; rfl)), _, rfl, _, rfl, r, _, _, V.int ws[j], rfl, rfl, SqL.of (sA _ _ er13), (show atI _ (0 + (j : Int)) = _ by rw [Int.zero_add]; exact atI_nat (by rw [List.getElem?_map, List.getElem?_eq_getElem hj]; rfl)), ws[j], rfl, (by show 2 ≤ sizeLine; decide), fun tt ht => ?_⟩
          have nt : C ≠ tt := ne_of_none eC ht
          refine ⟨ys, by rw [upd_ne nt]; exact eC, ?_, fun b o hb => ?_, _, upd_same, ?_⟩
          · have h1 := pC.length
            rw [List.length_map, List.length_range] at h1
            rw [sizeLine_eq]
            omega
          · rw [upd_ne (ne_of_none hb hC), upd_ne (ne_of_none (sA _ _ hb) ht)]
            exact sA _ _ hb
          · rw [List.range_succ, List.map_append]
            refine Prs.append ((pC.kept (tups_upd ht)).kept (tups_put (by rw [upd_ne nt]; exact eC) (fun xs z => by cases z))) (.cons ⟨tt, rfl, ?_⟩ .nil)
            rw [upd_ne nt.symm, upd_same]
            show _ = some (HO.tup [V.int (pl j), V.int (Bud.fit (ws.getD j 0))])
            rw [ej]
        · rintro H14 ⟨sA, ys, eC, pC⟩
          refine ⟨h, C, xs, ys, rfl, rfl, sA _ _ hh13, eC, ?_, fun h' hh' => ?_⟩
          · have h1 := pC.length
            rw [List.length_map, List.length_range] at h1
            have h2 := hD7.length
            rw [sizeLine_eq]
            omega
          have sB := sA.trans (same_new hh' (o := .lst (xs ++ ys)))
          have hheld := Bud.gives_held hM hG
          simp only [ePl] at hheld
          refine ⟨h', _, D ++ (List.range ws.length).map (fun i => ((pl i, Bud.fit (ws.getD i 0)) : Bud.Pc)), t', _, _, _, _, _, _, _, rfl, sB.seq (s13.seq (hY11.seq k12 (s811.seq hS7))), y13.same sB, upd_same, ?_, ?_, ?_⟩
          · exact Prs.append (hD13.kept (Same.tups sB)) (pC.kept (Same.tups (same_new hh')))
          · refine (List.Perm.append_right _ perm7).trans ?_
            exact List.perm_append_comm.trans hheld.symm
          · rw [List.length_append, List.length_map, List.length_range]
            omega
      · refine ⟨_, rfl, _, rfl, _, rfl, _, rfl, x, d, k, t, h, xs, D, _, rfl, yx7, hh7, hD7, perm7, by omega, fun H9 t9 h9 xs9 k9 y9 sp9 hh9 hD9 perm9 => ?_⟩
        refine ⟨h9, xs9, _, t9, _, _, v6, v7, v8, v9, v10, rfl, yx7.has.seq k9 hS7, y9, hh9, hD9, perm9, ?_⟩
        have := doneF_len t D cl
        omega
    · rintro σ H7 _
      exact kQ _
end
/-! ### the head -/
def fas : List He.Fa := [.free "ValueError",
  .free "bool",
  .free "int",
  .free "isinstance",
  .free "len",
  .free "list",
  .free "max",
  .free "min",
  .free "range",
  .free "sorted",
  .glo "is_size",
  .glo "size_for",
  .glo "twin_of",
  .glo "best_of",
  .glo "without",
  .glo "cut_down",
  .glo "put_back",
  .glo "grown",
  .meth "Yard" "free",
  .meth "Yard" "out",
  .meth "Yard" "give",
  .meth "Yard" "take_back",
  .meth "Yard" "resize",
  .glo "by_size",
  .glo "give_all",
  .glo "_law_whole",
  .glo "_law_cell_at",
  .glo "_law_doubled",
  .glo "_law_fitting",
  .glo "_law_yard_size",
  .glo "_law_room",
  .glo "_law_want",
  .glo "_law_begun",
  .glo "_law_done",
  .glo "_law_beside",
  .glo "_law_due",
  .glo "_law_order",
  .glo "_law_places",
  .glo "_law_told",
  .glo "law",
  .glo "YardError",
  .glo "NoYard",
  .glo "NoWish",
  .glo "NoRoom",
  .glo "NotOut",
  .glo "Yard",
  .cls "Yard",
  .noat "Yard" "cells",
  .noat "Yard" "spare",
  .noat "Yard" "given",
  .mkr "Yard",
  .exc "YardError",
  .exc "NoYard",
  .exc "NoWish",
  .exc "NoRoom",
  .exc "NotOut",
  .exm "NoYard" "NoRoom" false,
  .exm "NoWish" "NoRoom" false,
  .exm "NoRoom" "NoRoom" true,
  .exm "NotOut" "NoRoom" false,
  .exm "NoYard" "YardError" true,
  .exm "NoWish" "YardError" true,
  .exm "NoRoom" "YardError" true,
  .exm "NotOut" "YardError" true,
  .int "MOST" 1152921504606846976]
def d_is_size : He.DefD := ⟨("is_size", none), "is_size", "is_size", defArgs s_is_size, defBody s_is_size, defScope s_is_size, [], []⟩
def d_size_for : He.DefD := ⟨("size_for", none), "size_for", "size_for", defArgs s_size_for, defBody s_size_for, defScope s_size_for, [], []⟩
def d_twin_of : He.DefD := ⟨("twin_of", none), "twin_of", "twin_of", defArgs s_twin_of, defBody s_twin_of, defScope s_twin_of, [], []⟩
def d_best_of : He.DefD := ⟨("best_of", none), "best_of", "best_of", defArgs s_best_of, defBody s_best_of, defScope s_best_of, [], []⟩
def d_without : He.DefD := ⟨("without", none), "without", "without", defArgs s_without, defBody s_without, defScope s_without, [], []⟩
def d_cut_down : He.DefD := ⟨("cut_down", none), "cut_down", "cut_down", defArgs s_cut_down, defBody s_cut_down, defScope s_cut_down, [], []⟩
def d_put_back : He.DefD := ⟨("put_back", none), "put_back", "put_back", defArgs s_put_back, defBody s_put_back, defScope s_put_back, [], []⟩
def d_grown : He.DefD := ⟨("grown", none), "grown", "grown", defArgs s_grown, defBody s_grown, defScope s_grown, [], []⟩
def d_Yard_init : He.DefD := ⟨("Yard", some "__init__"), "__init__", "Yard.__init__", defArgs s_Yard_init, defBody s_Yard_init, defScope s_Yard_init, [], []⟩
def d_Yard_free : He.DefD := ⟨("Yard", some "free"), "free", "Yard.free", defArgs s_Yard_free, defBody s_Yard_free, defScope s_Yard_free, [], []⟩
def d_Yard_out : He.DefD := ⟨("Yard", some "out"), "out", "Yard.out", defArgs s_Yard_out, defBody s_Yard_out, defScope s_Yard_out, [], []⟩
def d_Yard_give : He.DefD := ⟨("Yard", some "give"), "give", "Yard.give", defArgs s_Yard_give, defBody s_Yard_give, defScope s_Yard_give, [], []⟩
def d_Yard_take_back : He.DefD := ⟨("Yard", some "take_back"), "take_back", "Yard.take_back", defArgs s_Yard_take_back, defBody s_Yard_take_back, defScope s_Yard_take_back, [], []⟩
def d_Yard_resize : He.DefD := ⟨("Yard", some "resize"), "resize", "Yard.resize", defArgs s_Yard_resize, defBody s_Yard_resize, defScope s_Yard_resize, [], []⟩
def d_by_size : He.DefD := ⟨("by_size", none), "by_size", "by_size", defArgs s_by_size, defBody s_by_size, defScope s_by_size, [], []⟩
def d_give_all : He.DefD := ⟨("give_all", none), "give_all", "give_all", defArgs s_give_all, defBody s_give_all, defScope s_give_all, [], []⟩
def d__law_whole : He.DefD := ⟨("_law_whole", none), "_law_whole", "_law_whole", defArgs s__law_whole, defBody s__law_whole, defScope s__law_whole, [], []⟩
def d__law_cell_at : He.DefD := ⟨("_law_cell_at", none), "_law_cell_at", "_law_cell_at", defArgs s__law_cell_at, defBody s__law_cell_at, defScope s__law_cell_at, [], []⟩
def d__law_doubled : He.DefD := ⟨("_law_doubled", none), "_law_doubled", "_law_doubled", defArgs s__law_doubled, defBody s__law_doubled, defScope s__law_doubled, [], []⟩
def d__law_fitting : He.DefD := ⟨("_law_fitting", none), "_law_fitting", "_law_fitting", defArgs s__law_fitting, defBody s__law_fitting, defScope s__law_fitting, [], []⟩
def d__law_yard_size : He.DefD := ⟨("_law_yard_size", none), "_law_yard_size", "_law_yard_size", defArgs s__law_yard_size, defBody s__law_yard_size, defScope s__law_yard_size, [], []⟩
def d__law_room : He.DefD := ⟨("_law_room", none), "_law_room", "_law_room", defArgs s__law_room, defBody s__law_room, defScope s__law_room, [], []⟩
def d__law_want : He.DefD := ⟨("_law_want", none), "_law_want", "_law_want", defArgs s__law_want, defBody s__law_want, defScope s__law_want, [], []⟩
def d__law_begun : He.DefD := ⟨("_law_begun", none), "_law_begun", "_law_begun", defArgs s__law_begun, defBody s__law_begun, defScope s__law_begun, [], []⟩
def d__law_done : He.DefD := ⟨("_law_done", none), "_law_done", "_law_done", defArgs s__law_done, defBody s__law_done, defScope s__law_done, [], []⟩
def d__law_beside : He.DefD := ⟨("_law_beside", none), "_law_beside", "_law_beside", defArgs s__law_beside, defBody s__law_beside, defScope s__law_beside, [], []⟩
def d__law_due : He.DefD := ⟨("_law_due", none), "_law_due", "_law_due", defArgs s__law_due, defBody s__law_due, defScope s__law_due, [], []⟩
def d__law_order : He.DefD := ⟨("_law_order", none), "_law_order", "_law_order", defArgs s__law_order, defBody s__law_order, defScope s__law_order, [], []⟩
def d__law_places : He.DefD := ⟨("_law_places", none), "_law_places", "_law_places", defArgs s__law_places, defBody s__law_places, defScope s__law_places, [], []⟩
def d__law_told : He.DefD := ⟨("_law_told", none), "_law_told", "_law_told", defArgs s__law_told, defBody s__law_told, defScope s__law_told, [], []⟩
def d_law : He.DefD := ⟨("law", none), "law", "law", defArgs s_law, defBody s_law, defScope s_law, [], []⟩
def fns : List He.DefD := [d_is_size, d_size_for, d_twin_of, d_best_of, d_without, d_cut_down, d_put_back, d_grown, d_Yard_init, d_Yard_free, d_Yard_out, d_Yard_give, d_Yard_take_back, d_Yard_resize, d_by_size, d_give_all, d__law_whole, d__law_cell_at, d__law_doubled, d__law_fitting, d__law_yard_size, d__law_room, d__law_want, d__law_begun, d__law_done, d__law_beside, d__law_due, d__law_order, d__law_places, d__law_told, d_law]
def exs (K : PySem.W.Frag) : Bool := true
abbrev RR : PySem.W.OpenRow := PySem.W.OpenLaw.row PySem.Challenge.rw_buddyyard_k09_which_piece_is_given
abbrev hk : PySem.W.Hook := He.hookX 4 fas fns [] [] exs
def ob (s : PySem.W.SharedT) : He.AlX := He.obsX 4 fas fns [] [] exs (HandSHeadRun.getT s)
theorem ob_eq (s : PySem.W.SharedT) : ob s = hk.obs s.abs := He.obsX_eq (HandSHeadRun.getT_eq s)
def loose : List PySem.Str := (["_wall", "YardError", "NoYard", "NoWish", "NoRoom", "NotOut", "is_size", "size_for", "twin_of", "best_of", "without", "cut_down", "put_back", "grown", "Yard", "by_size", "give_all", "_law_whole", "_law_cell_at", "_law_doubled", "_law_fitting", "_law_yard_size", "_law_room", "_law_want", "_law_begun", "_law_done", "_law_beside", "_law_due", "_law_order", "_law_places", "_law_told", "MOST"] : List PySem.Str)
set_option maxHeartbeats 0 in
theorem run (w : World) : HandSHeadRun.RunEq RR (PySem.W.view RR.prog [38]) hk ob 60000 loose w := by
  intro os
  kernel_rfl
theorem txt_of {w : World} {K : PySem.W.Frag} {h : Heap} {mg : Str → Option Value} (X : K.In h) (G : h.Ns mainGlobals mg) (cc : He.SaysX fas fns [] [] exs w h K) : Txt K mg := by
  have c : He.SaysD fas fns K := cc.t.d
  have m : exs K = true := cc.more
  exact
    { n_ValueError := He.free_ok X G (c.fact 0 rfl)
      n_bool := He.free_ok X G (c.fact 1 rfl)
      n_int := He.free_ok X G (c.fact 2 rfl)
      n_isinstance := He.free_ok X G (c.fact 3 rfl)
      n_len := He.free_ok X G (c.fact 4 rfl)
      n_list := He.free_ok X G (c.fact 5 rfl)
      n_max := He.free_ok X G (c.fact 6 rfl)
      n_min := He.free_ok X G (c.fact 7 rfl)
      n_range := He.free_ok X G (c.fact 8 rfl)
      n_sorted := He.free_ok X G (c.fact 9 rfl)
      g_is_size := He.glo_ok X G (c.fact 10 rfl)
      g_size_for := He.glo_ok X G (c.fact 11 rfl)
      g_twin_of := He.glo_ok X G (c.fact 12 rfl)
      g_best_of := He.glo_ok X G (c.fact 13 rfl)
      g_without := He.glo_ok X G (c.fact 14 rfl)
      g_cut_down := He.glo_ok X G (c.fact 15 rfl)
      g_put_back := He.glo_ok X G (c.fact 16 rfl)
      g_grown := He.glo_ok X G (c.fact 17 rfl)
      m_Yard_free := He.meth_ok (c.fact 18 rfl)
      m_Yard_out := He.meth_ok (c.fact 19 rfl)
      m_Yard_give := He.meth_ok (c.fact 20 rfl)
      m_Yard_take_back := He.meth_ok (c.fact 21 rfl)
      m_Yard_resize := He.meth_ok (c.fact 22 rfl)
      g_by_size := He.glo_ok X G (c.fact 23 rfl)
      g_give_all := He.glo_ok X G (c.fact 24 rfl)
      g__law_whole := He.glo_ok X G (c.fact 25 rfl)
      g__law_cell_at := He.glo_ok X G (c.fact 26 rfl)
      g__law_doubled := He.glo_ok X G (c.fact 27 rfl)
      g__law_fitting := He.glo_ok X G (c.fact 28 rfl)
      g__law_yard_size := He.glo_ok X G (c.fact 29 rfl)
      g__law_room := He.glo_ok X G (c.fact 30 rfl)
      g__law_want := He.glo_ok X G (c.fact 31 rfl)
      g__law_begun := He.glo_ok X G (c.fact 32 rfl)
      g__law_done := He.glo_ok X G (c.fact 33 rfl)
      g__law_beside := He.glo_ok X G (c.fact 34 rfl)
      g__law_due := He.glo_ok X G (c.fact 35 rfl)
      g__law_order := He.glo_ok X G (c.fact 36 rfl)
      g__law_places := He.glo_ok X G (c.fact 37 rfl)
      g__law_told := He.glo_ok X G (c.fact 38 rfl)
      g_law := He.glo_ok X G (c.fact 39 rfl)
      g_YardError := He.glo_ok X G (c.fact 40 rfl)
      g_NoYard := He.glo_ok X G (c.fact 41 rfl)
      g_NoWish := He.glo_ok X G (c.fact 42 rfl)
      g_NoRoom := He.glo_ok X G (c.fact 43 rfl)
      g_NotOut := He.glo_ok X G (c.fact 44 rfl)
      g_Yard := He.glo_ok X G (c.fact 45 rfl)
      cl := He.cls_ok (c.fact 46 rfl)
      a_cells := He.noat_ok (c.fact 47 rfl)
      a_spare := He.noat_ok (c.fact 48 rfl)
      a_given := He.noat_ok (c.fact 49 rfl)
      mkr := He.mkr_ok (c.fact 50 rfl)
      x_YardError := He.exc_ok (c.fact 51 rfl)
      x_NoYard := He.exc_ok (c.fact 52 rfl)
      x_NoWish := He.exc_ok (c.fact 53 rfl)
      x_NoRoom := He.exc_ok (c.fact 54 rfl)
      x_NotOut := He.exc_ok (c.fact 55 rfl)
      e_NoYard_NoRoom := He.exm_ok (c.fact 56 rfl)
      e_NoWish_NoRoom := He.exm_ok (c.fact 57 rfl)
      e_NoRoom_NoRoom := He.exm_ok (c.fact 58 rfl)
      e_NotOut_NoRoom := He.exm_ok (c.fact 59 rfl)
      e_NoYard_YardError := He.exm_ok (c.fact 60 rfl)
      e_NoWish_YardError := He.exm_ok (c.fact 61 rfl)
      e_NoRoom_YardError := He.exm_ok (c.fact 62 rfl)
      e_NotOut_YardError := He.exm_ok (c.fact 63 rfl)
      c_MOST := He.int_ok X G (c.fact 64 rfl)
      F_is_size := c.def_ 0 (d := d_is_size) rfl
      F_size_for := c.def_ 1 (d := d_size_for) rfl
      F_twin_of := c.def_ 2 (d := d_twin_of) rfl
      F_best_of := c.def_ 3 (d := d_best_of) rfl
      F_without := c.def_ 4 (d := d_without) rfl
      F_cut_down := c.def_ 5 (d := d_cut_down) rfl
      F_put_back := c.def_ 6 (d := d_put_back) rfl
      F_grown := c.def_ 7 (d := d_grown) rfl
      F_Yard_init := c.def_ 8 (d := d_Yard_init) rfl
      F_Yard_free := c.def_ 9 (d := d_Yard_free) rfl
      F_Yard_out := c.def_ 10 (d := d_Yard_out) rfl
      F_Yard_give := c.def_ 11 (d := d_Yard_give) rfl
      F_Yard_take_back := c.def_ 12 (d := d_Yard_take_back) rfl
      F_Yard_resize := c.def_ 13 (d := d_Yard_resize) rfl
      F_by_size := c.def_ 14 (d := d_by_size) rfl
      F_give_all := c.def_ 15 (d := d_give_all) rfl
      F__law_whole := c.def_ 16 (d := d__law_whole) rfl
      F__law_cell_at := c.def_ 17 (d := d__law_cell_at) rfl
      F__law_doubled := c.def_ 18 (d := d__law_doubled) rfl
      F__law_fitting := c.def_ 19 (d := d__law_fitting) rfl
      F__law_yard_size := c.def_ 20 (d := d__law_yard_size) rfl
      F__law_room := c.def_ 21 (d := d__law_room) rfl
      F__law_want := c.def_ 22 (d := d__law_want) rfl
      F__law_begun := c.def_ 23 (d := d__law_begun) rfl
      F__law_done := c.def_ 24 (d := d__law_done) rfl
      F__law_beside := c.def_ 25 (d := d__law_beside) rfl
      F__law_due := c.def_ 26 (d := d__law_due) rfl
      F__law_order := c.def_ 27 (d := d__law_order) rfl
      F__law_places := c.def_ 28 (d := d__law_places) rfl
      F__law_told := c.def_ 29 (d := d__law_told) rfl
      F_law := c.def_ 30 (d := d_law) rfl }
end Yd
open PySem PySem.W PySem.Calls PyProof.Rows
set_option maxHeartbeats 0 in
theorem PySem.Challenge.cw_buddyyard_k09_which_piece_is_given_holds : PySem.Challenge.rw_buddyyard_k09_which_piece_is_given.Holds := by
  w_on; o_law
  refine HandSHeadRun.head_any (r := OpenLaw.row PySem.Challenge.rw_buddyyard_k09_which_piece_is_given) (q := view (OpenLaw.row PySem.Challenge.rw_buddyyard_k09_which_piece_is_given).prog [38]) (H := Yd.hk) (ob := Yd.ob) (M := 60000) (loose := Yd.loose) (d := HandSHeadRun.topDef (OpenLaw.row PySem.Challenge.rw_buddyyard_k09_which_piece_is_given).prog 38) (kwd := []) Yd.ob_eq
    (by kernel_rfl) (fun s => by kernel_rfl) Yd.run (by kernel_rfl) (by kernel_rfl) (by kernel_rfl) (by rfl) (by first | assumption | decide +kernel) (by decide +kernel) ⟨rfl, rfl, rfl, rfl, rfl, by decide +kernel⟩ ?hw ?hc
  case hw => w_witness2
  case hc =>
    refine L2.walk_ofE (l := PySem.Challenge.rw_buddyyard_k09_which_piece_is_given) (n := 63) (k := Yd.lawLevel) (x := "_law_script") (CX := L2.CX0) rfl (by decide) (by kernel_rfl) ⟨rfl, by decide, by decide⟩ ?F (fun _ _ _ _ z => z)
    case F =>
      intro w mg fa h Y G hmg0
      obtain ⟨K, KX, c⟩ := Y
      have hmg : mg ("law" : PySem.Str) = some (.ref fa) := by
        have e : (HandSHeadRun.topDef (OpenLaw.row PySem.Challenge.rw_buddyyard_k09_which_piece_is_given).prog 38).name = ("law" : PySem.Str) := by kernel_rfl
        rw [← e]
        exact hmg0
      have T := Yd.txt_of KX G c
      have e := hmg.symm.trans T.g_law
      cases e
      obtain ⟨fd, F⟩ := T.F_law
      exact ⟨K, fd, Yd.spLaw K, KX, fun s v => L2.FunD.bindsA (ps := ["_law_script"]) F Yd.bd_law s [v] rfl, fun H a ns hl _ hS => ⟨a, ns, rfl, hS, hl, fun _ => rfl⟩, fun base h1 h2 => Yd.ok_law T F⟩
#print axioms PySem.Challenge.cw_buddyyard_k09_which_piece_is_given_holds
