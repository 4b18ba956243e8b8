import PyProof.Rows.All
import Wide.All
import OpenK.AllK
import Wide.FinOn
import HandS.ForMost
import HandS.IsInst
import HandS.TupAny
import HandS.TupLe
import HandS.Style
import HandS.Conv
import HandS.Walk
import KE.GoesEnum
import KE.GoesMore
import PySem.Challenge.RW_quiremarks_k47_whole_evidence_of_missing
import KE.SortData
import KE.KDictSum
import PyProof.TupleOfSeq
import KE.KDictKeyed
import KE.KDictDisplayH
set_option Elab.async false
set_option linter.all false
set_option maxRecDepth 100000
set_option maxHeartbeats 4000000
/-! K47, the mathematics: valid pairs, nests, right tables, the least tables, the greatest rows. Plain Lean, no program. -/
namespace K47

abbrev Pr := Nat × Nat

/-- p lies inside q -/
def ins (p q : Pr) : Bool := decide (q.1 < p.1) && decide (p.2 < q.2)
def apt (p q : Pr) : Bool := decide (p.2 < q.1) || decide (q.2 < p.1)
/-- q < p as tuples -/
def ltPr (q p : Pr) : Bool := decide (q.1 < p.1) || (decide (q.1 = p.1) && decide (q.2 < p.2))

section
variable (n : Nat) (cp : Nat → Nat → Bool)

def isPr (p : Pr) : Bool := decide (p.1 < p.2) && (decide (p.2 < n) && cp p.1 p.2)

/-- the two loops of the judge of pairs -/
def okTwo (ps : List Pr) : Bool := (List.range ps.length).all fun i => (ps.take i).all fun q => ltPr q (ps.getD i (0, 0)) && (ins (ps.getD i (0, 0)) q || apt (ps.getD i (0, 0)) q)
def okThree (ps : List Pr) : Bool := ps.all fun o => (ps.filter fun p => ins p o).all fun p => (ps.filter fun q => ins q o).all fun q => !apt p q
def okPairs (ps : List Pr) : Bool := okTwo ps && okThree ps

structure Valid (ps : List Pr) : Prop where
  pr : ∀ p ∈ ps, p.1 < p.2 ∧ p.2 < n ∧ cp p.1 p.2 = true
  two : ps.Pairwise fun q p => ltPr q p = true ∧ (ins p q = true ∨ apt p q = true)
  three : ∀ o ∈ ps, ∀ p ∈ ps, ∀ q ∈ ps, ins p o = true → ins q o = true → apt p q = false

/-- a nest within the openings a and b: each pair inside the one before -/
def Nest : Nat → Nat → List Pr → Prop
  | _, _, [] => True
  | a, b, (i, j) :: l => a ≤ i ∧ i < j ∧ j < b ∧ cp i j = true ∧ Nest (i + 1) j l

/-- nests side by side, from the opening s on -/
inductive Row : Nat → List Pr → Prop
  | nil {s : Nat} (h : s ≤ n) : Row s []
  | cons {s i j : Nat} {c l : List Pr} (h1 : s ≤ i) (h2 : i < j) (h3 : j < n) (h4 : cp i j = true) (h5 : Nest cp (i + 1) j c) (h6 : Row (j + 1) l) : Row s ((i, j) :: c ++ l)
end

section
variable {n : Nat} {cp : Nat → Nat → Bool}

theorem pairwise_take {α : Type} {R : α → α → Prop} (d : α) : ∀ {ps : List α}, ps.Pairwise R ↔ ∀ i, i < ps.length → ∀ q ∈ ps.take i, R q (ps.getD i d)
  | [] => by simp
  | a :: r => by
    rw [List.pairwise_cons, pairwise_take d (ps := r)]
    constructor
    · rintro ⟨h1, h2⟩ i hi q hq
      cases i with
      | zero => simp at hq
      | succ i =>
        have hi' : i < r.length := by simpa using hi
        rw [List.take_succ_cons] at hq
        have e : (a :: r).getD (i + 1) d = r.getD i d := by simp
        rw [e]
        rcases List.mem_cons.mp hq with rfl | hq
        · exact h1 _ (by rw [List.getD_eq_getElem?_getD, List.getElem?_eq_getElem hi']; exact List.getElem_mem hi')
        · exact h2 i hi' q hq
    · intro h
      constructor
      · intro b hb
        obtain ⟨i, hi, e⟩ := List.getElem_of_mem hb
        have := h (i + 1) (by simpa using hi) a (by rw [List.take_succ_cons]; exact List.mem_cons_self)
        have e2 : (a :: r).getD (i + 1) d = b := by simp [List.getD_eq_getElem?_getD, List.getElem?_eq_getElem hi, e]
        rwa [e2] at this
      · intro i hi q hq
        have := h (i + 1) (by simpa using hi) q (by rw [List.take_succ_cons]; exact List.mem_cons_of_mem _ hq)
        simpa using this

theorem okTwo_iff {ps : List Pr} : okTwo ps = true ↔ ps.Pairwise fun q p => ltPr q p = true ∧ (ins p q = true ∨ apt p q = true) := by
  rw [pairwise_take (0, 0)]
  unfold okTwo
  simp only [List.all_eq_true, List.mem_range, Bool.and_eq_true, Bool.or_eq_true]

theorem okThree_iff {ps : List Pr} : okThree ps = true ↔ ∀ o ∈ ps, ∀ p ∈ ps, ∀ q ∈ ps, ins p o = true → ins q o = true → apt p q = false := by
  unfold okThree
  simp only [List.all_eq_true, List.mem_filter, Bool.not_eq_true', and_imp]
  constructor
  · intro h o ho p hp q hq h1 h2
    exact h o ho p hp h1 q hq h2
  · intro h o ho p hp h1 q hq h2
    exact h o ho p hp q hq h1 h2

theorem valid_iff {ps : List Pr} : Valid n cp ps ↔ (ps.all (isPr n cp) = true ∧ okPairs ps = true) := by
  unfold okPairs
  rw [Bool.and_eq_true, okTwo_iff, okThree_iff]
  constructor
  · rintro ⟨h1, h2, h3⟩
    refine ⟨?_, h2, h3⟩
    rw [List.all_eq_true]
    intro p hp
    have := h1 p hp
    simp [isPr, this]
  · rintro ⟨h1, h2, h3⟩
    refine ⟨?_, h2, h3⟩
    rw [List.all_eq_true] at h1
    intro p hp
    have := h1 p hp
    simpa [isPr] using this

/-! ### nests and rows are the valid pairs -/
theorem ins_iff {p q : Pr} : ins p q = true ↔ q.1 < p.1 ∧ p.2 < q.2 := by simp [ins]
theorem apt_iff {p q : Pr} : apt p q = true ↔ p.2 < q.1 ∨ q.2 < p.1 := by simp [apt]
theorem apt_false {p q : Pr} : apt p q = false ↔ q.1 ≤ p.2 ∧ p.1 ≤ q.2 := by simp [apt]
theorem ltPr_iff {p q : Pr} : ltPr q p = true ↔ q.1 < p.1 ∨ (q.1 = p.1 ∧ q.2 < p.2) := by simp [ltPr]

theorem Nest.mem : ∀ {l : List Pr} {a b : Nat}, Nest cp a b l → ∀ p ∈ l, a ≤ p.1 ∧ p.1 < p.2 ∧ p.2 < b ∧ cp p.1 p.2 = true
  | [], _, _, _, p, hp => by simp at hp
  | (i, j) :: l, a, b, ⟨h1, h2, h3, h4, h5⟩, p, hp => by
    rcases List.mem_cons.mp hp with rfl | hp
    · exact ⟨h1, h2, h3, h4⟩
    · have m := Nest.mem h5 p hp
      exact ⟨by omega, m.2.1, by omega, m.2.2.2⟩
theorem Nest.wide {l : List Pr} {a b a' b' : Nat} (ha : a' ≤ a) (hb : b ≤ b') (h : Nest cp a b l) : Nest cp a' b' l := by
  cases l with
  | nil => trivial
  | cons p l =>
    obtain ⟨i, j⟩ := p
    obtain ⟨h1, h2, h3, h4, h5⟩ := h
    exact ⟨by omega, h2, by omega, h4, h5⟩
theorem Nest.pairwise : ∀ {l : List Pr} {a b : Nat}, Nest cp a b l → l.Pairwise fun q p => q.1 < p.1 ∧ p.2 < q.2
  | [], _, _, _ => List.Pairwise.nil
  | (i, j) :: l, a, b, ⟨h1, h2, h3, h4, h5⟩ => by
    refine List.pairwise_cons.mpr ⟨fun p hp => ?_, Nest.pairwise h5⟩
    have := Nest.mem h5 p hp
    show i < p.1 ∧ p.2 < j
    omega
theorem Nest.len2 : ∀ {l : List Pr} {a b : Nat}, Nest cp a b l → a ≤ b → 2 * l.length + a ≤ b
  | [], _, _, _, h => by simpa using h
  | (i, j) :: l, a, b, ⟨h1, h2, h3, h4, h5⟩, _ => by
    have := Nest.len2 h5 (by omega)
    rw [List.length_cons]
    omega

theorem Row.le {s : Nat} {l : List Pr} (h : Row n cp s l) : s ≤ n := by
  cases h with
  | nil h => exact h
  | cons h1 h2 h3 _ _ _ => omega
theorem Row.down {s s' : Nat} {l : List Pr} (hs : s' ≤ s) (h : Row n cp s l) : Row n cp s' l := by
  cases h with
  | nil h => exact .nil (by omega)
  | cons h1 h2 h3 h4 h5 h6 => exact .cons (by omega) h2 h3 h4 h5 h6
theorem Row.mem {s : Nat} {l : List Pr} (h : Row n cp s l) : ∀ p ∈ l, s ≤ p.1 ∧ p.1 < p.2 ∧ p.2 < n ∧ cp p.1 p.2 = true := by
  induction h with
  | nil h => intro p hp; simp at hp
  | @cons s i j c l h1 h2 h3 h4 h5 h6 ih =>
    intro p hp
    rcases List.mem_append.mp hp with hp | hp
    · rcases List.mem_cons.mp hp with rfl | hp
      · exact ⟨h1, h2, h3, h4⟩
      · have m := Nest.mem h5 p hp
        exact ⟨by omega, m.2.1, by omega, m.2.2.2⟩
    · have m := ih p hp
      exact ⟨by omega, m.2.1, m.2.2.1, m.2.2.2⟩
theorem Row.len2 {s : Nat} {l : List Pr} (h : Row n cp s l) : 2 * l.length + s ≤ n := by
  induction h with
  | nil h => simpa using h
  | @cons s i j c l h1 h2 h3 h4 h5 h6 ih =>
    have := Nest.len2 h5 (by omega)
    rw [List.length_append, List.length_cons]
    omega

theorem Row.valid {s : Nat} {l : List Pr} (h : Row n cp s l) : Valid n cp l := by
  refine ⟨fun p hp => (h.mem p hp).2, ?_, ?_⟩
  · induction h with
    | nil h => exact List.Pairwise.nil
    | @cons s i j c l h1 h2 h3 h4 h5 h6 ih =>
      refine List.pairwise_append.mpr ⟨?_, ih, fun q hq p hp => ?_⟩
      · have hn : Nest cp s n ((i, j) :: c) := ⟨h1, h2, h3, h4, h5⟩
        refine hn.pairwise.imp fun {q p} h => ?_
        exact ⟨ltPr_iff.mpr (.inl h.1), .inl (ins_iff.mpr h)⟩
      · have m := h6.mem p hp
        have mq : q.1 ≤ j ∧ q.2 ≤ j ∧ q.1 < q.2 := by
          rcases List.mem_cons.mp hq with rfl | hq
          · exact ⟨Nat.le_of_lt h2, Nat.le_refl _, h2⟩
          · have := Nest.mem h5 q hq
            omega
        exact ⟨ltPr_iff.mpr (.inl (by omega)), .inr (apt_iff.mpr (.inr (by omega)))⟩
  · induction h with
    | nil h => intro o ho; simp at ho
    | @cons s i j c l h1 h2 h3 h4 h5 h6 ih =>
      have hn : Nest cp s (j + 1) ((i, j) :: c) := ⟨h1, h2, by omega, h4, h5⟩
      have left : ∀ o ∈ (i, j) :: c, o.1 < o.2 ∧ o.2 ≤ j := fun o ho => by
        have := Nest.mem hn o ho
        omega
      have right : ∀ o ∈ l, j < o.1 ∧ o.1 < o.2 := fun o ho => by
        have := h6.mem o ho
        omega
      intro o ho p hp q hq ip iq
      rw [ins_iff] at ip iq
      rcases List.mem_append.mp ho with ho | ho
      · have lo := left o ho
        have pl : p ∈ (i, j) :: c := by
          rcases List.mem_append.mp hp with h | h
          · exact h
          · have := right p h; omega
        have ql : q ∈ (i, j) :: c := by
          rcases List.mem_append.mp hq with h | h
          · exact h
          · have := right q h; omega
        -- two pairs of one nest are never apart
        have pw := hn.pairwise
        have lp := left p pl
        have lq := left q ql
        obtain ⟨a, ha, ea⟩ := List.getElem_of_mem pl
        obtain ⟨b, hb, eb⟩ := List.getElem_of_mem ql
        rw [apt_false]
        rw [List.pairwise_iff_getElem] at pw
        rcases Nat.lt_trichotomy a b with hab | hab | hab
        · have := pw a b ha hb hab
          rw [ea, eb] at this
          omega
        · subst hab
          have : p = q := ea.symm.trans eb
          subst this
          omega
        · have := pw b a hb ha hab
          rw [ea, eb] at this
          omega
      · have ro := right o ho
        have pl : p ∈ l := by
          rcases List.mem_append.mp hp with h | h
          · have := left p h; omega
          · exact h
        have ql : q ∈ l := by
          rcases List.mem_append.mp hq with h | h
          · have := left q h; omega
          · exact h
        exact ih o ho p pl q ql (ins_iff.mpr ip) (ins_iff.mpr iq)

theorem Valid.tail {p : Pr} {l : List Pr} (h : Valid n cp (p :: l)) : Valid n cp l :=
  ⟨fun q hq => h.pr q (List.mem_cons_of_mem _ hq), (List.pairwise_cons.mp h.two).2, fun o ho p hp q hq => h.three o (List.mem_cons_of_mem _ ho) p (List.mem_cons_of_mem _ hp) q (List.mem_cons_of_mem _ hq)⟩
theorem Valid.prefix {l m : List Pr} (h : Valid n cp (l ++ m)) : Valid n cp l :=
  ⟨fun q hq => h.pr q (List.mem_append_left _ hq), (List.pairwise_append.mp h.two).1, fun o ho p hp q hq => h.three o (List.mem_append_left _ ho) p (List.mem_append_left _ hp) q (List.mem_append_left _ hq)⟩
theorem Valid.first_lt {p : Pr} {l : List Pr} (h : Valid n cp (p :: l)) : ∀ q ∈ l, p.1 < q.1 ∧ (q.2 < p.2 ∨ p.2 < q.1) := by
  intro q hq
  obtain ⟨h1, h2⟩ := (List.pairwise_cons.mp h.two).1 q hq
  have hp := h.pr p List.mem_cons_self
  have hq' := h.pr q (List.mem_cons_of_mem _ hq)
  rw [ltPr_iff] at h1
  rw [ins_iff, apt_iff] at h2
  omega

/-- a chain of pairs, all inside one pair, is a nest -/
theorem nest_of_chain : ∀ {l : List Pr} {a b : Nat}, Valid n cp l → (∀ p ∈ l, a ≤ p.1 ∧ p.2 < b) → (∀ p ∈ l, ∀ q ∈ l, apt p q = false) → Nest cp a b l
  | [], _, _, _, _, _ => trivial
  | (i, j) :: l, a, b, v, hb, hc => by
    have hp := v.pr (i, j) List.mem_cons_self
    have hab := hb (i, j) List.mem_cons_self
    refine ⟨hab.1, hp.1, hab.2, hp.2.2, nest_of_chain v.tail (fun q hq => ?_) (fun p hp' q hq => hc p (List.mem_cons_of_mem _ hp') q (List.mem_cons_of_mem _ hq))⟩
    have f := v.first_lt q hq
    have na := hc (i, j) List.mem_cons_self q (List.mem_cons_of_mem _ hq)
    rw [apt_false] at na
    simp only at f na hp hab ⊢
    omega

theorem Valid.row : ∀ {k : Nat} {l : List Pr} {s : Nat}, l.length ≤ k → s ≤ n → Valid n cp l → (∀ p ∈ l, s ≤ p.1) → Row n cp s l
  | _, [], s, _, hs, _, _ => .nil hs
  | 0, _ :: _, _, hk, _, _, _ => by simp at hk
  | k + 1, (i, j) :: l, s, hk, _, v, hm => by
    have hp := v.pr (i, j) List.mem_cons_self
    have hi := hm (i, j) List.mem_cons_self
    simp only at hp hi
    -- split l where the pairs leave (i, j)
    have split : ∃ c r, l = c ++ r ∧ (∀ q ∈ c, i < q.1 ∧ q.2 < j) ∧ (∀ q ∈ r, j < q.1) := by
      have hf := v.first_lt
      have hv := v.tail
      clear hk hm hi
      clear v
      induction l with
      | nil => exact ⟨[], [], rfl, by simp, by simp⟩
      | cons q l ih =>
        have f := hf q List.mem_cons_self
        rcases f.2 with h | h
        · obtain ⟨c, r, e, h1, h2⟩ := ih (fun q' hq' => hf q' (List.mem_cons_of_mem _ hq')) hv.tail
          refine ⟨q :: c, r, by rw [e]; rfl, fun q' hq' => ?_, h2⟩
          rcases List.mem_cons.mp hq' with rfl | hq'
          · exact ⟨f.1, h⟩
          · exact h1 q' hq'
        · refine ⟨[], q :: l, rfl, by simp, fun q' hq' => ?_⟩
          rcases List.mem_cons.mp hq' with rfl | hq'
          · exact h
          · have := hv.first_lt q' hq'
            simp only at h this
            omega
    obtain ⟨c, r, rfl, hc, hr⟩ := split
    have vc : Valid n cp c := v.tail.prefix
    have vr : Valid n cp r := ⟨fun q hq => v.tail.pr q (List.mem_append_right _ hq), (List.pairwise_append.mp v.tail.two).2.1,
      fun o ho p hp q hq => v.tail.three o (List.mem_append_right _ ho) p (List.mem_append_right _ hp) q (List.mem_append_right _ hq)⟩
    refine .cons hi hp.1 hp.2.1 hp.2.2 (nest_of_chain vc (fun q hq => ⟨(hc q hq).1, (hc q hq).2⟩) fun p hp' q hq => ?_) (Valid.row (k := k) ?_ (by omega) vr fun q hq => hr q hq)
    · exact v.three (i, j) List.mem_cons_self p (List.mem_cons_of_mem _ (List.mem_append_left _ hp')) q (List.mem_cons_of_mem _ (List.mem_append_left _ hq)) (ins_iff.mpr (hc p hp')) (ins_iff.mpr (hc q hq))
    · rw [List.length_cons, List.length_append] at hk
      omega
theorem valid_row {l : List Pr} : Valid n cp l ↔ Row n cp 0 l := ⟨fun v => v.row (Nat.le_refl _) (Nat.zero_le _) fun _ _ => Nat.zero_le _, Row.valid⟩

/-! ### right tables bound every row -/
structure Right (n : Nat) (cp : Nat → Nat → Bool) (N : Nat → Nat → Int) (E : Nat → Int) : Prop where
  pos : ∀ i j, i ≤ j → j ≤ n → 0 ≤ N i j
  left : ∀ i j, i < j → j ≤ n → N (i + 1) j ≤ N i j
  right : ∀ i j, i < j → j ≤ n → N i (j - 1) ≤ N i j
  pair : ∀ i j, i + 1 < j → j ≤ n → cp i (j - 1) = true → N (i + 1) (j - 1) + 1 ≤ N i j
  last : 0 ≤ E n
  ends : ∀ i j, i < j → j ≤ n → N i j + E j ≤ E i

section
variable {N : Nat → Nat → Int} {E : Nat → Int} (R : Right n cp N E)
include R
theorem Right.mono_left : ∀ (d i j : Nat), i + d ≤ j → j ≤ n → N (i + d) j ≤ N i j
  | 0, i, j, _, _ => Int.le_refl _
  | d + 1, i, j, h, hj => by
    have h1 := Right.mono_left d (i + 1) j (by omega) hj
    have h2 := R.left i j (by omega) hj
    have e : i + 1 + d = i + (d + 1) := by omega
    rw [e] at h1
    omega
theorem Right.mono_right : ∀ (d i j : Nat), i ≤ j → j + d ≤ n → N i j ≤ N i (j + d)
  | 0, i, j, _, _ => Int.le_refl _
  | d + 1, i, j, h, hj => by
    have h1 := Right.mono_right d i j h (by omega)
    have h2 := R.right i (j + (d + 1)) (by omega) hj
    have e : j + (d + 1) - 1 = j + d := by omega
    rw [e] at h2
    omega
theorem Right.mono {i j a b : Nat} (h1 : a ≤ i) (h2 : i ≤ j) (h3 : j ≤ b) (h4 : b ≤ n) : N i j ≤ N a b := by
  have e1 := R.mono_left (i - a) a j (by omega) (by omega)
  have e2 := R.mono_right (b - j) a j (by omega) (by omega)
  rw [show a + (i - a) = i by omega] at e1
  rw [show j + (b - j) = b by omega] at e2
  omega
theorem Right.step {i j a b : Nat} (h1 : a ≤ i) (h2 : i < j) (h3 : j < b) (h4 : b ≤ n) (hc : cp i j = true) : N (i + 1) j + 1 ≤ N a b := by
  have e1 := R.pair i (j + 1) (by omega) (by omega) (by simpa using hc)
  have e2 := R.mono (i := i) (j := j + 1) h1 (by omega) (by omega) h4
  simp only [Nat.add_sub_cancel] at e1
  omega
theorem Right.nest : ∀ {l : List Pr} {a b : Nat}, Nest cp a b l → a ≤ b → b ≤ n → (l.length : Int) ≤ N a b
  | [], a, b, _, h, hb => R.pos a b h hb
  | (i, j) :: l, a, b, ⟨h1, h2, h3, h4, h5⟩, _, hb => by
    have ih := Right.nest h5 (by omega) (by omega)
    have := R.step h1 h2 h3 hb h4
    rw [List.length_cons]
    omega
theorem Right.ends0 {i : Nat} (h : i ≤ n) : 0 ≤ E i := by
  rcases Nat.lt_or_eq_of_le h with h | h
  · have h1 := R.ends i n h (Nat.le_refl _)
    have h2 := R.pos i n (by omega) (Nat.le_refl _)
    have h3 := R.last
    omega
  · subst h; exact R.last
theorem Right.row {s : Nat} {l : List Pr} (h : Row n cp s l) : (l.length : Int) ≤ E s := by
  induction h with
  | nil h => exact R.ends0 h
  | @cons s i j c l h1 h2 h3 h4 h5 h6 ih =>
    have hn : Nest cp s (j + 1) ((i, j) :: c) := ⟨h1, h2, by omega, h4, h5⟩
    have e1 := R.nest hn (by omega) (by omega)
    have e2 := R.ends s (j + 1) (by omega) (by omega)
    rw [List.length_append]
    omega
end

/-! ### the least tables -/
section
variable (n : Nat) (cp : Nat → Nat → Bool)
/-- the most pairs of one nest, for the opening i and i + length -/
def tl : Nat → Nat → Nat
  | 0, _ => 0
  | 1, _ => 0
  | l + 2, i => if cp i (i + l + 1) = true then max (max (tl (l + 1) (i + 1)) (tl (l + 1) i)) (tl l (i + 1) + 1) else max (tl (l + 1) (i + 1)) (tl (l + 1) i)
def tb (i j : Nat) : Nat := tl cp (j - i) i
def maxl : List Nat → Nat
  | [] => 0
  | x :: r => max x (maxl r)
/-- the ends for the last k + 1 openings -/
def el : Nat → List Nat
  | 0 => [0]
  | k + 1 => maxl ((List.range (k + 1)).map fun m => tb cp (n - (k + 1)) (n - k + m) + (el k).getD m 0) :: el k
def en (i : Nat) : Nat := (el n cp (n - i)).getD 0 0
end

theorem maxl_le : ∀ {l : List Nat} {x : Nat}, x ∈ l → x ≤ maxl l
  | [], x, h => by simp at h
  | y :: r, x, h => by
    unfold maxl
    rcases List.mem_cons.mp h with rfl | h
    · exact Nat.le_max_left _ _
    · exact Nat.le_trans (maxl_le h) (Nat.le_max_right _ _)
theorem maxl_mem : ∀ {l : List Nat}, l ≠ [] → maxl l ∈ l
  | [], h => absurd rfl h
  | [x], _ => by simp [maxl]
  | x :: y :: r, _ => by
    have ih := maxl_mem (l := y :: r) (by simp)
    show max x (maxl (y :: r)) ∈ _
    rcases Nat.le_total x (maxl (y :: r)) with h | h
    · rw [Nat.max_eq_right h]; exact List.mem_cons_of_mem _ ih
    · rw [Nat.max_eq_left h]; exact List.mem_cons_self
theorem maxl_is {l : List Nat} {m : Nat} (h : m ∈ l) (h2 : ∀ y ∈ l, y ≤ m) : m = maxl l := by
  have h1 := maxl_le h
  have h3 := h2 _ (maxl_mem (fun e => by rw [e] at h; simp at h))
  omega

theorem el_length : ∀ k, (el n cp k).length = k + 1
  | 0 => rfl
  | k + 1 => by
    show (el n cp k).length + 1 = _
    rw [el_length k]
theorem el_getD : ∀ (k m : Nat), m ≤ k → (el n cp k).getD m 0 = (el n cp (k - m)).getD 0 0
  | k, 0, _ => rfl
  | 0, m + 1, h => by omega
  | k + 1, m + 1, h => by
    have e : (el n cp (k + 1)).getD (m + 1) 0 = (el n cp k).getD m 0 := by simp [el]
    rw [e, el_getD k m (by omega)]
    congr 2
    omega
theorem el_en {k m : Nat} (hk : k ≤ n) (h : m ≤ k) : (el n cp k).getD m 0 = en n cp (n - k + m) := by
  rw [el_getD k m h]
  unfold en
  congr 2
  omega
theorem en_last : en n cp n = 0 := by
  unfold en
  rw [Nat.sub_self]
  rfl
theorem en_eq {i : Nat} (h : i < n) : en n cp i = maxl ((List.range (n - i)).map fun m => tb cp i (i + 1 + m) + en n cp (i + 1 + m)) := by
  obtain ⟨k, hk⟩ : ∃ k, n - i = k + 1 := ⟨n - i - 1, by omega⟩
  have e1 : en n cp i = maxl ((List.range (k + 1)).map fun m => tb cp (n - (k + 1)) (n - k + m) + (el n cp k).getD m 0) := by
    unfold en
    rw [hk]
    simp [el]
  rw [e1, hk]
  congr 1
  refine List.map_congr_left fun m hm => ?_
  have hm' : m < k + 1 := List.mem_range.mp hm
  rw [el_en (by omega) (by omega), show n - (k + 1) = i by omega, show n - k = i + 1 by omega]
theorem en_ge {i j : Nat} (h : i < j) (hj : j ≤ n) : tb cp i j + en n cp j ≤ en n cp i := by
  rw [en_eq (i := i) (by omega)]
  refine maxl_le (List.mem_map.mpr ⟨j - i - 1, List.mem_range.mpr (by omega), ?_⟩)
  rw [show i + 1 + (j - i - 1) = j by omega]
theorem en_at {i : Nat} (h : i < n) : ∃ j, i < j ∧ j ≤ n ∧ tb cp i j + en n cp j = en n cp i := by
  have := maxl_mem (l := (List.range (n - i)).map fun m => tb cp i (i + 1 + m) + en n cp (i + 1 + m)) (by
    intro e
    have := congrArg List.length e
    simp at this
    omega)
  rw [← en_eq h] at this
  obtain ⟨m, hm, e⟩ := List.mem_map.mp this
  exact ⟨i + 1 + m, by omega, by have := List.mem_range.mp hm; omega, e⟩

theorem tb_self {i : Nat} : tb cp i i = 0 := by unfold tb; rw [Nat.sub_self]; rfl
theorem tb_one {i : Nat} : tb cp i (i + 1) = 0 := by unfold tb; rw [Nat.add_sub_cancel_left]; rfl
theorem tb_eq {i j : Nat} (h : i + 1 < j) : tb cp i j = if cp i (j - 1) = true then max (max (tb cp (i + 1) j) (tb cp i (j - 1))) (tb cp (i + 1) (j - 1) + 1) else max (tb cp (i + 1) j) (tb cp i (j - 1)) := by
  obtain ⟨l, hl⟩ : ∃ l, j = i + l + 2 := ⟨j - i - 2, by omega⟩
  subst hl
  unfold tb
  rw [show i + l + 2 - i = l + 2 by omega, show i + l + 2 - (i + 1) = l + 1 by omega, show i + l + 2 - 1 - i = l + 1 by omega, show i + l + 2 - 1 - (i + 1) = l by omega, show i + l + 2 - 1 = i + l + 1 by omega]
  rfl
theorem tb_left {i j : Nat} (h : i < j) : tb cp (i + 1) j ≤ tb cp i j := by
  rcases Nat.lt_or_eq_of_le (show i + 1 ≤ j from h) with h | h
  · rw [tb_eq h]
    split <;> omega
  · subst h; rw [tb_self, tb_one]; exact Nat.le_refl _
theorem tb_right {i j : Nat} (h : i < j) : tb cp i (j - 1) ≤ tb cp i j := by
  rcases Nat.lt_or_eq_of_le (show i + 1 ≤ j from h) with h | h
  · rw [tb_eq h]
    split <;> omega
  · subst h; rw [tb_one, Nat.add_sub_cancel, tb_self]; exact Nat.le_refl _
theorem tb_pair {i j : Nat} (h : i + 1 < j) (hc : cp i (j - 1) = true) : tb cp (i + 1) (j - 1) + 1 ≤ tb cp i j := by
  rw [tb_eq h, if_pos hc]
  omega
theorem least_right : Right n cp (fun i j => (tb cp i j : Int)) (fun i => (en n cp i : Int)) where
  pos := fun i j _ _ => by omega
  left := fun i j h _ => by have := tb_left (cp := cp) h; omega
  right := fun i j h _ => by have := tb_right (cp := cp) h; omega
  pair := fun i j h _ hc => by have := tb_pair (cp := cp) h hc; omega
  last := by omega
  ends := fun i j h hj => by have := en_ge (n := n) (cp := cp) h hj; omega

/-! ### nests and rows with the most pairs -/
def MaxNest (cp : Nat → Nat → Bool) (s e : Nat) (l : List Pr) : Prop := Nest cp s e l ∧ l.length = tb cp s e
def MaxRow (n : Nat) (cp : Nat → Nat → Bool) (s : Nat) (l : List Pr) : Prop := Row n cp s l ∧ l.length = en n cp s

theorem tb_nest {l : List Pr} {a b : Nat} (h : Nest cp a b l) (hab : a ≤ b) : l.length ≤ tb cp a b := by
  have := (least_right (n := b) (cp := cp)).nest h hab (Nat.le_refl _)
  omega
theorem tb_step {i j a b : Nat} (h1 : a ≤ i) (h2 : i < j) (h3 : j < b) (hc : cp i j = true) : tb cp (i + 1) j + 1 ≤ tb cp a b := by
  have := (least_right (n := b) (cp := cp)).step h1 h2 h3 (Nat.le_refl _) hc
  omega
theorem maxNest_nil {s e : Nat} (h : tb cp s e = 0) (l : List Pr) : MaxNest cp s e l ↔ l = [] := by
  constructor
  · rintro ⟨_, hl⟩
    rw [h] at hl
    exact List.length_eq_zero_iff.mp hl
  · rintro rfl
    exact ⟨trivial, by rw [h]; rfl⟩
theorem maxNest_cons {s e : Nat} (h : tb cp s e ≠ 0) (l : List Pr) :
    MaxNest cp s e l ↔ ∃ i j l', s ≤ i ∧ i < e ∧ i + 1 ≤ j ∧ j < e ∧ cp i j = true ∧ tb cp (i + 1) j + 1 = tb cp s e ∧ MaxNest cp (i + 1) j l' ∧ l = (i, j) :: l' := by
  constructor
  · rintro ⟨hn, hl⟩
    cases l with
    | nil => exact absurd hl.symm h
    | cons p l' =>
      obtain ⟨i, j⟩ := p
      obtain ⟨h1, h2, h3, h4, h5⟩ := hn
      have e1 := tb_nest h5 (by omega)
      have e2 := tb_step (cp := cp) h1 h2 h3 h4
      rw [List.length_cons] at hl
      exact ⟨i, j, l', h1, by omega, h2, h3, h4, by omega, ⟨h5, by omega⟩, rfl⟩
  · rintro ⟨i, j, l', h1, h2, h3, h4, h5, h6, ⟨h7, h8⟩, rfl⟩
    exact ⟨⟨h1, h3, h4, h5, h7⟩, by rw [List.length_cons, h8, h6]⟩
theorem maxNest_some : ∀ (k : Nat) {s e : Nat}, e - s ≤ k → ∃ l, MaxNest cp s e l
  | 0, s, e, h => ⟨[], trivial, by unfold tb; rw [show e - s = 0 by omega]; rfl⟩
  | k + 1, s, e, h => by
    by_cases h1 : s + 1 < e
    · have := tb_eq (cp := cp) h1
      by_cases a1 : tb cp s e = tb cp (s + 1) e
      · obtain ⟨l, h2, h3⟩ := maxNest_some k (s := s + 1) (e := e) (by omega)
        exact ⟨l, h2.wide (by omega) (Nat.le_refl _), by rw [h3, a1]⟩
      · by_cases a2 : tb cp s e = tb cp s (e - 1)
        · obtain ⟨l, h2, h3⟩ := maxNest_some k (s := s) (e := e - 1) (by omega)
          exact ⟨l, h2.wide (Nat.le_refl _) (by omega), by rw [h3, a2]⟩
        · by_cases hc : cp s (e - 1) = true
          · rw [if_pos hc] at this
            obtain ⟨l, h2, h3⟩ := maxNest_some k (s := s + 1) (e := e - 1) (by omega)
            refine ⟨(s, e - 1) :: l, ⟨Nat.le_refl _, by omega, by omega, hc, h2⟩, ?_⟩
            rw [List.length_cons, h3]
            omega
          · rw [if_neg hc] at this
            omega
    · refine ⟨[], trivial, ?_⟩
      rcases Nat.lt_or_ge s e with h2 | h2
      · rw [show e = s + 1 by omega, tb_one]; rfl
      · unfold tb; rw [show e - s = 0 by omega]; rfl

theorem maxRow_last (l : List Pr) : MaxRow n cp n l ↔ l = [] := by
  constructor
  · rintro ⟨h, hl⟩
    rw [en_last] at hl
    exact List.length_eq_zero_iff.mp hl
  · rintro rfl
    exact ⟨.nil (Nat.le_refl _), by rw [en_last]; rfl⟩
theorem Row.len_le {s : Nat} {l : List Pr} (h : Row n cp s l) : l.length ≤ en n cp s := by
  have := (least_right (n := n) (cp := cp)).row h
  omega
theorem row_join {s e : Nat} {c l : List Pr} (hc : Nest cp s e c) (hse : s ≤ e) (hl : Row n cp e l) : Row n cp s (c ++ l) := by
  cases c with
  | nil => exact hl.down hse
  | cons p c =>
    obtain ⟨i, j⟩ := p
    obtain ⟨h1, h2, h3, h4, h5⟩ := hc
    have := hl.le
    exact .cons h1 h2 (by omega) h4 h5 (hl.down (by omega))
theorem maxRow_cons {s : Nat} (h : s < n) (l : List Pr) :
    MaxRow n cp s l ↔ ∃ e c r, s + 1 ≤ e ∧ e ≤ n ∧ tb cp s e + en n cp e = en n cp s ∧ MaxNest cp s e c ∧ MaxRow n cp e r ∧ l = c ++ r := by
  constructor
  · rintro ⟨hr, hl⟩
    cases hr with
    | nil _ =>
      have e0 : en n cp s = 0 := hl.symm
      have e1 := en_ge (n := n) (cp := cp) (i := s) (j := s + 1) (by omega) (by omega)
      exact ⟨s + 1, [], [], Nat.le_refl _, h, by omega, ⟨trivial, by rw [tb_one]; rfl⟩, ⟨.nil h, by show 0 = _; omega⟩, rfl⟩
    | @cons s i j c r h1 h2 h3 h4 h5 h6 =>
      have hn : Nest cp s (j + 1) ((i, j) :: c) := ⟨h1, h2, by omega, h4, h5⟩
      have e1 := tb_nest hn (by omega)
      have e2 := h6.len_le
      have e3 := en_ge (n := n) (cp := cp) (i := s) (j := j + 1) (by omega) (by omega)
      rw [List.length_append] at hl
      exact ⟨j + 1, (i, j) :: c, r, by omega, by omega, by omega, ⟨hn, by omega⟩, ⟨h6, by omega⟩, rfl⟩
  · rintro ⟨e, c, r, h1, h2, h3, ⟨h4, h5⟩, ⟨h6, h7⟩, rfl⟩
    exact ⟨row_join h4 (by omega) h6, by rw [List.length_append]; omega⟩
theorem maxRow_some : ∀ (k : Nat) {s : Nat}, s ≤ n → n - s ≤ k → ∃ l, MaxRow n cp s l
  | 0, s, hs, h => by
    have : s = n := by omega
    subst this
    exact ⟨[], (maxRow_last []).mpr rfl⟩
  | k + 1, s, hs, h => by
    rcases Nat.lt_or_eq_of_le hs with h1 | h1
    · obtain ⟨e, a1, a2, a3⟩ := en_at (cp := cp) h1
      obtain ⟨r, hr⟩ := maxRow_some k (s := e) a2 (by omega)
      obtain ⟨c, hc⟩ := maxNest_some (cp := cp) (e - s) (s := s) (e := e) (Nat.le_refl _)
      exact ⟨c ++ r, (maxRow_cons h1 _).mpr ⟨e, c, r, a1, a2, a3, hc, hr, rfl⟩⟩
    · subst h1
      exact ⟨[], (maxRow_last []).mpr rfl⟩
theorem tb_half {s e : Nat} (h : s ≤ e) : 2 * tb cp s e + s ≤ e := by
  obtain ⟨l, h1, h2⟩ := maxNest_some (cp := cp) (e - s) (s := s) (e := e) (Nat.le_refl _)
  have := Nest.len2 h1 h
  omega
theorem en_half {s : Nat} (h : s ≤ n) : 2 * en n cp s + s ≤ n := by
  obtain ⟨l, h1, h2⟩ := maxRow_some (n := n) (cp := cp) (n - s) h (Nat.le_refl _)
  have := h1.len2
  omega
end
end K47
/-! K47, the mathematics: the order of rows, all valid rows listed, tables judged integer by integer. Plain Lean, no program. -/
namespace K47

/-! ### the order of rows (tuples of pairs) -/
def ltRow : List Pr → List Pr → Bool
  | _, [] => false
  | [], _ :: _ => true
  | x :: xs, y :: ys => if x = y then ltRow xs ys else ltPr x y

theorem ltPr_irr (x : Pr) : ltPr x x = false := by
  rw [← Bool.not_eq_true, ltPr_iff]
  omega
theorem ltPr_asym {x y : Pr} (h : ltPr x y = true) : ltPr y x = false := by
  rw [← Bool.not_eq_true, ltPr_iff]
  rw [ltPr_iff] at h
  omega
theorem ltPr_tot {x y : Pr} (h : ltPr x y = false) (h2 : ltPr y x = false) : x = y := by
  rw [← Bool.not_eq_true, ltPr_iff] at h h2
  refine Prod.ext ?_ ?_ <;> omega
theorem ltPr_trans {x y z : Pr} (h : ltPr x y = true) (h2 : ltPr y z = true) : ltPr x z = true := by
  rw [ltPr_iff] at *
  omega
theorem ltRow_nil (x : List Pr) : ltRow x [] = false := by cases x <;> rfl
theorem ltRow_cons (x y : Pr) (xs ys : List Pr) : ltRow (x :: xs) (y :: ys) = if x = y then ltRow xs ys else ltPr x y := rfl
theorem ltRow_asym : ∀ {x y : List Pr}, ltRow x y = true → ltRow y x = false
  | _, [], h => by rw [ltRow_nil] at h; cases h
  | [], _ :: _, _ => rfl
  | x :: xs, y :: ys, h => by
    rw [ltRow_cons] at h ⊢
    by_cases e : x = y
    · subst e
      rw [if_pos rfl] at h ⊢
      exact ltRow_asym h
    · rw [if_neg e] at h
      rw [if_neg (fun q => e q.symm)]
      exact ltPr_asym h
theorem ltRow_tot : ∀ {x y : List Pr}, ltRow x y = false → ltRow y x = false → x = y
  | [], [], _, _ => rfl
  | [], _ :: _, h, _ => by cases h
  | _ :: _, [], _, h => by cases h
  | x :: xs, y :: ys, h, h2 => by
    rw [ltRow_cons] at h h2
    by_cases e : x = y
    · subst e
      rw [if_pos rfl] at h h2
      rw [ltRow_tot h h2]
    · rw [if_neg e] at h
      rw [if_neg (fun q => e q.symm)] at h2
      exact absurd (ltPr_tot h h2) e
theorem ltRow_trans : ∀ {x y z : List Pr}, ltRow x y = true → ltRow y z = true → ltRow x z = true
  | _, _, [], _, h => by rw [ltRow_nil] at h; cases h
  | _, [], _ :: _, h, _ => by rw [ltRow_nil] at h; cases h
  | [], _ :: _, _ :: _, _, _ => rfl
  | x :: xs, y :: ys, z :: zs, h, h2 => by
    rw [ltRow_cons] at h h2 ⊢
    by_cases e : x = y
    · subst e
      rw [if_pos rfl] at h
      by_cases e2 : x = z
      · subst e2
        rw [if_pos rfl] at h2 ⊢
        exact ltRow_trans h h2
      · rw [if_neg e2] at h2 ⊢
        exact h2
    · rw [if_neg e] at h
      by_cases e2 : y = z
      · subst e2
        rw [if_pos rfl] at h2
        rw [if_neg e]
        exact h
      · rw [if_neg e2] at h2
        have h3 := ltPr_trans h h2
        by_cases e3 : x = z
        · subst e3
          rw [ltPr_irr] at h3
          cases h3
        · rw [if_neg e3]
          exact h3
/-- not above, twice -/
theorem ltRow_tr {x y z : List Pr} (h : ltRow y x = false) (h2 : ltRow z y = false) : ltRow z x = false := by
  cases e : ltRow z x with
  | false => rfl
  | true =>
    cases e2 : ltRow x y with
    | true =>
      have := ltRow_trans e e2
      rw [h2] at this
      cases this
    | false =>
      have e3 := ltRow_tot e2 h
      subst e3
      rw [h2] at e
      cases e

/-- the first of two lists in order with the same rows -/
theorem head_same {a b : List Pr} {l m : List (List Pr)} (hl : (a :: l).Pairwise fun x y => ltRow y x = false) (hm : (b :: m).Pairwise fun x y => ltRow y x = false) (h : ∀ x, x ∈ a :: l ↔ x ∈ b :: m) : a = b := by
  have h1 : ltRow b a = false := by
    rcases List.mem_cons.mp ((h b).mpr List.mem_cons_self) with e | e
    · rw [e]
      cases q : ltRow a a with
      | false => rfl
      | true => have := ltRow_asym q; rw [q] at this; cases this
    · exact (List.pairwise_cons.mp hl).1 b e
  have h2 : ltRow a b = false := by
    rcases List.mem_cons.mp ((h a).mp List.mem_cons_self) with e | e
    · rw [e]
      cases q : ltRow b b with
      | false => rfl
      | true => have := ltRow_asym q; rw [q] at this; cases this
    · exact (List.pairwise_cons.mp hm).1 a e
  exact ltRow_tot h2 h1

/-! ### all valid rows -/
section
variable (n : Nat) (cp : Nat → Nat → Bool)
def okRow (ps : List Pr) : Bool := ps.all (isPr n cp) && okPairs ps
theorem okRow_iff {ps : List Pr} : okRow n cp ps = true ↔ Valid n cp ps := by
  unfold okRow
  rw [valid_iff, Bool.and_eq_true]
/-- the rows that come of one row by one more pair -/
def longer (k : Nat) (row : List Pr) : List (List Pr) := ((List.range (n - (k + 1))).map fun m => row ++ [(k, k + 1 + m)]).filter (okRow n cp)
/-- all rows whose pairs begin below k -/
def allV : Nat → List (List Pr)
  | 0 => [[]]
  | k + 1 => allV k ++ (allV k).flatMap (longer n cp k)
end
section
variable {n : Nat} {cp : Nat → Nat → Bool}
theorem valid_sorted {ps : List Pr} (v : Valid n cp ps) : ps.Pairwise fun q p => q.1 < p.1 := by
  refine List.Pairwise.imp_of_mem (fun {q p} hq hp h => ?_) v.two
  have := v.pr q hq
  have := v.pr p hp
  rw [ltPr_iff, ins_iff, apt_iff] at h
  omega
theorem allV_mem : ∀ {k : Nat} {l : List Pr}, l ∈ allV n cp k ↔ Valid n cp l ∧ ∀ p ∈ l, p.1 < k
  | 0, l => by
    constructor
    · intro h
      have : l = [] := by simpa [allV] using h
      subst this
      exact ⟨⟨by simp, List.Pairwise.nil, by simp⟩, by simp⟩
    · rintro ⟨_, h⟩
      cases l with
      | nil => simp [allV]
      | cons p l => exact absurd (h p List.mem_cons_self) (by omega)
  | k + 1, l => by
    unfold allV
    rw [List.mem_append, List.mem_flatMap]
    constructor
    · rintro (h | ⟨row, hr, h⟩)
      · obtain ⟨v, hb⟩ := allV_mem.mp h
        exact ⟨v, fun p hp => by have := hb p hp; omega⟩
      · obtain ⟨v, hb⟩ := allV_mem.mp hr
        unfold longer at h
        rw [List.mem_filter, List.mem_map] at h
        obtain ⟨⟨m, _, rfl⟩, ok⟩ := h
        refine ⟨(okRow_iff n cp).mp ok, fun p hp => ?_⟩
        rcases List.mem_append.mp hp with hp | hp
        · have := hb p hp; omega
        · have : p = (k, k + 1 + m) := by simpa using hp
          subst this
          exact Nat.lt_succ_self k
    · rintro ⟨v, hb⟩
      by_cases hl : ∀ p ∈ l, p.1 < k
      · exact .inl (allV_mem.mpr ⟨v, hl⟩)
      · -- the last pair begins at k
        right
        have hne : l ≠ [] := fun e => hl (by rw [e]; simp)
        have hcat : l.dropLast ++ [l.getLast hne] = l := List.dropLast_concat_getLast hne
        have pw := valid_sorted v
        rw [← hcat] at pw
        have pw' := (List.pairwise_append.mp pw).2.2
        have hlast : l.getLast hne ∈ l := List.getLast_mem hne
        have hk : (l.getLast hne).1 = k := by
          have h1 := hb _ hlast
          obtain ⟨p, hp, hpk⟩ : ∃ p ∈ l, k ≤ p.1 := by
            refine Classical.byContradiction fun q => hl fun p hp => ?_
            refine Nat.lt_of_not_le fun h => q ⟨p, hp, h⟩
          have h2 : p.1 ≤ (l.getLast hne).1 := by
            rw [← hcat] at hp
            rcases List.mem_append.mp hp with hp | hp
            · exact Nat.le_of_lt (pw' p hp _ (by simp))
            · have : p = l.getLast hne := by simpa using hp
              rw [this]
              exact Nat.le_refl _
          omega
        have hv := v.pr _ hlast
        refine ⟨l.dropLast, allV_mem.mpr ⟨?_, fun p hp => ?_⟩, ?_⟩
        · rw [← hcat] at v
          exact v.prefix
        · have := pw' p hp _ (List.mem_singleton.mpr rfl)
          omega
        · unfold longer
          rw [List.mem_filter]
          refine ⟨List.mem_map.mpr ⟨(l.getLast hne).2 - (k + 1), List.mem_range.mpr (by omega), ?_⟩, (okRow_iff n cp).mpr v⟩
          have e : ((k, k + 1 + ((l.getLast hne).2 - (k + 1))) : Pr) = l.getLast hne := by
            refine Prod.ext ?_ ?_
            · exact hk.symm
            · show k + 1 + ((l.getLast hne).2 - (k + 1)) = _
              omega
          rw [e]
          exact hcat
theorem allV_all {l : List Pr} : l ∈ allV n cp n ↔ Valid n cp l := by
  rw [allV_mem]
  exact ⟨fun h => h.1, fun v => ⟨v, fun p hp => by have := v.pr p hp; omega⟩⟩

theorem longer_len (k : Nat) (row : List Pr) : (longer n cp k row).length ≤ n - (k + 1) := by
  unfold longer
  have := List.length_filter_le (okRow n cp) ((List.range (n - (k + 1))).map fun m => row ++ [(k, k + 1 + m)])
  rw [List.length_map, List.length_range] at this
  exact this
theorem flatMap_len {α β : Type} (f : α → List β) (b : Nat) : ∀ (l : List α), (∀ x ∈ l, (f x).length ≤ b) → (l.flatMap f).length ≤ l.length * b
  | [], _ => by simp
  | x :: l, h => by
    have h1 := h x List.mem_cons_self
    have h2 := flatMap_len f b l fun y hy => h y (List.mem_cons_of_mem _ hy)
    rw [List.flatMap_cons, List.length_append, List.length_cons, Nat.succ_mul]
    omega
theorem allV_len (hn : n ≤ 7) : ∀ k, (allV n cp k).length ≤ 7 ^ k
  | 0 => by simp [allV]
  | k + 1 => by
    have h1 := allV_len hn k
    have h2 := flatMap_len (longer n cp k) 6 (allV n cp k) fun x _ => Nat.le_trans (longer_len k x) (by omega)
    unfold allV
    rw [List.length_append, Nat.pow_succ]
    omega
theorem flat_len (hn : n ≤ 7) {k : Nat} {l : List (List Pr)} (hk : k < 7) (h : l.length ≤ (allV n cp k).length) : (l.flatMap (longer n cp k)).length ≤ 705894 := by
  have h1 := allV_len (n := n) (cp := cp) hn k
  have h2 := flatMap_len (longer n cp k) 6 l fun x _ => Nat.le_trans (longer_len k x) (by omega)
  have h3 : 7 ^ k ≤ 7 ^ 6 := Nat.pow_le_pow_right (by decide) (by omega)
  have h4 : (7 : Nat) ^ 6 = 117649 := by decide
  omega
theorem allV_len7 (hn : n ≤ 7) {k : Nat} (hk : k ≤ 7) : (allV n cp k).length ≤ 823543 := by
  have h1 := allV_len (n := n) (cp := cp) hn k
  have h3 : 7 ^ k ≤ 7 ^ 7 := Nat.pow_le_pow_right (by decide) hk
  have h4 : (7 : Nat) ^ 7 = 823543 := by decide
  omega
/-- different things of a list are at most as many as it has -/
theorem nodup_len {α : Type} [DecidableEq α] : ∀ {l m : List α}, l.Nodup → (∀ x ∈ l, x ∈ m) → l.length ≤ m.length
  | [], m, _, _ => Nat.zero_le _
  | x :: l, m, hd, hs => by
    have hx := hs x List.mem_cons_self
    have h1 := List.nodup_cons.mp hd
    have ih := nodup_len (m := m.erase x) h1.2 fun y hy => by
      have hy' := hs y (List.mem_cons_of_mem _ hy)
      have ne : y ≠ x := fun e => h1.1 (e ▸ hy)
      exact (List.mem_erase_of_ne ne).mpr hy'
    rw [List.length_erase_of_mem hx] at ih
    have : 0 < m.length := List.length_pos_of_mem hx
    rw [List.length_cons]
    omega
theorem rows_len (hn : n ≤ 7) {l : List (List Pr)} (hd : l.Nodup) (h : ∀ x ∈ l, Valid n cp x) : l.length ≤ 823543 :=
  Nat.le_trans (nodup_len hd fun x hx => allV_all.mpr (h x hx)) (allV_len7 hn hn)

/-- the greatest of all valid rows -/
def greatV (n : Nat) (cp : Nat → Nat → Bool) (rows : List (List Pr)) : List (List Pr) := rows.filter fun r => decide (r.length = en n cp 0)
theorem great_mem {rows : List (List Pr)} (h : ∀ l, l ∈ rows ↔ Valid n cp l) (l : List Pr) : l ∈ greatV n cp rows ↔ MaxRow n cp 0 l := by
  unfold greatV MaxRow
  rw [List.mem_filter, h, valid_row, decide_eq_true_iff]
theorem most_is {rows : List (List Pr)} (h : ∀ l, l ∈ rows ↔ Valid n cp l) {m : Nat} (hm : m ∈ rows.map List.length) (hle : ∀ y ∈ rows.map List.length, y ≤ m) : m = en n cp 0 := by
  obtain ⟨l, hl, rfl⟩ := List.mem_map.mp hm
  have h1 := (valid_row.mp ((h l).mp hl)).len_le
  obtain ⟨r, hr, hlen⟩ := maxRow_some (n := n) (cp := cp) n (Nat.zero_le _) (Nat.le_refl _)
  have h2 := hle r.length (List.mem_map.mpr ⟨r, (h r).mpr (valid_row.mpr hr), rfl⟩)
  omega
end

/-! ### tables judged integer by integer -/
section
variable (n : Nat) (cp : Nat → Nat → Bool)
def tN (N : List (List Int)) (i j : Nat) : Int := (N.getD i []).getD (j - i) 0
def tE (E : List Int) (i : Nat) : Int := E.getD i 0
/-- the integer of nests for two openings is great enough -/
def cellB (N : List (List Int)) (i j : Nat) : Bool :=
  decide (0 ≤ tN N i j) && (!decide (i < j) || (decide (tN N (i + 1) j ≤ tN N i j) && decide (tN N i (j - 1) ≤ tN N i j) &&
    (!(decide (i + 1 < j) && cp i (j - 1)) || decide (tN N (i + 1) (j - 1) + 1 ≤ tN N i j))))
def endB (N : List (List Int)) (E : List Int) (i j : Nat) : Bool := !decide (i < j) || decide (tN N i j + tE E j ≤ tE E i)
def rightB (N : List (List Int)) (E : List Int) : Bool :=
  decide (0 ≤ tE E n) && (List.range (n + 1)).all fun i => (List.range (n + 1 - i)).all fun d => cellB cp N i (i + d) && endB N E i (i + d)
end
section
variable {n : Nat} {cp : Nat → Nat → Bool} {N : List (List Int)} {E : List Int}
theorem cellB_iff {i j : Nat} : cellB cp N i j = true ↔ 0 ≤ tN N i j ∧ (i < j → tN N (i + 1) j ≤ tN N i j ∧ tN N i (j - 1) ≤ tN N i j ∧ (i + 1 < j → cp i (j - 1) = true → tN N (i + 1) (j - 1) + 1 ≤ tN N i j)) := by
  unfold cellB
  by_cases h : i < j
  · by_cases h2 : i + 1 < j
    · by_cases hc : cp i (j - 1) = true
      · simp [h, h2, hc, and_assoc]
      · simp [h, h2, hc]
    · simp [h, h2]
  · simp [h]
theorem endB_iff {i j : Nat} : endB N E i j = true ↔ (i < j → tN N i j + tE E j ≤ tE E i) := by
  unfold endB
  by_cases h : i < j <;> simp [h]
theorem rightB_all : rightB n cp N E = true ↔ 0 ≤ tE E n ∧ ∀ i j, i ≤ j → j ≤ n → cellB cp N i j = true ∧ endB N E i j = true := by
  unfold rightB
  simp only [Bool.and_eq_true, decide_eq_true_iff, List.all_eq_true, List.mem_range]
  constructor
  · rintro ⟨h1, h2⟩
    refine ⟨h1, fun i j hij hj => ?_⟩
    have := h2 i (by omega) (j - i) (by omega)
    rwa [show i + (j - i) = j by omega] at this
  · rintro ⟨h1, h2⟩
    exact ⟨h1, fun i hi d hd => h2 i (i + d) (by omega) (by omega)⟩
theorem rightB_iff : rightB n cp N E = true ↔ Right n cp (tN N) (tE E) := by
  rw [rightB_all]
  constructor
  · rintro ⟨h1, h2⟩
    refine ⟨fun i j h hj => (cellB_iff.mp (h2 i j h hj).1).1, fun i j h hj => ((cellB_iff.mp (h2 i j (by omega) hj).1).2 h).1, fun i j h hj => ((cellB_iff.mp (h2 i j (by omega) hj).1).2 h).2.1,
      fun i j h hj hc => ((cellB_iff.mp (h2 i j (by omega) hj).1).2 (by omega)).2.2 h hc, h1, fun i j h hj => endB_iff.mp (h2 i j (by omega) hj).2 h⟩
  · intro R
    exact ⟨R.last, fun i j h hj => ⟨cellB_iff.mpr ⟨R.pos i j h hj, fun h' => ⟨R.left i j h' hj, R.right i j h' hj, fun h2 hc => R.pair i j h2 hj hc⟩⟩, endB_iff.mpr fun h' => R.ends i j h' hj⟩⟩

/-- the least tables, listed -/
def leastN (n : Nat) (cp : Nat → Nat → Bool) : List (List Int) := (List.range (n + 1)).map fun i => (List.range (n + 1 - i)).map fun d => ((tb cp i (i + d) : Nat) : Int)
def leastE (n : Nat) (cp : Nat → Nat → Bool) : List Int := (List.range (n + 1)).map fun i => ((en n cp i : Nat) : Int)
theorem leastN_at {i j : Nat} (h : i ≤ j) (hj : j ≤ n) : tN (leastN n cp) i j = (tb cp i j : Int) := by
  have e : (leastN n cp).getD i [] = (List.range (n + 1 - i)).map fun d => ((tb cp i (i + d) : Nat) : Int) := by
    unfold leastN
    rw [List.getD_eq_getElem?_getD, List.getElem?_map, List.getElem?_range (by omega)]
    rfl
  unfold tN
  rw [e, List.getD_eq_getElem?_getD, List.getElem?_map, List.getElem?_range (by omega)]
  simp only [Option.map_some, Option.getD_some]
  rw [show i + (j - i) = j by omega]
theorem leastE_at {i : Nat} (h : i ≤ n) : tE (leastE n cp) i = (en n cp i : Int) := by
  unfold tE leastE
  rw [List.getD_eq_getElem?_getD, List.getElem?_map, List.getElem?_range (by omega)]
  rfl
theorem least_ok : rightB n cp (leastN n cp) (leastE n cp) = true := by
  rw [rightB_all]
  have R := least_right (n := n) (cp := cp)
  refine ⟨by rw [leastE_at (Nat.le_refl _)]; exact R.last, fun i j h hj => ⟨cellB_iff.mpr ⟨?_, fun h' => ⟨?_, ?_, fun h2 hc => ?_⟩⟩, endB_iff.mpr fun h' => ?_⟩⟩
  · rw [leastN_at h hj]; exact R.pos i j h hj
  · rw [leastN_at h hj, leastN_at (by omega) hj]; exact R.left i j h' hj
  · rw [leastN_at h hj, leastN_at (by omega) (by omega)]; exact R.right i j h' hj
  · rw [leastN_at h hj, leastN_at (by omega) (by omega)]; exact R.pair i j h2 hj hc
  · rw [leastN_at h hj, leastE_at hj, leastE_at (by omega)]; exact R.ends i j h' hj

/-- whoever wrote the evidence: the number is the fewest missing leaves -/
theorem told_is {ps : List Pr} (hv : Valid n cp ps) (hr : rightB n cp N E = true) (he : tE E 0 ≤ (ps.length : Int)) : ps.length = en n cp 0 := by
  have R := rightB_iff.mp hr
  have h1 := (valid_row.mp hv).len_le
  obtain ⟨r, hr, hlen⟩ := maxRow_some (n := n) (cp := cp) n (Nat.zero_le _) (Nat.le_refl _)
  have h2 := R.row hr
  omega
end
end K47
/-! K47, the layer: readings over data. A base heap B (what stands and never changes) within the heap H; p the stream's list, if there is one. -/
namespace K47
open PySem PySem.Spec PyProof.Rows L2

/-! ### data that stand -/
mutual
theorem _root_.L2.Dp.mono {K : PySem.W.Frag} {H H' : Hp} (e : Same H H') : ∀ {v : V} {d : PyData}, Dp K H v d → Dp K H' v d
  | _, _, .non => .non
  | _, _, .bl b => .bl b
  | _, _, .int i => .int i
  | _, _, .str x => .str x
  | _, _, .lst h1 h2 => .lst (e.seq h1) (L2.DpAll.mono e h2)
  | _, _, .tup h1 h2 => .tup (by
      rcases h1 with (h | ⟨o, h⟩) | h
      · exact .inl (.inl (e _ _ h))
      · exact .inl (.inr ⟨o, e _ _ h⟩)
      · exact .inr h) (L2.DpAll.mono e h2)
theorem _root_.L2.DpAll.mono {K : PySem.W.Frag} {H H' : Hp} (e : Same H H') : ∀ {vs : List V} {ds : List PyData}, DpAll K H vs ds → DpAll K H' vs ds
  | _, _, .nil => .nil
  | _, _, .cons h t => .cons (L2.Dp.mono e h) (L2.DpAll.mono e t)
end
theorem sqT_mono {K : PySem.W.Frag} {H H' : Hp} {a : Addr} {xs : List V} (e : Same H H') (h : SqT K H a xs) : SqT K H' a xs := by
  rcases h with (h | ⟨o, h⟩) | h
  · exact .inl (.inl (e _ _ h))
  · exact .inl (.inr ⟨o, e _ _ h⟩)
  · exact .inr h
theorem _root_.L2.DpAll.length {K : PySem.W.Frag} {H : Hp} : ∀ {vs : List V} {ds : List PyData}, DpAll K H vs ds → vs.length = ds.length
  | _, _, .nil => rfl
  | _, _, .cons _ t => by rw [List.length_cons, List.length_cons, L2.DpAll.length t]
theorem _root_.L2.DpAll.get {K : PySem.W.Frag} {H : Hp} : ∀ {vs : List V} {ds : List PyData} {i : Nat} {d : PyData}, DpAll K H vs ds → ds[i]? = some d → ∃ v, vs[i]? = some v ∧ Dp K H v d
  | _, _, _, _, .nil, h => by simp at h
  | _, _, 0, _, .cons h _, e => by
    simp only [List.getElem?_cons_zero, Option.some.injEq] at e
    subst e
    exact ⟨_, rfl, h⟩
  | _, _, i + 1, _, .cons _ t, e => by
    simp only [List.getElem?_cons_succ] at e
    obtain ⟨v, h1, h2⟩ := L2.DpAll.get t e
    exact ⟨v, by simpa using h1, h2⟩
theorem _root_.L2.DpAll.getV {K : PySem.W.Frag} {H : Hp} : ∀ {vs : List V} {ds : List PyData} {i : Nat} {v : V}, DpAll K H vs ds → vs[i]? = some v → ∃ d, ds[i]? = some d ∧ Dp K H v d
  | _, _, _, _, .nil, h => by simp at h
  | _, _, 0, _, .cons h _, e => by
    simp only [List.getElem?_cons_zero, Option.some.injEq] at e
    subst e
    exact ⟨_, rfl, h⟩
  | _, _, i + 1, _, .cons _ t, e => by
    simp only [List.getElem?_cons_succ] at e
    obtain ⟨v, h1, h2⟩ := L2.DpAll.getV t e
    exact ⟨v, by simpa using h1, h2⟩
theorem _root_.L2.DpAll.append {K : PySem.W.Frag} {H : Hp} : ∀ {vs ws : List V} {ds es : List PyData}, DpAll K H vs ds → DpAll K H ws es → DpAll K H (vs ++ ws) (ds ++ es)
  | _, _, _, _, .nil, t => t
  | _, _, _, _, .cons h r, t => .cons h (L2.DpAll.append r t)
theorem _root_.L2.DpAll.take {K : PySem.W.Frag} {H : Hp} : ∀ {vs : List V} {ds : List PyData} (n : Nat), DpAll K H vs ds → DpAll K H (vs.take n) (ds.take n)
  | _, _, 0, _ => .nil
  | _, _, _ + 1, .nil => .nil
  | _, _, n + 1, .cons h t => .cons h (L2.DpAll.take n t)
theorem _root_.L2.DpAll.drop {K : PySem.W.Frag} {H : Hp} : ∀ {vs : List V} {ds : List PyData} (n : Nat), DpAll K H vs ds → DpAll K H (vs.drop n) (ds.drop n)
  | _, _, 0, r => r
  | _, _, _ + 1, .nil => .nil
  | _, _, n + 1, .cons _ t => L2.DpAll.drop n t
theorem _root_.L2.DpAll.reverse {K : PySem.W.Frag} {H : Hp} : ∀ {vs : List V} {ds : List PyData}, DpAll K H vs ds → DpAll K H vs.reverse ds.reverse
  | _, _, .nil => .nil
  | _, _, .cons h t => by
    rw [List.reverse_cons, List.reverse_cons]
    exact (L2.DpAll.reverse t).append (.cons h .nil)
theorem _root_.L2.DpAll.ints {K : PySem.W.Frag} {H : Hp} : ∀ {vs : List V} {ns : List Int}, DpAll K H vs (ns.map .int) → vs = ns.map .int
  | _, [], h => by cases h; rfl
  | _, n :: ns, h => by
    cases h with
    | cons h t =>
      cases h
      rw [L2.DpAll.ints t]
      rfl
theorem _root_.L2.DpAll.bls {K : PySem.W.Frag} {H : Hp} : ∀ {vs : List V} {bs : List Bool}, DpAll K H vs (bs.map .bool) → vs = bs.map .bl
  | _, [], h => by cases h; rfl
  | _, n :: ns, h => by
    cases h with
    | cons h t =>
      cases h
      rw [L2.DpAll.bls t]
      rfl
theorem _root_.L2.DpAll.of_ints {K : PySem.W.Frag} {H : Hp} : ∀ (ns : List Int), DpAll K H (ns.map V.int) (ns.map PyData.int)
  | [] => .nil
  | n :: ns => .cons (.int n) (L2.DpAll.of_ints ns)

/-! ### the stream, the base, what grows -/
/-- the stream's list stands at a, the script's copy at b -/
structure Pst where
  st : Option (Addr × Addr)
  /-- what the def (or one that called it) may change, as it stands -/
  own : Hp
  /-- what this def itself made -/
  nw : Addr → Prop
def Strm (H : Hp) (a b : Addr) : Prop := ∃ (ns : List Int) (c : Int) (k : Nat), H a = some (.lst [.ref b, .int c, .int (k : Int)]) ∧ b ≠ a ∧ H b = some (.lst (ns.map V.int)) ∧ ns.length ≤ 63

structure Wf (p : Pst) (B H : Hp) : Prop where
  sub : Same B H
  st : ∀ a b, p.st = some (a, b) → Strm H a b
  nb : ∀ a b, p.st = some (a, b) → B a = none
  ow : ∀ a o, p.own a = some o → H a = some o ∧ B a = none
  os : ∀ a b, p.st = some (a, b) → p.own a = none ∧ p.own b = none
structure Gw (p : Pst) (B H B' H' : Hp) : Prop where
  bb : Same B B'
  fr : ∀ a, B' a ≠ none → B a ≠ none ∨ H a = none
  tr : ∀ a, H a ≠ none → H' a ≠ none
  hh : ∀ a o, (∀ b, p.st ≠ some (a, b)) → H a = some o → H' a = some o
  wf : Wf p B' H'

section
variable {p : Pst} {B H B1 H1 B2 H2 : Hp} {q : Addr} {o : HO}
theorem Wf.none_of (w : Wf p B H) (h : H q = none) : B q = none := by
  cases e : B q with
  | none => rfl
  | some o => rw [w.sub q o e] at h; cases h
theorem Wf.ne (w : Wf p B H) (h : H q = none) : ∀ b, p.st ≠ some (q, b) := fun b e => by
  obtain ⟨ns, c, k, h1, _⟩ := w.st q b e
  rw [h] at h1; cases h1
theorem Gw.refl (w : Wf p B H) : Gw p B H B H := ⟨Same.refl B, fun _ h => .inl h, fun _ h => h, fun _ _ _ h => h, w⟩
theorem Gw.trans (a : Gw p B H B1 H1) (b : Gw p B1 H1 B2 H2) : Gw p B H B2 H2 := by
  refine ⟨a.bb.trans b.bb, fun x h => ?_, fun x h => b.tr x (a.tr x h), fun x o hp h => b.hh x o hp (a.hh x o hp h), b.wf⟩
  rcases b.fr x h with h1 | h1
  · exact a.fr x h1
  · right
    cases e : H x with
    | none => rfl
    | some o => exact absurd h1 (a.tr x (by rw [e]; simp))
theorem Strm.ne {a b : Addr} (s : Strm H a b) {x : Addr} (hx : H x = none) : a ≠ x ∧ b ≠ x := by
  obtain ⟨ns, c, k, h1, h2, h3, h4⟩ := s
  exact ⟨ne_of_none h1 hx, ne_of_none h3 hx⟩
theorem Strm.upd {a b x : Addr} (s : Strm H a b) (h1 : a ≠ x) (h2 : b ≠ x) : Strm (L2.upd H x o) a b := by
  obtain ⟨ns, c, k, e1, e2, e3, e4⟩ := s
  exact ⟨ns, c, k, by rw [upd_ne h1]; exact e1, e2, by rw [upd_ne h2]; exact e3, e4⟩
theorem Strm.new {a b : Addr} (s : Strm H a b) {x : Addr} (hx : H x = none) : Strm (L2.upd H x o) a b := s.upd (s.ne hx).1 (s.ne hx).2
theorem same_upd2 (w : Same B H) (h : H q = none) : Same (upd B q o) (upd H q o) := fun b x e => by
  by_cases hb : b = q
  · subst hb; rw [upd_same] at e ⊢; exact e
  · rw [upd_ne hb] at e ⊢; exact w b x e
theorem same_new {H : Hp} {q : Addr} {o : HO} (h : H q = none) : Same H (upd H q o) := fun b x e => by
  rw [upd_ne (ne_of_none e h)]
  exact e
/-- a new object that stands from now on -/
theorem Gw.new (w : Wf p B H) (hq : H q = none) : Gw p B H (upd B q o) (upd H q o) := by
  refine ⟨same_new (w.none_of hq), fun a h => ?_, fun a h => ?_, fun a x _ h => ?_, ⟨same_upd2 w.sub hq, fun a b e => (w.st a b e).new hq, fun a b e => ?_, fun a x e => ?_, w.os⟩⟩
  · by_cases ha : a = q
    · subst ha; exact .inr hq
    · rw [upd_ne ha] at h; exact .inl h
  · by_cases ha : a = q
    · subst ha; rw [upd_same]; simp
    · rw [upd_ne ha]; exact h
  · rw [upd_ne (ne_of_none h hq)]; exact h
  · rw [upd_ne ((w.st a b e).ne hq).1]; exact w.nb a b e
  · obtain ⟨h1, h2⟩ := w.ow a x e
    rw [upd_ne (ne_of_none h1 hq), upd_ne (ne_of_none h1 hq)]
    exact ⟨h1, h2⟩
/-- a new object that may change -/
theorem Gw.newH (w : Wf p B H) (hq : H q = none) : Gw p B H B (upd H q o) := by
  refine ⟨Same.refl B, fun a h => .inl h, fun a h => ?_, fun a x _ h => ?_, ⟨w.sub.trans (same_new hq), fun a b e => (w.st a b e).new hq, w.nb, fun a x e => ?_, w.os⟩⟩
  · by_cases ha : a = q
    · subst ha; rw [upd_same]; simp
    · rw [upd_ne ha]; exact h
  · rw [upd_ne (ne_of_none h hq)]; exact h
  · obtain ⟨h1, h2⟩ := w.ow a x e
    rw [upd_ne (ne_of_none h1 hq)]
    exact ⟨h1, h2⟩
/-- an object that was not there at the start, and is no part of the base, changes -/
theorem Gw.mut (w : Wf p B H) (g : Gw p B H B1 H1) (h0 : H q = none) (hb : B1 q = none) : Gw p B H B1 (upd H1 q o) := by
  refine ⟨g.bb, g.fr, fun a ha => ?_, fun a x hp hx => ?_, ⟨fun a x hx => ?_, fun a b e => (g.wf.st a b e).upd ((w.st a b e).ne h0).1 ((w.st a b e).ne h0).2, g.wf.nb, fun a x e => ?_, w.os⟩⟩
  · by_cases z : a = q
    · subst z; rw [upd_same]; simp
    · rw [upd_ne z]; exact g.tr a ha
  · rw [upd_ne (ne_of_none hx h0)]; exact g.hh a x hp hx
  · rw [upd_ne (ne_of_none hx hb)]; exact g.wf.sub a x hx
  · rw [upd_ne (ne_of_none (w.ow a x e).1 h0)]; exact g.wf.ow a x e
/-- .. and stands from now on -/
theorem Gw.freeze (w : Wf p B H) (g : Gw p B H B1 H1) (h0 : H q = none) (hb : B1 q = none) (h1 : H1 q = some o) : Gw p B H (upd B1 q o) H1 := by
  refine ⟨g.bb.trans (same_new hb), fun a ha => ?_, g.tr, g.hh, ⟨fun a x hx => ?_, g.wf.st, fun a b e => ?_, fun a x e => ?_, w.os⟩⟩
  · by_cases z : a = q
    · subst z; exact .inr h0
    · rw [upd_ne z] at ha; exact g.fr a ha
  · by_cases z : a = q
    · subst z; rw [upd_same] at hx; cases hx; exact h1
    · rw [upd_ne z] at hx; exact g.wf.sub a x hx
  · rw [upd_ne ((w.st a b e).ne h0).1]; exact g.wf.nb a b e
  · rw [upd_ne (ne_of_none (w.ow a x e).1 h0)]; exact g.wf.ow a x e
/-- what may change stays as it is, and outside the base, where others run -/
theorem Gw.keep (g : Gw p B H B1 H1) (hp : ∀ b, p.st ≠ some (q, b)) (hb : B q = none) (h : H q = some o) : B1 q = none ∧ H1 q = some o := by
  refine ⟨?_, g.hh q o hp h⟩
  cases e : B1 q with
  | none => rfl
  | some x =>
    rcases g.fr q (by rw [e]; simp) with z | z
    · exact absurd hb z
    · rw [h] at z; cases z
end

/-! ### names: data, the stream, anything -/
/-- how an own object stands: in terms of what is owned and of the base -/
structure OwnP where
  P : Hp → Hp → Addr → Prop
  foot : Addr → List Addr
  mono : ∀ O B B' a, Same B B' → P O B a → P O B' a
  frame : ∀ O O' B a, (∀ x ∈ foot a, O' x = O x) → P O B a → P O' B a
  held : ∀ O B a, P O B a → ∀ x ∈ foot a, ∃ o, O x = some o
inductive Sl where
  | dat (d : PyData) | strm | nil | own (a : Addr) (Φ : OwnP) | adr (a : Addr) | ls (l : List PyData)
abbrev Slots := List Sl
def SlOk (K : PySem.W.Frag) (p : Pst) (B : Hp) : Option V → Sl → Prop
  | o, .dat d => ∃ v, o = some v ∧ Dp K B v d
  | o, .strm => ∃ a b, p.st = some (a, b) ∧ o = some (.ref a)
  | o, .own a Φ => o = some (.ref a) ∧ Φ.P p.own B a ∧ ∀ x ∈ Φ.foot a, p.nw x
  | o, .adr a => o = some (.ref a)
  | o, .ls l => ∃ a vs, o = some (.ref a) ∧ B a = some (.lst vs) ∧ DpAll K B vs l
  | _, .nil => True
abbrev EnvD (K : PySem.W.Frag) (p : Pst) (B : Hp) : L2.St → Slots → Prop := Paired (SlOk K p B)

section
variable {K : PySem.W.Frag} {p : Pst} {B B' H H' : Hp} {σ : L2.St} {ds : Slots} {v : V} {d : PyData}
theorem SlOk.mono (e : Same B B') : ∀ {o : Option V} {s : Sl}, SlOk K p B o s → SlOk K p B' o s
  | _, .dat _, h => let ⟨v, h1, h2⟩ := h; ⟨v, h1, h2.mono e⟩
  | _, .strm, h => h
  | _, .nil, _ => trivial
  | _, .own a Φ, h => ⟨h.1, Φ.mono _ _ _ _ e h.2.1, h.2.2⟩
  | _, .adr _, h => h
  | _, .ls _, h => let ⟨a, vs, h1, h2, h3⟩ := h; ⟨a, vs, h1, e a _ h2, h3.mono e⟩
theorem EnvD.mono (e : Same B B') (h : EnvD K p B σ ds) : EnvD K p B' σ ds := Paired.mapP h fun _ _ z => z.mono e
theorem EnvD.length (h : EnvD K p B σ ds) : σ.length = ds.length := Paired.length h
theorem EnvD.at : ∀ {σ : L2.St} {ds : Slots} {i : Nat} {s : Sl}, EnvD K p B σ ds → ds[i]? = some s → ∃ o, σ[i]? = some o ∧ SlOk K p B o s
  | _, _, _, _, .nil, h => by simp at h
  | _, _, 0, _, .cons h _, e => by
    simp only [List.getElem?_cons_zero, Option.some.injEq] at e
    subst e
    exact ⟨_, rfl, h⟩
  | _, _, i + 1, _, .cons _ t, e => by
    simp only [List.getElem?_cons_succ] at e
    obtain ⟨v, h1, h2⟩ := EnvD.at t e
    exact ⟨v, by simpa using h1, h2⟩
theorem EnvD.get {i : Nat} (h : EnvD K p B σ ds) (e : ds[i]? = some (.dat d)) : ∃ v, σ[i]? = some (some v) ∧ Dp K B v d := by
  obtain ⟨o, h1, v, rfl, h2⟩ := h.at e
  exact ⟨v, h1, h2⟩
theorem EnvD.getS {i : Nat} (h : EnvD K p B σ ds) (e : ds[i]? = some .strm) : ∃ a b, p.st = some (a, b) ∧ σ[i]? = some (some (.ref a)) := by
  obtain ⟨o, h1, a, b, h2, rfl⟩ := h.at e
  exact ⟨a, b, h2, h1⟩
theorem EnvD.set : ∀ {σ : L2.St} {ds : Slots} (i : Nat) {o : Option V} {s : Sl}, EnvD K p B σ ds → SlOk K p B o s → EnvD K p B (σ.set i o) (ds.set i s)
  | _, _, _, _, _, .nil, _ => .nil
  | _, _, 0, _, _, .cons _ t, h => .cons h t
  | _, _, i + 1, _, _, .cons q t, h => .cons q (EnvD.set i t h)
theorem EnvD.setD (i : Nat) (h : EnvD K p B σ ds) (hd : Dp K B v d) : EnvD K p B (σ.set i (some v)) (ds.set i (.dat d)) := h.set i ⟨v, rfl, hd⟩
def wipeD (ds : Slots) : List Nat → Slots
  | [] => ds
  | v :: vs => (wipeD ds vs).set v .nil
theorem EnvD.wipe (h : EnvD K p B σ ds) : ∀ vs : List Nat, EnvD K p B (wipe σ vs) (wipeD ds vs)
  | [] => h
  | v :: vs => (EnvD.wipe h vs).set v trivial
theorem EnvD.start {vs : List V} {xs : Slots} {N : List Str} (h : EnvD K p B (vs.map some) xs) : EnvD K p B (L2.start N vs) (xs ++ List.replicate (N.length - xs.length) .nil) := by
  have hl := h.length
  rw [List.length_map] at hl
  unfold L2.start
  rw [hl]
  have rep : ∀ n, EnvD K p B (List.replicate n none) (List.replicate n Sl.nil) := fun n => by
    induction n with
    | zero => exact .nil
    | succ n ih => exact .cons trivial ih
  have app : ∀ {σ τ : L2.St} {ds es : Slots}, EnvD K p B σ ds → EnvD K p B τ es → EnvD K p B (σ ++ τ) (ds ++ es) := by
    intro σ τ ds es h1 h2
    induction h1 with
    | nil => exact h2
    | cons h _ ih => exact .cons h ih
  exact app h (rep _)
end

/-! ### what evaluates to what -/
def EvP (K : PySem.W.Frag) (te : TE) (ds : Slots) (P : PyData → Prop) : Prop :=
  ∀ (p : Pst) (B H : Hp) (σ : L2.St), EnvD K p B σ ds → Wf p B H → ∀ Q : VK, (∀ d v B' H', P d → Dp K B' v d → Gw p B H B' H' → Q v H') → te σ H Q
abbrev Ev (K : PySem.W.Frag) (te : TE) (ds : Slots) (d : PyData) : Prop := EvP K te ds (fun x => x = d)
def EvT (K : PySem.W.Frag) (tt : TT) (ds : Slots) (P : Bool → Prop) : Prop :=
  ∀ (p : Pst) (B H : Hp) (σ : L2.St), EnvD K p B σ ds → Wf p B H → ∀ Q : Bool → Hp → Prop, (∀ b B' H', P b → Gw p B H B' H' → Q b H') → tt σ H Q
abbrev EvB (K : PySem.W.Frag) (tt : TT) (ds : Slots) (b : Bool) : Prop := EvT K tt ds (fun x => x = b)
def EvA (K : PySem.W.Frag) (ta : TA) (ds : Slots) (P : Slots → Prop) : Prop :=
  ∀ (p : Pst) (B H : Hp) (σ : L2.St), EnvD K p B σ ds → Wf p B H → ∀ Q : List V → Hp → Prop, (∀ (xs : Slots) (vs : List V) (B' H' : Hp), P xs → EnvD K p B' (vs.map some) xs → Gw p B H B' H' → Q vs H') → ta σ H Q
abbrev EvL (K : PySem.W.Frag) (ta : TA) (ds : Slots) (xs : Slots) : Prop := EvA K ta ds (fun x => x = xs)
/-- an operation on two data -/
def RdP (K : PySem.W.Frag) (r : R2) (d1 d2 : PyData) (P : PyData → Prop) : Prop :=
  ∀ (p : Pst) (B H : Hp) (x y : V), Dp K B x d1 → Dp K B y d2 → Wf p B H → ∀ Q : VK, (∀ d v B' H', P d → Dp K B' v d → Gw p B H B' H' → Q v H') → r x y H Q
abbrev Rd2 (K : PySem.W.Frag) (r : R2) (d1 d2 d : PyData) : Prop := RdP K r d1 d2 (fun x => x = d)
/-- a call on data -/
def CdP (K : PySem.W.Frag) (r : List V → Hp → VK → Prop) (xs : Slots) (P : PyData → Prop) : Prop :=
  ∀ (p : Pst) (B H : Hp) (vs : List V), EnvD K p B (vs.map some) xs → Wf p B H → ∀ Q : VK, (∀ d v B' H', P d → Dp K B' v d → Gw p B H B' H' → Q v H') → r vs H Q
abbrev Cd (K : PySem.W.Frag) (r : List V → Hp → VK → Prop) (xs : Slots) (d : PyData) : Prop := CdP K r xs (fun x => x = d)

section
variable {K : PySem.W.Frag} {ds xs : Slots} {ta tb te tc : TE} {t u : TT} {P P1 P2 : PyData → Prop} {d d1 d2 : PyData} {r : R2}

theorem EvP.imp (h : EvP K te ds P1) (hp : ∀ d, P1 d → P d) : EvP K te ds P := fun p B H σ e w Q k => h p B H σ e w Q fun d v B' H' q => k d v B' H' (hp d q)
theorem Ev.is (h : Ev K te ds d1) (e : d1 = d) : Ev K te ds d := h.imp fun _ q => q.trans e
theorem Ev.to (h : Ev K te ds d) (q : P d) : EvP K te ds P := h.imp fun x e => by rw [e]; exact q
theorem EvT.imp {P1 P : Bool → Prop} (h : EvT K t ds P1) (hp : ∀ b, P1 b → P b) : EvT K t ds P := fun p B H σ e w Q k => h p B H σ e w Q fun d B' H' q => k d B' H' (hp d q)
theorem EvB.is {b c : Bool} (h : EvB K t ds b) (e : b = c) : EvB K t ds c := h.imp fun _ q => q.trans e

theorem ev_var {i : Nat} (h : ds[i]? = some (.dat d)) : Ev K (tVar i) ds d := fun p B H σ e w Q k => by
  obtain ⟨v, h1, h2⟩ := e.get h
  exact ⟨v, h1, k d v B H rfl h2 (Gw.refl w)⟩
theorem ev_int {i : Int} : Ev K (tC (.int i)) ds (.int i) := fun p B H σ e w Q k => k _ _ B H rfl (.int i) (Gw.refl w)
theorem ev_bl {b : Bool} : Ev K (tC (.bl b)) ds (.bool b) := fun p B H σ e w Q k => k _ _ B H rfl (.bl b) (Gw.refl w)
theorem ev_non : Ev K (tC .non) ds .none := fun p B H σ e w Q k => k _ _ B H rfl .non (Gw.refl w)
theorem ev_str {x : Str} : Ev K (tC (.str x)) ds (.str x) := fun p B H σ e w Q k => k _ _ B H rfl (.str x) (Gw.refl w)

theorem ev_opP (ha : EvP K ta ds P1) (hb : EvP K tb ds P2) (hr : ∀ d1 d2, P1 d1 → P2 d2 → RdP K r d1 d2 P) : EvP K (tOp r ta tb) ds P := fun p B H σ e w Q k =>
  ha p B H σ e w _ fun d1 v1 B1 H1 q1 h1 g1 => hb p B1 H1 σ (e.mono g1.bb) g1.wf _ fun d2 v2 B2 H2 q2 h2 g2 =>
    hr d1 d2 q1 q2 p B2 H2 v1 v2 (h1.mono g2.bb) h2 g2.wf Q fun d v B' H' q h g => k d v B' H' q h ((g1.trans g2).trans g)
theorem ev_op (ha : Ev K ta ds d1) (hb : Ev K tb ds d2) (hr : RdP K r d1 d2 P) : EvP K (tOp r ta tb) ds P := ev_opP ha hb fun x y e1 e2 => by rw [e1, e2]; exact hr

/-! values of operations -/
theorem RdP.val {z : V} (h1 : ∀ B x y, Dp K B x d1 → Dp K B y d2 → ∀ H Q, Q z H → r x y H Q) (hz : ∀ B, Dp K B z d) : Rd2 K r d1 d2 d :=
  fun p B H x y hx hy w Q k => h1 B x y hx hy H Q (k d z B H rfl (hz B) (Gw.refl w))
theorem rd_I0 {g : Int → Int → V} {i j : Int} {d : PyData} (hz : ∀ B, Dp K B (g i j) d) : Rd2 K (rI0 g) (.int i) (.int j) d := RdP.val (z := g i j) (fun B x y hx hy H Q q => by
  cases hx; cases hy; exact ⟨i, j, rfl, rfl, q⟩) hz
theorem rd_I {C : Int → Int → Prop} {g : Int → Int → V} {i j : Int} {d : PyData} (hc : C i j) (hz : ∀ B, Dp K B (g i j) d) : Rd2 K (rI C g) (.int i) (.int j) d := RdP.val (z := g i j) (fun B x y hx hy H Q q => by
  cases hx; cases hy; exact ⟨i, j, rfl, rfl, hc, q⟩) hz
theorem rd_add {i j : Int} : Rd2 K (rI0 fun i j => .int (i + j)) (.int i) (.int j) (.int (i + j)) := rd_I0 fun _ => .int _
theorem rd_sub {i j : Int} : Rd2 K (rI0 fun i j => .int (i - j)) (.int i) (.int j) (.int (i - j)) := rd_I0 fun _ => .int _
theorem rd_lt {i j : Int} : Rd2 K (rI0 fun i j => .bl (decide (i < j))) (.int i) (.int j) (.bool (decide (i < j))) := rd_I0 fun _ => .bl _
theorem rd_le {i j : Int} : Rd2 K (rI0 fun i j => .bl (decide (i ≤ j))) (.int i) (.int j) (.bool (decide (i ≤ j))) := rd_I0 fun _ => .bl _
theorem rd_gt {i j : Int} : Rd2 K (rI0 fun i j => .bl (decide (j < i))) (.int i) (.int j) (.bool (decide (j < i))) := rd_I0 fun _ => .bl _
theorem rd_ge {i j : Int} : Rd2 K (rI0 fun i j => .bl (decide (j ≤ i))) (.int i) (.int j) (.bool (decide (j ≤ i))) := rd_I0 fun _ => .bl _
theorem rd_mul {i j : Int} (h : CMul i j) : Rd2 K (rI CMul fun i j => .int (i * j)) (.int i) (.int j) (.int (i * j)) := rd_I h fun _ => .int _
theorem rd_eqI {i j : Int} : Rd2 K rEq (.int i) (.int j) (.bool (decide (i = j))) := RdP.val (z := .bl (decide (i = j))) (fun B x y hx hy H Q q => by
  cases hx; cases hy
  refine ⟨rfl, ?_⟩
  have e : decide (V.int i = V.int j) = decide (i = j) := by
    by_cases h : i = j
    · subst h; simp
    · rw [decide_eq_false h, decide_eq_false (fun z => h (V.int.inj z))]
  rw [e]; exact q) fun _ => .bl _
theorem rd_neI {i j : Int} : Rd2 K rNe (.int i) (.int j) (.bool (!decide (i = j))) := RdP.val (z := .bl (!decide (i = j))) (fun B x y hx hy H Q q => by
  cases hx; cases hy
  refine ⟨rfl, ?_⟩
  have e : decide (V.int i = V.int j) = decide (i = j) := by
    by_cases h : i = j
    · subst h; simp
    · rw [decide_eq_false h, decide_eq_false (fun z => h (V.int.inj z))]
  rw [e]; exact q) fun _ => .bl _
theorem rd_eqB {i j : Bool} : Rd2 K rEq (.bool i) (.bool j) (.bool (decide (i = j))) := RdP.val (z := .bl (decide (i = j))) (fun B x y hx hy H Q q => by
  cases hx; cases hy
  refine ⟨rfl, ?_⟩
  have e : decide (V.bl i = V.bl j) = decide (i = j) := by cases i <;> cases j <;> rfl
  rw [e]; exact q) fun _ => .bl _

theorem atI_of {α β : Type} {xs : List α} {ys : List β} (h : xs.length = ys.length) {i : Int} {y : β} (e : atI ys i = some y) : ∃ j : Nat, ys[j]? = some y ∧ ∀ x, xs[j]? = some x → atI xs i = some x := by
  unfold atI at e ⊢
  rw [h]
  cases q : ixN ys.length i with
  | none => rw [q] at e; cases e
  | some j =>
    rw [q] at e
    exact ⟨j, e, fun x hx => hx⟩
theorem rd_ixT {l : List PyData} {i : Int} {d : PyData} (h : atI l i = some d) : Rd2 K (rIxT K) (.tuple l) (.int i) d := fun p B H x y hx hy w Q k => by
  cases hy
  cases hx with
  | tup h1 h2 =>
    obtain ⟨j, hj, hv⟩ := atI_of h2.length h
    obtain ⟨v, h3, h4⟩ := h2.get hj
    exact ⟨_, _, i, v, rfl, rfl, sqT_mono w.sub h1, hv v h3, k d v B H rfl h4 (Gw.refl w)⟩
theorem rd_ixL {l : List PyData} {i : Int} {d : PyData} (h : atI l i = some d) : Rd2 K (rIxL K) (.list l) (.int i) d := fun p B H x y hx hy w Q k => by
  cases hy
  cases hx with
  | lst h1 h2 =>
    obtain ⟨j, hj, hv⟩ := atI_of h2.length h
    obtain ⟨v, h3, h4⟩ := h2.get hj
    exact ⟨_, _, i, v, rfl, rfl, w.sub.seq h1, hv v h3, k d v B H rfl h4 (Gw.refl w)⟩
theorem atI_natD {l : List PyData} {j : Nat} {d : PyData} (h : l[j]? = some d) : atI l (j : Int) = some d := atI_nat h
theorem rd_cat {a b : List PyData} (h : a.length + b.length ≤ sizeLine) : Rd2 K (rCatA K) (.tuple a) (.tuple b) (.tuple (a ++ b)) := fun p B H x y hx hy w Q k => by
  cases hx with
  | tup h1 h2 =>
    cases hy with
    | tup h3 h4 =>
      have l1 := h2.length
      have l2 := h4.length
      refine ⟨_, _, _, _, rfl, rfl, sqT_mono w.sub h1, sqT_mono w.sub h3, by omega, fun e => ?_, fun _ e => ?_, fun _ _ q hq => ?_⟩
      · subst e
        cases h2
        exact k _ _ B H rfl (.tup h3 h4) (Gw.refl w)
      · subst e
        cases h4
        rw [List.append_nil] at k
        exact k _ _ B H rfl (.tup h1 h2) (Gw.refl w)
      · exact k _ _ _ _ rfl (.tup (.inl (.inl upd_same)) ((h2.append h4).mono (Gw.new w hq).bb)) (Gw.new w hq)

/-! arguments, displays -/
theorem ea_nil : EvL K tNil ds [] := fun p B H σ e w Q k => k [] [] B H rfl .nil (Gw.refl w)
theorem ea_consP {tr : TA} {PA : Slots → Prop} {PR : Slots → Prop} (h : EvP K ta ds P1) (hr : EvA K tr ds PR) (hp : ∀ d xs, P1 d → PR xs → PA (.dat d :: xs)) : EvA K (tCons ta tr) ds PA := fun p B H σ e w Q k =>
  h p B H σ e w _ fun d1 v1 B1 H1 q1 h1 g1 => hr p B1 H1 σ (e.mono g1.bb) g1.wf _ fun xs vs B2 H2 q2 h2 g2 =>
    k (.dat d1 :: xs) (v1 :: vs) B2 H2 (hp d1 xs q1 q2) (.cons ⟨v1, rfl, h1.mono g2.bb⟩ h2) (g1.trans g2)
theorem ea_cons {tr : TA} {xs : Slots} (h : Ev K ta ds d) (hr : EvL K tr ds xs) : EvL K (tCons ta tr) ds (.dat d :: xs) := ea_consP h hr fun x ys e1 e2 => by rw [e1, e2]
theorem ea_strm {tr : TA} {PA : Slots → Prop} {PR : Slots → Prop} {i : Nat} (h : ds[i]? = some .strm) (hr : EvA K tr ds PR) (hp : ∀ xs, PR xs → PA (.strm :: xs)) : EvA K (tCons (tVar i) tr) ds PA := fun p B H σ e w Q k => by
  obtain ⟨a, b, h1, h2⟩ := e.getS h
  exact ⟨.ref a, h2, hr p B H σ e w _ fun xs vs B2 H2 q2 h2 g2 => k (.strm :: xs) (.ref a :: vs) B2 H2 (hp xs q2) (.cons ⟨a, b, h1, rfl⟩ h2) g2⟩
def datL : List PyData → Slots := List.map .dat
theorem env_dats {p : Pst} {B : Hp} : ∀ {vs : List V} {l : List PyData}, EnvD K p B (vs.map some) (datL l) → DpAll K B vs l
  | [], [], _ => .nil
  | [], _ :: _, h => by cases h
  | _ :: _, [], h => by cases h
  | v :: vs, d :: l, h => by
    cases h with
    | cons h t =>
      obtain ⟨v', e, h⟩ := h
      cases e
      exact .cons h (env_dats t)
theorem ev_tupP {t' : TA} (h : EvA K t' ds (fun xs => ∃ l, xs = datL l ∧ l.length ≤ 100000 ∧ P (.tuple l))) : EvP K (tTup t') ds P := fun p B H σ e w Q k =>
  h p B H σ e w _ fun xs vs B1 H1 q1 h1 g1 => by
    obtain ⟨l, rfl, hl, hP⟩ := q1
    have h2 := env_dats h1
    have := h2.length
    refine ⟨Nat.le_trans (by omega : vs.length ≤ 100000) (by decide), fun q hq => ?_⟩
    have g := Gw.new (o := .tup vs) g1.wf hq
    exact k _ _ _ _ hP (.tup (.inl (.inl upd_same)) (h2.mono g.bb)) (g1.trans g)
theorem ev_lstP {t' : TA} (h : EvA K t' ds (fun xs => ∃ l, xs = datL l ∧ l.length ≤ 100000 ∧ P (.list l))) : EvP K (tLst t') ds P := fun p B H σ e w Q k =>
  h p B H σ e w _ fun xs vs B1 H1 q1 h1 g1 => by
    obtain ⟨l, rfl, hl, hP⟩ := q1
    have h2 := env_dats h1
    have := h2.length
    refine ⟨Nat.le_trans (by omega : vs.length ≤ 100000) (by decide), fun q hq => ?_⟩
    have g := Gw.new (o := .lst vs) g1.wf hq
    exact k _ _ _ _ hP (.lst (.inl (.inl upd_same)) (h2.mono g.bb)) (g1.trans g)
theorem ev_tup {tr : TA} {l : List PyData} (h : EvL K tr ds (datL l)) (hl : l.length ≤ 100000 := by decide) : Ev K (tTup tr) ds (.tuple l) := ev_tupP fun p B H σ e w Q k => h p B H σ e w Q fun xs vs B' H' q => k xs vs B' H' ⟨l, q, hl, rfl⟩
theorem ev_lst {tr : TA} {l : List PyData} (h : EvL K tr ds (datL l)) (hl : l.length ≤ 100000 := by decide) : Ev K (tLst tr) ds (.list l) := ev_lstP fun p B H σ e w Q k => h p B H σ e w Q fun xs vs B' H' q => k xs vs B' H' ⟨l, q, hl, rfl⟩

/-! calls -/
theorem ev_cbP {c : List V → Hp → VK → Prop} {tr : TA} {PA : Slots → Prop} (h : EvA K tr ds PA) (hc : ∀ xs, PA xs → CdP K c xs P) : EvP K (tCB c tr) ds P := fun p B H σ e w Q k =>
  h p B H σ e w _ fun xs vs B1 H1 q1 h1 g1 => hc xs q1 p B1 H1 vs h1 g1.wf Q fun d v B' H' q h2 g2 => k d v B' H' q h2 (g1.trans g2)
theorem ev_cb {c : List V → Hp → VK → Prop} {tr : TA} {xs : Slots} (h : EvL K tr ds xs) (hc : CdP K c xs P) : EvP K (tCB c tr) ds P := ev_cbP h fun x e => by rw [e]; exact hc

/-- a def's promise over data -/
def spI (K : PySem.W.Frag) {ι : Type} (args : ι → Slots) (pre : ι → Prop) (res : ι → PyData → Prop) : Sp := fun vs H Q _ =>
  ∃ (p : Pst) (B : Hp) (i : ι), pre i ∧ Wf p B H ∧ EnvD K p B (vs.map some) (args i) ∧ ∀ d v B' H', res i d → Dp K B' v d → Gw p B H B' H' → Q v H'
theorem ev_callP {ι : Type} {args : ι → Slots} {pre : ι → Prop} {res : ι → PyData → Prop} {tr : TA} {PA : Slots → Prop} {E : XK} (h : EvA K tr ds PA) (hi : ∀ xs, PA xs → ∃ i, xs = args i ∧ pre i ∧ ∀ d, res i d → P d) :
    EvP K (tCall (spI K args pre res) [] E tr) ds P := by
  intro p B H σ e w Q k
  refine h p B H σ e w _ fun xs vs B1 H1 q1 h1 g1 => ?_
  obtain ⟨i, ex, hp, hr⟩ := hi xs q1
  show spI K args pre res (vs ++ []) H1 Q E
  rw [List.append_nil]
  rw [ex] at h1
  exact ⟨p, B1, i, hp, g1.wf, h1, fun d v B' H' q h2 g2 => k d v B' H' (hr d q) h2 (g1.trans g2)⟩
theorem ev_call {ι : Type} {args : ι → Slots} {pre : ι → Prop} {res : ι → PyData → Prop} {tr : TA} {E : XK} (i : ι) (h : EvL K tr ds (args i)) (hp : pre i) (hr : ∀ d, res i d → P d) : EvP K (tCall (spI K args pre res) [] E tr) ds P :=
  ev_callP h fun xs e => ⟨i, e, hp, hr⟩
theorem spI_len {ι : Type} {args : ι → Slots} {pre : ι → Prop} {res : ι → PyData → Prop} {vs : List V} {H : Hp} {Q : VK} {E : XK} {ps : List Str} (h : spI K args pre res vs H Q E) (hl : ∀ i, (args i).length = ps.length) : vs.length = ps.length := by
  obtain ⟨p, B, i, _, _, h, _⟩ := h
  have := EnvD.length h
  rw [List.length_map, hl] at this
  exact this

/-! truth values, tests -/
theorem ev_and {a : Bool} (h1 : Ev K ta ds (.bool a)) (h2 : a = true → EvP K tb ds P) (h3 : a = false → P (.bool false)) : EvP K (tAndV ta tb) ds P := fun p B H σ e w Q k =>
  h1 p B H σ e w _ fun d1 v1 B1 H1 q1 hd g1 => by
    subst q1
    cases hd
    refine ⟨a, rfl, ?_⟩
    cases a with
    | true =>
      show tb σ H1 Q
      exact h2 rfl p B1 H1 σ (e.mono g1.bb) g1.wf Q fun d v B' H' q h g => k d v B' H' q h (g1.trans g)
    | false =>
      show Q (.bl false) H1
      exact k _ _ B1 H1 (h3 rfl) (.bl false) g1
theorem ev_andB {a b : Bool} (h1 : Ev K ta ds (.bool a)) (h2 : a = true → Ev K tb ds (.bool b)) : Ev K (tAndV ta tb) ds (.bool (a && b)) := ev_and h1 (fun e => by subst e; exact h2 rfl) (fun e => by subst e; rfl)
theorem ev_orB {a b : Bool} (h1 : Ev K ta ds (.bool a)) (h2 : a = false → Ev K tb ds (.bool b)) : Ev K (tOrV ta tb) ds (.bool (a || b)) := fun p B H σ e w Q k =>
  h1 p B H σ e w _ fun d1 v1 B1 H1 q1 hd g1 => by
    subst q1
    cases hd
    refine ⟨a, rfl, ?_⟩
    cases a with
    | true =>
      show Q (.bl true) H1
      exact k _ _ B1 H1 rfl (.bl true) g1
    | false =>
      show tb σ H1 Q
      exact h2 rfl p B1 H1 σ (e.mono g1.bb) g1.wf Q fun d v B' H' q h g => k d v B' H' q h (g1.trans g)
theorem ev_not {a : Bool} (h1 : Ev K ta ds (.bool a)) : Ev K (tNotV ta) ds (.bool (!a)) := fun p B H σ e w Q k =>
  h1 p B H σ e w _ fun d1 v1 B1 H1 q1 hd g1 => by
    subst q1
    cases hd
    exact ⟨a, rfl, k _ _ B1 H1 rfl (.bl _) g1⟩
theorem et_testP {PB : Bool → Prop} (h : EvP K te ds (fun d => ∃ b, d = .bool b ∧ PB b)) : EvT K (tTest te) ds PB := fun p B H σ e w Q k =>
  h p B H σ e w _ fun d v B1 H1 q hd g => by
    obtain ⟨b, rfl, hb⟩ := q
    cases hd
    exact ⟨b, rfl, k b B1 H1 hb g⟩
theorem et_test {b : Bool} (h : Ev K te ds (.bool b)) : EvB K (tTest te) ds b := et_testP (h.imp fun d e => ⟨b, e, rfl⟩)
theorem et_BP {PB : Bool → Prop} (h : EvP K te ds (fun d => ∃ b, d = .bool b ∧ PB b)) : EvT K (tB te) ds PB := et_testP h
theorem et_B {b : Bool} (h : Ev K te ds (.bool b)) : EvB K (tB te) ds b := et_test h
theorem et_and {a b : Bool} (h1 : EvB K t ds a) (h2 : a = true → EvB K u ds b) : EvB K (tAnd t u) ds (a && b) := fun p B H σ e w Q k =>
  h1 p B H σ e w _ fun b1 B1 H1 q1 g1 => by
    subst q1
    cases b1 with
    | true =>
      show u σ H1 Q
      exact h2 rfl p B1 H1 σ (e.mono g1.bb) g1.wf Q fun d B' H' q g => k d B' H' q (g1.trans g)
    | false =>
      show Q false H1
      exact k _ B1 H1 rfl g1
theorem et_orP {a : Bool} {PB : Bool → Prop} (h1 : EvB K t ds a) (h0 : a = true → PB true) (h2 : a = false → EvT K u ds PB) : EvT K (tOr t u) ds PB := fun p B H σ e w Q k =>
  h1 p B H σ e w _ fun b1 B1 H1 q1 g1 => by
    subst q1
    cases b1 with
    | true =>
      show Q true H1
      exact k _ B1 H1 (h0 rfl) g1
    | false =>
      show u σ H1 Q
      exact h2 rfl p B1 H1 σ (e.mono g1.bb) g1.wf Q fun d B' H' q g => k d B' H' q (g1.trans g)
theorem et_or {a b : Bool} (h1 : EvB K t ds a) (h2 : a = false → EvB K u ds b) : EvB K (tOr t u) ds (a || b) := et_orP h1 (fun e => by subst e; rfl) (fun e => by subst e; exact h2 rfl)
theorem et_andP {a : Bool} {PB : Bool → Prop} (h1 : EvB K t ds a) (h0 : a = false → PB false) (h2 : a = true → EvT K u ds PB) : EvT K (tAnd t u) ds PB := fun p B H σ e w Q k =>
  h1 p B H σ e w _ fun b1 B1 H1 q1 g1 => by
    subst q1
    cases b1 with
    | true =>
      show u σ H1 Q
      exact h2 rfl p B1 H1 σ (e.mono g1.bb) g1.wf Q fun d B' H' q g => k d B' H' q (g1.trans g)
    | false =>
      show Q false H1
      exact k _ B1 H1 (h0 rfl) g1
theorem et_notP {P1 PB : Bool → Prop} (h : EvT K t ds P1) (hp : ∀ b, P1 b → PB (!b)) : EvT K (tNot t) ds PB := fun p B H σ e w Q k => h p B H σ e w _ fun b B1 H1 q g => k (!b) B1 H1 (hp b q) g
theorem et_not {a : Bool} (h : EvB K t ds a) : EvB K (tNot t) ds (!a) := et_notP h fun b e => by rw [e]
theorem et_yes : EvB K tYes ds true := fun p B H σ e w Q k => k true B H rfl (Gw.refl w)
/-- a op1 b op2 c -/
theorem ev_chain {r r' : R2} {b c : Bool} {d3 : PyData} (ha : Ev K ta ds d1) (hb : Ev K tb ds d2) (h1 : Rd2 K r d1 d2 (.bool b)) (hc : b = true → Ev K tc ds d3) (h2 : b = true → Rd2 K r' d2 d3 (.bool c)) : Ev K (tChain r r' ta tb tc) ds (.bool (b && c)) := fun p B H σ e w Q k =>
  ha p B H σ e w _ fun x1 v1 B1 H1 q1 hd1 g1 => hb p B1 H1 σ (e.mono g1.bb) g1.wf _ fun x2 v2 B2 H2 q2 hd2 g2 => by
    subst q1 q2
    refine h1 p B2 H2 v1 v2 (hd1.mono g2.bb) hd2 g2.wf _ fun x3 v3 B3 H3 q3 hd3 g3 => ?_
    subst q3
    cases hd3
    refine ⟨b, rfl, ?_⟩
    cases b with
    | true =>
      show tc σ H3 fun w' H4 => r' v2 w' H4 Q
      refine hc rfl p B3 H3 σ (((e.mono g1.bb).mono g2.bb).mono g3.bb) g3.wf _ fun x4 v4 B4 H4 q4 hd4 g4 => ?_
      subst q4
      exact h2 rfl p B4 H4 v2 v4 ((hd2.mono g3.bb).mono g4.bb) hd4 g4.wf Q fun d v B' H' q h g => k d v B' H' q h ((((g1.trans g2).trans g3).trans g4).trans g)
    | false =>
      show Q (.bl false) H3
      exact k _ _ B3 H3 rfl (.bl false) ((g1.trans g2).trans g3)
end
end K47
/-! K47, the layer: statements, loops and comprehensions over data. -/
namespace K47
open PySem PySem.Spec PyProof.Rows L2

/-! ### statements -/
def Run (K : PySem.W.Frag) (t : TS) (ds : Slots) (N : Slots → Prop) (R : PyData → Prop) : Prop :=
  ∀ (p : Pst) (B H : Hp) (σ : L2.St) (D : Ends), EnvD K p B σ ds → Wf p B H → (∀ (ds' : Slots) (B' H' : Hp) (σ' : L2.St), N ds' → EnvD K p B' σ' ds' → Gw p B H B' H' → D.nx σ' H') →
    (∀ (d : PyData) (v : V) (B' H' : Hp), R d → Dp K B' v d → Gw p B H B' H' → D.rt v H') → t D σ H

section
variable {K : PySem.W.Frag} {ds : Slots} {te : TE} {tt : TT} {t u : TS} {N N1 : Slots → Prop} {R P : PyData → Prop} {d : PyData}

theorem run_next (h : N ds) : Run K tNext ds N R := fun p B H σ D e w kn kr => kn ds B H σ h e (Gw.refl w)
theorem run_seq (h1 : Run K t ds N1 R) (h2 : ∀ ds', N1 ds' → Run K u ds' N R) : Run K (tSeq t u) ds N R := fun p B H σ D e w kn kr =>
  h1 p B H σ { D with nx := u D } e w (fun ds' B' H' σ' n e' g => h2 ds' n p B' H' σ' D e' g.wf (fun ds2 B2 H2 σ2 n2 e2 g2 => kn ds2 B2 H2 σ2 n2 e2 (g.trans g2)) fun d v B2 H2 r hd g2 => kr d v B2 H2 r hd (g.trans g2)) kr
theorem run_asgP {i : Nat} (h : EvP K te ds P) (k : ∀ d, P d → N (ds.set i (.dat d))) : Run K (tAsg te (gName i)) ds N R := fun p B H σ D e w kn kr =>
  h p B H σ e w _ fun d v B' H' q hd g => kn _ B' H' _ (k d q) ((e.mono g.bb).setD i hd) g
theorem run_asg {i : Nat} (h : Ev K te ds d) (k : N (ds.set i (.dat d))) : Run K (tAsg te (gName i)) ds N R := run_asgP h fun x e => by rw [e]; exact k
/-- an assignment, then the rest -/
theorem run_set {i : Nat} (h : Ev K te ds d) (k : Run K u (ds.set i (.dat d)) N R) : Run K (tSeq (tAsg te (gName i)) u) ds N R := run_seq (N1 := fun x => x = ds.set i (.dat d)) (run_asg h rfl) fun x e => by rw [e]; exact k
theorem run_setP {i : Nat} (h : EvP K te ds P) (k : ∀ d, P d → Run K u (ds.set i (.dat d)) N R) : Run K (tSeq (tAsg te (gName i)) u) ds N R := run_seq (N1 := fun x => ∃ d, P d ∧ x = ds.set i (.dat d)) (run_asgP h fun d q => ⟨d, q, rfl⟩) fun x ⟨d, q, e⟩ => by rw [e]; exact k d q
theorem run_ret (h : EvP K te ds R) : Run K (tRet te) ds N R := fun p B H σ D e w kn kr => h p B H σ e w _ fun d v B' H' q hd g => kr d v B' H' q hd g
theorem run_drop (h : EvP K te ds P) (k : N ds) : Run K (tDrop te) ds N R := fun p B H σ D e w kn kr => h p B H σ e w _ fun d v B' H' q hd g => kn ds B' H' σ k (e.mono g.bb) g
theorem run_ifP {PB : Bool → Prop} (h : EvT K tt ds PB) (h1 : PB true → Run K t ds N R) (h2 : PB false → Run K u ds N R) : Run K (tIfS tt t u) ds N R := fun p B H σ D e w kn kr =>
  h p B H σ e w _ fun b B1 H1 q g => by
    cases b with
    | true =>
      show t D σ H1
      exact h1 q p B1 H1 σ D (e.mono g.bb) g.wf (fun ds2 B2 H2 σ2 n2 e2 g2 => kn ds2 B2 H2 σ2 n2 e2 (g.trans g2)) fun d v B2 H2 r hd g2 => kr d v B2 H2 r hd (g.trans g2)
    | false =>
      show u D σ H1
      exact h2 q p B1 H1 σ D (e.mono g.bb) g.wf (fun ds2 B2 H2 σ2 n2 e2 g2 => kn ds2 B2 H2 σ2 n2 e2 (g.trans g2)) fun d v B2 H2 r hd g2 => kr d v B2 H2 r hd (g.trans g2)
theorem run_if {b : Bool} (h : EvB K tt ds b) (h1 : b = true → Run K t ds N R) (h2 : b = false → Run K u ds N R) : Run K (tIfS tt t u) ds N R := run_ifP h (fun e => h1 e.symm) fun e => h2 e.symm
theorem run_imp {N' : Slots → Prop} {R' : PyData → Prop} (h : Run K t ds N' R') (hn : ∀ x, N' x → N x) (hr : ∀ x, R' x → R x) : Run K t ds N R := fun p B H σ D e w kn kr =>
  h p B H σ D e w (fun ds' B' H' σ' n => kn ds' B' H' σ' (hn _ n)) fun d v B' H' r => kr d v B' H' (hr _ r)
/-- the test without what follows, when it is false: if c: return -/
theorem run_guard {b : Bool} {s : TS} (h : EvB K tt ds b) (h1 : b = true → Run K t ds (fun _ => False) R) (h2 : b = false → Run K s ds N R) : Run K (tSeq (tIfS tt t tNext) s) ds N R :=
  run_seq (N1 := fun x => x = ds ∧ b = false) (run_if h (fun e => run_imp (h1 e) (fun _ z => z.elim) fun _ z => z) fun e => run_next ⟨rfl, e⟩) fun x ⟨e, hb⟩ => by rw [e]; exact h2 hb
theorem run_guardP {PB : Bool → Prop} {s : TS} (h : EvT K tt ds PB) (h1 : PB true → Run K t ds (fun _ => False) R) (h2 : PB false → Run K s ds N R) : Run K (tSeq (tIfS tt t tNext) s) ds N R :=
  run_seq (N1 := fun x => x = ds ∧ PB false) (run_ifP h (fun e => run_imp (h1 e) (fun _ z => z.elim) fun _ z => z) fun e => run_next ⟨rfl, e⟩) fun x ⟨e, hb⟩ => by rw [e]; exact h2 hb
end

/-! ### targets -/
theorem wipe_at (σ : L2.St) : ∀ (vs : List Nat) (k : Nat), (wipe σ vs)[k]? = if k ∈ vs then (σ[k]?).map (fun _ => none) else σ[k]?
  | [], k => by simp [wipe]
  | v :: vs, k => by
    unfold wipe
    by_cases h : v = k
    · subst h
      rw [List.getElem?_set_self', wipe_at σ vs v]
      by_cases h2 : v ∈ vs
      · cases q : σ[v]? <;> simp [h2]
      · cases q : σ[v]? <;> simp [h2]
    · rw [List.getElem?_set_ne h, wipe_at σ vs k]
      by_cases h2 : k ∈ vs
      · simp [h2]
      · simp [h2, Ne.symm h]
theorem wipe_set {σ : L2.St} {vs : List Nat} {j : Nat} {x : Option V} (h : j ∈ vs) : wipe (σ.set j x) vs = wipe σ vs := by
  refine List.ext_getElem? fun k => ?_
  rw [wipe_at, wipe_at]
  by_cases hk : k ∈ vs
  · rw [if_pos hk, if_pos hk]
    by_cases hj : j = k
    · subst hj
      rw [List.getElem?_set_self']
      cases q : σ[j]? <;> rfl
    · rw [List.getElem?_set_ne hj]
  · rw [if_neg hk, if_neg hk, List.getElem?_set_ne (fun e => hk (by rw [← e]; exact h))]
theorem wipe_wipe (σ : L2.St) (vs : List Nat) : wipe (wipe σ vs) vs = wipe σ vs := by
  refine List.ext_getElem? fun k => ?_
  rw [wipe_at, wipe_at]
  by_cases hk : k ∈ vs
  · rw [if_pos hk, if_pos hk]
    cases q : σ[k]? <;> rfl
  · rw [if_neg hk, if_neg hk]

/-- a target takes a datum: the slots behind it; what it changes lies in vs -/
def EvG (K : PySem.W.Frag) (vs : List Nat) (g : TG) (d : PyData) (ds ds' : Slots) : Prop :=
  ∀ (p : Pst) (B H : Hp) (σ : L2.St) (v : V), EnvD K p B σ ds → Same B H → Dp K B v d → ∀ Q : L2.St → Hp → Prop, (∀ σ', EnvD K p B σ' ds' → wipe σ' vs = wipe σ vs → Q σ' H) → g v σ H Q
section
variable {K : PySem.W.Frag} {ds ds' : Slots} {d a b : PyData} {vs : List Nat} {g : TG}
theorem eg_name {j : Nat} (h : j ∈ vs := by first | exact List.mem_cons_self | decide) : EvG K vs (gName j) d ds (ds.set j (.dat d)) := fun p B H σ v e w hd Q k => k _ (e.setD j hd) (wipe_set h)
theorem eg_pair {i j : Nat} (hi : i ∈ vs := by first | exact List.mem_cons_self | decide) (hj : j ∈ vs := by first | exact List.mem_cons_self | decide) : EvG K vs (gTup K 2 (gCons (gName i) (gCons (gName j) gNil))) (.tuple [a, b]) ds ((ds.set i (.dat a)).set j (.dat b)) := fun p B H σ v e w hd Q k => by
  cases hd with
  | tup h1 h2 =>
    cases h2 with
    | cons ha t =>
      cases t with
      | cons hb t =>
        cases t
        refine ⟨_, _, rfl, sqT_mono w h1, rfl, _, _, rfl, _, _, rfl, rfl, ?_⟩
        exact k _ ((e.setD i ha).setD j hb) (by rw [wipe_set hj, wipe_set hi])
end
section
variable {K : PySem.W.Frag} {ds ds' : Slots} {d : PyData} {te : TE} {u : TS} {g : TG} {N : Slots → Prop} {R P : PyData → Prop} {vs : List Nat}
theorem run_asgG (h : Ev K te ds d) (hg : EvG K vs g d ds ds') (k : N ds') : Run K (tAsg te g) ds N R := fun p B H σ D e w kn kr =>
  h p B H σ e w _ fun x v B' H' q hd g1 => by
    subst q
    exact hg p B' H' σ v (e.mono g1.bb) g1.wf.sub hd _ fun σ' e' _ => kn _ B' H' σ' k e' g1
/-- a, b = e; then the rest -/
theorem run_unpack (h : Ev K te ds d) (hg : EvG K vs g d ds ds') (k : Run K u ds' N R) : Run K (tSeq (tAsg te g) u) ds N R := run_seq (N1 := fun x => x = ds') (run_asgG h hg rfl) fun x e => by rw [e]; exact k
end

/-! ### iterators over data: n turns, the i-th gives f i -/
def EvI (K : PySem.W.Frag) (wi : TI) (ds : Slots) (S : Nat → (Nat → PyData) → Prop) : Prop :=
  ∀ (p : Pst) (B H : Hp) (σ : L2.St), EnvD K p B σ ds → Wf p B H → ∀ Rr : It → Hp → Prop,
    (∀ (n : Nat) (f : Nat → PyData) (J : It) (B' H' : Hp) (G : Hp → Prop) (Y : Nat → Hp → V → Hp → Prop), S n f → Gw p B H B' H' → L2.Walk J n G Y → (∀ B2 H2, Same B' B2 → Wf p B2 H2 → G H2) →
      (∀ i B2 H2 x H3, i < n → Same B' B2 → Wf p B2 H2 → Y i H2 x H3 → ∃ B3, Gw p B2 H2 B3 H3 ∧ Dp K B3 x (f i)) → Rr J H') → wi σ H Rr
abbrev EvN (K : PySem.W.Frag) (wi : TI) (ds : Slots) (n : Nat) (f : Nat → PyData) : Prop := EvI K wi ds fun n' f' => n' = n ∧ f' = f
section
variable {K : PySem.W.Frag} {ds : Slots} {wi : TI} {tl : TE} {ta : TA} {xs : List PyData}

theorem ei_seq {vs : List V} {p : Pst} {B' : Hp} (h2 : DpAll K B' vs xs) :
    ∀ i B2 H2 x H3, Same B' B2 → Wf p B2 H2 → L2.YAt vs i H2 x H3 → ∃ B3, Gw p B2 H2 B3 H3 ∧ Dp K B3 x (xs.getD i .none) := fun i B2 H2 x H3 s2 w2 y => by
  obtain ⟨e, hx⟩ := y
  subst e
  obtain ⟨d, hd, h⟩ := h2.getV hx
  refine ⟨B2, Gw.refl w2, ?_⟩
  rw [List.getD_eq_getElem?_getD, hd]
  exact h.mono s2
theorem ei_tupP {P : List PyData → Prop} (h : EvP K tl ds (fun d => ∃ xs, d = .tuple xs ∧ P xs)) : EvI K (iTup K tl) ds (fun n f => ∃ xs, P xs ∧ n = xs.length ∧ f = fun i => xs.getD i .none) := fun p B H σ e w Rr k =>
  h p B H σ e w _ fun d v B1 H1 q hd g1 => by
    obtain ⟨xs, rfl, hP⟩ := q
    cases hd with
    | tup h1 h2 =>
      exact ⟨_, rfl, ⟨_, sqT_mono g1.wf.sub h1⟩, k _ _ _ B1 H1 _ (L2.YAt _) ⟨xs, hP, rfl, rfl⟩ g1 (h2.length ▸ L2.walk_tup) (fun B2 H2 s2 w2 => sqT_mono (s2.trans w2.sub) h1) (fun i B2 H2 x H3 hi s2 w2 y => ei_seq h2 i B2 H2 x H3 s2 w2 y)⟩
theorem ei_listP {P : List PyData → Prop} (h : EvP K tl ds (fun d => ∃ xs, d = .list xs ∧ P xs)) : EvI K (iList K tl) ds (fun n f => ∃ xs, P xs ∧ n = xs.length ∧ f = fun i => xs.getD i .none) := fun p B H σ e w Rr k =>
  h p B H σ e w _ fun d v B1 H1 q hd g1 => by
    obtain ⟨xs, rfl, hP⟩ := q
    cases hd with
    | lst h1 h2 =>
      exact ⟨_, rfl, ⟨_, g1.wf.sub.seq h1⟩, k _ _ _ B1 H1 _ (L2.YAt _) ⟨xs, hP, rfl, rfl⟩ g1 (h2.length ▸ L2.walk_list) (fun B2 H2 s2 w2 => (s2.trans w2.sub).seq h1) (fun i B2 H2 x H3 hi s2 w2 y => ei_seq h2 i B2 H2 x H3 s2 w2 y)⟩
theorem EvI.imp {S S' : Nat → (Nat → PyData) → Prop} (h : EvI K wi ds S) (hs : ∀ n f, S n f → S' n f) : EvI K wi ds S' := fun p B H σ e w Rr k =>
  h p B H σ e w Rr fun n f J B' H' G Y s => k n f J B' H' G Y (hs n f s)
theorem ei_tup (h : Ev K tl ds (.tuple xs)) : EvN K (iTup K tl) ds xs.length (fun i => xs.getD i .none) := (ei_tupP (P := fun l => l = xs) (h.imp fun d e => ⟨xs, e, rfl⟩)).imp fun n f ⟨l, e, h1, h2⟩ => by subst e; exact ⟨h1, h2⟩
theorem ei_list (h : Ev K tl ds (.list xs)) : EvN K (iList K tl) ds xs.length (fun i => xs.getD i .none) := (ei_listP (P := fun l => l = xs) (h.imp fun d e => ⟨xs, e, rfl⟩)).imp fun n f ⟨l, e, h1, h2⟩ => by subst e; exact ⟨h1, h2⟩
theorem env_one {p : Pst} {B : Hp} {vs : List V} {d : PyData} (h : EnvD K p B (vs.map some) [.dat d]) : ∃ v, vs = [v] ∧ Dp K B v d := by
  have := env_dats (l := [d]) h
  cases this with
  | cons h0 t => cases t; exact ⟨_, rfl, h0⟩
theorem env_two {p : Pst} {B : Hp} {vs : List V} {d e : PyData} (h : EnvD K p B (vs.map some) [.dat d, .dat e]) : ∃ v w, vs = [v, w] ∧ Dp K B v d ∧ Dp K B w e := by
  have := env_dats (l := [d, e]) h
  cases this with
  | cons h0 t =>
    cases t with
    | cons h1 t => cases t; exact ⟨_, _, rfl, h0, h1⟩
theorem ei_r1P {P : Int → Prop} (h : EvA K ta ds (fun xs => ∃ n : Int, xs = [.dat (.int n)] ∧ P n ∧ -100000 ≤ n ∧ n ≤ 100000)) : EvI K (iRng1 ta) ds (fun n f => ∃ z : Int, P z ∧ n = z.toNat ∧ f = fun i => .int (i : Nat)) := fun p B H σ e w Rr k =>
  h p B H σ e w _ fun xs vs B1 H1 q he g1 => by
    obtain ⟨n, rfl, hP, h1, h2⟩ := q
    obtain ⟨v, rfl, hd⟩ := env_one he
    cases hd
    refine ⟨n, rfl, by omega, by omega, k _ _ _ B1 H1 _ _ ⟨n, hP, rfl, rfl⟩ g1 L2.walk_range (fun _ _ _ _ => trivial) fun i B2 H2 x H3 hi s2 w2 y => ?_⟩
    obtain ⟨e1, e2⟩ := y
    subst e1 e2
    refine ⟨B2, Gw.refl w2, ?_⟩
    show Dp K B2 (.int (0 + (i : Int))) (.int (i : Int))
    rw [Int.zero_add]
    exact .int _
theorem ei_r1 {n : Int} (h : EvL K ta ds [.dat (.int n)]) (hn : -100000 ≤ n ∧ n ≤ 100000) : EvN K (iRng1 ta) ds n.toNat (fun i => .int (i : Nat)) :=
  (ei_r1P (P := fun z => z = n) fun p B H σ e w Q k => h p B H σ e w Q fun xs vs B' H' q => k xs vs B' H' ⟨n, q, rfl, hn⟩).imp fun m f ⟨z, e, h1, h2⟩ => by subst e; exact ⟨h1, h2⟩
theorem ei_r2 {lo hi : Int} (h : EvL K ta ds [.dat (.int lo), .dat (.int hi)]) (h1 : -100000 ≤ lo ∧ lo ≤ 100000) (h2 : -100000 ≤ hi ∧ hi ≤ 100000) : EvN K (iRng2 ta) ds (hi - lo).toNat (fun i => .int (lo + (i : Nat))) := fun p B H σ e w Rr k =>
  h p B H σ e w _ fun xs vs B1 H1 q he g1 => by
    subst q
    obtain ⟨v, v', rfl, hd, hd'⟩ := env_two he
    cases hd
    cases hd'
    refine ⟨lo, hi, rfl, ⟨by omega, by omega, by omega, by omega⟩, k _ _ _ B1 H1 _ _ ⟨rfl, rfl⟩ g1 L2.walk_range (fun _ _ _ _ => trivial) fun i B2 H2 x H3 hi s2 w2 y => ?_⟩
    obtain ⟨e1, e2⟩ := y
    subst e1 e2
    exact ⟨B2, Gw.refl w2, .int _⟩
/-- range(n - 1, -1, -1) -/
theorem ei_down {n : Nat} (h : EvL K ta ds [.dat (.int ((n : Int) - 1)), .dat (.int (-1)), .dat (.int (-1))]) (hn : n ≤ 100000) : EvN K (iRng3 ta) ds n (fun i => .int ((n : Int) - 1 - (i : Nat))) := fun p B H σ e w Rr k =>
  h p B H σ e w _ fun xs vs B1 H1 q he g1 => by
    subst q
    have := env_dats (l := [.int ((n : Int) - 1), .int (-1), .int (-1)]) he
    cases this with
    | cons ha t =>
      cases t with
      | cons hb t =>
        cases t with
        | cons hc t =>
          cases t
          cases ha
          cases hb
          cases hc
          have hg := RgC.neg (i := (n : Int) - 1) (j := -1) (by omega) (by omega) (by omega) (by omega)
          rw [show ((n : Int) - 1 - -1).toNat = n by omega] at hg
          refine ⟨_, _, _, n, rfl, hg, k _ _ _ B1 H1 _ _ ⟨rfl, rfl⟩ g1 L2.walk_rangeC (fun _ _ _ _ => trivial) fun i B2 H2 x H3 hi s2 w2 y => ?_⟩
          obtain ⟨e1, e2⟩ := y
          subst e1 e2
          refine ⟨B2, Gw.refl w2, ?_⟩
          show Dp K B2 (.int ((n : Int) - 1 + (i : Int) * -1)) _
          rw [show (n : Int) - 1 + (i : Int) * -1 = (n : Int) - 1 - (i : Int) by omega]
          exact .int _
/-- enumerate(xs), xs a list -/
theorem ei_enum (h : EvL K ta ds [.dat (.list xs)]) : EvN K (iEnum K ta) ds xs.length (fun i => .tuple [.int (i : Nat), xs.getD i .none]) := fun p B H σ e w Rr k =>
  h p B H σ e w _ fun ys vs B1 H1 q he g1 => by
    subst q
    obtain ⟨v, rfl, hd⟩ := env_one he
    cases hd with
    | lst h1 h2 =>
      refine ⟨_, _, rfl, g1.wf.sub.seq h1, k _ _ _ B1 H1 _ _ ⟨rfl, rfl⟩ g1 (h2.length ▸ L2.walk_enum) (fun B2 H2 s2 w2 => (s2.trans w2.sub).seq h1) fun i B2 H2 x H3 hi s2 w2 y => ?_⟩
      obtain ⟨T, a, b, rfl, hT, rfl, ha, hb⟩ := y
      cases ha
      obtain ⟨d, hd, hdb⟩ := h2.getV hb
      refine ⟨_, Gw.new w2 hT, .tup (.inl (.inl upd_same)) (.cons (.int _) (.cons ?_ .nil))⟩
      rw [List.getD_eq_getElem?_getD, hd]
      exact (hdb.mono s2).mono (Gw.new w2 hT).bb

/-! ### loops -/
variable {N : Slots → Prop} {R : PyData → Prop} {g : TG} {tb : TS} {vs : List Nat}
theorem run_forP {S : Nat → (Nat → PyData) → Prop} (h : EvI K wi ds S) (hl : ∀ n f, S n f → ∃ I : Nat → Slots → Prop, I 0 ds ∧ (∀ i ds', i < n → I i ds' → ∃ ds2, EvG K vs g (f i) ds' ds2 ∧ Run K tb ds2 (I (i + 1)) R) ∧ ∀ ds', I n ds' → N ds') :
    Run K (tFor wi g tb) ds N R := fun p B H σ D e w kn kr => by
  refine h p B H σ e w _ fun n f J B1 H1 G Y hS g1 W hG hY => ?_
  obtain ⟨I, i0, hs, hd⟩ := hl n f hS
  refine L2.for_it W (fun i σ' H' => ∃ ds' B', I i ds' ∧ EnvD K p B' σ' ds' ∧ Gw p B1 H1 B' H') ⟨ds, B1, i0, e.mono g1.bb, Gw.refl g1.wf⟩ (fun i σ' H' _ ⟨_, B', _, _, g2⟩ => hG B' H' g2.bb g2.wf) ?_ ?_
  · intro i x σ' H' H3 hi ⟨ds', B', hI, he, g2⟩ y
    obtain ⟨B3, g3, hx⟩ := hY i B' H' x H3 hi g2.bb g2.wf y
    obtain ⟨ds2, hg, hb⟩ := hs i ds' hi hI
    refine hg p B3 H3 σ' x (he.mono g3.bb) g3.wf.sub hx _ fun σ2 e2 _ => ?_
    exact hb p B3 H3 σ2 _ e2 g3.wf (fun ds4 B4 H4 σ4 n4 e4 g4 => ⟨ds4, B4, n4, e4, (g2.trans g3).trans g4⟩) fun d v B4 H4 r hd g4 => kr d v B4 H4 r hd (((g1.trans g2).trans g3).trans g4)
  · intro σ' H' ⟨ds', B', hI, he, g2⟩
    exact kn ds' B' H' σ' (hd ds' hI) he (g1.trans g2)
theorem run_for {n : Nat} {f : Nat → PyData} (I : Nat → Slots → Prop) (h : EvN K wi ds n f) (h0 : I 0 ds) (hs : ∀ i ds', i < n → I i ds' → ∃ ds2, EvG K vs g (f i) ds' ds2 ∧ Run K tb ds2 (I (i + 1)) R) (hd : ∀ ds', I n ds' → N ds') :
    Run K (tFor wi g tb) ds N R := run_forP h fun n' f' ⟨e1, e2⟩ => by subst e1 e2; exact ⟨I, h0, hs, hd⟩

/-! ### comprehensions -/
variable {tt : TT} {te : TE} {P : PyData → Prop}
theorem ev_lcP {S : Nat → (Nat → PyData) → Prop} (h : EvI K wi ds S) (hl : ∀ n f, S n f → ∃ J : Nat → List PyData → Prop, n ≤ 1000000 ∧ J 0 [] ∧ (∀ acc, J n acc → P (.list acc)) ∧ ∀ i acc, i < n → J i acc → acc.length ≤ i →
      ∃ ds2, EvG K vs g (f i) (wipeD ds vs) ds2 ∧ EvT K tt ds2 fun b => (b = true → EvP K te ds2 fun d => J (i + 1) (acc ++ [d])) ∧ (b = false → J (i + 1) acc)) : EvP K (tLc wi g tt te vs) ds P := fun p B H σ e w Q k => by
  refine h p B H σ e w _ fun n f Ji B1 H1 G Y hS g1 W hG hY => ?_
  obtain ⟨J, hn, j0, hend, hs⟩ := hl n f hS
  intro D hD
  -- the new list is no part of the base while it grows
  refine L2.lc_it W (fun i H' => ∃ acc vacc B', J i acc ∧ acc.length ≤ i ∧ H' D = some (.lst vacc) ∧ DpAll K B' vacc acc ∧ B' D = none ∧ Gw p B1 H1 B' H') ⟨[], [], B1, j0, Nat.le_refl _, upd_same, .nil, g1.wf.none_of hD, Gw.newH g1.wf hD⟩
    (fun i H' _ ⟨_, _, B', _, _, _, _, _, g2⟩ => hG B' H' g2.bb g2.wf) ?_ ?_
  · intro i x H' H3 hi ⟨acc, vacc, B', hJ, hlen, hl1, hl2, hl3, g2⟩ y
    obtain ⟨B3, g3, hx⟩ := hY i B' H' x H3 hi g2.bb g2.wf y
    obtain ⟨ds2, hg, ht⟩ := hs i acc hi hJ hlen
    have pD := g1.wf.ne hD
    have hg3 : Gw p B' H' B3 H3 := g3
    have fin : ∀ {B4 H4 : Hp} {y : V} {d : PyData}, Gw p B' H' B4 H4 → Dp K B4 y d → J (i + 1) (acc ++ [d]) → ∃ acc0, H4 D = some (.lst acc0) ∧ acc0.length < sizeLine ∧
        ∃ acc vacc B', J (i + 1) acc ∧ acc.length ≤ i + 1 ∧ (upd H4 D (.lst (acc0 ++ [y]))) D = some (.lst vacc) ∧ DpAll K B' vacc acc ∧ B' D = none ∧ Gw p B1 H1 B' (upd H4 D (.lst (acc0 ++ [y]))) := fun {B4 H4 y d} g4 hd hJ' => by
      obtain ⟨b1, b2⟩ := g4.keep pD hl3 hl1
      have hl := hl2.length
      exact ⟨vacc, b2, Nat.lt_of_lt_of_le (show vacc.length < 1000001 by omega) (by decide), acc ++ [d], vacc ++ [y], B4, hJ', by rw [List.length_append]; show acc.length + 1 ≤ _; omega, upd_same, (hl2.mono g4.bb).append (.cons hd .nil), b1, Gw.mut g1.wf (g2.trans g4) hD b1⟩
    refine hg p B3 H3 (wipe σ vs) x (((e.mono g1.bb).mono g2.bb).mono g3.bb |>.wipe vs) g3.wf.sub hx _ fun σ2 e2 hw => ⟨by rw [hw, wipe_wipe], ?_⟩
    refine ht p B3 H3 σ2 e2 g3.wf _ fun b B4 H4 ⟨q1, q2⟩ g4 => ?_
    cases b with
    | true =>
      show te σ2 H4 _
      exact q1 rfl p B4 H4 σ2 (e2.mono g4.bb) g4.wf _ fun d y B5 H5 hJ' hd g5 => fin ((g3.trans g4).trans g5) hd hJ'
    | false =>
      obtain ⟨b1, b2⟩ := (g3.trans g4).keep pD hl3 hl1
      exact ⟨acc, vacc, B4, q2 rfl, by omega, b2, hl2.mono (g3.trans g4).bb, b1, g2.trans (g3.trans g4)⟩
  · intro H' ⟨acc, vacc, B', hJ, hlen, hl1, hl2, hl3, g2⟩
    have g := g2.freeze g1.wf hD hl3 hl1
    exact k _ _ _ H' (hend acc hJ) (.lst (.inl (.inl upd_same)) (hl2.mono (same_new hl3))) (g1.trans g)

/-- over n turns, no test: the list of what the elements are -/
theorem ev_map {n : Nat} {f h : Nat → PyData} (hi : EvN K wi ds n f) (hn : n ≤ 1000000) (hs : ∀ i, i < n → ∃ ds2, EvG K vs g (f i) (wipeD ds vs) ds2 ∧ Ev K te ds2 (h i)) : Ev K (tLc wi g tYes te vs) ds (.list ((List.range n).map h)) :=
  ev_lcP hi fun n' f' ⟨e1, e2⟩ => by
    subst e1 e2
    refine ⟨fun i acc => acc = (List.range i).map h, hn, rfl, fun acc e => by rw [e], fun i acc hlt e _ => ?_⟩
    obtain ⟨ds2, h1, h2⟩ := hs i hlt
    exact ⟨ds2, h1, et_yes.imp fun b eb => ⟨fun _ => h2.to (by show _ = (List.range (i + 1)).map h; rw [e, List.range_succ, List.map_append]; rfl), fun z => by rw [eb] at z; cases z⟩⟩
theorem range_map_getD {α β : Type} (l : List α) (d : α) (F : α → β) : (List.range l.length).map (fun i => F (l.getD i d)) = l.map F := by
  refine List.ext_getElem (by simp) fun i h1 h2 => ?_
  simp at h1
  simp [List.getD_eq_getElem?_getD, h1]
theorem getD_at {xs : List PyData} {i : Nat} {d : PyData} (h : xs[i]? = some d) : xs.getD i .none = d := by rw [List.getD_eq_getElem?_getD, h]; rfl
/-- over a tuple, a list -/
theorem ev_mapX {xs : List PyData} {F : PyData → PyData} (hi : EvN K wi ds xs.length (fun i => xs.getD i .none)) (hn : xs.length ≤ 1000000) (hs : ∀ (i : Nat) (d : PyData), xs[i]? = some d → ∃ ds2, EvG K vs g d (wipeD ds vs) ds2 ∧ Ev K te ds2 (F d)) :
    Ev K (tLc wi g tYes te vs) ds (.list (xs.map F)) := by
  have := ev_map (h := fun i => F (xs.getD i .none)) hi hn fun i hlt => by
    have := hs i _ (List.getElem?_eq_getElem hlt)
    rw [getD_at (List.getElem?_eq_getElem hlt)]
    exact this
  rw [range_map_getD] at this
  exact this
/-- with a test -/
theorem ev_filX {xs : List PyData} {F : PyData → PyData} {b : PyData → Bool} (hi : EvN K wi ds xs.length (fun i => xs.getD i .none)) (hn : xs.length ≤ 1000000) (hs : ∀ (i : Nat) (d : PyData), xs[i]? = some d → ∃ ds2, EvG K vs g d (wipeD ds vs) ds2 ∧ EvB K tt ds2 (b d) ∧ (b d = true → Ev K te ds2 (F d))) :
    Ev K (tLc wi g tt te vs) ds (.list ((xs.filter b).map F)) :=
  ev_lcP hi fun n' f' ⟨e1, e2⟩ => by
    subst e1 e2
    refine ⟨fun i acc => acc = ((xs.take i).filter b).map F, hn, rfl, fun acc e => by rw [e, List.take_length], fun i acc hlt e _ => ?_⟩
    have hx := List.getElem?_eq_getElem hlt
    obtain ⟨ds2, h1, h2, h3⟩ := hs i _ hx
    have hg : (fun i => xs.getD i PyData.none) i = xs[i] := getD_at hx
    rw [hg]
    refine ⟨ds2, h1, h2.imp fun c ec => ⟨fun hc => (h3 (ec.symm.trans hc)).to ?_, fun hc => ?_⟩⟩
    · show _ = ((xs.take (i + 1)).filter b).map F
      rw [e, List.take_add_one, hx, List.filter_append, List.map_append]
      have : b xs[i] = true := ec.symm.trans hc
      simp [this]
    · show _ = ((xs.take (i + 1)).filter b).map F
      rw [e, List.take_add_one, hx, List.filter_append, List.map_append]
      have : b xs[i] = false := ec.symm.trans hc
      simp [this]
end
end K47
/-! K47, the layer: built-ins over data (isinstance, len, all, any, max, min, tuple, list), slices, >= of pairs, t[::-1]. -/
namespace K47
open PySem PySem.Spec PyProof.Rows L2

/-! ### isinstance -/
def tyN : PyData → String
  | .none => "NoneType" | .bool _ => "bool" | .int _ => "int" | .str _ => "str" | .list _ => "list" | .tuple _ => "tuple" | .dict _ => "dict"
def isTup : PyData → Bool | .tuple _ => true | _ => false
def isLst : PyData → Bool | .list _ => true | _ => false
def isInt : PyData → Bool | .int _ => true | .bool _ => true | _ => false
def isBool : PyData → Bool | .bool _ => true | _ => false
def isStr : PyData → Bool | .str _ => true | _ => false
theorem kit_isTup : ∀ d : PyData, kitB (tyN d) "tuple" = some (isTup d)
  | .none => (by decide +kernel : kitB "NoneType" "tuple" = some false)
  | .bool _ => (by decide +kernel : kitB "bool" "tuple" = some false)
  | .int _ => (by decide +kernel : kitB "int" "tuple" = some false)
  | .str _ => (by decide +kernel : kitB "str" "tuple" = some false)
  | .list _ => (by decide +kernel : kitB "list" "tuple" = some false)
  | .tuple _ => (by decide +kernel : kitB "tuple" "tuple" = some true)
  | .dict _ => (by decide +kernel : kitB "dict" "tuple" = some false)
theorem kit_isLst : ∀ d : PyData, kitB (tyN d) "list" = some (isLst d)
  | .none => (by decide +kernel : kitB "NoneType" "list" = some false)
  | .bool _ => (by decide +kernel : kitB "bool" "list" = some false)
  | .int _ => (by decide +kernel : kitB "int" "list" = some false)
  | .str _ => (by decide +kernel : kitB "str" "list" = some false)
  | .list _ => (by decide +kernel : kitB "list" "list" = some true)
  | .tuple _ => (by decide +kernel : kitB "tuple" "list" = some false)
  | .dict _ => (by decide +kernel : kitB "dict" "list" = some false)
theorem kit_isInt : ∀ d : PyData, kitB (tyN d) "int" = some (isInt d)
  | .none => (by decide +kernel : kitB "NoneType" "int" = some false)
  | .bool _ => (by decide +kernel : kitB "bool" "int" = some true)
  | .int _ => (by decide +kernel : kitB "int" "int" = some true)
  | .str _ => (by decide +kernel : kitB "str" "int" = some false)
  | .list _ => (by decide +kernel : kitB "list" "int" = some false)
  | .tuple _ => (by decide +kernel : kitB "tuple" "int" = some false)
  | .dict _ => (by decide +kernel : kitB "dict" "int" = some false)
theorem kit_isBool : ∀ d : PyData, kitB (tyN d) "bool" = some (isBool d)
  | .none => (by decide +kernel : kitB "NoneType" "bool" = some false)
  | .bool _ => (by decide +kernel : kitB "bool" "bool" = some true)
  | .int _ => (by decide +kernel : kitB "int" "bool" = some false)
  | .str _ => (by decide +kernel : kitB "str" "bool" = some false)
  | .list _ => (by decide +kernel : kitB "list" "bool" = some false)
  | .tuple _ => (by decide +kernel : kitB "tuple" "bool" = some false)
  | .dict _ => (by decide +kernel : kitB "dict" "bool" = some false)
theorem kit_isStr : ∀ d : PyData, kitB (tyN d) "str" = some (isStr d)
  | .none => (by decide +kernel : kitB "NoneType" "str" = some false)
  | .bool _ => (by decide +kernel : kitB "bool" "str" = some false)
  | .int _ => (by decide +kernel : kitB "int" "str" = some false)
  | .str _ => (by decide +kernel : kitB "str" "str" = some true)
  | .list _ => (by decide +kernel : kitB "list" "str" = some false)
  | .tuple _ => (by decide +kernel : kitB "tuple" "str" = some false)
  | .dict _ => (by decide +kernel : kitB "dict" "str" = some false)
section
variable {K : PySem.W.Frag} {ds : Slots} {ta tb te : TE} {d : PyData} {P : PyData → Prop} {xs : List PyData}
theorem dp_ty {B H : Hp} {v : V} (h : Dp K B v d) (w : Same B H) : TyX K H v (.type (tyN d)) := by
  cases h with
  | non => exact .base .non
  | bl b => exact .base (.bl b)
  | int i => exact .base (.int i)
  | str x => exact .base (.str x)
  | lst h1 h2 =>
    rcases h1 with (h | ⟨o, h⟩) | ⟨o, its, n, h1, h2, _⟩
    · exact .base (.lst (w _ _ h))
    · exact .base (.frz (w _ _ h))
    · exact .kList h1 h2
  | tup h1 h2 =>
    rcases h1 with (h | ⟨o, h⟩) | ⟨o, its, n, h1, h2, _⟩
    · exact .base (.tup (w _ _ h))
    · exact .fTuple (w _ _ h)
    · exact .kTuple h1 h2
theorem ev_isi {T : String} {b : Bool} (ha : Ev K ta ds d) (hk : kitB (tyN d) T = some b) : Ev K (tCB (rIsi K) (tCons ta (tCons (tC (.ty T)) tNil))) ds (.bool b) := fun p B H σ e w Q k =>
  ha p B H σ e w _ fun x v B1 H1 q hd g => by
    subst q
    exact ⟨v, .ty T, .type (tyN x), .type T, b, rfl, .ty T, dp_ty hd g.wf.sub, kit_ty hk, k _ _ B1 H1 rfl (.bl b) g⟩
theorem ev_isTup (ha : Ev K ta ds d) : Ev K (tCB (rIsi K) (tCons ta (tCons (tC (.ty "tuple")) tNil))) ds (.bool (isTup d)) := ev_isi ha (kit_isTup d)
theorem ev_isLst (ha : Ev K ta ds d) : Ev K (tCB (rIsi K) (tCons ta (tCons (tC (.ty "list")) tNil))) ds (.bool (isLst d)) := ev_isi ha (kit_isLst d)
theorem ev_isInt (ha : Ev K ta ds d) : Ev K (tCB (rIsi K) (tCons ta (tCons (tC (.ty "int")) tNil))) ds (.bool (isInt d)) := ev_isi ha (kit_isInt d)
theorem ev_isBool (ha : Ev K ta ds d) : Ev K (tCB (rIsi K) (tCons ta (tCons (tC (.ty "bool")) tNil))) ds (.bool (isBool d)) := ev_isi ha (kit_isBool d)
theorem ev_isStr (ha : Ev K ta ds d) : Ev K (tCB (rIsi K) (tCons ta (tCons (tC (.ty "str")) tNil))) ds (.bool (isStr d)) := ev_isi ha (kit_isStr d)

/-! ### len, list, tuple, all, any, max, min, abs, int -/
def rLen (K : PySem.W.Frag) : List V → Hp → VK → Prop := fun xs H Q => ∃ p ys, xs = [.ref p] ∧ (SqL K H p ys ∨ SqT K H p ys) ∧ Q (.int ys.length) H
def rList (K : PySem.W.Frag) : List V → Hp → VK → Prop := fun xs H Q => ∃ p ys, xs = [.ref p] ∧ (SqL K H p ys ∨ SqT K H p ys) ∧ ∀ l, H l = none → Q (.ref l) (upd H l (.lst ys))
def rTup (K : PySem.W.Frag) : List V → Hp → VK → Prop := fun xs H Q => ∃ p ys, xs = [.ref p] ∧ ((SqL K H p ys ∧ ∀ l, H l = none → Q (.ref l) (upd H l (.tup ys))) ∨ (SqT K H p ys ∧ Q (.ref p) H))
def rMax2 : List V → Hp → VK → Prop := fun xs H Q => ∃ i j, xs = [.int i, .int j] ∧ Q (.int (if j > i then j else i)) H
def rAbs : List V → Hp → VK → Prop := fun xs H Q => ∃ i, xs = [.int i] ∧ Q (.int (if i < 0 then -i else i)) H
def rInt1 : List V → Hp → VK → Prop := fun xs H Q => (∃ i, xs = [.int i] ∧ Q (.int i) H) ∨ ∃ k, xs = [.bl k] ∧ Q (.int (if k then 1 else 0)) H
theorem cr_len {X : Cx} : CallR X (.builtin "len") (rLen X.K) := call_len_seq
theorem cr_list {X : Cx} : CallR X (.type "list") (rList X.K) := call_list_of
theorem cr_tup {X : Cx} : CallR X (.type "tuple") (rTup X.K) := call_tuple_of
theorem cr_max2 {X : Cx} (hc : X.calm = true) : CallR X (.builtin "max") rMax2 := call_max2 hc
theorem cr_abs {X : Cx} : CallR X (.builtin "abs") rAbs := call_abs
theorem cr_int {X : Cx} : CallR X (.type "int") rInt1 := call_int1

theorem cd_lenT : Cd K (rLen K) [.dat (.tuple xs)] (.int (xs.length : Int)) := fun p B H vs e w Q k => by
  obtain ⟨v, rfl, hd⟩ := env_one e
  cases hd with
  | tup h1 h2 => exact ⟨_, _, rfl, .inr (sqT_mono w.sub h1), by rw [h2.length]; exact k _ _ B H rfl (.int _) (Gw.refl w)⟩
theorem cd_lenL : Cd K (rLen K) [.dat (.list xs)] (.int (xs.length : Int)) := fun p B H vs e w Q k => by
  obtain ⟨v, rfl, hd⟩ := env_one e
  cases hd with
  | lst h1 h2 => exact ⟨_, _, rfl, .inl (w.sub.seq h1), by rw [h2.length]; exact k _ _ B H rfl (.int _) (Gw.refl w)⟩
theorem cd_listT : Cd K (rList K) [.dat (.tuple xs)] (.list xs) := fun p B H vs e w Q k => by
  obtain ⟨v, rfl, hd⟩ := env_one e
  cases hd with
  | tup h1 h2 => exact ⟨_, _, rfl, .inr (sqT_mono w.sub h1), fun l hl => k _ _ _ _ rfl (.lst (.inl (.inl upd_same)) (h2.mono (Gw.new w hl).bb)) (Gw.new w hl)⟩
theorem cd_listL : Cd K (rList K) [.dat (.list xs)] (.list xs) := fun p B H vs e w Q k => by
  obtain ⟨v, rfl, hd⟩ := env_one e
  cases hd with
  | lst h1 h2 => exact ⟨_, _, rfl, .inl (w.sub.seq h1), fun l hl => k _ _ _ _ rfl (.lst (.inl (.inl upd_same)) (h2.mono (Gw.new w hl).bb)) (Gw.new w hl)⟩
theorem cd_tupL : Cd K (rTup K) [.dat (.list xs)] (.tuple xs) := fun p B H vs e w Q k => by
  obtain ⟨v, rfl, hd⟩ := env_one e
  cases hd with
  | lst h1 h2 => exact ⟨_, _, rfl, .inl ⟨w.sub.seq h1, fun l hl => k _ _ _ _ rfl (.tup (.inl (.inl upd_same)) (h2.mono (Gw.new w hl).bb)) (Gw.new w hl)⟩⟩
theorem cd_all {bs : List Bool} : Cd K (rAll K) [.dat (.list (bs.map .bool))] (.bool (bs.all id)) := fun p B H vs e w Q k => by
  obtain ⟨v, rfl, hd⟩ := env_one e
  cases hd with
  | lst h1 h2 =>
    have := h2.bls
    subst this
    exact ⟨_, bs, rfl, w.sub.seq h1, k _ _ B H rfl (.bl _) (Gw.refl w)⟩
theorem cd_any {bs : List Bool} : Cd K (rAny K) [.dat (.list (bs.map .bool))] (.bool (bs.any id)) := fun p B H vs e w Q k => by
  obtain ⟨v, rfl, hd⟩ := env_one e
  cases hd with
  | lst h1 h2 =>
    have := h2.bls
    subst this
    exact ⟨_, bs, rfl, w.sub.seq h1, k _ _ B H rfl (.bl _) (Gw.refl w)⟩
/-- all([..]) of a list of truth values given by f -/
theorem cd_allF {α : Type} {l : List α} {f : α → Bool} : Cd K (rAll K) [.dat (.list (l.map fun x => .bool (f x)))] (.bool (l.all f)) := by
  have := cd_all (K := K) (bs := l.map f)
  rw [List.map_map, List.all_map] at this
  exact this
theorem cd_anyF {α : Type} {l : List α} {f : α → Bool} : Cd K (rAny K) [.dat (.list (l.map fun x => .bool (f x)))] (.bool (l.any f)) := by
  have := cd_any (K := K) (bs := l.map f)
  rw [List.map_map, List.any_map] at this
  exact this
theorem cd_max {ns : List Int} (h : ns ≠ []) : CdP K (rMax K) [.dat (.list (ns.map .int))] (fun d => ∃ m, m ∈ ns ∧ (∀ y ∈ ns, y ≤ m) ∧ d = .int m) := fun p B H vs e w Q k => by
  obtain ⟨v, rfl, hd⟩ := env_one e
  cases hd with
  | lst h1 h2 =>
    have := h2.ints
    subst this
    exact ⟨_, ns, rfl, w.sub.seq h1, List.length_pos_iff.mpr h, fun m h1 h2 => k _ _ B H ⟨m, h1, h2, rfl⟩ (.int _) (Gw.refl w)⟩
theorem cd_min {ns : List Int} (h : ns ≠ []) : CdP K (rMin K) [.dat (.list (ns.map .int))] (fun d => ∃ m, m ∈ ns ∧ (∀ y ∈ ns, m ≤ y) ∧ d = .int m) := fun p B H vs e w Q k => by
  obtain ⟨v, rfl, hd⟩ := env_one e
  cases hd with
  | lst h1 h2 =>
    have := h2.ints
    subst this
    exact ⟨_, ns, rfl, w.sub.seq h1, List.length_pos_iff.mpr h, fun m h1 h2 => k _ _ B H ⟨m, h1, h2, rfl⟩ (.int _) (Gw.refl w)⟩
theorem cd_max2 {i j : Int} : Cd K rMax2 [.dat (.int i), .dat (.int j)] (.int (max i j)) := fun p B H vs e w Q k => by
  obtain ⟨v, v', rfl, hd, hd'⟩ := env_two e
  cases hd
  cases hd'
  refine ⟨i, j, rfl, ?_⟩
  have e : (if j > i then j else i) = max i j := by
    by_cases h : j > i
    · rw [if_pos h]; omega
    · rw [if_neg h]; omega
  rw [e]
  exact k _ _ B H rfl (.int _) (Gw.refl w)

/-! ### slices -/
def cutL {α : Type} (xs : List α) (lo hi : Option Int) : List α := (xs.drop (HT.sIx xs.length 0 lo)).take (HT.sIx xs.length xs.length hi - HT.sIx xs.length 0 lo)
theorem cutL_to {α : Type} (xs : List α) (k : Nat) : cutL xs none (some (k : Int)) = xs.take k := by
  unfold cutL
  rw [HT.sIx_none, HT.sIx_nat, List.drop_zero, Nat.sub_zero]
  by_cases h : k ≤ xs.length
  · rw [Nat.min_eq_left h]
  · rw [Nat.min_eq_right (by omega), List.take_length, List.take_of_length_le (by omega)]
theorem cutL_from {α : Type} (xs : List α) (k : Nat) : cutL xs (some (k : Int)) none = xs.drop k := by
  unfold cutL
  rw [HT.sIx_none, HT.sIx_nat]
  by_cases h : k ≤ xs.length
  · rw [Nat.min_eq_left h, List.take_of_length_le (by rw [List.length_drop]; omega)]
  · rw [Nat.min_eq_right (by omega), List.drop_length, List.drop_eq_nil_of_le (by omega)]
    simp
def EvO (K : PySem.W.Frag) (to : TO) (ds : Slots) (o : Option Int) : Prop :=
  ∀ (p : Pst) (B H : Hp) (σ : L2.St), EnvD K p B σ ds → Wf p B H → ∀ Q : Option Int → Hp → Prop, (∀ B' H', Gw p B H B' H' → Q o H') → to σ H Q
theorem eo_none : EvO K tNoPart ds none := fun p B H σ e w Q k => k B H (Gw.refl w)
theorem eo_some {i : Int} (h : Ev K te ds (.int i)) : EvO K (tPart te) ds (some i) := fun p B H σ e w Q k =>
  h p B H σ e w _ fun d v B1 H1 q hd g => by
    subst q
    cases hd
    exact ⟨i, rfl, k B1 H1 g⟩
theorem dpAll_cut {B : Hp} {vs : List V} {l : List PyData} (h : DpAll K B vs l) (lo hi : Option Int) : DpAll K B (cutV vs lo hi) (cutL l lo hi) := by
  unfold cutV cutL
  rw [h.length]
  exact (h.drop _).take _
theorem ev_slT {tl th : TO} {lo hi : Option Int} (ha : Ev K te ds (.tuple xs)) (hl : EvO K tl ds lo) (hh : EvO K th ds hi) : Ev K (tSl (rSlA K) te tl th) ds (.tuple (cutL xs lo hi)) := fun p B H σ e w Q k =>
  ha p B H σ e w _ fun d v B1 H1 q hd g1 => hl p B1 H1 σ (e.mono g1.bb) g1.wf _ fun B2 H2 g2 => hh p B2 H2 σ ((e.mono g1.bb).mono g2.bb) g2.wf _ fun B3 H3 g3 => by
    subst q
    have hd3 := (hd.mono g2.bb).mono g3.bb
    have g := (g1.trans g2).trans g3
    cases hd3 with
    | tup h1 h2 =>
      refine ⟨_, _, rfl, sqT_mono g3.wf.sub h1, fun hw => ?_, fun hw q hq => ?_⟩
      · have hc : cutL xs lo hi = xs := by
          unfold cutL
          rw [← h2.length, hw.1, hw.2]
          rw [h2.length]
          simp
        refine k _ _ _ _ rfl ?_ g
        rw [hc]
        exact .tup h1 h2
      · exact k _ _ _ _ rfl (.tup (.inl (.inl upd_same)) ((dpAll_cut h2 lo hi).mono (Gw.new g3.wf hq).bb)) (g.trans (Gw.new g3.wf hq))
theorem ev_slL {tl th : TO} {lo hi : Option Int} (ha : Ev K te ds (.list xs)) (hl : EvO K tl ds lo) (hh : EvO K th ds hi) : Ev K (tSl (rSlL K) te tl th) ds (.list (cutL xs lo hi)) := fun p B H σ e w Q k =>
  ha p B H σ e w _ fun d v B1 H1 q hd g1 => hl p B1 H1 σ (e.mono g1.bb) g1.wf _ fun B2 H2 g2 => hh p B2 H2 σ ((e.mono g1.bb).mono g2.bb) g2.wf _ fun B3 H3 g3 => by
    subst q
    have hd3 := (hd.mono g2.bb).mono g3.bb
    have g := (g1.trans g2).trans g3
    cases hd3 with
    | lst h1 h2 =>
      refine ⟨_, _, rfl, g3.wf.sub.seq h1, fun q hq => ?_⟩
      exact k _ _ _ _ rfl (.lst (.inl (.inl upd_same)) ((dpAll_cut h2 lo hi).mono (Gw.new g3.wf hq).bb)) (g.trans (Gw.new g3.wf hq))
end

/-! ### t >= u, pairs of ints -/
def rGe2 (K : PySem.W.Frag) : R2 := fun x y H Q => ∃ (a b : Addr) (i j k l : Int), x = .ref a ∧ y = .ref b ∧ SqT K H a [.int i, .int j] ∧ SqT K H b [.int k, .int l] ∧
  Q (.bl (if i = k then decide (l ≤ j) else decide (k ≤ i))) H
theorem op_ge2 {X : Cx} (hu : X.A.units < cLine) : OpR X (compareOp .GtE) (rGe2 X.K) := by
  intro pins s σ H x y v u Q I rx ry h
  obtain ⟨a, b, i, j, k, l, rfl, rfl, ha, hb, q⟩ := h
  cases rx
  cases ry
  obtain ⟨its, r1, p1, _⟩ := I.tuple ha
  obtain ⟨its2, r2, p2, _⟩ := I.tuple hb
  obtain ⟨t1, t2, rfl⟩ := r1.int2
  obtain ⟨t3, t4, rfl⟩ := r2.int2
  have dc : ∀ (x y : Int), (x == y) = decide (x = y) := fun x y => by
    by_cases q : x = y
    · rw [decide_eq_true q]; exact beq_iff_eq.mpr q
    · rw [decide_eq_false q]; exact beq_eq_false_iff_ne.mpr q
  have R := Ob.RcOp.tuples_ge (A := X.A) (s := s) (e := fun m => if m = 0 then decide (i = k) else decide (j = l)) (r := fun m => if m = 0 then decide (k ≤ i) else decide (l ≤ j)) p1 p2 hu (fun m h1 h2 => by
    match m with
    | 0 =>
      show SeqAt.EqAt _ s (.int i t1) (.int k t3) (decide (i = k))
      rw [← dc]; exact SeqAt.EqAt.int_int _ _ _ _
    | 1 =>
      show SeqAt.EqAt _ s (.int j t2) (.int l t4) (decide (j = l))
      rw [← dc]; exact SeqAt.EqAt.int_int _ _ _ _
    | m + 2 => exact absurd h1 (by simp)) (fun m h1 h2 _ => by
    match m with
    | 0 => exact Ob.RcOp.ge_int _ _ _ _
    | 1 => exact Ob.RcOp.ge_int _ _ _ _
    | m + 2 => exact absurd h1 (by simp))
  refine R X.prog X.w _ _ ?_
  refine ⟨.bl (if i = k then decide (l ≤ j) else decide (k ≤ i)), H, I, ?_, q⟩
  show Value.bool _ = Value.bool _
  congr 1
  show Ob.lexAt _ _ (decide (2 ≥ 2)) 0 2 = _
  rw [Ob.lexAt_succ, Ob.lexAt_succ, Ob.lexAt_zero]
  by_cases e1 : i = k
  · by_cases e2 : j = l
    · subst e1 e2; simp
    · simp [e1, e2]
  · simp [e1]

/-! ### t[::-1] -/
section
variable {prog : Program} {w : World} {A : Around} {E : Value → Shared → Prop} {s : Shared}
theorem adjust_rev (n : Nat) : Builtin.Slice.sliceAdjust none none (-1) (n : Int) = ((n : Int) - 1, -1) := by
  unfold Builtin.Slice.sliceAdjust
  simp
theorem places_rev (n : Nat) : Builtin.Slice.slicePlaces ((n : Int) - 1) (-1) (-1) = n := by
  unfold Builtin.Slice.slicePlaces
  rw [if_neg (by decide)]
  by_cases h : (n : Int) - 1 > -1
  · rw [if_pos h]
    have : ((n : Int) - 1 - -1 - 1) / -(-1) + 1 = n := by
      rw [show (-(-1) : Int) = 1 by decide, Int.ediv_one]
      omega
    rw [this]
    omega
  · rw [if_neg h]
    omega
theorem sliceApplied_rev {sl : Addr} {vl vu vt : Value} {n : Nat} {Q : Int × Int × Nat → Shared → Prop} (hs : s.heap.IsSliceOf sl vl vu vt) (pl : IsPart vl none) (pu : IsPart vu none) (pt : IsPart vt (some (-1)))
    (h : Q ((n : Int) - 1, -1, n) s) : wpAny (model prog w) A (Builtin.Slice.sliceApplied (.ref sl) (pure (n : Int))) Q E s := by
  obtain ⟨os, hos, hcs, hds⟩ := id hs
  unfold Builtin.Slice.sliceApplied Builtin.Slice.sliceFields
  refine wpAny_bind (wpAny_bind (wpAny_field hos hds (x := vl) rfl (wpAny_bind (wpAny_field hos hds (x := vu) rfl (wpAny_bind (wpAny_field hos hds (x := vt) rfl (wpAny_pure ?_)))))))
  refine wpAny_bind (HT.slicePart_ pt ?_)
  show wpAny _ _ (if ((-1 : Int) == 0) = true then _ else _) _ _ s
  rw [if_neg (by decide)]
  refine wpAny_bind (HT.slicePart_ pl (wpAny_bind (HT.slicePart_ pu (wpAny_bind (wpAny_pure ?_)))))
  show wpAny _ _ (match Builtin.Slice.sliceAdjust none none (-1) (n : Int) with | (lo, hi) => pure (lo, (-1 : Int), Builtin.Slice.slicePlaces lo hi (-1))) _ _ s
  rw [adjust_rev n]
  show wpAny _ _ (pure ((n : Int) - 1, (-1 : Int), Builtin.Slice.slicePlaces ((n : Int) - 1) (-1) (-1))) _ _ s
  rw [places_rev]
  exact wpAny_pure h
theorem fm_congr {α β : Type} {f g : α → Option β} : ∀ {l : List α}, (∀ x ∈ l, f x = g x) → l.filterMap f = l.filterMap g
  | [], _ => rfl
  | x :: l, h => by
    rw [List.filterMap_cons, List.filterMap_cons, h x List.mem_cons_self, fm_congr fun y hy => h y (List.mem_cons_of_mem _ hy)]
theorem pick_rev (xs : Array Value) : ((List.range xs.size).filterMap fun (m : Nat) => xs[((xs.size : Int) - 1 + (m : Int) * -1).toNat]?).toArray = xs.toList.reverse.toArray := by
  congr 1
  have e : ((List.range xs.size).filterMap fun (m : Nat) => xs[((xs.size : Int) - 1 + (m : Int) * -1).toNat]?) = ((List.range xs.size).map fun k => xs.size - 1 - k).filterMap (xs[·]?) := by
    rw [List.filterMap_map]
    refine fm_congr fun m hm => ?_
    have := List.mem_range.mp hm
    show xs[((xs.size : Int) - 1 + (m : Int) * -1).toNat]? = xs[xs.size - 1 - m]?
    congr 1
    omega
  rw [e, PySem.W.krv_range, List.filterMap_reverse, PySem.W.krv_all]
theorem getItem_tuple_rev {t sl : Addr} {items : Array Value} {vl vu vt : Value} {Q : Value → Shared → Prop} (ht : IsTup s.heap t items) (hs : s.heap.IsSliceOf sl vl vu vt) (pl : IsPart vl none) (pu : IsPart vu none) (pt : IsPart vt (some (-1)))
    (h : Q (.ref s.heap.objs.size) { s with heap := s.heap.push { cls := .type "tuple", data := .seq items.toList.reverse.toArray } })
    (hsz : items.size ≤ sizeLine) : wpAny (model prog w) A (getItem (.ref t) (.ref sl)) Q E s := by
  have htake : sizeOk (.seq items.toList.reverse.toArray) := by
    show items.toList.reverse.toArray.size ≤ sizeLine
    rw [List.size_toArray, List.length_reverse, Array.length_toList]
    exact hsz
  obtain ⟨os, hos, hcs, hds⟩ := id hs
  have hTs : s.TypeIs (.ref sl) "slice" := ⟨os, hos, hcs⟩
  unfold getItem
  try with_reducible refine wpAny_holding ?_
  first | refine wpAny_bind (wpAny_pure ?_) | skip
  refine wpAny_bind (wpAny_sequenceKey ht.typeIs (by decide) ?_)
  refine wpAny_bind (wpAny_callSpecial?_slot (name := Str.ofString "__getitem__") ht.typeIs PyProof.Rows.slot_tuple_getitem
    (wpAny_call_entry PyProof.Rows.slot_tuple_getitem ht.typeIs entry_tuple_getitem ?_ (args_tuple_getitem _ _)))
  show wpAny _ _ (Builtin.Tuple.tupleItemsOf (.ref t) >>= _) _ _ s
  refine wpAny_bind (tupleItemsOf_ ht ?_)
  refine wpAny_bind (wpAny_typeOf hTs ?_)
  rw [if_pos (by decide)]
  refine wpAny_bind (sliceApplied_rev hs pl pu pt ?_)
  have hno : ¬ (((items.size : Int) - 1 == 0 && (-1 : Int) == 1 && items.size == items.size) = true) := by
    intro q
    rw [Bool.and_eq_true, Bool.and_eq_true] at q
    exact absurd q.1.2 (by decide)
  show wpAny _ _ (if ((items.size : Int) - 1 == 0 && (-1 : Int) == 1 && items.size == items.size) = true then _ else _) _ _ s
  rw [if_neg hno, pick_rev]
  first
    | exact wpAny_bind (m := Builtin.Tuple.tupleExact _) (wpAny_newObj_type (wpAny_pure ⟨_, rfl, wpAny_pure h⟩) htake)
    | exact wpAny_bind (m := Builtin.Tuple.tupleExact _) (wpAny_newObj_type (wpAny_bind (wpAny_pure (wpAny_pure ⟨_, rfl, wpAny_pure h⟩))) htake)
    | exact wpAny_bind (wpAny_bind (m := Builtin.Tuple.tupleExact _) (wpAny_newObj_type (wpAny_pure (wpAny_pure ⟨_, rfl, wpAny_pure h⟩)) htake))
    | exact wpAny_bind (wpAny_bind (m := Builtin.Tuple.tupleExact _) (wpAny_newObj_type (wpAny_pure ⟨_, rfl, wpAny_pure h⟩) htake))
end
def tRevT (K : PySem.W.Frag) (te : TE) : TE := fun σ H Q => te σ H fun x H1 => ∃ a xs, x = .ref a ∧ SqT K H1 a xs ∧ ∀ p, H1 p = none → Q (.ref p) (upd H1 p (.tup xs.reverse))
theorem pe_revT {X : Cx} {e : Expr} {te : TE} {k : Nat} {p1 p2 p3 pos : Pos} (he : PE X e te) : PE X (.Subscript e (.Slice none none (some (.UnaryOp .USub (.Constant (.int 1) k p1) p2)) p3) pos) (tRevT X.K te) := by
  refine ⟨fun pins s σ H Q I h => ?_⟩
  refine Subscript_ (thn (he.run pins s σ H _ I h) fun v s1 ⟨x, H1, I1, r1, q1⟩ => ?_)
  obtain ⟨a, xs, ex, hx, q⟩ := q1
  subst ex
  cases r1
  have hst : PO X (some (.UnaryOp .USub (.Constant (.int 1) k p1) p2)) (tPart (tUn (rU fun i => .int (-i)) (tC (.int 1)))) := po_some (pe_un un_neg pe_int)
  refine wpAny_Slice (thn (po_none.run pins s1 σ H1 (fun o H2 => o = none ∧ H2 = H1) I1 ⟨rfl, rfl⟩) fun vl s2 ⟨l, H2, I2, pl, el, e2⟩ => ?_)
  subst el e2
  refine thn (po_none.run pins s2 σ H2 (fun o H3 => o = none ∧ H3 = H2) I2 ⟨rfl, rfl⟩) fun vu s3 ⟨u, H3, I3, pu, eu, e3⟩ => ?_
  subst eu e3
  refine thn (hst.run pins s3 σ H3 (fun o H4 => o = some (-1) ∧ H4 = H3) I3 ⟨1, rfl, -1, rfl, rfl, rfl⟩) fun vs s4 ⟨o, H4, I4, ps, eo, e4⟩ => ?_
  subst eo e4
  have I5 : Inv X pins σ H4 { s4 with heap := s4.heap.push { cls := .type "slice", data := .fields #[vl, vu, vs] } } := I4.kept (t' := s4.toks) fun b ob q => Heap.get?_push_of_some _ q
  obtain ⟨its, r, ht, hz⟩ := I5.tuple hx
  show wpAny (model X.prog X.w) X.A (subscriptTail e (.Slice none none (some (.UnaryOp .USub (.Constant (.int 1) k p1) p2)) p3) (.ref a) (.ref s4.heap.objs.size)) (EP X pins σ Q) X.xe { s4 with heap := s4.heap.push { cls := .type "slice", data := .fields #[vl, vu, vs] } }
  refine tail_any (ops := [.ref a, .ref s4.heap.objs.size]) (T := "tuple") ht.typeIs PyProof.Rows.slot_tuple_getitem.lookup ?_ (by with_unfolding_all rfl)
  refine getItem_tuple_rev ht (Heap.IsSliceOf.new _ vl vu vs) pl pu ps ?_ (by rw [List.size_toArray, ← r.length]; exact hz)
  refine ⟨.ref _, _, I5.laid (t' := s4.toks) (o := .tup xs.reverse) (fun b ob q => Heap.get?_push_of_some _ q) (Nat.le_refl _) ?_, rfl, q _ (I5.hok.fresh (Nat.le_refl _))⟩
  exact ⟨by rw [List.length_reverse]; exact hz, _, r.reverse, ⟨_, Heap.get?_push_size _ rfl, rfl, _, rfl⟩⟩
theorem ev_revT {K : PySem.W.Frag} {ds : Slots} {te : TE} {xs : List PyData} (ha : Ev K te ds (.tuple xs)) : Ev K (tRevT K te) ds (.tuple xs.reverse) := fun p B H σ e w Q k =>
  ha p B H σ e w _ fun d v B1 H1 q hd g1 => by
    subst q
    cases hd with
    | tup h1 h2 =>
      refine ⟨_, _, rfl, sqT_mono g1.wf.sub h1, fun q hq => ?_⟩
      exact k _ _ _ _ rfl (.tup (.inl (.inl upd_same)) (h2.reverse.mono (Gw.new g1.wf hq).bb)) (g1.trans (Gw.new g1.wf hq))
theorem rd_ge2 {K : PySem.W.Frag} {i j k l : Int} : Rd2 K (rGe2 K) (.tuple [.int i, .int j]) (.tuple [.int k, .int l]) (.bool (if i = k then decide (l ≤ j) else decide (k ≤ i))) := fun p B H x y hx hy w Q kk => by
  cases hx with
  | tup h1 h2 =>
    cases hy with
    | tup h3 h4 =>
      have e1 := DpAll.ints (ns := [i, j]) h2
      have e2 := DpAll.ints (ns := [k, l]) h4
      subst e1 e2
      exact ⟨_, _, i, j, k, l, rfl, rfl, sqT_mono w.sub h1, sqT_mono w.sub h3, kk _ _ B H rfl (.bl _) (Gw.refl w)⟩
end K47
/-! K47, the layer: more rules (known tests, scans, two clauses, enumerate of a tuple). -/
namespace K47
open PySem PySem.Spec PyProof.Rows L2
section
variable {K : PySem.W.Frag} {ds : Slots} {ta tb te : TE} {t u : TT} {d : PyData} {P : PyData → Prop} {N : Slots → Prop} {R : PyData → Prop}
theorem et_or_t (h : EvB K t ds true) : EvB K (tOr t u) ds true := et_orP h (fun _ => rfl) fun h => by cases h
theorem et_or_f {b : Bool} (h : EvB K t ds false) (h2 : EvB K u ds b) : EvB K (tOr t u) ds b := et_orP h (fun h => by cases h) fun _ => h2
theorem et_and_f (h : EvB K t ds false) : EvB K (tAnd t u) ds false := et_andP h (fun _ => rfl) fun h => by cases h
theorem et_and_t {b : Bool} (h : EvB K t ds true) (h2 : EvB K u ds b) : EvB K (tAnd t u) ds b := et_andP h (fun h => by cases h) fun _ => h2
theorem ev_and_f (h : Ev K ta ds (.bool false)) : Ev K (tAndV ta tb) ds (.bool false) := ev_and h (fun h => by cases h) fun _ => rfl
theorem ev_and_t (h : Ev K ta ds (.bool true)) (h2 : EvP K tb ds P) : EvP K (tAndV ta tb) ds P := ev_and h (fun _ => h2) fun h => by cases h
theorem ev_neg {i : Int} (h : Ev K ta ds (.int i)) : Ev K (tUn (rU fun i => .int (-i)) ta) ds (.int (-i)) := fun p B H σ e w Q k =>
  h p B H σ e w _ fun d v B1 H1 q hd g => by
    subst q
    cases hd
    exact ⟨i, rfl, k _ _ B1 H1 rfl (.int _) g⟩
theorem rd_notB {a b : Bool} : Rd2 K rNotB (.bool a) (.bool b) (.bool (!decide (a = b))) := RdP.val (z := .bl (!decide (a = b))) (fun B x y hx hy H Q q => by
  cases hx; cases hy
  exact ⟨a, b, rfl, rfl, q⟩) fun _ => .bl _
theorem ev_isN (h : Ev K ta ds d) (hd : d ≠ .none) : Ev K (tOp (fun x y H Q => y = .non ∧ Q (.bl (decide (x = .non))) H) ta (tC .non)) ds (.bool false) := ev_op h ev_non fun p B H x y hx hy w Q k => by
  cases hy
  refine ⟨rfl, ?_⟩
  have e : decide (x = V.non) = false := by
    cases hx with
    | non => exact absurd rfl hd
    | _ => exact decide_eq_false (fun z => nomatch z)
  rw [e]
  exact k _ _ B H rfl (.bl _) (Gw.refl w)
theorem ev_tru {l : List PyData} (h : Ev K ta ds (.tuple l)) : EvB K (fun σ H Q => ta σ H fun x H' => ∃ k, TruV K x H' k ∧ Q k H') ds (!l.isEmpty) := fun p B H σ e w Q k =>
  h p B H σ e w _ fun d v B1 H1 q hd g => by
    subst q
    cases hd with
    | tup h1 h2 =>
      refine ⟨!l.isEmpty, .inr (.inl ⟨_, sqT_mono g.wf.sub h1, ?_⟩), k _ B1 H1 rfl g⟩
      cases h2 <;> rfl

/-- a loop that leaves at the first item that is not ok -/
theorem run_scan {wi : TI} {g : TG} {tb : TS} {vs : List Nat} {n : Nat} {f : Nat → PyData} (EI : Slots → Prop) (ok : Nat → Prop) (h : EvN K wi ds n f) (h0 : EI ds)
    (hs : ∀ i ds', i < n → EI ds' → (∀ j, j < i → ok j) → ∃ ds2, EvG K vs g (f i) ds' ds2 ∧ Run K tb ds2 (fun x => EI x ∧ ok i) R) (hd : ∀ ds', EI ds' → (∀ j, j < n → ok j) → N ds') : Run K (tFor wi g tb) ds N R :=
  run_for (fun i ds' => EI ds' ∧ ∀ j, j < i → ok j) h ⟨h0, fun j hj => absurd hj (Nat.not_lt_zero j)⟩ (fun i ds' hi ⟨h1, h2⟩ => by
    obtain ⟨ds2, hg, hb⟩ := hs i ds' hi h1 h2
    refine ⟨ds2, hg, run_imp hb (fun x ⟨a, b⟩ => ⟨a, fun j hj => ?_⟩) fun _ z => z⟩
    rcases Nat.lt_or_eq_of_le (Nat.le_of_lt_succ hj) with q | q
    · exact h2 j q
    · rw [q]; exact b) fun ds' ⟨h1, h2⟩ => hd ds' h1 h2

/-! ### [e for a in xs for b in ys], no tests -/
theorem flat2_len {F : PyData → PyData → PyData} {ys : List PyData} (l : List PyData) : (l.flatMap fun a => ys.map fun b => F a b).length = l.length * ys.length := by
  induction l with
  | nil => simp
  | cons a l ih => rw [List.flatMap_cons, List.length_append, ih, List.length_map, List.length_cons, Nat.succ_mul]; omega
theorem ev_lc2X {wi wi1 : TI} {g g1 : TG} {vs vs1 : List Nat} {xs ys : List PyData} {F : PyData → PyData → PyData} (hi : EvN K wi ds xs.length (fun i => xs.getD i .none)) (hn : xs.length ≤ 1000) (hm : ys.length ≤ 1000)
    (hs : ∀ (i : Nat) (a : PyData), xs[i]? = some a → ∃ ds2, EvG K vs g a (wipeD ds vs) ds2 ∧ EvN K wi1 ds2 ys.length (fun j => ys.getD j .none) ∧ ∀ (j : Nat) (b : PyData), ys[j]? = some b → ∃ ds3, EvG K vs1 g1 b (wipeD ds2 vs1) ds3 ∧ Ev K te ds3 (F a b)) :
    Ev K (tLc2 wi g tYes wi1 g1 tYes te vs vs1) ds (.list (xs.flatMap fun a => ys.map fun b => F a b)) := fun p B H σ e w Q k => by
  refine hi p B H σ e w _ fun n f Ji B1 H1 G Y ⟨en, ef⟩ g1' W hG hY => ?_
  subst en ef
  intro D hD
  have pD := g1'.wf.ne hD
  -- what is collected: acc, at D, outside the base
  let Ac : List PyData → Hp → Prop := fun acc H' => ∃ vacc B', H' D = some (.lst vacc) ∧ DpAll K B' vacc acc ∧ B' D = none ∧ Gw p B1 H1 B' H'
  refine ⟨fun i m H' => m = xs.length - i ∧ i ≤ xs.length ∧ Ac ((xs.take i).flatMap fun a => ys.map fun b => F a b) H', ⟨xs.length, by simp, Nat.zero_le _, ([] : List V), B1, upd_same, .nil, g1'.wf.none_of hD, Gw.newH g1'.wf hD⟩, ?_⟩
  rintro i m H' ⟨rfl, hle, vacc, B', hl1, hl2, hl3, g2⟩
  by_cases hlt : i < xs.length
  · refine .inr ⟨W.goes i H' hlt (hG B' H' g2.bb g2.wf), fun H2 => Ac ((xs.take (i + 1)).flatMap fun a => ys.map fun b => F a b) H2, fun H2 h2 => ⟨xs.length - (i + 1), by omega, rfl, hlt, h2⟩, fun x H3 y => ?_⟩
    obtain ⟨B3, g3, hx⟩ := hY i B' H' x H3 hlt g2.bb g2.wf (W.yields i H' x H3 hlt (hG B' H' g2.bb g2.wf) y)
    have hxi : xs[i]? = some xs[i] := List.getElem?_eq_getElem hlt
    have hx : Dp K B3 x xs[i] := by
      have q : xs.getD i .none = xs[i] := getD_at hxi
      rw [← q]; exact hx
    obtain ⟨ds2, hg, hi1, hs1⟩ := hs i xs[i] hxi
    refine hg p B3 H3 (wipe σ vs) x (EnvD.wipe (((e.mono g1'.bb).mono g2.bb).mono g3.bb) vs) g3.wf.sub hx _ fun σ2 e2 hw => ⟨by rw [hw, wipe_wipe], ?_⟩
    unfold tYes
    dsimp only
    rw [if_pos rfl]
    refine hi1 p B3 H3 σ2 e2 g3.wf _ fun n1 f1 J1 B4 H4 G1 Y1 ⟨en1, ef1⟩ g4 W1 hG1 hY1 => ?_
    subst en1 ef1
    obtain ⟨b1, b2⟩ := (g3.trans g4).keep pD hl3 hl1
    have take1 : (xs.take (i + 1)).flatMap (fun a => ys.map fun b => F a b) = (xs.take i).flatMap (fun a => ys.map fun b => F a b) ++ ys.map fun b => F xs[i] b := by
      rw [List.take_add_one, hxi, List.flatMap_append]
      simp
    have lenle : ∀ j, j ≤ ys.length → ((xs.take i).flatMap (fun a => ys.map fun b => F a b) ++ (ys.take j).map fun b => F xs[i] b).length ≤ 1000 * 1000 := fun j hj => by
      have h1 : (((xs.take (i + 1)).flatMap fun a => ys.map fun b => F a b)).length ≤ 1000 * 1000 := by
        rw [flat2_len, List.length_take]
        exact Nat.mul_le_mul (by omega) hm
      rw [take1, List.length_append, List.length_map] at h1
      rw [List.length_append, List.length_map, List.length_take]
      omega
    refine ⟨fun j m H5 => m = ys.length - j ∧ j ≤ ys.length ∧ ∃ vacc B', H5 D = some (.lst vacc) ∧ DpAll K B' vacc ((xs.take i).flatMap (fun a => ys.map fun b => F a b) ++ (ys.take j).map fun b => F xs[i] b) ∧ B' D = none ∧ Gw p B1 H1 B' H5 ∧ Same B4 B',
      ⟨ys.length, by simp, Nat.zero_le _, vacc, B4, b2, by simpa using hl2.mono (g3.trans g4).bb, b1, g2.trans (g3.trans g4), Same.refl _⟩, ?_⟩
    rintro j m H5 ⟨rfl, hj, vacc1, B5, k1, k2, k3, g5, s45⟩
    by_cases hjt : j < ys.length
    · refine .inr ⟨W1.goes j H5 hjt (hG1 B5 H5 s45 g5.wf), fun H6 => ∃ vacc B', H6 D = some (.lst vacc) ∧ DpAll K B' vacc ((xs.take i).flatMap (fun a => ys.map fun b => F a b) ++ (ys.take (j + 1)).map fun b => F xs[i] b) ∧ B' D = none ∧ Gw p B1 H1 B' H6 ∧ Same B4 B', fun H6 h6 => ⟨ys.length - (j + 1), by omega, rfl, hjt, h6⟩, fun z H6 yz => ?_⟩
      obtain ⟨B6, g6, hz⟩ := hY1 j B5 H5 z H6 hjt s45 g5.wf (W1.yields j H5 z H6 hjt (hG1 B5 H5 s45 g5.wf) yz)
      have hyj : ys[j]? = some ys[j] := List.getElem?_eq_getElem hjt
      have hz : Dp K B6 z ys[j] := by
        have q : ys.getD j .none = ys[j] := getD_at hyj
        rw [← q]; exact hz
      obtain ⟨ds3, hg3, hev⟩ := hs1 j ys[j] hyj
      refine hg3 p B6 H6 (wipe σ2 vs1) z (((e2.mono g4.bb).mono (s45.trans g6.bb)).wipe vs1) g6.wf.sub hz _ fun σ3 e3 hw3 => ⟨by rw [hw3, wipe_wipe], ?_⟩
      dsimp only
      rw [if_pos rfl]
      refine hev p B6 H6 σ3 e3 g6.wf _ fun dd v B7 H7 qd hd7 g7 => ?_
      subst qd
      have hlen := lenle j (by omega)
      rw [← k2.length] at hlen
      obtain ⟨d1, d2⟩ := (g6.trans g7).keep pD k3 k1
      refine ⟨vacc1, d2, Nat.lt_of_lt_of_le (show vacc1.length < 1000001 by omega) (by decide), vacc1 ++ [v], B7, upd_same, ?_, d1, Gw.mut g1'.wf (g5.trans (g6.trans g7)) hD d1, s45.trans (g6.trans g7).bb⟩
      have t1 : (ys.take (j + 1)).map (fun b => F xs[i] b) = (ys.take j).map (fun b => F xs[i] b) ++ [F xs[i] ys[j]] := by
        rw [List.take_add_one, hyj, List.map_append]; rfl
      rw [t1, ← List.append_assoc]
      exact (k2.mono (g6.trans g7).bb).append (.cons hd7 .nil)
    · have ej : j = ys.length := by omega
      subst ej
      refine .inl ⟨W1.stops H5 (hG1 B5 H5 s45 g5.wf), vacc1, B5, k1, ?_, k3, g5⟩
      rw [take1]
      rw [List.take_length] at k2
      exact k2
  · have ei : i = xs.length := by omega
    subst ei
    rw [List.take_length] at hl2
    have g := g2.freeze g1'.wf hD hl3 hl1
    exact .inl ⟨W.stops H' (hG B' H' g2.bb g2.wf), k _ _ _ H' rfl (.lst (.inl (.inl upd_same)) (hl2.mono (same_new hl3))) (g1'.trans g)⟩
end

/-! ### enumerate(t), t a tuple -/
def IteT (K : PySem.W.Frag) (a : Addr) : It :=
  ⟨fun i H => ∃ (xs : List V) (x : V), SqT K H a xs ∧ xs[i]? = some x, fun i H v H' => ∃ T x, v = .ref T ∧ H T = none ∧ H' = upd H T (.tup [.int (i : Nat), x]) ∧ ∀ xs, SqT K H a xs → xs[i]? = some x, fun i H => ∃ xs : List V, SqT K H a xs ∧ xs.length = i⟩

section
variable {prog : Program} {w : World} {A : Around} {E : Value → Shared → Prop} {s : Shared}
set_option maxHeartbeats 1000000 in
theorem meets_enumerate_newB1 {v : Value} {o : Obj} {H : Heap → Prop} (B : Begins v o H) :
    Meets (Builtin.«enumerate.__new__» ⟨[.type "enumerate", v], []⟩) (fun _ R s => H s.heap ∧
      R (.ok (.ret (.ref (s.heap.push o).objs.size))) { s with heap := (s.heap.push o).push { cls := .type "enumerate", data := .fields #[.none, .bool false, .ref s.heap.objs.size, rawInt 0, .none, .none] } }) :=
  .of_wp fun prog w A R s h => by
    obtain ⟨hp, g, d, tk, os⟩ := s; obtain ⟨h1, h⟩ := h
    have hsub := sub_enumerate
    have q1 : ∀ {A' : Around} {E : Value → Shared → Prop} {Q : Value → Shared → Prop}, Q (.ref hp.objs.size) ⟨hp.push o, g, d, tk, os⟩ → wpAny (model prog w) A' (pyIter v) Q E ⟨hp, g, d, tk, os⟩ :=
      fun q => B.iter prog w _ _ ⟨hp, g, d, tk, os⟩ _ h1 q
    wp_walk using q1
    refine wpAny_stack_any fun st => wpAny_pure ?_
    split
    · rename_i c _ _ _ _ _
      cases (c == Value.type "enumerate")
      · wp_walk using q1
        exact ⟨_, rfl, h⟩
      · wp_walk using q1
        exact ⟨_, rfl, h⟩
    · wp_walk using q1
      exact ⟨_, rfl, h⟩
theorem enum_begins1 {v : Value} {o : Obj} {H : Heap → Prop} {Q : Value → Shared → Prop} (B : Begins v o H) (h1 : H s.heap)
    (h : ∀ h', IsEnum h' (s.heap.objs.size + 1) s.heap.objs.size 0 .none → h'.get? s.heap.objs.size = some o → h'.objs.size = s.heap.objs.size + 2 →
      (∀ b o, s.heap.get? b = some o → h'.get? b = some o) → Q (.ref (s.heap.objs.size + 1)) { s with heap := h' }) :
    wpAny (model prog w) A (call (.type "enumerate") [v]) Q E s := by
  refine callType_new F.called_enumerate (by decide) (F.typeCall_enumerate_1 _) (F.newCall_enumerate_1 _) (fun obj => F.args_object_init_2 obj _) F.entry_enumerate_new
    (meets_enumerate_newB1 B) ⟨h1, ?_⟩
  have hz : (s.heap.push o).objs.size = s.heap.objs.size + 1 := Heap.size_push ..
  show _ ∧ _
  rw [hz]
  have he : IsEnum ((s.heap.push o).push { cls := .type "enumerate", data := .fields #[.none, .bool false, .ref s.heap.objs.size, rawInt 0, .none, .none] }) (s.heap.objs.size + 1) s.heap.objs.size 0 .none := by
    have := Heap.get?_push_size (s.heap.push o) (o := { cls := .type "enumerate", data := .fields #[.none, .bool false, .ref s.heap.objs.size, rawInt 0, .none, .none] }) rfl
    rw [hz] at this; exact this
  refine ⟨⟨_, he, rfl⟩, h _ he (Heap.get?_push_of_some _ (Heap.get?_push_size _ B.free)) (by rw [Heap.size_push, hz]) fun b o x => Heap.get?_push_of_some _ (Heap.get?_push_of_some _ x)⟩
end
theorem tup_apart {h : Heap} {a it : Addr} {items : Array Value} {i : Nat} (ht : h.IsTuple a items) (hi : h.IsTupleIter it a i) : a ≠ it := fun e => by
  subst e
  obtain ⟨o, ho, hc, _⟩ := ht
  obtain ⟨o', ho', hc', _⟩ := hi
  rw [ho] at ho'
  cases ho'
  rw [hc] at hc'
  exact absurd hc' (by decide)
theorem turn_enumT {P : Program} {w : World} {K : PySem.W.Frag} {elts : List Expr} {kk : Nat} {tpos : Pos} (a e it : Addr) :
    Turn P w K (.Tuple elts kk tpos) (IteT K a) [e, it] e (fun i h => (∃ old, IsEnum h e it ((i : Nat) : Int) old) ∧ h.IsTupleIter it a i ∧ e ≠ it ∧ e ≠ a) where
  mem := by simp
  obj := fun i h st b hb => by
    obtain ⟨⟨old, he⟩, ⟨o, ho, hc, hd⟩, _⟩ := st
    have e' : b = e ∨ b = it := by simpa using hb
    rcases e' with z | z
    · rw [z]; exact ⟨_, he, fun v q => nomatch q⟩
    · rw [z]; exact ⟨o, ho, fun v q => by rw [hd] at q; cases q⟩
  keep := fun i h h' st k => let ⟨⟨old, he⟩, hi, hne⟩ := st; ⟨⟨old, k e (by simp) _ he⟩, hi.at fun o q => k it (by simp) o q, hne⟩
  item := by
    intro X hP hw hK hc i pins s σ H E I hf st hg
    subst hP hw hK
    obtain ⟨⟨old, he⟩, hit, hne, hea⟩ := st
    obtain ⟨xs, x, hq, hx⟩ := hg
    obtain ⟨its, rv, p, hz⟩ := I.tuple hq
    obtain ⟨u, hu, ru⟩ := rv.get hx
    have p' : s.heap.IsTuple a its.toArray := p
    have hel : e < s.heap.objs.size := Heap.lt_size he
    have hil : it < s.heap.objs.size := by obtain ⟨_, q, _⟩ := hit; exact Heap.lt_size q
    have hil2 : i < its.toArray.size := by
      have := (List.getElem?_eq_some_iff.mp hu).1
      simpa using this
    have D := Draws.tuple (prog := X.prog) (w := X.w) (A := X.A.in1) (I.ok.hd hc) it a (tup_apart p' hit) its.toArray
    refine wpAny_pyNext_enum_itemD D he ⟨hit, p'⟩ hil2 hne (by simp [hne, hea]) fun y h' tk hy ho st' hT hsz hk => ?_
    have ey : y = u := by
      have : its.toArray[i]? = some u := by simpa using hu
      rw [this] at hy
      exact (Option.some.inj hy).symm
    subst ey
    obtain ⟨hit', p2⟩ := st'
    refine ⟨_, rfl, wpAny_letOwnedTupleGo_enum (s := { s with heap := h', toks := tk + 1 }) ho fun h'' he' sb => ?_⟩
    have hT2 : h''.get? s.heap.objs.size = some { cls := .type "tuple", data := .seq #[.int i tk, y] } := (sb.2 _ (Nat.ne_of_gt hel)).trans hT
    have new : ObjOk X.prog X.w (upd H s.heap.objs.size (.tup [.int (i : Nat), x])) h'' s.heap.objs.size (.tup [.int (i : Nat), x]) :=
      ⟨by show 2 ≤ sizeLine; decide, [.int i tk, y], .cons ⟨_, rfl⟩ (.cons ru .nil), ⟨_, hT2, rfl, _, rfl⟩⟩
    have I1 : Inv X pins σ (upd H s.heap.objs.size (.tup [.int (i : Nat), x])) { s with heap := h'', toks := tk + 1 } :=
      I.turnedNew (ch := [e, it]) (fun b ob hb q => (sb.2 b (fun z => hb (by simp [z]))).trans (hk b ob (fun z => hb (by simp [z])) (fun z => hb (by simp [z])) q)) hf (Nat.le_refl _) new
    refine ⟨.ref s.heap.objs.size, _, I1, rfl, ⟨_, x, rfl, I.hok.fresh (Nat.le_refl _), rfl, fun ys hy => ?_⟩, ⟨⟨y, ?_⟩, hit'.at fun o q => (sb.2 it (Ne.symm hne)).trans q, hne, hea⟩, fun b hb => ?_⟩
    · rw [I.tuple_inj hy hq]; exact hx
    · have e1 : ((i + 1 : Nat) : Int) = (i : Int) + 1 := by omega
      rw [e1]; exact he'
    · have hb' : b < s.heap.objs.size := by
        have e' : b = e ∨ b = it := by simpa using hb
        rcases e' with z | z
        · rw [z]; exact hel
        · rw [z]; exact hil
      rw [upd_ne (Nat.ne_of_lt hb')]
      exact (hf b hb).1
  done := by
    intro X hP hw hK hc i pins s σ H E I hf st hg
    subst hP hw hK
    obtain ⟨⟨old, he⟩, hit, hne, hea⟩ := st
    obtain ⟨xs, hq, hx⟩ := hg
    obtain ⟨its, rv, p, hz⟩ := I.tuple hq
    obtain ⟨f0, f1, f2, f3, f4, f5⟩ := hf it (by simp)
    have hl := rv.length
    have p' : s.heap.IsTuple a its.toArray := p
    have D := Draws.tuple (prog := X.prog) (w := X.w) (A := X.A.in1) (I.ok.hd hc) it a (tup_apart p' hit) its.toArray
    have ei : i = its.toArray.size := by rw [List.size_toArray, ← hl, hx]
    subst ei
    exact wpAny_pyNext_enum_endD D he ⟨hit, p'⟩ fun h' eb => ⟨rfl, I.turned (t' := s.toks) (fun b o hb q => eb b o hb q) f0 f1 f3 f4 f5⟩
  self := fun A i s Q E st h => let ⟨⟨_, he⟩, _⟩ := st; wpAny_pyIter_enum he h
def iEnumT (K : PySem.W.Frag) (ta : TA) : TI := fun σ H R => ta σ H fun vs H1 => ∃ a xs, vs = [.ref a] ∧ SqT K H1 a xs ∧ R (IteT K a) H1
theorem pi_enumT {X : Cx} {e : Expr} {ta : TA} {p pos tpos : Pos} {elts : List Expr} {kk : Nat} (hg : Gl X "enumerate") (hm : X.mg "enumerate" = none) (ha : PA X [e] ta) (hs : starEach [e] X.env = [(false, eval e X.env)] := by rfl) :
    PI X (.Tuple elts kk tpos) (.Call (.Name "enumerate" p) [e] [] pos) (iEnumT X.K ta) := by
  refine ⟨fun pins s σ H R I h => ?_⟩
  refine Call_ (ld_blt I hg hm boot_enumerate (PyProof.Rows.callWith_type1 (thn (ha.run pos pins s σ H _ I h) fun us s1 ⟨vs, H1, I1, r1, q1⟩ => ?_) hs rfl))
  obtain ⟨a, xs, ex, hq, q⟩ := q1
  subst ex
  cases r1 with
  | cons r rr =>
    cases rr
    cases r
    obtain ⟨its, rv, p', hz⟩ := I1.tuple hq
    have p2 : s1.heap.IsTuple a its.toArray := p'
    refine enum_begins1 (begins_tuple a its.toArray) p2 fun h' he hit hsz hk => wpAny_pyIter_enum he ?_
    have I2 : Inv X pins σ H1 { s1 with heap := h' } := I1.kept (t' := s1.toks) hk
    have ha : a < s1.heap.objs.size := by obtain ⟨_, q, _⟩ := p2; exact Heap.lt_size q
    refine ⟨s1.heap.objs.size + 1, [s1.heap.objs.size + 1, s1.heap.objs.size], _, _, H1, rfl, I2, turn_enumT a (s1.heap.objs.size + 1) s1.heap.objs.size, ⟨⟨.none, he⟩, ⟨_, hit, rfl, rfl⟩, Nat.succ_ne_self _, Nat.ne_of_gt (Nat.lt_succ_of_lt ha)⟩, fun b hb => ?_, q⟩
    have e' : b = s1.heap.objs.size + 1 ∨ b = s1.heap.objs.size := by simpa using hb
    have hle : s1.heap.objs.size ≤ b := by
      rcases e' with z | z
      · rw [z]; exact Nat.le_add_right _ _
      · rw [z]; exact Nat.le_refl _
    exact I1.fpOk hle (I1.hok.fresh hle)
theorem walk_enumT {K : PySem.W.Frag} {a : Addr} {xs : List V} : L2.Walk (IteT K a) xs.length (fun H => SqT K H a xs) (L2.YPair (fun i => some (.int (i : Nat))) (fun i => xs[i]?)) where
  goes := fun i H hi h => ⟨xs, xs[i], h, List.getElem?_eq_getElem hi⟩
  stops := fun H h => ⟨xs, h, rfl⟩
  yields := fun i H x H' hi h y => by
    obtain ⟨T, z, e, hT, eH, hz⟩ := y
    exact ⟨T, _, z, e, hT, eH, rfl, hz xs h⟩
theorem ei_enumT {K : PySem.W.Frag} {ds : Slots} {ta : TA} {xs : List PyData} (h : EvL K ta ds [.dat (.tuple xs)]) : EvN K (iEnumT K ta) ds xs.length (fun i => .tuple [.int (i : Nat), xs.getD i .none]) := fun p B H σ e w Rr k =>
  h p B H σ e w _ fun ys vs B1 H1 q he g1 => by
    subst q
    obtain ⟨v, rfl, hd⟩ := env_one he
    cases hd with
    | tup h1 h2 =>
      refine ⟨_, _, rfl, sqT_mono g1.wf.sub h1, k _ _ _ B1 H1 _ _ ⟨rfl, rfl⟩ g1 (h2.length ▸ walk_enumT) (fun B2 H2 s2 w2 => sqT_mono (s2.trans w2.sub) h1) fun i B2 H2 x H3 hi s2 w2 y => ?_⟩
      obtain ⟨T, a, b, rfl, hT, rfl, ha, hb⟩ := y
      cases ha
      obtain ⟨d, hd, hdb⟩ := h2.getV hb
      refine ⟨_, Gw.new w2 hT, .tup (.inl (.inl upd_same)) (.cons (.int _) (.cons ?_ .nil))⟩
      rw [List.getD_eq_getElem?_getD, hd]
      exact (hdb.mono s2).mono (Gw.new w2 hT).bb
end K47
/-! K47, the layer: objects that a def makes and changes. -/
namespace K47
open PySem PySem.Spec PyProof.Rows L2

theorem Gw.chg {p q : Pst} {B H B' H' : Hp} (g : Gw p B H B' H') (w : Wf q B H) (e : q.st = p.st) : Gw q B H B' H' :=
  ⟨g.bb, g.fr, g.tr, fun a o hp h => g.hh a o (fun b hb => hp b (e.trans hb)) h, g.wf.sub, fun a b h => g.wf.st a b (e ▸ h), fun a b h => g.wf.nb a b (e ▸ h), fun a o h => by
    obtain ⟨h1, h2⟩ := w.ow a o h
    have hp : ∀ b, p.st ≠ some (a, b) := fun b hb => by
      have := (w.os a b (e.trans hb)).1
      rw [h] at this
      cases this
    obtain ⟨k1, k2⟩ := g.keep hp h2 h1
    exact ⟨k2, k1⟩, w.os⟩
structure Fw (p0 : Pst) (B0 H0 : Hp) (p : Pst) (B H : Hp) : Prop where
  w0 : Wf p0 B0 H0
  g : Gw p0 B0 H0 B H
  wf : Wf p B H
  st : p.st = p0.st
  ol : ∀ a o, p0.own a = some o → p.own a = some o
  nn : ∀ a, p.nw a → p0.own a = none ∧ H0 a = none
def Pst.fresh (p : Pst) : Pst := { p with nw := fun _ => False }
def Pst.put (p : Pst) (a : Addr) (o : HO) : Pst := { p with own := upd p.own a o }
def Pst.add (p : Pst) (a : Addr) (o : HO) : Pst := { st := p.st, own := upd p.own a o, nw := fun x => x = a ∨ p.nw x }
def Pst.del (p : Pst) (a : Addr) : Pst := { p with own := fun x => if x = a then none else p.own x }
section
variable {p0 p : Pst} {B0 H0 B H B' H' : Hp} {a : Addr} {o o' : HO}
theorem Fw.start (w : Wf p B H) : Fw p B H p.fresh B H := ⟨w, Gw.refl w, ⟨w.sub, w.st, w.nb, w.ow, w.os⟩, rfl, fun _ _ h => h, fun _ h => h.elim⟩
theorem Fw.step (F : Fw p0 B0 H0 p B H) (g : Gw p B H B' H') : Fw p0 B0 H0 p B' H' := ⟨F.w0, F.g.trans (g.chg F.g.wf F.st.symm), g.wf, F.st, F.ol, F.nn⟩
theorem Fw.ne (F : Fw p0 B0 H0 p B H) (ho : p.own a = some o) {x y : Addr} (h : p.st = some (x, y)) : x ≠ a ∧ y ≠ a := by
  obtain ⟨h1, h2⟩ := F.wf.os x y h
  exact ⟨(ne_of_none ho h1).symm, (ne_of_none ho h2).symm⟩
theorem Fw.mut (F : Fw p0 B0 H0 p B H) (hn : p.nw a) (ho : p.own a = some o) (o' : HO) : Fw p0 B0 H0 (p.put a o') B (upd H a o') := by
  obtain ⟨n1, n2⟩ := F.nn a hn
  obtain ⟨w1, w2⟩ := F.wf.ow a o ho
  refine ⟨F.w0, Gw.mut F.w0 F.g n2 w2, ⟨fun x y h => ?_, fun x y h => ?_, F.wf.nb, fun x y h => ?_, fun x y h => ?_⟩, F.st, fun x y h => ?_, F.nn⟩
  · rw [upd_ne (ne_of_none h w2)]; exact F.wf.sub x y h
  · obtain ⟨z1, z2⟩ := F.ne ho h
    exact (F.wf.st x y h).upd z1 z2
  · by_cases z : x = a
    · subst z
      have h : upd p.own x o' x = some y := h
      rw [upd_same] at h ⊢
      exact ⟨h, w2⟩
    · have h : upd p.own a o' x = some y := h
      rw [upd_ne z] at h ⊢
      exact F.wf.ow x y h
  · obtain ⟨z1, z2⟩ := F.ne ho h
    obtain ⟨k1, k2⟩ := F.wf.os x y h
    exact ⟨(upd_ne z1).trans k1, (upd_ne z2).trans k2⟩
  · have z : x ≠ a := ne_of_none h n1
    exact (upd_ne z).trans (F.ol x y h)
theorem Fw.new (F : Fw p0 B0 H0 p B H) (hH : H a = none) (o : HO) : Fw p0 B0 H0 (p.add a o) B (upd H a o) := by
  have hb := F.wf.none_of hH
  have own0 : p.own a = none := by
    cases e : p.own a with
    | none => rfl
    | some y => rw [(F.wf.ow a y e).1] at hH; cases hH
  refine ⟨F.w0, F.g.trans (Gw.newH F.g.wf hH), ⟨fun x y h => ?_, fun x y h => (F.wf.st x y h).new hH, F.wf.nb, fun x y h => ?_, fun x y h => ?_⟩, F.st, fun x y h => ?_, fun x h => ?_⟩
  · rw [upd_ne (ne_of_none h hb)]; exact F.wf.sub x y h
  · by_cases z : x = a
    · subst z
      have h : upd p.own x o x = some y := h
      rw [upd_same] at h ⊢
      exact ⟨h, hb⟩
    · have h : upd p.own a o x = some y := h
      rw [upd_ne z] at h ⊢
      exact F.wf.ow x y h
  · obtain ⟨z1, z2⟩ := (F.wf.st x y h).ne hH
    obtain ⟨k1, k2⟩ := F.wf.os x y h
    exact ⟨(upd_ne z1).trans k1, (upd_ne z2).trans k2⟩
  · have h2 := F.ol x y h
    exact (upd_ne (ne_of_none h2 own0)).trans h2
  · rcases h with h | h
    · subst h
      have h0 : H0 x = none := by
        cases e : H0 x with
        | none => rfl
        | some y => exact absurd hH (F.g.tr x (by rw [e]; simp))
      refine ⟨?_, h0⟩
      cases e : p0.own x with
      | none => rfl
      | some y => rw [F.ol x y e] at own0; cases own0
    · exact F.nn x h
theorem Fw.freeze (F : Fw p0 B0 H0 p B H) (hn : p.nw a) (ho : p.own a = some o) : Fw p0 B0 H0 (p.del a) (upd B a o) H := by
  obtain ⟨n1, n2⟩ := F.nn a hn
  obtain ⟨w1, w2⟩ := F.wf.ow a o ho
  have dl : ∀ {x : Addr} {y : HO}, (p.del a).own x = some y → x ≠ a ∧ p.own x = some y := fun {x y} h => by
    have h : (if x = a then none else p.own x) = some y := h
    by_cases z : x = a
    · rw [if_pos z] at h; cases h
    · rw [if_neg z] at h; exact ⟨z, h⟩
  have dn : ∀ {x : Addr}, p.own x = none → (p.del a).own x = none := fun {x} h => by
    show (if x = a then none else p.own x) = none
    rw [h]
    exact ite_self _
  refine ⟨F.w0, Gw.freeze F.w0 F.g n2 w2 w1, ⟨fun x y h => ?_, F.wf.st, fun x y h => ?_, fun x y h => ?_, fun x y h => ?_⟩, F.st, fun x y h => ?_, F.nn⟩
  · by_cases z : x = a
    · subst z; rw [upd_same] at h; cases h; exact w1
    · rw [upd_ne z] at h; exact F.wf.sub x y h
  · rw [upd_ne (F.ne ho h).1]; exact F.wf.nb x y h
  · obtain ⟨z, h⟩ := dl h
    rw [upd_ne z]
    exact F.wf.ow x y h
  · obtain ⟨k1, k2⟩ := F.wf.os x y h
    exact ⟨dn k1, dn k2⟩
  · show (if x = a then none else p.own x) = some y
    rw [if_neg (ne_of_none h n1)]
    exact F.ol x y h
end

/-! ### own slots -/
def Sl.pure : Sl → Prop
  | .own _ _ => False
  | _ => True
def Sl.away (q : Addr) : Sl → Prop
  | .own b Φ => q ∉ Φ.foot b
  | _ => True
def awayL (q : Addr) : Slots → Prop
  | [] => True
  | s :: l => s.away q ∧ awayL q l
def pureL : Slots → Prop
  | [] => True
  | s :: l => s.pure ∧ pureL l
def hideO : Slots → Slots
  | [] => []
  | .own _ _ :: l => .nil :: hideO l
  | s :: l => s :: hideO l
section
variable {K : PySem.W.Frag} {p q : Pst} {B H : Hp} {a : Addr} {o : HO} {σ : L2.St} {ds : Slots}
theorem EnvD.pureTo (e : q.st = p.st) : ∀ {σ : L2.St} {ds : Slots}, EnvD K p B σ ds → pureL ds → EnvD K q B σ ds
  | _, _, .nil, _ => .nil
  | _, _, .cons (b := s) h t, ⟨h1, h2⟩ => .cons (by
      cases s with
      | dat d => exact h
      | nil => trivial
      | strm => obtain ⟨x, y, k1, k2⟩ := h; exact ⟨x, y, e.trans k1, k2⟩
      | adr b => exact h
      | ls l => exact h
      | own b Φ => exact h1.elim) (EnvD.pureTo e t h2)
theorem EnvD.hideTo (e : q.st = p.st) : ∀ {σ : L2.St} {ds : Slots}, EnvD K p B σ ds → EnvD K q B σ (hideO ds)
  | _, _, .nil => .nil
  | _, _, .cons (b := s) h t => by
      cases s with
      | dat d => exact .cons h (EnvD.hideTo e t)
      | nil => exact .cons trivial (EnvD.hideTo e t)
      | strm => obtain ⟨x, y, k1, k2⟩ := h; exact .cons ⟨x, y, e.trans k1, k2⟩ (EnvD.hideTo e t)
      | adr b => exact .cons h (EnvD.hideTo e t)
      | ls l => exact .cons h (EnvD.hideTo e t)
      | own b Φ => exact .cons trivial (EnvD.hideTo e t)
theorem EnvD.awayTo (e : q.st = p.st) (ho : ∀ x, x ≠ a → q.own x = p.own x) (hn : ∀ x, p.nw x → q.nw x) : ∀ {σ : L2.St} {ds : Slots}, EnvD K p B σ ds → awayL a ds → EnvD K q B σ ds
  | _, _, .nil, _ => .nil
  | _, _, .cons (b := s) h t, ⟨h1, h2⟩ => .cons (by
      cases s with
      | dat d => exact h
      | nil => trivial
      | strm => obtain ⟨x, y, k1, k2⟩ := h; exact ⟨x, y, e.trans k1, k2⟩
      | adr b => exact h
      | ls l => exact h
      | own b Φ =>
        obtain ⟨k1, k2, k3⟩ := h
        exact ⟨k1, Φ.frame _ _ _ _ (fun x hx => ho x fun z => h1 (by rw [← z]; exact hx)) k2, fun x hx => hn x (k3 x hx)⟩) (EnvD.awayTo e ho hn t h2)
theorem EnvD.hide1 (h : EnvD K p B σ ds) (i : Nat) : EnvD K p B σ (ds.set i .nil) := by
  have go : ∀ {σ : L2.St} {ds : Slots} (i : Nat), EnvD K p B σ ds → EnvD K p B σ (ds.set i .nil) := by
    intro σ ds i h
    induction h generalizing i with
    | nil => exact .nil
    | cons h t ih =>
      cases i with
      | zero => exact .cons trivial t
      | succ i => exact .cons h (ih i)
  exact go i h
theorem EnvD.hides (h : EnvD K p B σ ds) : ∀ vs : List Nat, EnvD K p B σ (wipeD ds vs)
  | [] => h
  | v :: vs => (EnvD.hides h vs).hide1 v
/-- put back what σ has at i -/
theorem EnvD.back {i : Nat} {x : Option V} {s : Sl} (h : EnvD K p B σ (ds.set i .nil)) (e : σ[i]? = some x) (hs : SlOk K p B x s) : EnvD K p B σ (ds.set i s) := by
  have := h.set i hs
  rw [List.set_set] at this
  rwa [show σ.set i x = σ from by
    obtain ⟨hi, e⟩ := List.getElem?_eq_some_iff.mp e
    rw [← e]
    exact List.set_getElem_self hi] at this
theorem EnvD.own {i : Nat} {Φ : OwnP} (h : EnvD K p B σ ds) (e : ds[i]? = some (.own a Φ)) : σ[i]? = some (some (.ref a)) ∧ Φ.P p.own B a ∧ ∀ x ∈ Φ.foot a, p.nw x := by
  obtain ⟨o, h1, h2, h3⟩ := h.at e
  exact ⟨by rw [h1, h2], h3⟩
theorem away_none (hp : ∀ o, p.own a ≠ some o) : ∀ {σ : L2.St} {ds : Slots}, EnvD K p B σ ds → awayL a ds
  | _, _, .nil => trivial
  | _, _, .cons (b := s) h t => ⟨by
      cases s with
      | own b Φ =>
        intro hx
        obtain ⟨o, e⟩ := Φ.held p.own B b h.2.1 a hx
        exact hp o e
      | _ => trivial, away_none hp t⟩
end

/-- a list of data -/
def lstP (K : PySem.W.Frag) (l : List PyData) : OwnP := ⟨fun O B a => ∃ vs, O a = some (.lst vs) ∧ DpAll K B vs l, fun a => [a], fun O B B' a e ⟨vs, h1, h2⟩ => ⟨vs, h1, h2.mono e⟩, fun O O' B a h ⟨vs, h1, h2⟩ => ⟨vs, (h a (by simp)).trans h1, h2⟩, fun O B a ⟨vs, h1, h2⟩ x hx => by rw [show x = a by simpa using hx]; exact ⟨_, h1⟩⟩

/-- how what is owned goes on: what this scope may not touch stays -/
structure Ex (B : Hp) (p : Pst) (B' : Hp) (p' : Pst) : Prop where
  same : Same B B'
  kp : ∀ x o, p.own x = some o → ¬ p.nw x → p'.own x = some o
  nn : ∀ x, p'.nw x → p.nw x ∨ p.own x = none
theorem Ex.refl (B : Hp) (p : Pst) : Ex B p B p := ⟨Same.refl _, fun _ _ h _ => h, fun _ h => .inl h⟩
theorem Ex.of {B B' : Hp} {p : Pst} (h : Same B B') : Ex B p B' p := ⟨h, fun _ _ h _ => h, fun _ h => .inl h⟩
theorem Ex.trans {B B' B2 : Hp} {p p' p2 : Pst} (a : Ex B p B' p') (b : Ex B' p' B2 p2) : Ex B p B2 p2 := by
  refine ⟨a.same.trans b.same, fun x o h hn => b.kp x o (a.kp x o h hn) fun z => ?_, fun x h => ?_⟩
  · rcases a.nn x z with e | e
    · exact hn e
    · rw [h] at e; cases e
  · rcases b.nn x h with e | e
    · exact a.nn x e
    · cases q : p.own x with
      | none => exact .inr rfl
      | some o =>
        by_cases hn : p.nw x
        · exact .inl hn
        · rw [a.kp x o q hn] at e
          cases e
theorem Ex.put {B : Hp} {p : Pst} {a : Addr} {o : HO} (hn : p.nw a) : Ex B p B (p.put a o) := ⟨Same.refl _, fun x u h hx => (upd_ne (fun e => hx (by rw [e]; exact hn))).trans h, fun _ h => .inl h⟩
theorem Ex.add {B : Hp} {p : Pst} {a : Addr} {o : HO} (hn : p.own a = none) : Ex B p B (p.add a o) := ⟨Same.refl _, fun x u h hx => (upd_ne (ne_of_none h hn)).trans h, fun x h => h.elim (fun e => .inr (by rw [e]; exact hn)) .inl⟩
theorem Ex.del {B B' : Hp} {p : Pst} {a : Addr} (hn : p.nw a) (h : Same B B') : Ex B p B' (p.del a) := ⟨h, fun x u h hx => (if_neg (fun e => hx (by rw [e]; exact hn))).trans h, fun _ h => .inl h⟩

/-! ### statements -/
def RunO (K : PySem.W.Frag) (t : TS) (ds : Slots) (N : Slots → Prop) (R : PyData → Prop) : Prop :=
  ∀ (p0 : Pst) (B0 H0 : Hp) (p : Pst) (B H : Hp) (σ : L2.St) (D : Ends), EnvD K p B σ ds → Fw p0 B0 H0 p B H →
    (∀ (ds' : Slots) (p' : Pst) (B' H' : Hp) (σ' : L2.St), N ds' → EnvD K p' B' σ' ds' → Fw p0 B0 H0 p' B' H' → Ex B p B' p' → D.nx σ' H') →
    (∀ (d : PyData) (v : V) (B' H' : Hp), R d → Dp K B' v d → Gw p0 B0 H0 B' H' → D.rt v H') → t D σ H
section
variable {K : PySem.W.Frag} {ds : Slots} {te tj tk : TE} {tt : TT} {t u : TS} {N N1 N' : Slots → Prop} {R R' P : PyData → Prop} {d : PyData} {a : Addr}
theorem run_own (h : RunO K t ds (fun _ => False) R) (hp : pureL ds) : Run K t ds N R := fun p B H σ D e w kn kr =>
  h p B H p.fresh B H σ D (e.pureTo (p := p) (q := p.fresh) rfl hp) (Fw.start w) (fun _ _ _ _ _ z => z.elim) fun d v B' H' r hd g => kr d v B' H' r hd g
/-- .. that goes on, with what it changed hidden -/
theorem run_ownN (h : RunO K t ds (fun x => N (hideO x)) R) (hp : pureL ds) : Run K t ds N R := fun p B H σ D e w kn kr =>
  h p B H p.fresh B H σ D (e.pureTo (p := p) (q := p.fresh) rfl hp) (Fw.start w) (fun ds' p' B' H' σ' n e' F _ => kn _ B' H' σ' n (e'.hideTo F.st.symm) F.g) fun d v B' H' r hd g => kr d v B' H' r hd g
theorem ro_of (h : Run K t ds N R) : RunO K t ds N R := fun p0 B0 H0 p B H σ D e F kn kr =>
  h p B H σ D e F.wf (fun ds' B' H' σ' n e' g => kn ds' p B' H' σ' n e' (F.step g) (Ex.of g.bb)) fun d v B' H' r hd g => kr d v B' H' r hd (F.step g).g
theorem ro_seq (h1 : RunO K t ds N1 R) (h2 : ∀ ds', N1 ds' → RunO K u ds' N R) : RunO K (tSeq t u) ds N R := fun p0 B0 H0 p B H σ D e F kn kr =>
  h1 p0 B0 H0 p B H σ { D with nx := u D } e F (fun ds' p' B' H' σ' n e' F' s1 => h2 ds' n p0 B0 H0 p' B' H' σ' D e' F' (fun ds2 p2 B2 H2 σ2 n2 e2 F2 s2 => kn ds2 p2 B2 H2 σ2 n2 e2 F2 (s1.trans s2)) kr) kr
theorem ro_imp (h : RunO K t ds N' R') (hn : ∀ x, N' x → N x) (hr : ∀ x, R' x → R x) : RunO K t ds N R := fun p0 B0 H0 p B H σ D e F kn kr =>
  h p0 B0 H0 p B H σ D e F (fun ds' p' B' H' σ' n => kn ds' p' B' H' σ' (hn _ n)) fun d v B' H' r => kr d v B' H' (hr _ r)
theorem ro_next (h : N ds) : RunO K tNext ds N R := ro_of (run_next h)
theorem ro_ret (h : EvP K te ds R) : RunO K (tRet te) ds N R := ro_of (run_ret h)
theorem ro_setP {i : Nat} (h : EvP K te ds P) (k : ∀ d, P d → RunO K u (ds.set i (.dat d)) N R) : RunO K (tSeq (tAsg te (gName i)) u) ds N R := ro_seq (N1 := fun x => ∃ d, P d ∧ x = ds.set i (.dat d)) (ro_of (run_asgP h fun d q => ⟨d, q, rfl⟩)) fun x ⟨d, q, e⟩ => by rw [e]; exact k d q
theorem ro_set {i : Nat} (h : Ev K te ds d) (k : RunO K u (ds.set i (.dat d)) N R) : RunO K (tSeq (tAsg te (gName i)) u) ds N R := ro_setP h fun x e => by rw [e]; exact k
theorem ro_ifP {PB : Bool → Prop} (h : EvT K tt ds PB) (h1 : PB true → RunO K t ds N R) (h2 : PB false → RunO K u ds N R) : RunO K (tIfS tt t u) ds N R := fun p0 B0 H0 p B H σ D e F kn kr =>
  h p B H σ e F.wf _ fun b B1 H1 q g => by
    cases b with
    | true =>
      show t D σ H1
      exact h1 q p0 B0 H0 p B1 H1 σ D (e.mono g.bb) (F.step g) (fun ds2 p2 B2 H2 σ2 n2 e2 F2 s2 => kn ds2 p2 B2 H2 σ2 n2 e2 F2 ((Ex.of g.bb).trans s2)) kr
    | false =>
      show u D σ H1
      exact h2 q p0 B0 H0 p B1 H1 σ D (e.mono g.bb) (F.step g) (fun ds2 p2 B2 H2 σ2 n2 e2 F2 s2 => kn ds2 p2 B2 H2 σ2 n2 e2 F2 ((Ex.of g.bb).trans s2)) kr
theorem ro_if {b : Bool} (h : EvB K tt ds b) (h1 : b = true → RunO K t ds N R) (h2 : b = false → RunO K u ds N R) : RunO K (tIfS tt t u) ds N R := ro_ifP h (fun e => h1 e.symm) fun e => h2 e.symm
theorem ro_guard {b : Bool} {s : TS} (h : EvB K tt ds b) (h1 : b = true → RunO K t ds (fun _ => False) R) (h2 : b = false → RunO K s ds N R) : RunO K (tSeq (tIfS tt t tNext) s) ds N R :=
  ro_seq (N1 := fun x => x = ds ∧ b = false) (ro_if h (fun e => ro_imp (h1 e) (fun _ z => z.elim) fun _ z => z) fun e => ro_next ⟨rfl, e⟩) fun x ⟨e, hb⟩ => by rw [e]; exact h2 hb
/-- slots that nothing asks for any more -/
theorem ro_hide (vs : List Nat) (h : RunO K t (wipeD ds vs) N R) : RunO K t ds N R := fun p0 B0 H0 p B H σ D e F kn kr => h p0 B0 H0 p B H σ D (e.hides vs) F kn kr
theorem ro_impW (vs : List Nat) (h : RunO K t ds N' R) (hn : ∀ x, N' x → N (wipeD x vs)) : RunO K t ds N R := fun p0 B0 H0 p B H σ D e F kn kr =>
  h p0 B0 H0 p B H σ D e F (fun ds' p' B' H' σ' n e' F' s' => kn _ p' B' H' σ' (hn _ n) (e'.hides vs) F' s') kr
theorem ro_nextW (vs : List Nat) (h : N (wipeD ds vs)) : RunO K tNext ds N R := ro_impW vs (ro_next (N := fun x => x = ds) rfl) fun x e => by rw [e]; exact h
/-- what was changed changes no more -/
theorem ro_freeze {i : Nat} {l : List PyData} (hi : ds[i]? = some (.own a (lstP K l))) (haw : awayL a (ds.set i .nil)) (k : RunO K t (ds.set i (.dat (.list l))) N R) : RunO K t ds N R := fun p0 B0 H0 p B H σ D e F kn kr => by
  obtain ⟨e1, ⟨vs, ho, hd⟩, hn⟩ := e.own hi
  have hn := hn a (by simp [lstP])
  have F' := F.freeze hn ho
  have hb := (F.wf.ow a _ ho).2
  have e2 : EnvD K (p.del a) B σ (ds.set i .nil) := (e.hide1 i).awayTo (p := p) (q := p.del a) rfl (fun x hx => if_neg hx) (fun x h => h) haw
  refine k p0 B0 H0 (p.del a) _ H σ D ((e2.mono (same_new hb)).back e1 ⟨_, rfl, .lst (.inl (.inl upd_same)) (hd.mono (same_new hb))⟩) F' (fun ds2 p2 B2 H2 σ2 n2 e2 F2 s2 => kn ds2 p2 B2 H2 σ2 n2 e2 F2 ((Ex.del hn (same_new hb)).trans s2)) kr
theorem ro_freezeLs {i : Nat} {l : List PyData} (hi : ds[i]? = some (.own a (lstP K l))) (haw : awayL a (ds.set i .nil)) (k : RunO K t (ds.set i (.ls l)) N R) : RunO K t ds N R := fun p0 B0 H0 p B H σ D e F kn kr => by
  obtain ⟨e1, ⟨vs, ho, hd⟩, hn⟩ := e.own hi
  have hn := hn a (by simp [lstP])
  have F' := F.freeze hn ho
  have hb := (F.wf.ow a _ ho).2
  have e2 : EnvD K (p.del a) B σ (ds.set i .nil) := (e.hide1 i).awayTo (p := p) (q := p.del a) rfl (fun x hx => if_neg hx) (fun x h => h) haw
  refine k p0 B0 H0 (p.del a) _ H σ D ((e2.mono (same_new hb)).back e1 ⟨a, vs, rfl, upd_same, hd.mono (same_new hb)⟩) F' (fun ds2 p2 B2 H2 σ2 n2 e2 F2 s2 => kn ds2 p2 B2 H2 σ2 n2 e2 F2 ((Ex.del hn (same_new hb)).trans s2)) kr
theorem ev_ls {i : Nat} {l : List PyData} (hi : ds[i]? = some (.ls l)) : Ev K (tVar i) ds (.list l) := fun p B H σ e w Q k => by
  obtain ⟨o, h1, a, vs, rfl, h2, h3⟩ := e.at hi
  exact ⟨_, h1, k _ _ B H rfl (.lst (.inl (.inl h2)) h3) (Gw.refl w)⟩
theorem new_cat {i j : Nat} {l m : List PyData} (hi : ds[i]? = some (.ls l)) (hj : ds[j]? = some (.ls m)) (hz : l.length + m.length ≤ 1000000) (p : Pst) (B H : Hp) (σ : L2.St) (e : EnvD K p B σ ds) (w : Wf p B H) (Q : VK)
    (k : ∀ B' H' vs, Gw p B H B' H' → DpAll K B' vs (l ++ m) → ∀ q, H' q = none → Q (.ref q) (upd H' q (.lst vs))) : tOp rCat (tVar i) (tVar j) σ H Q := by
  obtain ⟨o, h1, a, vs, rfl, h2, h3⟩ := e.at hi
  obtain ⟨o', g1, b, ws, rfl, g2, g3⟩ := e.at hj
  refine ⟨_, h1, _, g1, a, b, vs, ws, rfl, rfl, w.sub a _ h2, w.sub b _ g2, ?_, fun q hq => k B H _ (Gw.refl w) (h3.append g3) q hq⟩
  rw [h3.length, g3.length]
  exact Nat.le_trans hz (by decide)
/-- x = a list that the def will change -/
theorem ro_newL {i : Nat} {l : List PyData} (h : ∀ (p : Pst) (B H : Hp) (σ : L2.St), EnvD K p B σ ds → Wf p B H → ∀ Q : VK, (∀ B' H' vs, Gw p B H B' H' → DpAll K B' vs l → ∀ q, H' q = none → Q (.ref q) (upd H' q (.lst vs))) → te σ H Q)
    (k : ∀ a, awayL a (ds.set i .nil) → N (ds.set i (.own a (lstP K l)))) : RunO K (tAsg te (gName i)) ds N R := fun p0 B0 H0 p B H σ D e F kn kr =>
  h p B H σ e F.wf _ fun B' H' vs g hd q hq => by
    have e' := (e.mono g.bb).hide1 i
    have hp : ∀ o, p.own q ≠ some o := fun o ho => by
      rw [(g.wf.ow q o ho).1] at hq
      cases hq
    have aw := away_none hp e'
    have own0 : p.own q = none := by
      cases e0 : p.own q with
      | none => rfl
      | some o => exact absurd e0 (hp o)
    have F' := (F.step g).new hq (.lst vs)
    have e2 : EnvD K (p.add q (.lst vs)) B' σ (ds.set i .nil) := e'.awayTo (p := p) (q := p.add q (.lst vs)) rfl (fun x hx => upd_ne hx) (fun x h => .inr h) aw
    have e3 := e2.set i (o := some (.ref q)) (s := .own q (lstP K l)) ⟨rfl, ⟨vs, upd_same, hd⟩, fun x hx => .inl (by simpa [lstP] using hx)⟩
    rw [List.set_set] at e3
    exact kn _ _ B' _ _ (k q aw) e3 F' ((Ex.of g.bb).trans (Ex.add own0))
/-- x[j] = e -/
theorem ro_setL {i : Nat} {l : List PyData} {z : Int} {j : Nat} (hi : ds[i]? = some (.own a (lstP K l))) (he : EvP K te ds P) (hj : Ev K tj ds (.int z)) (hk : ixN l.length z = some j) (haw : awayL a (ds.set i .nil))
    (k : ∀ d, P d → N (ds.set i (.own a (lstP K (l.set j d))))) : RunO K (tAsg te (gSub (tVar i) tj rSetL)) ds N R := fun p0 B0 H0 p B H σ D e F kn kr =>
  he p B H σ e F.wf _ fun d v B1 H1 q hd g1 => by
    obtain ⟨e1, _⟩ := e.own hi
    refine ⟨_, e1, ?_⟩
    refine hj p B1 H1 σ (e.mono g1.bb) g1.wf _ fun d2 v2 B2 H2 q2 hd2 g2 => ?_
    subst q2
    cases hd2
    have e' := (e.mono g1.bb).mono g2.bb
    have F1 := (F.step g1).step g2
    obtain ⟨_, ⟨vs, ho, hdl⟩, hn⟩ := e'.own hi
    have hn := hn a (by simp [lstP])
    refine ⟨a, vs, z, j, rfl, rfl, (F1.wf.ow a _ ho).1, by rw [hdl.length]; exact hk, ?_⟩
    have setD : ∀ {vs : List V} {l : List PyData} (j : Nat), DpAll K B2 vs l → DpAll K B2 (vs.set j v) (l.set j d) := by
      intro vs l j h
      induction h using DpAll.rec (motive_1 := fun _ _ _ => True) generalizing j with
      | cons h t _ ih =>
        cases j with
        | zero => exact .cons (hd.mono g2.bb) t
        | succ j => exact .cons h (ih j)
      | nil => exact .nil
      | _ => trivial
    have F2 := F1.mut hn ho (.lst (vs.set j v))
    have e2 : EnvD K (p.put a (.lst (vs.set j v))) B2 σ (ds.set i .nil) := (e'.hide1 i).awayTo (p := p) (q := p.put a (.lst (vs.set j v))) rfl (fun x hx => upd_ne hx) (fun x h => h) haw
    exact kn _ _ B2 _ _ (k d q) (e2.back e1 ⟨rfl, ⟨_, upd_same, setD j hdl⟩, fun x hx => by rw [show x = a by simpa [lstP] using hx]; exact hn⟩) F2 ((Ex.of (g1.bb.trans g2.bb)).trans (Ex.put hn))
/-- x.append(e) -/
theorem ro_append {i : Nat} {l : List PyData} (hi : ds[i]? = some (.own a (lstP K l))) (he : EvP K te ds P) (hl : l.length ≤ 1000000) (haw : awayL a (ds.set i .nil))
    (k : ∀ d, P d → N (ds.set i (.own a (lstP K (l ++ [d]))))) : RunO K (tDrop (tBM K "list" rAppend (tVar i) (tCons te tNil))) ds N R := fun p0 B0 H0 p B H σ D e F kn kr => by
  obtain ⟨e1, ⟨vs0, ho0, _⟩, _⟩ := e.own hi
  refine ⟨_, e1, .inl ⟨rfl, vs0, .inl (.inl (F.wf.ow a _ ho0).1)⟩, ?_⟩
  refine he p B H σ e F.wf _ fun d v B1 H1 q hd g1 => ?_
  have e' := e.mono g1.bb
  have F1 := F.step g1
  obtain ⟨_, ⟨vs, ho, hdl⟩, hn⟩ := e'.own hi
  have hn := hn a (by simp [lstP])
  have F2 := F1.mut hn ho (.lst (vs ++ [v]))
  have e2 : EnvD K (p.put a (.lst (vs ++ [v]))) B1 σ (ds.set i .nil) := (e'.hide1 i).awayTo (p := p) (q := p.put a (.lst (vs ++ [v]))) rfl (fun x hx => upd_ne hx) (fun x h => h) haw
  have hlen := hdl.length
  refine ⟨a, vs, v, rfl, rfl, (F1.wf.ow a _ ho).1, Nat.lt_of_lt_of_le (show vs.length < 1000001 by omega) (by decide), ?_⟩
  exact kn _ _ B1 _ _ (k d q) (e2.back e1 ⟨rfl, ⟨_, upd_same, hdl.append (.cons hd .nil)⟩, fun x hx => by rw [show x = a by simpa [lstP] using hx]; exact hn⟩) F2 ((Ex.of g1.bb).trans (Ex.put hn))
/-- y = x.pop(e) -/
theorem ro_pop {i m : Nat} {l : List PyData} {S : Nat → Prop} (hi : ds[i]? = some (.own a (lstP K l))) (him : i ≠ m) (he : EvP K te ds (fun d => ∃ j : Nat, d = .int (j : Int) ∧ S j ∧ j < l.length)) (hl : l.length ≤ 1000000) (haw : awayL a (ds.set i .nil))
    (k : ∀ j d, S j → l[j]? = some d → N ((ds.set i (.own a (lstP K (l.eraseIdx j)))).set m (.dat d))) : RunO K (tAsg (tBM K "list" rPopAt (tVar i) (tCons te tNil)) (gName m)) ds N R := fun p0 B0 H0 p B H σ D e F kn kr => by
  obtain ⟨e1, ⟨vs0, ho0, _⟩, _⟩ := e.own hi
  refine ⟨_, e1, .inl ⟨rfl, vs0, .inl (.inl (F.wf.ow a _ ho0).1)⟩, ?_⟩
  refine he p B H σ e F.wf _ fun d v B1 H1 q hd g1 => ?_
  obtain ⟨j, rfl, hS, hj⟩ := q
  cases hd
  have e' := e.mono g1.bb
  have F1 := F.step g1
  obtain ⟨_, ⟨vs, ho, hdl⟩, hn⟩ := e'.own hi
  have hn := hn a (by simp [lstP])
  obtain ⟨v, hv, hvd⟩ := hdl.get (List.getElem?_eq_getElem hj)
  have hlen := hdl.length
  have F2 := F1.mut hn ho (.lst (vs.eraseIdx j))
  have e2 : EnvD K (p.put a (.lst (vs.eraseIdx j))) B1 σ (ds.set i .nil) := (e'.hide1 i).awayTo (p := p) (q := p.put a (.lst (vs.eraseIdx j))) rfl (fun x hx => upd_ne hx) (fun x h => h) haw
  refine ⟨a, vs, j, j, v, rfl, rfl, (F1.wf.ow a _ ho).1, by omega, by omega, ?_, hv, ?_⟩
  · unfold seqIndex?
    rw [if_neg (show ¬ (j : Int) < 0 by omega), if_pos (show (decide (0 ≤ (j : Int)) && decide ((j : Int) < (vs.length : Nat))) = true by rw [decide_eq_true (by omega), decide_eq_true (by omega)]; rfl)]
    rw [Int.toNat_natCast]
  · have erase : ∀ {vs : List V} {l : List PyData} (j : Nat), DpAll K B1 vs l → DpAll K B1 (vs.eraseIdx j) (l.eraseIdx j) := by
      intro vs l j h
      induction h using DpAll.rec (motive_1 := fun _ _ _ => True) generalizing j with
      | cons h t _ ih =>
        cases j with
        | zero => exact t
        | succ j => exact .cons h (ih j)
      | nil => exact .nil
      | _ => trivial
    exact kn _ _ B1 _ _ (k j _ hS (List.getElem?_eq_getElem hj)) ((e2.back (s := .own a (lstP K (l.eraseIdx j))) e1 ⟨rfl, ⟨_, upd_same, erase j hdl⟩, fun x hx => by rw [show x = a by simpa [lstP] using hx]; exact hn⟩).setD m hvd) F2 ((Ex.of g1.bb).trans (Ex.put hn))
/-- a loop -/
theorem ro_forP {wi : TI} {g : TG} {tb : TS} {vs : List Nat} {S : Nat → (Nat → PyData) → Prop} (h : EvI K wi (hideO ds) S) (hl : ∀ n f, S n f → ∃ I : Nat → Slots → Prop, I 0 ds ∧ (∀ i ds', i < n → I i ds' → ∃ ds2, EvG K vs g (f i) ds' ds2 ∧ RunO K tb ds2 (I (i + 1)) R) ∧ ∀ ds', I n ds' → N ds') :
    RunO K (tFor wi g tb) ds N R := fun p0 B0 H0 p B H σ D e F kn kr => by
  refine h p0 B H σ (e.hideTo F.st.symm) F.g.wf _ fun n f J B1 H1 G Y hS g1 W hG hY => ?_
  obtain ⟨I, i0, hs, hd⟩ := hl n f hS
  have g1' := g1.chg F.wf F.st
  have F1 := F.step g1'
  refine L2.for_it W (fun i σ' H' => ∃ ds' p' B', I i ds' ∧ EnvD K p' B' σ' ds' ∧ Fw p0 B0 H0 p' B' H' ∧ Ex B1 p B' p') ⟨ds, p, B1, i0, e.mono g1.bb, F1, Ex.refl _ _⟩ (fun i σ' H' _ ⟨_, _, B', _, _, F2, s2⟩ => hG B' H' s2.same F2.g.wf) ?_ ?_
  · intro i x σ' H' H3 hi ⟨ds', p', B', hI, he, F2, s2⟩ y
    obtain ⟨B3, g3, hx⟩ := hY i B' H' x H3 hi s2.same F2.g.wf y
    have g3' := g3.chg F2.wf F2.st
    obtain ⟨ds2, hg, hb⟩ := hs i ds' hi hI
    refine hg p' B3 H3 σ' x (he.mono g3.bb) g3.wf.sub hx _ fun σ2 e2 _ => ?_
    exact hb p0 B0 H0 p' B3 H3 σ2 _ e2 (F2.step g3') (fun ds4 p4 B4 H4 σ4 n4 e4 F4 s4 => ⟨ds4, p4, B4, n4, e4, F4, s2.trans ((Ex.of g3.bb).trans s4)⟩) kr
  · intro σ' H' ⟨ds', p', B', hI, he, F2, s2⟩
    exact kn ds' p' B' H' σ' (hd ds' hI) he F2 ((Ex.of g1.bb).trans s2)
end
end K47
/-! K47, the layer: own lists and own grids. -/
namespace K47
open PySem PySem.Spec PyProof.Rows L2
theorem dpAll_ints {K : PySem.W.Frag} {B : Hp} (l : List Int) : DpAll K B (l.map V.int) (l.map PyData.int) := DpAll.of_ints l
section
variable {K : PySem.W.Frag} {ds : Slots} {te tj tk t1 t2 : TE} {ta : TA} {tt : TT} {t u : TS} {N N1 N' : Slots → Prop} {R R' P : PyData → Prop} {d : PyData} {a : Addr}
theorem ro_for {wi : TI} {g : TG} {tb : TS} {vs : List Nat} {n : Nat} {f : Nat → PyData} (I : Nat → Slots → Prop) (h : EvN K wi (hideO ds) n f) (h0 : I 0 ds) (hs : ∀ i ds', i < n → I i ds' → ∃ ds2, EvG K vs g (f i) ds' ds2 ∧ RunO K tb ds2 (I (i + 1)) R) (hd : ∀ ds', I n ds' → N ds') :
    RunO K (tFor wi g tb) ds N R := ro_forP h fun n' f' ⟨e1, e2⟩ => by subst e1 e2; exact ⟨I, h0, hs, hd⟩
theorem run_hide (vs : List Nat) (h : Run K t (wipeD ds vs) N R) : Run K t ds N R := fun p B H σ D e w kn kr => h p B H σ D (e.hides vs) w kn kr
theorem run_impW (vs : List Nat) (h : Run K t ds N' R) (hn : ∀ x, N' x → N (wipeD x vs)) : Run K t ds N R := fun p B H σ D e w kn kr =>
  h p B H σ D e w (fun ds' B' H' σ' n e' g => kn _ B' H' σ' (hn _ n) (e'.hides vs) g) kr
/-- z < max(ns) -/
theorem et_ltmax {z : Int} {ns : List Int} (h1 : Ev K t1 ds (.int z)) (h2 : Ev K t2 ds (.list (ns.map .int))) (hn : ns ≠ []) : EvB K (tTest (tOp (rI0 fun i j => .bl (decide (i < j))) t1 (tCB (rMax K) (tCons t2 tNil)))) ds (ns.any fun y => decide (z < y)) :=
  et_testP (ev_opP (P1 := fun d => d = .int z) h1 (ev_cb (ea_cons h2 ea_nil) (cd_max hn)) fun d1 d2 e1 e2 => by
    obtain ⟨m, hm, hall, rfl⟩ := e2
    subst e1
    refine fun p B H x y hx hy w Q k => rd_lt p B H x y hx hy w Q fun d v B' H' q hd g => k d v B' H' ⟨decide (z < m), q, ?_⟩ hd g
    by_cases q : z < m
    · rw [decide_eq_true q]
      symm
      rw [List.any_eq_true]
      exact ⟨m, hm, decide_eq_true q⟩
    · rw [decide_eq_false q]
      symm
      rw [List.any_eq_false]
      intro y hy
      have := hall y hy
      simp
      omega)
/-- what an own list holds -/
theorem ev_ownIx {i : Nat} {l : List PyData} {j : Int} (hi : ds[i]? = some (.own a (lstP K l))) (hj : Ev K tj ds (.int j)) (hat : atI l j = some d) : Ev K (tOp (rIxL K) (tVar i) tj) ds d := fun p B H σ e w Q k => by
  obtain ⟨e1, _⟩ := e.own hi
  refine ⟨_, e1, hj p B H σ e w _ fun d2 v2 B2 H2 q2 hd2 g2 => ?_⟩
  subst q2
  cases hd2
  obtain ⟨_, ⟨vs, ho, hd⟩, _⟩ := (e.mono g2.bb).own hi
  obtain ⟨m, hm, hx⟩ := atI_of hd.length hat
  obtain ⟨v, hv, hvd⟩ := hd.get hm
  exact ⟨a, vs, j, v, rfl, rfl, .inl (.inl (g2.wf.ow a _ ho).1), hx v hv, k _ _ _ _ rfl hvd g2⟩
/-- len of an own list -/
theorem ev_ownLen {i : Nat} {l : List PyData} (hi : ds[i]? = some (.own a (lstP K l))) : Ev K (tCB (rLen K) (tCons (tVar i) tNil)) ds (.int (l.length : Int)) := fun p B H σ e w Q k => by
  obtain ⟨e1, ⟨vs, ho, hd⟩, _⟩ := e.own hi
  refine ⟨_, e1, ?_⟩
  refine ⟨a, vs, rfl, .inl (.inl (.inl (w.ow a _ ho).1)), ?_⟩
  rw [hd.length]
  exact k _ _ B H rfl (.int _) (Gw.refl w)
/-- [e, ..] -/
theorem new_lst {l : List PyData} (h : EvL K ta ds (datL l)) (hl : l.length ≤ 100000) (p : Pst) (B H : Hp) (σ : L2.St) (e : EnvD K p B σ ds) (w : Wf p B H) (Q : VK) (k : ∀ B' H' vs, Gw p B H B' H' → DpAll K B' vs l → ∀ q, H' q = none → Q (.ref q) (upd H' q (.lst vs))) : tLst ta σ H Q :=
  h p B H σ e w _ fun xs vs B1 H1 q1 h1 g1 => by
    subst q1
    have h2 := env_dats h1
    have := h2.length
    exact ⟨Nat.le_trans (by omega : vs.length ≤ 100000) (by decide), fun q hq => k _ _ _ g1 h2 q hq⟩
/-- [0] * k -/
theorem new_rep {m : Nat} (h : Ev K tk ds (.int (m : Int))) (hm : m ≤ 100000) (p : Pst) (B H : Hp) (σ : L2.St) (e : EnvD K p B σ ds) (w : Wf p B H) (Q : VK) (k : ∀ B' H' vs, Gw p B H B' H' → DpAll K B' vs ((List.replicate m (0 : Int)).map .int) → ∀ q, H' q = none → Q (.ref q) (upd H' q (.lst vs))) : tOp rRep (tLst (tCons (tC (.int 0)) tNil)) tk σ H Q := by
  refine ⟨by decide, fun q hq => ?_⟩
  have g1 : Gw p B H B (upd H q (.lst [.int 0])) := Gw.newH w hq
  refine h p B _ σ e g1.wf _ fun d v B2 H2 e2 hd g2 => ?_
  subst e2
  cases hd
  have hk := (g2.keep (w.ne hq) (w.none_of hq) upd_same)
  refine ⟨q, m, [.int 0], rfl, rfl, hk.2, by omega, by omega, ?_, fun r hr => ?_⟩
  · rw [Int.toNat_natCast]
    exact Nat.le_trans (by simpa using hm) (by decide : 100000 ≤ sizeLine)
  · rw [Int.toNat_natCast]
    have e1 : ∀ m : Nat, (List.replicate m ([.int 0] : List V)).flatten = (List.replicate m (0 : Int)).map V.int := fun m => by
      rw [List.map_replicate]
      induction m with
      | zero => rfl
      | succ m ih => rw [List.replicate_succ, List.replicate_succ, List.flatten_cons, ih]; rfl
    rw [e1]
    exact k _ _ _ (g1.trans g2) (dpAll_ints _) r hr
/-- list(range(k)) -/
theorem new_rg {m : Nat} (h : Ev K tk ds (.int (m : Int))) (hm : m ≤ 100000) (p : Pst) (B H : Hp) (σ : L2.St) (e : EnvD K p B σ ds) (w : Wf p B H) (Q : VK) (k : ∀ B' H' vs, Gw p B H B' H' → DpAll K B' vs ((List.range m).map fun i => PyData.int ((i : Nat) : Int)) → ∀ q, H' q = none → Q (.ref q) (upd H' q (.lst vs))) : tLstRg (tRg1 tk) σ H Q :=
  h p B H σ e w _ fun d v B2 H2 e2 hd g2 => by
    subst e2
    cases hd
    refine ⟨_, rfl, RgOk.of_le (by omega) (by omega) (by omega) (by omega), fun q hq => ?_⟩
    have : rgV 0 (m : Int) = ((List.range m).map fun i => ((i : Nat) : Int)).map V.int := by
      unfold rgV
      rw [List.map_map, show ((m : Int) - 0).toNat = m by omega]
      exact List.map_congr_left fun i _ => by show V.int (0 + (i : Int)) = V.int (i : Int); rw [Int.zero_add]
    rw [this]
    have h2 := dpAll_ints (K := K) (B := B2) ((List.range m).map fun i => ((i : Nat) : Int))
    rw [List.map_map (g := PyData.int)] at h2
    exact k _ _ _ g2 h2 q hq
end
end K47
/-! K47, the layer: an own grid of integers. -/
namespace K47
open PySem PySem.Spec PyProof.Rows L2

theorem Fw.adopt {p0 p : Pst} {B0 H0 B H : Hp} {a : Addr} {o : HO} (F : Fw p0 B0 H0 p B H) (hH : H a = some o) (hB : B a = none) (ho : p.own a = none) (h0 : H0 a = none) (hs : ∀ x y, p.st = some (x, y) → x ≠ a ∧ y ≠ a) : Fw p0 B0 H0 (p.add a o) B H := by
  refine ⟨F.w0, F.g, ⟨F.wf.sub, F.wf.st, F.wf.nb, fun x y h => ?_, fun x y h => ?_⟩, F.st, fun x y h => ?_, fun x h => ?_⟩
  · by_cases z : x = a
    · subst z
      have h : upd p.own x o x = some y := h
      rw [upd_same] at h
      cases h
      exact ⟨hH, hB⟩
    · have h : upd p.own a o x = some y := h
      rw [upd_ne z] at h
      exact F.wf.ow x y h
  · obtain ⟨z1, z2⟩ := hs x y h
    obtain ⟨k1, k2⟩ := F.wf.os x y h
    exact ⟨(upd_ne z1).trans k1, (upd_ne z2).trans k2⟩
  · have h2 := F.ol x y h
    exact (upd_ne (ne_of_none h2 ho)).trans h2
  · rcases h with h | h
    · subst h
      refine ⟨?_, h0⟩
      cases e : p0.own x with
      | none => rfl
      | some y => rw [F.ol x y e] at ho; cases ho
    · exact F.nn x h
/-- many at once -/
theorem adoptAll {p0 : Pst} {B0 H0 B H : Hp} : ∀ (L : List Addr) {p : Pst}, Fw p0 B0 H0 p B H → L.Nodup → (∀ x ∈ L, (∃ o, H x = some o) ∧ B x = none ∧ p.own x = none ∧ H0 x = none ∧ ∀ y z, p.st = some (y, z) → y ≠ x ∧ z ≠ x) →
    ∃ p', Fw p0 B0 H0 p' B H ∧ p'.st = p.st ∧ (∀ x ∈ L, p'.own x = H x ∧ p'.nw x) ∧ (∀ x, x ∉ L → p'.own x = p.own x) ∧ (∀ x, p.nw x → p'.nw x) ∧ Ex B p B p'
  | [], p, F, _, _ => ⟨p, F, rfl, by simp, fun _ _ => rfl, fun _ h => h, Ex.refl _ _⟩
  | a :: L, p, F, hn, h => by
    obtain ⟨n1, n2⟩ := List.nodup_cons.mp hn
    obtain ⟨⟨o, k1⟩, k2, k3, k4, k5⟩ := h a List.mem_cons_self
    have F1 := F.adopt k1 k2 k3 k4 k5
    obtain ⟨p', F2, s2, m2, o2, w2, x2⟩ := adoptAll L F1 n2 fun x hx => by
      obtain ⟨j1, j2, j3, j4, j5⟩ := h x (List.mem_cons_of_mem _ hx)
      exact ⟨j1, j2, (upd_ne (fun e => n1 (by rw [← e]; exact hx))).trans j3, j4, j5⟩
    refine ⟨p', F2, s2, fun x hx => ?_, fun x hx => ?_, fun x hx => w2 x (.inr hx), (Ex.add k3).trans x2⟩
    · rcases List.mem_cons.mp hx with rfl | hx
      · refine ⟨?_, w2 x (.inl rfl)⟩
        rw [o2 x n1, k1]
        exact upd_same
      · exact m2 x hx
    · rw [o2 x fun z => hx (List.mem_cons_of_mem _ z)]
      exact upd_ne fun z => hx (by rw [z]; exact List.mem_cons_self)
theorem freezeAll {p0 : Pst} {B0 H0 H : Hp} : ∀ (L : List Addr) {p : Pst} {B : Hp}, Fw p0 B0 H0 p B H → L.Nodup → (∀ x ∈ L, (∃ o, p.own x = some o) ∧ p.nw x) →
    ∃ p' B', Fw p0 B0 H0 p' B' H ∧ p'.st = p.st ∧ Same B B' ∧ (∀ x ∈ L, B' x = p.own x) ∧ (∀ x, x ∉ L → p'.own x = p.own x) ∧ p'.nw = p.nw ∧ Ex B p B' p'
  | [], p, B, F, _, _ => ⟨p, B, F, rfl, Same.refl _, by simp, fun _ _ => rfl, rfl, Ex.refl _ _⟩
  | a :: L, p, B, F, hn, h => by
    obtain ⟨n1, n2⟩ := List.nodup_cons.mp hn
    obtain ⟨⟨o, k1⟩, k2⟩ := h a List.mem_cons_self
    have hb := (F.wf.ow a o k1).2
    have F1 := F.freeze k2 k1
    have dl : ∀ {x : Addr}, x ≠ a → (p.del a).own x = p.own x := fun hx => if_neg hx
    obtain ⟨p', B', F2, s2, b2, m2, o2, w2, x2⟩ := freezeAll L F1 n2 fun x hx => by
      obtain ⟨j1, j2⟩ := h x (List.mem_cons_of_mem _ hx)
      refine ⟨?_, j2⟩
      rw [dl (fun e => n1 (by rw [← e]; exact hx))]
      exact j1
    refine ⟨p', B', F2, s2, (same_new hb).trans b2, fun x hx => ?_, fun x hx => ?_, w2, (Ex.del k2 (same_new hb)).trans x2⟩
    · rcases List.mem_cons.mp hx with rfl | hx
      · rw [k1]
        exact b2 x o upd_same
      · rw [m2 x hx]
        exact dl (fun e => n1 (by rw [← e]; exact hx))
    · rw [o2 x fun z => hx (List.mem_cons_of_mem _ z)]
      exact dl fun z => hx (by rw [z]; exact List.mem_cons_self)

def fnV (m : Nat) (f : Nat → Int) : List V := (List.range m).map fun j => .int (f j)
def fnD (m : Nat) (f : Nat → Int) : List PyData := (List.range m).map fun j => .int (f j)
def updF {α : Type} (f : Nat → α) (j : Nat) (v : α) : Nat → α := fun i => if i = j then v else f i
theorem map_set {α β : Type} (m : Nat) (f : Nat → α) (g : α → β) (j : Nat) (v : α) : ((List.range m).map fun i => g (f i)).set j (g v) = (List.range m).map fun i => g (updF f j v i) := by
  refine List.ext_getElem (by simp) fun i h1 h2 => ?_
  simp only [List.length_set, List.length_map, List.length_range] at h1
  rw [List.getElem_set]
  simp only [List.getElem_map, List.getElem_range]
  unfold updF
  by_cases h : j = i
  · rw [if_pos h, if_pos h.symm]
  · rw [if_neg h, if_neg (Ne.symm h)]
theorem fnD_set (m : Nat) (f : Nat → Int) (j : Nat) (v : Int) : (fnD m f).set j (.int v) = fnD m (updF f j v) := map_set m f PyData.int j v
theorem fnV_set (m : Nat) (f : Nat → Int) (j : Nat) (v : Int) : (fnV m f).set j (.int v) = fnV m (updF f j v) := map_set m f V.int j v
theorem fn_dp {K : PySem.W.Frag} {B : Hp} (m : Nat) (f : Nat → Int) : DpAll K B (fnV m f) (fnD m f) := by
  have := dpAll_ints (K := K) (B := B) ((List.range m).map f)
  rwa [List.map_map, List.map_map] at this
theorem fnD_at {m : Nat} {f : Nat → Int} {k : Int} {i : Nat} (hk : k = (i : Int)) (hi : i < m) : atI (fnD m f) k = some (.int (f i)) := by
  subst hk
  refine atI_natD ?_
  unfold fnD
  rw [List.getElem?_map, List.getElem?_range hi]
  rfl
theorem fnV_at {m : Nat} {f : Nat → Int} {k : Int} {i : Nat} (hk : k = (i : Int)) (hi : i < m) : atI (fnV m f) k = some (.int (f i)) := by
  subst hk
  refine atI_nat ?_
  unfold fnV
  rw [List.getElem?_map, List.getElem?_range hi]
  rfl
theorem zeros_fn (m : Nat) : (List.replicate m (0 : Int)).map V.int = fnV m fun _ => 0 := by
  unfold fnV
  rw [List.map_replicate]
  refine List.ext_getElem (by simp) fun i h1 h2 => by simp
theorem zerosD_fn (m : Nat) : (List.replicate m (0 : Int)).map PyData.int = fnD m fun _ => 0 := by
  unfold fnD
  rw [List.map_replicate]
  refine List.ext_getElem (by simp) fun i h1 h2 => by simp
def grid (m : Nat) (f : Nat → Nat → Int) : PyData := .list ((List.range m).map fun i => .list (fnD m (f i)))
/-- m rows of m integers, at r -/
def gridP (m : Nat) (f : Nat → Nat → Int) (r : List Addr) : OwnP :=
  ⟨fun O B a => (a :: r).Nodup ∧ r.length = m ∧ O a = some (.lst (r.map .ref)) ∧ ∀ i x, r[i]? = some x → O x = some (.lst (fnV m (f i))), fun a => a :: r, fun _ _ _ _ _ h => h,
    fun O O' B a h ⟨h1, h2, h3, h4⟩ => ⟨h1, h2, (h a List.mem_cons_self).trans h3, fun i x e => (h x (List.mem_cons_of_mem _ (List.mem_of_getElem? e))).trans (h4 i x e)⟩,
    fun O B a ⟨h1, h2, h3, h4⟩ x hx => by
      rcases List.mem_cons.mp hx with rfl | hx
      · exact ⟨_, h3⟩
      · obtain ⟨i, hi⟩ := List.getElem?_of_mem hx
        exact ⟨_, h4 i x hi⟩⟩
section
variable {K : PySem.W.Frag} {ds : Slots} {te tj tk t1 t2 : TE} {ta : TA} {tt : TT} {t u : TS} {N N1 N' : Slots → Prop} {R R' P : PyData → Prop} {d : PyData} {a : Addr}
theorem ev_gridIx {i m : Nat} {f : Nat → Nat → Int} {r : List Addr} {k1 k2 : Int} {x y : Nat} (hi : ds[i]? = some (.own a (gridP m f r))) (h1 : Ev K t1 ds (.int k1)) (h2 : Ev K t2 ds (.int k2)) (e1 : k1 = (x : Int)) (e2 : k2 = (y : Int)) (hx : x < m) (hy : y < m) :
    Ev K (tOp (rIxL K) (tOp (rIxL K) (tVar i) t1) t2) ds (.int (f x y)) := fun p B H σ e w Q k => by
  obtain ⟨z, _⟩ := e.own hi
  refine ⟨_, z, h1 p B H σ e w _ fun d v B1 H1 q1 hd g1 => ?_⟩
  subst q1
  cases hd
  have e' := e.mono g1.bb
  obtain ⟨_, ⟨nd, hl, ho, hr⟩, _⟩ := e'.own hi
  have hx' : r[x]? = some r[x] := List.getElem?_eq_getElem (by omega)
  refine ⟨a, r.map .ref, k1, .ref r[x], rfl, rfl, .inl (.inl (g1.wf.ow a _ ho).1), ?_, ?_⟩
  · rw [e1]
    exact atI_nat (by rw [List.getElem?_map, hx']; rfl)
  · refine h2 p B1 H1 σ e' g1.wf _ fun d2 v2 B2 H2 q2 hd2 g2 => ?_
    subst q2
    cases hd2
    obtain ⟨_, ⟨_, _, _, hr⟩, _⟩ := (e'.mono g2.bb).own hi
    refine ⟨r[x], fnV m (f x), k2, .int (f x y), rfl, rfl, .inl (.inl (g2.wf.ow _ _ (hr x _ hx')).1), fnV_at e2 hy, k _ _ _ _ rfl (.int _) (g1.trans g2)⟩
/-- x[s][e] = v -/
theorem ro_setGrid {i m : Nat} {f : Nat → Nat → Int} {r : List Addr} {k1 k2 v : Int} {x y : Nat} (hi : ds[i]? = some (.own a (gridP m f r))) (he : Ev K te ds (.int v)) (h1 : Ev K t1 ds (.int k1)) (h2 : Ev K t2 ds (.int k2)) (e1 : k1 = (x : Int)) (e2 : k2 = (y : Int)) (hx : x < m) (hy : y < m)
    (hp : pureL (ds.set i .nil)) (k : N (ds.set i (.own a (gridP m (updF f x (updF (f x) y v)) r)))) : RunO K (tAsg te (gSub (tOp (rIxL K) (tVar i) t1) t2 rSetL)) ds N R := fun p0 B0 H0 p B H σ D e F kn kr =>
  he p B H σ e F.wf _ fun d w B1 H1 q1 hd g1 => by
    subst q1
    cases hd
    have e' := e.mono g1.bb
    obtain ⟨z, _⟩ := e'.own hi
    refine ⟨_, z, h1 p B1 H1 σ e' g1.wf _ fun d v1 B2 H2 q1 hd g2 => ?_⟩
    subst q1
    cases hd
    have e'' := e'.mono g2.bb
    obtain ⟨_, ⟨nd, hl, ho, hr⟩, _⟩ := e''.own hi
    have hx' : r[x]? = some r[x] := List.getElem?_eq_getElem (by omega)
    refine ⟨a, r.map .ref, k1, .ref r[x], rfl, rfl, .inl (.inl (g2.wf.ow a _ ho).1), ?_, ?_⟩
    · rw [e1]
      exact atI_nat (by rw [List.getElem?_map, hx']; rfl)
    · refine h2 p B2 H2 σ e'' g2.wf _ fun d2 v2 B3 H3 q2 hd2 g3 => ?_
      subst q2
      cases hd2
      have e3 := e''.mono g3.bb
      have F3 := ((F.step g1).step g2).step g3
      obtain ⟨z3, ⟨_, _, ho3, hr3⟩, hn⟩ := e3.own hi
      have hox := hr3 x _ hx'
      have hmem : r[x] ∈ r := List.getElem_mem _
      have F4 := F3.mut (hn r[x] (List.mem_cons_of_mem _ hmem)) hox (.lst (fnV m (updF (f x) y v)))
      refine ⟨r[x], fnV m (f x), k2, y, rfl, rfl, (F3.wf.ow _ _ hox).1, ?_, ?_⟩
      · unfold fnV ixN
        rw [e2, List.length_map, List.length_range, if_pos (by omega), if_pos (by omega), Int.toNat_natCast]
      · rw [fnV_set]
        have e4 : EnvD K (p.put r[x] (.lst (fnV m (updF (f x) y v)))) B3 σ (ds.set i .nil) := (e3.hide1 i).pureTo (p := p) (q := p.put r[x] (.lst (fnV m (updF (f x) y v)))) rfl hp
        refine kn _ _ B3 _ _ k (e4.back z3 ⟨rfl, ⟨nd, hl, ?_, fun j q hj => ?_⟩, hn⟩) F4 ((Ex.of ((g1.bb.trans g2.bb).trans g3.bb)).trans (Ex.put (hn r[x] (List.mem_cons_of_mem _ hmem))))
        · have : a ≠ r[x] := fun z => (List.nodup_cons.mp nd).1 (by rw [z]; exact hmem)
          exact (upd_ne this).trans ho3
        · by_cases hjx : j = x
          · subst hjx
            rw [hx'] at hj
            cases hj
            show upd p.own r[j] _ r[j] = _
            rw [upd_same]
            unfold updF
            rw [if_pos rfl]
          · have hne : q ≠ r[x] := fun z => hjx (by
              have hnd := (List.nodup_cons.mp nd).2
              obtain ⟨hj1, hj2⟩ := List.getElem?_eq_some_iff.mp hj
              exact (List.getElem?_inj hj1 hnd).mp (by rw [hj, hx', z]))
            show upd p.own r[x] _ q = _
            rw [upd_ne hne, hr3 j q hj]
            unfold updF
            rw [if_neg hjx]
/-- x = [[0] * k for .. in ..] -/
theorem ro_newGrid {i v m : Nat} {wi : TI} {f : Nat → PyData} (h : EvN K wi ds m f) (hm : m ≤ 1000) (hk : ∀ d : PyData, Ev K tk ((wipeD ds [v]).set v (.dat d)) (.int (m : Int))) (hp : pureL (ds.set i .nil))
    (k : ∀ a r, N (ds.set i (.own a (gridP m (fun _ _ => 0) r)))) : RunO K (tAsg (tLc wi (gName v) tYes (tOp rRep (tLst (tCons (tC (.int 0)) tNil)) tk) [v]) (gName i)) ds N R := fun p0 B0 H0 p B H σ D e F kn kr =>
  h p B H σ e F.wf _ fun n' f' Ji B1 H1 G Y ⟨en, ef⟩ g1 W hG hY => by
    subst en ef
    intro A hA
    have F1 := F.step g1
    have e1 := e.mono g1.bb
    have zl : (fnV n' fun _ => 0).length = n' := by unfold fnV; rw [List.length_map, List.length_range]
    refine L2.lc_it W (fun i H' => ∃ r B', r.length = i ∧ (A :: r).Nodup ∧ H' A = some (.lst (r.map .ref)) ∧ B' A = none ∧ (∀ x ∈ r, H' x = some (.lst (fnV n' fun _ => 0)) ∧ B' x = none ∧ H1 x = none) ∧ Gw p B1 H1 B' H')
      ⟨[], B1, rfl, by simp, upd_same, g1.wf.none_of hA, by simp, Gw.newH g1.wf hA⟩ (fun i H' _ ⟨_, B', _, _, _, _, _, g2⟩ => hG B' H' g2.bb g2.wf) ?_ ?_
    · intro i x H' H3 hi ⟨r, B', hr, nd, hA', hB', hx, g2⟩ y
      obtain ⟨B3, g3, hd⟩ := hY i B' H' x H3 hi g2.bb g2.wf y
      have pA := g1.wf.ne hA
      have e3 := ((e1.mono g2.bb).mono g3.bb).wipe [v]
      show wipe ((wipe σ [v]).set v (some x)) [v] = wipe σ [v] ∧ _
      refine ⟨by rw [wipe_set (by simp), wipe_wipe], ?_⟩
      have e4 : EnvD K p B3 ((wipe σ [v]).set v (some x)) ((wipeD ds [v]).set v (.dat (f' i))) := e3.setD v hd
      unfold tYes
      dsimp only
      rw [if_pos rfl]
      refine new_rep (hk _) (by omega) p B3 H3 _ e4 g3.wf _ fun B4 H4 vs g4 hvs q hq => ?_
      have evs : vs = fnV n' fun _ => 0 := by rw [← zeros_fn]; exact hvs.ints
      subst evs
      have g34 := g3.trans g4
      have gg := g2.trans g34
      obtain ⟨b1, b2⟩ := g34.keep pA hB' hA'
      have hqA : A ≠ q := ne_of_none b2 hq
      have q1 : H1 q = none := by
        cases eq : H1 q with
        | none => rfl
        | some o => exact absurd hq (gg.tr q (by rw [eq]; simp))
      have keepx : ∀ z ∈ r, B4 z = none ∧ H4 z = some (.lst (fnV n' fun _ => 0)) := fun z hz => by
        obtain ⟨j1, j2, j3⟩ := hx z hz
        exact g34.keep (g1.wf.ne j3) j2 j1
      refine ⟨r.map .ref, by rw [upd_ne hqA]; exact b2, ?_, r ++ [q], B4, by rw [List.length_append, hr]; rfl, ?_, ?_, b1, fun z hz => ?_, ?_⟩
      · rw [List.length_map, hr]
        exact Nat.lt_of_lt_of_le (show i < 1001 by omega) (by decide)
      · rw [← List.cons_append]
        refine List.nodup_append.mpr ⟨nd, by simp, fun a ha b hb => ?_⟩
        rw [List.mem_singleton] at hb
        subst hb
        rcases List.mem_cons.mp ha with rfl | ha
        · exact hqA
        · exact ne_of_none (keepx a ha).2 hq
      · rw [upd_same, List.map_append]; rfl
      · rcases List.mem_append.mp hz with hz | hz
        · have hzA : z ≠ A := fun z' => (List.nodup_cons.mp nd).1 (by rw [← z']; exact hz)
          obtain ⟨j1, j2⟩ := keepx z hz
          refine ⟨?_, j1, (hx z hz).2.2⟩
          rw [upd_ne hzA, upd_ne (ne_of_none j2 hq)]
          exact j2
        · rw [List.mem_singleton] at hz
          subst hz
          refine ⟨?_, g4.wf.none_of hq, q1⟩
          rw [upd_ne hqA.symm, upd_same]
      · exact Gw.mut g1.wf (gg.trans (Gw.newH g4.wf hq)) hA b1
    · intro H' ⟨r, B', hr, nd, hA', hB', hx, g2⟩
      have F2 := F1.step g2
      have e2 := e1.mono g2.bb
      obtain ⟨p', F3, s3, m3, o3, w3, x3⟩ := adoptAll (A :: r) F2 nd fun x hx' => by
        have x1 : H1 x = none := by
          rcases List.mem_cons.mp hx' with rfl | h
          · exact hA
          · exact (hx x h).2.2
        refine ⟨?_, ?_, ?_, ?_, fun y z hst => (F1.wf.st y z hst).ne x1⟩
        · rcases List.mem_cons.mp hx' with rfl | h
          · exact ⟨_, hA'⟩
          · exact ⟨_, (hx x h).1⟩
        · rcases List.mem_cons.mp hx' with rfl | h
          · exact hB'
          · exact (hx x h).2.1
        · cases eo : p.own x with
          | none => rfl
          | some o => rw [(F1.wf.ow x o eo).1] at x1; cases x1
        · cases eo : H0 x with
          | none => rfl
          | some o => exact absurd x1 (F1.g.tr x (by rw [eo]; simp))
      have e4 : EnvD K p' B' σ (ds.set i .nil) := (e2.hide1 i).pureTo (p := p) (q := p') s3 hp
      have e5 := e4.set i (o := some (.ref A)) (s := .own A (gridP n' (fun _ _ => 0) r)) ⟨rfl, ⟨nd, hr, (m3 A List.mem_cons_self).1.trans hA', fun j x hj => (m3 x (List.mem_cons_of_mem _ (List.mem_of_getElem? hj))).1.trans (hx x (List.mem_of_getElem? hj)).1⟩, fun x hx => (m3 x hx).2⟩
      rw [List.set_set] at e5
      exact kn _ _ B' _ _ (k A r) e5 F3 ((Ex.of (g1.bb.trans g2.bb)).trans x3)
/-- the grid changes no more -/
theorem ro_freezeGrid {i m : Nat} {f : Nat → Nat → Int} {r : List Addr} (hi : ds[i]? = some (.own a (gridP m f r))) (hp : pureL (ds.set i .nil)) (k : RunO K t (ds.set i (.dat (grid m f))) N R) : RunO K t ds N R := fun p0 B0 H0 p B H σ D e F kn kr => by
  obtain ⟨z, ⟨nd, hl, ho, hr⟩, hn⟩ := e.own hi
  obtain ⟨p', B', F', s', b', m', o', w', x'⟩ := freezeAll (a :: r) F nd fun x hx => ⟨by
    rcases List.mem_cons.mp hx with rfl | hx
    · exact ⟨_, ho⟩
    · obtain ⟨j, hj⟩ := List.getElem?_of_mem hx
      exact ⟨_, hr j x hj⟩, hn x hx⟩
  have e4 : EnvD K p' B' σ (ds.set i .nil) := ((e.mono b').hide1 i).pureTo (p := p) (q := p') s' hp
  refine k p0 B0 H0 p' B' H σ D (e4.back z ⟨_, rfl, .lst (.inl (.inl ((m' a List.mem_cons_self).trans ho))) ?_⟩) F' (fun ds2 p2 B2 H2 σ2 n2 e2 F2 s2 => kn ds2 p2 B2 H2 σ2 n2 e2 F2 (x'.trans s2)) kr
  have all : ∀ i x, r[i]? = some x → Dp K B' (.ref x) (.list (fnD m (f i))) := fun i x hx => .lst (.inl (.inl ((m' x (List.mem_cons_of_mem _ (List.mem_of_getElem? hx))).trans (hr i x hx)))) (fn_dp m (f i))
  have go : ∀ (l : List Addr) (g : Nat → PyData), (∀ i x, l[i]? = some x → Dp K B' (.ref x) (g i)) → DpAll K B' (l.map .ref) ((List.range l.length).map g) := by
    intro l
    induction l with
    | nil => intro g _; exact .nil
    | cons x l ih =>
      intro g h
      rw [List.length_cons, List.range_succ_eq_map, List.map_cons, List.map_cons, List.map_map]
      exact .cons (h 0 x rfl) (ih (fun i => g (i + 1)) fun i y hy => h (i + 1) y (by simpa using hy))
  have := go r (fun i => .list (fnD m (f i))) all
  rw [hl] at this
  exact this
end
end K47
/-! K47: the text by places; what the top leaves, as facts. -/
namespace K47
open PySem PySem.Spec PyProof.Rows L2
def top (i : Nat) : Stmt := PySem.Challenge.pw_quiremarks_k47_whole_evidence_of_missing.main.body.getD i (.Pass ⟨0, 0, 0, 0⟩)
abbrev s_is_whole_papers : Stmt := top 6
abbrev N_is_whole_papers : List Str := ["value", "low", "high"]
abbrev p_is_whole_papers : List Str := ["value", "low", "high"]
theorem sc_is_whole_papers : FnScope N_is_whole_papers p_is_whole_papers (defScope s_is_whole_papers) := ⟨rfl, rfl, rfl, by decide +kernel, rfl, by decide +kernel, by decide +kernel⟩
abbrev s_is_paper : Stmt := top 8
abbrev N_is_paper : List Str := ["value", "mark"]
abbrev p_is_paper : List Str := ["value"]
theorem sc_is_paper : FnScope N_is_paper p_is_paper (defScope s_is_paper) := ⟨rfl, rfl, rfl, by decide +kernel, rfl, by decide +kernel, by decide +kernel⟩
abbrev s_are_marks : Stmt := top 9
abbrev N_are_marks : List Str := ["paper", "value", "mark"]
abbrev p_are_marks : List Str := ["paper", "value"]
theorem sc_are_marks : FnScope N_are_marks p_are_marks (defScope s_are_marks) := ⟨rfl, rfl, rfl, by decide +kernel, rfl, by decide +kernel, by decide +kernel⟩
abbrev s_is_sequence : Stmt := top 10
abbrev N_is_sequence : List Str := ["paper", "value"]
abbrev p_is_sequence : List Str := ["paper", "value"]
theorem sc_is_sequence : FnScope N_is_sequence p_is_sequence (defScope s_is_sequence) := ⟨rfl, rfl, rfl, by decide +kernel, rfl, by decide +kernel, by decide +kernel⟩
abbrev s_is_whole_missing : Stmt := top 13
abbrev N_is_whole_missing : List Str := ["value", "low", "high"]
abbrev p_is_whole_missing : List Str := ["value", "low", "high"]
theorem sc_is_whole_missing : FnScope N_is_whole_missing p_is_whole_missing (defScope s_is_whole_missing) := ⟨rfl, rfl, rfl, by decide +kernel, rfl, by decide +kernel, by decide +kernel⟩
abbrev s_check_short : Stmt := top 15
abbrev N_check_short : List Str := ["paper", "sequence"]
abbrev p_check_short : List Str := ["paper", "sequence"]
theorem sc_check_short : FnScope N_check_short p_check_short (defScope s_check_short) := ⟨rfl, rfl, rfl, by decide +kernel, rfl, by decide +kernel, by decide +kernel⟩
abbrev s_is_pair : Stmt := top 16
abbrev N_is_pair : List Str := ["paper", "sequence", "value"]
abbrev p_is_pair : List Str := ["paper", "sequence", "value"]
theorem sc_is_pair : FnScope N_is_pair p_is_pair (defScope s_is_pair) := ⟨rfl, rfl, rfl, by decide +kernel, rfl, by decide +kernel, by decide +kernel⟩
abbrev s_is_inside : Stmt := top 17
abbrev N_is_inside : List Str := ["pair", "other"]
abbrev p_is_inside : List Str := ["pair", "other"]
theorem sc_is_inside : FnScope N_is_inside p_is_inside (defScope s_is_inside) := ⟨rfl, rfl, rfl, by decide +kernel, rfl, by decide +kernel, by decide +kernel⟩
abbrev s_are_apart : Stmt := top 18
abbrev N_are_apart : List Str := ["pair", "other"]
abbrev p_are_apart : List Str := ["pair", "other"]
theorem sc_are_apart : FnScope N_are_apart p_are_apart (defScope s_are_apart) := ⟨rfl, rfl, rfl, by decide +kernel, rfl, by decide +kernel, by decide +kernel⟩
abbrev s_are_valid : Stmt := top 19
abbrev N_are_valid : List Str := ["paper", "sequence", "value", "pair", "at", "other", "outer", "inner"]
abbrev p_are_valid : List Str := ["paper", "sequence", "value"]
theorem sc_are_valid : FnScope N_are_valid p_are_valid (defScope s_are_valid) := ⟨rfl, rfl, rfl, by decide +kernel, rfl, by decide +kernel, by decide +kernel⟩
abbrev s_nest_table : Stmt := top 20
abbrev N_nest_table : List Str := ["paper", "sequence", "size", "table", "start", "length", "end", "most"]
abbrev p_nest_table : List Str := ["paper", "sequence"]
theorem sc_nest_table : FnScope N_nest_table p_nest_table (defScope s_nest_table) := ⟨rfl, rfl, rfl, by decide +kernel, rfl, by decide +kernel, by decide +kernel⟩
abbrev s_end_table : Stmt := top 21
abbrev N_end_table : List Str := ["table", "size", "found", "start", "end"]
abbrev p_end_table : List Str := ["table"]
theorem sc_end_table : FnScope N_end_table p_end_table (defScope s_end_table) := ⟨rfl, rfl, rfl, by decide +kernel, rfl, by decide +kernel, by decide +kernel⟩
abbrev s_nests_in : Stmt := top 22
abbrev N_nests_in : List Str := ["table", "paper", "sequence", "start", "end", "found", "one", "other", "nest"]
abbrev p_nests_in : List Str := ["table", "paper", "sequence", "start", "end"]
theorem sc_nests_in : FnScope N_nests_in p_nests_in (defScope s_nests_in) := ⟨rfl, rfl, rfl, by decide +kernel, rfl, by decide +kernel, by decide +kernel⟩
abbrev s_greatest : Stmt := top 23
abbrev N_greatest : List Str := ["paper", "sequence", "table", "ends", "rows", "opening", "start", "found", "end", "nest", "later"]
abbrev p_greatest : List Str := ["paper", "sequence"]
theorem sc_greatest : FnScope N_greatest p_greatest (defScope s_greatest) := ⟨rfl, rfl, rfl, by decide +kernel, rfl, by decide +kernel, by decide +kernel⟩
abbrev s_missing_evidence : Stmt := top 25
abbrev N_missing_evidence : List Str := ["paper", "sequence", "table", "nests", "start", "row"]
abbrev p_missing_evidence : List Str := ["paper", "sequence"]
theorem sc_missing_evidence : FnScope N_missing_evidence p_missing_evidence (defScope s_missing_evidence) := ⟨rfl, rfl, rfl, by decide +kernel, rfl, by decide +kernel, by decide +kernel⟩
abbrev s_are_integers : Stmt := top 26
abbrev N_are_integers : List Str := ["value", "size", "one"]
abbrev p_are_integers : List Str := ["value", "size"]
theorem sc_are_integers : FnScope N_are_integers p_are_integers (defScope s_are_integers) := ⟨rfl, rfl, rfl, by decide +kernel, rfl, by decide +kernel, by decide +kernel⟩
abbrev s_is_cell_right : Stmt := top 27
abbrev N_is_cell_right : List Str := ["paper", "sequence", "nests", "start", "end", "found"]
abbrev p_is_cell_right : List Str := ["paper", "sequence", "nests", "start", "end"]
theorem sc_is_cell_right : FnScope N_is_cell_right p_is_cell_right (defScope s_is_cell_right) := ⟨rfl, rfl, rfl, by decide +kernel, rfl, by decide +kernel, by decide +kernel⟩
abbrev s_are_tables : Stmt := top 28
abbrev N_are_tables : List Str := ["paper", "sequence", "value", "size", "nests", "ends", "start", "row", "end"]
abbrev p_are_tables : List Str := ["paper", "sequence", "value"]
theorem sc_are_tables : FnScope N_are_tables p_are_tables (defScope s_are_tables) := ⟨rfl, rfl, rfl, by decide +kernel, rfl, by decide +kernel, by decide +kernel⟩
abbrev s_accepts_missing : Stmt := top 29
abbrev N_accepts_missing : List Str := ["paper", "sequence", "many", "value"]
abbrev p_accepts_missing : List Str := ["paper", "sequence", "many", "value"]
theorem sc_accepts_missing : FnScope N_accepts_missing p_accepts_missing (defScope s_accepts_missing) := ⟨rfl, rfl, rfl, by decide +kernel, rfl, by decide +kernel, by decide +kernel⟩
abbrev s__law_stream : Stmt := top 31
abbrev N__law_stream : List Str := ["_law_script"]
abbrev p__law_stream : List Str := ["_law_script"]
theorem sc__law_stream : FnScope N__law_stream p__law_stream (defScope s__law_stream) := ⟨rfl, rfl, rfl, by decide +kernel, rfl, by decide +kernel, by decide +kernel⟩
abbrev s__law_next : Stmt := top 32
abbrev N__law_next : List Str := ["_law_stream_here", "_law_many", "_law_k", "_law_cell", "_law_digit"]
abbrev p__law_next : List Str := ["_law_stream_here", "_law_many"]
theorem sc__law_next : FnScope N__law_next p__law_next (defScope s__law_next) := ⟨rfl, rfl, rfl, by decide +kernel, rfl, by decide +kernel, by decide +kernel⟩
abbrev s__law_is_integer : Stmt := top 33
abbrev N__law_is_integer : List Str := ["_law_actual"]
abbrev p__law_is_integer : List Str := ["_law_actual"]
theorem sc__law_is_integer : FnScope N__law_is_integer p__law_is_integer (defScope s__law_is_integer) := ⟨rfl, rfl, rfl, by decide +kernel, rfl, by decide +kernel, by decide +kernel⟩
abbrev s__law_equal : Stmt := top 34
abbrev N__law_equal : List Str := ["_law_actual", "_law_due", "_law_at"]
abbrev p__law_equal : List Str := ["_law_actual", "_law_due"]
theorem sc__law_equal : FnScope N__law_equal p__law_equal (defScope s__law_equal) := ⟨rfl, rfl, rfl, by decide +kernel, rfl, by decide +kernel, by decide +kernel⟩
abbrev s__law_paper : Stmt := top 35
abbrev N__law_paper : List Str := ["_law_stream_here", "_law_most", "_law_many", "_law_left", "_law_paper_here", "_law_turn", "_law_one", "_law_other"]
abbrev p__law_paper : List Str := ["_law_stream_here", "_law_most"]
theorem sc__law_paper : FnScope N__law_paper p__law_paper (defScope s__law_paper) := ⟨rfl, rfl, rfl, by decide +kernel, rfl, by decide +kernel, by decide +kernel⟩
abbrev s__law_reflected : Stmt := top 36
abbrev N__law_reflected : List Str := ["_law_paper_here", "_law_sequence_here", "_law_mark"]
abbrev p__law_reflected : List Str := ["_law_paper_here", "_law_sequence_here"]
theorem sc__law_reflected : FnScope N__law_reflected p__law_reflected (defScope s__law_reflected) := ⟨rfl, rfl, rfl, by decide +kernel, rfl, by decide +kernel, by decide +kernel⟩
abbrev s__law_sequence : Stmt := top 37
abbrev N__law_sequence : List Str := ["_law_stream_here", "_law_paper_here", "_law_most", "_law_turn", "_law_found", "_law_half", "_law_step", "_law_at"]
abbrev p__law_sequence : List Str := ["_law_stream_here", "_law_paper_here", "_law_most"]
theorem sc__law_sequence : FnScope N__law_sequence p__law_sequence (defScope s__law_sequence) := ⟨rfl, rfl, rfl, by decide +kernel, rfl, by decide +kernel, by decide +kernel⟩
abbrev s__law_inside : Stmt := top 38
abbrev N__law_inside : List Str := ["_law_one", "_law_other"]
abbrev p__law_inside : List Str := ["_law_one", "_law_other"]
theorem sc__law_inside : FnScope N__law_inside p__law_inside (defScope s__law_inside) := ⟨rfl, rfl, rfl, by decide +kernel, rfl, by decide +kernel, by decide +kernel⟩
abbrev s__law_apart : Stmt := top 39
abbrev N__law_apart : List Str := ["_law_one", "_law_other"]
abbrev p__law_apart : List Str := ["_law_one", "_law_other"]
theorem sc__law_apart : FnScope N__law_apart p__law_apart (defScope s__law_apart) := ⟨rfl, rfl, rfl, by decide +kernel, rfl, by decide +kernel, by decide +kernel⟩
abbrev s__law_is_valid : Stmt := top 40
abbrev N__law_is_valid : List Str := ["_law_paper_here", "_law_sequence_here", "_law_value", "_law_pair", "_law_leaf", "_law_at", "_law_to", "_law_outer", "_law_inner", "_law_other"]
abbrev p__law_is_valid : List Str := ["_law_paper_here", "_law_sequence_here", "_law_value"]
theorem sc__law_is_valid : FnScope N__law_is_valid p__law_is_valid (defScope s__law_is_valid) := ⟨rfl, rfl, rfl, by decide +kernel, rfl, by decide +kernel, by decide +kernel⟩
abbrev s__law_all_valid : Stmt := top 41
abbrev N__law_all_valid : List Str := ["_law_paper_here", "_law_sequence_here", "_law_found", "_law_one", "_law_longer", "_law_row", "_law_other"]
abbrev p__law_all_valid : List Str := ["_law_paper_here", "_law_sequence_here"]
theorem sc__law_all_valid : FnScope N__law_all_valid p__law_all_valid (defScope s__law_all_valid) := ⟨rfl, rfl, rfl, by decide +kernel, rfl, by decide +kernel, by decide +kernel⟩
abbrev s__law_greatest : Stmt := top 42
abbrev N__law_greatest : List Str := ["_law_rows", "_law_most", "_law_row"]
abbrev p__law_greatest : List Str := ["_law_rows"]
theorem sc__law_greatest : FnScope N__law_greatest p__law_greatest (defScope s__law_greatest) := ⟨rfl, rfl, rfl, by decide +kernel, rfl, by decide +kernel, by decide +kernel⟩
abbrev s__law_tables : Stmt := top 43
abbrev N__law_tables : List Str := ["_law_paper_here", "_law_sequence_here", "_law_size", "_law_nests", "_law_length", "_law_begin", "_law_end", "_law_most", "_law_ends", "_law_rows"]
abbrev p__law_tables : List Str := ["_law_paper_here", "_law_sequence_here"]
theorem sc__law_tables : FnScope N__law_tables p__law_tables (defScope s__law_tables) := ⟨rfl, rfl, rfl, by decide +kernel, rfl, by decide +kernel, by decide +kernel⟩
abbrev s__law_are_numbers : Stmt := top 44
abbrev N__law_are_numbers : List Str := ["_law_value", "_law_size", "_law_one"]
abbrev p__law_are_numbers : List Str := ["_law_value", "_law_size"]
theorem sc__law_are_numbers : FnScope N__law_are_numbers p__law_are_numbers (defScope s__law_are_numbers) := ⟨rfl, rfl, rfl, by decide +kernel, rfl, by decide +kernel, by decide +kernel⟩
abbrev s__law_are_tables : Stmt := top 45
abbrev N__law_are_tables : List Str := ["_law_paper_here", "_law_sequence_here", "_law_value", "_law_size", "_law_nests", "_law_ends", "_law_at", "_law_begin", "_law_end", "_law_least"]
abbrev p__law_are_tables : List Str := ["_law_paper_here", "_law_sequence_here", "_law_value"]
theorem sc__law_are_tables : FnScope N__law_are_tables p__law_are_tables (defScope s__law_are_tables) := ⟨rfl, rfl, rfl, by decide +kernel, rfl, by decide +kernel, by decide +kernel⟩
abbrev s__law_is_evidence : Stmt := top 46
abbrev N__law_is_evidence : List Str := ["_law_paper_here", "_law_sequence_here", "_law_many", "_law_value"]
abbrev p__law_is_evidence : List Str := ["_law_paper_here", "_law_sequence_here", "_law_many", "_law_value"]
theorem sc__law_is_evidence : FnScope N__law_is_evidence p__law_is_evidence (defScope s__law_is_evidence) := ⟨rfl, rfl, rfl, by decide +kernel, rfl, by decide +kernel, by decide +kernel⟩
abbrev s__law_turned : Stmt := top 47
abbrev N__law_turned : List Str := ["_law_stream_here", "_law_value", "_law_pairs", "_law_tables_here", "_law_nests", "_law_ends", "_law_pick", "_law_odd", "_law_at", "_law_row", "_law_to"]
abbrev p__law_turned : List Str := ["_law_stream_here", "_law_value"]
theorem sc__law_turned : FnScope N__law_turned p__law_turned (defScope s__law_turned) := ⟨rfl, rfl, rfl, by decide +kernel, rfl, by decide +kernel, by decide +kernel⟩
abbrev s__law_other_pairs : Stmt := top 48
abbrev N__law_other_pairs : List Str := ["_law_stream_here", "_law_sequence_here", "_law_pairs", "_law_leaves", "_law_pair", "_law_at"]
abbrev p__law_other_pairs : List Str := ["_law_stream_here", "_law_sequence_here", "_law_pairs"]
theorem sc__law_other_pairs : FnScope N__law_other_pairs p__law_other_pairs (defScope s__law_other_pairs) := ⟨rfl, rfl, rfl, by decide +kernel, rfl, by decide +kernel, by decide +kernel⟩
abbrev s_law : Stmt := top 49
abbrev N_law : List Str := ["_law_script", "_law_stream_here", "_law_paper_here", "_law_sequence_here", "_law_rows", "_law_great", "_law_missing", "_law_told", "_law_due", "_law_at", "_law_row", "_law_to", "_law_less", "_law_value", "_law_turn", "_law_pairs", "_law_many", "_law_answer"]
abbrev p_law : List Str := ["_law_script"]
theorem sc_law : FnScope N_law p_law (defScope s_law) := ⟨rfl, rfl, rfl, by decide +kernel, rfl, by decide +kernel, by decide +kernel⟩
/-- a def as it stands behind the top: its object, the global name x that holds it -/
structure DefAt (K : PySem.W.Frag) (mg : Str → Option Value) (x qual : Str) (st : Stmt) (ps : List Str) where
  f : Addr
  fd : FuncData
  F : Fun K qual qual st f fd
  m : mg x = some (.ref f)
  b : Binds K fd ps []
/-- the built-in names still mean what they meant -/
structure Blt (mg : Str → Option Value) : Prop where
  len : mg "len" = none
  isinstance : mg "isinstance" = none
  tuple : mg "tuple" = none
  list : mg "list" = none
  int : mg "int" = none
  bool : mg "bool" = none
  str : mg "str" = none
  all : mg "all" = none
  any : mg "any" = none
  max : mg "max" = none
  min : mg "min" = none
  range : mg "range" = none
  enumerate : mg "enumerate" = none
  sorted : mg "sorted" = none
  abs : mg "abs" = none
structure Cst (mg : Str → Option Value) : Prop where
  MOST_MARKS : ∃ t, mg "MOST_MARKS" = some (.int 6 t)
  MOST_LEAVES_papers : ∃ t, mg "MOST_LEAVES_papers" = some (.int 16 t)
  MOST_LEAVES_missing : ∃ t, mg "MOST_LEAVES_missing" = some (.int 12 t)
theorem bt_len : bootBuiltins "len" = some (.builtin "len") := by decide +kernel
theorem bt_isinstance : bootBuiltins "isinstance" = some (.builtin "isinstance") := by decide +kernel
theorem bt_tuple : bootBuiltins "tuple" = some (.type "tuple") := by decide +kernel
theorem bt_list : bootBuiltins "list" = some (.type "list") := by decide +kernel
theorem bt_int : bootBuiltins "int" = some (.type "int") := by decide +kernel
theorem bt_bool : bootBuiltins "bool" = some (.type "bool") := by decide +kernel
theorem bt_str : bootBuiltins "str" = some (.type "str") := by decide +kernel
theorem bt_all : bootBuiltins "all" = some (.builtin "all") := by decide +kernel
theorem bt_any : bootBuiltins "any" = some (.builtin "any") := by decide +kernel
theorem bt_max : bootBuiltins "max" = some (.builtin "max") := by decide +kernel
theorem bt_min : bootBuiltins "min" = some (.builtin "min") := by decide +kernel
theorem bt_sorted : bootBuiltins "sorted" = some (.builtin "sorted") := by decide +kernel
theorem bt_abs : bootBuiltins "abs" = some (.builtin "abs") := by decide +kernel

/-! ### the rules with the written part named (a comprehension's block has its own context, with the same K) -/
section
variable {X : Cx} (K : PySem.W.Frag) (h : X.K = K)
include h
theorem kIxT : IxR X (rIxT K) := h ▸ ix_tup
theorem kIxL : IxR X (rIxL K) := h ▸ ix_list
theorem kSlT : SlR X (rSlA K) := h ▸ sl_tupA
theorem kSlL : SlR X (rSlL K) := h ▸ sl_list
theorem kCat : OpR X (binaryOp .Add) (rCatA K) := h ▸ op_catA
theorem kGe2 (hu : X.A.units < cLine) : OpR X (compareOp .GtE) (rGe2 K) := h ▸ op_ge2 hu
theorem kIsi : CallR X (.builtin "isinstance") (rIsi K) := h ▸ call_isi
theorem kLen : CallR X (.builtin "len") (rLen K) := h ▸ cr_len
theorem kList : CallR X (.type "list") (rList K) := h ▸ cr_list
theorem kTup : CallR X (.type "tuple") (rTup K) := h ▸ cr_tup
theorem kAll (hc : X.calm = true) : CallR X (.builtin "all") (rAll K) := h ▸ cr_all hc
theorem kAny (hc : X.calm = true) : CallR X (.builtin "any") (rAny K) := h ▸ cr_any hc
theorem kMax (hc : X.calm = true) : CallR X (.builtin "max") (rMax K) := h ▸ cr_max hc
theorem kMin (hc : X.calm = true) : CallR X (.builtin "min") (rMin K) := h ▸ cr_min hc
theorem kRevT {e : Expr} {te : TE} {k : Nat} {p1 p2 p3 pos : Pos} (he : PE X e te) : PE X (.Subscript e (.Slice none none (some (.UnaryOp .USub (.Constant (.int 1) k p1) p2)) p3) pos) (tRevT K te) := h ▸ pe_revT he
theorem kPiT {tg l : Expr} {tl : TE} (hl : PE X l tl) : PI X tg l (iTup K tl) := h ▸ pi_tup hl
theorem kPiL {tg l : Expr} {tl : TE} (hl : PE X l tl) : PI X tg l (iList K tl) := h ▸ pi_list hl
theorem kPgT {es : List Expr} {k : Nat} {t : TGs} {n : Nat} {pos : Pos} (hc : X.calm = true) (hg : PGs X es t)
    (hn : (assignEach es X.env).length = n := by rfl) (hst : (assignEach es X.env).findIdx? (·.1) = none := by rfl) : PG X (.Tuple es k pos) (gTup K n t) := h ▸ pg_tup hc hg hn hst
theorem kTru {a : Expr} {ta : TE} (ha : PE X a ta) (he : ∀ whole, isTrue a X.env whole = (do let v ← whole; standAt a.pos; holding [v] (truthy v))) :
    PT X a (fun σ H Q => ta σ H fun x H' => ∃ k, TruV K x H' k ∧ Q k H') := h ▸ pt_truth ha he
theorem kEnumT {e : Expr} {ta : TA} {p pos tpos : Pos} {elts : List Expr} {kk : Nat} (hg : Gl X "enumerate") (hm : X.mg "enumerate" = none) (ha : PA X [e] ta) (hs : starEach [e] X.env = [(false, eval e X.env)] := by rfl) :
    PI X (.Tuple elts kk tpos) (.Call (.Name "enumerate" p) [e] [] pos) (iEnumT K ta) := h ▸ pi_enumT hg hm ha hs
theorem kEnum {e : Expr} {ta : TA} {p pos tpos : Pos} {elts : List Expr} {kk : Nat} (hg : Gl X "enumerate") (hm : X.mg "enumerate" = none) (ha : PA X [e] ta) (hs : starEach [e] X.env = [(false, eval e X.env)] := by rfl) :
    PI X (.Tuple elts kk tpos) (.Call (.Name "enumerate" p) [e] [] pos) (iEnum K ta) := h ▸ pi_enum hg hm ha hs
end

/-- a def's body over data gives its promise -/
theorem run_fn0 {K : PySem.W.Frag} {ι : Type} {args : ι → Slots} {pre : ι → Prop} {res : ι → PyData → Prop} {N : List Str} {t : TS} {vs : List V} {H : Hp} {Q : VK} {E : XK} (h : spI K args pre res vs H Q E)
    (hb : ∀ i, pre i → Run K t (args i ++ List.replicate (N.length - (args i).length) .nil) (fun _ => res i .none) (res i)) : t { nx := fun _ H' => Q .non H', rt := Q } (start N vs) H := by
  obtain ⟨p, B, i, hp, w, e, k⟩ := h
  exact hb i hp p B H (start N vs) _ e.start w (fun ds' B' H' σ' n e' g => k _ _ B' H' n .non g) fun d v B' H' r hd g => k d v B' H' r hd g
end K47
/-! K47: the data: papers, sequences, pairs, tables; what judges answer, over data. -/
namespace K47
open PySem PySem.Spec PyProof.Rows L2

/-- a paper and a sequence -/
structure Bk where
  pp : List Nat
  ss : List Nat
structure Bk.Ok (b : Bk) : Prop where
  p1 : 1 ≤ b.pp.length
  p6 : b.pp.length ≤ 6
  pm : ∀ x ∈ b.pp, x < b.pp.length
  inv : ∀ i, i < b.pp.length → b.pp.getD (b.pp.getD i 0) 0 = i
  s12 : b.ss.length ≤ 7
  sm : ∀ x ∈ b.ss, x < b.pp.length
abbrev iD (x : Nat) : PyData := .int (x : Int)
def encN (l : List Nat) : PyData := .tuple (l.map iD)
def Bk.P (b : Bk) : PyData := encN b.pp
def Bk.S (b : Bk) : PyData := encN b.ss
def Bk.n (b : Bk) : Nat := b.ss.length
/-- the marks of the leaves i and j are counterparts -/
def Bk.cp (b : Bk) (i j : Nat) : Bool := b.pp.getD (b.ss.getD i 0) 0 == b.ss.getD j 0
def encPr (p : Pr) : PyData := .tuple [.int (p.1 : Int), .int (p.2 : Int)]
def encR (r : List Pr) : PyData := .tuple (r.map encPr)

def isWhole (d : PyData) (lo hi : Int) : Bool := match d with
  | .int i => decide (lo ≤ i) && decide (i ≤ hi)
  | _ => false

theorem getD_map {α : Type} (f : α → PyData) (l : List α) (i : Nat) (d : α) (h : i < l.length) : (l.map f)[i]? = some (f (l.getD i d)) := by
  rw [List.getElem?_map, List.getElem?_eq_getElem h, List.getD_eq_getElem?_getD, List.getElem?_eq_getElem h]
  rfl
theorem atN {l : List Nat} {i : Nat} (h : i < l.length) : atI (l.map iD) (i : Int) = some (iD (l.getD i 0)) := atI_natD (getD_map iD l i 0 h)
theorem getD_mem' {l : List Nat} {i : Nat} (h : i < l.length) : l.getD i 0 ∈ l := by
  rw [List.getD_eq_getElem?_getD, List.getElem?_eq_getElem h]
  exact List.getElem_mem h
theorem Bk.Ok.mark {b : Bk} (o : b.Ok) {i : Nat} (h : i < b.n) : b.ss.getD i 0 < b.pp.length := o.sm _ (getD_mem' h)
theorem Bk.Ok.ctr {b : Bk} (o : b.Ok) {i : Nat} (h : i < b.pp.length) : b.pp.getD i 0 < b.pp.length := o.pm _ (getD_mem' h)

/-! ### pairs out of data -/
def goodPr (b : Bk) (p : Pr) : Bool := isPr b.n b.cp p
/-- the pair that a datum is -/
def prD (b : Bk) : PyData → Option Pr
  | .tuple [.int x, .int y] => if 0 ≤ x ∧ x < y ∧ y < b.n ∧ b.cp x.toNat y.toNat = true then some (x.toNat, y.toNat) else none
  | _ => none
def decAll (b : Bk) : List PyData → Option (List Pr)
  | [] => some []
  | d :: l => match prD b d, decAll b l with
    | some p, some ps => some (p :: ps)
    | _, _ => none
def decP (b : Bk) : PyData → Option (List Pr)
  | .tuple l => decAll b l
  | _ => none
def validD (b : Bk) (d : PyData) : Bool := match decP b d with
  | some ps => okPairs ps
  | none => false
theorem prD_some {b : Bk} {d : PyData} {p : Pr} (h : prD b d = some p) : d = encPr p ∧ p.1 < p.2 ∧ p.2 < b.n ∧ b.cp p.1 p.2 = true := by
  unfold prD at h
  split at h
  · rename_i x y
    split at h
    · rename_i hc
      cases h
      obtain ⟨h1, h2, h3, h4⟩ := hc
      refine ⟨?_, ?_, ?_, h4⟩
      · unfold encPr
        rw [show ((x.toNat : Nat) : Int) = x by omega, show ((y.toNat : Nat) : Int) = y by omega]
      · show x.toNat < y.toNat; omega
      · show y.toNat < b.n; omega
    · cases h
  · cases h
theorem prD_enc {b : Bk} {p : Pr} (h1 : p.1 < p.2) (h2 : p.2 < b.n) (h3 : b.cp p.1 p.2 = true) : prD b (encPr p) = some p := by
  show (if 0 ≤ (p.1 : Int) ∧ (p.1 : Int) < (p.2 : Int) ∧ (p.2 : Int) < (b.n : Int) ∧ b.cp (p.1 : Int).toNat (p.2 : Int).toNat = true then some ((p.1 : Int).toNat, (p.2 : Int).toNat) else none) = some p
  rw [if_pos ⟨by omega, by omega, by omega, by simpa using h3⟩]
  simp
theorem decAll_some {b : Bk} : ∀ {l : List PyData} {ps : List Pr}, decAll b l = some ps → l = ps.map encPr ∧ ∀ p ∈ ps, p.1 < p.2 ∧ p.2 < b.n ∧ b.cp p.1 p.2 = true
  | [], ps, h => by
    cases h
    exact ⟨rfl, by simp⟩
  | d :: l, ps, h => by
    unfold decAll at h
    split at h
    · rename_i p qs hp hq
      cases h
      obtain ⟨e1, h1⟩ := prD_some hp
      obtain ⟨e2, h2⟩ := decAll_some hq
      refine ⟨by rw [e1, e2]; rfl, fun q hq => ?_⟩
      rcases List.mem_cons.mp hq with rfl | hq
      · exact h1
      · exact h2 q hq
    · cases h
theorem decAll_enc {b : Bk} : ∀ {ps : List Pr}, (∀ p ∈ ps, p.1 < p.2 ∧ p.2 < b.n ∧ b.cp p.1 p.2 = true) → decAll b (ps.map encPr) = some ps
  | [], _ => rfl
  | p :: ps, h => by
    have h1 := h p List.mem_cons_self
    have h2 := decAll_enc fun q hq => h q (List.mem_cons_of_mem _ hq)
    show (match prD b (encPr p), decAll b (ps.map encPr) with | some p, some ps => some (p :: ps) | _, _ => none) = _
    rw [prD_enc h1.1 h1.2.1 h1.2.2, h2]
theorem decAll_none {b : Bk} : ∀ {l : List PyData}, decAll b l = none → ∃ d ∈ l, prD b d = none
  | [], h => by cases h
  | d :: l, h => by
    cases hp : prD b d with
    | none => exact ⟨d, List.mem_cons_self, hp⟩
    | some p =>
      unfold decAll at h
      rw [hp] at h
      cases hq : decAll b l with
      | none =>
        obtain ⟨x, hx, e⟩ := decAll_none hq
        exact ⟨x, List.mem_cons_of_mem _ hx, e⟩
      | some ps => rw [hq] at h; cases h
theorem decAll_all {b : Bk} (l : List PyData) : (decAll b l).isSome = l.all fun d => (prD b d).isSome := by
  cases h : decAll b l with
  | none =>
    obtain ⟨d, hd, e⟩ := decAll_none h
    symm
    rw [Option.isSome_none, List.all_eq_false]
    exact ⟨d, hd, by simp [e]⟩
  | some ps =>
    obtain ⟨e, hg⟩ := decAll_some h
    symm
    rw [Option.isSome_some, List.all_eq_true]
    intro d hd
    rw [e] at hd
    obtain ⟨p, hp, rfl⟩ := List.mem_map.mp hd
    have := hg p hp
    rw [prD_enc this.1 this.2.1 this.2.2]
    rfl
theorem good_valid {b : Bk} {ps : List Pr} (h : ∀ p ∈ ps, p.1 < p.2 ∧ p.2 < b.n ∧ b.cp p.1 p.2 = true) : (okPairs ps = true ↔ Valid b.n b.cp ps) := by
  rw [valid_iff]
  constructor
  · intro q
    refine ⟨?_, q⟩
    rw [List.all_eq_true]
    intro p hp
    have := h p hp
    simp [isPr, this]
  · exact fun q => q.2
theorem validD_row {b : Bk} (ps : List Pr) : validD b (encR ps) = okRow b.n b.cp ps := by
  unfold validD decP encR
  by_cases h : ∀ p ∈ ps, p.1 < p.2 ∧ p.2 < b.n ∧ b.cp p.1 p.2 = true
  · show (match decAll b (ps.map encPr) with | some ps => okPairs ps | none => false) = _
    rw [decAll_enc h]
    have : ps.all (isPr b.n b.cp) = true := by
      rw [List.all_eq_true]
      intro p hp
      have := h p hp
      simp [isPr, this]
    unfold okRow
    rw [this]
    rfl
  · have h1 : okRow b.n b.cp ps = false := by
      unfold okRow
      have : ps.all (isPr b.n b.cp) = false := by
        rw [List.all_eq_false]
        refine Classical.byContradiction fun q => h fun p hp => ?_
        have hq := Classical.byContradiction fun z => q ⟨p, hp, z⟩
        simpa [isPr] using hq
      rw [this]
      rfl
    rw [h1]
    show (match decAll b (ps.map encPr) with | some ps => okPairs ps | none => false) = _
    cases hd : decAll b (ps.map encPr) with
    | none => rfl
    | some qs =>
      obtain ⟨e, hg⟩ := decAll_some hd
      have inj : ∀ {a c : List Pr}, a.map encPr = c.map encPr → a = c := by
        intro a
        induction a with
        | nil =>
          intro c e
          cases c with
          | nil => rfl
          | cons _ _ => cases e
        | cons x a ih =>
          intro c e
          cases c with
          | nil => cases e
          | cons y c =>
            rw [List.map_cons, List.map_cons] at e
            injection e with e1 e2
            rw [ih e2]
            congr 1
            unfold encPr at e1
            injection e1 with e1
            injection e1 with e3 e4
            injection e4 with e4 _
            injection e3 with e3
            injection e4 with e4
            refine Prod.ext ?_ ?_ <;> omega
      have := inj e
      subst this
      exact absurd hg h
end K47
/-! K47: the small judges. -/
namespace K47
open PySem PySem.Spec PyProof.Rows L2
local macro_rules | `(tactic| walk_at "lvl") => `(tactic| first | decide | omega)
local macro_rules | `(tactic| walk_at "at") => `(tactic| first | rfl | assumption | exact atN (by assumption))
section
variable {P : Program} {w : World} {K : PySem.W.Frag} {mg : Str → Option Value} {base : Heap}
/-! ### is_whole -/
abbrev spWhole (K : PySem.W.Frag) : Sp := spI K (ι := PyData × Int × Int) (fun i => [.dat i.1, .dat (.int i.2.1), .dat (.int i.2.2)]) (fun _ => True) (fun i d => d = .bool (isWhole i.1 i.2.1 i.2.2))
theorem whole_body {d : PyData} {lo hi : Int} {t : TE} (e : t = tAndV (tCB (rIsi K) (tCons (tVar 0) (tCons (tC (.ty "int")) tNil))) (tAndV (tNotV (tCB (rIsi K) (tCons (tVar 0) (tCons (tC (.ty "bool")) tNil)))) (tChain (rI0 fun i j => .bl (decide (i ≤ j))) (rI0 fun i j => .bl (decide (i ≤ j))) (tVar 1) (tVar 0) (tVar 2)))) :
    Ev K t [.dat d, .dat (.int lo), .dat (.int hi)] (.bool (isWhole d lo hi)) := by
  subst e
  cases d with
  | int i => exact (ev_andB (ev_isInt (ev_var rfl)) fun _ => ev_andB (ev_not (ev_isBool (ev_var rfl))) fun _ => ev_chain (ev_var rfl) (ev_var rfl) rd_le (fun _ => ev_var rfl) (fun _ => rd_le)).is (by simp [isInt, isBool, isWhole])
  | bool b => exact (ev_andB (b := false) (ev_isInt (ev_var rfl)) fun _ => (ev_andB (b := false) (ev_not (ev_isBool (ev_var rfl))) fun h => by cases h).is rfl).is rfl
  | none => exact (ev_andB (b := false) (ev_isInt (ev_var rfl)) fun h => by cases h).is rfl
  | str s => exact (ev_andB (b := false) (ev_isInt (ev_var rfl)) fun h => by cases h).is rfl
  | list l => exact (ev_andB (b := false) (ev_isInt (ev_var rfl)) fun h => by cases h).is rfl
  | tuple l => exact (ev_andB (b := false) (ev_isInt (ev_var rfl)) fun h => by cases h).is rfl
  | dict l => exact (ev_andB (b := false) (ev_isInt (ev_var rfl)) fun h => by cases h).is rfl
theorem ok_is_whole_papers (B : Blt mg) (D : DefAt K mg "is_whole_papers" "is_whole" s_is_whole_papers p_is_whole_papers) : FnOk P w K mg base CX0 1 D.f D.fd p_is_whole_papers (spWhole K) := by
  refine D.F.ok sc_is_whole_papers (fun vs H Q E h => spI_len h (fun _ => rfl)) (fun cdv A outer s H vs Q E hr h => ⟨_, (pss_one (ps_ret (pe_and (pe_callB (kIsi K rfl) (by rfl) B.isinstance bt_isinstance (pa_cons (pv 0) (pa_cons (pe_bltn (v := .ty "int") (by rfl) B.int bt_int rfl) pa_nil))) (pe_and (pe_not (pe_callB (kIsi K rfl) (by rfl) B.isinstance bt_isinstance (pa_cons (pv 0) (pa_cons (pe_bltn (v := .ty "bool") (by rfl) B.bool bt_bool rfl) pa_nil)))) (pe_one (pe_chain op_le op_le (pv 1) (pv 0) (pv 2))))))), run_fn0 h ?_⟩)
  rintro ⟨d, lo, hi⟩ _
  exact run_ret (whole_body rfl)
theorem ok_is_whole_missing (B : Blt mg) (D : DefAt K mg "is_whole_missing" "is_whole" s_is_whole_missing p_is_whole_missing) : FnOk P w K mg base CX0 1 D.f D.fd p_is_whole_missing (spWhole K) := by
  refine D.F.ok sc_is_whole_missing (fun vs H Q E h => spI_len h (fun _ => rfl)) (fun cdv A outer s H vs Q E hr h => ⟨_, (pss_one (ps_ret (pe_and (pe_callB (kIsi K rfl) (by rfl) B.isinstance bt_isinstance (pa_cons (pv 0) (pa_cons (pe_bltn (v := .ty "int") (by rfl) B.int bt_int rfl) pa_nil))) (pe_and (pe_not (pe_callB (kIsi K rfl) (by rfl) B.isinstance bt_isinstance (pa_cons (pv 0) (pa_cons (pe_bltn (v := .ty "bool") (by rfl) B.bool bt_bool rfl) pa_nil)))) (pe_one (pe_chain op_le op_le (pv 1) (pv 0) (pv 2))))))), run_fn0 h ?_⟩)
  rintro ⟨d, lo, hi⟩ _
  exact run_ret (whole_body rfl)

/-! ### is_paper, of a paper -/
abbrev spPaper (K : PySem.W.Frag) : Sp := spI K (ι := Bk) (fun b => [.dat b.P]) Bk.Ok (fun _ d => d = .bool true)
theorem ok_is_paper (B : Blt mg) (C : Cst mg) (D : DefAt K mg "is_paper" "is_paper" s_is_paper p_is_paper) (D_is_whole_papers : DefAt K mg "is_whole_papers" "is_whole" s_is_whole_papers p_is_whole_papers) (G_is_whole_papers : FnOk P w K mg base CX0 1 D_is_whole_papers.f D_is_whole_papers.fd p_is_whole_papers (spWhole K)) :
    FnOk P w K mg base CX0 2 D.f D.fd p_is_paper (spPaper K) := by
  refine D.F.ok sc_is_paper (fun vs H Q E h => spI_len h (fun _ => rfl)) (fun cdv A outer s H vs Q E hr h => ⟨_, (pss_cons (ps_if (PW.pt (pw_or (pt_not (pt_val (pe_callB (kIsi K rfl) (by rfl) B.isinstance bt_isinstance (pa_cons (pv 0) (pa_cons (pe_bltn (v := .ty "tuple") (by rfl) B.tuple bt_tuple rfl) pa_nil))))) (pw_or1 (pt_not (pt_chain op_le op_le pe_int (pe_callB (kLen K rfl) (by rfl) B.len bt_len (pa_cons (pv 0) pa_nil)) (pe_glob (v := .int 6) (by rfl) C.MOST_MARKS.choose_spec ⟨_, rfl⟩)))))) (pss_one (ps_ret pe_bl)) pss_nil)
      (pss_cons (ps_if (pt_not (pt_val (pe_callB (kAll K rfl rfl) (by rfl) B.all bt_all (pa_cons (pe_lc (own := [("mark", 1)]) rfl sc_is_paper.nd (kPiT K rfl (pv 0)) (blkOk_by (N := N_is_paper) (sc := defScope s_is_paper) (by decide +kernel)) (fun _ _ _ _ _ => (pg_name (i := 1) sc_is_paper.nd rfl (.inl rfl))) (fun _ _ _ _ _ => pts_nil) (fun _ _ _ _ _ => (pe_call G_is_whole_papers (hr.mono (by walk_at "lvl")) (by rfl) D_is_whole_papers.m D_is_whole_papers.F.kp D_is_whole_papers.b .nil pass0 (pa_cons (pv 1) (pa_cons pe_int (pa_cons (pe_op op_sub (pe_callB (kLen K rfl) (by rfl) B.len bt_len (pa_cons (pv 0) pa_nil)) pe_int) pa_nil)))))) pa_nil)))) (pss_one (ps_ret pe_bl)) pss_nil)
      (pss_one (ps_ret (pe_callB (kAll K rfl rfl) (by rfl) B.all bt_all (pa_cons (pe_lc (own := [("mark", 1)]) rfl sc_is_paper.nd (pi_range1 (by rfl) B.range (pa_cons (pe_callB (kLen K rfl) (by rfl) B.len bt_len (pa_cons (pv 0) pa_nil)) pa_nil)) (blkOk_by (N := N_is_paper) (sc := defScope s_is_paper) (by decide +kernel)) (fun _ _ _ _ _ => (pg_name (i := 1) sc_is_paper.nd rfl (.inl rfl))) (fun _ _ _ _ _ => pts_nil) (fun _ _ _ _ _ => (pe_cmpR op_eq (pe_ix (kIxT K rfl) (pv 0) (pe_ix (kIxT K rfl) (pv 0) (pv 1) (fun _ _ => rfl)) (fun _ _ => rfl)) (pv 1) (nomark _)))) pa_nil)))))), run_fn0 h ?_⟩)
  intro b o
  have hl : (b.pp.map iD).length = b.pp.length := List.length_map _
  refine run_guard (b := false) ?_ (fun h => by cases h) fun _ => ?_
  · refine EvB.is (et_or (a := false) (b := false) (EvB.is (et_not (et_B (ev_isTup (ev_var rfl)))) rfl) fun _ => ?_) rfl
    refine EvB.is (et_not (et_test (ev_chain ev_int (ev_cb (ea_cons (ev_var rfl) ea_nil) cd_lenT) rd_le (fun _ => ev_int) fun _ => rd_le))) ?_
    rw [hl]
    have := o.p1
    have := o.p6
    simp
    omega
  refine run_guard (b := false) ?_ (fun h => by cases h) fun _ => ?_
  · refine EvB.is (et_not (et_B (ev_cb (ea_cons (ev_mapX (F := fun _ => .bool true) (ei_tup (ev_var rfl)) ?_ fun i d hd => ⟨_, eg_name, ?_⟩) ea_nil) (cd_allF (f := fun _ => true))))) ?_
    · rw [hl]; have := o.p6; omega
    · have hi : i < b.pp.length := by have := (List.getElem?_eq_some_iff.mp hd).1; rwa [hl] at this
      have e : d = iD (b.pp.getD i 0) := Option.some.inj (hd.symm.trans (getD_map _ _ i 0 hi))
      subst e
      refine ev_call (iD (b.pp.getD i 0), 0, ((b.pp.map iD).length : Int) - 1) (ea_cons (ev_var rfl) (ea_cons ev_int (ea_cons (ev_op (ev_cb (ea_cons (ev_var rfl) ea_nil) cd_lenT) ev_int rd_sub) ea_nil))) trivial fun d e => e.trans ?_
      have := o.ctr hi
      rw [hl]
      have e1 : decide ((0 : Int) ≤ (b.pp.getD i 0 : Nat)) = true := decide_eq_true (by omega)
      have e2 : decide (((b.pp.getD i 0 : Nat) : Int) ≤ (b.pp.length : Int) - 1) = true := decide_eq_true (by omega)
      show PyData.bool (decide ((0 : Int) ≤ (b.pp.getD i 0 : Nat)) && decide (((b.pp.getD i 0 : Nat) : Int) ≤ (b.pp.length : Int) - 1)) = _
      rw [e1, e2]
      rfl
    · simp
  · refine run_ret (Ev.is (ev_cb (ea_cons (ev_map (h := fun _ => .bool true) (ei_r1 (n := (b.pp.length : Int)) ?_ ?_) ?_ fun i hi => ⟨_, eg_name, ?_⟩) ea_nil) (cd_allF (f := fun _ => true))) ?_)
    · exact ea_cons (Ev.is (ev_cb (ea_cons (ev_var rfl) ea_nil) cd_lenT) (by rw [hl])) ea_nil
    · have := o.p6; omega
    · have := o.p6; omega
    · have hi' : i < b.pp.length := by omega
      have hc := o.ctr hi'
      refine Ev.is (ev_op (ev_op (ev_var rfl) (ev_op (ev_var rfl) (ev_var rfl) (rd_ixT (atN hi'))) (rd_ixT (atN hc))) (ev_var rfl) rd_eqI) ?_
      rw [o.inv i hi']
      simp
    · simp
end
end K47
/-! K47: the small judges, further. -/
namespace K47
open PySem PySem.Spec PyProof.Rows L2
local macro_rules | `(tactic| walk_at "lvl") => `(tactic| first | decide | omega)
local macro_rules | `(tactic| walk_at "at") => `(tactic| first | rfl | assumption | exact atN (by assumption))
section
variable {K : PySem.W.Frag} {ds : Slots} {ta tb tc te : TE} {d : PyData} {lo hi : Int} {E : XK}
theorem cl_is_whole (ha : Ev K ta ds d) (hb : Ev K tb ds (.int lo)) (hc : Ev K tc ds (.int hi)) : Ev K (tCall (spWhole K) [] E (tCons ta (tCons tb (tCons tc tNil)))) ds (.bool (isWhole d lo hi)) :=
  ev_call (d, lo, hi) (ea_cons ha (ea_cons hb (ea_cons hc ea_nil))) trivial fun _ e => e
theorem cl_is_whole_papers (ha : Ev K ta ds d) (hb : Ev K tb ds (.int lo)) (hc : Ev K tc ds (.int hi)) : Ev K (tCall (spWhole K) [] E (tCons ta (tCons tb (tCons tc tNil)))) ds (.bool (isWhole d lo hi)) := cl_is_whole ha hb hc
theorem cl_is_whole_missing (ha : Ev K ta ds d) (hb : Ev K tb ds (.int lo)) (hc : Ev K tc ds (.int hi)) : Ev K (tCall (spWhole K) [] E (tCons ta (tCons tb (tCons tc tNil)))) ds (.bool (isWhole d lo hi)) := cl_is_whole ha hb hc
theorem cl_is_paper {b : Bk} (o : b.Ok) (ha : Ev K ta ds b.P) : Ev K (tCall (spPaper K) [] E (tCons ta tNil)) ds (.bool true) := ev_call b (ea_cons ha ea_nil) o fun _ e => e
/-! promises -/
abbrev spMarks (K : PySem.W.Frag) : Sp := spI K (ι := Bk) (fun b => [.dat b.P, .dat b.S]) Bk.Ok (fun _ d => d = .bool true)
abbrev spShort (K : PySem.W.Frag) : Sp := spI K (ι := Bk) (fun b => [.dat b.P, .dat b.S]) Bk.Ok (fun _ d => d = .none)
theorem cl_are_marks {b : Bk} (o : b.Ok) (ha : Ev K ta ds b.P) (hb : Ev K tb ds b.S) : Ev K (tCall (spMarks K) [] E (tCons ta (tCons tb tNil))) ds (.bool true) := ev_call b (ea_cons ha (ea_cons hb ea_nil)) o fun _ e => e
theorem cl_check_short {b : Bk} (o : b.Ok) (ha : Ev K ta ds b.P) (hb : Ev K tb ds b.S) : Ev K (tCall (spShort K) [] E (tCons ta (tCons tb tNil))) ds .none := ev_call b (ea_cons ha (ea_cons hb ea_nil)) o fun _ e => e
abbrev spIns (K : PySem.W.Frag) : Sp := spI K (ι := Pr × Pr) (fun i => [.dat (encPr i.1), .dat (encPr i.2)]) (fun _ => True) (fun i d => d = .bool (ins i.1 i.2))
abbrev spApt (K : PySem.W.Frag) : Sp := spI K (ι := Pr × Pr) (fun i => [.dat (encPr i.1), .dat (encPr i.2)]) (fun _ => True) (fun i d => d = .bool (apt i.1 i.2))
theorem cl_ins {p q : Pr} (ha : Ev K ta ds (encPr p)) (hb : Ev K tb ds (encPr q)) : Ev K (tCall (spIns K) [] E (tCons ta (tCons tb tNil))) ds (.bool (ins p q)) := ev_call (p, q) (ea_cons ha (ea_cons hb ea_nil)) trivial fun _ e => e
theorem cl_apt {p q : Pr} (ha : Ev K ta ds (encPr p)) (hb : Ev K tb ds (encPr q)) : Ev K (tCall (spApt K) [] E (tCons ta (tCons tb tNil))) ds (.bool (apt p q)) := ev_call (p, q) (ea_cons ha (ea_cons hb ea_nil)) trivial fun _ e => e
abbrev spPair (K : PySem.W.Frag) : Sp := spI K (ι := Bk × PyData) (fun i => [.dat i.1.P, .dat i.1.S, .dat i.2]) (fun i => i.1.Ok) (fun i d => d = .bool (prD i.1 i.2).isSome)
theorem cl_is_pair {b : Bk} (o : b.Ok) (ha : Ev K ta ds b.P) (hb : Ev K tb ds b.S) (hc : Ev K tc ds d) : Ev K (tCall (spPair K) [] E (tCons ta (tCons tb (tCons tc tNil)))) ds (.bool (prD b d).isSome) := ev_call (b, d) (ea_cons ha (ea_cons hb (ea_cons hc ea_nil))) o fun _ e => e
/-- an integer, neither True nor False -/
def plainInt : PyData → Bool | .int _ => true | _ => false
abbrev spIsI (K : PySem.W.Frag) : Sp := spI K (ι := PyData) (fun d => [.dat d]) (fun _ => True) (fun d x => x = .bool (plainInt d))
theorem cl__law_is_integer (ha : Ev K ta ds d) : Ev K (tCall (spIsI K) [] E (tCons ta tNil)) ds (.bool (plainInt d)) := ev_call d (ea_cons ha ea_nil) trivial fun _ e => e
/-- so many integers -/
def intsB (d : PyData) (n : Int) : Bool := match d with
  | .tuple l => decide ((l.length : Int) = n) && l.all plainInt
  | _ => false
abbrev spInts (K : PySem.W.Frag) : Sp := spI K (ι := PyData × Int) (fun i => [.dat i.1, .dat (.int i.2)]) (fun i => i.2 ≤ 1000) (fun i x => x = .bool (intsB i.1 i.2))
theorem cl_ints {n : Int} (hn : n ≤ 1000) (ha : Ev K ta ds d) (hb : Ev K tb ds (.int n)) : Ev K (tCall (spInts K) [] E (tCons ta (tCons tb tNil))) ds (.bool (intsB d n)) := ev_call (d, n) (ea_cons ha (ea_cons hb ea_nil)) hn fun _ e => e
end
theorem tup_or (d : PyData) : (∃ l, d = .tuple l) ∨ isTup d = false := by
  cases d with
  | tuple l => exact .inl ⟨l, rfl⟩
  | _ => exact .inr rfl
theorem intsB_no {d : PyData} {n : Int} (h : isTup d = false) : intsB d n = false := by
  cases d with
  | tuple l => cases h
  | _ => rfl
theorem dlt (a b : Nat) : decide ((a : Int) < (b : Int)) = decide (a < b) := by
  by_cases h : a < b
  · rw [decide_eq_true h, decide_eq_true (by omega)]
  · rw [decide_eq_false h, decide_eq_false (by omega)]
section
variable {P : Program} {w : World} {K : PySem.W.Frag} {mg : Str → Option Value} {base : Heap}
theorem ok_are_marks (B : Blt mg) (D : DefAt K mg "are_marks" "are_marks" s_are_marks p_are_marks) (D_is_whole_papers : DefAt K mg "is_whole_papers" "is_whole" s_is_whole_papers p_is_whole_papers) (G_is_whole_papers : FnOk P w K mg base CX0 1 D_is_whole_papers.f D_is_whole_papers.fd p_is_whole_papers (spWhole K)) :
    FnOk P w K mg base CX0 2 D.f D.fd p_are_marks (spMarks K) := by
  refine D.F.ok sc_are_marks (fun vs H Q E h => spI_len h (fun _ => rfl)) (fun cdv A outer s H vs Q E hr h => ⟨_, (pss_one (ps_ret (pe_and (pe_callB (kIsi K rfl) (by rfl) B.isinstance bt_isinstance (pa_cons (pv 1) (pa_cons (pe_bltn (v := .ty "tuple") (by rfl) B.tuple bt_tuple rfl) pa_nil))) (pe_one (pe_callB (kAll K rfl rfl) (by rfl) B.all bt_all (pa_cons (pe_lc (own := [("mark", 2)]) rfl sc_are_marks.nd (kPiT K rfl (pv 1)) (blkOk_by (N := N_are_marks) (sc := defScope s_are_marks) (by decide +kernel)) (fun _ _ _ _ _ => (pg_name (i := 2) sc_are_marks.nd rfl (.inl rfl))) (fun _ _ _ _ _ => pts_nil) (fun _ _ _ _ _ => (pe_call G_is_whole_papers (hr.mono (by walk_at "lvl")) (by rfl) D_is_whole_papers.m D_is_whole_papers.F.kp D_is_whole_papers.b .nil pass0 (pa_cons (pv 2) (pa_cons pe_int (pa_cons (pe_op op_sub (pe_callB (kLen K rfl) (by rfl) B.len bt_len (pa_cons (pv 0) pa_nil)) pe_int) pa_nil)))))) pa_nil)))))), run_fn0 h ?_⟩)
  intro b o
  have hl : (b.pp.map iD).length = b.pp.length := List.length_map _
  have hs : (b.ss.map iD).length = b.ss.length := List.length_map _
  refine run_ret (Ev.is (ev_andB (b := true) (ev_isTup (ev_var rfl)) fun _ => Ev.is (ev_cb (ea_cons (ev_mapX (F := fun _ => .bool true) (ei_tup (ev_var rfl)) ?_ fun i d hd => ⟨_, eg_name, ?_⟩) ea_nil) (cd_allF (f := fun _ => true))) (by simp)) rfl)
  · rw [hs]; have := o.s12; omega
  · have hi : i < b.n := by have := (List.getElem?_eq_some_iff.mp hd).1; rwa [hs] at this
    have e : d = iD (b.ss.getD i 0) := Option.some.inj (hd.symm.trans (getD_map _ _ i 0 hi))
    subst e
    refine Ev.is (cl_is_whole (ev_var rfl) ev_int (ev_op (ev_cb (ea_cons (ev_var rfl) ea_nil) cd_lenT) ev_int rd_sub)) ?_
    have := o.mark hi
    rw [hl]
    have e1 : decide ((0 : Int) ≤ (b.ss.getD i 0 : Nat)) = true := decide_eq_true (by omega)
    have e2 : decide (((b.ss.getD i 0 : Nat) : Int) ≤ (b.pp.length : Int) - 1) = true := decide_eq_true (by omega)
    show PyData.bool (decide ((0 : Int) ≤ (b.ss.getD i 0 : Nat)) && decide (((b.ss.getD i 0 : Nat) : Int) ≤ (b.pp.length : Int) - 1)) = _
    rw [e1, e2]
    rfl
theorem ok_is_sequence (B : Blt mg) (C : Cst mg) (D : DefAt K mg "is_sequence" "is_sequence" s_is_sequence p_is_sequence) (D_are_marks : DefAt K mg "are_marks" "are_marks" s_are_marks p_are_marks) (G_are_marks : FnOk P w K mg base CX0 2 D_are_marks.f D_are_marks.fd p_are_marks (spMarks K)) :
    FnOk P w K mg base CX0 3 D.f D.fd p_is_sequence (spMarks K) := by
  refine D.F.ok sc_is_sequence (fun vs H Q E h => spI_len h (fun _ => rfl)) (fun cdv A outer s H vs Q E hr h => ⟨_, (pss_one (ps_ret (pe_and (pe_call G_are_marks (hr.mono (by walk_at "lvl")) (by rfl) D_are_marks.m D_are_marks.F.kp D_are_marks.b .nil pass0 (pa_cons (pv 0) (pa_cons (pv 1) pa_nil))) (pe_one (pe_cmpR op_le (pe_callB (kLen K rfl) (by rfl) B.len bt_len (pa_cons (pv 1) pa_nil)) (pe_glob (v := .int 16) (by rfl) C.MOST_LEAVES_papers.choose_spec ⟨_, rfl⟩) (nomark _)))))), run_fn0 h ?_⟩)
  intro b o
  have hs : (b.ss.map iD).length = b.ss.length := List.length_map _
  refine run_ret (Ev.is (ev_andB (b := true) (cl_are_marks o (ev_var rfl) (ev_var rfl)) fun _ => Ev.is (ev_op (ev_cb (ea_cons (ev_var rfl) ea_nil) cd_lenT) ev_int rd_le) ?_) rfl)
  rw [hs]
  have := o.s12
  rw [decide_eq_true (by omega)]
theorem ok_check_short (B : Blt mg) (C : Cst mg) (D : DefAt K mg "check_short" "check_short" s_check_short p_check_short) (D_is_paper : DefAt K mg "is_paper" "is_paper" s_is_paper p_is_paper) (G_is_paper : FnOk P w K mg base CX0 2 D_is_paper.f D_is_paper.fd p_is_paper (spPaper K))
    (D_is_sequence : DefAt K mg "is_sequence" "is_sequence" s_is_sequence p_is_sequence) (G_is_sequence : FnOk P w K mg base CX0 3 D_is_sequence.f D_is_sequence.fd p_is_sequence (spMarks K)) :
    FnOk P w K mg base CX0 4 D.f D.fd p_check_short (spShort K) := by
  refine D.F.ok sc_check_short (fun vs H Q E h => spI_len h (fun _ => rfl)) (fun cdv A outer s H vs Q E hr h => ⟨_, (pss_cons (ps_if (pt_not (pt_val (pe_call G_is_paper (hr.mono (by walk_at "lvl")) (by rfl) D_is_paper.m D_is_paper.F.kp D_is_paper.b .nil pass0 (pa_cons (pv 0) pa_nil)))) (pss_one ps_never) pss_nil)
      (pss_one (ps_if (PW.pt (pw_or (pt_not (pt_val (pe_call G_is_sequence (hr.mono (by walk_at "lvl")) (by rfl) D_is_sequence.m D_is_sequence.F.kp D_is_sequence.b .nil pass0 (pa_cons (pv 0) (pa_cons (pv 1) pa_nil))))) (pw_or1 (pt_cmpR op_gt (pe_callB (kLen K rfl) (by rfl) B.len bt_len (pa_cons (pv 1) pa_nil)) (pe_glob (v := .int 12) (by rfl) C.MOST_LEAVES_missing.choose_spec ⟨_, rfl⟩) (nomark _))))) (pss_one ps_never) pss_nil))), run_fn0 h ?_⟩)
  intro b o
  have hs : (b.ss.map iD).length = b.ss.length := List.length_map _
  refine run_guard (b := false) (EvB.is (et_not (et_B (cl_is_paper o (ev_var rfl)))) rfl) (fun h => by cases h) fun _ => ?_
  refine run_if (b := false) (et_or_f (EvB.is (et_not (et_B (cl_are_marks o (ev_var rfl) (ev_var rfl)))) rfl) (EvB.is (et_test (ev_op (ev_cb (ea_cons (ev_var rfl) ea_nil) cd_lenT) ev_int rd_gt)) ?_)) (fun h => by cases h) fun _ => run_next rfl
  rw [hs]
  have := o.s12
  rw [decide_eq_false (by omega)]
theorem pr1 {p : Pr} : atI [PyData.int (p.1 : Int), PyData.int (p.2 : Int)] 0 = some (iD p.1) := rfl
theorem pr2 {p : Pr} : atI [PyData.int (p.1 : Int), PyData.int (p.2 : Int)] 1 = some (iD p.2) := rfl
theorem ok_is_inside (B : Blt mg) (D : DefAt K mg "is_inside" "is_inside" s_is_inside p_is_inside) : FnOk P w K mg base CX0 1 D.f D.fd p_is_inside (spIns K) := by
  refine D.F.ok sc_is_inside (fun vs H Q E h => spI_len h (fun _ => rfl)) (fun cdv A outer s H vs Q E hr h => ⟨_, (pss_one (ps_ret (pe_and (pe_cmpR op_lt (pe_ix (kIxT K rfl) (pv 1) pe_int (fun _ _ => rfl)) (pe_ix (kIxT K rfl) (pv 0) pe_int (fun _ _ => rfl)) (nomark _)) (pe_one (pe_cmpR op_lt (pe_ix (kIxT K rfl) (pv 0) pe_int (fun _ _ => rfl)) (pe_ix (kIxT K rfl) (pv 1) pe_int (fun _ _ => rfl)) (nomark _)))))), run_fn0 h ?_⟩)
  rintro ⟨p, q⟩ _
  refine run_ret (Ev.is (ev_andB (ev_op (ev_op (ev_var rfl) ev_int (rd_ixT pr1)) (ev_op (ev_var rfl) ev_int (rd_ixT pr1)) rd_lt) fun _ => ev_op (ev_op (ev_var rfl) ev_int (rd_ixT pr2)) (ev_op (ev_var rfl) ev_int (rd_ixT pr2)) rd_lt) ?_)
  rw [dlt, dlt]
  rfl
theorem ok__law_inside (B : Blt mg) (D : DefAt K mg "_law_inside" "_law_inside" s__law_inside p__law_inside) : FnOk P w K mg base CX0 1 D.f D.fd p__law_inside (spIns K) := by
  refine D.F.ok sc__law_inside (fun vs H Q E h => spI_len h (fun _ => rfl)) (fun cdv A outer s H vs Q E hr h => ⟨_, (pss_one (ps_ret (pe_and (pe_cmpR op_lt (pe_ix (kIxT K rfl) (pv 1) pe_int (fun _ _ => rfl)) (pe_ix (kIxT K rfl) (pv 0) pe_int (fun _ _ => rfl)) (nomark _)) (pe_one (pe_cmpR op_lt (pe_ix (kIxT K rfl) (pv 0) pe_int (fun _ _ => rfl)) (pe_ix (kIxT K rfl) (pv 1) pe_int (fun _ _ => rfl)) (nomark _)))))), run_fn0 h ?_⟩)
  rintro ⟨p, q⟩ _
  refine run_ret (Ev.is (ev_andB (ev_op (ev_op (ev_var rfl) ev_int (rd_ixT pr1)) (ev_op (ev_var rfl) ev_int (rd_ixT pr1)) rd_lt) fun _ => ev_op (ev_op (ev_var rfl) ev_int (rd_ixT pr2)) (ev_op (ev_var rfl) ev_int (rd_ixT pr2)) rd_lt) ?_)
  rw [dlt, dlt]
  rfl
theorem ok_are_apart (B : Blt mg) (D : DefAt K mg "are_apart" "are_apart" s_are_apart p_are_apart) : FnOk P w K mg base CX0 1 D.f D.fd p_are_apart (spApt K) := by
  refine D.F.ok sc_are_apart (fun vs H Q E h => spI_len h (fun _ => rfl)) (fun cdv A outer s H vs Q E hr h => ⟨_, (pss_one (ps_ret (pe_or (pe_cmpR op_lt (pe_ix (kIxT K rfl) (pv 0) pe_int (fun _ _ => rfl)) (pe_ix (kIxT K rfl) (pv 1) pe_int (fun _ _ => rfl)) (nomark _)) (pe_one (pe_cmpR op_lt (pe_ix (kIxT K rfl) (pv 1) pe_int (fun _ _ => rfl)) (pe_ix (kIxT K rfl) (pv 0) pe_int (fun _ _ => rfl)) (nomark _)))))), run_fn0 h ?_⟩)
  rintro ⟨p, q⟩ _
  refine run_ret (Ev.is (ev_orB (ev_op (ev_op (ev_var rfl) ev_int (rd_ixT pr2)) (ev_op (ev_var rfl) ev_int (rd_ixT pr1)) rd_lt) fun _ => ev_op (ev_op (ev_var rfl) ev_int (rd_ixT pr2)) (ev_op (ev_var rfl) ev_int (rd_ixT pr1)) rd_lt) ?_)
  rw [dlt, dlt]
  rfl
theorem ok__law_apart (B : Blt mg) (D : DefAt K mg "_law_apart" "_law_apart" s__law_apart p__law_apart) : FnOk P w K mg base CX0 1 D.f D.fd p__law_apart (spApt K) := by
  refine D.F.ok sc__law_apart (fun vs H Q E h => spI_len h (fun _ => rfl)) (fun cdv A outer s H vs Q E hr h => ⟨_, (pss_one (ps_ret (pe_or (pe_cmpR op_lt (pe_ix (kIxT K rfl) (pv 0) pe_int (fun _ _ => rfl)) (pe_ix (kIxT K rfl) (pv 1) pe_int (fun _ _ => rfl)) (nomark _)) (pe_one (pe_cmpR op_lt (pe_ix (kIxT K rfl) (pv 1) pe_int (fun _ _ => rfl)) (pe_ix (kIxT K rfl) (pv 0) pe_int (fun _ _ => rfl)) (nomark _)))))), run_fn0 h ?_⟩)
  rintro ⟨p, q⟩ _
  refine run_ret (Ev.is (ev_orB (ev_op (ev_op (ev_var rfl) ev_int (rd_ixT pr2)) (ev_op (ev_var rfl) ev_int (rd_ixT pr1)) rd_lt) fun _ => ev_op (ev_op (ev_var rfl) ev_int (rd_ixT pr2)) (ev_op (ev_var rfl) ev_int (rd_ixT pr1)) rd_lt) ?_)
  rw [dlt, dlt]
  rfl
theorem ok__law_is_integer (B : Blt mg) (D : DefAt K mg "_law_is_integer" "_law_is_integer" s__law_is_integer p__law_is_integer) : FnOk P w K mg base CX0 1 D.f D.fd p__law_is_integer (spIsI K) := by
  refine D.F.ok sc__law_is_integer (fun vs H Q E h => spI_len h (fun _ => rfl)) (fun cdv A outer s H vs Q E hr h => ⟨_, (pss_one (ps_ret (pe_and (pe_callB (kIsi K rfl) (by rfl) B.isinstance bt_isinstance (pa_cons (pv 0) (pa_cons (pe_bltn (v := .ty "int") (by rfl) B.int bt_int rfl) pa_nil))) (pe_one (pe_not (pe_callB (kIsi K rfl) (by rfl) B.isinstance bt_isinstance (pa_cons (pv 0) (pa_cons (pe_bltn (v := .ty "bool") (by rfl) B.bool bt_bool rfl) pa_nil)))))))), run_fn0 h ?_⟩)
  intro d _
  refine run_ret (Ev.is (ev_andB (ev_isInt (ev_var rfl)) fun _ => ev_not (ev_isBool (ev_var rfl))) ?_)
  cases d <;> rfl
theorem ints_body {l : List PyData} : l.all (fun d => isInt d && !isBool d) = l.all plainInt := by
  congr 1
  funext d
  cases d <;> rfl
theorem ok_are_integers (B : Blt mg) (D : DefAt K mg "are_integers" "are_integers" s_are_integers p_are_integers) : FnOk P w K mg base CX0 1 D.f D.fd p_are_integers (spInts K) := by
  refine D.F.ok sc_are_integers (fun vs H Q E h => spI_len h (fun _ => rfl)) (fun cdv A outer s H vs Q E hr h => ⟨_, (pss_cons (ps_if (PW.pt (pw_or (pt_not (pt_val (pe_callB (kIsi K rfl) (by rfl) B.isinstance bt_isinstance (pa_cons (pv 0) (pa_cons (pe_bltn (v := .ty "tuple") (by rfl) B.tuple bt_tuple rfl) pa_nil))))) (pw_or1 (pt_cmpR op_ne (pe_callB (kLen K rfl) (by rfl) B.len bt_len (pa_cons (pv 0) pa_nil)) (pv 1) (nomark _))))) (pss_one (ps_ret pe_bl)) pss_nil)
      (pss_one (ps_ret (pe_callB (kAll K rfl rfl) (by rfl) B.all bt_all (pa_cons (pe_lc (own := [("one", 2)]) rfl sc_are_integers.nd (kPiT K rfl (pv 0)) (blkOk_by (N := N_are_integers) (sc := defScope s_are_integers) (by decide +kernel)) (fun _ _ _ _ _ => (pg_name (i := 2) sc_are_integers.nd rfl (.inl rfl))) (fun _ _ _ _ _ => pts_nil) (fun _ _ _ _ _ => (pe_and (pe_callB (kIsi K rfl) (by rfl) B.isinstance bt_isinstance (pa_cons (pv 2) (pa_cons (pe_bltn (v := .ty "int") (by rfl) B.int bt_int rfl) pa_nil))) (pe_one (pe_not (pe_callB (kIsi K rfl) (by rfl) B.isinstance bt_isinstance (pa_cons (pv 2) (pa_cons (pe_bltn (v := .ty "bool") (by rfl) B.bool bt_bool rfl) pa_nil)))))))) pa_nil))))), run_fn0 h ?_⟩)
  rintro ⟨d, n⟩ hn
  have hn : n ≤ 1000 := hn
  rcases tup_or d with ⟨l, rfl⟩ | hd
  · by_cases hl : (l.length : Int) = n
    · refine run_guard (b := false) (et_or_f (EvB.is (et_not (et_B (ev_isTup (ev_var rfl)))) rfl) (EvB.is (et_test (ev_op (ev_cb (ea_cons (ev_var rfl) ea_nil) cd_lenT) (ev_var rfl) rd_neI)) (by rw [decide_eq_true hl]; rfl))) (fun h => by cases h) fun _ => ?_
      refine run_ret (Ev.is (ev_cb (ea_cons (ev_mapX (F := fun d => .bool (isInt d && !isBool d)) (ei_tup (ev_var rfl)) (by omega) fun i d hd => ⟨_, eg_name, (ev_andB (ev_isInt (ev_var rfl)) (fun _ => (ev_not (ev_isBool (ev_var rfl)))))⟩) ea_nil) cd_allF) ?_)
      show _ = PyData.bool (decide ((l.length : Int) = n) && l.all plainInt)
      rw [ints_body, decide_eq_true hl]
      rfl
    · refine run_guard (b := true) (et_or_f (EvB.is (et_not (et_B (ev_isTup (ev_var rfl)))) rfl) (EvB.is (et_test (ev_op (ev_cb (ea_cons (ev_var rfl) ea_nil) cd_lenT) (ev_var rfl) rd_neI)) (by rw [decide_eq_false hl]; rfl))) (fun _ => run_ret (Ev.is ev_bl ?_)) (fun h => by cases h)
      show _ = PyData.bool (decide ((l.length : Int) = n) && l.all plainInt)
      rw [decide_eq_false hl]
      rfl
  · refine run_guard (b := true) (et_or_t (EvB.is (et_not (et_B (ev_isTup (ev_var rfl)))) (by rw [hd]; rfl))) (fun _ => run_ret (Ev.is ev_bl ?_)) (fun h => by cases h)
    show _ = PyData.bool (intsB d n)
    rw [intsB_no hd]
theorem ok__law_are_numbers (B : Blt mg) (D : DefAt K mg "_law_are_numbers" "_law_are_numbers" s__law_are_numbers p__law_are_numbers) (D__law_is_integer : DefAt K mg "_law_is_integer" "_law_is_integer" s__law_is_integer p__law_is_integer) (G__law_is_integer : FnOk P w K mg base CX0 1 D__law_is_integer.f D__law_is_integer.fd p__law_is_integer (spIsI K)) :
    FnOk P w K mg base CX0 2 D.f D.fd p__law_are_numbers (spInts K) := by
  refine D.F.ok sc__law_are_numbers (fun vs H Q E h => spI_len h (fun _ => rfl)) (fun cdv A outer s H vs Q E hr h => ⟨_, (pss_one (ps_ret (pe_and (pe_callB (kIsi K rfl) (by rfl) B.isinstance bt_isinstance (pa_cons (pv 0) (pa_cons (pe_bltn (v := .ty "tuple") (by rfl) B.tuple bt_tuple rfl) pa_nil))) (pe_and (pe_cmpR op_eq (pe_callB (kLen K rfl) (by rfl) B.len bt_len (pa_cons (pv 0) pa_nil)) (pv 1) (nomark _)) (pe_one (pe_callB (kAll K rfl rfl) (by rfl) B.all bt_all (pa_cons (pe_lc (own := [("_law_one", 2)]) rfl sc__law_are_numbers.nd (kPiT K rfl (pv 0)) (blkOk_by (N := N__law_are_numbers) (sc := defScope s__law_are_numbers) (by decide +kernel)) (fun _ _ _ _ _ => (pg_name (i := 2) sc__law_are_numbers.nd rfl (.inl rfl))) (fun _ _ _ _ _ => pts_nil) (fun _ _ _ _ _ => (pe_call G__law_is_integer (hr.mono (by walk_at "lvl")) (by rfl) D__law_is_integer.m D__law_is_integer.F.kp D__law_is_integer.b .nil pass0 (pa_cons (pv 2) pa_nil)))) pa_nil))))))), run_fn0 h ?_⟩)
  rintro ⟨d, n⟩ hn
  have hn : n ≤ 1000 := hn
  rcases tup_or d with ⟨l, rfl⟩ | hd
  · by_cases hl : (l.length : Int) = n
    · refine run_ret (Ev.is (ev_andB (b := l.all plainInt) (ev_isTup (ev_var rfl)) fun _ => ev_and_t (Ev.is (ev_op (ev_cb (ea_cons (ev_var rfl) ea_nil) cd_lenT) (ev_var rfl) rd_eqI) (by rw [decide_eq_true hl])) (ev_cb (ea_cons (ev_mapX (F := fun d => .bool (plainInt d)) (ei_tup (ev_var rfl)) (by omega) fun i d hd => ⟨_, eg_name, cl__law_is_integer (ev_var rfl)⟩) ea_nil) cd_allF)) ?_)
      show _ = PyData.bool (decide ((l.length : Int) = n) && l.all plainInt)
      rw [decide_eq_true hl]
      rfl
    · refine run_ret (Ev.is (ev_andB (b := false) (ev_isTup (ev_var rfl)) fun _ => ev_and_f (Ev.is (ev_op (ev_cb (ea_cons (ev_var rfl) ea_nil) cd_lenT) (ev_var rfl) rd_eqI) (by rw [decide_eq_false hl]))) ?_)
      show _ = PyData.bool (decide ((l.length : Int) = n) && l.all plainInt)
      rw [decide_eq_false hl]
      rfl
  · refine run_ret (Ev.is (ev_and_f (Ev.is (ev_isTup (ev_var rfl)) (by rw [hd]))) ?_)
    show _ = PyData.bool (intsB d n)
    rw [intsB_no hd]
/-! ### is_pair -/
theorem prD_no {b : Bk} {d : PyData} (h : isTup d = false) : prD b d = none := by
  cases d with
  | tuple l => cases h
  | _ => rfl
theorem ok_is_pair (B : Blt mg) (D : DefAt K mg "is_pair" "is_pair" s_is_pair p_is_pair) (D_is_whole_missing : DefAt K mg "is_whole_missing" "is_whole" s_is_whole_missing p_is_whole_missing) (G_is_whole_missing : FnOk P w K mg base CX0 1 D_is_whole_missing.f D_is_whole_missing.fd p_is_whole_missing (spWhole K)) :
    FnOk P w K mg base CX0 2 D.f D.fd p_is_pair (spPair K) := by
  refine D.F.ok sc_is_pair (fun vs H Q E h => spI_len h (fun _ => rfl)) (fun cdv A outer s H vs Q E hr h => ⟨_, (pss_cons (ps_if (PW.pt (pw_or (pt_not (pt_val (pe_callB (kIsi K rfl) (by rfl) B.isinstance bt_isinstance (pa_cons (pv 2) (pa_cons (pe_bltn (v := .ty "tuple") (by rfl) B.tuple bt_tuple rfl) pa_nil))))) (pw_or (pt_cmpR op_ne (pe_callB (kLen K rfl) (by rfl) B.len bt_len (pa_cons (pv 2) pa_nil)) pe_int (nomark _)) (pw_or1 (pt_not (pt_val (pe_call G_is_whole_missing (hr.mono (by walk_at "lvl")) (by rfl) D_is_whole_missing.m D_is_whole_missing.F.kp D_is_whole_missing.b .nil pass0 (pa_cons (pe_ix (kIxT K rfl) (pv 2) pe_int (fun _ _ => rfl)) (pa_cons pe_int (pa_cons (pe_op op_sub (pe_callB (kLen K rfl) (by rfl) B.len bt_len (pa_cons (pv 1) pa_nil)) pe_int) pa_nil)))))))))) (pss_one (ps_ret pe_bl)) pss_nil)
      (pss_one (ps_ret (pe_and (pe_call G_is_whole_missing (hr.mono (by walk_at "lvl")) (by rfl) D_is_whole_missing.m D_is_whole_missing.F.kp D_is_whole_missing.b .nil pass0 (pa_cons (pe_ix (kIxT K rfl) (pv 2) pe_int (fun _ _ => rfl)) (pa_cons (pe_op op_add (pe_ix (kIxT K rfl) (pv 2) pe_int (fun _ _ => rfl)) pe_int) (pa_cons (pe_op op_sub (pe_callB (kLen K rfl) (by rfl) B.len bt_len (pa_cons (pv 1) pa_nil)) pe_int) pa_nil)))) (pe_one (pe_cmpR op_eq (pe_ix (kIxT K rfl) (pv 0) (pe_ix (kIxT K rfl) (pv 1) (pe_ix (kIxT K rfl) (pv 2) pe_int (fun _ _ => rfl)) (fun _ _ => rfl)) (fun _ _ => rfl)) (pe_ix (kIxT K rfl) (pv 1) (pe_ix (kIxT K rfl) (pv 2) pe_int (fun _ _ => rfl)) (fun _ _ => rfl)) (nomark _))))))), run_fn0 h ?_⟩)
  rintro ⟨b, d⟩ o
  have o : b.Ok := o
  have hs : (b.ss.map iD).length = b.n := List.length_map _
  rcases tup_or d with ⟨l, rfl⟩ | hd
  · by_cases hl : (l.length : Int) = 2
    · obtain ⟨x, y, rfl⟩ : ∃ x y, l = [x, y] := by
        match l, hl with
        | [x, y], _ => exact ⟨x, y, rfl⟩
        | [], h => cases h
        | [_], h => exact absurd h (by simp)
        | _ :: _ :: _ :: _, h => exact absurd h (by simp; omega)
      cases hw : isWhole x 0 ((b.n : Int) - 1) with
      | false =>
        refine run_guard (b := true) (EvB.is (et_or (et_not (et_B (ev_isTup (ev_var rfl)))) (fun _ => (et_or (et_test (ev_op (ev_cb (ea_cons (ev_var rfl) ea_nil) cd_lenT) ev_int rd_neI)) (fun _ => (et_not (et_B (cl_is_whole_missing (ev_op (ev_var rfl) ev_int (rd_ixT (by walk_at "at"))) ev_int (ev_op (ev_cb (ea_cons (ev_var rfl) ea_nil) cd_lenT) ev_int rd_sub)))))))) (by rw [hs, hw]; rfl)) (fun _ => run_ret (Ev.is ev_bl ?_)) (fun h => by cases h)
        have : prD b (.tuple [x, y]) = none := by
          cases x with
          | int i =>
            cases y with
            | int j =>
              show (if _ then _ else _) = _
              rw [if_neg]
              rintro ⟨h1, h2, h3, _⟩
              have : (decide (0 ≤ i) && decide (i ≤ (b.n : Int) - 1)) = true := by
                rw [decide_eq_true h1, decide_eq_true (by omega)]
                rfl
              rw [show isWhole (.int i) 0 ((b.n : Int) - 1) = (decide (0 ≤ i) && decide (i ≤ (b.n : Int) - 1)) from rfl, this] at hw
              cases hw
            | _ => rfl
          | _ => rfl
        show _ = PyData.bool (prD b (.tuple [x, y])).isSome
        rw [this]
        rfl
      | true =>
        refine run_guard (b := false) (EvB.is (et_or (et_not (et_B (ev_isTup (ev_var rfl)))) (fun _ => (et_or (et_test (ev_op (ev_cb (ea_cons (ev_var rfl) ea_nil) cd_lenT) ev_int rd_neI)) (fun _ => (et_not (et_B (cl_is_whole_missing (ev_op (ev_var rfl) ev_int (rd_ixT (by walk_at "at"))) ev_int (ev_op (ev_cb (ea_cons (ev_var rfl) ea_nil) cd_lenT) ev_int rd_sub)))))))) (by rw [hs, hw]; rfl)) (fun h => by cases h) fun _ => ?_
        obtain ⟨i, rfl, h0, h1⟩ : ∃ i, x = .int i ∧ 0 ≤ i ∧ i ≤ (b.n : Int) - 1 := by
          cases x with
          | int i =>
            have hw : (decide (0 ≤ i) && decide (i ≤ (b.n : Int) - 1)) = true := hw
            rw [Bool.and_eq_true, decide_eq_true_iff, decide_eq_true_iff] at hw
            exact ⟨i, rfl, hw.1, hw.2⟩
          | _ => cases hw
        have ei : i = ((i.toNat : Nat) : Int) := by omega
        have hi : i.toNat < b.n := by omega
        cases hw2 : isWhole y (i + 1) ((b.n : Int) - 1) with
        | false =>
          refine run_ret (Ev.is (ev_and_f (Ev.is (cl_is_whole_missing (ev_op (ev_var rfl) ev_int (rd_ixT (by walk_at "at"))) (ev_op (ev_op (ev_var rfl) ev_int (rd_ixT (by walk_at "at"))) ev_int rd_add) (ev_op (ev_cb (ea_cons (ev_var rfl) ea_nil) cd_lenT) ev_int rd_sub)) (by rw [hs, hw2]))) ?_)
          have : prD b (.tuple [.int i, y]) = none := by
            cases y with
            | int j =>
              show (if _ then _ else _) = _
              rw [if_neg]
              rintro ⟨_, h2, h3, _⟩
              have : (decide (i + 1 ≤ j) && decide (j ≤ (b.n : Int) - 1)) = true := by
                rw [decide_eq_true (by omega), decide_eq_true (by omega)]
                rfl
              rw [show isWhole (.int j) (i + 1) ((b.n : Int) - 1) = (decide (i + 1 ≤ j) && decide (j ≤ (b.n : Int) - 1)) from rfl, this] at hw2
              cases hw2
            | _ => rfl
          show _ = PyData.bool (prD b (.tuple [.int i, y])).isSome
          rw [this]
          rfl
        | true =>
          obtain ⟨j, rfl, h2, h3⟩ : ∃ j, y = .int j ∧ i + 1 ≤ j ∧ j ≤ (b.n : Int) - 1 := by
            cases y with
            | int j =>
              have hw2 : (decide (i + 1 ≤ j) && decide (j ≤ (b.n : Int) - 1)) = true := hw2
              rw [Bool.and_eq_true, decide_eq_true_iff, decide_eq_true_iff] at hw2
              exact ⟨j, rfl, hw2.1, hw2.2⟩
            | _ => cases hw2
          have ej : j = ((j.toNat : Nat) : Int) := by omega
          have hj : j.toNat < b.n := by omega
          have at1 : atI (b.ss.map iD) i = some (iD (b.ss.getD i.toNat 0)) := by rw [ei]; exact atN hi
          have at2 : atI (b.ss.map iD) j = some (iD (b.ss.getD j.toNat 0)) := by rw [ej]; exact atN hj
          have at3 : atI (b.pp.map iD) ((b.ss.getD i.toNat 0 : Nat) : Int) = some (iD (b.pp.getD (b.ss.getD i.toNat 0) 0)) := atN (o.mark hi)
          refine run_ret (Ev.is (ev_and_t (Ev.is (cl_is_whole_missing (ev_op (ev_var rfl) ev_int (rd_ixT (by walk_at "at"))) (ev_op (ev_op (ev_var rfl) ev_int (rd_ixT (by walk_at "at"))) ev_int rd_add) (ev_op (ev_cb (ea_cons (ev_var rfl) ea_nil) cd_lenT) ev_int rd_sub)) (by rw [hs, hw2])) (ev_op (ev_op (ev_var rfl) (ev_op (ev_var rfl) (ev_op (ev_var rfl) ev_int (rd_ixT rfl)) (rd_ixT at1)) (rd_ixT at3)) (ev_op (ev_var rfl) (ev_op (ev_var rfl) ev_int (rd_ixT rfl)) (rd_ixT at2)) rd_eqI)) ?_)
          show _ = PyData.bool (if 0 ≤ i ∧ i < j ∧ j < b.n ∧ b.cp i.toNat j.toNat = true then some (i.toNat, j.toNat) else none).isSome
          congr 1
          by_cases hc : b.cp i.toNat j.toNat = true
          · rw [if_pos ⟨h0, by omega, by omega, hc⟩]
            have : b.pp.getD (b.ss.getD i.toNat 0) 0 = b.ss.getD j.toNat 0 := eq_of_beq hc
            rw [this]
            exact decide_eq_true rfl
          · rw [if_neg (fun q => hc q.2.2.2)]
            refine decide_eq_false fun q => hc ?_
            have : b.pp.getD (b.ss.getD i.toNat 0) 0 = b.ss.getD j.toNat 0 := by omega
            exact beq_iff_eq.mpr this
    · refine run_guard (b := true) (et_or_f (EvB.is (et_not (et_B (ev_isTup (ev_var rfl)))) rfl) (et_or_t (EvB.is (et_test (ev_op (ev_cb (ea_cons (ev_var rfl) ea_nil) cd_lenT) ev_int rd_neI)) (by rw [decide_eq_false hl]; rfl)))) (fun _ => run_ret (Ev.is ev_bl ?_)) (fun h => by cases h)
      have : prD b (.tuple l) = none := by
        match l, hl with
        | [x, y], h => exact absurd rfl h
        | [], _ => rfl
        | [x], _ => cases x <;> rfl
        | x :: y :: z :: r, _ => cases x <;> cases y <;> rfl
      show _ = PyData.bool (prD b (.tuple l)).isSome
      rw [this]
      rfl
  · refine run_guard (b := true) (et_or_t (EvB.is (et_not (et_B (ev_isTup (ev_var rfl)))) (by rw [hd]; rfl))) (fun _ => run_ret (Ev.is ev_bl ?_)) (fun h => by cases h)
    show _ = PyData.bool (prD b d).isSome
    rw [prD_no hd]
    rfl
end
end K47
/-! K47: the judges of pairs. -/
namespace K47
open PySem PySem.Spec PyProof.Rows L2
local macro_rules | `(tactic| walk_at "lvl") => `(tactic| first | decide | omega)
local macro_rules | `(tactic| walk_at "at") => `(tactic| first | rfl | assumption | exact atN (by assumption))
abbrev spValid (K : PySem.W.Frag) : Sp := spI K (ι := Bk × PyData) (fun i => [.dat i.1.P, .dat i.1.S, .dat i.2]) (fun i => i.1.Ok ∧ ∀ l, i.2 = .tuple l → l.length ≤ 1000) (fun i x => x = .bool (validD i.1 i.2))
theorem cl_valid {K : PySem.W.Frag} {ds : Slots} {ta tb tc : TE} {d : PyData} {E : XK} {b : Bk} (o : b.Ok) (hl : ∀ l, d = .tuple l → l.length ≤ 1000) (ha : Ev K ta ds b.P) (hb : Ev K tb ds b.S) (hc : Ev K tc ds d) :
    Ev K (tCall (spValid K) [] E (tCons ta (tCons tb (tCons tc tNil)))) ds (.bool (validD b d)) := ev_call (b, d) (ea_cons ha (ea_cons hb (ea_cons hc ea_nil))) ⟨o, hl⟩ fun _ e => e
theorem ge_lt (p q : Pr) : (if (q.1 : Int) = (p.1 : Int) then decide ((p.2 : Int) ≤ (q.2 : Int)) else decide ((p.1 : Int) ≤ (q.1 : Int))) = !ltPr q p := by
  unfold ltPr
  by_cases h : q.1 = p.1
  · rw [if_pos (by omega)]
    by_cases h2 : q.2 < p.2
    · simp [h, h2] <;> omega
    · simp [h, h2] <;> omega
  · rw [if_neg (by omega)]
    by_cases h2 : q.1 < p.1
    · simp [h, h2] <;> omega
    · simp [h, h2] <;> omega
theorem validD_no {b : Bk} {d : PyData} (h : isTup d = false) : validD b d = false := by
  cases d with
  | tuple l => cases h
  | _ => rfl
theorem enc_at {ps : List Pr} {i : Nat} (h : i < ps.length) : (ps.map encPr)[i]? = some (encPr (ps.getD i (0, 0))) := getD_map encPr ps i (0, 0) h
theorem enc_getD {ps : List Pr} {i : Nat} (h : i < ps.length) : (ps.map encPr).getD i .none = encPr (ps.getD i (0, 0)) := getD_at (enc_at h)
/-- one pair against the ones ahead of it -/
def twoOk (ps : List Pr) (i j : Nat) : Bool := ltPr (ps.getD j (0, 0)) (ps.getD i (0, 0)) && (ins (ps.getD i (0, 0)) (ps.getD j (0, 0)) || apt (ps.getD i (0, 0)) (ps.getD j (0, 0)))
theorem okTwo_all {ps : List Pr} : okTwo ps = true ↔ ∀ i, i < ps.length → ∀ j, j < i → twoOk ps i j = true := by
  unfold okTwo
  simp only [List.all_eq_true, List.mem_range]
  constructor
  · intro h i hi j hj
    refine h i hi _ ?_
    rw [List.getD_eq_getElem?_getD, List.getElem?_eq_getElem (by omega)]
    exact List.mem_take_iff_getElem.mpr ⟨j, by omega, rfl⟩
  · intro h i hi q hq
    obtain ⟨j, hj, e⟩ := List.mem_take_iff_getElem.mp hq
    have := h i hi j (by omega)
    unfold twoOk at this
    rw [show ps.getD j (0, 0) = q by rw [List.getD_eq_getElem?_getD, List.getElem?_eq_getElem (by omega)]; exact e] at this
    exact this
def threeOk (ps : List Pr) (o : Pr) : Bool := (ps.filter fun p => ins p o).all fun p => (ps.filter fun q => ins q o).all fun q => !apt p q
theorem okThree_all {ps : List Pr} : okThree ps = true ↔ ∀ i, i < ps.length → threeOk ps (ps.getD i (0, 0)) = true := by
  unfold okThree
  rw [List.all_eq_true]
  constructor
  · intro h i hi
    refine h _ ?_
    rw [List.getD_eq_getElem?_getD, List.getElem?_eq_getElem hi]
    exact List.getElem_mem hi
  · intro h o ho
    obtain ⟨i, hi, e⟩ := List.getElem_of_mem ho
    have := h i hi
    rw [show ps.getD i (0, 0) = o by rw [List.getD_eq_getElem?_getD, List.getElem?_eq_getElem hi]; exact e] at this
    exact this
theorem three_any (ps : List Pr) (o : Pr) : (((ps.filter fun p => ins p o).flatMap fun p => (ps.filter fun q => ins q o).map fun q => apt p q).any id) = !threeOk ps o := by
  unfold threeOk
  cases h : (((ps.filter fun p => ins p o).flatMap fun p => (ps.filter fun q => ins q o).map fun q => apt p q).any id) with
  | true =>
    symm
    rw [Bool.not_eq_true', ← Bool.not_eq_true]
    intro h2
    rw [List.any_eq_true] at h
    obtain ⟨x, hx, e⟩ := h
    obtain ⟨p, hp, hx⟩ := List.mem_flatMap.mp hx
    obtain ⟨q, hq, rfl⟩ := List.mem_map.mp hx
    rw [List.all_eq_true] at h2
    have := h2 p hp
    rw [List.all_eq_true] at this
    have := this q hq
    have e : apt p q = true := e
    rw [e] at this
    cases this
  | false =>
    symm
    rw [Bool.not_eq_false', List.all_eq_true]
    intro p hp
    rw [List.all_eq_true]
    intro q hq
    rw [List.any_eq_false] at h
    have := h _ (List.mem_flatMap.mpr ⟨p, hp, List.mem_map.mpr ⟨q, hq, rfl⟩⟩)
    simpa using this
def dPr : PyData → Pr
  | .tuple [.int a, .int b] => (a.toNat, b.toNat)
  | _ => (0, 0)
theorem dPr_enc (p : Pr) : dPr (encPr p) = p := by
  obtain ⟨a, b⟩ := p
  show ((a : Int).toNat, (b : Int).toNat) = (a, b)
  rw [Int.toNat_natCast, Int.toNat_natCast]
theorem inner_is (ps : List Pr) (o : Pr) : ((ps.map encPr).filter fun d => ins (dPr d) o).map (fun d => d) = (ps.filter fun p => ins p o).map encPr := by
  rw [List.map_id', List.filter_map]
  rfl
theorem apart_is (l m : List Pr) : ((l.map encPr).flatMap fun a => (m.map encPr).map fun b => PyData.bool (apt (dPr a) (dPr b))) = (l.flatMap fun p => m.map fun q => apt p q).map .bool := by
  rw [List.flatMap_map, List.map_flatMap]
  congr 1
  funext p
  rw [List.map_map, List.map_map]
  rfl
section
variable {P : Program} {w : World} {K : PySem.W.Frag} {mg : Str → Option Value} {base : Heap}
theorem ok_are_valid (B : Blt mg) (D : DefAt K mg "are_valid" "are_valid" s_are_valid p_are_valid) (D_is_pair : DefAt K mg "is_pair" "is_pair" s_is_pair p_is_pair) (G_is_pair : FnOk P w K mg base CX0 2 D_is_pair.f D_is_pair.fd p_is_pair (spPair K))
    (D_is_inside : DefAt K mg "is_inside" "is_inside" s_is_inside p_is_inside) (G_is_inside : FnOk P w K mg base CX0 1 D_is_inside.f D_is_inside.fd p_is_inside (spIns K))
    (D_are_apart : DefAt K mg "are_apart" "are_apart" s_are_apart p_are_apart) (G_are_apart : FnOk P w K mg base CX0 1 D_are_apart.f D_are_apart.fd p_are_apart (spApt K)) : FnOk P w K mg base CX0 3 D.f D.fd p_are_valid (spValid K) := by
  refine D.F.ok sc_are_valid (fun vs H Q E h => spI_len h (fun _ => rfl)) (fun cdv A outer s H vs Q E hr h => ⟨_, (pss_cons (ps_if (PW.pt (pw_or (pt_not (pt_val (pe_callB (kIsi K rfl) (by rfl) B.isinstance bt_isinstance (pa_cons (pv 2) (pa_cons (pe_bltn (v := .ty "tuple") (by rfl) B.tuple bt_tuple rfl) pa_nil))))) (pw_or1 (pt_not (pt_val (pe_callB (kAll K rfl rfl) (by rfl) B.all bt_all (pa_cons (pe_lc (own := [("pair", 3)]) rfl sc_are_valid.nd (kPiT K rfl (pv 2)) (blkOk_by (N := N_are_valid) (sc := defScope s_are_valid) (by decide +kernel)) (fun _ _ _ _ _ => (pg_name (i := 3) sc_are_valid.nd rfl (.inl rfl))) (fun _ _ _ _ _ => pts_nil) (fun _ _ _ _ _ => (pe_call G_is_pair (hr.mono (by walk_at "lvl")) (by rfl) D_is_pair.m D_is_pair.F.kp D_is_pair.b .nil pass0 (pa_cons (pv 0) (pa_cons (pv 1) (pa_cons (pv 3) pa_nil)))))) pa_nil))))))) (pss_one (ps_ret pe_bl)) pss_nil)
      (pss_cons (ps_for PassesOwn.never rfl (kEnumT K rfl (by rfl) B.enumerate (pa_cons (pv 2) pa_nil)) (kPgT (n := 2) K rfl rfl (pgs_cons (pg_name (i := 4) sc_are_valid.nd rfl (.inl rfl)) (pgs_cons (pg_name (i := 3) sc_are_valid.nd rfl (.inl rfl)) pgs_nil)))
      (pss_one (ps_for PassesOwn.never rfl (kPiT K rfl (pe_slice (kSlT K rfl) (pv 2) po_none (po_some (pv 4)))) (pg_name (i := 5) sc_are_valid.nd rfl (.inl rfl))
      (pss_one (ps_if (PW.pt (pw_or (pt_cmpR (kGe2 K rfl hr.units0) (pv 5) (pv 3) (nomark _)) (pw_or1 (pt_not (PW.pt (pw_or (pt_val (pe_call G_is_inside (hr.mono (by walk_at "lvl")) (by rfl) D_is_inside.m D_is_inside.F.kp D_is_inside.b .nil pass0 (pa_cons (pv 3) (pa_cons (pv 5) pa_nil)))) (pw_or1 (pt_val (pe_call G_are_apart (hr.mono (by walk_at "lvl")) (by rfl) D_are_apart.m D_are_apart.F.kp D_are_apart.b .nil pass0 (pa_cons (pv 3) (pa_cons (pv 5) pa_nil))))))))))) (pss_one (ps_ret pe_bl)) pss_nil)))))
      (pss_cons (ps_for PassesOwn.never rfl (kPiT K rfl (pv 2)) (pg_name (i := 6) sc_are_valid.nd rfl (.inr rfl))
      (pss_cons (ps_set (i := 7) sc_are_valid.nd rfl (.inr rfl) (pe_lc (own := [("pair", 3)]) rfl sc_are_valid.nd (kPiT K rfl (pv 2)) (blkOk_by (N := N_are_valid) (sc := defScope s_are_valid) (by decide +kernel)) (fun _ _ _ _ _ => (pg_name (i := 3) sc_are_valid.nd rfl (.inl rfl))) (fun _ _ _ _ _ => (pts_one (pt_val (pe_call G_is_inside (hr.mono (by walk_at "lvl")) (by rfl) D_is_inside.m D_is_inside.F.kp D_is_inside.b .nil pass0 (pa_cons (pv 3) (pa_cons (pv 6) pa_nil)))))) (fun _ _ _ _ _ => (pv 3))))
      (pss_one (ps_if (pt_val (pe_callB (kAny K rfl rfl) (by rfl) B.any bt_any (pa_cons (pe_lc2 (own := [("pair", 3), ("other", 5)]) (vs1 := [5]) rfl sc_are_valid.nd (kPiL K rfl (pv 7)) (blkOk_by (N := N_are_valid) (sc := defScope s_are_valid) (by decide +kernel)) (by decide) (fun _ _ _ _ _ => (pg_name (i := 3) sc_are_valid.nd rfl (.inl rfl))) (fun _ _ _ _ _ => pts_nil) (fun _ _ _ _ _ => (kPiL K rfl (pv 7))) (fun _ _ _ _ _ => (pg_name (i := 5) sc_are_valid.nd rfl (.inl rfl))) (fun _ _ _ _ _ => pts_nil) (fun _ _ _ _ _ => (pe_call G_are_apart (hr.mono (by walk_at "lvl")) (by rfl) D_are_apart.m D_are_apart.F.kp D_are_apart.b .nil pass0 (pa_cons (pv 3) (pa_cons (pv 5) pa_nil))))) pa_nil))) (pss_one (ps_ret pe_bl)) pss_nil))))
      (pss_one (ps_ret pe_bl))))), run_fn0 h ?_⟩)
  rintro ⟨b, d⟩ ⟨o, hlen⟩
  have o : b.Ok := o
  rcases tup_or d with ⟨l, rfl⟩ | hd
  · have hl : l.length ≤ 1000 := hlen l rfl
    cases hdec : decAll b l with
    | none =>
      have ha : (l.all fun d => (prD b d).isSome) = false := by rw [← decAll_all, hdec]; rfl
      refine run_guard (b := true) (et_or_f (EvB.is (et_not (et_B (ev_isTup (ev_var rfl)))) rfl) (EvB.is (et_not (et_B (ev_cb (ea_cons (ev_mapX (F := fun d => .bool (prD b d).isSome) (ei_tup (ev_var rfl)) (by omega) fun i d hd => ⟨_, eg_name, cl_is_pair o (ev_var rfl) (ev_var rfl) (ev_var rfl)⟩) ea_nil) cd_allF))) (by rw [ha]; rfl))) (fun _ => run_ret (Ev.is ev_bl ?_)) (fun h => by cases h)
      show _ = PyData.bool (match decAll b l with | some ps => okPairs ps | none => false)
      rw [hdec]
    | some ps =>
      have ha : (l.all fun d => (prD b d).isSome) = true := by rw [← decAll_all, hdec]; rfl
      have el := (decAll_some hdec).1
      have res : validD b (.tuple l) = okPairs ps := by
        show (match decAll b l with | some ps => okPairs ps | none => false) = _
        rw [hdec]
      subst el
      have hl' : ps.length ≤ 1000 := by rw [List.length_map] at hl; exact hl
      refine run_guard (b := false) (et_or_f (EvB.is (et_not (et_B (ev_isTup (ev_var rfl)))) rfl) (EvB.is (et_not (et_B (ev_cb (ea_cons (ev_mapX (F := fun d => .bool (prD b d).isSome) (ei_tup (ev_var rfl)) (by omega) fun i d hd => ⟨_, eg_name, cl_is_pair o (ev_var rfl) (ev_var rfl) (ev_var rfl)⟩) ea_nil) cd_allF))) (by rw [ha]; rfl))) (fun h => by cases h) fun _ => ?_
      -- the pairs two by two
      refine run_seq (N1 := fun x => okTwo ps = true ∧ ∃ s3 s4 s5 s6 s7, x = [.dat b.P, .dat b.S, .dat (.tuple (ps.map encPr)), s3, s4, s5, s6, s7]) ?_ ?_
      · refine run_scan (vs := [4, 3]) (EI := fun x => ∃ s3 s4 s5 s6 s7, x = [.dat b.P, .dat b.S, .dat (.tuple (ps.map encPr)), s3, s4, s5, s6, s7]) (ok := fun i => ∀ j, j < i → twoOk ps i j = true) (ei_enumT (ea_cons (ev_var rfl) ea_nil)) ⟨_, _, _, _, _, rfl⟩ ?_ ?_
        · rintro i ds' hi ⟨s3, s4, s5, s6, s7, rfl⟩ _
          have hi : i < ps.length := by rw [List.length_map] at hi; exact hi
          refine ⟨_, eg_pair, ?_⟩
          rw [enc_getD hi]
          have hcut : cutL (ps.map encPr) none (some (i : Int)) = (ps.take i).map encPr := by rw [cutL_to, List.map_take]
          have itlen : ((ps.take i).map encPr).length = i := by rw [List.length_map, List.length_take]; omega
          refine run_scan (vs := [5]) (n := i) (f := fun j => ((ps.take i).map encPr).getD j .none) (EI := fun x => ∃ s5 s6 s7, x = [.dat b.P, .dat b.S, .dat (.tuple (ps.map encPr)), .dat (encPr (ps.getD i (0, 0))), .dat (.int (i : Nat)), s5, s6, s7]) (ok := fun j => twoOk ps i j = true) ?_ ⟨_, _, _, rfl⟩ ?_ ?_
          · have := ei_tup (Ev.is (ev_slT (ev_var (K := K) (i := 2) (d := .tuple (ps.map encPr)) (ds := (([.dat b.P, .dat b.S, .dat (.tuple (ps.map encPr)), s3, s4, s5, s6, s7] : Slots).set 4 (.dat (.int (i : Nat)))).set 3 (.dat (encPr (ps.getD i (0, 0))))) rfl) eo_none (eo_some (ev_var (i := 4) rfl))) (congrArg PyData.tuple hcut))
            rw [itlen] at this
            exact this
          · rintro j ds' hj ⟨s5, s6, s7, rfl⟩ _
            refine ⟨_, eg_name, ?_⟩
            have hjj : ((ps.take i).map encPr).getD j .none = encPr (ps.getD j (0, 0)) := by
              rw [enc_getD (by rw [List.length_take]; omega)]
              congr 1
              rw [List.getD_eq_getElem?_getD, List.getD_eq_getElem?_getD, List.getElem?_take, if_pos hj]
            rw [hjj]
            refine run_if (b := !twoOk ps i j) (EvB.is (et_or (et_test (ev_op (ev_var rfl) (ev_var rfl) rd_ge2)) fun _ => et_not (et_or (et_B (cl_ins (ev_var rfl) (ev_var rfl))) fun _ => et_B (cl_apt (ev_var rfl) (ev_var rfl)))) ?_) (fun hb => run_ret (Ev.is ev_bl ?_)) fun hb => run_next ⟨⟨_, _, _, rfl⟩, ?_⟩
            · rw [ge_lt]
              unfold twoOk
              cases ltPr (ps.getD j (0, 0)) (ps.getD i (0, 0)) <;> cases ins (ps.getD i (0, 0)) (ps.getD j (0, 0)) <;> cases apt (ps.getD i (0, 0)) (ps.getD j (0, 0)) <;> rfl
            · have : okTwo ps = false := by
                rw [← Bool.not_eq_true, okTwo_all]
                intro h
                rw [h i hi j hj] at hb
                cases hb
              show _ = PyData.bool (validD b _)
              rw [res]
              unfold okPairs
              rw [this]
              rfl
            · simpa using hb
          · rintro ds' ⟨s5, s6, s7, rfl⟩ h
            exact ⟨⟨_, _, _, _, _, rfl⟩, h⟩
        · rintro ds' ⟨s3, s4, s5, s6, s7, rfl⟩ h
          refine ⟨okTwo_all.mpr fun i hi => h i (by rw [List.length_map]; exact hi), _, _, _, _, _, rfl⟩
      · rintro ds' ⟨h2, s3, s4, s5, s6, s7, rfl⟩
        -- no pair with two apart inside it
        refine run_seq (N1 := fun x => okThree ps = true) ?_ ?_
        · refine run_scan (vs := [6]) (EI := fun x => ∃ s3 s4 s5 s6 s7, x = [.dat b.P, .dat b.S, .dat (.tuple (ps.map encPr)), s3, s4, s5, s6, s7]) (ok := fun i => threeOk ps (ps.getD i (0, 0)) = true) (ei_tup (ev_var rfl)) ⟨_, _, _, _, _, rfl⟩ ?_ ?_
          · rintro i ds' hi ⟨s3, s4, s5, s6, s7, rfl⟩ _
            have hi : i < ps.length := by rw [List.length_map] at hi; exact hi
            refine ⟨_, eg_name, ?_⟩
            rw [enc_getD hi]
            have threeI : (∀ i, i < ps.length → threeOk ps (ps.getD i (0, 0)) = true) → threeOk ps (ps.getD i (0, 0)) = true := fun h => h i hi
            generalize ps.getD i (0, 0) = oo at *
            have inE : ∀ i d, (ps.map encPr)[i]? = some d → ∃ p, d = encPr p := fun i d hd => by
              obtain ⟨p, _, e⟩ := List.mem_map.mp (List.mem_of_getElem? hd)
              exact ⟨p, e.symm⟩
            refine run_set (Ev.is (ev_filX (F := fun d => d) (b := fun d => ins (dPr d) oo) (ei_tup (ev_var rfl)) (by omega) fun i d hd => ⟨_, eg_name, by
              obtain ⟨p, rfl⟩ := inE i d hd
              exact EvB.is (et_B (cl_ins (ev_var rfl) (ev_var rfl))) (by rw [dPr_enc]), fun _ => ev_var rfl⟩) (congrArg PyData.list (inner_is ps oo))) ?_
            have inF : ∀ i d, ((ps.filter fun p => ins p oo).map encPr)[i]? = some d → ∃ p, d = encPr p := fun i d hd => by
              obtain ⟨p, _, e⟩ := List.mem_map.mp (List.mem_of_getElem? hd)
              exact ⟨p, e.symm⟩
            have fl : ((ps.filter fun p => ins p oo).map encPr).length ≤ 1000 := by
              rw [List.length_map]
              exact Nat.le_trans (List.length_filter_le _ _) hl'
            refine run_if (b := !threeOk ps oo) (EvB.is (et_B (ev_cb (ea_cons (Ev.is (ev_lc2X (F := fun a b => PyData.bool (apt (dPr a) (dPr b))) (ei_list (ev_var rfl)) fl fl fun i a ha => ⟨_, eg_name, ei_list (ev_var rfl), fun j c hc => ⟨_, eg_name, by
              obtain ⟨p, rfl⟩ := inF i a ha
              obtain ⟨q, rfl⟩ := inF j c hc
              exact Ev.is (cl_apt (ev_var rfl) (ev_var rfl)) (by rw [dPr_enc, dPr_enc])⟩⟩) (congrArg PyData.list (apart_is _ _))) ea_nil) cd_any)) (three_any ps oo)) (fun hb => run_ret (Ev.is ev_bl ?_)) fun hb => run_next ⟨⟨_, _, _, _, _, rfl⟩, ?_⟩
            · have : okThree ps = false := by
                rw [← Bool.not_eq_true, okThree_all]
                intro h
                have hi' := hi
                rw [threeI h] at hb
                cases hb
              show _ = PyData.bool (validD b _)
              rw [res]
              unfold okPairs
              rw [h2, this]
              rfl
            · simpa using hb
          · rintro ds' ⟨s3, s4, s5, s6, s7, rfl⟩ h
            exact okThree_all.mpr fun i hi => h i (by rw [List.length_map]; exact hi)
        · intro ds' h3
          refine run_ret (Ev.is ev_bl ?_)
          show _ = PyData.bool (validD b _)
          rw [res]
          unfold okPairs
          rw [h2, h3]
          rfl
  · refine run_guard (b := true) (et_or_t (EvB.is (et_not (et_B (ev_isTup (ev_var rfl)))) (by rw [hd]; rfl))) (fun _ => run_ret (Ev.is ev_bl ?_)) (fun h => by cases h)
    show _ = PyData.bool (validD b d)
    rw [validD_no hd]
end
end K47
/-! K47: the law's judge of pairs. -/
namespace K47
open PySem PySem.Spec PyProof.Rows L2
local macro_rules | `(tactic| walk_at "lvl") => `(tactic| first | decide | omega)
local macro_rules | `(tactic| walk_at "at") => `(tactic| first | rfl | assumption | exact atN (by assumption))
theorem cl__law_is_valid {K : PySem.W.Frag} {ds : Slots} {ta tb tc : TE} {d : PyData} {E : XK} {b : Bk} (o : b.Ok) (hl : ∀ l, d = .tuple l → l.length ≤ 1000) (ha : Ev K ta ds b.P) (hb : Ev K tb ds b.S) (hc : Ev K tc ds d) :
    Ev K (tCall (spValid K) [] E (tCons ta (tCons tb (tCons tc tNil)))) ds (.bool (validD b d)) := cl_valid o hl ha hb hc
def leafB (n : Nat) : PyData → Bool
  | .int i => decide (0 ≤ i) && decide (i < (n : Int))
  | _ => false
theorem leaf_int {n : Nat} {d : PyData} (h : leafB n d = true) : ∃ i : Nat, d = .int (i : Int) ∧ i < n := by
  cases d with
  | int i =>
    have h : (decide (0 ≤ i) && decide (i < (n : Int))) = true := h
    rw [Bool.and_eq_true, decide_eq_true_iff, decide_eq_true_iff] at h
    exact ⟨i.toNat, by rw [show ((i.toNat : Nat) : Int) = i by omega], by omega⟩
  | _ => cases h
theorem prD_two {b : Bk} {x y : PyData} (h : (prD b (.tuple [x, y])).isSome = true) : leafB b.n x = true ∧ leafB b.n y = true := by
  cases e : prD b (.tuple [x, y]) with
  | none => rw [e] at h; cases h
  | some p =>
    obtain ⟨e2, h1, h2, _⟩ := prD_some e
    injection e2 with e2
    injection e2 with e3 e4
    injection e4 with e4 _
    subst e3 e4
    exact ⟨by simp [leafB]; omega, by simp [leafB]; omega⟩
theorem prD_nat {b : Bk} {i j : Nat} (h2 : j < b.n) : (prD b (.tuple [.int (i : Int), .int (j : Int)])).isSome = (decide (i < j) && b.cp i j) := by
  show (if 0 ≤ (i : Int) ∧ (i : Int) < (j : Int) ∧ (j : Int) < (b.n : Int) ∧ b.cp (i : Int).toNat (j : Int).toNat = true then some ((i : Int).toNat, (j : Int).toNat) else none).isSome = _
  by_cases h : i < j
  · cases hc : b.cp i j with
    | true =>
      rw [if_pos ⟨by omega, by omega, by omega, by simpa using hc⟩, decide_eq_true h]
      rfl
    | false =>
      rw [if_neg (fun q => by have := q.2.2.2; simp [hc] at this), decide_eq_true h]
      rfl
  · rw [if_neg (fun q => h (by omega)), decide_eq_false h]
    rfl
theorem ne_two {l : List PyData} {b : Bk} (h : ¬ (l.length : Int) = 2) : prD b (.tuple l) = none := by
  match l, h with
  | [x, y], h => exact absurd rfl h
  | [], _ => rfl
  | [x], _ => cases x <;> rfl
  | x :: y :: z :: r, _ => cases x <;> cases y <;> rfl
theorem two_of {l : List PyData} (h : (l.length : Int) = 2) : ∃ x y, l = [x, y] := by
  match l, h with
  | [x, y], _ => exact ⟨x, y, rfl⟩
  | [], h => cases h
  | [_], h => exact absurd h (by simp)
  | _ :: _ :: _ :: _, h => exact absurd h (by simp; omega)
theorem three_at {ps : List Pr} {o : Pr} : threeOk ps o = true ↔ ∀ j, j < (ps.filter fun p => ins p o).length → ((ps.filter fun q => ins q o).any fun q => apt ((ps.filter fun p => ins p o).getD j (0, 0)) q) = false := by
  unfold threeOk
  rw [List.all_eq_true]
  constructor
  · intro h j hj
    have := h ((ps.filter fun p => ins p o).getD j (0, 0)) (by rw [List.getD_eq_getElem?_getD, List.getElem?_eq_getElem hj]; exact List.getElem_mem hj)
    rw [List.any_eq_false]
    intro q hq
    rw [List.all_eq_true] at this
    simpa using this q hq
  · intro h p hp
    obtain ⟨j, hj, e⟩ := List.getElem_of_mem hp
    have := h j hj
    rw [List.getD_eq_getElem?_getD, List.getElem?_eq_getElem hj] at this
    have e' : (some (List.filter (fun p => ins p o) ps)[j]).getD (0, 0) = p := e
    rw [e'] at this
    rw [List.all_eq_true]
    intro q hq
    rw [List.any_eq_false] at this
    simpa using this q hq
section
variable {P : Program} {w : World} {K : PySem.W.Frag} {mg : Str → Option Value} {base : Heap}
theorem ok__law_is_valid (B : Blt mg) (D : DefAt K mg "_law_is_valid" "_law_is_valid" s__law_is_valid p__law_is_valid) (D__law_is_integer : DefAt K mg "_law_is_integer" "_law_is_integer" s__law_is_integer p__law_is_integer) (G__law_is_integer : FnOk P w K mg base CX0 1 D__law_is_integer.f D__law_is_integer.fd p__law_is_integer (spIsI K))
    (D__law_inside : DefAt K mg "_law_inside" "_law_inside" s__law_inside p__law_inside) (G__law_inside : FnOk P w K mg base CX0 1 D__law_inside.f D__law_inside.fd p__law_inside (spIns K))
    (D__law_apart : DefAt K mg "_law_apart" "_law_apart" s__law_apart p__law_apart) (G__law_apart : FnOk P w K mg base CX0 1 D__law_apart.f D__law_apart.fd p__law_apart (spApt K)) : FnOk P w K mg base CX0 3 D.f D.fd p__law_is_valid (spValid K) := by
  refine D.F.ok sc__law_is_valid (fun vs H Q E h => spI_len h (fun _ => rfl)) (fun cdv A outer s H vs Q E hr h => ⟨_, (pss_cons (ps_if (pt_not (pt_val (pe_callB (kIsi K rfl) (by rfl) B.isinstance bt_isinstance (pa_cons (pv 2) (pa_cons (pe_bltn (v := .ty "tuple") (by rfl) B.tuple bt_tuple rfl) pa_nil))))) (pss_one (ps_ret pe_bl)) pss_nil)
      (pss_cons (ps_for PassesOwn.never rfl (kPiT K rfl (pv 2)) (pg_name (i := 3) sc__law_is_valid.nd rfl (.inr rfl))
      (pss_cons (ps_if (PW.pt (pw_or (pt_not (pt_val (pe_callB (kIsi K rfl) (by rfl) B.isinstance bt_isinstance (pa_cons (pv 3) (pa_cons (pe_bltn (v := .ty "tuple") (by rfl) B.tuple bt_tuple rfl) pa_nil))))) (pw_or (pt_cmpR op_ne (pe_callB (kLen K rfl) (by rfl) B.len bt_len (pa_cons (pv 3) pa_nil)) pe_int (nomark _)) (pw_or1 (pt_not (pt_val (pe_callB (kAll K rfl rfl) (by rfl) B.all bt_all (pa_cons (pe_lc (own := [("_law_leaf", 4)]) rfl sc__law_is_valid.nd (kPiT K rfl (pv 3)) (blkOk_by (N := N__law_is_valid) (sc := defScope s__law_is_valid) (by decide +kernel)) (fun _ _ _ _ _ => (pg_name (i := 4) sc__law_is_valid.nd rfl (.inl rfl))) (fun _ _ _ _ _ => pts_nil) (fun _ _ _ _ _ => (pe_and (pe_call G__law_is_integer (hr.mono (by walk_at "lvl")) (by rfl) D__law_is_integer.m D__law_is_integer.F.kp D__law_is_integer.b .nil pass0 (pa_cons (pv 4) pa_nil)) (pe_one (pe_chain op_le op_lt pe_int (pv 4) (pe_callB (kLen K rfl) (by rfl) B.len bt_len (pa_cons (pv 1) pa_nil))))))) pa_nil)))))))) (pss_one (ps_ret pe_bl)) pss_nil)
      (pss_one (ps_if (PW.pt (pw_or (pt_cmpR op_ge (pe_ix (kIxT K rfl) (pv 3) pe_int (fun _ _ => rfl)) (pe_ix (kIxT K rfl) (pv 3) pe_int (fun _ _ => rfl)) (nomark _)) (pw_or1 (pt_cmpR op_ne (pe_ix (kIxT K rfl) (pv 0) (pe_ix (kIxT K rfl) (pv 1) (pe_ix (kIxT K rfl) (pv 3) pe_int (fun _ _ => rfl)) (fun _ _ => rfl)) (fun _ _ => rfl)) (pe_ix (kIxT K rfl) (pv 1) (pe_ix (kIxT K rfl) (pv 3) pe_int (fun _ _ => rfl)) (fun _ _ => rfl)) (nomark _))))) (pss_one (ps_ret pe_bl)) pss_nil))))
      (pss_cons (ps_for PassesOwn.never rfl (pi_range1 (by rfl) B.range (pa_cons (pe_callB (kLen K rfl) (by rfl) B.len bt_len (pa_cons (pv 2) pa_nil)) pa_nil)) (pg_name (i := 5) sc__law_is_valid.nd rfl (.inl rfl))
      (pss_one (ps_for PassesOwn.never rfl (pi_range1 (by rfl) B.range (pa_cons (pv 5) pa_nil)) (pg_name (i := 6) sc__law_is_valid.nd rfl (.inl rfl))
      (pss_one (ps_if (PW.pt (pw_or (pt_cmpR (kGe2 K rfl hr.units0) (pe_ix (kIxT K rfl) (pv 2) (pv 6) (fun _ _ => rfl)) (pe_ix (kIxT K rfl) (pv 2) (pv 5) (fun _ _ => rfl)) (nomark _)) (pw_or1 (pt_not (PW.pt (pw_or (pt_val (pe_call G__law_inside (hr.mono (by walk_at "lvl")) (by rfl) D__law_inside.m D__law_inside.F.kp D__law_inside.b .nil pass0 (pa_cons (pe_ix (kIxT K rfl) (pv 2) (pv 5) (fun _ _ => rfl)) (pa_cons (pe_ix (kIxT K rfl) (pv 2) (pv 6) (fun _ _ => rfl)) pa_nil)))) (pw_or1 (pt_val (pe_call G__law_apart (hr.mono (by walk_at "lvl")) (by rfl) D__law_apart.m D__law_apart.F.kp D__law_apart.b .nil pass0 (pa_cons (pe_ix (kIxT K rfl) (pv 2) (pv 5) (fun _ _ => rfl)) (pa_cons (pe_ix (kIxT K rfl) (pv 2) (pv 6) (fun _ _ => rfl)) pa_nil))))))))))) (pss_one (ps_ret pe_bl)) pss_nil)))))
      (pss_cons (ps_for PassesOwn.never rfl (kPiT K rfl (pv 2)) (pg_name (i := 7) sc__law_is_valid.nd rfl (.inr rfl))
      (pss_cons (ps_setLc (i := 8) (own := [("_law_pair", 3)]) rfl sc__law_is_valid.nd rfl rfl (sw_true rfl rfl rfl (by decide +kernel)) (kPiT K rfl (pv 2)) (blkOk_by (N := N__law_is_valid) (sc := defScope s__law_is_valid) (by decide +kernel)) (fun _ _ _ _ _ => (pg_name (i := 3) sc__law_is_valid.nd rfl (.inl rfl))) (fun _ _ _ _ _ => (pts_one (pt_val (pe_call G__law_inside (hr.mono (by walk_at "lvl")) (by rfl) D__law_inside.m D__law_inside.F.kp D__law_inside.b .nil pass0 (pa_cons (pv 3) (pa_cons (pv 7) pa_nil)))))) (fun _ _ _ _ _ => (pv 3)))
      (pss_one (ps_for PassesOwn.never rfl (kPiL K rfl (pv 8)) (pg_name (i := 3) sc__law_is_valid.nd rfl (.inr rfl))
      (pss_one (ps_if (pt_val (pe_callB (kAny K rfl rfl) (by rfl) B.any bt_any (pa_cons (pe_lc (own := [("_law_other", 9)]) rfl sc__law_is_valid.nd (kPiL K rfl (pv 8)) (blkOk_by (N := N__law_is_valid) (sc := defScope s__law_is_valid) (by decide +kernel)) (fun _ _ _ _ _ => (pg_name (i := 9) sc__law_is_valid.nd rfl (.inl rfl))) (fun _ _ _ _ _ => pts_nil) (fun _ _ _ _ _ => (pe_call G__law_apart (hr.mono (by walk_at "lvl")) (by rfl) D__law_apart.m D__law_apart.F.kp D__law_apart.b .nil pass0 (pa_cons (pv 3) (pa_cons (pv 9) pa_nil))))) pa_nil))) (pss_one (ps_ret pe_bl)) pss_nil))))))
      (pss_one (ps_ret pe_bl)))))), run_fn0 h ?_⟩)
  rintro ⟨b, d⟩ ⟨o, hlen⟩
  have o : b.Ok := o
  have hs : (b.ss.map iD).length = b.n := List.length_map _
  rcases tup_or d with ⟨l, rfl⟩ | hd
  · have hl : l.length ≤ 1000 := hlen l rfl
    refine run_guard (b := false) (EvB.is (et_not (et_B (ev_isTup (ev_var rfl)))) rfl) (fun h => by cases h) fun _ => ?_
    -- each a pair
    refine run_seq (N1 := fun x => (l.all fun d => (prD b d).isSome) = true ∧ ∃ s3 s4 s5 s6 s7 s8 s9, x = [.dat b.P, .dat b.S, .dat (.tuple l), s3, s4, s5, s6, s7, s8, s9]) ?_ ?_
    · refine run_scan (vs := [3]) (EI := fun x => ∃ s3 s4 s5 s6 s7 s8 s9, x = [.dat b.P, .dat b.S, .dat (.tuple l), s3, s4, s5, s6, s7, s8, s9]) (ok := fun i => (prD b (l.getD i .none)).isSome = true) (ei_tup (ev_var rfl)) ⟨_, _, _, _, _, _, _, rfl⟩ ?_ ?_
      · rintro i ds' hi ⟨s3, s4, s5, s6, s7, s8, s9, rfl⟩ _
        refine ⟨_, eg_name, ?_⟩
        have no : (prD b (l.getD i .none)).isSome = false → PyData.bool false = .bool (validD b (.tuple l)) := fun h => by
          have : decAll b l = none := by
            cases e : decAll b l with
            | none => rfl
            | some ps =>
              have ha : (l.all fun d => (prD b d).isSome) = true := by rw [← decAll_all, e]; rfl
              rw [List.all_eq_true] at ha
              have := ha (l.getD i .none) (by rw [List.getD_eq_getElem?_getD, List.getElem?_eq_getElem hi]; exact List.getElem_mem hi)
              rw [this] at h
              cases h
          show _ = PyData.bool (match decAll b l with | some ps => okPairs ps | none => false)
          rw [this]
        generalize l.getD i .none = e at *
        rcases tup_or e with ⟨m, rfl⟩ | he
        · by_cases hm : (m.length : Int) = 2
          · obtain ⟨x, y, rfl⟩ := two_of hm
            have elt : ∀ {E : XK} {z : PyData}, Ev K (tAndV (tCall (spIsI K) [] E (tCons (tVar 4) tNil)) (tChain (rI0 fun i j => .bl (decide (i ≤ j))) (rI0 fun i j => .bl (decide (i < j))) (tC (.int 0)) (tVar 4) (tCB (rLen K) (tCons (tVar 1) tNil)))) [.dat b.P, .dat b.S, .dat (.tuple l), .dat (.tuple [x, y]), .dat z, s5, s6, s7, s8, s9] (.bool (leafB b.n z)) := fun {E z} => by
              refine Ev.is (ev_andB (b := leafB b.n z) (cl__law_is_integer (ev_var rfl)) fun h => ?_) ?_
              · cases z with
                | int z =>
                  refine Ev.is (ev_chain ev_int (ev_var rfl) rd_le (fun _ => (ev_cb (ea_cons (ev_var rfl) ea_nil) cd_lenT)) (fun _ => rd_lt)) ?_
                  rw [hs]
                  rfl
                | _ => cases h
              · cases z <;> rfl
            have all2 : ∀ {E : XK}, Ev K (tCB (rAll K) (tCons (tLc (iTup K (tVar 3)) (gName 4) tYes (tAndV (tCall (spIsI K) [] E (tCons (tVar 4) tNil)) (tChain (rI0 fun i j => .bl (decide (i ≤ j))) (rI0 fun i j => .bl (decide (i < j))) (tC (.int 0)) (tVar 4) (tCB (rLen K) (tCons (tVar 1) tNil)))) [4]) tNil)) [.dat b.P, .dat b.S, .dat (.tuple l), .dat (.tuple [x, y]), s4, s5, s6, s7, s8, s9] (.bool ([x, y].all (leafB b.n))) :=
              fun {E} => ev_cb (ea_cons (ev_mapX (F := fun z => .bool (leafB b.n z)) (ei_tup (ev_var rfl)) (by show 2 ≤ _; decide) fun i z hz => ⟨_, eg_name, elt⟩) ea_nil) cd_allF
            cases hxy : [x, y].all (leafB b.n) with
            | false =>
              refine run_guard (b := true) (et_or_f (EvB.is (et_not (et_B (ev_isTup (ev_var rfl)))) rfl) (et_or_f (EvB.is (et_test (ev_op (ev_cb (ea_cons (ev_var rfl) ea_nil) cd_lenT) ev_int rd_neI)) rfl) (EvB.is (et_not (et_B all2)) (by rw [hxy]; rfl)))) (fun _ => run_ret (Ev.is ev_bl (no ?_))) (fun h => by cases h)
              cases hp : (prD b (.tuple [x, y])).isSome with
              | false => rfl
              | true =>
                obtain ⟨h1, h2⟩ := prD_two hp
                simp [h1, h2] at hxy
            | true =>
              refine run_guard (b := false) (et_or_f (EvB.is (et_not (et_B (ev_isTup (ev_var rfl)))) rfl) (et_or_f (EvB.is (et_test (ev_op (ev_cb (ea_cons (ev_var rfl) ea_nil) cd_lenT) ev_int rd_neI)) rfl) (EvB.is (et_not (et_B all2)) (by rw [hxy]; rfl)))) (fun h => by cases h) fun _ => ?_
              have hxy : leafB b.n x = true ∧ leafB b.n y = true := by simpa using hxy
              obtain ⟨i, rfl, hi⟩ := leaf_int hxy.1
              obtain ⟨j, rfl, hj⟩ := leaf_int hxy.2
              have at1 : atI (b.ss.map iD) (i : Int) = some (iD (b.ss.getD i 0)) := atN hi
              have at2 : atI (b.ss.map iD) (j : Int) = some (iD (b.ss.getD j 0)) := atN hj
              have at3 : atI (b.pp.map iD) ((b.ss.getD i 0 : Nat) : Int) = some (iD (b.pp.getD (b.ss.getD i 0) 0)) := atN (o.mark hi)
              refine run_if (b := !(prD b (.tuple [.int (i : Int), .int (j : Int)])).isSome) (EvB.is (et_or (et_test (ev_op (ev_op (ev_var rfl) ev_int (rd_ixT rfl)) (ev_op (ev_var rfl) ev_int (rd_ixT rfl)) rd_ge)) fun _ => et_test (ev_op (ev_op (ev_var rfl) (ev_op (ev_var rfl) (ev_op (ev_var rfl) ev_int (rd_ixT rfl)) (rd_ixT at1)) (rd_ixT at3)) (ev_op (ev_var rfl) (ev_op (ev_var rfl) ev_int (rd_ixT rfl)) (rd_ixT at2)) rd_neI)) ?_) (fun hb => run_ret (Ev.is ev_bl (no (by simpa using hb)))) fun hb => run_next ⟨⟨_, _, _, _, _, _, _, rfl⟩, by simpa using hb⟩
              rw [prD_nat hj]
              have cpe : b.cp i j = decide (((b.pp.getD (b.ss.getD i 0) 0 : Nat) : Int) = ((b.ss.getD j 0 : Nat) : Int)) := by
                show (b.pp.getD (b.ss.getD i 0) 0 == b.ss.getD j 0) = _
                by_cases hc : b.pp.getD (b.ss.getD i 0) 0 = b.ss.getD j 0
                · rw [beq_iff_eq.mpr hc, decide_eq_true (by omega)]
                · rw [beq_eq_false_iff_ne.mpr hc, decide_eq_false (by omega)]
              rw [cpe]
              by_cases hij : i < j
              · rw [decide_eq_true hij, decide_eq_false (by omega)]
                rfl
              · rw [decide_eq_false hij, decide_eq_true (by omega)]
                rfl
          · refine run_guard (b := true) (et_or_f (EvB.is (et_not (et_B (ev_isTup (ev_var rfl)))) rfl) (et_or_t (EvB.is (et_test (ev_op (ev_cb (ea_cons (ev_var rfl) ea_nil) cd_lenT) ev_int rd_neI)) (by rw [decide_eq_false hm]; rfl)))) (fun _ => run_ret (Ev.is ev_bl (no (by rw [ne_two hm]; rfl)))) (fun h => by cases h)
        · refine run_guard (b := true) (et_or_t (EvB.is (et_not (et_B (ev_isTup (ev_var rfl)))) (by rw [he]; rfl))) (fun _ => run_ret (Ev.is ev_bl (no (by rw [prD_no he]; rfl)))) (fun h => by cases h)
      · rintro ds' ⟨s3, s4, s5, s6, s7, s8, s9, rfl⟩ h
        refine ⟨?_, _, _, _, _, _, _, _, rfl⟩
        rw [List.all_eq_true]
        intro x hx
        obtain ⟨i, hi, e⟩ := List.getElem_of_mem hx
        have := h i hi
        rw [List.getD_eq_getElem?_getD, List.getElem?_eq_getElem hi] at this
        have e' : (some l[i]).getD PyData.none = x := e
        rw [e'] at this
        exact this
    · rintro ds' ⟨ha, s3, s4, s5, s6, s7, s8, s9, rfl⟩
      obtain ⟨ps, hdec⟩ : ∃ ps, decAll b l = some ps := by
        rw [← decAll_all] at ha
        exact Option.isSome_iff_exists.mp ha
      have el := (decAll_some hdec).1
      have res : validD b (.tuple l) = okPairs ps := by
        show (match decAll b l with | some ps => okPairs ps | none => false) = _
        rw [hdec]
      subst el
      have hl' : ps.length ≤ 1000 := by rw [List.length_map] at hl; exact hl
      have atP : ∀ {i : Nat}, i < ps.length → atI (ps.map encPr) ((i : Nat) : Int) = some (encPr (ps.getD i (0, 0))) := fun h => atI_natD (enc_at h)
      refine run_seq (N1 := fun x => okTwo ps = true ∧ ∃ s3 s4 s5 s6 s7 s8 s9, x = [.dat b.P, .dat b.S, .dat (.tuple (ps.map encPr)), s3, s4, s5, s6, s7, s8, s9]) ?_ ?_
      · refine run_scan (vs := [5]) (EI := fun x => ∃ s3 s4 s5 s6 s7 s8 s9, x = [.dat b.P, .dat b.S, .dat (.tuple (ps.map encPr)), s3, s4, s5, s6, s7, s8, s9]) (ok := fun i => ∀ j, j < i → twoOk ps i j = true) (ei_r1 (n := ((ps.map encPr).length : Int)) (ea_cons (ev_cb (ea_cons (ev_var rfl) ea_nil) cd_lenT) ea_nil) (by omega)) ⟨_, _, _, _, _, _, _, rfl⟩ ?_ ?_
        · rintro i ds' hi ⟨s3, s4, s5, s6, s7, s8, s9, rfl⟩ _
          have hi : i < ps.length := by rw [Int.toNat_natCast, List.length_map] at hi; exact hi
          refine ⟨_, eg_name, ?_⟩
          refine run_scan (vs := [6]) (EI := fun x => ∃ s3 s4 s6 s7 s8 s9, x = [.dat b.P, .dat b.S, .dat (.tuple (ps.map encPr)), s3, s4, .dat (.int (i : Nat)), s6, s7, s8, s9]) (ok := fun j => twoOk ps i j = true) (ei_r1 (n := ((i : Nat) : Int)) (ea_cons (ev_var rfl) ea_nil) (by omega)) ⟨_, _, _, _, _, _, rfl⟩ ?_ ?_
          · rintro j ds' hj ⟨s3, s4, s6, s7, s8, s9, rfl⟩ _
            have hj : j < i := by rw [Int.toNat_natCast] at hj; exact hj
            refine ⟨_, eg_name, ?_⟩
            have a1 : atI (ps.map encPr) ((i : Nat) : Int) = _ := atP hi
            have a2 : atI (ps.map encPr) ((j : Nat) : Int) = _ := atP (Nat.lt_trans hj hi)
            refine run_if (b := !twoOk ps i j) (EvB.is (et_or (et_test (ev_op (ev_op (ev_var rfl) (ev_var rfl) (rd_ixT a2)) (ev_op (ev_var rfl) (ev_var rfl) (rd_ixT a1)) rd_ge2)) fun _ => et_not (et_or (et_B (cl_ins (ev_op (ev_var rfl) (ev_var rfl) (rd_ixT a1)) (ev_op (ev_var rfl) (ev_var rfl) (rd_ixT a2)))) fun _ => et_B (cl_apt (ev_op (ev_var rfl) (ev_var rfl) (rd_ixT a1)) (ev_op (ev_var rfl) (ev_var rfl) (rd_ixT a2))))) ?_) (fun hb => run_ret (Ev.is ev_bl ?_)) fun hb => run_next ⟨⟨_, _, _, _, _, _, rfl⟩, ?_⟩
            · rw [ge_lt]
              unfold twoOk
              cases ltPr (ps.getD j (0, 0)) (ps.getD i (0, 0)) <;> cases ins (ps.getD i (0, 0)) (ps.getD j (0, 0)) <;> cases apt (ps.getD i (0, 0)) (ps.getD j (0, 0)) <;> rfl
            · have : okTwo ps = false := by
                rw [← Bool.not_eq_true, okTwo_all]
                intro h
                rw [h i hi j hj] at hb
                cases hb
              show _ = PyData.bool (validD b _)
              rw [res]
              unfold okPairs
              rw [this]
              rfl
            · simpa using hb
          · rintro ds' ⟨s3, s4, s6, s7, s8, s9, rfl⟩ h
            exact ⟨⟨_, _, _, _, _, _, _, rfl⟩, fun j hj => h j (by rw [Int.toNat_natCast]; exact hj)⟩
        · rintro ds' ⟨s3, s4, s5, s6, s7, s8, s9, rfl⟩ h
          refine ⟨okTwo_all.mpr fun i hi => h i (by rw [Int.toNat_natCast, List.length_map]; exact hi), _, _, _, _, _, _, _, rfl⟩
      · rintro ds' ⟨h2, s3, s4, s5, s6, s7, s8, s9, rfl⟩
        refine run_seq (N1 := fun x => okThree ps = true) ?_ ?_
        · refine run_scan (vs := [7]) (EI := fun x => ∃ s3 s4 s5 s6 s7 s8 s9, x = [.dat b.P, .dat b.S, .dat (.tuple (ps.map encPr)), s3, s4, s5, s6, s7, s8, s9]) (ok := fun i => threeOk ps (ps.getD i (0, 0)) = true) (ei_tup (ev_var rfl)) ⟨_, _, _, _, _, _, _, rfl⟩ ?_ ?_
          · rintro i ds' hi ⟨s3, s4, s5, s6, s7, s8, s9, rfl⟩ _
            have hi : i < ps.length := by rw [List.length_map] at hi; exact hi
            refine ⟨_, eg_name, ?_⟩
            rw [enc_getD hi]
            have threeI : (∀ i, i < ps.length → threeOk ps (ps.getD i (0, 0)) = true) → threeOk ps (ps.getD i (0, 0)) = true := fun h => h i hi
            generalize ps.getD i (0, 0) = oo at *
            have inE : ∀ i d, (ps.map encPr)[i]? = some d → ∃ p, d = encPr p := fun i d hd => by
              obtain ⟨p, _, e⟩ := List.mem_map.mp (List.mem_of_getElem? hd)
              exact ⟨p, e.symm⟩
            refine run_set (Ev.is (ev_filX (F := fun d => d) (b := fun d => ins (dPr d) oo) (ei_tup (ev_var rfl)) (by omega) fun i d hd => ⟨_, eg_name, by
              obtain ⟨p, rfl⟩ := inE i d hd
              exact EvB.is (et_B (cl_ins (ev_var rfl) (ev_var rfl))) (by rw [dPr_enc]), fun _ => ev_var rfl⟩) (congrArg PyData.list (inner_is ps oo))) ?_
            have inF : ∀ i d, ((ps.filter fun p => ins p oo).map encPr)[i]? = some d → ∃ p, d = encPr p := fun i d hd => by
              obtain ⟨p, _, e⟩ := List.mem_map.mp (List.mem_of_getElem? hd)
              exact ⟨p, e.symm⟩
            have fl : ((ps.filter fun p => ins p oo).map encPr).length ≤ 1000 := by
              rw [List.length_map]
              exact Nat.le_trans (List.length_filter_le _ _) hl'
            have inn : ∀ {j : Nat}, j < (ps.filter fun p => ins p oo).length → ((ps.filter fun p => ins p oo).map encPr).getD j .none = encPr ((ps.filter fun p => ins p oo).getD j (0, 0)) := fun h => enc_getD h
            refine run_scan (vs := [3]) (EI := fun x => ∃ s3 s4 s5 s6 s9, x = [.dat b.P, .dat b.S, .dat (.tuple (ps.map encPr)), s3, s4, s5, s6, .dat (encPr oo), .dat (.list ((ps.filter fun p => ins p oo).map encPr)), s9]) (ok := fun j => ((ps.filter fun q => ins q oo).any fun q => apt ((ps.filter fun p => ins p oo).getD j (0, 0)) q) = false) (ei_list (ev_var rfl)) ⟨_, _, _, _, _, rfl⟩ ?_ ?_
            · rintro j ds' hj ⟨s3, s4, s5, s6, s9, rfl⟩ _
              have hj : j < (ps.filter fun p => ins p oo).length := by rw [List.length_map] at hj; exact hj
              refine ⟨_, eg_name, ?_⟩
              rw [inn hj]
              refine run_if (b := (ps.filter fun q => ins q oo).any fun q => apt ((ps.filter fun p => ins p oo).getD j (0, 0)) q) (et_B (ev_cb (ea_cons (Ev.is (ev_mapX (F := fun a => PyData.bool (apt ((ps.filter fun p => ins p oo).getD j (0, 0)) (dPr a))) (ei_list (ev_var rfl)) (by omega) fun i a ha => ⟨_, eg_name, by
                obtain ⟨p, rfl⟩ := inF i a ha
                exact Ev.is (cl_apt (ev_var rfl) (ev_var rfl)) (by rw [dPr_enc])⟩) (congrArg PyData.list (List.map_map ..))) ea_nil) cd_anyF)) (fun hb => run_ret (Ev.is ev_bl ?_)) fun hb => run_next ⟨⟨_, _, _, _, _, rfl⟩, hb⟩
              have : okThree ps = false := by
                rw [← Bool.not_eq_true, okThree_all]
                intro h
                have := three_at.mp (threeI h) j hj
                rw [hb] at this
                cases this
              show _ = PyData.bool (validD b _)
              rw [res]
              unfold okPairs
              rw [h2, this]
              rfl
            · rintro ds' ⟨s3, s4, s5, s6, s9, rfl⟩ h
              exact ⟨⟨_, _, _, _, _, _, _, rfl⟩, three_at.mpr fun j hj => h j (by rw [List.length_map]; exact hj)⟩
          · rintro ds' ⟨s3, s4, s5, s6, s7, s8, s9, rfl⟩ h
            exact okThree_all.mpr fun i hi => h i (by rw [List.length_map]; exact hi)
        · intro ds' h3
          refine run_ret (Ev.is ev_bl ?_)
          show _ = PyData.bool (validD b _)
          rw [res]
          unfold okPairs
          rw [h2, h3]
          rfl
  · refine run_guard (b := true) (EvB.is (et_not (et_B (ev_isTup (ev_var rfl)))) (by rw [hd]; rfl)) (fun _ => run_ret (Ev.is ev_bl ?_)) (fun h => by cases h)
    show _ = PyData.bool (validD b d)
    rw [validD_no hd]
end
end K47
/-! K47: the judges of tables. -/
namespace K47
open PySem PySem.Spec PyProof.Rows L2
local macro_rules | `(tactic| walk_at "lvl") => `(tactic| first | decide | omega)
local macro_rules | `(tactic| walk_at "at") => `(tactic| first | rfl | assumption | exact atN (by assumption))
def encI (l : List Int) : PyData := .tuple (l.map .int)
def encN2 (N : List (List Int)) : PyData := .tuple (N.map encI)
structure Shp (n : Nat) (N : List (List Int)) : Prop where
  len : N.length = n + 1
  row : ∀ i, i ≤ n → (N.getD i []).length = n + 1 - i
def tabD (N : List (List Int)) (E : List Int) : PyData := .tuple [encN2 N, encI E]
def TabsB (b : Bk) (d : PyData) : Prop := ∃ N E, d = tabD N E ∧ Shp b.n N ∧ E.length = b.n + 1 ∧ rightB b.n b.cp N E = true
open Classical in noncomputable def tabsB (b : Bk) (d : PyData) : Bool := decide (TabsB b d)
open Classical in theorem tabs_no {b : Bk} {d : PyData} (h : ¬ TabsB b d) : tabsB b d = false := by unfold tabsB; exact decide_eq_false h
open Classical in theorem tabs_yes {b : Bk} {d : PyData} (h : TabsB b d) : tabsB b d = true := by unfold tabsB; exact decide_eq_true h
open Classical in theorem tabs_of {b : Bk} {d : PyData} (h : tabsB b d = true) : TabsB b d := by unfold tabsB at h; exact of_decide_eq_true h
theorem row_at {n : Nat} {N : List (List Int)} (S : Shp n N) {k : Int} {i : Nat} (hk : k = (i : Int)) (hi : i ≤ n) : atI (N.map encI) k = some (encI (N.getD i [])) := by
  rw [hk]
  exact atI_natD (getD_map encI N i [] (by rw [S.len]; omega))
theorem int_at {l : List Int} {k : Int} {i : Nat} (hk : k = (i : Int)) (hi : i < l.length) : atI (l.map .int) k = some (PyData.int (l.getD i 0)) := by
  rw [hk]
  exact atI_natD (getD_map PyData.int l i 0 hi)
theorem cel_at {n : Nat} {N : List (List Int)} (S : Shp n N) {k : Int} {i j : Nat} (hk : k = (j : Int) - (i : Int)) (hij : i ≤ j) (hj : j ≤ n) : atI ((N.getD i []).map .int) k = some (PyData.int (tN N i j)) :=
  int_at (i := j - i) (by omega) (by rw [S.row i (by omega)]; omega)
theorem ends_at {n : Nat} {E : List Int} (h : E.length = n + 1) {k : Int} {i : Nat} (hk : k = (i : Int)) (hi : i ≤ n) : atI (E.map .int) k = some (PyData.int (tE E i)) := int_at hk (by omega)
theorem ev_cell {K : PySem.W.Frag} {ds : Slots} {t1 t2 t3 : TE} {n : Nat} {N : List (List Int)} {k m : Int} {i j : Nat} (S : Shp n N) (h1 : Ev K t1 ds (encN2 N)) (h2 : Ev K t2 ds (.int k)) (h3 : Ev K t3 ds (.int m)) (hk : k = (i : Int)) (hm : m = (j : Int) - (i : Int)) (hij : i ≤ j) (hj : j ≤ n) :
    Ev K (tOp (rIxT K) (tOp (rIxT K) t1 t2) t3) ds (.int (tN N i j)) := ev_op (ev_op h1 h2 (rd_ixT (row_at S hk (by omega)))) h3 (rd_ixT (cel_at S hm hij hj))
theorem ev_end {K : PySem.W.Frag} {ds : Slots} {t1 t2 : TE} {n : Nat} {E : List Int} {k : Int} {i : Nat} (hE : E.length = n + 1) (h1 : Ev K t1 ds (encI E)) (h2 : Ev K t2 ds (.int k)) (hk : k = (i : Int)) (hi : i ≤ n) :
    Ev K (tOp (rIxT K) t1 t2) ds (.int (tE E i)) := ev_op h1 h2 (rd_ixT (ends_at hE hk hi))
theorem ev_mark {K : PySem.W.Frag} {ds : Slots} {t1 t2 : TE} {b : Bk} {k : Int} {i : Nat} (h1 : Ev K t1 ds b.S) (h2 : Ev K t2 ds (.int k)) (hk : k = (i : Int)) (hi : i < b.n) : Ev K (tOp (rIxT K) t1 t2) ds (.int ((b.ss.getD i 0 : Nat) : Int)) := by
  subst hk
  exact ev_op h1 h2 (rd_ixT (atN hi))
theorem ev_ctr {K : PySem.W.Frag} {ds : Slots} {t0 t1 t2 : TE} {b : Bk} (o : b.Ok) {k : Int} {i : Nat} (h0 : Ev K t0 ds b.P) (h1 : Ev K t1 ds b.S) (h2 : Ev K t2 ds (.int k)) (hk : k = (i : Int)) (hi : i < b.n) :
    Ev K (tOp (rIxT K) t0 (tOp (rIxT K) t1 t2)) ds (.int ((b.pp.getD (b.ss.getD i 0) 0 : Nat) : Int)) := ev_op h0 (ev_mark h1 h2 hk hi) (rd_ixT (atN (o.mark hi)))
theorem cpD (b : Bk) (i j : Nat) : decide (((b.pp.getD (b.ss.getD i 0) 0 : Nat) : Int) = ((b.ss.getD j 0 : Nat) : Int)) = b.cp i j := by
  show _ = (b.pp.getD (b.ss.getD i 0) 0 == b.ss.getD j 0)
  by_cases hc : b.pp.getD (b.ss.getD i 0) 0 = b.ss.getD j 0
  · rw [beq_iff_eq.mpr hc, decide_eq_true (by omega)]
  · rw [beq_eq_false_iff_ne.mpr hc, decide_eq_false (by omega)]
theorem ints_some {y : PyData} {m : Int} (h : intsB y m = true) : ∃ E : List Int, y = encI E ∧ (E.length : Int) = m := by
  cases y with
  | tuple l =>
    have h : (decide ((l.length : Int) = m) && l.all plainInt) = true := h
    rw [Bool.and_eq_true, decide_eq_true_iff] at h
    have : ∀ l : List PyData, l.all plainInt = true → ∃ E : List Int, l = E.map .int := by
      intro l
      induction l with
      | nil => intro _; exact ⟨[], rfl⟩
      | cons a l ih =>
        intro h
        rw [List.all_cons, Bool.and_eq_true] at h
        obtain ⟨E, e⟩ := ih h.2
        cases a with
        | int z => exact ⟨z :: E, by rw [e]; rfl⟩
        | _ => cases h.1
    obtain ⟨E, e⟩ := this l h.2
    refine ⟨E, by rw [e]; rfl, ?_⟩
    rw [← h.1, e, List.length_map]
  | _ => cases h
theorem ints_enc (E : List Int) (m : Int) : intsB (encI E) m = decide ((E.length : Int) = m) := by
  show (decide (((E.map PyData.int).length : Int) = m) && (E.map PyData.int).all plainInt) = _
  rw [List.length_map, List.all_map]
  have : E.all (plainInt ∘ PyData.int) = true := List.all_eq_true.mpr fun _ _ => rfl
  rw [this, Bool.and_true]
def rowsB (n : Nat) (l : List PyData) : Bool := (List.range l.length).all fun i => intsB (l.getD i .none) ((n : Int) + 1 - (i : Int))
theorem rows_some {n : Nat} {l : List PyData} (hl : l.length = n + 1) (h : rowsB n l = true) : ∃ N, l = N.map encI ∧ Shp n N := by
  unfold rowsB at h
  rw [List.all_eq_true] at h
  have h : ∀ i, i ≤ n → ∃ E : List Int, l.getD i .none = encI E ∧ E.length = n + 1 - i := fun i hi => by
    obtain ⟨E, e1, e2⟩ := ints_some (h i (List.mem_range.mpr (by omega)))
    exact ⟨E, e1, by omega⟩
  let f : Nat → List Int := fun i => if hi : i ≤ n then (h i hi).choose else []
  have fs : ∀ i, i ≤ n → l.getD i .none = encI (f i) ∧ (f i).length = n + 1 - i := fun i hi => by
    have := (h i hi).choose_spec
    show l.getD i .none = encI (if hi : i ≤ n then (h i hi).choose else []) ∧ (if hi : i ≤ n then (h i hi).choose else []).length = _
    rw [dif_pos hi]
    exact this
  refine ⟨(List.range (n + 1)).map f, ?_, ⟨by rw [List.length_map, List.length_range], fun i hi => ?_⟩⟩
  · refine List.ext_getElem (by simp [hl]) fun i h1 h2 => ?_
    have := (fs i (by omega)).1
    rw [List.getD_eq_getElem?_getD, List.getElem?_eq_getElem h1] at this
    simpa using this
  · rw [List.getD_eq_getElem?_getD, List.getElem?_map, List.getElem?_range (by omega)]
    exact (fs i hi).2
theorem rows_enc {n : Nat} {N : List (List Int)} (S : Shp n N) : rowsB n (N.map encI) = true := by
  unfold rowsB
  rw [List.all_eq_true]
  intro i hi
  rw [List.mem_range, List.length_map, S.len] at hi
  rw [show (N.map encI).getD i .none = encI (N.getD i []) from getD_at (getD_map encI N i [] (by rw [S.len]; omega)), ints_enc, S.row i (by omega)]
  exact decide_eq_true (by omega)
theorem map_inj {α β : Type} {f : α → β} (hf : ∀ x y, f x = f y → x = y) : ∀ {a c : List α}, a.map f = c.map f → a = c
  | [], [], _ => rfl
  | [], _ :: _, h => by cases h
  | _ :: _, [], h => by cases h
  | x :: a, y :: c, h => by
    rw [List.map_cons, List.map_cons] at h
    injection h with h1 h2
    rw [hf x y h1, map_inj hf h2]
theorem encI_inj {a c : List Int} (h : encI a = encI c) : a = c := by
  unfold encI at h
  injection h with h
  exact map_inj (fun x y e => by injection e) h
abbrev spCell (K : PySem.W.Frag) : Sp := spI K (ι := Bk × List (List Int) × Nat × Nat) (fun i => [.dat i.1.P, .dat i.1.S, .dat (encN2 i.2.1), .dat (.int (i.2.2.1 : Int)), .dat (.int (i.2.2.2 : Int))]) (fun i => i.1.Ok ∧ Shp i.1.n i.2.1 ∧ i.2.2.1 ≤ i.2.2.2 ∧ i.2.2.2 ≤ i.1.n)
  (fun i d => d = .bool (cellB i.1.cp i.2.1 i.2.2.1 i.2.2.2))
theorem cl_cell {K : PySem.W.Frag} {ds : Slots} {ta tb tc td te : TE} {E : XK} {b : Bk} {N : List (List Int)} {i j : Nat} (o : b.Ok) (S : Shp b.n N) (hij : i ≤ j) (hj : j ≤ b.n) (ha : Ev K ta ds b.P) (hb : Ev K tb ds b.S) (hc : Ev K tc ds (encN2 N)) (hd : Ev K td ds (.int (i : Int))) (he : Ev K te ds (.int (j : Int))) :
    Ev K (tCall (spCell K) [] E (tCons ta (tCons tb (tCons tc (tCons td (tCons te tNil)))))) ds (.bool (cellB b.cp N i j)) := ev_call (b, N, i, j) (ea_cons ha (ea_cons hb (ea_cons hc (ea_cons hd (ea_cons he ea_nil))))) ⟨o, S, hij, hj⟩ fun _ e => e
abbrev spTabs (K : PySem.W.Frag) : Sp := spI K (ι := Bk × PyData) (fun i => [.dat i.1.P, .dat i.1.S, .dat i.2]) (fun i => i.1.Ok) (fun i d => d = .bool (tabsB i.1 i.2))
theorem cl_are_tables {K : PySem.W.Frag} {ds : Slots} {ta tb tc : TE} {d : PyData} {E : XK} {b : Bk} (o : b.Ok) (ha : Ev K ta ds b.P) (hb : Ev K tb ds b.S) (hc : Ev K tc ds d) : Ev K (tCall (spTabs K) [] E (tCons ta (tCons tb (tCons tc tNil)))) ds (.bool (tabsB b d)) := ev_call (b, d) (ea_cons ha (ea_cons hb (ea_cons hc ea_nil))) o fun _ e => e
theorem cl__law_are_tables {K : PySem.W.Frag} {ds : Slots} {ta tb tc : TE} {d : PyData} {E : XK} {b : Bk} (o : b.Ok) (ha : Ev K ta ds b.P) (hb : Ev K tb ds b.S) (hc : Ev K tc ds d) : Ev K (tCall (spTabs K) [] E (tCons ta (tCons tb (tCons tc tNil)))) ds (.bool (tabsB b d)) := cl_are_tables o ha hb hc
section
variable {P : Program} {w : World} {K : PySem.W.Frag} {mg : Str → Option Value} {base : Heap}
theorem ok_is_cell_right (B : Blt mg) (D : DefAt K mg "is_cell_right" "is_cell_right" s_is_cell_right p_is_cell_right) : FnOk P w K mg base CX0 1 D.f D.fd p_is_cell_right (spCell K) := by
  refine D.F.ok sc_is_cell_right (fun vs H Q E h => spI_len h (fun _ => rfl)) (fun cdv A outer s H vs Q E hr h => ⟨_, (pss_cons (ps_set (i := 5) sc_is_cell_right.nd rfl (.inl rfl) (pe_ix (kIxT K rfl) (pe_ix (kIxT K rfl) (pv 2) (pv 3) (fun _ _ => rfl)) (pe_op op_sub (pv 4) (pv 3)) (fun _ _ => rfl)))
      (pss_cons (ps_if (pt_cmpR op_lt (pv 5) pe_int (nomark _)) (pss_one (ps_ret pe_bl)) pss_nil)
      (pss_cons (ps_if (pt_cmpR op_eq (pv 3) (pv 4) (nomark _)) (pss_one (ps_ret pe_bl)) pss_nil)
      (pss_cons (ps_if (PW.pt (pw_or (pt_cmpR op_lt (pv 5) (pe_ix (kIxT K rfl) (pe_ix (kIxT K rfl) (pv 2) (pe_op op_add (pv 3) pe_int) (fun _ _ => rfl)) (pe_op op_sub (pe_op op_sub (pv 4) (pv 3)) pe_int) (fun _ _ => rfl)) (nomark _)) (pw_or1 (pt_cmpR op_lt (pv 5) (pe_ix (kIxT K rfl) (pe_ix (kIxT K rfl) (pv 2) (pv 3) (fun _ _ => rfl)) (pe_op op_sub (pe_op op_sub (pv 4) (pv 3)) pe_int) (fun _ _ => rfl)) (nomark _))))) (pss_one (ps_ret pe_bl)) pss_nil)
      (pss_cons (ps_if (PW.pt (pw_or (pt_cmpR op_eq (pe_op op_add (pv 3) pe_int) (pv 4) (nomark _)) (pw_or1 (pt_cmpR op_ne (pe_ix (kIxT K rfl) (pv 0) (pe_ix (kIxT K rfl) (pv 1) (pv 3) (fun _ _ => rfl)) (fun _ _ => rfl)) (pe_ix (kIxT K rfl) (pv 1) (pe_op op_sub (pv 4) pe_int) (fun _ _ => rfl)) (nomark _))))) (pss_one (ps_ret pe_bl)) pss_nil)
      (pss_one (ps_ret (pe_cmpR op_ge (pv 5) (pe_op op_add (pe_ix (kIxT K rfl) (pe_ix (kIxT K rfl) (pv 2) (pe_op op_add (pv 3) pe_int) (fun _ _ => rfl)) (pe_op op_sub (pe_op op_sub (pv 4) (pv 3)) pe_int) (fun _ _ => rfl)) pe_int) (nomark _))))))))), run_fn0 h ?_⟩)
  rintro ⟨b, N, i, j⟩ ⟨o, S, hij, hj⟩
  have o : b.Ok := o
  have S : Shp b.n N := S
  have hij : i ≤ j := hij
  have hj : j ≤ b.n := hj
  have no : ¬ (0 ≤ tN N i j ∧ (i < j → tN N (i + 1) j ≤ tN N i j ∧ tN N i (j - 1) ≤ tN N i j ∧ (i + 1 < j → b.cp i (j - 1) = true → tN N (i + 1) (j - 1) + 1 ≤ tN N i j))) → PyData.bool false = .bool (cellB b.cp N i j) := fun h => by
    rw [← cellB_iff] at h
    rw [Bool.eq_false_iff.mpr h]
  have yes : (0 ≤ tN N i j ∧ (i < j → tN N (i + 1) j ≤ tN N i j ∧ tN N i (j - 1) ≤ tN N i j ∧ (i + 1 < j → b.cp i (j - 1) = true → tN N (i + 1) (j - 1) + 1 ≤ tN N i j))) → PyData.bool true = .bool (cellB b.cp N i j) := fun h => by
    rw [← cellB_iff] at h
    rw [h]
  show Run K _ ([.dat b.P, .dat b.S, .dat (encN2 N), .dat (.int (i : Int)), .dat (.int (j : Int)), .nil] : Slots) _ (fun x => x = .bool (cellB b.cp N i j))
  refine run_set (ev_cell S (ev_var rfl) (ev_var rfl) (ev_op (ev_var rfl) (ev_var rfl) rd_sub) rfl rfl hij hj) ?_
  refine run_guard (et_test (ev_op (ev_var rfl) ev_int rd_lt)) (fun h => run_ret (Ev.is ev_bl (no fun q => ?_))) fun h0 => ?_
  · have := of_decide_eq_true h
    omega
  have h0 := of_decide_eq_false h0
  refine run_guard (et_test (ev_op (ev_var rfl) (ev_var rfl) rd_eqI)) (fun h => run_ret (Ev.is ev_bl (yes ⟨by omega, fun q => ?_⟩))) fun h1 => ?_
  · have := of_decide_eq_true h
    omega
  have h1 := of_decide_eq_false h1
  have hlt : i < j := by omega
  refine run_guard (et_or (et_test (ev_op (ev_var rfl) (ev_cell (i := i + 1) (j := j) S (ev_var rfl) (ev_op (ev_var rfl) ev_int rd_add) (ev_op (ev_op (ev_var rfl) (ev_var rfl) rd_sub) ev_int rd_sub) (by omega) (by omega) (by omega) hj) rd_lt)) fun _ =>
    et_test (ev_op (ev_var rfl) (ev_cell (i := i) (j := j - 1) S (ev_var rfl) (ev_var rfl) (ev_op (ev_op (ev_var rfl) (ev_var rfl) rd_sub) ev_int rd_sub) rfl (by omega) (by omega) (by omega)) rd_lt)) (fun h => run_ret (Ev.is ev_bl (no fun q => ?_))) fun h2 => ?_
  · rw [Bool.or_eq_true, decide_eq_true_iff, decide_eq_true_iff] at h
    have := q.2 hlt
    omega
  rw [Bool.or_eq_false_iff, decide_eq_false_iff_not, decide_eq_false_iff_not] at h2
  refine run_guard (b := decide (i + 1 = j) || !b.cp i (j - 1)) (EvB.is (et_or (et_test (ev_op (ev_op (ev_var rfl) ev_int rd_add) (ev_var rfl) rd_eqI)) fun _ => et_test (ev_op (ev_ctr o (ev_var rfl) (ev_var rfl) (ev_var rfl) rfl (by omega)) (ev_mark (i := j - 1) (ev_var rfl) (ev_op (ev_var rfl) ev_int rd_sub) (by omega) (by omega)) rd_neI)) ?_) (fun h => run_ret (Ev.is ev_bl (yes ⟨by omega, fun q => ⟨by omega, by omega, fun h4 h5 => ?_⟩⟩))) fun h3 => ?_
  · rw [cpD]
    congr 1
    by_cases q : i + 1 = j
    · rw [decide_eq_true q, decide_eq_true (by omega)]
    · rw [decide_eq_false q, decide_eq_false (by omega)]
  · rw [Bool.or_eq_true, decide_eq_true_iff, h5] at h
    rcases h with h | h
    · omega
    · cases h
  rw [Bool.or_eq_false_iff, decide_eq_false_iff_not, Bool.not_eq_false'] at h3
  refine run_ret (Ev.is (ev_op (ev_var rfl) (ev_op (ev_cell (i := i + 1) (j := j - 1) S (ev_var rfl) (ev_op (ev_var rfl) ev_int rd_add) (ev_op (ev_op (ev_var rfl) (ev_var rfl) rd_sub) ev_int rd_sub) (by omega) (by omega) (by omega) (by omega)) ev_int rd_add) rd_ge) ?_)
  by_cases h : tN N (i + 1) (j - 1) + 1 ≤ tN N i j
  · rw [decide_eq_true h]
    exact yes ⟨by omega, fun _ => ⟨by omega, by omega, fun _ _ => h⟩⟩
  · rw [decide_eq_false h]
    exact no fun q => h ((q.2 hlt).2.2 (by omega) h3.2)
theorem ok_are_tables (B : Blt mg) (D : DefAt K mg "are_tables" "are_tables" s_are_tables p_are_tables) (D_are_integers : DefAt K mg "are_integers" "are_integers" s_are_integers p_are_integers) (G_are_integers : FnOk P w K mg base CX0 1 D_are_integers.f D_are_integers.fd p_are_integers (spInts K))
    (D_is_cell_right : DefAt K mg "is_cell_right" "is_cell_right" s_is_cell_right p_is_cell_right) (G_is_cell_right : FnOk P w K mg base CX0 1 D_is_cell_right.f D_is_cell_right.fd p_is_cell_right (spCell K)) : FnOk P w K mg base CX0 2 D.f D.fd p_are_tables (spTabs K) := by
  refine D.F.ok sc_are_tables (fun vs H Q E h => spI_len h (fun _ => rfl)) (fun cdv A outer s H vs Q E hr h => ⟨_, (pss_cons (ps_set (i := 3) sc_are_tables.nd rfl (.inr rfl) (pe_callB (kLen K rfl) (by rfl) B.len bt_len (pa_cons (pv 1) pa_nil)))
      (pss_cons (ps_if (PW.pt (pw_or (pt_not (pt_val (pe_callB (kIsi K rfl) (by rfl) B.isinstance bt_isinstance (pa_cons (pv 2) (pa_cons (pe_bltn (v := .ty "tuple") (by rfl) B.tuple bt_tuple rfl) pa_nil))))) (pw_or (pt_cmpR op_ne (pe_callB (kLen K rfl) (by rfl) B.len bt_len (pa_cons (pv 2) pa_nil)) pe_int (nomark _)) (pw_or1 (pt_not (pt_val (pe_call G_are_integers (hr.mono (by walk_at "lvl")) (by rfl) D_are_integers.m D_are_integers.F.kp D_are_integers.b .nil pass0 (pa_cons (pe_ix (kIxT K rfl) (pv 2) pe_int (fun _ _ => rfl)) (pa_cons (pe_op op_add (pv 3) pe_int) pa_nil))))))))) (pss_one (ps_ret pe_bl)) pss_nil)
      (pss_cons (ps_asg (pv 2) (kPgT (n := 2) K rfl rfl (pgs_cons (pg_name (i := 4) sc_are_tables.nd rfl (.inl rfl)) (pgs_cons (pg_name (i := 5) sc_are_tables.nd rfl (.inl rfl)) pgs_nil))))
      (pss_cons (ps_if (PW.pt (pw_or (pt_not (pt_val (pe_callB (kIsi K rfl) (by rfl) B.isinstance bt_isinstance (pa_cons (pv 4) (pa_cons (pe_bltn (v := .ty "tuple") (by rfl) B.tuple bt_tuple rfl) pa_nil))))) (pw_or1 (pt_cmpR op_ne (pe_callB (kLen K rfl) (by rfl) B.len bt_len (pa_cons (pv 4) pa_nil)) (pe_op op_add (pv 3) pe_int) (nomark _))))) (pss_one (ps_ret pe_bl)) pss_nil)
      (pss_cons (ps_if (PW.pt (pw_or (pt_not (pt_val (pe_callB (kAll K rfl rfl) (by rfl) B.all bt_all (pa_cons (pe_lc (own := [("start", 6), ("row", 7)]) rfl sc_are_tables.nd (kEnumT K rfl (by rfl) B.enumerate (pa_cons (pv 4) pa_nil)) (blkOk_by (N := N_are_tables) (sc := defScope s_are_tables) (by decide +kernel)) (fun _ _ _ _ _ => (kPgT (n := 2) K rfl rfl (pgs_cons (pg_name (i := 6) sc_are_tables.nd rfl (.inl rfl)) (pgs_cons (pg_name (i := 7) sc_are_tables.nd rfl (.inl rfl)) pgs_nil)))) (fun _ _ _ _ _ => pts_nil) (fun _ _ _ _ _ => (pe_call G_are_integers (hr.mono (by walk_at "lvl")) (by rfl) D_are_integers.m D_are_integers.F.kp D_are_integers.b .nil pass0 (pa_cons (pv 7) (pa_cons (pe_op op_sub (pe_op op_add (pv 3) pe_int) (pv 6)) pa_nil))))) pa_nil)))) (pw_or1 (pt_cmpR op_lt (pe_ix (kIxT K rfl) (pv 5) (pv 3) (fun _ _ => rfl)) pe_int (nomark _))))) (pss_one (ps_ret pe_bl)) pss_nil)
      (pss_cons (ps_for PassesOwn.never rfl (pi_range1 (by rfl) B.range (pa_cons (pe_op op_add (pv 3) pe_int) pa_nil)) (pg_name (i := 6) sc_are_tables.nd rfl (.inl rfl))
      (pss_one (ps_for PassesOwn.never rfl (pi_range2 (by rfl) B.range (pa_cons (pv 6) (pa_cons (pe_op op_add (pv 3) pe_int) pa_nil))) (pg_name (i := 8) sc_are_tables.nd rfl (.inl rfl))
      (pss_cons (ps_if (pt_not (pt_val (pe_call G_is_cell_right (hr.mono (by walk_at "lvl")) (by rfl) D_is_cell_right.m D_is_cell_right.F.kp D_is_cell_right.b .nil pass0 (pa_cons (pv 0) (pa_cons (pv 1) (pa_cons (pv 4) (pa_cons (pv 6) (pa_cons (pv 8) pa_nil)))))))) (pss_one (ps_ret pe_bl)) pss_nil)
      (pss_one (ps_if (PW.pt (pw_and (pt_cmpR op_lt (pv 6) (pv 8) (nomark _)) (pw_and1 (pt_cmpR op_lt (pe_ix (kIxT K rfl) (pv 5) (pv 6) (fun _ _ => rfl)) (pe_op op_add (pe_ix (kIxT K rfl) (pe_ix (kIxT K rfl) (pv 4) (pv 6) (fun _ _ => rfl)) (pe_op op_sub (pv 8) (pv 6)) (fun _ _ => rfl)) (pe_ix (kIxT K rfl) (pv 5) (pv 8) (fun _ _ => rfl))) (nomark _))))) (pss_one (ps_ret pe_bl)) pss_nil))))))
      (pss_one (ps_ret pe_bl)))))))), run_fn0 h ?_⟩)
  rintro ⟨b, d⟩ o
  have o : b.Ok := o
  have hs : (b.ss.map iD).length = b.n := List.length_map _
  have n7 : b.n ≤ 7 := o.s12
  have no : ¬ TabsB b d → PyData.bool false = .bool (tabsB b d) := fun h => by rw [tabs_no h]
  show Run K _ ([.dat b.P, .dat b.S, .dat d, .nil, .nil, .nil, .nil, .nil, .nil] : Slots) _ (fun x => x = .bool (tabsB b d))
  refine run_set (Ev.is (ev_cb (ea_cons (ev_var rfl) ea_nil) cd_lenT) (by rw [hs])) ?_
  rcases tup_or d with ⟨l, rfl⟩ | hd
  · by_cases hl : (l.length : Int) = 2
    · obtain ⟨x, y, rfl⟩ := two_of hl
      cases hy : intsB y ((b.n : Int) + 1) with
      | false =>
        refine run_guard (b := true) (et_or_f (EvB.is (et_not (et_B (ev_isTup (ev_var rfl)))) rfl) (et_or_f (EvB.is (et_test (ev_op (ev_cb (ea_cons (ev_var rfl) ea_nil) cd_lenT) ev_int rd_neI)) rfl) (EvB.is (et_not (et_B (cl_ints (by omega) (ev_op (ev_var rfl) ev_int (rd_ixT rfl)) (ev_op (ev_var rfl) ev_int rd_add)))) (by rw [hy]; rfl)))) (fun _ => run_ret (Ev.is ev_bl (no ?_))) (fun h => by cases h)
        rintro ⟨N, E, e, S, hE, _⟩
        unfold tabD at e
        injection e with e
        injection e with e1 e2
        injection e2 with e2 _
        rw [e2, ints_enc, hE, decide_eq_true (by omega)] at hy
        cases hy
      | true =>
        refine run_guard (b := false) (et_or_f (EvB.is (et_not (et_B (ev_isTup (ev_var rfl)))) rfl) (et_or_f (EvB.is (et_test (ev_op (ev_cb (ea_cons (ev_var rfl) ea_nil) cd_lenT) ev_int rd_neI)) rfl) (EvB.is (et_not (et_B (cl_ints (by omega) (ev_op (ev_var rfl) ev_int (rd_ixT rfl)) (ev_op (ev_var rfl) ev_int rd_add)))) (by rw [hy]; rfl)))) (fun h => by cases h) fun _ => ?_
        obtain ⟨E, rfl, hE⟩ := ints_some hy
        have hE : E.length = b.n + 1 := by omega
        refine run_unpack (vs := [4, 5]) (ev_var rfl) eg_pair ?_
        rcases tup_or x with ⟨l, rfl⟩ | hx
        · by_cases hl2 : (l.length : Int) = (b.n : Int) + 1
          · refine run_guard (b := false) (et_or_f (EvB.is (et_not (et_B (ev_isTup (ev_var rfl)))) rfl) (EvB.is (et_test (ev_op (ev_cb (ea_cons (ev_var rfl) ea_nil) cd_lenT) (ev_op (ev_var rfl) ev_int rd_add) rd_neI)) (by rw [decide_eq_true hl2]; rfl))) (fun h => by cases h) fun _ => ?_
            have hl3 : l.length = b.n + 1 := by omega
            have allE : ∀ {E' : XK}, Ev K (tCB (rAll K) (tCons (tLc (iEnumT K (tCons (tVar 4) tNil)) (gTup K 2 (gCons (gName 6) (gCons (gName 7) gNil))) tYes (tCall (spInts K) [] E' (tCons (tVar 7) (tCons (tOp (rI0 fun i j => .int (i - j)) (tOp (rI0 fun i j => .int (i + j)) (tVar 3) (tC (.int 1))) (tVar 6)) tNil))) [6, 7]) tNil)) [.dat b.P, .dat b.S, .dat (.tuple [.tuple l, encI E]), .dat (.int (b.n : Int)), .dat (.tuple l), .dat (encI E), .nil, .nil, .nil] (.bool (rowsB b.n l)) := fun {E'} =>
              ev_cb (ea_cons (ev_map (h := fun i => .bool (intsB (l.getD i .none) ((b.n : Int) + 1 - (i : Int)))) (ei_enumT (ea_cons (ev_var rfl) ea_nil)) (by omega) fun i hi => ⟨_, eg_pair, cl_ints (by omega) (ev_var rfl) (ev_op (ev_op (ev_var rfl) ev_int rd_add) (ev_var rfl) rd_sub)⟩) ea_nil) cd_allF
            cases hr : rowsB b.n l with
            | false =>
              refine run_guard (b := true) (et_or_t (EvB.is (et_not (et_B allE)) (by rw [hr]; rfl))) (fun _ => run_ret (Ev.is ev_bl (no ?_))) (fun h => by cases h)
              rintro ⟨N, E2, e, S, hE2, _⟩
              unfold tabD encN2 at e
              injection e with e
              injection e with e1 e2
              injection e1 with e1
              rw [e1, rows_enc S] at hr
              cases hr
            | true =>
              obtain ⟨N, rfl, S⟩ := rows_some hl3 hr
              have tab : ∀ N' E', PyData.tuple [.tuple (N.map encI), encI E] = tabD N' E' → N' = N ∧ E' = E := fun N' E' e => by
                unfold tabD encN2 at e
                injection e with e
                injection e with e1 e2
                injection e2 with e2 _
                injection e1 with e1
                exact ⟨(map_inj (fun x y e => encI_inj e) e1).symm, (encI_inj e2).symm⟩
              have no : rightB b.n b.cp N E = false → PyData.bool false = .bool (tabsB b (.tuple [.tuple (N.map encI), encI E])) := fun h => no (by
                rintro ⟨N', E', e, S', hE', hr'⟩
                obtain ⟨rfl, rfl⟩ := tab N' E' e
                rw [h] at hr'
                cases hr')
              have noA : ∀ {P : Prop}, (rightB b.n b.cp N E = true → P) → ¬ P → PyData.bool false = .bool (tabsB b (.tuple [.tuple (N.map encI), encI E])) := fun h hn => no (Bool.eq_false_iff.mpr fun z => hn (h z))
              refine run_guard (b := decide (tE E b.n < 0)) (et_or_f (EvB.is (et_not (et_B allE)) (by rw [hr]; rfl)) (et_test (ev_op (ev_end hE (ev_var rfl) (ev_var rfl) rfl (Nat.le_refl _)) ev_int rd_lt))) (fun h => run_ret (Ev.is ev_bl (noA (fun z => (rightB_all.mp z).1) ?_))) fun h0 => ?_
              · have := of_decide_eq_true h
                omega
              have h0 := of_decide_eq_false h0
              refine run_seq (N1 := fun x => ∀ i j, i ≤ j → j ≤ b.n → cellB b.cp N i j = true ∧ endB N E i j = true) ?_ ?_
              · refine run_scan (vs := [6]) (EI := fun x => ∃ s6 s7 s8, x = [.dat b.P, .dat b.S, .dat (.tuple [.tuple (N.map encI), encI E]), .dat (.int (b.n : Int)), .dat (encN2 N), .dat (encI E), s6, s7, s8]) (ok := fun i => ∀ j, i ≤ j → j ≤ b.n → cellB b.cp N i j = true ∧ endB N E i j = true)
                  (ei_r1 (n := (b.n : Int) + 1) (ea_cons (ev_op (ev_var rfl) ev_int rd_add) ea_nil) (by omega)) ⟨_, _, _, rfl⟩ ?_ ?_
                · rintro i ds' hi ⟨s6, s7, s8, rfl⟩ _
                  have hi : i ≤ b.n := by omega
                  refine ⟨_, eg_name, ?_⟩
                  refine run_scan (vs := [8]) (EI := fun x => ∃ s7 s8, x = [.dat b.P, .dat b.S, .dat (.tuple [.tuple (N.map encI), encI E]), .dat (.int (b.n : Int)), .dat (encN2 N), .dat (encI E), .dat (.int (i : Int)), s7, s8]) (ok := fun m => cellB b.cp N i (i + m) = true ∧ endB N E i (i + m) = true)
                    (ei_r2 (lo := (i : Int)) (hi := (b.n : Int) + 1) (ea_cons (ev_var rfl) (ea_cons (ev_op (ev_var rfl) ev_int rd_add) ea_nil)) (by omega) (by omega)) ⟨_, _, rfl⟩ ?_ ?_
                  · rintro m ds' hm ⟨s7, s8, rfl⟩ _
                    have hm : i + m ≤ b.n := by omega
                    have em : (i : Int) + (m : Nat) = ((i + m : Nat) : Int) := by omega
                    refine ⟨_, eg_name, ?_⟩
                    rw [em]
                    refine run_guard (EvB.is (et_not (et_B (cl_cell o S (by omega) hm (ev_var rfl) (ev_var rfl) (ev_var rfl) (ev_var rfl) (ev_var rfl)))) rfl) (fun h => run_ret (Ev.is ev_bl (noA (fun z => ((rightB_all.mp z).2 i (i + m) (by omega) hm).1) ?_))) fun h1 => ?_
                    · rw [Bool.not_eq_true'] at h
                      rw [h]
                      exact Bool.false_ne_true
                    rw [Bool.not_eq_false'] at h1
                    refine run_if (b := !endB N E i (i + m)) (EvB.is (et_and (et_test (ev_op (ev_var rfl) (ev_var rfl) rd_lt)) fun _ => et_test (ev_op (ev_end hE (ev_var rfl) (ev_var rfl) rfl hi) (ev_op (ev_cell S (ev_var rfl) (ev_var rfl) (ev_op (ev_var rfl) (ev_var rfl) rd_sub) rfl rfl (by omega) hm) (ev_end hE (ev_var rfl) (ev_var rfl) rfl hm) rd_add) rd_lt)) ?_) (fun h => run_ret (Ev.is ev_bl (noA (fun z => ((rightB_all.mp z).2 i (i + m) (by omega) hm).2) ?_))) fun h => run_next ⟨⟨_, _, rfl⟩, h1, by simpa using h⟩
                    · unfold endB
                      rw [dlt, Bool.not_or, Bool.not_not]
                      congr 1
                      by_cases q : tN N i (i + m) + tE E (i + m) ≤ tE E i
                      · rw [decide_eq_true q, decide_eq_false (by omega)]; rfl
                      · rw [decide_eq_false q, decide_eq_true (by omega)]; rfl
                    · rw [Bool.not_eq_true'] at h
                      rw [h]
                      exact Bool.false_ne_true
                  · rintro ds' ⟨s7, s8, rfl⟩ h
                    refine ⟨⟨_, _, _, rfl⟩, fun j hij hj => ?_⟩
                    have := h (j - i) (by omega)
                    rwa [show i + (j - i) = j by omega] at this
                · rintro ds' ⟨s6, s7, s8, rfl⟩ h
                  exact fun i j hij hj => h i (by omega) j hij hj
              · intro ds' hall
                refine run_ret (Ev.is ev_bl ?_)
                show PyData.bool true = .bool (tabsB b (tabD N E))
                rw [tabs_yes ⟨N, E, rfl, S, hE, rightB_all.mpr ⟨by omega, hall⟩⟩]
          · refine run_guard (b := true) (et_or_f (EvB.is (et_not (et_B (ev_isTup (ev_var rfl)))) rfl) (EvB.is (et_test (ev_op (ev_cb (ea_cons (ev_var rfl) ea_nil) cd_lenT) (ev_op (ev_var rfl) ev_int rd_add) rd_neI)) (by rw [decide_eq_false hl2]; rfl))) (fun _ => run_ret (Ev.is ev_bl (no ?_))) (fun h => by cases h)
            rintro ⟨N, E2, e, S, hE2, _⟩
            unfold tabD encN2 at e
            injection e with e
            injection e with e1 e2
            injection e1 with e1
            rw [e1, List.length_map, S.len] at hl2
            omega
        · refine run_guard (b := true) (et_or_t (EvB.is (et_not (et_B (ev_isTup (ev_var rfl)))) (by rw [hx]; rfl))) (fun _ => run_ret (Ev.is ev_bl (no ?_))) (fun h => by cases h)
          rintro ⟨N, E2, e, S, hE2, _⟩
          unfold tabD encN2 at e
          injection e with e
          injection e with e1 e2
          rw [e1] at hx
          cases hx
    · refine run_guard (b := true) (et_or_f (EvB.is (et_not (et_B (ev_isTup (ev_var rfl)))) rfl) (et_or_t (EvB.is (et_test (ev_op (ev_cb (ea_cons (ev_var rfl) ea_nil) cd_lenT) ev_int rd_neI)) (by rw [decide_eq_false hl]; rfl)))) (fun _ => run_ret (Ev.is ev_bl (no ?_))) (fun h => by cases h)
      rintro ⟨N, E2, e, S, hE2, _⟩
      unfold tabD encN2 at e
      injection e with e
      rw [e] at hl
      exact hl rfl
  · refine run_guard (b := true) (et_or_t (EvB.is (et_not (et_B (ev_isTup (ev_var rfl)))) (by rw [hd]; rfl))) (fun _ => run_ret (Ev.is ev_bl (no ?_))) (fun h => by cases h)
    rintro ⟨N, E2, e, S, hE2, _⟩
    rw [e] at hd
    cases hd
end
end K47
/-! K47: the law's judge of tables; the judges of evidence. -/
namespace K47
open PySem PySem.Spec PyProof.Rows L2
local macro_rules | `(tactic| walk_at "lvl") => `(tactic| first | decide | omega)
local macro_rules | `(tactic| walk_at "at") => `(tactic| first | rfl | assumption | exact atN (by assumption))
def lenT : PyData → Nat
  | .tuple l => l.length
  | _ => 0
def firstE : PyData → Int
  | .tuple [_, .tuple (.int e :: _)] => e
  | _ => 0
noncomputable def evB (b : Bk) (many : Int) (d : PyData) : Bool := match d with
  | .tuple [x, y] => validD b x && (decide ((b.n : Int) - 2 * (lenT x : Int) = many) && (tabsB b y && decide (firstE y ≤ (lenT x : Int))))
  | _ => false
abbrev spEv (K : PySem.W.Frag) : Sp := spI K (ι := Bk × Int × PyData) (fun i => [.dat i.1.P, .dat i.1.S, .dat (.int i.2.1), .dat i.2.2]) (fun i => i.1.Ok ∧ (0 ≤ i.2.1 ∧ i.2.1 ≤ 12) ∧ ∀ x y, i.2.2 = .tuple [x, y] → ∀ l, x = .tuple l → l.length ≤ 1000) (fun i d => d = .bool (evB i.1 i.2.1 i.2.2))
theorem cl_accepts_missing {K : PySem.W.Frag} {ds : Slots} {ta tb tc td : TE} {d : PyData} {many : Int} {E : XK} {b : Bk} (o : b.Ok) (hm : 0 ≤ many ∧ many ≤ 12) (hl : ∀ x y, d = .tuple [x, y] → ∀ l, x = .tuple l → l.length ≤ 1000) (ha : Ev K ta ds b.P) (hb : Ev K tb ds b.S) (hc : Ev K tc ds (.int many)) (hd : Ev K td ds d) :
    Ev K (tCall (spEv K) [] E (tCons ta (tCons tb (tCons tc (tCons td tNil))))) ds (.bool (evB b many d)) := ev_call (b, many, d) (ea_cons ha (ea_cons hb (ea_cons hc (ea_cons hd ea_nil)))) ⟨o, hm, hl⟩ fun _ e => e
theorem cl__law_is_evidence {K : PySem.W.Frag} {ds : Slots} {ta tb tc td : TE} {d : PyData} {many : Int} {E : XK} {b : Bk} (o : b.Ok) (hm : 0 ≤ many ∧ many ≤ 12) (hl : ∀ x y, d = .tuple [x, y] → ∀ l, x = .tuple l → l.length ≤ 1000) (ha : Ev K ta ds b.P) (hb : Ev K tb ds b.S) (hc : Ev K tc ds (.int many)) (hd : Ev K td ds d) :
    Ev K (tCall (spEv K) [] E (tCons ta (tCons tb (tCons tc (tCons td tNil))))) ds (.bool (evB b many d)) := cl_accepts_missing o hm hl ha hb hc hd
theorem ev_no {b : Bk} {many : Int} {l : List PyData} (h : ¬ (l.length : Int) = 2) : evB b many (.tuple l) = false := by
  match l, h with
  | [x, y], h => exact absurd rfl h
  | [], _ => rfl
  | [x], _ => rfl
  | x :: y :: z :: r, _ => rfl
theorem first_is {N : List (List Int)} {E : List Int} {n : Nat} (hE : E.length = n + 1) : firstE (tabD N E) = tE E 0 := by
  cases E with
  | nil => cases hE
  | cons e E => rfl
section
variable {P : Program} {w : World} {K : PySem.W.Frag} {mg : Str → Option Value} {base : Heap}
theorem ok_accepts_missing (B : Blt mg) (C : Cst mg) (D : DefAt K mg "accepts_missing" "accepts_missing" s_accepts_missing p_accepts_missing) (D_check_short : DefAt K mg "check_short" "check_short" s_check_short p_check_short) (G_check_short : FnOk P w K mg base CX0 4 D_check_short.f D_check_short.fd p_check_short (spShort K))
    (D_is_whole_missing : DefAt K mg "is_whole_missing" "is_whole" s_is_whole_missing p_is_whole_missing) (G_is_whole_missing : FnOk P w K mg base CX0 1 D_is_whole_missing.f D_is_whole_missing.fd p_is_whole_missing (spWhole K))
    (D_are_valid : DefAt K mg "are_valid" "are_valid" s_are_valid p_are_valid) (G_are_valid : FnOk P w K mg base CX0 3 D_are_valid.f D_are_valid.fd p_are_valid (spValid K))
    (D_are_tables : DefAt K mg "are_tables" "are_tables" s_are_tables p_are_tables) (G_are_tables : FnOk P w K mg base CX0 2 D_are_tables.f D_are_tables.fd p_are_tables (spTabs K)) : FnOk P w K mg base CX0 5 D.f D.fd p_accepts_missing (spEv K) := by
  refine D.F.ok sc_accepts_missing (fun vs H Q E h => spI_len h (fun _ => rfl)) (fun cdv A outer s H vs Q E hr h => ⟨_, (pss_cons (ps_expr (pe_call G_check_short (hr.mono (by walk_at "lvl")) (by rfl) D_check_short.m D_check_short.F.kp D_check_short.b .nil pass0 (pa_cons (pv 0) (pa_cons (pv 1) pa_nil))))
      (pss_cons (ps_if (pt_not (pt_val (pe_call G_is_whole_missing (hr.mono (by walk_at "lvl")) (by rfl) D_is_whole_missing.m D_is_whole_missing.F.kp D_is_whole_missing.b .nil pass0 (pa_cons (pv 2) (pa_cons pe_int (pa_cons (pe_glob (v := .int 12) (by rfl) C.MOST_LEAVES_missing.choose_spec ⟨_, rfl⟩) pa_nil)))))) (pss_one ps_never) pss_nil)
      (pss_cons (ps_if (PW.pt (pw_or (pt_not (pt_val (pe_callB (kIsi K rfl) (by rfl) B.isinstance bt_isinstance (pa_cons (pv 3) (pa_cons (pe_bltn (v := .ty "tuple") (by rfl) B.tuple bt_tuple rfl) pa_nil))))) (pw_or (pt_cmpR op_ne (pe_callB (kLen K rfl) (by rfl) B.len bt_len (pa_cons (pv 3) pa_nil)) pe_int (nomark _)) (pw_or1 (pt_not (pt_val (pe_call G_are_valid (hr.mono (by walk_at "lvl")) (by rfl) D_are_valid.m D_are_valid.F.kp D_are_valid.b .nil pass0 (pa_cons (pv 0) (pa_cons (pv 1) (pa_cons (pe_ix (kIxT K rfl) (pv 3) pe_int (fun _ _ => rfl)) pa_nil)))))))))) (pss_one (ps_ret pe_bl)) pss_nil)
      (pss_cons (ps_if (PW.pt (pw_or (pt_cmpR op_ne (pe_op op_sub (pe_callB (kLen K rfl) (by rfl) B.len bt_len (pa_cons (pv 1) pa_nil)) (pe_op op_mul pe_int (pe_callB (kLen K rfl) (by rfl) B.len bt_len (pa_cons (pe_ix (kIxT K rfl) (pv 3) pe_int (fun _ _ => rfl)) pa_nil)))) (pv 2) (nomark _)) (pw_or1 (pt_not (pt_val (pe_call G_are_tables (hr.mono (by walk_at "lvl")) (by rfl) D_are_tables.m D_are_tables.F.kp D_are_tables.b .nil pass0 (pa_cons (pv 0) (pa_cons (pv 1) (pa_cons (pe_ix (kIxT K rfl) (pv 3) pe_int (fun _ _ => rfl)) pa_nil))))))))) (pss_one (ps_ret pe_bl)) pss_nil)
      (pss_one (ps_ret (pe_cmpR op_le (pe_ix (kIxT K rfl) (pe_ix (kIxT K rfl) (pe_ix (kIxT K rfl) (pv 3) pe_int (fun _ _ => rfl)) pe_int (fun _ _ => rfl)) pe_int (fun _ _ => rfl)) (pe_callB (kLen K rfl) (by rfl) B.len bt_len (pa_cons (pe_ix (kIxT K rfl) (pv 3) pe_int (fun _ _ => rfl)) pa_nil)) (nomark _)))))))), run_fn0 h ?_⟩)
  rintro ⟨b, many, d⟩ ⟨o, hm, hlen⟩
  have o : b.Ok := o
  have hm : 0 ≤ many ∧ many ≤ 12 := hm
  have hlen : ∀ x y, d = .tuple [x, y] → ∀ l, x = .tuple l → l.length ≤ 1000 := hlen
  have hs : (b.ss.map iD).length = b.n := List.length_map _
  show Run K _ ([.dat b.P, .dat b.S, .dat (.int many), .dat d] : Slots) _ (fun x => x = .bool (evB b many d))
  refine run_seq (N1 := fun x => x = [.dat b.P, .dat b.S, .dat (.int many), .dat d]) (run_drop (cl_check_short o (ev_var rfl) (ev_var rfl)) rfl) fun x ex => ?_
  subst ex
  refine run_guard (b := false) (EvB.is (et_not (et_B (cl_is_whole (ev_var rfl) ev_int ev_int))) ?_) (fun h => by cases h) fun _ => ?_
  · show (!(decide ((0 : Int) ≤ many) && decide (many ≤ 12))) = false
    rw [decide_eq_true hm.1, decide_eq_true hm.2]
    rfl
  rcases tup_or d with ⟨l, rfl⟩ | hd
  · by_cases hl : (l.length : Int) = 2
    · obtain ⟨x, y, rfl⟩ := two_of hl
      cases hv : validD b x with
      | false =>
        refine run_guard (b := true) (et_or_f (EvB.is (et_not (et_B (ev_isTup (ev_var rfl)))) rfl) (et_or_f (EvB.is (et_test (ev_op (ev_cb (ea_cons (ev_var rfl) ea_nil) cd_lenT) ev_int rd_neI)) rfl) (EvB.is (et_not (et_B (cl_valid o (hlen x y rfl) (ev_var rfl) (ev_var rfl) (ev_op (ev_var rfl) ev_int (rd_ixT rfl))))) (by rw [hv]; rfl)))) (fun _ => run_ret (Ev.is ev_bl ?_)) (fun h => by cases h)
        show _ = PyData.bool (validD b x && _)
        rw [hv]
        rfl
      | true =>
        obtain ⟨m, rfl⟩ : ∃ m, x = .tuple m := by
          rcases tup_or x with h | h
          · exact h
          · rw [validD_no h] at hv; cases hv
        have hml := hlen _ y rfl m rfl
        refine run_guard (b := false) (et_or_f (EvB.is (et_not (et_B (ev_isTup (ev_var rfl)))) rfl) (et_or_f (EvB.is (et_test (ev_op (ev_cb (ea_cons (ev_var rfl) ea_nil) cd_lenT) ev_int rd_neI)) rfl) (EvB.is (et_not (et_B (cl_valid o (hlen _ y rfl) (ev_var rfl) (ev_var rfl) (ev_op (ev_var rfl) ev_int (rd_ixT rfl))))) (by rw [hv]; rfl)))) (fun h => by cases h) fun _ => ?_
        have lenV : ∀ {ds : Slots}, ds[3]? = some (.dat (.tuple [.tuple m, y])) → Ev K (tCB (rLen K) (tCons (tOp (rIxT K) (tVar 3) (tC (.int 0))) tNil)) ds (.int (m.length : Int)) := fun h => ev_cb (ea_cons (ev_op (ev_var h) ev_int (rd_ixT rfl)) ea_nil) cd_lenT
        have cm : CMul 2 (m.length : Int) := by
          unfold CMul
          omega
        refine run_guard (b := !(decide ((b.n : Int) - 2 * (m.length : Int) = many) && tabsB b y)) (EvB.is (et_or (et_test (ev_op (ev_op (ev_cb (ea_cons (ev_var rfl) ea_nil) cd_lenT) (ev_op ev_int (lenV rfl) (rd_mul cm)) rd_sub) (ev_var rfl) rd_neI)) fun _ => et_not (et_B (cl_are_tables o (ev_var rfl) (ev_var rfl) (ev_op (ev_var rfl) ev_int (rd_ixT rfl))))) ?_) (fun h => run_ret (Ev.is ev_bl ?_)) fun h => ?_
        · rw [hs, Bool.not_and]
        · show _ = PyData.bool (validD b (.tuple m) && (decide ((b.n : Int) - 2 * (m.length : Int) = many) && (tabsB b y && decide (firstE y ≤ (m.length : Int)))))
          rw [Bool.not_eq_true'] at h
          rw [← Bool.and_assoc (decide _), h]
          simp
        · rw [Bool.not_eq_false'] at h
          have h' := h
          rw [Bool.and_eq_true] at h'
          obtain ⟨N, E, rfl, S, hE, hr⟩ := tabs_of h'.2
          refine run_ret (Ev.is (ev_op (ev_end hE (ev_op (ev_op (ev_var rfl) ev_int (rd_ixT rfl)) ev_int (rd_ixT rfl)) ev_int rfl (Nat.zero_le _)) (lenV rfl) rd_le) ?_)
          show _ = PyData.bool (validD b (.tuple m) && (decide ((b.n : Int) - 2 * (m.length : Int) = many) && (tabsB b (tabD N E) && decide (firstE (tabD N E) ≤ (m.length : Int)))))
          rw [first_is hE, hv, h'.1, h'.2]
          rfl
    · refine run_guard (b := true) (et_or_f (EvB.is (et_not (et_B (ev_isTup (ev_var rfl)))) rfl) (et_or_t (EvB.is (et_test (ev_op (ev_cb (ea_cons (ev_var rfl) ea_nil) cd_lenT) ev_int rd_neI)) (by rw [decide_eq_false hl]; rfl)))) (fun _ => run_ret (Ev.is ev_bl ?_)) (fun h => by cases h)
      rw [ev_no hl]
  · refine run_guard (b := true) (et_or_t (EvB.is (et_not (et_B (ev_isTup (ev_var rfl)))) (by rw [hd]; rfl))) (fun _ => run_ret (Ev.is ev_bl ?_)) (fun h => by cases h)
    cases d with
    | tuple l => cases hd
    | _ => rfl
theorem ok__law_is_evidence (B : Blt mg) (D : DefAt K mg "_law_is_evidence" "_law_is_evidence" s__law_is_evidence p__law_is_evidence)
    (D__law_is_valid : DefAt K mg "_law_is_valid" "_law_is_valid" s__law_is_valid p__law_is_valid) (G__law_is_valid : FnOk P w K mg base CX0 3 D__law_is_valid.f D__law_is_valid.fd p__law_is_valid (spValid K))
    (D__law_are_tables : DefAt K mg "_law_are_tables" "_law_are_tables" s__law_are_tables p__law_are_tables) (G__law_are_tables : FnOk P w K mg base CX0 3 D__law_are_tables.f D__law_are_tables.fd p__law_are_tables (spTabs K)) : FnOk P w K mg base CX0 5 D.f D.fd p__law_is_evidence (spEv K) := by
  refine D.F.ok sc__law_is_evidence (fun vs H Q E h => spI_len h (fun _ => rfl)) (fun cdv A outer s H vs Q E hr h => ⟨_, (pss_cons (ps_if (PW.pt (pw_or (pt_not (pt_val (pe_callB (kIsi K rfl) (by rfl) B.isinstance bt_isinstance (pa_cons (pv 3) (pa_cons (pe_bltn (v := .ty "tuple") (by rfl) B.tuple bt_tuple rfl) pa_nil))))) (pw_or (pt_cmpR op_ne (pe_callB (kLen K rfl) (by rfl) B.len bt_len (pa_cons (pv 3) pa_nil)) pe_int (nomark _)) (pw_or1 (pt_not (pt_val (pe_call G__law_is_valid (hr.mono (by walk_at "lvl")) (by rfl) D__law_is_valid.m D__law_is_valid.F.kp D__law_is_valid.b .nil pass0 (pa_cons (pv 0) (pa_cons (pv 1) (pa_cons (pe_ix (kIxT K rfl) (pv 3) pe_int (fun _ _ => rfl)) pa_nil)))))))))) (pss_one (ps_ret pe_bl)) pss_nil)
      (pss_cons (ps_if (PW.pt (pw_or (pt_cmpR op_ne (pe_op op_sub (pe_callB (kLen K rfl) (by rfl) B.len bt_len (pa_cons (pv 1) pa_nil)) (pe_op op_mul pe_int (pe_callB (kLen K rfl) (by rfl) B.len bt_len (pa_cons (pe_ix (kIxT K rfl) (pv 3) pe_int (fun _ _ => rfl)) pa_nil)))) (pv 2) (nomark _)) (pw_or1 (pt_not (pt_val (pe_call G__law_are_tables (hr.mono (by walk_at "lvl")) (by rfl) D__law_are_tables.m D__law_are_tables.F.kp D__law_are_tables.b .nil pass0 (pa_cons (pv 0) (pa_cons (pv 1) (pa_cons (pe_ix (kIxT K rfl) (pv 3) pe_int (fun _ _ => rfl)) pa_nil))))))))) (pss_one (ps_ret pe_bl)) pss_nil)
      (pss_one (ps_ret (pe_cmpR op_le (pe_ix (kIxT K rfl) (pe_ix (kIxT K rfl) (pe_ix (kIxT K rfl) (pv 3) pe_int (fun _ _ => rfl)) pe_int (fun _ _ => rfl)) pe_int (fun _ _ => rfl)) (pe_callB (kLen K rfl) (by rfl) B.len bt_len (pa_cons (pe_ix (kIxT K rfl) (pv 3) pe_int (fun _ _ => rfl)) pa_nil)) (nomark _)))))), run_fn0 h ?_⟩)
  rintro ⟨b, many, d⟩ ⟨o, hm, hlen⟩
  have o : b.Ok := o
  have hm : 0 ≤ many ∧ many ≤ 12 := hm
  have hlen : ∀ x y, d = .tuple [x, y] → ∀ l, x = .tuple l → l.length ≤ 1000 := hlen
  have hs : (b.ss.map iD).length = b.n := List.length_map _
  show Run K _ ([.dat b.P, .dat b.S, .dat (.int many), .dat d] : Slots) _ (fun x => x = .bool (evB b many d))
  rcases tup_or d with ⟨l, rfl⟩ | hd
  · by_cases hl : (l.length : Int) = 2
    · obtain ⟨x, y, rfl⟩ := two_of hl
      cases hv : validD b x with
      | false =>
        refine run_guard (b := true) (et_or_f (EvB.is (et_not (et_B (ev_isTup (ev_var rfl)))) rfl) (et_or_f (EvB.is (et_test (ev_op (ev_cb (ea_cons (ev_var rfl) ea_nil) cd_lenT) ev_int rd_neI)) rfl) (EvB.is (et_not (et_B (cl_valid o (hlen x y rfl) (ev_var rfl) (ev_var rfl) (ev_op (ev_var rfl) ev_int (rd_ixT rfl))))) (by rw [hv]; rfl)))) (fun _ => run_ret (Ev.is ev_bl ?_)) (fun h => by cases h)
        show _ = PyData.bool (validD b x && _)
        rw [hv]
        rfl
      | true =>
        obtain ⟨m, rfl⟩ : ∃ m, x = .tuple m := by
          rcases tup_or x with h | h
          · exact h
          · rw [validD_no h] at hv; cases hv
        have hml := hlen _ y rfl m rfl
        refine run_guard (b := false) (et_or_f (EvB.is (et_not (et_B (ev_isTup (ev_var rfl)))) rfl) (et_or_f (EvB.is (et_test (ev_op (ev_cb (ea_cons (ev_var rfl) ea_nil) cd_lenT) ev_int rd_neI)) rfl) (EvB.is (et_not (et_B (cl_valid o (hlen _ y rfl) (ev_var rfl) (ev_var rfl) (ev_op (ev_var rfl) ev_int (rd_ixT rfl))))) (by rw [hv]; rfl)))) (fun h => by cases h) fun _ => ?_
        have lenV : ∀ {ds : Slots}, ds[3]? = some (.dat (.tuple [.tuple m, y])) → Ev K (tCB (rLen K) (tCons (tOp (rIxT K) (tVar 3) (tC (.int 0))) tNil)) ds (.int (m.length : Int)) := fun h => ev_cb (ea_cons (ev_op (ev_var h) ev_int (rd_ixT rfl)) ea_nil) cd_lenT
        have cm : CMul 2 (m.length : Int) := by
          unfold CMul
          omega
        refine run_guard (b := !(decide ((b.n : Int) - 2 * (m.length : Int) = many) && tabsB b y)) (EvB.is (et_or (et_test (ev_op (ev_op (ev_cb (ea_cons (ev_var rfl) ea_nil) cd_lenT) (ev_op ev_int (lenV rfl) (rd_mul cm)) rd_sub) (ev_var rfl) rd_neI)) fun _ => et_not (et_B (cl_are_tables o (ev_var rfl) (ev_var rfl) (ev_op (ev_var rfl) ev_int (rd_ixT rfl))))) ?_) (fun h => run_ret (Ev.is ev_bl ?_)) fun h => ?_
        · rw [hs, Bool.not_and]
        · show _ = PyData.bool (validD b (.tuple m) && (decide ((b.n : Int) - 2 * (m.length : Int) = many) && (tabsB b y && decide (firstE y ≤ (m.length : Int)))))
          rw [Bool.not_eq_true'] at h
          rw [← Bool.and_assoc (decide _), h]
          simp
        · rw [Bool.not_eq_false'] at h
          have h' := h
          rw [Bool.and_eq_true] at h'
          obtain ⟨N, E, rfl, S, hE, hr⟩ := tabs_of h'.2
          refine run_ret (Ev.is (ev_op (ev_end hE (ev_op (ev_op (ev_var rfl) ev_int (rd_ixT rfl)) ev_int (rd_ixT rfl)) ev_int rfl (Nat.zero_le _)) (lenV rfl) rd_le) ?_)
          show _ = PyData.bool (validD b (.tuple m) && (decide ((b.n : Int) - 2 * (m.length : Int) = many) && (tabsB b (tabD N E) && decide (firstE (tabD N E) ≤ (m.length : Int)))))
          rw [first_is hE, hv, h'.1, h'.2]
          rfl
    · refine run_guard (b := true) (et_or_f (EvB.is (et_not (et_B (ev_isTup (ev_var rfl)))) rfl) (et_or_t (EvB.is (et_test (ev_op (ev_cb (ea_cons (ev_var rfl) ea_nil) cd_lenT) ev_int rd_neI)) (by rw [decide_eq_false hl]; rfl)))) (fun _ => run_ret (Ev.is ev_bl ?_)) (fun h => by cases h)
      rw [ev_no hl]
  · refine run_guard (b := true) (et_or_t (EvB.is (et_not (et_B (ev_isTup (ev_var rfl)))) (by rw [hd]; rfl))) (fun _ => run_ret (Ev.is ev_bl ?_)) (fun h => by cases h)
    cases d with
    | tuple l => cases hd
    | _ => rfl
theorem ok__law_are_tables (B : Blt mg) (D : DefAt K mg "_law_are_tables" "_law_are_tables" s__law_are_tables p__law_are_tables) (D__law_are_numbers : DefAt K mg "_law_are_numbers" "_law_are_numbers" s__law_are_numbers p__law_are_numbers) (G__law_are_numbers : FnOk P w K mg base CX0 2 D__law_are_numbers.f D__law_are_numbers.fd p__law_are_numbers (spInts K)) :
    FnOk P w K mg base CX0 3 D.f D.fd p__law_are_tables (spTabs K) := by
  refine D.F.ok sc__law_are_tables (fun vs H Q E h => spI_len h (fun _ => rfl)) (fun cdv A outer s H vs Q E hr h => ⟨_, (pss_cons (ps_set (i := 3) sc__law_are_tables.nd rfl (.inr rfl) (pe_callB (kLen K rfl) (by rfl) B.len bt_len (pa_cons (pv 1) pa_nil)))
      (pss_cons (ps_if (PW.pt (pw_or (pt_not (pt_val (pe_callB (kIsi K rfl) (by rfl) B.isinstance bt_isinstance (pa_cons (pv 2) (pa_cons (pe_bltn (v := .ty "tuple") (by rfl) B.tuple bt_tuple rfl) pa_nil))))) (pw_or (pt_cmpR op_ne (pe_callB (kLen K rfl) (by rfl) B.len bt_len (pa_cons (pv 2) pa_nil)) pe_int (nomark _)) (pw_or (pt_not (pt_val (pe_callB (kIsi K rfl) (by rfl) B.isinstance bt_isinstance (pa_cons (pe_ix (kIxT K rfl) (pv 2) pe_int (fun _ _ => rfl)) (pa_cons (pe_bltn (v := .ty "tuple") (by rfl) B.tuple bt_tuple rfl) pa_nil))))) (pw_or1 (pt_cmpR op_ne (pe_callB (kLen K rfl) (by rfl) B.len bt_len (pa_cons (pe_ix (kIxT K rfl) (pv 2) pe_int (fun _ _ => rfl)) pa_nil)) (pe_op op_add (pv 3) pe_int) (nomark _))))))) (pss_one (ps_ret pe_bl)) pss_nil)
      (pss_cons (ps_asg (pv 2) (kPgT (n := 2) K rfl rfl (pgs_cons (pg_name (i := 4) sc__law_are_tables.nd rfl (.inr rfl)) (pgs_cons (pg_name (i := 5) sc__law_are_tables.nd rfl (.inl rfl)) pgs_nil))))
      (pss_cons (ps_if (PW.pt (pw_or (pt_not (pt_val (pe_call G__law_are_numbers (hr.mono (by walk_at "lvl")) (by rfl) D__law_are_numbers.m D__law_are_numbers.F.kp D__law_are_numbers.b .nil pass0 (pa_cons (pv 5) (pa_cons (pe_op op_add (pv 3) pe_int) pa_nil))))) (pw_or1 (pt_not (pt_val (pe_callB (kAll K rfl rfl) (by rfl) B.all bt_all (pa_cons (pe_lc (own := [("_law_at", 6)]) rfl sc__law_are_tables.nd (pi_range1 (by rfl) B.range (pa_cons (pe_op op_add (pv 3) pe_int) pa_nil)) (blkOk_by (N := N__law_are_tables) (sc := defScope s__law_are_tables) (by decide +kernel)) (fun _ _ _ _ _ => (pg_name (i := 6) sc__law_are_tables.nd rfl (.inl rfl))) (fun _ _ _ _ _ => pts_nil) (fun _ _ _ _ _ => (pe_call G__law_are_numbers (hr.mono (by walk_at "lvl")) (by rfl) D__law_are_numbers.m D__law_are_numbers.F.kp D__law_are_numbers.b .nil pass0 (pa_cons (pe_ix (kIxT K rfl) (pv 4) (pv 6) (fun _ _ => rfl)) (pa_cons (pe_op op_sub (pe_op op_add (pv 3) pe_int) (pv 6)) pa_nil))))) pa_nil))))))) (pss_one (ps_ret pe_bl)) pss_nil)
      (pss_cons (ps_for PassesOwn.never rfl (pi_range1 (by rfl) B.range (pa_cons (pe_op op_add (pv 3) pe_int) pa_nil)) (pg_name (i := 7) sc__law_are_tables.nd rfl (.inl rfl))
      (pss_one (ps_for PassesOwn.never rfl (pi_range2 (by rfl) B.range (pa_cons (pv 7) (pa_cons (pe_op op_add (pv 3) pe_int) pa_nil))) (pg_name (i := 8) sc__law_are_tables.nd rfl (.inl rfl))
      (pss_cons (ps_set (i := 9) sc__law_are_tables.nd rfl (.inl rfl) (pe_lst (pa_cons pe_int pa_nil)))
      (pss_cons (ps_if (pt_cmpR op_lt (pv 7) (pv 8) (nomark _)) (pss_cons (ps_set (i := 9) sc__law_are_tables.nd rfl (.inl rfl) (pe_lst (pa_cons pe_int (pa_cons (pe_ix (kIxT K rfl) (pe_ix (kIxT K rfl) (pv 4) (pe_op op_add (pv 7) pe_int) (fun _ _ => rfl)) (pe_op op_sub (pe_op op_sub (pv 8) (pv 7)) pe_int) (fun _ _ => rfl)) (pa_cons (pe_ix (kIxT K rfl) (pe_ix (kIxT K rfl) (pv 4) (pv 7) (fun _ _ => rfl)) (pe_op op_sub (pe_op op_sub (pv 8) (pv 7)) pe_int) (fun _ _ => rfl)) pa_nil)))))
      (pss_one (ps_if (pt_cmpR op_lt (pe_ix (kIxT K rfl) (pv 5) (pv 7) (fun _ _ => rfl)) (pe_op op_add (pe_ix (kIxT K rfl) (pe_ix (kIxT K rfl) (pv 4) (pv 7) (fun _ _ => rfl)) (pe_op op_sub (pv 8) (pv 7)) (fun _ _ => rfl)) (pe_ix (kIxT K rfl) (pv 5) (pv 8) (fun _ _ => rfl))) (nomark _)) (pss_one (ps_ret pe_bl)) pss_nil))) pss_nil)
      (pss_cons (ps_if (PW.pt (pw_and (pt_cmpR op_lt (pe_op op_add (pv 7) pe_int) (pv 8) (nomark _)) (pw_and1 (pt_cmpR op_eq (pe_ix (kIxT K rfl) (pv 0) (pe_ix (kIxT K rfl) (pv 1) (pv 7) (fun _ _ => rfl)) (fun _ _ => rfl)) (pe_ix (kIxT K rfl) (pv 1) (pe_op op_sub (pv 8) pe_int) (fun _ _ => rfl)) (nomark _))))) (pss_one (ps_expr (pe_bm PySem.F.plainAttrs_list PySem.F.slot_list_append PySem.F.type_list_append mt_append (pv 9) (pa_cons (pe_op op_add pe_int (pe_ix (kIxT K rfl) (pe_ix (kIxT K rfl) (pv 4) (pe_op op_add (pv 7) pe_int) (fun _ _ => rfl)) (pe_op op_sub (pe_op op_sub (pv 8) (pv 7)) pe_int) (fun _ _ => rfl))) pa_nil)))) pss_nil)
      (pss_one (ps_if (pt_cmpR op_lt (pe_ix (kIxT K rfl) (pe_ix (kIxT K rfl) (pv 4) (pv 7) (fun _ _ => rfl)) (pe_op op_sub (pv 8) (pv 7)) (fun _ _ => rfl)) (pe_callB (kMax K rfl rfl) (by rfl) B.max bt_max (pa_cons (pv 9) pa_nil)) (nomark _)) (pss_one (ps_ret pe_bl)) pss_nil))))))))
      (pss_one (ps_ret (pe_cmpR op_ge (pe_ix (kIxT K rfl) (pv 5) (pv 3) (fun _ _ => rfl)) pe_int (nomark _))))))))), run_fn0 h ?_⟩)
  rintro ⟨b, d⟩ o
  have o : b.Ok := o
  have hs : (b.ss.map iD).length = b.n := List.length_map _
  have n7 : b.n ≤ 7 := o.s12
  have no : ¬ TabsB b d → PyData.bool false = .bool (tabsB b d) := fun h => by rw [tabs_no h]
  show Run K _ ([.dat b.P, .dat b.S, .dat d, .nil, .nil, .nil, .nil, .nil, .nil, .nil] : Slots) _ (fun x => x = .bool (tabsB b d))
  refine run_set (Ev.is (ev_cb (ea_cons (ev_var rfl) ea_nil) cd_lenT) (by rw [hs])) ?_
  rcases tup_or d with ⟨l, rfl⟩ | hd
  · by_cases hl : (l.length : Int) = 2
    · obtain ⟨x, y, rfl⟩ := two_of hl
      rcases tup_or x with ⟨l, rfl⟩ | hx
      · by_cases hl2 : (l.length : Int) = (b.n : Int) + 1
        · have hl3 : l.length = b.n + 1 := by omega
          refine run_guard (b := false) (et_or_f (EvB.is (et_not (et_B (ev_isTup (ev_var rfl)))) rfl) (et_or_f (EvB.is (et_test (ev_op (ev_cb (ea_cons (ev_var rfl) ea_nil) cd_lenT) ev_int rd_neI)) rfl) (et_or_f (EvB.is (et_not (et_B (ev_isTup (ev_op (ev_var rfl) ev_int (rd_ixT rfl))))) rfl)
            (EvB.is (et_test (ev_op (ev_cb (ea_cons (ev_op (ev_var rfl) ev_int (rd_ixT rfl)) ea_nil) cd_lenT) (ev_op (ev_var rfl) ev_int rd_add) rd_neI)) (by rw [decide_eq_true hl2]; rfl))))) (fun h => by cases h) fun _ => ?_
          refine run_unpack (vs := [4, 5]) (ev_var rfl) eg_pair ?_
          cases hy : intsB y ((b.n : Int) + 1) with
          | false =>
            refine run_guard (b := true) (et_or_t (EvB.is (et_not (et_B (cl_ints (by omega) (ev_var rfl) (ev_op (ev_var rfl) ev_int rd_add)))) (by rw [hy]; rfl))) (fun _ => run_ret (Ev.is ev_bl (no ?_))) (fun h => by cases h)
            rintro ⟨N, E, e, S, hE, _⟩
            unfold tabD at e
            injection e with e
            injection e with e1 e2
            injection e2 with e2 _
            rw [e2, ints_enc, hE, decide_eq_true (by omega)] at hy
            cases hy
          | true =>
            obtain ⟨E, rfl, hE⟩ := ints_some hy
            have hE : E.length = b.n + 1 := by omega
            have allE : ∀ {E' : XK}, Ev K (tCB (rAll K) (tCons (tLc (iRng1 (tCons (tOp (rI0 fun i j => .int (i + j)) (tVar 3) (tC (.int 1))) tNil)) (gName 6) tYes (tCall (spInts K) [] E' (tCons (tOp (rIxT K) (tVar 4) (tVar 6)) (tCons (tOp (rI0 fun i j => .int (i - j)) (tOp (rI0 fun i j => .int (i + j)) (tVar 3) (tC (.int 1))) (tVar 6)) tNil))) [6]) tNil)) [.dat b.P, .dat b.S, .dat (.tuple [.tuple l, encI E]), .dat (.int (b.n : Int)), .dat (.tuple l), .dat (encI E), .nil, .nil, .nil, .nil] (.bool (rowsB b.n l)) := fun {E'} =>
              Ev.is (ev_cb (ea_cons (ev_map (h := fun i => .bool (intsB (l.getD i .none) ((b.n : Int) + 1 - (i : Int)))) (ei_r1 (n := (b.n : Int) + 1) (ea_cons (ev_op (ev_var rfl) ev_int rd_add) ea_nil) (by omega)) (by omega) fun i hi => ⟨_, eg_name, cl_ints (by omega) (ev_op (ev_var rfl) (ev_var rfl) (rd_ixT (atI_natD (by rw [List.getD_eq_getElem?_getD, List.getElem?_eq_getElem (show i < l.length by omega)]; rfl)))) (ev_op (ev_op (ev_var rfl) ev_int rd_add) (ev_var rfl) rd_sub)⟩) ea_nil) cd_allF) (by unfold rowsB; rw [hl3]; rfl)
            cases hr : rowsB b.n l with
            | false =>
              refine run_guard (b := true) (et_or_f (EvB.is (et_not (et_B (cl_ints (by omega) (ev_var rfl) (ev_op (ev_var rfl) ev_int rd_add)))) (by rw [hy]; rfl)) (EvB.is (et_not (et_B allE)) (by rw [hr]; rfl))) (fun _ => run_ret (Ev.is ev_bl (no ?_))) (fun h => by cases h)
              rintro ⟨N, E2, e, S, hE2, _⟩
              unfold tabD encN2 at e
              injection e with e
              injection e with e1 e2
              injection e1 with e1
              rw [e1, rows_enc S] at hr
              cases hr
            | true =>
              obtain ⟨N, rfl, S⟩ := rows_some hl3 hr
              refine run_guard (b := false) (et_or_f (EvB.is (et_not (et_B (cl_ints (by omega) (ev_var rfl) (ev_op (ev_var rfl) ev_int rd_add)))) (by rw [hy]; rfl)) (EvB.is (et_not (et_B allE)) (by rw [hr]; rfl))) (fun h => by cases h) fun _ => ?_
              have tab : ∀ N' E', PyData.tuple [.tuple (N.map encI), encI E] = tabD N' E' → N' = N ∧ E' = E := fun N' E' e => by
                unfold tabD encN2 at e
                injection e with e
                injection e with e1 e2
                injection e2 with e2 _
                injection e1 with e1
                exact ⟨(map_inj (fun x y e => encI_inj e) e1).symm, (encI_inj e2).symm⟩
              have no : rightB b.n b.cp N E = false → PyData.bool false = .bool (tabsB b (.tuple [.tuple (N.map encI), encI E])) := fun h => no (by
                rintro ⟨N', E', e, S', hE', hr'⟩
                obtain ⟨rfl, rfl⟩ := tab N' E' e
                rw [h] at hr'
                cases hr')
              have noA : ∀ {P : Prop}, (rightB b.n b.cp N E = true → P) → ¬ P → PyData.bool false = .bool (tabsB b (.tuple [.tuple (N.map encI), encI E])) := fun h hn => no (Bool.eq_false_iff.mpr fun z => hn (h z))
              refine run_seq (N1 := fun x => (∀ i j, i ≤ j → j ≤ b.n → cellB b.cp N i j = true ∧ endB N E i j = true) ∧ x = [.dat b.P, .dat b.S, .dat (.tuple [.tuple (N.map encI), encI E]), .dat (.int (b.n : Int)), .dat (encN2 N), .dat (encI E), .nil, .nil, .nil, .nil]) ?_ ?_
              · refine run_impW [6, 7, 8, 9] (N' := fun x => (∀ i j, i ≤ j → j ≤ b.n → cellB b.cp N i j = true ∧ endB N E i j = true) ∧ ∃ s6 s7 s8 s9, x = [.dat b.P, .dat b.S, .dat (.tuple [.tuple (N.map encI), encI E]), .dat (.int (b.n : Int)), .dat (encN2 N), .dat (encI E), s6, s7, s8, s9]) ?_ (fun x ⟨h, s6, s7, s8, s9, e⟩ => ⟨h, by rw [e]; rfl⟩)
                refine run_scan (vs := [7]) (EI := fun x => ∃ s6 s7 s8 s9, x = [.dat b.P, .dat b.S, .dat (.tuple [.tuple (N.map encI), encI E]), .dat (.int (b.n : Int)), .dat (encN2 N), .dat (encI E), s6, s7, s8, s9]) (ok := fun i => ∀ j, i ≤ j → j ≤ b.n → cellB b.cp N i j = true ∧ endB N E i j = true)
                  (ei_r1 (n := (b.n : Int) + 1) (ea_cons (ev_op (ev_var rfl) ev_int rd_add) ea_nil) (by omega)) ⟨_, _, _, _, rfl⟩ ?_ ?_
                · rintro i ds' hi ⟨s6, s7, s8, s9, rfl⟩ _
                  have hi : i ≤ b.n := by omega
                  refine ⟨_, eg_name, ?_⟩
                  refine run_scan (vs := [8]) (EI := fun x => ∃ s6 s8 s9, x = [.dat b.P, .dat b.S, .dat (.tuple [.tuple (N.map encI), encI E]), .dat (.int (b.n : Int)), .dat (encN2 N), .dat (encI E), s6, .dat (.int (i : Int)), s8, s9]) (ok := fun m => cellB b.cp N i (i + m) = true ∧ endB N E i (i + m) = true)
                    (ei_r2 (lo := (i : Int)) (hi := (b.n : Int) + 1) (ea_cons (ev_var rfl) (ea_cons (ev_op (ev_var rfl) ev_int rd_add) ea_nil)) (by omega) (by omega)) ⟨_, _, _, rfl⟩ ?_ ?_
                  · rintro m ds' hm ⟨s6, s8, s9, rfl⟩ _
                    have hm : i + m ≤ b.n := by omega
                    have em : (i : Int) + (m : Nat) = ((i + m : Nat) : Int) := by omega
                    refine ⟨_, eg_name, ?_⟩
                    rw [em]
                    have nc : ¬ (0 ≤ tN N i (i + m) ∧ (i < i + m → tN N (i + 1) (i + m) ≤ tN N i (i + m) ∧ tN N i (i + m - 1) ≤ tN N i (i + m) ∧ (i + 1 < i + m → b.cp i (i + m - 1) = true → tN N (i + 1) (i + m - 1) + 1 ≤ tN N i (i + m)))) → PyData.bool false = .bool (tabsB b (.tuple [.tuple (N.map encI), encI E])) := fun h => by
                      rw [← cellB_iff] at h
                      exact noA (fun z => ((rightB_all.mp z).2 i (i + m) (by omega) hm).1) h
                    refine run_hide [6, 9] ?_
                    by_cases hm0 : m = 0
                    · -- one opening
                      subst hm0
                      refine run_set (ev_lst (l := [.int 0]) (ea_cons ev_int ea_nil)) ?_
                      refine run_guard (b := false) (EvB.is (et_test (ev_op (ev_var rfl) (ev_var rfl) rd_lt)) (decide_eq_false (by omega))) (fun h => by cases h) fun _ => ?_
                      refine run_guard (b := false) (et_and_f (EvB.is (et_test (ev_op (ev_op (ev_var rfl) ev_int rd_add) (ev_var rfl) rd_lt)) (decide_eq_false (by omega)))) (fun h => by cases h) fun _ => ?_
                      refine run_if (et_ltmax (ns := [0]) (ev_cell S (ev_var rfl) (ev_var rfl) (ev_op (ev_var rfl) (ev_var rfl) rd_sub) rfl rfl (by omega) hm) (ev_var rfl) (by decide)) (fun h => run_ret (Ev.is ev_bl (nc fun z => ?_))) fun h => run_next ⟨⟨_, _, _, rfl⟩, cellB_iff.mpr ⟨?_, fun q => by omega⟩, endB_iff.mpr fun q => by omega⟩
                      · simp at h
                        have : 0 ≤ tN N i i := z.1
                        omega
                      · simp at h
                        omega
                    · refine run_ownN ?_ ⟨trivial, trivial, trivial, trivial, trivial, trivial, trivial, trivial, trivial, trivial, trivial⟩
                      have slt : decide ((i : Int) < ((i + m : Nat) : Int)) = true := decide_eq_true (by omega)
                      refine ro_set (ev_lst (l := [.int 0]) (ea_cons ev_int ea_nil)) ?_
                      refine ro_seq (N1 := fun x => endB N E i (i + m) = true ∧ ∃ a, x = [.dat b.P, .dat b.S, .dat (.tuple [.tuple (N.map encI), encI E]), .dat (.int (b.n : Int)), .dat (encN2 N), .dat (encI E), .nil, .dat (.int (i : Int)), .dat (.int ((i + m : Nat) : Int)), .own a (lstP K (([0, tN N (i + 1) (i + m), tN N i (i + m - 1)] : List Int).map .int))]) ?_ ?_
                      · refine ro_if (EvB.is (et_test (ev_op (ev_var rfl) (ev_var rfl) rd_lt)) slt) (fun _ => ?_) (fun h => by cases h)
                        refine ro_seq (N1 := fun x => ∃ a, x = [.dat b.P, .dat b.S, .dat (.tuple [.tuple (N.map encI), encI E]), .dat (.int (b.n : Int)), .dat (encN2 N), .dat (encI E), .nil, .dat (.int (i : Int)), .dat (.int ((i + m : Nat) : Int)), .own a (lstP K (([0, tN N (i + 1) (i + m), tN N i (i + m - 1)] : List Int).map .int))]) ?_ ?_
                        · refine ro_newL (l := ([0, tN N (i + 1) (i + m), tN N i (i + m - 1)] : List Int).map .int) (new_lst (ea_cons ev_int (ea_cons (ev_cell (i := i + 1) (j := i + m) S (ev_var rfl) (ev_op (ev_var rfl) ev_int rd_add) (ev_op (ev_op (ev_var rfl) (ev_var rfl) rd_sub) ev_int rd_sub) (by omega) (by omega) (by omega) hm)
                            (ea_cons (ev_cell (i := i) (j := i + m - 1) S (ev_var rfl) (ev_var rfl) (ev_op (ev_op (ev_var rfl) (ev_var rfl) rd_sub) ev_int rd_sub) rfl (by omega) (by omega) (by omega)) ea_nil))) (by simp)) fun a _ => ⟨a, rfl⟩
                        · rintro x ⟨a, rfl⟩
                          refine ro_if (b := !endB N E i (i + m)) (EvB.is (et_test (ev_op (ev_end hE (ev_var rfl) (ev_var rfl) rfl hi) (ev_op (ev_cell S (ev_var rfl) (ev_var rfl) (ev_op (ev_var rfl) (ev_var rfl) rd_sub) rfl rfl (by omega) hm) (ev_end hE (ev_var rfl) (ev_var rfl) rfl hm) rd_add) rd_lt)) ?_) (fun h => ro_ret (Ev.is ev_bl (noA (fun z => ((rightB_all.mp z).2 i (i + m) (by omega) hm).2) ?_))) fun h => ro_next ⟨by simpa using h, a, rfl⟩
                          · unfold endB
                            rw [decide_eq_true (show i < i + m by omega)]
                            by_cases q : tN N i (i + m) + tE E (i + m) ≤ tE E i
                            · rw [decide_eq_true q, decide_eq_false (by omega)]; rfl
                            · rw [decide_eq_false q, decide_eq_true (by omega)]; rfl
                          · rw [Bool.not_eq_true'] at h
                            rw [h]
                            exact Bool.false_ne_true
                      · rintro x ⟨hend, a, rfl⟩
                        refine ro_seq (N1 := fun x => ∃ a, ∃ ns : List Int, x = [.dat b.P, .dat b.S, .dat (.tuple [.tuple (N.map encI), encI E]), .dat (.int (b.n : Int)), .dat (encN2 N), .dat (encI E), .nil, .dat (.int (i : Int)), .dat (.int ((i + m : Nat) : Int)), .own a (lstP K (ns.map .int))] ∧
                          ns = if decide (i + 1 < i + m) && b.cp i (i + m - 1) then [0, tN N (i + 1) (i + m), tN N i (i + m - 1), 1 + tN N (i + 1) (i + m - 1)] else [0, tN N (i + 1) (i + m), tN N i (i + m - 1)]) ?_ ?_
                        · refine ro_if (b := decide (i + 1 < i + m) && b.cp i (i + m - 1)) (EvB.is (et_and (et_test (ev_op (ev_op (ev_var rfl) ev_int rd_add) (ev_var rfl) rd_lt)) fun _ => et_test (ev_op (ev_ctr (b := b) (i := i) o (ev_var rfl) (ev_var rfl) (ev_var rfl) rfl (by omega)) (ev_mark (b := b) (i := i + m - 1) (ev_var rfl) (ev_op (ev_var rfl) ev_int rd_sub) (by omega) (by omega)) rd_eqI)) ?_) (fun h => ?_) fun h => ro_next ⟨a, _, rfl, by rw [h]; rfl⟩
                          · rw [cpD]
                            congr 1
                            by_cases q : i + 1 < i + m
                            · rw [decide_eq_true q, decide_eq_true (by omega)]
                            · rw [decide_eq_false q, decide_eq_false (by omega)]
                          · have h' := h
                            rw [Bool.and_eq_true, decide_eq_true_iff] at h'
                            have h1 := h'.1
                            refine ro_append (i := 9) (a := a) (P := fun d => d = .int (1 + tN N (i + 1) (i + m - 1))) rfl (ev_op ev_int (ev_cell (i := i + 1) (j := i + m - 1) S (ev_var rfl) (ev_op (ev_var rfl) ev_int rd_add) (ev_op (ev_op (ev_var rfl) (ev_var rfl) rd_sub) ev_int rd_sub) (by omega) (by omega) (by omega) (by omega)) rd_add) (by simp) ⟨trivial, trivial, trivial, trivial, trivial, trivial, trivial, trivial, trivial, trivial, trivial⟩ fun d e => by subst e; exact ⟨a, [0, tN N (i + 1) (i + m), tN N i (i + m - 1), 1 + tN N (i + 1) (i + m - 1)], rfl, (if_pos h).symm⟩
                        · rintro x ⟨a, ns, rfl, hns⟩
                          have hne : ns ≠ [] := by
                            rw [hns]
                            split <;> simp
                          refine ro_freeze (i := 9) (a := a) rfl ⟨trivial, trivial, trivial, trivial, trivial, trivial, trivial, trivial, trivial, trivial, trivial⟩ ?_
                          refine ro_if (et_ltmax (ns := ns) (ev_cell S (ev_var rfl) (ev_var rfl) (ev_op (ev_var rfl) (ev_var rfl) rd_sub) rfl rfl (by omega) hm) (ev_var rfl) hne) (fun h => ro_ret (Ev.is ev_bl (nc fun z => ?_))) fun h => ro_next ⟨⟨_, _, _, rfl⟩, cellB_iff.mpr ?_, hend⟩
                          · obtain ⟨z1, z2⟩ := z
                            obtain ⟨z2, z3, z4⟩ := z2 (by omega)
                            rw [hns] at h
                            split at h
                            · rename_i hc
                              rw [Bool.and_eq_true, decide_eq_true_iff] at hc
                              have := z4 hc.1 hc.2
                              simp at h
                              omega
                            · simp at h
                              omega
                          · rw [hns] at h
                            split at h
                            · rename_i hc
                              simp at h
                              exact ⟨by omega, fun _ => ⟨by omega, by omega, fun _ _ => by omega⟩⟩
                            · rename_i hc
                              simp at h
                              refine ⟨by omega, fun _ => ⟨by omega, by omega, fun h1 h2 => absurd ?_ hc⟩⟩
                              rw [h2, decide_eq_true h1]
                              rfl
                  · rintro ds' ⟨s6, s8, s9, rfl⟩ h
                    refine ⟨⟨_, _, _, _, rfl⟩, fun j hij hj => ?_⟩
                    have := h (j - i) (by omega)
                    rwa [show i + (j - i) = j by omega] at this
                · rintro ds' ⟨s6, s7, s8, s9, rfl⟩ h
                  exact ⟨fun i j hij hj => h i (by omega) j hij hj, _, _, _, _, rfl⟩
              · rintro ds' ⟨hall, rfl⟩
                refine run_ret (Ev.is (ev_op (ev_end hE (ev_var rfl) (ev_var rfl) rfl (Nat.le_refl _)) ev_int rd_ge) ?_)
                by_cases h0 : 0 ≤ tE E b.n
                · show PyData.bool (decide (0 ≤ tE E b.n)) = .bool (tabsB b (tabD N E))
                  rw [tabs_yes ⟨N, E, rfl, S, hE, rightB_all.mpr ⟨h0, hall⟩⟩, decide_eq_true h0]
                · rw [decide_eq_false h0]
                  exact noA (fun z => (rightB_all.mp z).1) h0
        · refine run_guard (b := true) (et_or_f (EvB.is (et_not (et_B (ev_isTup (ev_var rfl)))) rfl) (et_or_f (EvB.is (et_test (ev_op (ev_cb (ea_cons (ev_var rfl) ea_nil) cd_lenT) ev_int rd_neI)) rfl) (et_or_f (EvB.is (et_not (et_B (ev_isTup (ev_op (ev_var rfl) ev_int (rd_ixT rfl))))) rfl)
            (EvB.is (et_test (ev_op (ev_cb (ea_cons (ev_op (ev_var rfl) ev_int (rd_ixT rfl)) ea_nil) cd_lenT) (ev_op (ev_var rfl) ev_int rd_add) rd_neI)) (by rw [decide_eq_false hl2]; rfl))))) (fun _ => run_ret (Ev.is ev_bl (no ?_))) (fun h => by cases h)
          rintro ⟨N, E2, e, S, hE2, _⟩
          unfold tabD encN2 at e
          injection e with e
          injection e with e1 e2
          injection e1 with e1
          rw [e1, List.length_map, S.len] at hl2
          omega
      · refine run_guard (b := true) (et_or_f (EvB.is (et_not (et_B (ev_isTup (ev_var rfl)))) rfl) (et_or_f (EvB.is (et_test (ev_op (ev_cb (ea_cons (ev_var rfl) ea_nil) cd_lenT) ev_int rd_neI)) rfl) (et_or_t (EvB.is (et_not (et_B (ev_isTup (ev_op (ev_var rfl) ev_int (rd_ixT rfl))))) (by rw [hx]; rfl))))) (fun _ => run_ret (Ev.is ev_bl (no ?_))) (fun h => by cases h)
        rintro ⟨N, E2, e, S, hE2, _⟩
        unfold tabD encN2 at e
        injection e with e
        injection e with e1 e2
        rw [e1] at hx
        cases hx
    · refine run_guard (b := true) (et_or_f (EvB.is (et_not (et_B (ev_isTup (ev_var rfl)))) rfl) (et_or_t (EvB.is (et_test (ev_op (ev_cb (ea_cons (ev_var rfl) ea_nil) cd_lenT) ev_int rd_neI)) (by rw [decide_eq_false hl]; rfl)))) (fun _ => run_ret (Ev.is ev_bl (no ?_))) (fun h => by cases h)
      rintro ⟨N, E2, e, S, hE2, _⟩
      unfold tabD encN2 at e
      injection e with e
      rw [e] at hl
      exact hl rfl
  · refine run_guard (b := true) (et_or_t (EvB.is (et_not (et_B (ev_isTup (ev_var rfl)))) (by rw [hd]; rfl))) (fun _ => run_ret (Ev.is ev_bl (no ?_))) (fun h => by cases h)
    rintro ⟨N, E2, e, S, hE2, _⟩
    rw [e] at hd
    cases hd
end
end K47
/-! K47: the tables, made. -/
namespace K47
open PySem PySem.Spec PyProof.Rows L2
local macro_rules | `(tactic| walk_at "lvl") => `(tactic| first | decide | omega)
local macro_rules | `(tactic| walk_at "at") => `(tactic| first | rfl | assumption | exact atN (by assumption))
def tbF (b : Bk) (i j : Nat) : Int := if i ≤ j then (tb b.cp i j : Int) else 0
def enF (b : Bk) (i : Nat) : Int := (en b.n b.cp i : Int)
theorem grid_congr {m : Nat} {f g : Nat → Nat → Int} (h : ∀ i j, i < m → j < m → f i j = g i j) : grid m f = grid m g := by
  unfold grid fnD
  congr 1
  refine List.map_congr_left fun i hi => ?_
  congr 1
  refine List.map_congr_left fun j hj => ?_
  rw [h i j (List.mem_range.mp hi) (List.mem_range.mp hj)]
theorem fnD_congr {m : Nat} {f g : Nat → Int} (h : ∀ i, i < m → f i = g i) : fnD m f = fnD m g := by
  unfold fnD
  exact List.map_congr_left fun i hi => by rw [h i (List.mem_range.mp hi)]
abbrev spTab (K : PySem.W.Frag) : Sp := spI K (ι := Bk) (fun b => [.dat b.P, .dat b.S]) Bk.Ok (fun b d => d = grid (b.n + 1) (tbF b))
abbrev spEnd (K : PySem.W.Frag) : Sp := spI K (ι := Bk) (fun b => [.dat (grid (b.n + 1) (tbF b))]) Bk.Ok (fun b d => d = .list (fnD (b.n + 1) (enF b)))
theorem cl_nest_table {K : PySem.W.Frag} {ds : Slots} {ta tb : TE} {E : XK} {b : Bk} (o : b.Ok) (ha : Ev K ta ds b.P) (hb : Ev K tb ds b.S) : Ev K (tCall (spTab K) [] E (tCons ta (tCons tb tNil))) ds (grid (b.n + 1) (tbF b)) := ev_call b (ea_cons ha (ea_cons hb ea_nil)) o fun _ e => e
theorem cl_end_table {K : PySem.W.Frag} {ds : Slots} {ta : TE} {E : XK} {b : Bk} (o : b.Ok) (ha : Ev K ta ds (grid (b.n + 1) (tbF b))) : Ev K (tCall (spEnd K) [] E (tCons ta tNil)) ds (.list (fnD (b.n + 1) (enF b))) := ev_call b (ea_cons ha ea_nil) o fun _ e => e
theorem grid_row {m : Nat} {f : Nat → Nat → Int} {k : Int} {i : Nat} (hk : k = (i : Int)) (hi : i < m) : atI ((List.range m).map fun i => PyData.list (fnD m (f i))) k = some (.list (fnD m (f i))) := by
  subst hk
  refine atI_natD ?_
  rw [List.getElem?_map, List.getElem?_range hi]
  rfl
theorem ev_gcell {K : PySem.W.Frag} {ds : Slots} {t1 t2 t3 : TE} {m : Nat} {f : Nat → Nat → Int} {k1 k2 : Int} {x y : Nat} (h1 : Ev K t1 ds (grid m f)) (h2 : Ev K t2 ds (.int k1)) (h3 : Ev K t3 ds (.int k2)) (e1 : k1 = (x : Int)) (e2 : k2 = (y : Int)) (hx : x < m) (hy : y < m) :
    Ev K (tOp (rIxL K) (tOp (rIxL K) t1 t2) t3) ds (.int (f x y)) := ev_op (ev_op h1 h2 (rd_ixL (grid_row e1 hx))) h3 (rd_ixL (fnD_at e2 hy))
section
variable {P : Program} {w : World} {K : PySem.W.Frag} {mg : Str → Option Value} {base : Heap}
theorem ok_nest_table (B : Blt mg) (D : DefAt K mg "nest_table" "nest_table" s_nest_table p_nest_table) : FnOk P w K mg base CX0 1 D.f D.fd p_nest_table (spTab K) := by
  refine D.F.ok sc_nest_table (fun vs H Q E h => spI_len h (fun _ => rfl)) (fun cdv A outer s H vs Q E hr h => ⟨_, (pss_cons (ps_set (i := 2) sc_nest_table.nd rfl (.inr rfl) (pe_callB (kLen K rfl) (by rfl) B.len bt_len (pa_cons (pv 1) pa_nil)))
      (pss_cons (ps_setLc (i := 3) (own := [("start", 4)]) rfl sc_nest_table.nd rfl rfl (sw_true rfl rfl rfl (by decide +kernel)) (pi_range1 (by rfl) B.range (pa_cons (pe_op op_add (pv 2) pe_int) pa_nil)) (blkOk_by (N := N_nest_table) (sc := defScope s_nest_table) (by decide +kernel)) (fun _ _ _ _ _ => (pg_name (i := 4) sc_nest_table.nd rfl (.inl rfl))) (fun _ _ _ _ _ => pts_nil) (fun _ _ _ _ _ => (pe_op op_rep (pe_lst (pa_cons pe_int pa_nil)) (pe_op op_add (pv 2) pe_int))))
      (pss_cons (ps_for PassesOwn.never rfl (pi_range2 (by rfl) B.range (pa_cons pe_int (pa_cons (pe_op op_add (pv 2) pe_int) pa_nil))) (pg_name (i := 5) sc_nest_table.nd rfl (.inl rfl))
      (pss_one (ps_for PassesOwn.never rfl (pi_range1 (by rfl) B.range (pa_cons (pe_op op_sub (pe_op op_add (pv 2) pe_int) (pv 5)) pa_nil)) (pg_name (i := 4) sc_nest_table.nd rfl (.inl rfl))
      (pss_cons (ps_set (i := 6) sc_nest_table.nd rfl (.inl rfl) (pe_op op_add (pv 4) (pv 5)))
      (pss_cons (ps_set (i := 7) sc_nest_table.nd rfl (.inl rfl) (pe_callB (cr_max2 rfl) (by rfl) B.max bt_max (pa_cons (pe_ix (kIxL K rfl) (pe_ix (kIxL K rfl) (pv 3) (pe_op op_add (pv 4) pe_int) (fun _ _ => rfl)) (pv 6) (fun _ _ => rfl)) (pa_cons (pe_ix (kIxL K rfl) (pe_ix (kIxL K rfl) (pv 3) (pv 4) (fun _ _ => rfl)) (pe_op op_sub (pv 6) pe_int) (fun _ _ => rfl)) pa_nil))))
      (pss_cons (ps_if (PW.pt (pw_and (pt_cmpR op_gt (pv 5) pe_int (nomark _)) (pw_and1 (pt_cmpR op_eq (pe_ix (kIxT K rfl) (pv 0) (pe_ix (kIxT K rfl) (pv 1) (pv 4) (fun _ _ => rfl)) (fun _ _ => rfl)) (pe_ix (kIxT K rfl) (pv 1) (pe_op op_sub (pv 6) pe_int) (fun _ _ => rfl)) (nomark _))))) (pss_one (ps_set (i := 7) sc_nest_table.nd rfl (.inl rfl) (pe_callB (cr_max2 rfl) (by rfl) B.max bt_max (pa_cons (pv 7) (pa_cons (pe_op op_add (pe_ix (kIxL K rfl) (pe_ix (kIxL K rfl) (pv 3) (pe_op op_add (pv 4) pe_int) (fun _ _ => rfl)) (pe_op op_sub (pv 6) pe_int) (fun _ _ => rfl)) pe_int) pa_nil))))) pss_nil)
      (pss_one (ps_asg (pv 7) (pg_sub (pe_ix (kIxL K rfl) (pv 3) (pv 4) (fun _ _ => rfl)) (pv 6) set_list)))))))))
      (pss_one (ps_ret (pv 3)))))), run_fn0 h ?_⟩)
  intro b o
  have hs : (b.ss.map iD).length = b.n := List.length_map _
  have n7 : b.n ≤ 7 := o.s12
  show Run K _ ([.dat b.P, .dat b.S, .nil, .nil, .nil, .nil, .nil, .nil] : Slots) _ (fun x => x = grid (b.n + 1) (tbF b))
  refine run_set (Ev.is (ev_cb (ea_cons (ev_var rfl) ea_nil) cd_lenT) (by rw [hs])) ?_
  refine run_own ?_ ⟨trivial, trivial, trivial, trivial, trivial, trivial, trivial, trivial, trivial⟩
  let GS : Addr → (Nat → Nat → Int) → List Addr → Slots := fun a f r => [.dat b.P, .dat b.S, .dat (.int (b.n : Int)), .own a (gridP (b.n + 1) f r), .nil, .nil, .nil, .nil]
  have en1 : ∀ {ds : Slots}, ds[2]? = some (.dat (.int (b.n : Int))) → Ev K (tOp (rI0 fun i j => .int (i + j)) (tVar 2) (tC (.int 1))) ds (.int ((b.n + 1 : Nat) : Int)) := fun h => Ev.is (ev_op (ev_var h) ev_int rd_add) (by congr 1)
  refine ro_seq (N1 := fun x => ∃ a r, x = GS a (fun _ _ => 0) r) ?_ ?_
  · refine ro_newGrid (m := b.n + 1) (v := 4) (ei_r1 (n := ((b.n + 1 : Nat) : Int)) (ea_cons (en1 rfl) ea_nil) (by omega)) (by omega) (fun d => en1 rfl) ⟨trivial, trivial, trivial, trivial, trivial, trivial, trivial, trivial, trivial⟩ fun a r => ⟨a, r, rfl⟩
  rintro x ⟨a, r, rfl⟩
  refine ro_seq (N1 := fun x => ∃ f, x = GS a f r ∧ ∀ i j, i ≤ b.n → j ≤ b.n → f i j = tbF b i j) ?_ ?_
  · refine ro_for (vs := [5]) (fun L x => ∃ f, x = GS a f r ∧ ∀ i j, i ≤ b.n → j ≤ b.n → f i j = if i ≤ j ∧ j - i ≤ L then (tb b.cp i j : Int) else 0)
      (ei_r2 (lo := 1) (hi := (b.n : Int) + 1) (ea_cons ev_int (ea_cons (ev_op (ev_var rfl) ev_int rd_add) ea_nil)) (by omega) (by omega)) ⟨_, rfl, fun i j hi hj => ?_⟩ ?_ ?_
    · split
      · rename_i h
        have : i = j := by omega
        subst this
        rw [tb_self]
        rfl
      · rfl
    · rintro L ds' hL ⟨f, rfl, hf⟩
      have hL : L < b.n := by omega
      refine ⟨_, eg_name, ?_⟩
      have eL : (1 : Int) + (L : Nat) = ((L + 1 : Nat) : Int) := by omega
      rw [eL]
      let GL : (Nat → Nat → Int) → Slots := fun f => [.dat b.P, .dat b.S, .dat (.int (b.n : Int)), .own a (gridP (b.n + 1) f r), .nil, .dat (.int ((L + 1 : Nat) : Int)), .nil, .nil]
      refine ro_impW [5] (N' := fun x => ∃ f', x = GL f' ∧ ∀ i j, i ≤ b.n → j ≤ b.n → f' i j = if i ≤ j ∧ j - i ≤ L + 1 then (tb b.cp i j : Int) else 0) ?_ (fun x ⟨f', e, h⟩ => ⟨f', by rw [e]; rfl, h⟩)
      refine ro_for (vs := [4]) (fun s x => ∃ f, x = GL f ∧ ∀ i j, i ≤ b.n → j ≤ b.n → f i j = if i ≤ j ∧ (j - i ≤ L ∨ (j - i = L + 1 ∧ i < s)) then (tb b.cp i j : Int) else 0)
        (ei_r1 (n := (b.n : Int) + 1 - ((L + 1 : Nat) : Int)) (ea_cons (ev_op (ev_op (ev_var rfl) ev_int rd_add) (ev_var rfl) rd_sub) ea_nil) (by omega)) ⟨f, rfl, fun i j hi hj => ?_⟩ ?_ ?_
      · rw [hf i j hi hj]
        by_cases h : i ≤ j ∧ j - i ≤ L
        · rw [if_pos h, if_pos ⟨h.1, .inl h.2⟩]
        · rw [if_neg h, if_neg (fun q => h ⟨q.1, by omega⟩)]
      · rintro s ds' hsn ⟨f, rfl, hf⟩
        have hsn : s + L + 1 ≤ b.n := by omega
        have hv : ∀ i j, i ≤ j → j ≤ b.n → j - i ≤ L → f i j = (tb b.cp i j : Int) := fun i j h1 h2 h3 => by rw [hf i j (by omega) h2, if_pos ⟨h1, .inl h3⟩]
        refine ⟨_, eg_name, ?_⟩
        let GE : Nat → Slots := fun m => [.dat b.P, .dat b.S, .dat (.int (b.n : Int)), .own a (gridP (b.n + 1) f r), .dat (.int (s : Int)), .dat (.int ((L + 1 : Nat) : Int)), .dat (.int ((s + L + 1 : Nat) : Int)), .dat (.int (m : Int))]
        refine ro_set (d := .int ((s + L + 1 : Nat) : Int)) (Ev.is (ev_op (ev_var rfl) (ev_var rfl) rd_add) (by congr 1)) ?_
        refine ro_set (d := .int ((max (tb b.cp (s + 1) (s + L + 1)) (tb b.cp s (s + L)) : Nat) : Int)) (Ev.is (ev_cb (ea_cons (ev_gridIx (x := s + 1) (y := s + L + 1) rfl (ev_op (ev_var rfl) ev_int rd_add) (ev_var rfl) (by omega) rfl (by omega) (by omega)) (ea_cons (ev_gridIx (x := s) (y := s + L) rfl (ev_var rfl) (ev_op (ev_var rfl) ev_int rd_sub) rfl (by omega) (by omega) (by omega)) ea_nil)) cd_max2) ?_) ?_
        · rw [hv (s + 1) (s + L + 1) (by omega) (by omega) (by omega), hv s (s + L) (by omega) (by omega) (by omega)]
          congr 1
          omega
        refine ro_seq (N1 := fun x => x = GE (tb b.cp s (s + L + 1))) ?_ ?_
        · refine ro_if (b := decide (1 < L + 1) && b.cp s (s + L)) (EvB.is (et_and (et_test (ev_op (ev_var rfl) ev_int rd_gt)) fun _ => et_test (ev_op (ev_ctr (b := b) (i := s) o (ev_var rfl) (ev_var rfl) (ev_var rfl) rfl (by omega)) (ev_mark (b := b) (i := s + L) (ev_var rfl) (ev_op (ev_var rfl) ev_int rd_sub) (by omega) (by omega)) rd_eqI)) ?_) (fun h => ?_) (fun h => ?_)
          · rw [cpD]
            congr 1
            by_cases q : 1 < L + 1
            · rw [decide_eq_true q, decide_eq_true (by omega)]
            · rw [decide_eq_false q, decide_eq_false (by omega)]
          · rw [Bool.and_eq_true, decide_eq_true_iff] at h
            refine ro_of (run_asg (d := .int (tb b.cp s (s + L + 1) : Int)) (Ev.is (ev_cb (ea_cons (ev_var rfl) (ea_cons (ev_op (ev_gridIx (x := s + 1) (y := s + L) rfl (ev_op (ev_var rfl) ev_int rd_add) (ev_op (ev_var rfl) ev_int rd_sub) (by omega) (by omega) (by omega) (by omega)) ev_int rd_add) ea_nil)) cd_max2) ?_) rfl)
            rw [hv (s + 1) (s + L) (by omega) (by omega) (by omega), tb_eq (i := s) (j := s + L + 1) (by omega), show s + L + 1 - 1 = s + L by omega, if_pos h.2]
            congr 1
            omega
          · refine ro_next ?_
            have : tb b.cp s (s + L + 1) = max (tb b.cp (s + 1) (s + L + 1)) (tb b.cp s (s + L)) := by
              by_cases hL0 : L = 0
              · subst hL0
                rw [show s + 0 + 1 = s + 1 by omega, tb_one, show s + 0 = s by omega, tb_self, tb_self]
                rfl
              · have hc : ¬ b.cp s (s + L) = true := fun z => by rw [z, decide_eq_true (by omega)] at h; cases h
                rw [tb_eq (i := s) (j := s + L + 1) (by omega), show s + L + 1 - 1 = s + L by omega, if_neg hc]
            rw [this]
            rfl
        · rintro x rfl
          refine ro_impW [4, 6, 7] (N' := fun x => ∃ f', x = [.dat b.P, .dat b.S, .dat (.int (b.n : Int)), .own a (gridP (b.n + 1) f' r), .dat (.int (s : Int)), .dat (.int ((L + 1 : Nat) : Int)), .dat (.int ((s + L + 1 : Nat) : Int)), .dat (.int ((tb b.cp s (s + L + 1) : Nat) : Int))] ∧ ∀ i j, i ≤ b.n → j ≤ b.n → f' i j = if i ≤ j ∧ (j - i ≤ L ∨ (j - i = L + 1 ∧ i < s + 1)) then (tb b.cp i j : Int) else 0) ?_ (fun x ⟨f', e, h⟩ => ⟨f', by rw [e]; rfl, h⟩)
          refine ro_setGrid (i := 3) (x := s) (y := s + L + 1) rfl (ev_var rfl) (ev_var rfl) (ev_var rfl) rfl rfl (by omega) (by omega) ⟨trivial, trivial, trivial, trivial, trivial, trivial, trivial, trivial, trivial⟩ ⟨_, rfl, fun i j hi hj => ?_⟩
          unfold updF
          by_cases h1 : i = s
          · subst h1
            rw [if_pos rfl]
            by_cases h2 : j = i + L + 1
            · subst h2
              rw [if_pos rfl, if_pos ⟨by omega, .inr ⟨by omega, by omega⟩⟩]
            · rw [if_neg h2, hf i j hi hj]
              by_cases h : i ≤ j ∧ (j - i ≤ L ∨ (j - i = L + 1 ∧ i < i))
              · rw [if_pos h, if_pos ⟨h.1, by omega⟩]
              · rw [if_neg h, if_neg (fun q => h ⟨q.1, by omega⟩)]
          · rw [if_neg h1, hf i j hi hj]
            by_cases h : i ≤ j ∧ (j - i ≤ L ∨ (j - i = L + 1 ∧ i < s))
            · rw [if_pos h, if_pos ⟨h.1, by omega⟩]
            · rw [if_neg h, if_neg (fun q => h ⟨q.1, by omega⟩)]
      · rintro ds' ⟨f', e, hf'⟩
        refine ⟨f', e, fun i j hi hj => ?_⟩
        rw [hf' i j hi hj]
        by_cases h : i ≤ j ∧ j - i ≤ L + 1
        · rw [if_pos h, if_pos ⟨h.1, by omega⟩]
        · rw [if_neg h, if_neg (fun q => h ⟨q.1, by omega⟩)]
    · rintro ds' ⟨f, rfl, hf⟩
      refine ⟨f, rfl, fun i j hi hj => ?_⟩
      rw [hf i j hi hj]
      unfold tbF
      by_cases h : i ≤ j
      · rw [if_pos h, if_pos ⟨h, by omega⟩]
      · rw [if_neg h, if_neg (fun q => h q.1)]
  · rintro x ⟨f, rfl, hf⟩
    refine ro_freezeGrid (i := 3) (a := a) (r := r) rfl ⟨trivial, trivial, trivial, trivial, trivial, trivial, trivial, trivial, trivial⟩ (ro_ret (Ev.is (ev_var rfl) (grid_congr fun i j hi hj => hf i j (by omega) (by omega))))
theorem ok_end_table (B : Blt mg) (D : DefAt K mg "end_table" "end_table" s_end_table p_end_table) : FnOk P w K mg base CX0 1 D.f D.fd p_end_table (spEnd K) := by
  refine D.F.ok sc_end_table (fun vs H Q E h => spI_len h (fun _ => rfl)) (fun cdv A outer s H vs Q E hr h => ⟨_, (pss_cons (ps_set (i := 1) sc_end_table.nd rfl (.inl rfl) (pe_op op_sub (pe_callB (kLen K rfl) (by rfl) B.len bt_len (pa_cons (pv 0) pa_nil)) pe_int))
      (pss_cons (ps_set (i := 2) sc_end_table.nd rfl (.inr rfl) (pe_op op_rep (pe_lst (pa_cons pe_int pa_nil)) (pe_op op_add (pv 1) pe_int)))
      (pss_cons (ps_for PassesOwn.never rfl (pi_range3 (by rfl) B.range (pa_cons (pe_op op_sub (pv 1) pe_int) (pa_cons (pe_un un_neg pe_int) (pa_cons (pe_un un_neg pe_int) pa_nil)))) (pg_name (i := 3) sc_end_table.nd rfl (.inr rfl))
      (pss_one (ps_asg (pe_callB (kMax K rfl rfl) (by rfl) B.max bt_max (pa_cons (pe_lc (own := [("end", 4)]) rfl sc_end_table.nd (pi_range2 (by rfl) B.range (pa_cons (pe_op op_add (pv 3) pe_int) (pa_cons (pe_op op_add (pv 1) pe_int) pa_nil))) (blkOk_by (N := N_end_table) (sc := defScope s_end_table) (by decide +kernel)) (fun _ _ _ _ _ => (pg_name (i := 4) sc_end_table.nd rfl (.inl rfl))) (fun _ _ _ _ _ => pts_nil) (fun _ _ _ _ _ => (pe_op op_add (pe_ix (kIxL K rfl) (pe_ix (kIxL K rfl) (pv 0) (pv 3) (fun _ _ => rfl)) (pv 4) (fun _ _ => rfl)) (pe_ix (kIxL K rfl) (pv 2) (pv 4) (fun _ _ => rfl))))) pa_nil)) (pg_sub (pv 2) (pv 3) set_list))))
      (pss_one (ps_ret (pv 2)))))), run_fn0 h ?_⟩)
  intro b o
  have n7 : b.n ≤ 7 := o.s12
  show Run K _ ([.dat (grid (b.n + 1) (tbF b)), .nil, .nil, .nil, .nil] : Slots) _ (fun x => x = .list (fnD (b.n + 1) (enF b)))
  refine run_set (d := .int (b.n : Int)) (Ev.is (ev_op (ev_cb (ea_cons (ev_var rfl) ea_nil) cd_lenL) ev_int rd_sub) (by rw [List.length_map, List.length_range]; congr 1; omega)) ?_
  refine run_own ?_ ⟨trivial, trivial, trivial, trivial, trivial, trivial⟩
  let ES : Addr → (Nat → Int) → Slots := fun a g => [.dat (grid (b.n + 1) (tbF b)), .dat (.int (b.n : Int)), .own a (lstP K (fnD (b.n + 1) g)), .nil, .nil]
  refine ro_seq (N1 := fun x => ∃ a, x = ES a fun _ => 0) ?_ ?_
  · refine ro_newL (new_rep (m := b.n + 1) (Ev.is (ev_op (ev_var rfl) ev_int rd_add) (by congr 1)) (by omega)) fun a _ => ⟨a, by rw [zerosD_fn]; rfl⟩
  rintro x ⟨a, rfl⟩
  refine ro_seq (N1 := fun x => ∃ g, x = ES a g ∧ ∀ j, j ≤ b.n → g j = enF b j) ?_ ?_
  · refine ro_for (vs := [3]) (fun i x => ∃ g, x = ES a g ∧ ∀ j, b.n - i ≤ j → j ≤ b.n → g j = enF b j) (ei_down (n := b.n) (ea_cons (ev_op (ev_var rfl) ev_int rd_sub) (ea_cons (ev_neg ev_int) (ea_cons (ev_neg ev_int) ea_nil))) (by omega)) ⟨_, rfl, fun j h1 h2 => ?_⟩ ?_ ?_
    · have : j = b.n := by omega
      subst this
      unfold enF
      rw [en_last]
      rfl
    · rintro i ds' hi ⟨g, rfl, hg⟩
      refine ⟨_, eg_name, ?_⟩
      obtain ⟨s, hs⟩ : ∃ s, s + 1 + i = b.n := ⟨b.n - 1 - i, by omega⟩
      have es : (b.n : Int) - 1 - (i : Nat) = (s : Int) := by omega
      rw [es]
      refine ro_impW [3] (N' := fun x => ∃ g, x = [.dat (grid (b.n + 1) (tbF b)), .dat (.int (b.n : Int)), .own a (lstP K (fnD (b.n + 1) g)), .dat (.int (s : Int)), .nil] ∧ ∀ j, b.n - (i + 1) ≤ j → j ≤ b.n → g j = enF b j) ?_ (fun x ⟨g, e, h⟩ => ⟨g, by rw [e]; rfl, h⟩)
      refine ro_setL (i := 2) (a := a) (z := (s : Int)) (j := s) (P := fun d => d = .int (enF b s)) rfl ?_ (ev_var rfl) ?_ ⟨trivial, trivial, trivial, trivial, trivial, trivial⟩ ?_
      · let ns : List Int := (List.range (b.n - s)).map fun m => ((tb b.cp s (s + 1 + m) + en b.n b.cp (s + 1 + m) : Nat) : Int)
        have lst : Ev K (tLc (iRng2 (tCons (tOp (rI0 fun i j => .int (i + j)) (tVar 3) (tC (.int 1))) (tCons (tOp (rI0 fun i j => .int (i + j)) (tVar 1) (tC (.int 1))) tNil))) (gName 4) tYes (tOp (rI0 fun i j => .int (i + j)) (tOp (rIxL K) (tOp (rIxL K) (tVar 0) (tVar 3)) (tVar 4)) (tOp (rIxL K) (tVar 2) (tVar 4))) [4])
            [.dat (grid (b.n + 1) (tbF b)), .dat (.int (b.n : Int)), .own a (lstP K (fnD (b.n + 1) g)), .dat (.int (s : Int)), .nil] (.list (ns.map .int)) := by
          refine Ev.is (ev_map (h := fun m => .int ((tb b.cp s (s + 1 + m) + en b.n b.cp (s + 1 + m) : Nat) : Int)) (ei_r2 (lo := (s : Int) + 1) (hi := (b.n : Int) + 1) (ea_cons (ev_op (ev_var rfl) ev_int rd_add) (ea_cons (ev_op (ev_var rfl) ev_int rd_add) ea_nil)) (by omega) (by omega)) (by omega) fun m hm => ⟨_, eg_name, ?_⟩) ?_
          · refine Ev.is (ev_op (ev_gcell (m := b.n + 1) (f := tbF b) (x := s) (y := s + 1 + m) (ev_var rfl) (ev_var rfl) (ev_var rfl) rfl (by omega) (by omega) (by omega)) (ev_ownIx (i := 2) (a := a) rfl (ev_var rfl) (fnD_at (i := s + 1 + m) (by omega) (by omega))) rd_add) ?_
            rw [hg (s + 1 + m) (by omega) (by omega)]
            unfold tbF enF
            rw [if_pos (by omega)]
            congr 1
          · show PyData.list _ = .list (List.map _ (List.map _ _))
            rw [List.map_map, show ((b.n : Int) + 1 - ((s : Int) + 1)).toNat = b.n - s by omega]
            rfl
        refine ev_cbP (ea_cons lst ea_nil) fun xs exs => ?_
        subst exs
        have hne : ns ≠ [] := by
          intro e
          have := congrArg List.length e
          simp [ns] at this
          omega
        refine fun p B H vs he w Q k => cd_max hne p B H vs he w Q fun d v B' H' ⟨m, hm, hall, e⟩ hd g' => k d v B' H' ?_ hd g'
        subst e
        obtain ⟨q, hq, eq⟩ := List.mem_map.mp hm
        have e2 : (tb b.cp s (s + 1 + q) + en b.n b.cp (s + 1 + q)) = en b.n b.cp s := by
          rw [en_eq (show s < b.n by omega)]
          refine maxl_is (List.mem_map.mpr ⟨q, hq, rfl⟩) fun y hy => ?_
          obtain ⟨z, hz, ez⟩ := List.mem_map.mp hy
          have := hall _ (List.mem_map.mpr ⟨z, hz, rfl⟩)
          omega
        show PyData.int m = .int (enF b s)
        unfold enF
        rw [← eq, e2]
      · unfold ixN fnD
        rw [List.length_map, List.length_range, if_pos (by omega), if_pos (by omega), Int.toNat_natCast]
      · rintro d rfl
        rw [fnD_set]
        refine ⟨_, rfl, fun j h1 h2 => ?_⟩
        unfold updF
        by_cases h : j = s
        · rw [if_pos h, h]
        · rw [if_neg h, hg j (by omega) h2]
    · rintro ds' ⟨g, rfl, hg⟩
      exact ⟨g, rfl, fun j hj => hg j (by omega) hj⟩
  · rintro x ⟨g, rfl, hg⟩
    refine ro_freeze (i := 2) (a := a) rfl ⟨trivial, trivial, trivial, trivial, trivial, trivial⟩ (ro_ret (Ev.is (ev_var rfl) ?_))
    rw [fnD_congr fun i hi => hg i (by omega)]
end
end K47
/-! K47: sorting rows of pairs. -/
namespace K47
open PySem PySem.Spec PyProof.Rows L2 PySem.W

theorem alike_pr (p q : Pr) : alike (encPr p) (encPr q) = true := by simp [encPr, alike, alikeAll]
theorem alike_rows : ∀ r t : List Pr, alikeAll (r.map encPr) (t.map encPr) = true
  | [], _ => by simp [alikeAll]
  | _ :: _, [] => by simp [alikeAll]
  | p :: r, q :: t => by
    show alikeAll (encPr p :: r.map encPr) (encPr q :: t.map encPr) = true
    rw [alikeAll, alike_rows r t, alike_pr]
    rfl
theorem alike_row (r t : List Pr) : alike (encR r) (encR t) = true := by
  show alike (.tuple (r.map encPr)) (.tuple (t.map encPr)) = true
  rw [alike]
  exact alike_rows r t
theorem depth_pr (p : Pr) : (encPr p).depth = 1 := by simp [encPr, PyData.depth, PyData.depthAll]
theorem depth_rows : ∀ r : List Pr, PyData.depthAll (r.map encPr) ≤ 1
  | [] => by simp [PyData.depthAll]
  | p :: r => by
    show PyData.depthAll (encPr p :: r.map encPr) ≤ 1
    rw [PyData.depthAll, depth_pr]
    have := depth_rows r
    omega
theorem depth_row (r : List Pr) : (encR r).depth ≤ 2 := by
  show (PyData.tuple (r.map encPr)).depth ≤ 2
  rw [PyData.depth]
  have := depth_rows r
  omega
theorem eqv_pr (p q : Pr) : PyData.eqv (encPr p) (encPr q) = decide (p = q) := by
  obtain ⟨a, b⟩ := p
  obtain ⟨c, d⟩ := q
  by_cases h : (a, b) = (c, d)
  · rw [h, decide_eq_true rfl]
    exact eqv_refl_alike _ (alike_pr _ _)
  · rw [decide_eq_false h]
    cases e : PyData.eqv (encPr (a, b)) (encPr (c, d)) with
    | false => rfl
    | true =>
      refine absurd ?_ h
      simp [encPr, PyData.eqv, PyData.eqvAll] at e
      rw [Prod.mk.injEq]
      omega
theorem lt_pr (p q : Pr) : dataLt (encPr p) (encPr q) = ltPr p q := by
  unfold encPr
  rw [dataLt_ii]
  unfold ltPr
  by_cases h1 : p.1 < q.1
  · simp [h1]
    try omega
  · by_cases h2 : p.1 = q.1
    · simp [h2]
    · simp [h1, h2]
      try omega
theorem lt_rows : ∀ r t : List Pr, rowLt (r.map encPr) (t.map encPr) = ltRow r t
  | [], [] => rfl
  | [], q :: t => by
    unfold rowLt
    rw [List.map_cons, toks_all_cons]
    rfl
  | p :: r, [] => by
    unfold rowLt
    rw [List.map_cons, toks_all_cons]
    rfl
  | p :: r, q :: t => by
    unfold rowLt
    rw [List.map_cons, List.map_cons, dataLt_cons (alike_pr p q), eqv_pr, lt_pr, ltRow_cons]
    by_cases h : p = q
    · rw [if_pos (decide_eq_true h), if_pos h]
      exact lt_rows r t
    · rw [if_neg (by rw [decide_eq_false h]; exact Bool.false_ne_true), if_neg h]
theorem lt_row (r t : List Pr) : dataLt (encR r) (encR t) = ltRow r t := by
  show dataLt (.tuple (r.map encPr)) (.tuple (t.map encPr)) = _
  rw [dataLt_tuple]
  exact lt_rows r t
theorem le_row : dataLe false encR = fun a b => !ltRow b a := by
  rw [dataLe_eq]
  funext a b
  show (!dataLt (encR b) (encR a)) = _
  rw [lt_row]
def sortR (rows : List (List Pr)) : List (List Pr) := rows.mergeSort (dataLe false encR)
theorem sortR_perm (rows : List (List Pr)) : (sortR rows).Perm rows := List.mergeSort_perm _ _
theorem sortR_sorted (rows : List (List Pr)) : (sortR rows).Pairwise fun x y => ltRow y x = false := by
  unfold sortR
  rw [le_row]
  have := List.pairwise_mergeSort (le := fun a b : List Pr => !ltRow b a) (fun a b c h1 h2 => by
    simp only [Bool.not_eq_true'] at h1 h2 ⊢
    exact ltRow_tr h1 h2) (fun a b => by
    cases h : ltRow b a with
    | false => rfl
    | true => simp [ltRow_asym h]) rows
  exact this.imp fun h => by simpa using h

/-! ### the kind of a sort -/
section
variable {prog : Program} {w : World} {A : Around} {E : Value → Shared → Prop} {s : Shared}
theorem mapM_fun {α β : Type} {M : Model} {f : α → Sem β} {g : α → β} : ∀ (l : List α) {Q : List β → Shared → Prop}, (∀ v ∈ l, ∀ (Q' : β → Shared → Prop), Q' (g v) s → wpAny M A (f v) Q' E s) → Q (l.map g) s → wpAny M A (l.mapM f) Q E s
  | [], _, _, h => by rw [List.mapM_nil]; exact wpAny_pure h
  | x :: l, Q, hf, h => by
    rw [List.mapM_cons]
    exact wpAny_bind (hf x (.head _) _ (wpAny_bind (mapM_fun l (Q := fun bs s' => wpAny M A (pure (g x :: bs)) Q E s') (fun v hv => hf v (.tail _ hv)) (wpAny_pure h))))
def firstAt (h : Heap) : Value → Option Value
  | .ref a => match h.get? a with
    | some o => match o.data with
      | .seq items _ => items[0]?
      | _ => none
    | none => none
  | _ => none
theorem kind_mixed {vs : List Value} {rows : List (List Pr)} {Q : SortKind → Shared → Prop} (e : EachIs (fun v r => ∃ as, Reads s.heap v (encR r) as) vs rows) (h0 : rows.head? = some []) (h2 : 2 ≤ vs.length) (h : Q oneType' s) :
    wpAny (model prog w) A (keyKind' vs.toArray) Q E s := by
  have ty : ∀ v ∈ vs, ∃ (a : Addr) (o : Obj) (items : Array Value) (n : Nat), v = .ref a ∧ s.heap.get? a = some o ∧ o.cls = .type "tuple" ∧ o.data = .seq items n := fun v hv => by
    obtain ⟨r, hr, as, hd⟩ := e.left v hv
    cases hd with
    | tuple h1 h2 h3 h4 => exact ⟨_, _, _, _, rfl, h1, h2, h3⟩
  rw [keyKind'_eq, List.mapM_toArray, map_eq_pure_bind]
  refine wpAny_bind (wpAny_bind (mapM_fun (g := firstAt s.heap) _ (fun v hv Q' hq => ?_) (wpAny_pure ?_)))
  · obtain ⟨a, o, items, n, rfl, h1, h2, h3⟩ := ty v hv
    rw [kas_first_eq]
    refine wpAny_bind (Looks.here (show Looks _ s.heap (typeOf (.ref a)) o.cls from (Looks.ld h1).andThen .now) ?_)
    rw [h2, if_neg (by first | decide | simp)]
    refine wpAny_bind (listItems_at h1 h3 (wpAny_pure ?_))
    have : firstAt s.heap (.ref a) = items[0]? := by simp [firstAt, h1, h3]
    rw [this] at hq
    exact hq
  · obtain ⟨v, vs', ev, r0⟩ : ∃ v vs', vs = v :: vs' ∧ ∃ as, Reads s.heap v (encR []) as := by
      cases e with
      | nil => cases h0
      | cons h1 h2 =>
        cases h0
        exact ⟨_, _, rfl, h1⟩
    subst ev
    obtain ⟨as, r0⟩ := r0
    have f0 : firstAt s.heap v = none := by
      cases r0 with
      | @tuple a o xs n _ _ h1 h2 h3 h4 =>
        have : xs.toList = [] := by
          cases hx : xs.toList with
          | nil => rfl
          | cons _ _ => rw [hx] at h4; cases h4
        have h5 : xs[0]? = none := by
          rw [← Array.getElem?_toList, this]
          rfl
        simp [firstAt, h1, h3, h5]
    rw [List.map_cons, f0, if_neg (by simp), if_neg (by simp)]
    rw [oneTypeOnly'_eq, List.mapM_toArray, map_eq_pure_bind]
    refine wpAny_bind (wpAny_bind (wpAny_bind (kas_mapM (r := Value.type "tuple") _ (fun u hu Q' hq => ?_) (wpAny_pure ?_))))
    · obtain ⟨a, o, items, n, rfl, h1, h2, h3⟩ := ty u hu
      refine Looks.here (show Looks _ s.heap (typeOf (.ref a)) o.cls from (Looks.ld h1).andThen .now) ?_
      rw [h2]
      exact hq
    · have hall : ((List.map (fun _ => Value.type "tuple") (v :: vs')).toArray.all fun x => x == Value.type "tuple") = true := by
        simp only [List.all_toArray, List.all_map, List.all_eq_true]
        intro _ _
        exact beq_self_eq_true _
      have hz : ((List.map (fun _ => Value.type "tuple") (v :: vs')).toArray)[0]? = some (Value.type "tuple") := by simp
      rw [hz]
      simp only [hall, if_true]
      exact wpAny_pure (wpAny_pure h)
theorem oneLt_tup {xs ys : List PyData} {a b : Value} {as bs : List Addr} {Q : Bool → Shared → Prop} (ra : Reads s.heap a (.tuple xs) as) (rb : Reads s.heap b (.tuple ys) bs) (hal : alikeAll xs ys = true)
    (hu : A.units + min (PyData.tuple xs).depth (PyData.tuple ys).depth < cLine) (hq : Q (dataLt (.tuple xs) (.tuple ys)) s) : wpAny (model prog w) A (oneLt' true a b) Q E s := by
  cases ra with
  | @tuple l o vs n _ as₁ h1 h2 h3 h4 =>
    cases rb with
    | @tuple l' o' vs' n' _ bs₁ k1 k2 k3 k4 =>
      have n1 : vs.size = xs.length := by simpa using SeqAt.ReadsAll.length _ _ _ h4
      have n2 : vs'.size = ys.length := by simpa using SeqAt.ReadsAll.length _ _ _ k4
      rw [dataLt_tuple, ← firstLt_toks xs ys hal, ← n1, ← n2] at hq
      rw [oneLt'_eq]
      simp only [if_true]
      refine wpAny_bind (wpAny_cRoomFor (SeqAt.room_here hu) ?_)
      obtain ⟨cls, dd, data, sl⟩ := o
      obtain ⟨cls2, dd2, data2, sl2⟩ := o'
      simp only at h2 h3 k2 k3
      subst h2 h3 k2 k3
      refine wpAny_bind (wpAny_callSpecialIfBound?_slot (T := "tuple") ⟨_, h1, rfl⟩ F.slot_tuple_lt (call_meets F.slot_tuple_lt ⟨_, h1, rfl⟩ F.entry_tuple_lt (F.args_tuple_lt_2 _ _)
        (SeqAt.tuple_ltAt l l' vs vs' n n' dd dd2 sl sl2 (SeqAt.pairEq xs ys) (fun j => dataLt (xs.getD j .none) (ys.getD j .none))) ⟨h1, k1, fun j j1 j2 => ?_, fun j j1 j2 hj => ?_, ?_⟩))
      · have := eqAt_alikeAll xs ys A.in1 s vs.toList vs'.toList _ _ h4 k4 hal (SeqAt.room_in hu) j (by simpa using j1) (by simpa using j2)
        simpa using this
      · have := rcLt_alikeAll xs ys A.in1 s vs.toList vs'.toList _ _ h4 k4 hal (SeqAt.room_in hu) j (by simpa using j1) (by simpa using j2) hj
        simpa using this
      · exact wpAny_truthy_bool hq
theorem allAlike_rows (rows : List (List Pr)) : AllAlike (rows.map encR) := AllAlike.of alike_row
theorem sortsAt_rows {vs : List Value} {rows : List (List Pr)} (e : EachIs (fun v r => ∃ as, Reads s.heap v (encR r) as) vs rows) (h0 : (∀ r ∈ rows, r ≠ []) ∨ rows.head? = some []) (hu : A.units + 2 < cLine) :
    SortsAt prog w A s (dataKind s.heap (rows.map encR)) vs := by
  have e2 := each_map (R := fun v d => ∃ as, Reads s.heap v d as) encR e
  rcases h0 with h0 | h0
  · refine SortsAt.data e2 (allAlike_rows rows) (.inl fun d hd => ?_) fun d hd => ?_
    · obtain ⟨r, hr, rfl⟩ := List.mem_map.mp hd
      cases r with
      | nil => exact absurd rfl (h0 _ hr)
      | cons p r => exact ⟨_, _, rfl⟩
    · obtain ⟨r, hr, rfl⟩ := List.mem_map.mp hd
      have := depth_row r
      omega
  · refine ⟨fun v hv => ?_, oneType', fun E x y a b Q ha hb hq => ?_, fun h2 E Q hq => kind_mixed e h0 h2 hq⟩
    · obtain ⟨d, hd, as, r⟩ := e2.left v hv
      exact ⟨_, dataKind_some (allAlike_rows rows) hd r⟩
    · obtain ⟨d, as, hd, ra, rfl⟩ := dataKind_inv ha
      obtain ⟨d', as', hd', rb, rfl⟩ := dataKind_inv hb
      obtain ⟨r, hr, rfl⟩ := List.mem_map.mp hd
      obtain ⟨r', hr', rfl⟩ := List.mem_map.mp hd'
      rw [keyLt'_oneType]
      have h1 := depth_row r
      have h2 := depth_row r'
      exact oneLt_tup ra rb (alike_rows r r') (by show A.units + min (encR r).depth (encR r').depth < cLine; omega) hq
/-- sorted(it), it a thing whose items read as data -/
theorem sorted_coreG {β : Type} {enc : β → PyData} {it : Addr} {vs : List Value} {bs : List β} {R : Value → β → Prop} {Q : Value → Shared → Prop}
    (hc : ∀ (Q' : List Value → Shared → Prop), (∀ h' tk, (∀ b o, s.heap.get? b = some o → h'.get? b = some o) → Q' vs { s with heap := h', toks := tk }) → wpAny (model prog w) A.in1 (collect (.ref it)) Q' E s)
    (hR : EachIs R vs bs) (e : EachIs (fun v r => ∃ as, Reads s.heap v (enc r) as) vs bs) (hal : AllAlike (bs.map enc)) (hS : ∀ s' : Shared, EachIs (fun v r => ∃ as, Reads s'.heap v (enc r) as) vs bs → SortsAt prog w A.in1.in1 s' (dataKind s'.heap (bs.map enc)) vs) (hz : bs.length ≤ sizeLine)
    (h : ∀ (h1 h' : Heap) tk (out : List Value) n, EachIs R out (bs.mergeSort (dataLe false enc)) → (∀ b o, s.heap.get? b = some o → h1.get? b = some o) → (∀ b o, h1.get? b = some o → h'.get? b = some o) → h'.get? h1.objs.size = some (seqObj "list" out.toArray n) → Q (.ref h1.objs.size) { s with heap := h', toks := tk }) :
    wpAny (model prog w) A (call (.builtin "sorted") [.ref it]) Q E s := by
  refine Calls.call_function_entry kind_sorted plain_sorted entry_sorted (args_sorted1 _) ?_
  unfold Builtin.«sorted»
  refine wpAny_bind (m := checkCount "sorted" 1 1 _) (wpAny_pure ?_)
  refine wpAny_bind (hc _ fun h1 tk k1 => ?_)
  have hl : vs.length = bs.length := hR.length
  refine wpAny_bind (wpAny_newList ?_ (by rw [hl]; exact hz))
  have ho : (h1.push (seqObj "list" vs.toArray 0)).get? h1.objs.size = some (seqObj "list" vs.toArray 0) := Heap.get?_push_size _ rfl
  have k2 : ∀ b o, s.heap.get? b = some o → (h1.push (seqObj "list" vs.toArray 0)).get? b = some o ∧ b ≠ h1.objs.size := fun b o q => ⟨Heap.get?_push_of_some _ (k1 b o q), Nat.ne_of_lt (Heap.lt_size (k1 b o q))⟩
  have k3 : ∀ b o, s.heap.get? b = some o → (sortingHeap (h1.push (seqObj "list" vs.toArray 0)) h1.objs.size vs).get? b = some o := fun b o q => sortingHeap_old (k2 b o q).2 (k2 b o q).1
  have e3 := e.mono fun v r ⟨as, q⟩ => (⟨as, PyProof.Rows.Reads.keeps (fun b o => k3 b o) q⟩ : ∃ as, Reads (sortingHeap (h1.push (seqObj "list" vs.toArray 0)) h1.objs.size vs) v (enc r) as)
  have S : SortsAt prog w A.in1.in1 { s with heap := sortingHeap (h1.push (seqObj "list" vs.toArray 0)) h1.objs.size vs, toks := tk } (dataKind (sortingHeap (h1.push (seqObj "list" vs.toArray 0)) h1.objs.size vs) (bs.map enc)) vs :=
    hS { s with heap := sortingHeap (h1.push (seqObj "list" vs.toArray 0)) h1.objs.size vs, toks := tk } e3
  obtain ⟨n, hn⟩ := sortedHeap_at (out := (sortVals (dataKind (sortingHeap (h1.push (seqObj "list" vs.toArray 0)) h1.objs.size vs) (bs.map enc)) false vs vs).toArray) ho
  refine wpAny_bind (wpAny_holding (wpAny_call_entry slot_list_sort ⟨_, ho, rfl⟩ entry_list_sort (list_sort_vals (s := { s with heap := h1.push (seqObj "list" vs.toArray 0), toks := tk }) ho S (by rw [hl]; exact hz) ⟨_, rfl, ?_⟩) (args_list_sort _)))
  refine wpAny_pure ⟨_, rfl, h h1 _ tk _ n (sortVals_data false hR e3 hal) k1 (fun b o q => ?_) hn⟩
  have hlt := Heap.lt_size q
  have q2 : (h1.push (seqObj "list" vs.toArray 0)).get? b = some o := Heap.get?_push_of_some _ q
  rw [sortedHeap_old (Nat.ne_of_lt hlt) (Heap.lt_size q2)]
  exact q2
/-- the items are rows -/
theorem sorted_core {it : Addr} {vs : List Value} {rows : List (List Pr)} {R : Value → List Pr → Prop} {Q : Value → Shared → Prop}
    (hc : ∀ (Q' : List Value → Shared → Prop), (∀ h' tk, (∀ b o, s.heap.get? b = some o → h'.get? b = some o) → Q' vs { s with heap := h', toks := tk }) → wpAny (model prog w) A.in1 (collect (.ref it)) Q' E s)
    (hR : EachIs R vs rows) (e : EachIs (fun v r => ∃ as, Reads s.heap v (encR r) as) vs rows) (h0 : (∀ r ∈ rows, r ≠ []) ∨ rows.head? = some []) (hu : A.units + 8 < cLine) (hz : rows.length ≤ sizeLine)
    (h : ∀ (h1 h' : Heap) tk (out : List Value) n, EachIs R out (sortR rows) → (∀ b o, s.heap.get? b = some o → h1.get? b = some o) → (∀ b o, h1.get? b = some o → h'.get? b = some o) → h'.get? h1.objs.size = some (seqObj "list" out.toArray n) → Q (.ref h1.objs.size) { s with heap := h', toks := tk }) :
    wpAny (model prog w) A (call (.builtin "sorted") [.ref it]) Q E s :=
  sorted_coreG hc hR e (allAlike_rows rows) (fun s' e' => sortsAt_rows e' h0 (by show A.units + 1 + 1 + 2 < cLine; omega)) hz h
def sortQ (l : List Pr) : List Pr := l.mergeSort (dataLe false encPr)
theorem sortQ_perm (l : List Pr) : (sortQ l).Perm l := List.mergeSort_perm _ _
/-- the items are pairs -/
theorem sorted_prs {it : Addr} {vs : List Value} {l : List Pr} {R : Value → Pr → Prop} {Q : Value → Shared → Prop}
    (hc : ∀ (Q' : List Value → Shared → Prop), (∀ h' tk, (∀ b o, s.heap.get? b = some o → h'.get? b = some o) → Q' vs { s with heap := h', toks := tk }) → wpAny (model prog w) A.in1 (collect (.ref it)) Q' E s)
    (hR : EachIs R vs l) (e : EachIs (fun v r => ∃ as, Reads s.heap v (encPr r) as) vs l) (hu : A.units + 8 < cLine) (hz : l.length ≤ sizeLine)
    (h : ∀ (h1 h' : Heap) tk (out : List Value) n, EachIs R out (sortQ l) → (∀ b o, s.heap.get? b = some o → h1.get? b = some o) → (∀ b o, h1.get? b = some o → h'.get? b = some o) → h'.get? h1.objs.size = some (seqObj "list" out.toArray n) → Q (.ref h1.objs.size) { s with heap := h', toks := tk }) :
    wpAny (model prog w) A (call (.builtin "sorted") [.ref it]) Q E s :=
  sorted_coreG hc hR e (AllAlike.of alike_pr) (fun s' e' => SortsAt.data (each_map (R := fun v d => ∃ as, Reads s'.heap v d as) encPr e') (AllAlike.of alike_pr) (Sortable.tuples fun b => ⟨_, _, rfl⟩) fun d hd => by
    obtain ⟨r, hr, rfl⟩ := List.mem_map.mp hd
    rw [depth_pr]
    show A.units + 1 + 1 + 1 < cLine
    omega) hz h
end

/-! ### the rules -/
theorem each_dp {K : PySem.W.Frag} {H : Hp} {β : Type} {enc : β → PyData} : ∀ {vs : List V} {its : List Value} {bs : List β}, Vals vs its → DpAll K H vs (bs.map enc) → EachIs (fun u b => ∃ x, RelV x u ∧ Dp K H x (enc b)) its bs
  | _, _, [], r, h => by
    cases h
    cases r
    exact .nil
  | _, _, b :: bs, r, h => by
    have h : DpAll K H _ (enc b :: bs.map enc) := h
    cases h with
    | cons h1 h2 =>
      cases r with
      | cons r1 r2 => exact .cons ⟨_, r1, h1⟩ (each_dp r2 h2)
theorem each_out {K : PySem.W.Frag} {H : Hp} {β : Type} {enc : β → PyData} : ∀ {its : List Value} {bs : List β}, EachIs (fun u b => ∃ x, RelV x u ∧ Dp K H x (enc b)) its bs → ∃ vs, Vals vs its ∧ DpAll K H vs (bs.map enc)
  | _, _, .nil => ⟨[], .nil, .nil⟩
  | _, _, .cons ⟨x, r, d⟩ t => by
    obtain ⟨vs, h1, h2⟩ := each_out t
    exact ⟨x :: vs, .cons r h1, .cons d h2⟩
theorem each_reads {X : Cx} {pins : List (Addr × Obj)} {σ : L2.St} {H : Hp} {s : Shared} {β : Type} {enc : β → PyData} {B : Hp} (sb : Same B H) (I : Inv X pins σ H s) {its : List Value} {bs : List β} (h : EachIs (fun u b => ∃ x, RelV x u ∧ Dp X.K B x (enc b)) its bs) : EachIs (fun v r => ∃ as, Reads s.heap v (enc r) as) its bs :=
  h.mono fun u b ⟨x, r, d⟩ => Dp.reads I _ x u (d.mono sb) r
/-- sorted(rows), rows a list -/
def rSortR (K : PySem.W.Frag) : List V → Hp → VK → Prop := fun xs H Q => ∃ (a : Addr) (vs : List V) (rows : List (List Pr)) (B : Hp), xs = [V.ref a] ∧ SqL K H a vs ∧ Same B H ∧ DpAll K B vs (rows.map encR) ∧ ((∀ r ∈ rows, r ≠ []) ∨ rows.head? = some []) ∧
  ∀ out q, H q = none → DpAll K B out ((sortR rows).map encR) → Q (.ref q) (upd H q (.lst out))
/-- sorted(t), t a tuple of pairs -/
def rSortQ (K : PySem.W.Frag) : List V → Hp → VK → Prop := fun xs H Q => ∃ (a : Addr) (vs : List V) (l : List Pr) (B : Hp), xs = [V.ref a] ∧ SqT K H a vs ∧ Same B H ∧ DpAll K B vs (l.map encPr) ∧
  ∀ out q, H q = none → DpAll K B out ((sortQ l).map encPr) → Q (.ref q) (upd H q (.lst out))
section
variable {X : Cx}
theorem sort_end {pins : List (Addr × Obj)} {σ : L2.St} {H : Hp} {s : Shared} {h1 h' : Heap} {tk n : Nat} {out : List Value} {β : Type} {enc : β → PyData} {bs : List β} {Q : VK} {B : Hp} (I : Inv X pins σ H s) (hz : bs.length ≤ sizeLine) (e : EachIs (fun u b => ∃ x, RelV x u ∧ Dp X.K B x (enc b)) out bs)
    (k1 : ∀ b o, s.heap.get? b = some o → h1.get? b = some o) (k2 : ∀ b o, h1.get? b = some o → h'.get? b = some o) (hn : h'.get? h1.objs.size = some (seqObj "list" out.toArray n))
    (q : ∀ vs p, H p = none → DpAll X.K B vs (bs.map enc) → Q (.ref p) (upd H p (.lst vs))) : EP X pins σ Q (.ref h1.objs.size) { s with heap := h', toks := tk } := by
  obtain ⟨vs, r, d⟩ := each_out e
  have I1 : Inv X pins σ H { s with heap := h1, toks := tk } := I.kept k1
  have hl := d.length
  rw [List.length_map] at hl
  exact ⟨.ref h1.objs.size, upd H h1.objs.size (.lst vs), I1.laid (t' := tk) k2 (Nat.le_refl _) ⟨by rw [hl]; exact hz, out, n, r, hn⟩, rfl, q vs _ (I1.hok.fresh (Nat.le_refl _)) d⟩
theorem cr_sortedR (hu : X.A.units + 64 < cLine) : CallR X (.builtin "sorted") (rSortR X.K) := by
  intro pins s σ H xs us Q I r h
  obtain ⟨a, vs, rows, B, rfl, hs, sb, hd, h0, q⟩ := h
  obtain ⟨its, rv, hl, hz⟩ := I.list hs
  obtain ⟨u, rfl, ru⟩ := r.one
  obtain rfl : u = Value.ref a := ru
  have e := each_dp rv hd
  have hlen := hd.length
  rw [List.length_map] at hlen
  obtain ⟨o, n, ho, hc, _, hdat⟩ := hl
  refine sorted_core (fun Q' k => ?_) e (each_reads sb I e) h0 (by omega) (by omega) fun h1 h' tk out n eo k1 k2 hn => sort_end I (by rw [(sortR_perm rows).length_eq]; omega) eo k1 k2 hn fun vs p hp hd => q vs p hp hd
  refine wpAny_collect_seq a (.inl rfl) ho hc hdat (fun h' k' => ?_) (by rw [List.size_toArray, ← rv.length]; exact hz)
  exact k h' s.toks k'
theorem cr_sortedQ (hu : X.A.units + 64 < cLine) : CallR X (.builtin "sorted") (rSortQ X.K) := by
  intro pins s σ H xs us Q I r h
  obtain ⟨a, vs, l, B, rfl, hs, sb, hd, q⟩ := h
  obtain ⟨its, rv, hl, hz⟩ := I.tuple hs
  obtain ⟨u, rfl, ru⟩ := r.one
  obtain rfl : u = Value.ref a := ru
  have e := each_dp rv hd
  have hlen := hd.length
  rw [List.length_map] at hlen
  obtain ⟨o, ho, hc, n, hdat⟩ := hl
  refine sorted_prs (fun Q' k => ?_) e (each_reads sb I e) (by omega) (by omega) fun h1 h' tk out n eo k1 k2 hn => sort_end I (by rw [(sortQ_perm l).length_eq]; omega) eo k1 k2 hn fun vs p hp hd => q vs p hp hd
  refine wpAny_collect_seq a (.inr rfl) ho hc hdat (fun h' k' => ?_) (by rw [List.size_toArray, ← rv.length]; exact hz)
  exact k h' s.toks k'
end
theorem cd_sortR {K : PySem.W.Frag} {rows : List (List Pr)} (h0 : (∀ r ∈ rows, r ≠ []) ∨ rows.head? = some []) : Cd K (rSortR K) [.dat (.list (rows.map encR))] (.list ((sortR rows).map encR)) := fun p B H vs e w Q k => by
  obtain ⟨v, rfl, hd⟩ := env_one e
  cases hd with
  | lst h1 h2 =>
    refine ⟨_, _, rows, B, rfl, w.sub.seq h1, w.sub, h2, h0, fun out q hq hd => ?_⟩
    have g := Gw.new (o := .lst out) w hq
    exact k _ _ _ _ rfl (.lst (.inl (.inl upd_same)) (hd.mono g.bb)) g
theorem cd_sortQ {K : PySem.W.Frag} {l : List Pr} : Cd K (rSortQ K) [.dat (.tuple (l.map encPr))] (.list ((sortQ l).map encPr)) := fun p B H vs e w Q k => by
  obtain ⟨v, rfl, hd⟩ := env_one e
  cases hd with
  | tup h1 h2 =>
    refine ⟨_, _, l, B, rfl, sqT_mono w.sub h1, w.sub, h2, fun out q hq hd => ?_⟩
    have g := Gw.new (o := .lst out) w hq
    exact k _ _ _ _ rfl (.lst (.inl (.inl upd_same)) (hd.mono g.bb)) g
end K47
/-! K47: dicts whose keys are rows of pairs, all values True. -/
namespace K47
open PySem PySem.Spec PyProof.Rows L2 PySem.W

def nkPr (p : Pr) : NestedKey := .tup [.num (p.1 : Int), .num (p.2 : Int)]
def nkR (r : List Pr) : NestedKey := .tup (r.map nkPr)
theorem nkPr_inj {p q : Pr} (h : nkPr p = nkPr q) : p = q := by
  unfold nkPr at h
  injection h with h
  injection h with h1 h2
  injection h2 with h2 _
  injection h1 with h1
  injection h2 with h2
  refine Prod.ext ?_ ?_ <;> omega
theorem nkR_inj : ∀ {r t : List Pr}, nkR r = nkR t → r = t := by
  intro r t h
  unfold nkR at h
  injection h with h
  induction r generalizing t with
  | nil =>
    cases t with
    | nil => rfl
    | cons _ _ => cases h
  | cons p r ih =>
    cases t with
    | nil => cases h
    | cons q t =>
      rw [List.map_cons, List.map_cons] at h
      injection h with h1 h2
      rw [nkPr_inj h1, ih h2]
theorem nk_depth (r : List Pr) : (nkR r).depth ≤ 8 := by
  have h : ∀ r : List Pr, NestedKey.depthAll (r.map nkPr) ≤ 1 := by
    intro r
    induction r with
    | nil => simp [NestedKey.depthAll]
    | cons p r ih =>
      rw [List.map_cons, NestedKey.depthAll]
      have : (nkPr p).depth = 1 := by simp [nkPr, NestedKey.depth, NestedKey.depthAll]
      omega
  unfold nkR
  rw [NestedKey.depth]
  have := h r
  omega
theorem nk_pr {h : Heap} {v : Value} {p : Pr} {as : List Addr} (r : Reads h v (encPr p) as) : NestedIs h (nkPr p) v := by
  cases r with
  | tuple h1 h2 h3 h4 =>
    refine .tup h1 h2 h3 ?_
    generalize Array.toList _ = vs at h4
    cases h4 with
    | cons a t =>
      cases a
      cases t with
      | cons a t =>
        cases a
        cases t
        exact .cons (.int _ _) (.cons (.int _ _) .nil)
theorem nk_all {h : Heap} : ∀ {r : List Pr} {vs : List Value} {as : List Addr}, ReadsAll h vs (r.map encPr) as → NestedAll h (r.map nkPr) vs
  | [], _, _, q => by cases q; exact .nil
  | p :: r, _, _, q => by
    have q : ReadsAll h _ (encPr p :: r.map encPr) _ := q
    cases q with
    | cons a t => exact .cons (nk_pr a) (nk_all t)
theorem nk_row {h : Heap} {v : Value} {r : List Pr} {as : List Addr} (q : Reads h v (encR r) as) : NestedIs h (nkR r) v := by
  cases q with
  | tuple h1 h2 h3 h4 => exact .tup h1 h2 h3 (nk_all h4)

/-- a key and where its tuple stands -/
abbrev Ks := List (List Pr × Addr)
def entX (ks : Ks) : List (NestedKey × Addr × Value) := ks.map fun e => (nkR e.1, e.2, Value.bool true)
def DX (P : Program) (w : World) (a : Addr) (ks : Ks) (h : Heap) : Prop := (a == sysModules) = false ∧ ks.length ≤ sizeLine ∧ (ks.map (·.1)).Nodup ∧ ∃ o es ep, h.get? a = some o ∧ o.ExactDict ∧ o.data = .dict es ep ∧ es.toList = (entX ks).map (entryOfKey (nestedKind P w))
def dictX (P : Program) (w : World) (a : Addr) (ks : Ks) : HO := .ext (DX P w a ks)
def storX (ks : Ks) (r : List Pr) (b : Addr) : Ks := if r ∈ ks.map (·.1) then ks else ks ++ [(r, b)]
theorem dictX_ok {P : Program} {w : World} {H : Hp} {h : Heap} {a : Addr} {ks : Ks} (x : DX P w a ks h) : ObjOk P w H h a (dictX P w a ks) := by
  obtain ⟨h1, h2, h3, o, es, ep, h4, h5⟩ := id x
  refine ⟨x, ⟨o, h4⟩, fun g1 g2 x k => ?_⟩
  obtain ⟨h1, h2, h3, o, es, ep, h4, h5⟩ := x
  exact ⟨h1, h2, h3, o, es, ep, k o h4, h5⟩
theorem entX_nodup {ks : Ks} (h : (ks.map (·.1)).Nodup) : ((entX ks).map (·.1)).Nodup := by
  have : (entX ks).map (·.1) = (ks.map (·.1)).map nkR := by
    unfold entX
    rw [List.map_map, List.map_map]
    rfl
  rw [this]
  refine List.Pairwise.map nkR (fun a b hab e => hab (nkR_inj e)) h
theorem entX_store {ks : Ks} {r : List Pr} {b : Addr} : storedH (entX ks) (nkR r) b (.bool true) = entX (storX ks r b) := by
  have hf : (atKey (entX ks) (nkR r)).isSome = decide (r ∈ ks.map (·.1)) := by
    induction ks with
    | nil => rfl
    | cons e ks ih =>
      by_cases h : e.1 = r
      · simp [entX, atKey, h]
      · have h2 : ¬ nkR e.1 = nkR r := fun q => h (nkR_inj q)
        have h3 : ¬ r = e.1 := fun q => h q.symm
        have h4 : decide (r ∈ (e :: ks).map (·.1)) = decide (r ∈ ks.map (·.1)) := by
          rw [List.map_cons]
          refine decide_eq_decide.mpr ⟨fun q => (List.mem_cons.mp q).resolve_left h3, fun q => List.mem_cons_of_mem _ q⟩
        rw [h4, ← ih]
        simp [entX, atKey, List.find?_cons, h2]
  unfold storedH storX
  rw [hf]
  by_cases h : r ∈ ks.map (·.1)
  · rw [if_pos h, if_pos (decide_eq_true h)]
    unfold entX
    rw [List.map_map]
    refine List.map_congr_left fun e _ => ?_
    show putAt (nkR r) (.bool true) (nkR e.1, e.2, .bool true) = _
    unfold putAt
    split <;> rfl
  · rw [if_neg h, if_neg (by rw [decide_eq_false h]; exact Bool.false_ne_true)]
    unfold entX
    rw [List.map_append]
    rfl
theorem storX_keys {ks : Ks} {r : List Pr} {b : Addr} : (storX ks r b).map (·.1) = if r ∈ ks.map (·.1) then ks.map (·.1) else ks.map (·.1) ++ [r] := by
  unfold storX
  split
  · rfl
  · rw [List.map_append]; rfl
section
variable {X : Cx} {pins : List (Addr × Obj)} {σ : L2.St} {H : Hp} {s : Shared} {d : Addr} {ks : Ks}
theorem keyIs_of {b : Addr} {r : List Pr} (I : Inv X pins σ H s) (h : Dp X.K H (.ref b) (encR r)) : (nestedKind X.prog X.w).is s.heap (nkR r) b := by
  obtain ⟨as, q⟩ := Dp.reads I _ _ (.ref b) h rfl
  exact ⟨nk_row q, nk_depth r⟩
theorem dictOf_of (I : Inv X pins σ H s) (x : DX X.prog X.w d ks s.heap) (hk : ∀ e ∈ ks, Dp X.K H (.ref e.2) (encR e.1)) : s.heap.DictOfH (nestedKind X.prog X.w) d (entX ks) := by
  obtain ⟨h1, h2, h3, o, es, ep, h4, h5, h6, h7⟩ := x
  refine ⟨o, es, ep, h4, h5, h6, h7, fun y hy => ?_, entX_nodup h3⟩
  obtain ⟨e, he, rfl⟩ := List.mem_map.mp hy
  exact keyIs_of I (hk e he)
theorem DX.of {P : Program} {w : World} {h : Heap} {d : Addr} {ks : Ks} (h1 : (d == sysModules) = false) (h2 : ks.length ≤ sizeLine) (x : h.DictOfH (nestedKind P w) d (entX ks)) : DX P w d ks h := by
  obtain ⟨o, es, ep, h4, h5, h6, h7, _, h8⟩ := x
  refine ⟨h1, h2, ?_, o, es, ep, h4, h5, h6, h7⟩
  have : (entX ks).map (·.1) = (ks.map (·.1)).map nkR := by
    unfold entX
    rw [List.map_map, List.map_map]
    rfl
  rw [this] at h8
  exact h8.of_map nkR fun a b hab e => hab (by rw [e])
/-! ### {} -/
def tNewX (P : Program) (w : World) : TE := fun _ H Q => ∀ p, H p = none → Q (.ref p) (upd H p (dictX P w p []))
theorem DX.empty {P : Program} {w : World} (h : Heap) (hb : sysModules < h.objs.size) : DX P w h.objs.size [] (h.push { cls := .type "dict", data := .dict #[] }) :=
  ⟨beq_eq_false_iff_ne.mpr (Ne.symm (Nat.ne_of_lt hb)), Nat.zero_le _, List.nodup_nil, _, #[], 0, Heap.get?_push_size _ rfl, ⟨rfl, rfl, rfl⟩, rfl, rfl⟩
theorem pe_newX {X : Cx} {pos : Pos} : PE X (.Dict [] [] pos) (tNewX X.prog X.w) := ⟨fun pins s σ H Q I h =>
  wpAny_Dict_empty ⟨.ref s.heap.objs.size, _, I.laid (a := s.heap.objs.size) (o := dictX X.prog X.w s.heap.objs.size []) (t' := s.toks) (fun _ _ q => Heap.get?_push_of_some _ q) (Nat.le_refl _) (dictX_ok (DX.empty s.heap I.big)), rfl, h _ (I.hok.fresh (Nat.le_refl _))⟩⟩
/-! ### {k: True} -/
def tDisp1X (P : Program) (w : World) (K : PySem.W.Frag) (tk tv : TE) : TE := fun σ H Q => ∀ p, H p = none → tk σ (upd H p (dictX P w p [])) fun x H1 => tv σ H1 fun y H2 => ∃ b r, x = .ref b ∧ y = .bl true ∧ H2 p = some (dictX P w p []) ∧ Dp K H2 (.ref b) (encR r) ∧ Q (.ref p) (upd H2 p (dictX P w p [(r, b)]))
theorem pe_disp1X {X : Cx} {pos : Pos} {k v : Expr} {tk tv : TE} (hu : X.A.units + 16 < cLine) (hk : PE X k tk) (hv : PE X v tv) : PE X (.Dict [some k] [v] pos) (tDisp1X X.prog X.w X.K tk tv) := by
  refine ⟨fun pins s σ H Q I q => ?_⟩
  have hn := I.hok.fresh (Nat.le_refl s.heap.objs.size)
  have I1 := I.laid (a := s.heap.objs.size) (o := dictX X.prog X.w s.heap.objs.size []) (h' := s.heap.push { cls := .type "dict", data := .dict #[] }) (t' := s.toks) (fun _ _ q => Heap.get?_push_of_some _ q) (Nat.le_refl _) (dictX_ok (DX.empty s.heap I.big))
  rw [arm_eval_Dict, zip_pairTrees [some k] [v] X.env pos rfl rfl, dictDisplay_pairs (pairTrees [some k] [v] X.env pos) (by simp [pairTrees]) (by simp [pairTrees])]
  refine wpAny_bind (wpAny_standAt (wpAny_bind (wpAny_subDictH (knd := nestedKind X.prog X.w) (Q := fun d s' => wpAny (model X.prog X.w) X.A (pure (Value.ref d)) _ X.xe s') (show X.A.units + 8 < cLine by omega) (by simp [pairTrees]) ?_)))
  refine pairTrees_cons_walk (thn (hk.run pins _ σ _ _ I1 (q _ hn)) fun u s1 ⟨x, H1, I2, rx, q1⟩ => thn (hv.run pins s1 σ H1 _ I2 q1) fun u2 s2 ⟨y, H2, I3, ry, b, r, ex, ey, hp, hb, q2⟩ => pairTrees_nil_walk ?_)
  subst ex ey
  cases rx
  cases ry
  have x := (I3.hok _ _ hp).1
  have hd : s2.heap.DictOfH (nestedKind X.prog X.w) s.heap.objs.size (entX []) := dictOf_of I3 x (fun e he => nomatch he)
  refine ⟨[(nkR r, b, .bool true)], ⟨rfl, rfl, keyIs_of I3 hb, trivial⟩, hd, fun h' tk hd' hs => wpAny_pure ⟨.ref s.heap.objs.size, _, ?_, rfl, q2⟩⟩
  have line : 1 ≤ sizeLine := by decide
  have x' : DX X.prog X.w s.heap.objs.size [(r, b)] h' := DX.of x.1 line hd'
  refine I3.write (x := s.heap.objs.size) (e := s.heap.objs.size) (by rw [hp]; exact trivial) (.inl rfl) (fun c u hc e => (hs.2 c hc).trans e) ?_ (dictX_ok x')
  obtain ⟨_, _, _, o, _, _, ho, _⟩ := x'
  exact ⟨o, ho⟩
/-! ### d[k] = True -/
def rSetX (P : Program) (w : World) (K : PySem.W.Frag) : TSet := fun o i v H Q => ∃ d b ks r, o = .ref d ∧ i = .ref b ∧ v = .bl true ∧ H d = some (dictX P w d ks) ∧ Dp K H (.ref b) (encR r) ∧ (∀ e ∈ ks, Dp K H (.ref e.2) (encR e.1)) ∧ ks.length < 1000000 ∧ Q (upd H d (dictX P w d (storX ks r b)))
theorem storX_length (ks : Ks) (r : List Pr) (b : Addr) : (storX ks r b).length ≤ ks.length + 1 := by
  unfold storX
  split
  · omega
  · rw [List.length_append]; exact Nat.le_refl _
theorem set_X {X : Cx} (hu : X.A.units + 16 < cLine) : PSet X (rSetX X.prog X.w X.K) := by
  intro pins s σ H o i v ov iv u Q I ro ri rv h
  obtain ⟨d, b, ks, r, rfl, rfl, rfl, hd, hb, hk, hl, q⟩ := h
  cases ro
  cases ri
  cases rv
  have x := (I.hok _ _ hd).1
  have line : (1000000 : Nat) ≤ sizeLine := by decide
  refine wpAny_setItem_heap (hsz := by unfold entX; rw [List.length_map]; omega) (show X.A.in1.units + 8 < cLine by show X.A.units + 1 + 8 < cLine; omega) (keyIs_of I hb) (dictOf_of I x hk) fun h' hd' hs => ?_
  rw [entX_store] at hd'
  have hlen := storX_length ks r b
  have x' := DX.of x.1 (by omega) hd'
  refine ⟨_, ?_, q⟩
  refine I.write (x := d) (e := d) (by rw [hd]; exact trivial) (.inl rfl) (fun c u hc e => (hs.2 c hc).trans e) ?_ (dictX_ok x')
  obtain ⟨_, _, _, o, _, _, ho, _⟩ := x'
  exact ⟨o, ho⟩
end
/-! ### for k in d, d locked -/
section
variable {X : Cx} {pins : List (Addr × Obj)} {σ : L2.St} {H : Hp} {s : Shared} {d : Addr} {ks : Ks} {o : Obj}
theorem size_ent {P : Program} {w : World} {es : Array DictEntry} {xs : List (NestedKey × Addr × Value)} (h : es.toList = xs.map (entryOfKey (nestedKind P w))) : es.size = xs.length := by
  rw [← Array.length_toList, h, List.length_map]
theorem frzX (I : Inv X pins σ H s) (h : H d = some (.frz o (dictX X.prog X.w d ks))) :
    (d == sysModules) = false ∧ s.heap.get? d = some o ∧ o.ExactDict ∧ ∃ (es : Array DictEntry) (ep : Nat), o.data = .dict es ep ∧ es.size = ks.length ∧ ∀ (i : Nat) (e : List Pr × Addr), ks[i]? = some e → ∃ en : DictEntry, es[i]? = some en ∧ en.key = .ref e.2 := by
  obtain ⟨hd, x, _⟩ := (show ObjOk X.prog X.w H s.heap d (.frz o (dictX X.prog X.w d ks)) from I.hok d _ h)
  obtain ⟨h1, h2, h3, o', es, ep, h4, h5, h6, h7⟩ := x
  rw [hd] at h4
  cases h4
  refine ⟨h1, hd, h5, es, ep, h6, by rw [size_ent h7]; unfold entX; rw [List.length_map], fun i e he => ?_⟩
  have : es.toList[i]? = some (entryOfKey (nestedKind X.prog X.w) (nkR e.1, e.2, .bool true)) := by
    rw [h7, List.getElem?_map]
    unfold entX
    rw [List.getElem?_map, he]
    rfl
  exact ⟨_, by rw [← Array.getElem?_toList]; exact this, rfl⟩
end
def ItX (P : Program) (w : World) (d : Addr) (o : Obj) (ks : Ks) : It :=
  ⟨fun i H => H d = some (.frz o (dictX P w d ks)) ∧ i < ks.length, fun i H x H' => H' = H ∧ ∃ e : List Pr × Addr, ks[i]? = some e ∧ x = .ref e.2, fun i H => H d = some (.frz o (dictX P w d ks)) ∧ ks.length ≤ i⟩
theorem turn_X {P : Program} {w : World} {K : PySem.W.Frag} {tg : Expr} {d : Addr} {o : Obj} {es : Array DictEntry} {ep : Nat} {ks : Ks} (it : Addr) (hod : o.data = .dict es ep) : Turn P w K tg (ItX P w d o ks) [it] it (fun i h => h.IsKeyIter it d i ks.length ep) where
  mem := by simp
  obj := fun i h st b hb => by
    have e : b = it := by simpa using hb
    subst e
    obtain ⟨oi, e, c, dd⟩ := st
    exact ⟨oi, e, fun v z => by rw [dd] at z; cases z⟩
  keep := fun i h h' st k => st.at fun oi e => k it (by simp) oi e
  item := by
    intro X hP hw hK hc i pins s σ H E I hf st hg
    subst hP hw hK
    obtain ⟨hd, hi⟩ := hg
    obtain ⟨f0, f1, f2, f3, f4, f5⟩ := hf it (by simp)
    obtain ⟨hs, hgd, hx, es', ep', hdt, hsz, ent⟩ := frzX I hd
    obtain ⟨rfl, rfl⟩ := dict_ep hod hdt
    obtain ⟨en, hen, hkey⟩ := ent i ks[i] (List.getElem?_eq_getElem hi)
    refine next_key_item st hgd hdt hsz hen fun h' st' sb => ?_
    have I1 : Inv X pins σ H { s with heap := h' } := I.turned (t' := s.toks) (fun b ob hb e => (sb.2 b hb).trans e) f0 f1 f3 f4 f5
    obtain ⟨oi, e, c, dd⟩ := id st'
    exact ⟨en.key, rfl, go_of (s := { s with heap := h' }) e c dd (by decide) ⟨.ref ks[i].2, H, I1, hkey, ⟨rfl, ks[i], List.getElem?_eq_getElem hi, rfl⟩, st', fun b hb => (hf b hb).1⟩⟩
  done := by
    intro X hP hw hK hc i pins s σ H E I hf st hg
    subst hP hw hK
    obtain ⟨hd, hi⟩ := hg
    obtain ⟨f0, f1, f2, f3, f4, f5⟩ := hf it (by simp)
    obtain ⟨hs, hgd, hx, es', ep', hdt, hsz, ent⟩ := frzX I hd
    obtain ⟨rfl, rfl⟩ := dict_ep hod hdt
    exact next_key_end (I.ok.hd hc) st hgd hdt hsz hi fun h' eb => ⟨rfl, I.turned (t' := s.toks) (fun b ob hb e => eb b ob hb e) f0 f1 f3 f4 f5⟩
  self := fun A i s Q E st h => by
    refine wpAny_pyIter_slot st.typeIs F.slot_dict_keyiterator_iter (wpAny_call_entry F.slot_dict_keyiterator_iter st.typeIs F.entry_dict_keyiterator_iter ?_ (F.args_dict_keyiterator_iter_1 _))
    show wpAny _ _ (ret (.ref it)) _ _ s
    exact wpAny_pure ⟨_, rfl, "dict_keyiterator", _, st.typeIs, F.slot_dict_keyiterator_next.lookup, h⟩
def iKeysX (P : Program) (w : World) (td : TE) : TI := fun σ H R => td σ H fun x H1 => ∃ d o ks, x = .ref d ∧ H1 d = some (.frz o (dictX P w d ks)) ∧ R (ItX P w d o ks) H1
theorem pi_X {X : Cx} {tg e : Expr} {td : TE} (he : PE X e td) : PI X tg e (iKeysX X.prog X.w td) := by
  refine ⟨fun pins s σ H R I h => ?_⟩
  refine thn (he.run pins s σ H _ I h) fun u s1 ⟨x, H1, I1, rx, d, o, ks, ex, hd, q⟩ => ?_
  subst ex
  obtain rfl : u = Value.ref d := rx
  obtain ⟨hs, hgd, hx, es, ep, hdt, hsz, ent⟩ := frzX I1 hd
  refine iter_keys hs hgd hx hdt (pi_one (tk := s1.toks) I1 _ (turn_X _ hdt) ⟨_, Heap.get?_push_size _ rfl, rfl, ?_⟩ q)
  rw [hsz] <;> rfl
theorem walk_X {P : Program} {w : World} {d : Addr} {o : Obj} {ks : Ks} : L2.Walk (ItX P w d o ks) ks.length (fun H => H d = some (.frz o (dictX P w d ks))) (fun i H x H' => H' = H ∧ ∃ e : List Pr × Addr, ks[i]? = some e ∧ x = .ref e.2) where
  goes := fun i H hi h => ⟨h, hi⟩
  stops := fun H h => ⟨h, Nat.le_refl _⟩
  yields := fun i H x H' hi h y => y
/-! ### sorted(d) -/
def rSortD (P : Program) (w : World) (K : PySem.W.Frag) : List V → Hp → VK → Prop := fun xs H Q => ∃ (d : Addr) (ks : Ks) (B : Hp), xs = [V.ref d] ∧ H d = some (dictX P w d ks) ∧ Same B H ∧ (∀ e ∈ ks, Dp K B (.ref e.2) (encR e.1)) ∧ ((∀ r ∈ ks.map (·.1), r ≠ []) ∨ (ks.map (·.1)).head? = some []) ∧
  ∀ out q, H q = none → DpAll K B out ((sortR (ks.map (·.1))).map encR) → Q (.ref q) (upd H q (.lst out))
theorem each_ks {K : PySem.W.Frag} {B : Hp} : ∀ {ks : Ks}, (∀ e ∈ ks, Dp K B (.ref e.2) (encR e.1)) → EachIs (fun u r => ∃ x, RelV x u ∧ Dp K B x (encR r)) (ks.map fun e => Value.ref e.2) (ks.map (·.1))
  | [], _ => .nil
  | e :: ks, h => .cons ⟨.ref e.2, rfl, h e List.mem_cons_self⟩ (each_ks fun x hx => h x (List.mem_cons_of_mem _ hx))
theorem cr_sortedD {X : Cx} (hc : X.calm = true) (hu : X.A.units + 64 < cLine) : CallR X (.builtin "sorted") (rSortD X.prog X.w X.K) := by
  intro pins s σ H xs us Q I r h
  obtain ⟨d, ks, B, rfl, hd, sb, hk, h0, q⟩ := h
  obtain ⟨u, rfl, ru⟩ := r.one
  obtain rfl : u = Value.ref d := ru
  obtain ⟨h1, h2, h3, o, es, ep, h4, h5, h6, h7⟩ := (I.hok d _ hd).1
  have e := each_ks hk
  have hsz : es.size = ks.length := by rw [size_ent h7]; unfold entX; rw [List.length_map]
  refine sorted_core (vs := ks.map fun e => Value.ref e.2) (fun Q' k => ?_) e (each_reads sb I e) h0 (by omega) (by rw [List.length_map]; exact h2) fun g1 g' tk out n eo k1 k2 hn => sort_end I (by rw [(sortR_perm _).length_eq, List.length_map]; exact h2) eo k1 k2 hn fun vs p hp hd => q vs p hp hd
  refine kdu_collect (kdl_raw h1 h5 h6) (I.ok.hd hc) h4 (by omega) fun h' tk acc kk it => ?_
  have ea : acc.toList = ks.map fun e => Value.ref e.2 := by
    have hl : acc.toList.length = ks.length := by rw [Array.length_toList, it.1]; exact hsz
    refine List.ext_getElem? fun j => ?_
    rw [List.getElem?_map]
    cases hj : acc.toList[j]? with
    | none =>
      have h1 := List.getElem?_eq_none_iff.mp hj
      rw [List.getElem?_eq_none (by omega)]
      rfl
    | some v =>
      obtain ⟨en, hen, hv⟩ := it.2 j v (by rw [← Array.getElem?_toList]; exact hj)
      have hjl : j < ks.length := by have := (List.getElem?_eq_some_iff.mp hj).1; omega
      have : es.toList[j]? = some (entryOfKey (nestedKind X.prog X.w) (nkR ks[j].1, ks[j].2, .bool true)) := by
        rw [h7, List.getElem?_map]
        unfold entX
        rw [List.getElem?_map, List.getElem?_eq_getElem hjl]
        rfl
      rw [Array.getElem?_toList, hen] at this
      cases this
      rw [List.getElem?_eq_getElem hjl, hv]
      rfl
  rw [ea]
  exact k h' tk kk
/-! ### the rules with the written part named -/
section
variable {X : Cx} (P : Program) (w : World) (K : PySem.W.Frag) (h1 : X.prog = P) (h2 : X.w = w) (h3 : X.K = K)
include h1 h2
theorem kNewX {pos : Pos} : PE X (.Dict [] [] pos) (tNewX P w) := by subst h1 h2; exact pe_newX
theorem kPiX {tg e : Expr} {td : TE} (he : PE X e td) : PI X tg e (iKeysX P w td) := by subst h1 h2; exact pi_X he
include h3
theorem kDisp1X {pos : Pos} {k v : Expr} {tk tv : TE} (hu : X.A.units + 16 < cLine) (hk : PE X k tk) (hv : PE X v tv) : PE X (.Dict [some k] [v] pos) (tDisp1X P w K tk tv) := by subst h1 h2 h3; exact pe_disp1X hu hk hv
theorem kSetX (hu : X.A.units + 16 < cLine) : PSet X (rSetX P w K) := by subst h1 h2 h3; exact set_X hu
theorem kSortD (hc : X.calm = true) (hu : X.A.units + 64 < cLine) : CallR X (.builtin "sorted") (rSortD P w K) := by subst h1 h2 h3; exact cr_sortedD hc hu
end
section
variable {X : Cx} (K : PySem.W.Frag) (h3 : X.K = K)
include h3
theorem kSortR (hu : X.A.units + 64 < cLine) : CallR X (.builtin "sorted") (rSortR K) := by subst h3; exact cr_sortedR hu
theorem kSortQ (hu : X.A.units + 64 < cLine) : CallR X (.builtin "sorted") (rSortQ K) := by subst h3; exact cr_sortedQ hu
end
end K47
/-! K47, the layer: own dicts of rows. -/
namespace K47
open PySem PySem.Spec PyProof.Rows L2
theorem hu16 {A : Around} {k : Nat} (hr : Room k A) : A.units + 16 < cLine := by have := hr.units; omega
/-- a dict whose keys are these rows, in this order -/
def dctP (P : Program) (w : World) (K : PySem.W.Frag) (rows : List (List Pr)) : OwnP :=
  ⟨fun O B a => ∃ ks : Ks, O a = some (dictX P w a ks) ∧ ks.map (·.1) = rows ∧ ∀ e ∈ ks, Dp K B (.ref e.2) (encR e.1), fun a => [a],
    fun O B B' a h ⟨ks, h1, h2, h3⟩ => ⟨ks, h1, h2, fun e he => (h3 e he).mono h⟩, fun O O' B a h ⟨ks, h1, h2⟩ => ⟨ks, (h a (by simp)).trans h1, h2⟩,
    fun O B a ⟨ks, h1, h2⟩ x hx => by rw [show x = a by simpa using hx]; exact ⟨_, h1⟩⟩
def addR (rows : List (List Pr)) (r : List Pr) : List (List Pr) := if r ∈ rows then rows else rows ++ [r]
theorem addR_mem {rows : List (List Pr)} {r x : List Pr} : x ∈ addR rows r ↔ x ∈ rows ∨ x = r := by
  unfold addR
  split
  · rename_i h
    exact ⟨.inl, fun q => q.elim id fun e => by rw [e]; exact h⟩
  · rw [List.mem_append, List.mem_singleton]
theorem addR_nodup {rows : List (List Pr)} {r : List Pr} (h : rows.Nodup) : (addR rows r).Nodup := by
  unfold addR
  split
  · exact h
  · rename_i hn
    refine List.nodup_append.mpr ⟨h, by simp, fun a ha b hb e => ?_⟩
    rw [List.mem_singleton] at hb
    exact hn (by rw [← hb, ← e]; exact ha)
section
variable {P : Program} {w : World} {K : PySem.W.Frag} {ds : Slots} {te tj tk t1 t2 : TE} {ta : TA} {tt : TT} {t u : TS} {N N1 N' : Slots → Prop} {R R' PP : PyData → Prop} {d : PyData} {a : Addr}
theorem ro_newD {i : Nat} (k : ∀ a, awayL a (ds.set i .nil) → N (ds.set i (.own a (dctP P w K [])))) : RunO K (tAsg (tNewX P w) (gName i)) ds N R := fun p0 B0 H0 p B H σ D e F kn kr => by
  intro q hq
  have e' := e.hide1 i
  have own0 : p.own q = none := by
    cases e0 : p.own q with
    | none => rfl
    | some o => rw [(F.wf.ow q o e0).1] at hq; cases hq
  have aw := away_none (fun o ho => by rw [own0] at ho; cases ho) e'
  have F' := F.new hq (dictX P w q [])
  have e2 : EnvD K (p.add q (dictX P w q [])) B σ (ds.set i .nil) := e'.awayTo (p := p) (q := p.add q (dictX P w q [])) rfl (fun x hx => upd_ne hx) (fun x h => .inr h) aw
  have e3 := e2.set i (o := some (.ref q)) (s := .own q (dctP P w K [])) ⟨rfl, ⟨[], upd_same, rfl, fun e he => nomatch he⟩, fun x hx => .inl (by simpa [dctP] using hx)⟩
  rw [List.set_set] at e3
  exact kn _ _ B _ _ (k q aw) e3 F' (Ex.add own0)
/-- d[k] = True -/
theorem ro_putD {i : Nat} {rows : List (List Pr)} {r : List Pr} (hi : ds[i]? = some (.own a (dctP P w K rows))) (hj : Ev K tj ds (encR r)) (hl : rows.length < 1000000) (haw : awayL a (ds.set i .nil))
    (k : N (ds.set i (.own a (dctP P w K (addR rows r))))) : RunO K (tAsg (tC (.bl true)) (gSub (tVar i) tj (rSetX P w K))) ds N R := fun p0 B0 H0 p B H σ D e F kn kr => by
  obtain ⟨e1, _⟩ := e.own hi
  refine ⟨_, e1, ?_⟩
  refine hj p B H σ e F.wf _ fun d2 v2 B2 H2 q2 hd2 g2 => ?_
  subst q2
  have hb : ∃ b, v2 = .ref b := by cases hd2; exact ⟨_, rfl⟩
  obtain ⟨b, rfl⟩ := hb
  have e' := e.mono g2.bb
  have F1 := F.step g2
  obtain ⟨_, ⟨ks, ho, hks, hdp⟩, hn⟩ := e'.own hi
  have hn := hn a (by simp [dctP])
  have hlk : ks.length = rows.length := by rw [← hks, List.length_map]
  refine ⟨a, b, ks, r, rfl, rfl, rfl, (F1.wf.ow a _ ho).1, hd2.mono F1.wf.sub, fun e he => (hdp e he).mono F1.wf.sub, by omega, ?_⟩
  have F2 := F1.mut hn ho (dictX P w a (storX ks r b))
  have e2 : EnvD K (p.put a (dictX P w a (storX ks r b))) B2 σ (ds.set i .nil) := (e'.hide1 i).awayTo (p := p) (q := p.put a (dictX P w a (storX ks r b))) rfl (fun x hx => upd_ne hx) (fun x h => h) haw
  refine kn _ _ B2 _ _ k (e2.back e1 ⟨rfl, ⟨storX ks r b, upd_same, ?_, fun e he => ?_⟩, fun x hx => by rw [show x = a by simpa [dctP] using hx]; exact hn⟩) F2 ((Ex.of g2.bb).trans (Ex.put hn))
  · rw [storX_keys, hks]; rfl
  · unfold storX at he
    split at he
    · exact hdp e he
    · rcases List.mem_append.mp he with he | he
      · exact hdp e he
      · rw [List.mem_singleton] at he
        subst he
        exact hd2
/-- sorted(d) -/
theorem ev_sortD {i : Nat} {rows : List (List Pr)} (hi : ds[i]? = some (.own a (dctP P w K rows))) (h0 : (∀ r ∈ rows, r ≠ []) ∨ rows.head? = some []) : Ev K (tCB (rSortD P w K) (tCons (tVar i) tNil)) ds (.list ((sortR rows).map encR)) := fun p B H σ e W Q k => by
  obtain ⟨e1, ⟨ks, ho, hks, hdp⟩, hn⟩ := e.own hi
  refine ⟨_, e1, ?_⟩
  refine ⟨a, ks, B, rfl, (W.ow a _ ho).1, W.sub, hdp, by rw [hks]; exact h0, fun out q hq hd => ?_⟩
  have g := Gw.new (o := .lst out) W hq
  rw [hks] at hd
  exact k _ _ _ _ rfl (.lst (.inl (.inl upd_same)) (hd.mono g.bb)) g
end
end K47
/-! K47, the layer: an own list of dicts of rows. -/
namespace K47
open PySem PySem.Spec PyProof.Rows L2
theorem EnvD.awayAll {K : PySem.W.Frag} {p q : Pst} {B : Hp} {L : List Addr} (e : q.st = p.st) (ho : ∀ x, x ∉ L → q.own x = p.own x) (hn : ∀ x, x ∉ L → p.nw x → q.nw x) : ∀ {σ : L2.St} {ds : Slots}, EnvD K p B σ ds → (∀ x ∈ L, awayL x ds) → EnvD K q B σ ds
  | _, _, .nil, _ => .nil
  | _, _, .cons (b := s) h t, ha => .cons (by
      cases s with
      | dat d => exact h
      | nil => trivial
      | strm => obtain ⟨x, y, k1, k2⟩ := h; exact ⟨x, y, e.trans k1, k2⟩
      | adr b => exact h
      | ls l => exact h
      | own b Φ =>
        obtain ⟨k1, k2, k3⟩ := h
        have nl : ∀ x ∈ Φ.foot b, x ∉ L := fun x hx hl => (ha x hl).1 hx
        exact ⟨k1, Φ.frame _ _ _ _ (fun x hx => ho x (nl x hx)) k2, fun x hx => hn x (nl x hx) (k3 x hx)⟩) (EnvD.awayAll e ho hn t fun x hx => (ha x hx).2)
theorem Fw.renw {p0 p : Pst} {B0 H0 B H : Hp} (F : Fw p0 B0 H0 p B H) (nw : Addr → Prop) (h : ∀ a, nw a → p0.own a = none ∧ H0 a = none) : Fw p0 B0 H0 { p with nw := nw } B H :=
  ⟨F.w0, F.g, ⟨F.wf.sub, F.wf.st, F.wf.nb, F.wf.ow, F.wf.os⟩, F.st, F.ol, h⟩
/-- dicts of rows, at q -/
def rowsP (P : Program) (w : World) (K : PySem.W.Frag) (q : List Addr) (L : List (List (List Pr))) : OwnP :=
  ⟨fun O B a => (a :: q).Nodup ∧ q.length = L.length ∧ O a = some (.lst (q.map .ref)) ∧ ∀ i x, q[i]? = some x → ∃ ks : Ks, O x = some (dictX P w x ks) ∧ L[i]? = some (ks.map (·.1)) ∧ ∀ e ∈ ks, Dp K B (.ref e.2) (encR e.1), fun a => a :: q,
    fun O B B' a h ⟨h1, h2, h3, h4⟩ => ⟨h1, h2, h3, fun i x hx => let ⟨ks, k1, k2, k3⟩ := h4 i x hx; ⟨ks, k1, k2, fun e he => (k3 e he).mono h⟩⟩,
    fun O O' B a h ⟨h1, h2, h3, h4⟩ => ⟨h1, h2, (h a List.mem_cons_self).trans h3, fun i x hx => let ⟨ks, k1, k2⟩ := h4 i x hx; ⟨ks, (h x (List.mem_cons_of_mem _ (List.mem_of_getElem? hx))).trans k1, k2⟩⟩,
    fun O B a ⟨h1, h2, h3, h4⟩ x hx => by
      rcases List.mem_cons.mp hx with rfl | hx
      · exact ⟨_, h3⟩
      · obtain ⟨i, hi⟩ := List.getElem?_of_mem hx
        obtain ⟨ks, k1, _⟩ := h4 i x hi
        exact ⟨_, k1⟩⟩
section
variable {P : Program} {w : World} {K : PySem.W.Frag} {ds : Slots} {te tj tk t1 t2 : TE} {ta : TA} {tt : TT} {t u : TS} {N N1 N' : Slots → Prop} {R R' PP : PyData → Prop} {d : PyData} {a : Addr}
/-- x = [{(): True} for .. in ..] -/
theorem ro_newRows {i v m : Nat} {wi : TI} {f : Nat → PyData} (h : EvN K wi ds m f) (hm : m ≤ 1000) (hp : pureL (ds.set i .nil))
    (k : ∀ a q, N (ds.set i (.own a (rowsP P w K q (List.replicate m [[]]))))) : RunO K (tAsg (tLc wi (gName v) tYes (tDisp1X P w K (tTup tNil) (tC (.bl true))) [v]) (gName i)) ds N R := fun p0 B0 H0 p B H σ D e F kn kr =>
  h p B H σ e F.wf _ fun n' f' Ji B1 H1 G Y ⟨en, ef⟩ g1 W hG hY => by
    subst en ef
    intro A hA
    have F1 := F.step g1
    have e1 := e.mono g1.bb
    refine L2.lc_it W (fun i H' => ∃ q B', q.length = i ∧ (A :: q).Nodup ∧ H' A = some (.lst (q.map .ref)) ∧ B' A = none ∧ (∀ x ∈ q, ∃ b, H' x = some (dictX P w x [([], b)]) ∧ Dp K B' (.ref b) (encR []) ∧ B' x = none ∧ H1 x = none) ∧ Gw p B1 H1 B' H')
      ⟨[], B1, rfl, by simp, upd_same, g1.wf.none_of hA, by simp, Gw.newH g1.wf hA⟩ (fun i H' _ ⟨_, B', _, _, _, _, _, g2⟩ => hG B' H' g2.bb g2.wf) ?_ ?_
    · intro i x H' H3 hi ⟨q, B', hq, nd, hA', hB', hx, g2⟩ y
      obtain ⟨B3, g3, hd⟩ := hY i B' H' x H3 hi g2.bb g2.wf y
      have pA := g1.wf.ne hA
      have e3 := ((e1.mono g2.bb).mono g3.bb).wipe [v]
      show wipe ((wipe σ [v]).set v (some x)) [v] = wipe σ [v] ∧ _
      refine ⟨by rw [wipe_set (by simp), wipe_wipe], ?_⟩
      have e4 : EnvD K p B3 ((wipe σ [v]).set v (some x)) ((wipeD ds [v]).set v (.dat (f' i))) := e3.setD v hd
      unfold tYes
      dsimp only
      rw [if_pos rfl]
      intro r hr
      have gn : Gw p B3 H3 B3 (upd H3 r (dictX P w r [])) := Gw.newH g3.wf hr
      refine (ev_tup (K := K) (ds := (wipeD ds [v]).set v (.dat (f' i))) (l := []) ea_nil) p B3 _ _ e4 gn.wf _ fun d4 v4 B4 H4 q4 hd4 g4 => ?_
      subst q4
      have hb4 : ∃ b, v4 = .ref b := by cases hd4; exact ⟨_, rfl⟩
      obtain ⟨b, rfl⟩ := hb4
      obtain ⟨r1, r2⟩ := g4.keep (g3.wf.ne hr) (g3.wf.none_of hr) upd_same
      refine ⟨b, [], rfl, rfl, r2, hd4.mono g4.wf.sub, ?_⟩
      have g34 := (g3.trans gn).trans g4
      have gg := g2.trans g34
      obtain ⟨b1, b2⟩ := g34.keep pA hB' hA'
      have q1 : H1 r = none := by
        cases eq : H1 r with
        | none => rfl
        | some o => exact absurd hr ((g2.trans g3).tr r (by rw [eq]; simp))
      have hrA : A ≠ r := fun z => by
        have := (g3.keep pA hB' hA').2
        rw [z, hr] at this
        cases this
      have g5 : Gw p B1 H1 B4 (upd H4 r (dictX P w r [([], b)])) := Gw.mut g1.wf gg q1 r1
      have keepx : ∀ z ∈ q, z ≠ r ∧ ∃ b, H4 z = some (dictX P w z [([], b)]) ∧ Dp K B4 (.ref b) (encR []) ∧ B4 z = none ∧ H1 z = none := fun z hz => by
        obtain ⟨c, j1, j2, j3, j4⟩ := hx z hz
        have k1 := g34.keep (g1.wf.ne j4) j3 j1
        have k2 := g3.keep (g1.wf.ne j4) j3 j1
        refine ⟨fun e => ?_, c, k1.2, j2.mono g34.bb, k1.1, j4⟩
        rw [e, hr] at k2
        cases k2.2
      refine ⟨q.map .ref, by rw [upd_ne hrA]; exact b2, ?_, q ++ [r], B4, by rw [List.length_append, hq]; rfl, ?_, ?_, b1, fun z hz => ?_, ?_⟩
      · rw [List.length_map, hq]
        exact Nat.lt_of_lt_of_le (show i < 1001 by omega) (by decide)
      · rw [← List.cons_append]
        refine List.nodup_append.mpr ⟨nd, by simp, fun a ha b hb => ?_⟩
        rw [List.mem_singleton] at hb
        subst hb
        rcases List.mem_cons.mp ha with rfl | ha
        · exact hrA
        · exact (keepx a ha).1
      · rw [upd_same, List.map_append]; rfl
      · rcases List.mem_append.mp hz with hz | hz
        · have hzA : z ≠ A := fun z' => (List.nodup_cons.mp nd).1 (by rw [← z']; exact hz)
          obtain ⟨j0, c, j1, j2, j3, j4⟩ := keepx z hz
          exact ⟨c, by rw [upd_ne hzA, upd_ne j0]; exact j1, j2, j3, j4⟩
        · rw [List.mem_singleton] at hz
          subst hz
          exact ⟨b, by rw [upd_ne hrA.symm, upd_same], hd4, r1, q1⟩
      · exact Gw.mut g1.wf g5 hA b1
    · intro H' ⟨q, B', hq, nd, hA', hB', hx, g2⟩
      have F2 := F1.step g2
      have e2 := e1.mono g2.bb
      obtain ⟨p', F3, s3, m3, o3, w3, x3⟩ := adoptAll (A :: q) F2 nd fun x hx' => by
        have x1 : H1 x = none := by
          rcases List.mem_cons.mp hx' with rfl | h
          · exact hA
          · obtain ⟨_, _, _, _, h⟩ := hx x h; exact h
        refine ⟨?_, ?_, ?_, ?_, fun y z hst => (F1.wf.st y z hst).ne x1⟩
        · rcases List.mem_cons.mp hx' with rfl | h
          · exact ⟨_, hA'⟩
          · obtain ⟨_, h, _⟩ := hx x h; exact ⟨_, h⟩
        · rcases List.mem_cons.mp hx' with rfl | h
          · exact hB'
          · obtain ⟨_, _, _, h, _⟩ := hx x h; exact h
        · cases eo : p.own x with
          | none => rfl
          | some o => rw [(F1.wf.ow x o eo).1] at x1; cases x1
        · cases eo : H0 x with
          | none => rfl
          | some o => exact absurd x1 (F1.g.tr x (by rw [eo]; simp))
      have e4 : EnvD K p' B' σ (ds.set i .nil) := (e2.hide1 i).pureTo (p := p) (q := p') s3 hp
      have e5 := e4.set i (o := some (.ref A)) (s := .own A (rowsP P w K q (List.replicate n' [[]]))) ⟨rfl, ⟨nd, by rw [hq, List.length_replicate], (m3 A List.mem_cons_self).1.trans hA', fun j x hj => by
        have hxm := List.mem_of_getElem? hj
        obtain ⟨b, k1, k2, _⟩ := hx x hxm
        refine ⟨[([], b)], (m3 x (List.mem_cons_of_mem _ hxm)).1.trans k1, ?_, fun e he => ?_⟩
        · have hjl := (List.getElem?_eq_some_iff.mp hj).1
          rw [List.getElem?_replicate, if_pos (by omega)]
          rfl
        · rw [List.mem_singleton] at he
          subst he
          exact k2⟩, fun x hx => (m3 x hx).2⟩
      rw [List.set_set] at e5
      exact kn _ _ B' _ _ (k A q) e5 F3 ((Ex.of (g1.bb.trans g2.bb)).trans x3)
/-- x[j] = d -/
theorem ro_setRows {i i2 j : Nat} {z : Int} {q : List Addr} {L : List (List (List Pr))} {rws : List (List Pr)} {f : Addr} (hi : ds[i]? = some (.own a (rowsP P w K q L))) (hf : ds[i2]? = some (.own f (dctP P w K rws))) (hne : i ≠ i2) (hj : Ev K tj ds (.int z)) (hz : z = (j : Int)) (hjl : j < L.length)
    (haf : f ∉ a :: q) (haw : awayL a ((ds.set i2 .nil).set i .nil)) (k : N ((ds.set i2 .nil).set i (.own a (rowsP P w K (q.set j f) (L.set j rws))))) : RunO K (tAsg (tVar i2) (gSub (tVar i) tj rSetL)) ds N R := fun p0 B0 H0 p B H σ D e F kn kr => by
  obtain ⟨e2, _⟩ := e.own hf
  refine ⟨_, e2, ?_⟩
  obtain ⟨e1, _⟩ := e.own hi
  refine ⟨_, e1, ?_⟩
  refine hj p B H σ e F.wf _ fun d2 v2 B2 H2 q2 hd2 g2 => ?_
  subst q2
  cases hd2
  have e' := e.mono g2.bb
  have F1 := F.step g2
  obtain ⟨_, ⟨nd, hl, ho, hr⟩, hn⟩ := e'.own hi
  obtain ⟨_, ⟨kf, hof, hkf, hdf⟩, hnf⟩ := e'.own hf
  have hna := hn a List.mem_cons_self
  have hfa : f ≠ a := fun z => haf (by rw [z]; exact List.mem_cons_self)
  have F2 := F1.mut hna ho (.lst ((q.map .ref).set j (.ref f)))
  refine ⟨a, q.map .ref, z, j, rfl, rfl, (F1.wf.ow a _ ho).1, ?_, ?_⟩
  · unfold ixN
    rw [hz, List.length_map, if_pos (by omega), if_pos (by omega), Int.toNat_natCast]
  have e3 : EnvD K (p.put a (.lst ((q.map .ref).set j (.ref f)))) B2 σ ((ds.set i2 .nil).set i .nil) := ((e'.hide1 i2).hide1 i).awayTo (p := p) (q := p.put a (.lst ((q.map .ref).set j (.ref f)))) rfl (fun x hx => upd_ne hx) (fun x h => h) haw
  have nda := List.nodup_cons.mp nd
  refine kn _ _ B2 _ _ k (e3.back e1 ⟨rfl, ⟨?_, ?_, ?_, fun m x hx => ?_⟩, fun x hx => ?_⟩) F2 ((Ex.of g2.bb).trans (Ex.put hna))
  · refine List.nodup_cons.mpr ⟨fun h => ?_, ?_⟩
    · rcases List.mem_or_eq_of_mem_set h with h | h
      · exact nda.1 h
      · exact hfa h.symm
    · have hfq : f ∉ q := fun z => haf (List.mem_cons_of_mem _ z)
      have : ∀ {l : List Addr} (j : Nat), l.Nodup → f ∉ l → (l.set j f).Nodup := by
        intro l
        induction l with
        | nil => intro j _ _; simp
        | cons c l ih =>
          intro j h hf
          obtain ⟨h1, h2⟩ := List.nodup_cons.mp h
          cases j with
          | zero => exact List.nodup_cons.mpr ⟨fun z => hf (List.mem_cons_of_mem _ z), h2⟩
          | succ j =>
            refine List.nodup_cons.mpr ⟨fun z => ?_, ih j h2 fun z => hf (List.mem_cons_of_mem _ z)⟩
            rcases List.mem_or_eq_of_mem_set z with z | z
            · exact h1 z
            · exact hf (by rw [← z]; exact List.mem_cons_self)
      exact this j nda.2 hfq
  · rw [List.length_set, List.length_set, hl]
  · show upd p.own a _ a = _
    rw [upd_same, List.map_set]
  · have hxa : x ≠ a := fun z => by
      rw [z] at hx
      rcases List.mem_or_eq_of_mem_set (List.mem_of_getElem? hx) with h | h
      · exact nda.1 h
      · exact hfa h.symm
    show ∃ ks : Ks, upd p.own a _ x = _ ∧ _
    rw [upd_ne hxa]
    by_cases hm : j = m
    · subst hm
      rw [List.getElem?_set_self (by omega)] at hx
      cases hx
      exact ⟨kf, hof, by rw [List.getElem?_set_self hjl, hkf], hdf⟩
    · rw [List.getElem?_set_ne hm] at hx
      rw [List.getElem?_set_ne hm]
      exact hr m x hx
  · rcases List.mem_cons.mp hx with rfl | hx
    · exact hna
    · rcases List.mem_or_eq_of_mem_set hx with h | h
      · exact hn x (List.mem_cons_of_mem _ h)
      · rw [h]; exact hnf f (by simp [dctP])
/-- sorted(x[0]) -/
theorem ev_sortRows {i j : Nat} {z : Int} {q : List Addr} {L : List (List (List Pr))} {rws : List (List Pr)} (hi : ds[i]? = some (.own a (rowsP P w K q L))) (hj : Ev K tj ds (.int z)) (hz : z = (j : Int)) (hL : L[j]? = some rws) (h0 : (∀ r ∈ rws, r ≠ []) ∨ rws.head? = some []) :
    Ev K (tCB (rSortD P w K) (tCons (tOp (rIxL K) (tVar i) tj) tNil)) ds (.list ((sortR rws).map encR)) := fun p B H σ e W Q k => by
  obtain ⟨e1, _⟩ := e.own hi
  refine ⟨_, e1, ?_⟩
  refine hj p B H σ e W _ fun d2 v2 B2 H2 q2 hd2 g2 => ?_
  subst q2
  cases hd2
  obtain ⟨_, ⟨nd, hl, ho, hr⟩, _⟩ := (e.mono g2.bb).own hi
  have hjl := (List.getElem?_eq_some_iff.mp hL).1
  have hq : q[j]? = some q[j] := List.getElem?_eq_getElem (by omega)
  obtain ⟨ks, k1, k2, k3⟩ := hr j _ hq
  rw [hL] at k2
  have k2 : rws = ks.map (·.1) := Option.some.inj k2
  refine ⟨a, q.map .ref, z, .ref q[j], rfl, rfl, .inl (.inl (g2.wf.ow a _ ho).1), ?_, ?_⟩
  · rw [hz]
    exact atI_nat (by rw [List.getElem?_map, hq]; rfl)
  refine ⟨q[j], ks, B2, rfl, (g2.wf.ow _ _ k1).1, g2.wf.sub, k3, by rw [← k2]; exact h0, fun out r hr hd => ?_⟩
  have g := Gw.new (o := .lst out) g2.wf hr
  rw [← k2] at hd
  exact k _ _ _ _ rfl (.lst (.inl (.inl upd_same)) (hd.mono g.bb)) (g2.trans g)
/-- for v in x[j]: .., the dict locked -/
theorem ro_lockRows {i j v : Nat} {z : Int} {q : List Addr} {L : List (List (List Pr))} {rws : List (List Pr)} {vs : List Nat} {tb : TS} (I : Nat → Slots → Prop) (hi : ds[i]? = some (.own a (rowsP P w K q L))) (hj : Ev K tj (ds.set i (.adr a)) (.int z)) (hz : z = (j : Int)) (hL : L[j]? = some rws)
    (haw : ∀ x ∈ a :: q, awayL x (ds.set i (.adr a))) (h0 : I 0 (ds.set i (.adr a))) (hs : ∀ m ds' (hm : m < rws.length), I m ds' → ∃ ds2, EvG K vs (gName v) (encR rws[m]) ds' ds2 ∧ RunO K tb ds2 (I (m + 1)) (fun _ => False))
    (hd : ∀ ds', I rws.length ds' → ds'[i]? = some (.adr a) ∧ (∀ x ∈ a :: q, awayL x ds') ∧ N (ds'.set i (.own a (rowsP P w K q L)))) : RunO K (tLock (tFor (iKeysX P w (tOp (rIxL K) (tVar i) tj)) (gName v) tb)) ds N R := fun p0 B0 H0 p B H σ D e F kn kr => by
  obtain ⟨e1, ⟨nd, hl, ho, hr⟩, hn⟩ := e.own hi
  have hjl := (List.getElem?_eq_some_iff.mp hL).1
  have hq : q[j]? = some q[j] := List.getElem?_eq_getElem (by omega)
  obtain ⟨ks, k1, k2, k3⟩ := hr j _ hq
  rw [hL] at k2
  have k2 : rws = ks.map (·.1) := Option.some.inj k2
  have lk : rws.length = ks.length := by rw [k2, List.length_map]
  have hxm : q[j] ∈ q := List.getElem_mem _
  generalize hxe : q[j] = x at *
  have hxa : a ≠ x := fun z => (List.nodup_cons.mp nd).1 (by rw [z]; exact hxm)
  have hnx := hn x (List.mem_cons_of_mem _ hxm)
  refine ⟨x, dictX P w x ks, (F.wf.ow x _ k1).1, trivial, fun od => ?_⟩
  have F1 := (F.mut hnx k1 (.frz od (dictX P w x ks))).renw (fun y => p.nw y ∧ y ∉ a :: q) (fun y hy => F.nn y hy.1)
  generalize hpL : ({ p.put x (.frz od (dictX P w x ks)) with nw := fun y => p.nw y ∧ y ∉ a :: q } : Pst) = pL at F1
  have pst : pL.st = p.st := by rw [← hpL]; rfl
  have pown : ∀ y, pL.own y = upd p.own x (.frz od (dictX P w x ks)) y := fun y => by rw [← hpL]; rfl
  have pnw : ∀ y, pL.nw y ↔ p.nw y ∧ y ∉ a :: q := fun y => by rw [← hpL]
  have eL : EnvD K pL B σ (ds.set i (.adr a)) := by
    have h1 : EnvD K p B σ (ds.set i (.adr a)) := (e.hide1 i).back e1 rfl
    exact h1.awayAll (L := a :: q) pst (fun y hy => by rw [pown, upd_ne (fun z => hy (by rw [z]; exact List.mem_cons_of_mem _ hxm))]) (fun y hy hn => (pnw y).mpr ⟨hn, hy⟩) haw
  refine ⟨_, e1, ?_⟩
  refine hj pL B _ σ eL F1.wf _ fun d2 v2 B2 H2 q2 hd2 g2 => ?_
  subst q2
  cases hd2
  have F2 := F1.step g2
  have oa : pL.own a = some (.lst (q.map .ref)) := by rw [pown, upd_ne hxa]; exact ho
  have ox : pL.own x = some (.frz od (dictX P w x ks)) := by rw [pown, upd_same]
  refine ⟨a, q.map .ref, z, .ref x, rfl, rfl, .inl (.inl (F2.wf.ow a _ oa).1), ?_, ?_⟩
  · rw [hz]
    exact atI_nat (by rw [List.getElem?_map, hq]; rfl)
  refine ⟨x, od, ks, rfl, (F2.wf.ow x _ ox).1, ?_⟩
  refine L2.for_it walk_X (fun m σ' H' => ∃ ds' p' B', I m ds' ∧ EnvD K p' B' σ' ds' ∧ Fw p0 B0 H0 p' B' H' ∧ Ex B2 pL B' p') ⟨_, pL, B2, h0, eL.mono g2.bb, F2, Ex.refl _ _⟩ (fun m σ' H' _ ⟨_, p', B', _, _, F', x'⟩ => ?_) ?_ ?_
  · exact (F'.wf.ow x _ (x'.kp x _ ox fun z => ((pnw x).mp z).2 (List.mem_cons_of_mem _ hxm))).1
  · intro m y σ' H' H3 hm ⟨ds', p', B', hI, he, F', x'⟩ hy
    obtain ⟨rfl, e0, he0, rfl⟩ := hy
    have hm' : m < rws.length := by omega
    have er : rws[m] = e0.1 := by
      have : (ks.map (·.1))[m]? = some e0.1 := by rw [List.getElem?_map, he0]; rfl
      rw [← k2, List.getElem?_eq_getElem hm'] at this
      exact Option.some.inj this
    obtain ⟨ds2, hg, hb⟩ := hs m ds' hm' hI
    rw [er] at hg
    have hde : Dp K B' (.ref e0.2) (encR e0.1) := ((k3 e0 (List.mem_of_getElem? he0)).mono g2.bb).mono x'.same
    refine hg p' B' _ σ' _ he F'.wf.sub hde _ fun σ2 e2 _ => ?_
    exact hb p0 B0 H0 p' B' _ σ2 _ e2 F' (fun ds4 p4 B4 H4 σ4 n4 e4 F4 x4 => ⟨ds4, p4, B4, n4, e4, F4, x'.trans x4⟩) fun _ _ _ _ z => z.elim
  · intro σ' H' ⟨ds', p', B', hI, he, F', x'⟩
    rw [← lk] at hI
    obtain ⟨d1, d2, d3⟩ := hd ds' hI
    have keepO : ∀ y o, pL.own y = some o → y ∈ a :: q → p'.own y = some o := fun y o h hy => x'.kp y o h fun z => ((pnw y).mp z).2 hy
    have ox' := keepO x _ ox (List.mem_cons_of_mem _ hxm)
    refine ⟨(F'.wf.ow x _ ox').1, ?_⟩
    have F3 := (F'.renw (fun y => p.nw y ∨ p'.nw y) (fun y hy => hy.elim (F.nn y) (F'.nn y))).mut (a := x) (.inl hnx) ox' (dictX P w x ks)
    generalize hp3 : (({ p' with nw := fun y => p.nw y ∨ p'.nw y } : Pst).put x (dictX P w x ks)) = p3 at F3
    have qst : p3.st = p'.st := by rw [← hp3]; rfl
    have qown : ∀ y, p3.own y = upd p'.own x (dictX P w x ks) y := fun y => by rw [← hp3]; rfl
    have qnw : ∀ y, p3.nw y ↔ p.nw y ∨ p'.nw y := fun y => by rw [← hp3]; rfl
    obtain ⟨o', so, ea⟩ := he.at d1
    have ea : o' = some (.ref a) := ea
    subst ea
    have e3 : EnvD K p3 B' σ' (ds'.set i .nil) := by
      have h1 := he.hide1 i
      refine h1.awayAll (L := a :: q) qst (fun y hy => by rw [qown, upd_ne (fun z => hy (by rw [z]; exact List.mem_cons_of_mem _ hxm))]) (fun y _ hn => (qnw y).mpr (.inr hn)) fun y hy => ?_
      have := d2 y hy
      have nilAway : ∀ {l : Slots} (i : Nat), awayL y l → awayL y (l.set i .nil) := by
        intro l
        induction l with
        | nil => intro i h; exact h
        | cons s l ih =>
          intro i h
          cases i with
          | zero => exact ⟨trivial, h.2⟩
          | succ i => exact ⟨h.1, ih i h.2⟩
      exact nilAway i this
    refine kn _ p3 B' _ σ' d3 (e3.back so ⟨rfl, ⟨nd, hl, ?_, fun m y hy => ?_⟩, fun y hy => (qnw y).mpr (.inl (hn y hy))⟩) F3 ⟨g2.bb.trans x'.same, fun y o h hny => ?_, fun y hy => ?_⟩
    · rw [qown, upd_ne hxa]
      exact keepO a _ oa List.mem_cons_self
    · have hym := List.mem_of_getElem? hy
      obtain ⟨ks', j1, j2, j3⟩ := hr m y hy
      refine ⟨ks', ?_, j2, fun e he => ((j3 e he).mono g2.bb).mono x'.same⟩
      rw [qown]
      by_cases h : y = x
      · subst h
        rw [upd_same]
        rw [j1] at k1
        exact k1.symm
      · rw [upd_ne h]
        refine keepO y _ ?_ (List.mem_cons_of_mem _ hym)
        rw [pown, upd_ne h]
        exact j1
    · have hyx : y ≠ x := fun z => hny (by rw [z]; exact hnx)
      rw [qown, upd_ne hyx]
      refine x'.kp y o ?_ fun z => hny ((pnw y).mp z).1
      rw [pown, upd_ne hyx]
      exact h
    · rcases (qnw y).mp hy with h | h
      · exact .inl h
      · rcases x'.nn y h with h | h
        · exact .inl ((pnw y).mp h).1
        · by_cases hyx : y = x
          · rw [hyx, ox] at h; cases h
          · rw [pown, upd_ne hyx] at h
            exact .inr h
end
end K47
/-! K47: nests_in. -/
namespace K47
open PySem PySem.Spec PyProof.Rows L2
local macro_rules | `(tactic| walk_at "lvl") => `(tactic| first | decide | omega)
local macro_rules | `(tactic| walk_at "at") => `(tactic| first | rfl | assumption | exact atN (by assumption))
abbrev spNests (K : PySem.W.Frag) (m : Nat) : Sp := spI K (ι := Bk × Nat × Nat) (fun i => [.dat (grid (i.1.n + 1) (tbF i.1)), .dat i.1.P, .dat i.1.S, .dat (.int (i.2.1 : Int)), .dat (.int (i.2.2 : Int))]) (fun i => i.1.Ok ∧ i.2.1 ≤ i.2.2 ∧ i.2.2 ≤ i.1.n ∧ tb i.1.cp i.2.1 i.2.2 ≤ m)
  (fun i d => ∃ rows : List (List Pr), d = .list (rows.map encR) ∧ rows.Nodup ∧ ∀ r, r ∈ rows ↔ MaxNest i.1.cp i.2.1 i.2.2 r)
def spNx (K : PySem.W.Frag) : Nat → Sp
  | 0 => fun _ _ _ _ => False
  | m + 1 => spNests K m
theorem cl_nests {K : PySem.W.Frag} {ds : Slots} {ta tb tc td te : TE} {E : XK} {b : Bk} {m s e : Nat} (o : b.Ok) (h1 : s ≤ e) (h2 : e ≤ b.n) (h3 : K47.tb b.cp s e ≤ m) (ha : Ev K ta ds (grid (b.n + 1) (tbF b))) (hb : Ev K tb ds b.P) (hc : Ev K tc ds b.S) (hd : Ev K td ds (.int (s : Int))) (he : Ev K te ds (.int (e : Int))) :
    EvP K (tCall (spNests K m) [] E (tCons ta (tCons tb (tCons tc (tCons td (tCons te tNil)))))) ds (fun d => ∃ xs, d = .list xs ∧ ∃ rows : List (List Pr), xs = rows.map encR ∧ rows.Nodup ∧ ∀ r, r ∈ rows ↔ MaxNest b.cp s e r) :=
  ev_call (b, s, e) (ea_cons ha (ea_cons hb (ea_cons hc (ea_cons hd (ea_cons he ea_nil))))) ⟨o, h1, h2, h3⟩ fun d ⟨rows, e1, e2⟩ => ⟨_, e1, rows, rfl, e2⟩
theorem nest_valid {b : Bk} {s e : Nat} {r : List Pr} (hs : s ≤ e) (he : e ≤ b.n) (h : Nest b.cp s e r) : Valid b.n b.cp r := by
  have := row_join (n := b.n) h hs (.nil he)
  rw [List.append_nil] at this
  exact this.valid
theorem rows_small {b : Bk} (o : b.Ok) {rows : List (List Pr)} (nd : rows.Nodup) (h : ∀ r ∈ rows, Valid b.n b.cp r) : rows.length < 1000000 := Nat.lt_of_le_of_lt (rows_len (show b.n ≤ 7 from o.s12) nd h) (by decide)
theorem encR_cons (i j : Nat) (r : List Pr) : PyData.tuple ([.tuple [.int (i : Int), .int (j : Int)]] ++ r.map encPr) = encR ((i, j) :: r) := rfl
section
variable {P : Program} {w : World} {K : PySem.W.Frag} {mg : Str → Option Value} {base : Heap}
theorem ok_nests_in (B : Blt mg) (D_nests_in : DefAt K mg "nests_in" "nests_in" s_nests_in p_nests_in) : ∀ m, FnOk P w K mg base CX0 m D_nests_in.f D_nests_in.fd p_nests_in (spNx K m)
  | 0 => ⟨fun _ _ _ _ h => h.elim, fun _ _ _ _ _ _ _ _ _ _ _ _ _ h => h.elim⟩
  | m + 1 => by
    have G_nests_in := ok_nests_in B D_nests_in m
    show FnOk P w K mg base CX0 (m + 1) D_nests_in.f D_nests_in.fd p_nests_in (spNests K m)
    refine D_nests_in.F.ok sc_nests_in (fun vs H Q E h => spI_len h (fun _ => rfl)) (fun cdv A outer s H vs Q E hr h => ⟨_, (pss_cons (ps_if (pt_cmpR op_eq (pe_ix (kIxL K rfl) (pe_ix (kIxL K rfl) (pv 0) (pv 3) (fun _ _ => rfl)) (pv 4) (fun _ _ => rfl)) pe_int (nomark _)) (pss_one (ps_ret (pe_lst (pa_cons (pe_tup pa_nil) pa_nil)))) pss_nil)
      (pss_cons (ps_set (i := 5) sc_nests_in.nd rfl (.inl rfl) (kNewX P w rfl rfl))
      (pss_cons (ps_for PassesOwn.never rfl (pi_range2 (by rfl) B.range (pa_cons (pv 3) (pa_cons (pv 4) pa_nil))) (pg_name (i := 6) sc_nests_in.nd rfl (.inl rfl))
      (pss_one (ps_for PassesOwn.never rfl (pi_range2 (by rfl) B.range (pa_cons (pe_op op_add (pv 6) pe_int) (pa_cons (pv 4) pa_nil))) (pg_name (i := 7) sc_nests_in.nd rfl (.inl rfl))
      (pss_one (ps_if (PW.pt (pw_and (pt_cmpR op_eq (pe_ix (kIxT K rfl) (pv 1) (pe_ix (kIxT K rfl) (pv 2) (pv 6) (fun _ _ => rfl)) (fun _ _ => rfl)) (pe_ix (kIxT K rfl) (pv 2) (pv 7) (fun _ _ => rfl)) (nomark _)) (pw_and1 (pt_cmpR op_eq (pe_op op_add (pe_ix (kIxL K rfl) (pe_ix (kIxL K rfl) (pv 0) (pe_op op_add (pv 6) pe_int) (fun _ _ => rfl)) (pv 7) (fun _ _ => rfl)) pe_int) (pe_ix (kIxL K rfl) (pe_ix (kIxL K rfl) (pv 0) (pv 3) (fun _ _ => rfl)) (pv 4) (fun _ _ => rfl)) (nomark _))))) (pss_one (ps_for PassesOwn.never rfl (kPiL K rfl (pe_call G_nests_in (hr.mono (by walk_at "lvl")) (by rfl) D_nests_in.m D_nests_in.F.kp D_nests_in.b .nil pass0 (pa_cons (pv 0) (pa_cons (pv 1) (pa_cons (pv 2) (pa_cons (pe_op op_add (pv 6) pe_int) (pa_cons (pv 7) pa_nil))))))) (pg_name (i := 8) sc_nests_in.nd rfl (.inl rfl))
      (pss_one (ps_asg pe_bl (pg_sub (pv 5) (pe_op (kCat K rfl) (pe_tup (pa_cons (pe_tup (pa_cons (pv 6) (pa_cons (pv 7) pa_nil))) pa_nil)) (pv 8)) (kSetX P w K rfl rfl rfl (hu16 hr))))))) pss_nil)))))
      (pss_one (ps_ret (pe_callB (kSortD P w K rfl rfl rfl rfl hr.units) (by rfl) B.sorted bt_sorted (pa_cons (pv 5) pa_nil))))))), run_fn0 h ?_⟩)
    rintro ⟨b, s, e⟩ ⟨o, hse, hen, htm⟩
    have o : b.Ok := o
    have hse : s ≤ e := hse
    have hen : e ≤ b.n := hen
    have htm : tb b.cp s e ≤ m := htm
    have n7 : b.n ≤ 7 := o.s12
    show Run K _ ([.dat (grid (b.n + 1) (tbF b)), .dat b.P, .dat b.S, .dat (.int (s : Int)), .dat (.int (e : Int)), .nil, .nil, .nil, .nil] : Slots) _ (fun x => ∃ rows : List (List Pr), x = .list (rows.map encR) ∧ rows.Nodup ∧ ∀ r, r ∈ rows ↔ MaxNest b.cp s e r)
    have cell : ∀ {i j : Nat}, i ≤ j → tbF b i j = (tb b.cp i j : Int) := fun h => by unfold tbF; rw [if_pos h]
    by_cases h0 : tb b.cp s e = 0
    · refine run_guard (b := true) (EvB.is (et_test (ev_op (ev_gcell (m := b.n + 1) (f := tbF b) (x := s) (y := e) (ev_var rfl) (ev_var rfl) (ev_var rfl) rfl rfl (by omega) (by omega)) ev_int rd_eqI)) ?_) (fun _ => run_ret (Ev.to (ev_lst (l := [.tuple []]) (ea_cons (ev_tup (l := []) ea_nil) ea_nil)) ?_)) (fun h => by cases h)
      · rw [cell hse, h0]
        rfl
      · exact ⟨[[]], rfl, by simp, fun r => by rw [List.mem_singleton, maxNest_nil h0]⟩
    · refine run_guard (b := false) (EvB.is (et_test (ev_op (ev_gcell (m := b.n + 1) (f := tbF b) (x := s) (y := e) (ev_var rfl) (ev_var rfl) (ev_var rfl) rfl rfl (by omega) (by omega)) ev_int rd_eqI)) ?_) (fun h => by cases h) fun _ => ?_
      · rw [cell hse]
        exact decide_eq_false (by omega)
      obtain ⟨m, rfl⟩ : ∃ k, m = k + 1 := ⟨m - 1, by omega⟩
      refine run_own ?_ ⟨trivial, trivial, trivial, trivial, trivial, trivial, trivial, trivial, trivial, trivial⟩
      let S : Addr → List (List Pr) → Slots := fun a rows => [.dat (grid (b.n + 1) (tbF b)), .dat b.P, .dat b.S, .dat (.int (s : Int)), .dat (.int (e : Int)), .own a (dctP P w K rows), .nil, .nil, .nil]
      let Q0 : Nat → Nat → List Pr → Prop := fun i j r => b.cp i j = true ∧ tb b.cp (i + 1) j + 1 = tb b.cp s e ∧ ∃ r', MaxNest b.cp (i + 1) j r' ∧ r = (i, j) :: r'
      let Q1 : Nat → List Pr → Prop := fun x r => ∃ i j, s ≤ i ∧ i < s + x ∧ i + 1 ≤ j ∧ j < e ∧ Q0 i j r
      have toMax : ∀ {i j r}, s ≤ i → i < e → i + 1 ≤ j → j < e → Q0 i j r → MaxNest b.cp s e r := fun {i j r} a1 a2 a3 a4 ⟨q1, q2, r', q3, q4⟩ => (maxNest_cons h0 r).mpr ⟨i, j, r', a1, a2, a3, a4, q1, q2, q3, q4⟩
      refine ro_seq (N1 := fun x => ∃ a, x = S a []) (ro_newD fun a _ => ⟨a, rfl⟩) ?_
      rintro x ⟨a, rfl⟩
      refine ro_seq (N1 := fun x => ∃ rows, x = S a rows ∧ rows.Nodup ∧ ∀ r, r ∈ rows ↔ MaxNest b.cp s e r) ?_ ?_
      · refine ro_for (vs := [6]) (fun i x => ∃ rows, x = S a rows ∧ rows.Nodup ∧ ∀ r, r ∈ rows ↔ Q1 i r) (ei_r2 (lo := (s : Int)) (hi := (e : Int)) (ea_cons (ev_var rfl) (ea_cons (ev_var rfl) ea_nil)) (by omega) (by omega)) ⟨[], rfl, by simp, fun r => ?_⟩ ?_ ?_
        · refine ⟨fun h => by simp at h, fun ⟨i, j, h1, h2, _⟩ => by omega⟩
        · rintro x ds' hx ⟨rows, rfl, nd, hm⟩
          have hx : s + x < e := by omega
          have ex : (s : Int) + (x : Nat) = ((s + x : Nat) : Int) := by omega
          refine ⟨_, eg_name, ?_⟩
          rw [ex]
          generalize hi : s + x = i at *
          have hsi : s ≤ i := by omega
          let S6 : List (List Pr) → Slots := fun rows => [.dat (grid (b.n + 1) (tbF b)), .dat b.P, .dat b.S, .dat (.int (s : Int)), .dat (.int (e : Int)), .own a (dctP P w K rows), .dat (.int (i : Int)), .nil, .nil]
          let Q2 : Nat → List Pr → Prop := fun y r => ∃ j, i + 1 ≤ j ∧ j < i + 1 + y ∧ Q0 i j r
          refine ro_impW [6] (N' := fun x => ∃ rows, x = S6 rows ∧ rows.Nodup ∧ ∀ r, r ∈ rows ↔ Q1 (i - s) r ∨ Q2 (e - (i + 1)) r) ?_ (fun y ⟨rows, e1, nd, hm⟩ => ⟨rows, by rw [e1]; rfl, nd, fun r => ?_⟩)
          · refine ro_for (vs := [7]) (fun y x => ∃ rows, x = S6 rows ∧ rows.Nodup ∧ ∀ r, r ∈ rows ↔ Q1 (i - s) r ∨ Q2 y r) (ei_r2 (lo := (i : Int) + 1) (hi := (e : Int)) (ea_cons (ev_op (ev_var rfl) ev_int rd_add) (ea_cons (ev_var rfl) ea_nil)) (by omega) (by omega)) ⟨rows, rfl, nd, fun r => ?_⟩ ?_ ?_
            · rw [hm r, show x = i - s by omega]
              exact ⟨.inl, fun q => q.elim id fun ⟨j, h1, h2, _⟩ => by omega⟩
            · rintro y ds' hy ⟨rows, rfl, nd, hm⟩
              have hy : i + 1 + y < e := by omega
              have ey : (i : Int) + 1 + (y : Nat) = ((i + 1 + y : Nat) : Int) := by omega
              refine ⟨_, eg_name, ?_⟩
              rw [ey]
              generalize hj : i + 1 + y = j at *
              have hij : i + 1 ≤ j := by omega
              let S7 : List (List Pr) → Slots := fun rows => [.dat (grid (b.n + 1) (tbF b)), .dat b.P, .dat b.S, .dat (.int (s : Int)), .dat (.int (e : Int)), .own a (dctP P w K rows), .dat (.int (i : Int)), .dat (.int (j : Int)), .nil]
              have Q2s : ∀ r, Q2 (y + 1) r ↔ Q2 y r ∨ Q0 i j r := fun r => by
                constructor
                · rintro ⟨j', q1, q2, q3⟩
                  by_cases h : j' = j
                  · subst h; exact .inr q3
                  · exact .inl ⟨j', q1, by omega, q3⟩
                · rintro (⟨j', q1, q2, q3⟩ | q)
                  · exact ⟨j', q1, by omega, q3⟩
                  · exact ⟨j, hij, by omega, q⟩
              refine ro_impW [7] (N' := fun x => ∃ rows, x = S7 rows ∧ rows.Nodup ∧ ∀ r, r ∈ rows ↔ (Q1 (i - s) r ∨ Q2 y r) ∨ Q0 i j r) ?_ (fun z ⟨rows, e1, nd, hm⟩ => ⟨rows, by rw [e1]; rfl, nd, fun r => by rw [hm r, Q2s r, or_assoc]⟩)
              refine ro_if (b := b.cp i j && decide (tb b.cp (i + 1) j + 1 = tb b.cp s e)) (EvB.is (et_and (et_test (ev_op (ev_ctr (b := b) (i := i) o (ev_var rfl) (ev_var rfl) (ev_var rfl) rfl (by omega)) (ev_mark (b := b) (i := j) (ev_var rfl) (ev_var rfl) rfl (by omega)) rd_eqI)) fun _ =>
                et_test (ev_op (ev_op (ev_gcell (m := b.n + 1) (f := tbF b) (x := i + 1) (y := j) (ev_var rfl) (ev_op (ev_var rfl) ev_int rd_add) (ev_var rfl) (by omega) rfl (by omega) (by omega)) ev_int rd_add) (ev_gcell (m := b.n + 1) (f := tbF b) (x := s) (y := e) (ev_var rfl) (ev_var rfl) (ev_var rfl) rfl rfl (by omega) (by omega)) rd_eqI)) ?_) (fun hc => ?_) (fun hc => ?_)
              · rw [cpD, cell hij, cell hse]
                congr 1
                by_cases q : tb b.cp (i + 1) j + 1 = tb b.cp s e
                · rw [decide_eq_true q, decide_eq_true (by omega)]
                · rw [decide_eq_false q, decide_eq_false (by omega)]
              · rw [Bool.and_eq_true, decide_eq_true_iff] at hc
                refine ro_forP (vs := [8]) (ei_listP (cl_nests (s := i + 1) (e := j) o hij (by omega) (by omega) (ev_var rfl) (ev_var rfl) (ev_var rfl) (ev_op (ev_var rfl) ev_int rd_add) (ev_var rfl))) fun n f hS => ?_
                obtain ⟨xs, ⟨L, rfl, ndL, hL⟩, rfl, rfl⟩ := hS
                refine ⟨fun k x => ∃ rows, x = S7 rows ∧ rows.Nodup ∧ ∀ r, r ∈ rows ↔ (Q1 (i - s) r ∨ Q2 y r) ∨ ∃ r' ∈ L.take k, r = (i, j) :: r', ⟨rows, rfl, nd, fun r => ?_⟩, ?_, ?_⟩
                · rw [hm r]
                  exact ⟨.inl, fun q => q.elim id fun ⟨r', h1, _⟩ => by simp at h1⟩
                · rintro k ds' hk ⟨rows, rfl, nd, hm⟩
                  have hk : k < L.length := by rw [List.length_map] at hk; exact hk
                  refine ⟨_, eg_name, ?_⟩
                  have hg : (fun i => (L.map encR).getD i PyData.none) k = encR L[k] := getD_at (by rw [List.getElem?_map, List.getElem?_eq_getElem hk]; rfl)
                  rw [hg]
                  have hLk : MaxNest b.cp (i + 1) j L[k] := (hL _).mp (List.getElem_mem hk)
                  have llen : L[k].length ≤ 7 := by
                    have := hLk.1.len2 hij
                    omega
                  refine ro_impW [8] (N' := fun x => ∃ rows, x = [.dat (grid (b.n + 1) (tbF b)), .dat b.P, .dat b.S, .dat (.int (s : Int)), .dat (.int (e : Int)), .own a (dctP P w K rows), .dat (.int (i : Int)), .dat (.int (j : Int)), .dat (encR L[k])] ∧ rows.Nodup ∧ ∀ r, r ∈ rows ↔ (Q1 (i - s) r ∨ Q2 y r) ∨ ∃ r' ∈ L.take (k + 1), r = (i, j) :: r') ?_ (fun z ⟨rows, e1, q⟩ => ⟨rows, by rw [e1]; rfl, q⟩)
                  refine ro_putD (i := 5) (a := a) (rows := rows) (r := (i, j) :: L[k]) rfl (Ev.is (ev_op (ev_tup (l := [.tuple [.int (i : Int), .int (j : Int)]]) (ea_cons (ev_tup (l := [.int (i : Int), .int (j : Int)]) (ea_cons (ev_var rfl) (ea_cons (ev_var rfl) ea_nil)) (by show 2 ≤ _; decide)) ea_nil) (by show 1 ≤ _; decide)) (ev_var (d := .tuple (L[k].map encPr)) rfl) (rd_cat (Nat.le_trans (show 1 + (L[k].map encPr).length ≤ 100000 by rw [List.length_map]; omega) (by decide)))) (encR_cons i j L[k])) ?_ ⟨trivial, trivial, trivial, trivial, trivial, trivial, trivial, trivial, trivial, trivial⟩ ⟨_, rfl, addR_nodup nd, fun r => ?_⟩
                  · refine rows_small o nd fun r hr => ?_
                    have : MaxNest b.cp s e r := by
                      rcases (hm r).mp hr with (⟨i', j', q1, q2, q3, q4, q5⟩ | ⟨j', q1, q2, q3⟩) | ⟨r', q1, q2⟩
                      · exact toMax q1 (by omega) q3 q4 q5
                      · exact toMax hsi (by omega) q1 (by omega) q3
                      · exact toMax hsi (by omega) hij (by omega) ⟨hc.1, hc.2, r', (hL _).mp (List.mem_of_mem_take q1), q2⟩
                    exact nest_valid hse hen this.1
                  · rw [addR_mem, hm r, List.take_add_one, List.getElem?_eq_getElem hk]
                    constructor
                    · rintro ((q | ⟨r', q1, q2⟩) | q)
                      · exact .inl q
                      · exact .inr ⟨r', List.mem_append_left _ q1, q2⟩
                      · exact .inr ⟨L[k], List.mem_append_right _ (by simp), q⟩
                    · rintro (q | ⟨r', q1, q2⟩)
                      · exact .inl (.inl q)
                      · rcases List.mem_append.mp q1 with q1 | q1
                        · exact .inl (.inr ⟨r', q1, q2⟩)
                        · have : r' = L[k] := by simpa using q1
                          rw [this] at q2
                          exact .inr q2
                · rintro ds' ⟨rows, rfl, nd, hm⟩
                  refine ⟨rows, rfl, nd, fun r => ?_⟩
                  rw [hm r, List.length_map, List.take_length]
                  constructor
                  · rintro (q | ⟨r', q1, q2⟩)
                    · exact .inl q
                    · exact .inr ⟨hc.1, hc.2, r', (hL _).mp q1, q2⟩
                  · rintro (q | ⟨_, _, r', q1, q2⟩)
                    · exact .inl q
                    · exact .inr ⟨r', (hL _).mpr q1, q2⟩
              · refine ro_next ⟨rows, rfl, nd, fun r => ?_⟩
                rw [hm r]
                refine ⟨.inl, fun q => q.elim id fun ⟨q1, q2, _⟩ => ?_⟩
                rw [q1, decide_eq_true q2] at hc
                cases hc
            · rintro ds' ⟨rows, rfl, nd, hm⟩
              refine ⟨rows, rfl, nd, fun r => ?_⟩
              rw [hm r, show ((e : Int) - ((i : Int) + 1)).toNat = e - (i + 1) by omega]
          · rw [hm r]
            constructor
            · rintro (⟨i', j', q1, q2, q3, q4, q5⟩ | ⟨j', q1, q2, q3⟩)
              · exact ⟨i', j', q1, by omega, q3, q4, q5⟩
              · exact ⟨i, j', hsi, by omega, q1, by omega, q3⟩
            · rintro ⟨i', j', q1, q2, q3, q4, q5⟩
              by_cases h : i' = i
              · subst h
                exact .inr ⟨j', q3, by omega, q5⟩
              · exact .inl ⟨i', j', q1, by omega, q3, q4, q5⟩
        · rintro ds' ⟨rows, rfl, nd, hm⟩
          refine ⟨rows, rfl, nd, fun r => ?_⟩
          rw [hm r, maxNest_cons h0]
          constructor
          · rintro ⟨i, j, q1, q2, q3, q4, q5, q6, r', q7, q8⟩
            exact ⟨i, j, r', q1, by omega, q3, q4, q5, q6, q7, q8⟩
          · rintro ⟨i, j, r', q1, q2, q3, q4, q5, q6, q7, q8⟩
            exact ⟨i, j, q1, by omega, q3, q4, q5, q6, r', q7, q8⟩
      · rintro x ⟨rows, rfl, nd, hm⟩
        refine ro_ret (Ev.to (ev_sortD (i := 5) (a := a) (rows := rows) rfl (.inl fun r hr => ?_)) ⟨sortR rows, rfl, (sortR_perm rows).nodup_iff.mpr nd, fun r => by rw [(sortR_perm rows).mem_iff, hm r]⟩)
        rintro rfl
        have := ((hm _).mp hr).2
        exact h0 this.symm
end
end K47
/-! K47: greatest, missing_evidence. -/
namespace K47
open PySem PySem.Spec PyProof.Rows L2
local macro_rules | `(tactic| walk_at "lvl") => `(tactic| first | decide | omega)
local macro_rules | `(tactic| walk_at "at") => `(tactic| first | rfl | assumption | exact atN (by assumption))
abbrev spGreat (K : PySem.W.Frag) : Sp := spI K (ι := Bk) (fun b => [.dat b.P, .dat b.S]) Bk.Ok
  (fun b d => ∃ rows : List (List Pr), d = .list (rows.map encR) ∧ (rows.Pairwise fun x y => ltRow y x = false) ∧ ∀ r, r ∈ rows ↔ MaxRow b.n b.cp 0 r)
theorem encR_cat (r t : List Pr) : PyData.tuple (r.map encPr ++ t.map encPr) = encR (r ++ t) := by
  unfold encR
  rw [List.map_append]
section
variable {P : Program} {w : World} {K : PySem.W.Frag} {mg : Str → Option Value} {base : Heap}
theorem ok_greatest (B : Blt mg) (D : DefAt K mg "greatest" "greatest" s_greatest p_greatest) (D_nest_table : DefAt K mg "nest_table" "nest_table" s_nest_table p_nest_table) (G_nest_table : FnOk P w K mg base CX0 1 D_nest_table.f D_nest_table.fd p_nest_table (spTab K))
    (D_end_table : DefAt K mg "end_table" "end_table" s_end_table p_end_table) (G_end_table : FnOk P w K mg base CX0 1 D_end_table.f D_end_table.fd p_end_table (spEnd K))
    (D_nests_in : DefAt K mg "nests_in" "nests_in" s_nests_in p_nests_in) (G_nests_in : FnOk P w K mg base CX0 4 D_nests_in.f D_nests_in.fd p_nests_in (spNests K 3)) : FnOk P w K mg base CX0 5 D.f D.fd p_greatest (spGreat K) := by
  refine D.F.ok sc_greatest (fun vs H Q E h => spI_len h (fun _ => rfl)) (fun cdv A outer s H vs Q E hr h => ⟨_, (pss_cons (ps_set (i := 2) sc_greatest.nd rfl (.inl rfl) (pe_call G_nest_table (hr.mono (by walk_at "lvl")) (by rfl) D_nest_table.m D_nest_table.F.kp D_nest_table.b .nil pass0 (pa_cons (pv 0) (pa_cons (pv 1) pa_nil))))
      (pss_cons (ps_set (i := 3) sc_greatest.nd rfl (.inl rfl) (pe_call G_end_table (hr.mono (by walk_at "lvl")) (by rfl) D_end_table.m D_end_table.F.kp D_end_table.b .nil pass0 (pa_cons (pv 2) pa_nil)))
      (pss_cons (ps_setLc (i := 4) (own := [("opening", 5)]) rfl sc_greatest.nd rfl rfl (sw_true rfl rfl rfl (by decide +kernel)) (kPiL K rfl (pv 3)) (blkOk_by (N := N_greatest) (sc := defScope s_greatest) (by decide +kernel)) (fun _ _ _ _ _ => (pg_name (i := 5) sc_greatest.nd rfl (.inl rfl))) (fun _ _ _ _ _ => pts_nil) (fun _ _ _ _ _ => (kDisp1X P w K rfl rfl rfl (hu16 hr) (pe_tup pa_nil) pe_bl)))
      (pss_cons (ps_for PassesOwn.never rfl (pi_range3 (by rfl) B.range (pa_cons (pe_op op_sub (pe_callB (kLen K rfl) (by rfl) B.len bt_len (pa_cons (pv 1) pa_nil)) pe_int) (pa_cons (pe_un un_neg pe_int) (pa_cons (pe_un un_neg pe_int) pa_nil)))) (pg_name (i := 6) sc_greatest.nd rfl (.inl rfl))
      (pss_cons (ps_set (i := 7) sc_greatest.nd rfl (.inl rfl) (kNewX P w rfl rfl))
      (pss_cons (ps_for PassesOwn.never rfl (pi_range2 (by rfl) B.range (pa_cons (pe_op op_add (pv 6) pe_int) (pa_cons (pe_op op_add (pe_callB (kLen K rfl) (by rfl) B.len bt_len (pa_cons (pv 1) pa_nil)) pe_int) pa_nil))) (pg_name (i := 8) sc_greatest.nd rfl (.inl rfl))
      (pss_one (ps_if (pt_cmpR op_eq (pe_op op_add (pe_ix (kIxL K rfl) (pe_ix (kIxL K rfl) (pv 2) (pv 6) (fun _ _ => rfl)) (pv 8) (fun _ _ => rfl)) (pe_ix (kIxL K rfl) (pv 3) (pv 8) (fun _ _ => rfl))) (pe_ix (kIxL K rfl) (pv 3) (pv 6) (fun _ _ => rfl)) (nomark _)) (pss_one (ps_for PassesOwn.never rfl (kPiL K rfl (pe_call G_nests_in (hr.mono (by walk_at "lvl")) (by rfl) D_nests_in.m D_nests_in.F.kp D_nests_in.b .nil pass0 (pa_cons (pv 2) (pa_cons (pv 0) (pa_cons (pv 1) (pa_cons (pv 6) (pa_cons (pv 8) pa_nil))))))) (pg_name (i := 9) sc_greatest.nd rfl (.inl rfl))
      (pss_one (ps_lock (ps_for PassesOwn.never rfl (kPiX P w rfl rfl (pe_ix (kIxL K rfl) (pv 4) (pv 8) (fun _ _ => rfl))) (pg_name (i := 10) sc_greatest.nd rfl (.inl rfl))
      (pss_one (ps_asg pe_bl (pg_sub (pv 7) (pe_op (kCat K rfl) (pv 9) (pv 10)) (kSetX P w K rfl rfl rfl (hu16 hr)))))))))) pss_nil)))
      (pss_one (ps_asg (pv 7) (pg_sub (pv 4) (pv 6) set_list))))))
      (pss_one (ps_ret (pe_callB (kSortD P w K rfl rfl rfl rfl hr.units) (by rfl) B.sorted bt_sorted (pa_cons (pe_ix (kIxL K rfl) (pv 4) pe_int (fun _ _ => rfl)) pa_nil)))))))), run_fn0 h ?_⟩)
  intro b o
  have hs : (b.ss.map iD).length = b.n := List.length_map _
  have n7 : b.n ≤ 7 := o.s12
  have cell : ∀ {i j : Nat}, i ≤ j → tbF b i j = (tb b.cp i j : Int) := fun h => by unfold tbF; rw [if_pos h]
  have tb3 : ∀ {s e : Nat}, s ≤ e → e ≤ b.n → tb b.cp s e ≤ 3 := fun {s e} h1 h2 => by
    have := tb_half (cp := b.cp) h1
    omega
  show Run K _ ([.dat b.P, .dat b.S, .nil, .nil, .nil, .nil, .nil, .nil, .nil, .nil, .nil] : Slots) _ (fun x => ∃ rows : List (List Pr), x = .list (rows.map encR) ∧ (rows.Pairwise fun x y => ltRow y x = false) ∧ ∀ r, r ∈ rows ↔ MaxRow b.n b.cp 0 r)
  refine run_set (cl_nest_table o (ev_var rfl) (ev_var rfl)) ?_
  refine run_set (cl_end_table o (ev_var rfl)) ?_
  refine run_own ?_ ⟨trivial, trivial, trivial, trivial, trivial, trivial, trivial, trivial, trivial, trivial, trivial, trivial⟩
  let TB := grid (b.n + 1) (tbF b)
  let EN := PyData.list (fnD (b.n + 1) (enF b))
  have fl : (fnD (b.n + 1) (enF b)).length = b.n + 1 := by unfold fnD; rw [List.length_map, List.length_range]
  let S : Addr → List Addr → List (List (List Pr)) → Slots := fun a q L => [.dat b.P, .dat b.S, .dat TB, .dat EN, .own a (rowsP P w K q L), .nil, .nil, .nil, .nil, .nil, .nil]
  let Good : List (List (List Pr)) → Nat → Prop := fun L i => L.length = b.n + 1 ∧ ∀ j, b.n - i ≤ j → j ≤ b.n → ∃ rws, L[j]? = some rws ∧ rws.Nodup ∧ ∀ r, r ∈ rws ↔ MaxRow b.n b.cp j r
  have lenS : ∀ {ds : Slots}, ds[1]? = some (.dat b.S) → Ev K (tCB (rLen K) (tCons (tVar 1) tNil)) ds (.int (b.n : Int)) := fun h => Ev.is (ev_cb (ea_cons (ev_var (d := .tuple (b.ss.map iD)) h) ea_nil) cd_lenT) (by rw [hs])
  refine ro_seq (N1 := fun x => ∃ a q, x = S a q (List.replicate (b.n + 1) [[]])) ?_ ?_
  · have it := ei_list (K := K) (tl := tVar 3) (xs := fnD (b.n + 1) (enF b)) (ds := ([.dat b.P, .dat b.S, .dat TB, .dat EN, .nil, .nil, .nil, .nil, .nil, .nil, .nil] : Slots)) (ev_var rfl)
    rw [fl] at it
    exact ro_newRows (m := b.n + 1) it (by omega) ⟨trivial, trivial, trivial, trivial, trivial, trivial, trivial, trivial, trivial, trivial, trivial, trivial⟩ fun a q => ⟨a, q, rfl⟩
  rintro x ⟨a, q, rfl⟩
  refine ro_seq (N1 := fun x => ∃ q L, x = S a q L ∧ Good L b.n) ?_ ?_
  · refine ro_for (vs := [6]) (fun i x => ∃ q L, x = S a q L ∧ Good L i) (ei_down (n := b.n) (ea_cons (ev_op (lenS rfl) ev_int rd_sub) (ea_cons (ev_neg ev_int) (ea_cons (ev_neg ev_int) ea_nil))) (by omega)) ⟨q, _, rfl, by rw [List.length_replicate], fun j h1 h2 => ?_⟩ ?_ (fun ds' h => h)
    · have : j = b.n := by omega
      subst this
      exact ⟨[[]], by rw [List.getElem?_replicate, if_pos (by omega)], by simp, fun r => by rw [List.mem_singleton, maxRow_last]⟩
    · rintro i ds' hi ⟨q, L, rfl, hL, hg⟩
      refine ⟨_, eg_name, ?_⟩
      obtain ⟨s, hsi⟩ : ∃ s, s + 1 + i = b.n := ⟨b.n - 1 - i, by omega⟩
      have es : (b.n : Int) - 1 - (i : Nat) = (s : Int) := by omega
      rw [es]
      let M : Addr → List (List Pr) → Slots := fun f F => [.dat b.P, .dat b.S, .dat TB, .dat EN, .own a (rowsP P w K q L), .nil, .dat (.int (s : Int)), .own f (dctP P w K F), .nil, .nil, .nil]
      let Q0 : Nat → List Pr → Prop := fun e r => tb b.cp s e + en b.n b.cp e = en b.n b.cp s ∧ ∃ c r', MaxNest b.cp s e c ∧ MaxRow b.n b.cp e r' ∧ r = c ++ r'
      let Q1 : Nat → List Pr → Prop := fun y r => ∃ e, s + 1 ≤ e ∧ e < s + 1 + y ∧ Q0 e r
      have toMax : ∀ {e r}, s + 1 ≤ e → e ≤ b.n → Q0 e r → MaxRow b.n b.cp s r := fun {e r} a1 a2 ⟨q1, c, r', q2, q3, q4⟩ => (maxRow_cons (by omega) r).mpr ⟨e, c, r', a1, a2, q1, q2, q3, q4⟩
      have smallF : ∀ {F : List (List Pr)}, F.Nodup → (∀ r ∈ F, MaxRow b.n b.cp s r) → F.length < 1000000 := fun nd h => rows_small o nd fun r hr => (h r hr).1.valid
      refine ro_seq (N1 := fun x => ∃ f, f ∉ a :: q ∧ x = M f []) (ro_newD fun f aw => ⟨f, aw.2.2.2.2.1, rfl⟩) ?_
      rintro x ⟨f, hf, rfl⟩
      have awf : ∀ (rows : List (List Pr)) x, x ∈ a :: q → x ∉ (dctP P w K rows).foot f := fun rows x hx h => hf (by rw [show f = x from (by simpa [dctP] using h : x = f).symm]; exact hx)
      refine ro_seq (N1 := fun x => ∃ F, x = M f F ∧ F.Nodup ∧ ∀ r, r ∈ F ↔ MaxRow b.n b.cp s r) ?_ ?_
      · refine ro_for (vs := [8]) (fun y x => ∃ F, x = M f F ∧ F.Nodup ∧ ∀ r, r ∈ F ↔ Q1 y r) (ei_r2 (lo := (s : Int) + 1) (hi := (b.n : Int) + 1) (ea_cons (ev_op (ev_var rfl) ev_int rd_add) (ea_cons (ev_op (lenS rfl) ev_int rd_add) ea_nil)) (by omega) (by omega)) ⟨[], rfl, by simp, fun r => ?_⟩ ?_ ?_
        · exact ⟨fun h => by simp at h, fun ⟨e, h1, h2, _⟩ => by omega⟩
        · rintro y ds' hy ⟨F, rfl, nd, hm⟩
          have hy : s + 1 + y ≤ b.n := by omega
          have ey : (s : Int) + 1 + (y : Nat) = ((s + 1 + y : Nat) : Int) := by omega
          refine ⟨_, eg_name, ?_⟩
          rw [ey]
          generalize he : s + 1 + y = e at *
          have hse : s + 1 ≤ e := by omega
          let M8 : List (List Pr) → Slots := fun F => [.dat b.P, .dat b.S, .dat TB, .dat EN, .own a (rowsP P w K q L), .nil, .dat (.int (s : Int)), .own f (dctP P w K F), .dat (.int (e : Int)), .nil, .nil]
          have Q1s : ∀ r, Q1 (y + 1) r ↔ Q1 y r ∨ Q0 e r := fun r => by
            constructor
            · rintro ⟨e', q1, q2, q3⟩
              by_cases h : e' = e
              · subst h; exact .inr q3
              · exact .inl ⟨e', q1, by omega, q3⟩
            · rintro (⟨e', q1, q2, q3⟩ | q)
              · exact ⟨e', q1, by omega, q3⟩
              · exact ⟨e, hse, by omega, q⟩
          refine ro_impW [8] (N' := fun x => ∃ F, x = M8 F ∧ F.Nodup ∧ ∀ r, r ∈ F ↔ Q1 y r ∨ Q0 e r) ?_ (fun z ⟨F, e1, nd, hm⟩ => ⟨F, by rw [e1]; rfl, nd, fun r => by rw [hm r, Q1s r]⟩)
          refine ro_if (b := decide (tb b.cp s e + en b.n b.cp e = en b.n b.cp s)) (EvB.is (et_test (ev_op (ev_op (ev_gcell (m := b.n + 1) (f := tbF b) (x := s) (y := e) (ev_var rfl) (ev_var rfl) (ev_var rfl) rfl rfl (by omega) (by omega)) (ev_op (ev_var rfl) (ev_var rfl) (rd_ixL (fnD_at (f := enF b) (i := e) rfl (by omega)))) rd_add) (ev_op (ev_var rfl) (ev_var rfl) (rd_ixL (fnD_at (f := enF b) (i := s) rfl (by omega)))) rd_eqI)) ?_) (fun hc => ?_) (fun hc => ?_)
          · rw [cell (by omega)]
            unfold enF
            by_cases h : tb b.cp s e + en b.n b.cp e = en b.n b.cp s
            · rw [decide_eq_true h, decide_eq_true (by omega)]
            · rw [decide_eq_false h, decide_eq_false (by omega)]
          · have hc := of_decide_eq_true hc
            obtain ⟨rws, hrw, ndr, hrm⟩ := hg e (by omega) (by omega)
            refine ro_forP (vs := [9]) (ei_listP (cl_nests (s := s) (e := e) o (by omega) (by omega) (tb3 (by omega) (by omega)) (ev_var rfl) (ev_var rfl) (ev_var rfl) (ev_var rfl) (ev_var rfl))) fun n f' hS => ?_
            obtain ⟨xs, ⟨C, rfl, ndC, hC⟩, rfl, rfl⟩ := hS
            let Q2 : Nat → List Pr → Prop := fun k r => ∃ c ∈ C.take k, ∃ r', MaxRow b.n b.cp e r' ∧ r = c ++ r'
            refine ⟨fun k x => ∃ F, x = M8 F ∧ F.Nodup ∧ ∀ r, r ∈ F ↔ Q1 y r ∨ Q2 k r, ⟨F, rfl, nd, fun r => ?_⟩, ?_, ?_⟩
            · rw [hm r]
              exact ⟨.inl, fun q => q.elim id fun ⟨c, h1, _⟩ => by simp at h1⟩
            · rintro k ds' hk ⟨F, rfl, nd, hm⟩
              have hk : k < C.length := by rw [List.length_map] at hk; exact hk
              refine ⟨_, eg_name, ?_⟩
              have hgd : (fun i => (C.map encR).getD i PyData.none) k = encR C[k] := getD_at (by rw [List.getElem?_map, List.getElem?_eq_getElem hk]; rfl)
              rw [hgd]
              have hCk : MaxNest b.cp s e C[k] := (hC _).mp (List.getElem_mem hk)
              have clen : C[k].length ≤ 7 := by
                have := hCk.1.len2 (by omega)
                omega
              let M9 : Sl → List (List Pr) → Slots := fun r4 F => [.dat b.P, .dat b.S, .dat TB, .dat EN, r4, .nil, .dat (.int (s : Int)), .own f (dctP P w K F), .dat (.int (e : Int)), .dat (encR C[k]), .nil]
              let Q3 : Nat → List Pr → Prop := fun m r => ∃ r' ∈ rws.take m, r = C[k] ++ r'
              have Q2s : ∀ r, Q2 (k + 1) r ↔ Q2 k r ∨ Q3 rws.length r := fun r => by
                show (∃ c ∈ C.take (k + 1), _) ↔ _ ∨ ∃ r' ∈ rws.take rws.length, _
                rw [List.take_length, List.take_add_one, List.getElem?_eq_getElem hk]
                constructor
                · rintro ⟨c, h1, r', h2, h3⟩
                  rcases List.mem_append.mp h1 with h1 | h1
                  · exact .inl ⟨c, h1, r', h2, h3⟩
                  · have : c = C[k] := by simpa using h1
                    rw [this] at h3
                    exact .inr ⟨r', (hrm r').mpr h2, h3⟩
                · rintro (⟨c, h1, r', h2, h3⟩ | ⟨r', h2, h3⟩)
                  · exact ⟨c, List.mem_append_left _ h1, r', h2, h3⟩
                  · exact ⟨C[k], List.mem_append_right _ (by simp), r', (hrm r').mp h2, h3⟩
              refine ro_impW [9] (N' := fun x => ∃ F, x = M9 (.own a (rowsP P w K q L)) F ∧ F.Nodup ∧ ∀ r, r ∈ F ↔ Q1 y r ∨ Q2 (k + 1) r) ?_ (fun z ⟨F, e1, q⟩ => ⟨F, by rw [e1]; rfl, q⟩)
              refine ro_lockRows (i := 4) (j := e) (v := 10) (vs := [10]) (a := a) (q := q) (L := L) (rws := rws) (fun m x => ∃ F, x = M9 (.adr a) F ∧ F.Nodup ∧ ∀ r, r ∈ F ↔ (Q1 y r ∨ Q2 k r) ∨ Q3 m r) rfl (ev_var rfl) rfl hrw (fun x hx => ⟨trivial, trivial, trivial, trivial, trivial, trivial, trivial, awf F x hx, trivial, trivial, trivial, trivial⟩) ⟨F, rfl, nd, fun r => ?_⟩ ?_ ?_
              · rw [hm r]
                exact ⟨.inl, fun q => q.elim id fun ⟨r', h1, _⟩ => by simp at h1⟩
              · rintro m ds' hml ⟨F, rfl, nd, hm⟩
                refine ⟨_, eg_name, ?_⟩
                have hrm' : MaxRow b.n b.cp e rws[m] := (hrm _).mp (List.getElem_mem hml)
                have rlen : rws[m].length ≤ 7 := by
                  have := hrm'.1.len2
                  omega
                refine ro_impW [10] (N' := fun x => ∃ F, x = [.dat b.P, .dat b.S, .dat TB, .dat EN, .adr a, .nil, .dat (.int (s : Int)), .own f (dctP P w K F), .dat (.int (e : Int)), .dat (encR C[k]), .dat (encR rws[m])] ∧ F.Nodup ∧ ∀ r, r ∈ F ↔ (Q1 y r ∨ Q2 k r) ∨ Q3 (m + 1) r) ?_ (fun z ⟨F, e1, q⟩ => ⟨F, by rw [e1]; rfl, q⟩)
                refine ro_putD (i := 7) (a := f) (rows := F) (r := C[k] ++ rws[m]) rfl (Ev.is (ev_op (ev_var (d := .tuple (C[k].map encPr)) rfl) (ev_var (d := .tuple (rws[m].map encPr)) rfl) (rd_cat (Nat.le_trans (show (C[k].map encPr).length + (rws[m].map encPr).length ≤ 100000 by rw [List.length_map, List.length_map]; omega) (by decide)))) (encR_cat _ _)) ?_ ⟨trivial, trivial, trivial, trivial, trivial, trivial, trivial, trivial, trivial, trivial, trivial, trivial⟩ ⟨_, rfl, addR_nodup nd, fun r => ?_⟩
                · refine smallF nd fun r hr => ?_
                  rcases (hm r).mp hr with (⟨e', q1, q2, q3⟩ | ⟨c, q1, r', q2, q3⟩) | ⟨r', q1, q2⟩
                  · exact toMax q1 (by omega) q3
                  · exact toMax hse (by omega) ⟨hc, c, r', (hC _).mp (List.mem_of_mem_take q1), q2, q3⟩
                  · exact toMax hse (by omega) ⟨hc, C[k], r', hCk, (hrm _).mp (List.mem_of_mem_take q1), q2⟩
                · rw [addR_mem, hm r]
                  show _ ↔ (Q1 y r ∨ Q2 k r) ∨ ∃ r' ∈ rws.take (m + 1), r = C[k] ++ r'
                  rw [List.take_add_one, List.getElem?_eq_getElem hml]
                  constructor
                  · rintro ((q | ⟨r', q1, q2⟩) | q)
                    · exact .inl q
                    · exact .inr ⟨r', List.mem_append_left _ q1, q2⟩
                    · exact .inr ⟨rws[m], List.mem_append_right _ (by simp), q⟩
                  · rintro (q | ⟨r', q1, q2⟩)
                    · exact .inl (.inl q)
                    · rcases List.mem_append.mp q1 with q1 | q1
                      · exact .inl (.inr ⟨r', q1, q2⟩)
                      · have : r' = rws[m] := by simpa using q1
                        rw [this] at q2
                        exact .inr q2
              · rintro ds' ⟨F, rfl, nd, hm⟩
                refine ⟨rfl, fun x hx => ⟨trivial, trivial, trivial, trivial, trivial, trivial, trivial, awf F x hx, trivial, trivial, trivial, trivial⟩, F, rfl, nd, fun r => ?_⟩
                rw [hm r, Q2s r, or_assoc]
            · rintro ds' ⟨F, rfl, nd, hm⟩
              refine ⟨F, rfl, nd, fun r => ?_⟩
              rw [hm r]
              show Q1 y r ∨ (∃ c ∈ C.take (C.map encR).length, _) ↔ _
              rw [List.length_map, List.take_length]
              constructor
              · rintro (q | ⟨c, q1, r', q2, q3⟩)
                · exact .inl q
                · exact .inr ⟨hc, c, r', (hC _).mp q1, q2, q3⟩
              · rintro (q | ⟨_, c, r', q1, q2, q3⟩)
                · exact .inl q
                · exact .inr ⟨c, (hC _).mpr q1, r', q2, q3⟩
          · have hc := of_decide_eq_false hc
            refine ro_next ⟨F, rfl, nd, fun r => ?_⟩
            rw [hm r]
            exact ⟨.inl, fun q => q.elim id fun q => absurd q.1 hc⟩
        · rintro ds' ⟨F, rfl, nd, hm⟩
          refine ⟨F, rfl, nd, fun r => ?_⟩
          rw [hm r, maxRow_cons (show s < b.n by omega)]
          constructor
          · rintro ⟨e, h1, h2, h3, c, r', h4, h5, h6⟩
            exact ⟨e, c, r', h1, by omega, h3, h4, h5, h6⟩
          · rintro ⟨e, c, r', h1, h2, h3, h4, h5, h6⟩
            exact ⟨e, h1, by omega, h3, c, r', h4, h5, h6⟩
      · rintro x ⟨F, rfl, nd, hm⟩
        refine ro_impW [6] (N' := fun x => ∃ q L, x = [.dat b.P, .dat b.S, .dat TB, .dat EN, .own a (rowsP P w K q L), .nil, .dat (.int (s : Int)), .nil, .nil, .nil, .nil] ∧ Good L (i + 1)) ?_ (fun z ⟨q, L, e1, h⟩ => ⟨q, L, by rw [e1]; rfl, h⟩)
        refine ro_setRows (i := 4) (i2 := 7) (j := s) (a := a) (f := f) (q := q) (L := L) (rws := F) rfl rfl (by decide) (ev_var rfl) rfl (by omega) hf ⟨trivial, trivial, trivial, trivial, trivial, trivial, trivial, trivial, trivial, trivial, trivial, trivial⟩ ⟨_, _, rfl, by rw [List.length_set, hL], fun j h1 h2 => ?_⟩
        by_cases h : s = j
        · subst h
          exact ⟨F, List.getElem?_set_self (by omega), nd, hm⟩
        · obtain ⟨rws, k1, k2⟩ := hg j (by omega) h2
          exact ⟨rws, by rw [List.getElem?_set_ne h]; exact k1, k2⟩
  · rintro x ⟨q, L, rfl, hL, hg⟩
    obtain ⟨rws, h1, h2, h3⟩ := hg 0 (by omega) (Nat.zero_le _)
    refine ro_ret (Ev.to (ev_sortRows (i := 4) (j := 0) (a := a) (q := q) (L := L) (rws := rws) rfl ev_int rfl h1 ?_) ⟨sortR rws, rfl, sortR_sorted rws, fun r => by rw [(sortR_perm rws).mem_iff, h3 r]⟩)
    by_cases h0 : en b.n b.cp 0 = 0
    · right
      have all : ∀ r ∈ rws, r = [] := fun r hr => List.length_eq_zero_iff.mp (by rw [((h3 r).mp hr).2, h0])
      obtain ⟨r, hr⟩ := maxRow_some (n := b.n) (cp := b.cp) b.n (Nat.zero_le _) (Nat.le_refl _)
      have hr := (h3 r).mpr hr
      cases rws with
      | nil => cases hr
      | cons r0 rws => rw [all r0 List.mem_cons_self]; rfl
    · left
      rintro r hr rfl
      exact h0 ((h3 _).mp hr).2.symm
end
end K47
/-! K47: missing_evidence; the law's own makers. -/
namespace K47
open PySem PySem.Spec PyProof.Rows L2
local macro_rules | `(tactic| walk_at "lvl") => `(tactic| first | decide | omega)
local macro_rules | `(tactic| walk_at "at") => `(tactic| first | rfl | assumption | exact atN (by assumption))
theorem ro_after {K : PySem.W.Frag} {t : TS} {ds : Slots} {N N1 : Slots → Prop} {R : PyData → Prop} (h1 : RunO K t ds N1 R) (h2 : ∀ ds', N1 ds' → RunO K tNext ds' N R) : RunO K t ds N R := fun p0 B0 H0 p B H σ D e F kn kr => ro_seq (u := tNext) h1 h2 p0 B0 H0 p B H σ D e F kn kr
/-! ### missing_evidence -/
abbrev spMiss (K : PySem.W.Frag) : Sp := spI K (ι := Bk) (fun b => [.dat b.P, .dat b.S]) Bk.Ok
  (fun b d => ∃ r rest, d = .tuple [encR r, tabD (leastN b.n b.cp) (leastE b.n b.cp)] ∧ ((r :: rest).Pairwise fun x y => ltRow y x = false) ∧ ∀ x, x ∈ r :: rest ↔ MaxRow b.n b.cp 0 x)
theorem drop_row (b : Bk) (i : Nat) : (fnD (b.n + 1) (tbF b i)).drop i = ((List.range (b.n + 1 - i)).map fun d => ((tb b.cp i (i + d) : Nat) : Int)).map .int := by
  unfold fnD
  rw [List.map_map]
  refine List.ext_getElem (by simp) fun j h1 h2 => ?_
  simp only [List.length_drop, List.length_map, List.length_range] at h1
  simp only [List.getElem_drop, List.getElem_map, List.getElem_range]
  unfold tbF
  rw [if_pos (by omega)]
  rfl
theorem least_rows (b : Bk) : PyData.tuple ((List.range (b.n + 1)).map fun i => .tuple ((fnD (b.n + 1) (tbF b i)).drop i)) = encN2 (leastN b.n b.cp) := by
  unfold encN2 leastN
  rw [List.map_map]
  congr 1
  refine List.map_congr_left fun i _ => ?_
  rw [drop_row]
  rfl
theorem least_ends (b : Bk) : PyData.tuple (fnD (b.n + 1) (enF b)) = encI (leastE b.n b.cp) := by
  unfold encI leastE fnD
  rw [List.map_map]
  rfl
section
variable {P : Program} {w : World} {K : PySem.W.Frag} {mg : Str → Option Value} {base : Heap}
theorem ok_missing_evidence (B : Blt mg) (D : DefAt K mg "missing_evidence" "missing_evidence" s_missing_evidence p_missing_evidence) (D_check_short : DefAt K mg "check_short" "check_short" s_check_short p_check_short) (G_check_short : FnOk P w K mg base CX0 4 D_check_short.f D_check_short.fd p_check_short (spShort K))
    (D_nest_table : DefAt K mg "nest_table" "nest_table" s_nest_table p_nest_table) (G_nest_table : FnOk P w K mg base CX0 1 D_nest_table.f D_nest_table.fd p_nest_table (spTab K))
    (D_end_table : DefAt K mg "end_table" "end_table" s_end_table p_end_table) (G_end_table : FnOk P w K mg base CX0 1 D_end_table.f D_end_table.fd p_end_table (spEnd K))
    (D_greatest : DefAt K mg "greatest" "greatest" s_greatest p_greatest) (G_greatest : FnOk P w K mg base CX0 5 D_greatest.f D_greatest.fd p_greatest (spGreat K)) : FnOk P w K mg base CX0 6 D.f D.fd p_missing_evidence (spMiss K) := by
  refine D.F.ok sc_missing_evidence (fun vs H Q E h => spI_len h (fun _ => rfl)) (fun cdv A outer s H vs Q E hr h => ⟨_, (pss_cons (ps_expr (pe_call G_check_short (hr.mono (by walk_at "lvl")) (by rfl) D_check_short.m D_check_short.F.kp D_check_short.b .nil pass0 (pa_cons (pv 0) (pa_cons (pv 1) pa_nil))))
      (pss_cons (ps_set (i := 2) sc_missing_evidence.nd rfl (.inl rfl) (pe_call G_nest_table (hr.mono (by walk_at "lvl")) (by rfl) D_nest_table.m D_nest_table.F.kp D_nest_table.b .nil pass0 (pa_cons (pv 0) (pa_cons (pv 1) pa_nil))))
      (pss_cons (ps_set (i := 3) sc_missing_evidence.nd rfl (.inl rfl) (pe_callTy (kTup K rfl) (by rfl) B.tuple bt_tuple (pa_cons (pe_lc (own := [("start", 4), ("row", 5)]) rfl sc_missing_evidence.nd (kEnum K rfl (by rfl) B.enumerate (pa_cons (pv 2) pa_nil)) (blkOk_by (N := N_missing_evidence) (sc := defScope s_missing_evidence) (by decide +kernel)) (fun _ _ _ _ _ => (kPgT (n := 2) K rfl rfl (pgs_cons (pg_name (i := 4) sc_missing_evidence.nd rfl (.inl rfl)) (pgs_cons (pg_name (i := 5) sc_missing_evidence.nd rfl (.inl rfl)) pgs_nil)))) (fun _ _ _ _ _ => pts_nil) (fun _ _ _ _ _ => (pe_callTy (kTup K rfl) (by rfl) B.tuple bt_tuple (pa_cons (pe_slice (kSlL K rfl) (pv 5) (po_some (pv 4)) po_none) pa_nil)))) pa_nil)))
      (pss_one (ps_ret (pe_tup (pa_cons (pe_ix (kIxL K rfl) (pe_call G_greatest (hr.mono (by walk_at "lvl")) (by rfl) D_greatest.m D_greatest.F.kp D_greatest.b .nil pass0 (pa_cons (pv 0) (pa_cons (pv 1) pa_nil))) pe_int (fun _ _ => rfl)) (pa_cons (pe_tup (pa_cons (pv 3) (pa_cons (pe_callTy (kTup K rfl) (by rfl) B.tuple bt_tuple (pa_cons (pe_call G_end_table (hr.mono (by walk_at "lvl")) (by rfl) D_end_table.m D_end_table.F.kp D_end_table.b .nil pass0 (pa_cons (pv 2) pa_nil)) pa_nil)) pa_nil))) pa_nil)))))))), run_fn0 h ?_⟩)
  intro b o
  have n7 : b.n ≤ 7 := o.s12
  show Run K _ ([.dat b.P, .dat b.S, .nil, .nil, .nil, .nil] : Slots) _ (fun d => ∃ r rest, d = .tuple [encR r, tabD (leastN b.n b.cp) (leastE b.n b.cp)] ∧ ((r :: rest).Pairwise fun x y => ltRow y x = false) ∧ ∀ x, x ∈ r :: rest ↔ MaxRow b.n b.cp 0 x)
  refine run_seq (N1 := fun x => x = [.dat b.P, .dat b.S, .nil, .nil, .nil, .nil]) (run_drop (cl_check_short o (ev_var rfl) (ev_var rfl)) rfl) fun x ex => ?_
  subst ex
  refine run_set (cl_nest_table o (ev_var rfl) (ev_var rfl)) ?_
  have gl : ((List.range (b.n + 1)).map fun i => PyData.list (fnD (b.n + 1) (tbF b i))).length = b.n + 1 := by rw [List.length_map, List.length_range]
  have gat : ∀ i, i < b.n + 1 → ((List.range (b.n + 1)).map fun i => PyData.list (fnD (b.n + 1) (tbF b i))).getD i .none = .list (fnD (b.n + 1) (tbF b i)) := fun i hi => getD_at (by rw [List.getElem?_map, List.getElem?_range hi]; rfl)
  refine run_set (d := encN2 (leastN b.n b.cp)) (Ev.is (ev_cb (ea_cons (ev_map (h := fun i => .tuple ((fnD (b.n + 1) (tbF b i)).drop i)) (ei_enum (xs := (List.range (b.n + 1)).map fun i => PyData.list (fnD (b.n + 1) (tbF b i))) (ea_cons (ev_var rfl) ea_nil)) (by omega) fun i hi => ⟨_, eg_pair, ?_⟩) ea_nil) cd_tupL) (by rw [gl]; exact least_rows b)) ?_
  · rw [gl] at hi
    rw [gat i hi]
    exact Ev.is (ev_cb (ea_cons (ev_slL (ev_var rfl) (eo_some (ev_var rfl)) eo_none) ea_nil) cd_tupL) (by rw [cutL_from])
  · refine run_ret (ev_tupP (ea_consP (P1 := fun d => ∃ r rest, d = encR r ∧ ((r :: rest).Pairwise fun x y => ltRow y x = false) ∧ ∀ x, x ∈ r :: rest ↔ MaxRow b.n b.cp 0 x) (PR := fun xs => xs = [.dat (tabD (leastN b.n b.cp) (leastE b.n b.cp))]) ?_ (ea_cons (ev_tup (l := [encN2 (leastN b.n b.cp), encI (leastE b.n b.cp)]) (ea_cons (ev_var rfl) (ea_cons (Ev.is (ev_cb (ea_cons (cl_end_table o (ev_var rfl)) ea_nil) cd_tupL) (least_ends b)) ea_nil)) (by simp)) ea_nil) fun d xs ⟨r, rest, e1, e2⟩ e3 => ⟨[encR r, tabD (leastN b.n b.cp) (leastE b.n b.cp)], by rw [e1, e3]; rfl, by simp, r, rest, rfl, e2⟩))
    refine ev_opP (P1 := fun d => ∃ rows : List (List Pr), d = .list (rows.map encR) ∧ (rows.Pairwise fun x y => ltRow y x = false) ∧ ∀ r, r ∈ rows ↔ MaxRow b.n b.cp 0 r) (P2 := fun d => d = .int 0) (ev_call b (ea_cons (ev_var rfl) (ea_cons (ev_var rfl) ea_nil)) o fun d h => h) ev_int fun d1 d2 ⟨rows, e1, h1, h2⟩ e2 => ?_
    subst e1 e2
    cases rows with
    | nil =>
      obtain ⟨l, hl⟩ := maxRow_some (n := b.n) (cp := b.cp) b.n (Nat.zero_le _) (Nat.le_refl _)
      exact absurd ((h2 l).mpr hl) (by simp)
    | cons r rest =>
      have : RdP K (rIxL K) (.list ((r :: rest).map encR)) (.int 0) (fun x => x = encR r) := rd_ixL (show atI ((r :: rest).map encR) ((0 : Nat) : Int) = some (encR r) from atI_natD rfl)
      exact fun p B H x y hx hy w Q k => this p B H x y hx hy w Q fun d v B' H' q hd g => k d v B' H' ⟨r, rest, q, h1, h2⟩ hd g
/-! ### _law_reflected -/
abbrev spRefl (K : PySem.W.Frag) : Sp := spI K (ι := List Nat × List Nat) (fun i => [.dat (encN i.1), .dat (encN i.2)]) (fun i => (∀ x ∈ i.1, x < i.1.length) ∧ (∀ x ∈ i.2, x < i.1.length) ∧ i.2.length ≤ 1000)
  (fun i d => ∃ rs, d = encN rs ∧ rs.length = i.2.length ∧ ∀ x ∈ rs, x < i.1.length)
def nD : PyData → Nat
  | .int z => z.toNat
  | _ => 0
theorem ok__law_reflected (B : Blt mg) (D : DefAt K mg "_law_reflected" "_law_reflected" s__law_reflected p__law_reflected) : FnOk P w K mg base CX0 1 D.f D.fd p__law_reflected (spRefl K) := by
  refine D.F.ok sc__law_reflected (fun vs H Q E h => spI_len h (fun _ => rfl)) (fun cdv A outer s H vs Q E hr h => ⟨_, (pss_one (ps_ret (kRevT K rfl (pe_callTy (kTup K rfl) (by rfl) B.tuple bt_tuple (pa_cons (pe_lc (own := [("_law_mark", 2)]) rfl sc__law_reflected.nd (kPiT K rfl (pv 1)) (blkOk_by (N := N__law_reflected) (sc := defScope s__law_reflected) (by decide +kernel)) (fun _ _ _ _ _ => (pg_name (i := 2) sc__law_reflected.nd rfl (.inl rfl))) (fun _ _ _ _ _ => pts_nil) (fun _ _ _ _ _ => (pe_ix (kIxT K rfl) (pv 0) (pv 2) (fun _ _ => rfl)))) pa_nil))))), run_fn0 h ?_⟩)
  rintro ⟨pp, ms⟩ ⟨h1, h2, h3⟩
  have h1 : ∀ x ∈ pp, x < pp.length := h1
  have h2 : ∀ x ∈ ms, x < pp.length := h2
  have h3 : ms.length ≤ 1000 := h3
  show Run K _ ([.dat (encN pp), .dat (encN ms), .nil] : Slots) _ (fun d => ∃ rs, d = encN rs ∧ rs.length = ms.length ∧ ∀ x ∈ rs, x < pp.length)
  refine run_ret (Ev.to (ev_revT (ev_cb (ea_cons (ev_mapX (F := fun d => iD (pp.getD (nD d) 0)) (ei_tup (ev_var rfl)) (by rw [List.length_map]; omega) fun i d hd => ⟨_, eg_name, ?_⟩) ea_nil) cd_tupL)) ⟨((ms.map fun m => pp.getD m 0)).reverse, ?_, by rw [List.length_reverse, List.length_map], fun x hx => ?_⟩)
  · have hi : i < ms.length := by have := (List.getElem?_eq_some_iff.mp hd).1; rwa [List.length_map] at this
    have e : d = iD (ms.getD i 0) := Option.some.inj (hd.symm.trans (getD_map _ _ i 0 hi))
    subst e
    exact ev_op (ev_var rfl) (ev_var rfl) (rd_ixT (atN (h2 _ (getD_mem' hi))))
  · unfold encN
    rw [List.map_reverse, List.map_map, List.map_map]
    rfl
  · rw [List.mem_reverse] at hx
    obtain ⟨m, hm, rfl⟩ := List.mem_map.mp hx
    exact h1 _ (getD_mem' (h2 m hm))
/-! ### _law_equal -/
def iT : Nat → PyData → Prop
  | _, .int _ => True
  | m + 1, .tuple l => l.length ≤ 1000 ∧ ∀ d ∈ l, iT m d
  | _, _ => False
abbrev spEq (K : PySem.W.Frag) (m : Nat) : Sp := spI K (ι := PyData × PyData × Bool) (fun i => [.dat i.1, .dat i.2.1]) (fun i => (∃ x y, i.1 = .bool x ∧ i.2.1 = .bool y ∧ i.2.2 = decide (x = y)) ∨ (i.1 = i.2.1 ∧ iT m i.1 ∧ i.2.2 = true)) (fun i d => d = .bool i.2.2)
def spEx (K : PySem.W.Frag) : Nat → Sp
  | 0 => fun _ _ _ _ => False
  | m + 1 => spEq K m
theorem cl_eqT {ds : Slots} {ta tb : TE} {d : PyData} {m : Nat} {E : XK} (hi : iT m d) (ha : Ev K ta ds d) (hb : Ev K tb ds d) : Ev K (tCall (spEq K m) [] E (tCons ta (tCons tb tNil))) ds (.bool true) := ev_call (d, d, true) (ea_cons ha (ea_cons hb ea_nil)) (.inr ⟨rfl, hi, rfl⟩) fun _ e => e
theorem cl_eqB {ds : Slots} {ta tb : TE} {x y : Bool} {m : Nat} {E : XK} (ha : Ev K ta ds (.bool x)) (hb : Ev K tb ds (.bool y)) : Ev K (tCall (spEq K m) [] E (tCons ta (tCons tb tNil))) ds (.bool (decide (x = y))) := ev_call (.bool x, .bool y, decide (x = y)) (ea_cons ha (ea_cons hb ea_nil)) (.inl ⟨x, y, rfl, rfl, rfl⟩) fun _ e => e
theorem ok__law_equal (B : Blt mg) (D__law_equal : DefAt K mg "_law_equal" "_law_equal" s__law_equal p__law_equal) (D__law_is_integer : DefAt K mg "_law_is_integer" "_law_is_integer" s__law_is_integer p__law_is_integer) (G__law_is_integer : FnOk P w K mg base CX0 1 D__law_is_integer.f D__law_is_integer.fd p__law_is_integer (spIsI K)) :
    ∀ m, FnOk P w K mg base CX0 (m + 1) D__law_equal.f D__law_equal.fd p__law_equal (spEx K m)
  | 0 => ⟨fun _ _ _ _ h => h.elim, fun _ _ _ _ _ _ _ _ _ _ _ _ _ h => h.elim⟩
  | m + 1 => by
    have G__law_equal := ok__law_equal B D__law_equal D__law_is_integer G__law_is_integer m
    show FnOk P w K mg base CX0 (m + 1 + 1) D__law_equal.f D__law_equal.fd p__law_equal (spEq K m)
    refine D__law_equal.F.ok sc__law_equal (fun vs H Q E h => spI_len h (fun _ => rfl)) (fun cdv A outer s H vs Q E hr h => ⟨_, (pss_cons (ps_if (pt_cmpR op_isN (pv 1) pe_non (nomark _)) (pss_one (ps_ret (pe_cmpR op_isN (pv 0) pe_non (nomark _)))) pss_nil)
      (pss_cons (ps_if (pt_val (pe_callB (kIsi K rfl) (by rfl) B.isinstance bt_isinstance (pa_cons (pv 1) (pa_cons (pe_bltn (v := .ty "bool") (by rfl) B.bool bt_bool rfl) pa_nil)))) (pss_one (ps_ret (pe_and (pe_callB (kIsi K rfl) (by rfl) B.isinstance bt_isinstance (pa_cons (pv 0) (pa_cons (pe_bltn (v := .ty "bool") (by rfl) B.bool bt_bool rfl) pa_nil))) (pe_one (pe_cmpR op_eq (pv 0) (pv 1) (nomark _)))))) pss_nil)
      (pss_cons (ps_if (pt_val (pe_callB (kIsi K rfl) (by rfl) B.isinstance bt_isinstance (pa_cons (pv 1) (pa_cons (pe_bltn (v := .ty "int") (by rfl) B.int bt_int rfl) pa_nil)))) (pss_one (ps_ret (pe_and (pe_call G__law_is_integer (hr.mono (by walk_at "lvl")) (by rfl) D__law_is_integer.m D__law_is_integer.F.kp D__law_is_integer.b .nil pass0 (pa_cons (pv 0) pa_nil)) (pe_one (pe_cmpR op_eq (pv 0) (pv 1) (nomark _)))))) pss_nil)
      (pss_cons (ps_if (pt_val (pe_callB (kIsi K rfl) (by rfl) B.isinstance bt_isinstance (pa_cons (pv 1) (pa_cons (pe_bltn (v := .ty "str") (by rfl) B.str bt_str rfl) pa_nil)))) (pss_one (ps_ret (pe_and (pe_callB (kIsi K rfl) (by rfl) B.isinstance bt_isinstance (pa_cons (pv 0) (pa_cons (pe_bltn (v := .ty "str") (by rfl) B.str bt_str rfl) pa_nil))) (pe_one (pe_cmpR op_eq (pv 0) (pv 1) (nomark _)))))) pss_nil)
      (pss_cons (ps_if (PW.pt (pw_and (pt_val (pe_callB (kIsi K rfl) (by rfl) B.isinstance bt_isinstance (pa_cons (pv 1) (pa_cons (pe_bltn (v := .ty "tuple") (by rfl) B.tuple bt_tuple rfl) pa_nil)))) (pw_and1 (pt_not (pt_val (pe_callB (kIsi K rfl) (by rfl) B.isinstance bt_isinstance (pa_cons (pv 0) (pa_cons (pe_bltn (v := .ty "tuple") (by rfl) B.tuple bt_tuple rfl) pa_nil)))))))) (pss_one (ps_ret pe_bl)) pss_nil)
      (pss_cons (ps_if (PW.pt (pw_and (pt_val (pe_callB (kIsi K rfl) (by rfl) B.isinstance bt_isinstance (pa_cons (pv 1) (pa_cons (pe_bltn (v := .ty "list") (by rfl) B.list bt_list rfl) pa_nil)))) (pw_and1 (pt_not (pt_val (pe_callB (kIsi K rfl) (by rfl) B.isinstance bt_isinstance (pa_cons (pv 0) (pa_cons (pe_bltn (v := .ty "list") (by rfl) B.list bt_list rfl) pa_nil)))))))) (pss_one (ps_ret pe_bl)) pss_nil)
      (pss_cons (ps_if (pt_cmpR op_ne (pe_callB (kLen K rfl) (by rfl) B.len bt_len (pa_cons (pv 0) pa_nil)) (pe_callB (kLen K rfl) (by rfl) B.len bt_len (pa_cons (pv 1) pa_nil)) (nomark _)) (pss_one (ps_ret pe_bl)) pss_nil)
      (pss_one (ps_ret (pe_callB (kAll K rfl rfl) (by rfl) B.all bt_all (pa_cons (pe_lc (own := [("_law_at", 2)]) rfl sc__law_equal.nd (pi_range1 (by rfl) B.range (pa_cons (pe_callB (kLen K rfl) (by rfl) B.len bt_len (pa_cons (pv 1) pa_nil)) pa_nil)) (blkOk_by (N := N__law_equal) (sc := defScope s__law_equal) (by decide +kernel)) (fun _ _ _ _ _ => (pg_name (i := 2) sc__law_equal.nd rfl (.inl rfl))) (fun _ _ _ _ _ => pts_nil) (fun _ _ _ _ _ => (pe_call G__law_equal (hr.mono (by walk_at "lvl")) (by rfl) D__law_equal.m D__law_equal.F.kp D__law_equal.b .nil pass0 (pa_cons (pe_ix (kIxT K rfl) (pv 0) (pv 2) (fun _ _ => rfl)) (pa_cons (pe_ix (kIxT K rfl) (pv 1) (pv 2) (fun _ _ => rfl)) pa_nil))))) pa_nil))))))))))), run_fn0 h ?_⟩)
    rintro ⟨d1, d2, r⟩ hpre
    show Run K _ ([.dat d1, .dat d2, .nil] : Slots) _ (fun x => x = .bool r)
    have hpre : (∃ x y, d1 = .bool x ∧ d2 = .bool y ∧ r = decide (x = y)) ∨ (d1 = d2 ∧ iT m d1 ∧ r = true) := hpre
    rcases hpre with ⟨x, y, rfl, rfl, rfl⟩ | ⟨rfl, hi, rfl⟩
    · refine run_guard (b := false) (et_test (ev_isN (ev_var rfl) (by simp))) (fun h => by cases h) fun _ => ?_
      exact run_guard (b := true) (EvB.is (et_B (ev_isBool (ev_var rfl))) rfl) (fun _ => run_ret (Ev.is (ev_andB (ev_isBool (ev_var rfl)) fun _ => ev_op (ev_var rfl) (ev_var rfl) rd_eqB) rfl)) (fun h => by cases h)
    · have hi : iT m d1 := hi
      cases d1 with
      | int z =>
        refine run_guard (b := false) (et_test (ev_isN (ev_var rfl) (by simp))) (fun h => by cases h) fun _ => ?_
        refine run_guard (b := false) (EvB.is (et_B (ev_isBool (ev_var rfl))) rfl) (fun h => by cases h) fun _ => ?_
        exact run_guard (b := true) (EvB.is (et_B (ev_isInt (ev_var rfl))) rfl) (fun _ => run_ret (Ev.is (ev_andB (cl__law_is_integer (ev_var rfl)) fun _ => ev_op (ev_var rfl) (ev_var rfl) rd_eqI) (by rw [decide_eq_true rfl]; rfl))) (fun h => by cases h)
      | tuple l =>
        cases m with
        | zero => exact hi.elim
        | succ m =>
          obtain ⟨hl, hall⟩ := hi
          refine run_guard (b := false) (et_test (ev_isN (ev_var rfl) (by simp))) (fun h => by cases h) fun _ => ?_
          refine run_guard (b := false) (EvB.is (et_B (ev_isBool (ev_var rfl))) rfl) (fun h => by cases h) fun _ => ?_
          refine run_guard (b := false) (EvB.is (et_B (ev_isInt (ev_var rfl))) rfl) (fun h => by cases h) fun _ => ?_
          refine run_guard (b := false) (EvB.is (et_B (ev_isStr (ev_var rfl))) rfl) (fun h => by cases h) fun _ => ?_
          refine run_guard (b := false) (EvB.is (et_and (et_B (ev_isTup (ev_var rfl))) fun _ => et_not (et_B (ev_isTup (ev_var rfl)))) rfl) (fun h => by cases h) fun _ => ?_
          refine run_guard (b := false) (et_and_f (EvB.is (et_B (ev_isLst (ev_var rfl))) rfl)) (fun h => by cases h) fun _ => ?_
          refine run_guard (b := false) (EvB.is (et_test (ev_op (ev_cb (ea_cons (ev_var (d := .tuple l) rfl) ea_nil) cd_lenT) (ev_cb (ea_cons (ev_var (d := .tuple l) rfl) ea_nil) cd_lenT) rd_neI)) (by rw [decide_eq_true rfl]; rfl)) (fun h => by cases h) fun _ => ?_
          refine run_ret (Ev.is (ev_cb (ea_cons (ev_map (h := fun _ => .bool true) (ei_r1 (n := (l.length : Int)) (ea_cons (ev_cb (ea_cons (ev_var (d := .tuple l) rfl) ea_nil) cd_lenT) ea_nil) (by omega)) (by omega) fun i hi => ⟨_, eg_name, ?_⟩) ea_nil) (cd_allF (f := fun _ => true))) (by simp))
          have hi : i < l.length := by rw [Int.toNat_natCast] at hi; exact hi
          exact cl_eqT (hall l[i] (List.getElem_mem hi)) (ev_op (ev_var rfl) (ev_var rfl) (rd_ixT (atI_natD (List.getElem?_eq_getElem hi)))) (ev_op (ev_var rfl) (ev_var rfl) (rd_ixT (atI_natD (List.getElem?_eq_getElem hi))))
      | none => cases m <;> exact hi.elim
      | bool _ => cases m <;> exact hi.elim
      | str _ => cases m <;> exact hi.elim
      | list _ => cases m <;> exact hi.elim
      | dict _ => cases m <;> exact hi.elim
/-! ### _law_greatest -/
abbrev spLG (K : PySem.W.Frag) : Sp := spI K (ι := Bk × List (List Pr)) (fun i => [.dat (.list (i.2.map encR))]) (fun i => (∀ l, l ∈ i.2 ↔ Valid i.1.n i.1.cp l) ∧ i.2.length ≤ 1000000) (fun i d => d = .list ((greatV i.1.n i.1.cp i.2).map encR))
theorem ok__law_greatest (B : Blt mg) (D : DefAt K mg "_law_greatest" "_law_greatest" s__law_greatest p__law_greatest) : FnOk P w K mg base CX0 1 D.f D.fd p__law_greatest (spLG K) := by
  refine D.F.ok sc__law_greatest (fun vs H Q E h => spI_len h (fun _ => rfl)) (fun cdv A outer s H vs Q E hr h => ⟨_, (pss_cons (ps_set (i := 1) sc__law_greatest.nd rfl (.inr rfl) (pe_callB (kMax K rfl rfl) (by rfl) B.max bt_max (pa_cons (pe_lc (own := [("_law_row", 2)]) rfl sc__law_greatest.nd (kPiL K rfl (pv 0)) (blkOk_by (N := N__law_greatest) (sc := defScope s__law_greatest) (by decide +kernel)) (fun _ _ _ _ _ => (pg_name (i := 2) sc__law_greatest.nd rfl (.inl rfl))) (fun _ _ _ _ _ => pts_nil) (fun _ _ _ _ _ => (pe_callB (kLen K rfl) (by rfl) B.len bt_len (pa_cons (pv 2) pa_nil)))) pa_nil)))
      (pss_one (ps_ret (pe_lc (own := [("_law_row", 2)]) rfl sc__law_greatest.nd (kPiL K rfl (pv 0)) (blkOk_by (N := N__law_greatest) (sc := defScope s__law_greatest) (by decide +kernel)) (fun _ _ _ _ _ => (pg_name (i := 2) sc__law_greatest.nd rfl (.inl rfl))) (fun _ _ _ _ _ => (pts_one (pt_cmpR op_eq (pe_callB (kLen K rfl) (by rfl) B.len bt_len (pa_cons (pv 2) pa_nil)) (pv 1) (nomark _)))) (fun _ _ _ _ _ => (pv 2)))))), run_fn0 h ?_⟩)
  rintro ⟨b, rows⟩ ⟨hm, hl⟩
  have hm : ∀ l, l ∈ rows ↔ Valid b.n b.cp l := hm
  have hl : rows.length ≤ 1000000 := hl
  show Run K _ ([.dat (.list (rows.map encR)), .nil, .nil] : Slots) _ (fun x => x = .list ((greatV b.n b.cp rows).map encR))
  have rowOf : ∀ i d, (rows.map encR)[i]? = some d → ∃ r, d = encR r := fun i d hd => by
    obtain ⟨r, _, e⟩ := List.mem_map.mp (List.mem_of_getElem? hd)
    exact ⟨r, e.symm⟩
  let ns : List Int := rows.map fun r => (r.length : Int)
  have hne : ns ≠ [] := by
    intro e
    obtain ⟨l, hl⟩ := maxRow_some (n := b.n) (cp := b.cp) b.n (Nat.zero_le _) (Nat.le_refl _)
    have := (hm l).mpr (valid_row.mpr hl.1)
    have e2 := congrArg List.length e
    simp [ns] at e2
    rw [e2] at this
    simp at this
  refine run_setP (P := fun d => d = .int (en b.n b.cp 0 : Int)) (ev_cbP (ea_cons (Ev.is (ev_mapX (F := fun d => .int (lenT d : Int)) (ei_list (ev_var rfl)) (by rw [List.length_map]; omega) fun i d hd => ⟨_, eg_name, ?_⟩) (show _ = PyData.list (ns.map .int) by rw [List.map_map, List.map_map]; congr 1; exact List.map_congr_left fun r _ => by show PyData.int (((r.map encPr).length : Nat) : Int) = _; rw [List.length_map]; rfl)) ea_nil) fun xs exs => ?_) fun d ed => ?_
  · obtain ⟨r, rfl⟩ := rowOf i d hd
    exact ev_cb (ea_cons (ev_var (d := .tuple (r.map encPr)) rfl) ea_nil) cd_lenT
  · subst exs
    refine fun p B H vs he w Q k => cd_max hne p B H vs he w Q fun d v B' H' ⟨m, hmm, hall, e⟩ hd g' => k d v B' H' ?_ hd g'
    subst e
    obtain ⟨r, hr, rfl⟩ := List.mem_map.mp hmm
    have := most_is hm (m := r.length) (List.mem_map.mpr ⟨r, hr, rfl⟩) fun y hy => by
      obtain ⟨t, ht, rfl⟩ := List.mem_map.mp hy
      have := hall _ (List.mem_map.mpr ⟨t, ht, rfl⟩)
      omega
    show PyData.int _ = _
    rw [this]
  · subst ed
    refine run_ret (Ev.is (ev_filX (F := fun d => d) (b := fun d => decide (lenT d = en b.n b.cp 0)) (ei_list (ev_var rfl)) (by rw [List.length_map]; omega) fun i d hd => ⟨_, eg_name, ?_, fun _ => ev_var rfl⟩) ?_)
    · obtain ⟨r, rfl⟩ := rowOf i d hd
      refine EvB.is (et_test (ev_op (ev_cb (ea_cons (ev_var (d := .tuple (r.map encPr)) rfl) ea_nil) cd_lenT) (ev_var rfl) rd_eqI)) ?_
      show _ = decide ((r.map encPr).length = _)
      by_cases h : (r.map encPr).length = en b.n b.cp 0
      · rw [decide_eq_true h, decide_eq_true (by omega)]
      · rw [decide_eq_false h, decide_eq_false (by omega)]
    · rw [List.map_id', List.filter_map]
      unfold greatV
      congr 2
      refine List.filter_congr fun r _ => ?_
      show decide ((r.map encPr).length = _) = _
      rw [List.length_map]
/-! ### _law_all_valid -/
abbrev spAll (K : PySem.W.Frag) : Sp := spI K (ι := Bk) (fun b => [.dat b.P, .dat b.S]) Bk.Ok (fun b d => d = .list ((sortR (allV b.n b.cp b.n)).map encR))
theorem allV_head (n : Nat) (cp : Nat → Nat → Bool) : ∀ k, (allV n cp k).head? = some []
  | 0 => rfl
  | k + 1 => by
    unfold allV
    rw [List.head?_append, allV_head n cp k]
    rfl
theorem ok__law_all_valid (B : Blt mg) (D : DefAt K mg "_law_all_valid" "_law_all_valid" s__law_all_valid p__law_all_valid) (D__law_is_valid : DefAt K mg "_law_is_valid" "_law_is_valid" s__law_is_valid p__law_is_valid) (G__law_is_valid : FnOk P w K mg base CX0 3 D__law_is_valid.f D__law_is_valid.fd p__law_is_valid (spValid K)) :
    FnOk P w K mg base CX0 4 D.f D.fd p__law_all_valid (spAll K) := by
  refine D.F.ok sc__law_all_valid (fun vs H Q E h => spI_len h (fun _ => rfl)) (fun cdv A outer s H vs Q E hr h => ⟨_, (pss_cons (ps_set (i := 2) sc__law_all_valid.nd rfl (.inl rfl) (pe_lst (pa_cons (pe_tup pa_nil) pa_nil)))
      (pss_cons (ps_for PassesOwn.never rfl (pi_range1 (by rfl) B.range (pa_cons (pe_callB (kLen K rfl) (by rfl) B.len bt_len (pa_cons (pv 1) pa_nil)) pa_nil)) (pg_name (i := 3) sc__law_all_valid.nd rfl (.inl rfl))
      (pss_cons (ps_set (i := 4) sc__law_all_valid.nd rfl (.inl rfl) (pe_lst pa_nil))
      (pss_cons (ps_for PassesOwn.never rfl (kPiL K rfl (pv 2)) (pg_name (i := 5) sc__law_all_valid.nd rfl (.inl rfl))
      (pss_one (ps_for PassesOwn.never rfl (pi_range2 (by rfl) B.range (pa_cons (pe_op op_add (pv 3) pe_int) (pa_cons (pe_callB (kLen K rfl) (by rfl) B.len bt_len (pa_cons (pv 1) pa_nil)) pa_nil))) (pg_name (i := 6) sc__law_all_valid.nd rfl (.inl rfl))
      (pss_one (ps_if (pt_val (pe_call G__law_is_valid (hr.mono (by walk_at "lvl")) (by rfl) D__law_is_valid.m D__law_is_valid.F.kp D__law_is_valid.b .nil pass0 (pa_cons (pv 0) (pa_cons (pv 1) (pa_cons (pe_op (kCat K rfl) (pv 5) (pe_tup (pa_cons (pe_tup (pa_cons (pv 3) (pa_cons (pv 6) pa_nil))) pa_nil))) pa_nil))))) (pss_one (ps_expr (pe_bm PySem.F.plainAttrs_list PySem.F.slot_list_append PySem.F.type_list_append mt_append (pv 4) (pa_cons (pe_op (kCat K rfl) (pv 5) (pe_tup (pa_cons (pe_tup (pa_cons (pv 3) (pa_cons (pv 6) pa_nil))) pa_nil))) pa_nil)))) pss_nil)))))
      (pss_one (ps_set (i := 2) sc__law_all_valid.nd rfl (.inl rfl) (pe_op op_cat (pv 2) (pv 4)))))))
      (pss_one (ps_ret (pe_callB (kSortR K rfl hr.units) (by rfl) B.sorted bt_sorted (pa_cons (pv 2) pa_nil)))))), run_fn0 h ?_⟩)
  intro b o
  have hs : (b.ss.map iD).length = b.n := List.length_map _
  have n7 : b.n ≤ 7 := o.s12
  show Run K _ ([.dat b.P, .dat b.S, .nil, .nil, .nil, .nil, .nil] : Slots) _ (fun x => x = .list ((sortR (allV b.n b.cp b.n)).map encR))
  refine run_own ?_ ⟨trivial, trivial, trivial, trivial, trivial, trivial, trivial, trivial⟩
  have lenS : ∀ {ds : Slots}, ds[1]? = some (.dat b.S) → Ev K (tCB (rLen K) (tCons (tVar 1) tNil)) ds (.int (b.n : Int)) := fun h => Ev.is (ev_cb (ea_cons (ev_var (d := .tuple (b.ss.map iD)) h) ea_nil) cd_lenT) (by rw [hs])
  let V := allV b.n b.cp
  refine ro_seq (N1 := fun x => ∃ a, x = [.dat b.P, .dat b.S, .own a (lstP K ((V 0).map encR)), .nil, .nil, .nil, .nil]) (ro_newL (new_lst (l := [.tuple []]) (ea_cons (ev_tup (l := []) ea_nil) ea_nil) (by simp)) fun a _ => ⟨a, rfl⟩) ?_
  rintro x ⟨a, rfl⟩
  refine ro_freezeLs (i := 2) (a := a) rfl ⟨trivial, trivial, trivial, trivial, trivial, trivial, trivial, trivial⟩ ?_
  refine ro_seq (N1 := fun x => x = [.dat b.P, .dat b.S, .ls ((V b.n).map encR), .nil, .nil, .nil, .nil]) ?_ ?_
  · refine ro_for (vs := [3]) (fun k x => x = [.dat b.P, .dat b.S, .ls ((V k).map encR), .nil, .nil, .nil, .nil]) (ei_r1 (n := (b.n : Int)) (ea_cons (lenS rfl) ea_nil) (by omega)) rfl ?_ (fun ds' h => by rw [h, Int.toNat_natCast])
    rintro k ds' hk rfl
    have hk : k < b.n := by rw [Int.toNat_natCast] at hk; exact hk
    refine ⟨_, eg_name, ?_⟩
    let X : Addr → List (List Pr) → Slots := fun c l => [.dat b.P, .dat b.S, .ls ((V k).map encR), .dat (.int (k : Int)), .own c (lstP K (l.map encR)), .nil, .nil]
    refine ro_seq (N1 := fun x => ∃ c, x = X c []) (ro_newL (new_lst (l := []) ea_nil (by simp)) fun c _ => ⟨c, rfl⟩) ?_
    rintro x ⟨c, rfl⟩
    refine ro_seq (N1 := fun x => x = X c ((V k).flatMap (longer b.n b.cp k))) ?_ ?_
    · refine ro_for (vs := [5]) (fun m x => x = X c (((V k).take m).flatMap (longer b.n b.cp k))) (ei_list (ev_ls rfl)) rfl ?_ (fun ds' h => by rw [h, List.length_map, List.take_length])
      rintro m ds' hm rfl
      have hm : m < (V k).length := by rw [List.length_map] at hm; exact hm
      have hgd : ((V k).map encR).getD m PyData.none = encR (V k)[m] := getD_at (by rw [List.getElem?_map, List.getElem?_eq_getElem hm]; rfl)
      have eg : EvG K [5] (gName 5) (((V k).map encR).getD m PyData.none) (X c (((V k).take m).flatMap (longer b.n b.cp k))) ((X c (((V k).take m).flatMap (longer b.n b.cp k))).set 5 (.dat (encR (V k)[m]))) := by
        rw [hgd]
        exact eg_name
      refine ⟨_, eg, ?_⟩
      have hrow := (allV_mem (n := b.n) (cp := b.cp)).mp (List.getElem_mem (l := V k) hm)
      generalize hrw : (V k)[m] = row at *
      have rlen : row.length ≤ 7 := by
        have := (valid_row.mp hrow.1).len2
        omega
      let Y : List (List Pr) → Slots := fun l => [.dat b.P, .dat b.S, .ls ((V k).map encR), .dat (.int (k : Int)), .own c (lstP K (l.map encR)), .dat (encR row), .nil]
      let A0 := ((V k).take m).flatMap (longer b.n b.cp k)
      let part : Nat → List (List Pr) := fun y => ((List.range y).map fun z => row ++ [(k, k + 1 + z)]).filter (okRow b.n b.cp)
      have take1 : ((V k).take (m + 1)).flatMap (longer b.n b.cp k) = A0 ++ longer b.n b.cp k row := by
        rw [List.take_add_one, List.getElem?_eq_getElem hm, hrw, List.flatMap_append]
        simp [A0]
      refine ro_impW [5] (N' := fun x => x = Y (A0 ++ longer b.n b.cp k row)) ?_ (fun z ez => by rw [ez, take1]; rfl)
      refine ro_for (vs := [6]) (fun y x => x = Y (A0 ++ part y)) (ei_r2 (lo := (k : Int) + 1) (hi := (b.n : Int)) (ea_cons (ev_op (ev_var rfl) ev_int rd_add) (ea_cons (lenS rfl) ea_nil)) (by omega) (by omega)) (by show _ = Y (A0 ++ []); rw [List.append_nil]; rfl) ?_ ?_
      · rintro y ds' hy rfl
        have hy : k + 1 + y < b.n := by omega
        have ey : (k : Int) + 1 + (y : Nat) = ((k + 1 + y : Nat) : Int) := by omega
        refine ⟨_, eg_name, ?_⟩
        rw [ey]
        have newrow : ∀ {ds : Slots}, ds[5]? = some (.dat (encR row)) → ds[3]? = some (.dat (.int (k : Int))) → ds[6]? = some (.dat (.int ((k + 1 + y : Nat) : Int))) → Ev K (tOp (rCatA K) (tVar 5) (tTup (tCons (tTup (tCons (tVar 3) (tCons (tVar 6) tNil))) tNil))) ds (encR (row ++ [(k, k + 1 + y)])) := fun h5 h3 h6 =>
          Ev.is (ev_op (ev_var (d := .tuple (row.map encPr)) h5) (ev_tup (l := [.tuple [.int (k : Int), .int ((k + 1 + y : Nat) : Int)]]) (ea_cons (ev_tup (l := [.int (k : Int), .int ((k + 1 + y : Nat) : Int)]) (ea_cons (ev_var h3) (ea_cons (ev_var h6) ea_nil)) (by show 2 ≤ _; decide)) ea_nil) (by show 1 ≤ _; decide)) (rd_cat (Nat.le_trans (show (row.map encPr).length + 1 ≤ 100000 by rw [List.length_map]; omega) (by decide)))) (encR_cat row [(k, k + 1 + y)])
        have ps : part (y + 1) = part y ++ if okRow b.n b.cp (row ++ [(k, k + 1 + y)]) then [row ++ [(k, k + 1 + y)]] else [] := by
          show ((List.range (y + 1)).map _).filter _ = _
          rw [List.range_succ, List.map_append, List.filter_append]
          congr 1
          rw [List.map_cons, List.map_nil, List.filter_cons, List.filter_nil]
        refine ro_impW [6] (N' := fun x => x = [.dat b.P, .dat b.S, .ls ((V k).map encR), .dat (.int (k : Int)), .own c (lstP K ((A0 ++ part (y + 1)).map encR)), .dat (encR row), .dat (.int ((k + 1 + y : Nat) : Int))]) ?_ (fun z ez => by rw [ez]; rfl)
        refine ro_if (b := okRow b.n b.cp (row ++ [(k, k + 1 + y)])) (EvB.is (et_B (cl_valid o (fun l hl => ?_) (ev_var rfl) (ev_var rfl) (newrow rfl rfl rfl))) (validD_row _)) (fun h => ?_) (fun h => ?_)
        · unfold encR at hl
          injection hl with hl
          rw [← hl, List.length_map, List.length_append]
          show row.length + 1 ≤ 1000
          omega
        · refine ro_append (i := 4) (a := c) (P := fun d => d = encR (row ++ [(k, k + 1 + y)])) rfl (newrow rfl rfl rfl) ?_ ⟨trivial, trivial, trivial, trivial, trivial, trivial, trivial, trivial⟩ fun d ed => ?_
          · rw [List.length_map, List.length_append]
            have h1 : A0.length + (longer b.n b.cp k row).length ≤ 705894 := by
              have := flat_len (n := b.n) (cp := b.cp) n7 (k := k) (l := (V k).take (m + 1)) (by omega) (by rw [List.length_take]; exact Nat.min_le_right _ _)
              rw [take1, List.length_append] at this
              exact this
            have h2 : (part y).length ≤ y := by
              have := List.length_filter_le (okRow b.n b.cp) ((List.range y).map fun z => row ++ [(k, k + 1 + z)])
              rw [List.length_map, List.length_range] at this
              exact this
            omega
          · rw [ed, ps, h]
            show [_, _, _, _, _, _, _] = _
            rw [if_pos rfl, ← List.append_assoc, List.map_append (l₁ := A0 ++ part y)]
            rfl
        · refine ro_next ?_
          rw [ps, h]
          show [_, _, _, _, _, _, _] = _
          rw [if_neg Bool.false_ne_true, List.append_nil]
      · rintro ds' rfl
        have : part ((b.n : Int) - ((k : Int) + 1)).toNat = longer b.n b.cp k row := by
          rw [show ((b.n : Int) - ((k : Int) + 1)).toNat = b.n - (k + 1) by omega]
          rfl
        rw [this]
    · rintro x rfl
      refine ro_freezeLs (i := 4) (a := c) rfl ⟨trivial, trivial, trivial, trivial, trivial, trivial, trivial, trivial⟩ ?_
      have V1 : V (k + 1) = V k ++ (V k).flatMap (longer b.n b.cp k) := rfl
      have vl : (V (k + 1)).length ≤ 823543 := allV_len7 n7 (by omega)
      refine ro_impW [3, 4] (N' := fun x => x = [.dat b.P, .dat b.S, .ls ((V (k + 1)).map encR), .dat (.int (k : Int)), .ls (((V k).flatMap (longer b.n b.cp k)).map encR), .nil, .nil]) ?_ (fun z ez => by rw [ez]; rfl)
      refine ro_after (N1 := fun x => ∃ a, x = [.dat b.P, .dat b.S, .own a (lstP K ((V (k + 1)).map encR)), .dat (.int (k : Int)), .ls (((V k).flatMap (longer b.n b.cp k)).map encR), .nil, .nil]) (ro_newL (new_cat (i := 2) (j := 4) rfl rfl ?_) fun a _ => ⟨a, by rw [V1, List.map_append]; rfl⟩) ?_
      · rw [V1, List.length_append] at vl
        rw [List.length_map, List.length_map]
        omega
      · rintro x ⟨a, rfl⟩
        exact ro_freezeLs (i := 2) (a := a) rfl ⟨trivial, trivial, trivial, trivial, trivial, trivial, trivial, trivial⟩ (ro_next rfl)
  · rintro x rfl
    exact ro_ret (ev_cb (ea_cons (ev_ls rfl) ea_nil) (cd_sortR (.inr (allV_head b.n b.cp b.n))))
end
end K47
/-! K47, the layer: an own dict of integers by pairs of integers; the stream. -/
namespace K47
open PySem PySem.Spec PyProof.Rows L2
def kT (i j : Int) : List Key := [.inl i, .inl j]
/-- at most m entries; f says what stands for a pair of natural numbers -/
def dTP (f : Nat → Nat → Option Int) (m : Nat) : OwnP :=
  ⟨fun O B a => ∃ kvs : List (List Key × V), O a = some (.dT kvs) ∧ kvs.length ≤ m ∧ ∀ i j : Nat, valV kvs (kT i j) = (f i j).map V.int, fun a => [a], fun _ _ _ _ _ h => h,
    fun O O' B a h ⟨kvs, h1, h2⟩ => ⟨kvs, (h a (by simp)).trans h1, h2⟩, fun O B a ⟨kvs, h1, h2⟩ x hx => by rw [show x = a by simpa using hx]; exact ⟨_, h1⟩⟩
def updO (f : Nat → Nat → Option Int) (x y : Nat) (v : Int) : Nat → Nat → Option Int := fun i j => if i = x ∧ j = y then some v else f i j
section
variable {K : PySem.W.Frag} {ds : Slots} {te tj tk t1 t2 : TE} {ta : TA} {tt : TT} {t u : TS} {N N1 N' : Slots → Prop} {R R' PP : PyData → Prop} {d : PyData} {a : Addr}
theorem ro_newT {i : Nat} (k : ∀ a, awayL a (ds.set i .nil) → N (ds.set i (.own a (dTP (fun _ _ => none) 0)))) : RunO K (tAsg tDNewT (gName i)) ds N R := fun p0 B0 H0 p B H σ D e F kn kr => by
  intro q hq
  have e' := e.hide1 i
  have own0 : p.own q = none := by
    cases e0 : p.own q with
    | none => rfl
    | some o => rw [(F.wf.ow q o e0).1] at hq; cases hq
  have aw := away_none (fun o ho => by rw [own0] at ho; cases ho) e'
  have F' := F.new hq (.dT [])
  have e2 : EnvD K (p.add q (.dT [])) B σ (ds.set i .nil) := e'.awayTo (p := p) (q := p.add q (.dT [])) rfl (fun x hx => upd_ne hx) (fun x h => .inr h) aw
  have e3 := e2.set i (o := some (.ref q)) (s := .own q (dTP (fun _ _ => none) 0)) ⟨rfl, ⟨[], upd_same, Nat.le_refl _, fun _ _ => rfl⟩, fun x hx => .inl (by simpa [dTP] using hx)⟩
  rw [List.set_set] at e3
  exact kn _ _ B _ _ (k q aw) e3 F' (Ex.add own0)
theorem two_ints {p : Pst} {B : Hp} {vs : List V} {k1 k2 : Int} (h : EnvD K p B (vs.map some) [.dat (.int k1), .dat (.int k2)]) : vs = [.int k1, .int k2] := by
  obtain ⟨v, v', rfl, h1, h2⟩ := env_two h
  cases h1
  cases h2
  rfl
theorem ev_dgetT {i m : Nat} {f : Nat → Nat → Option Int} {k1 k2 v : Int} {x y : Nat} (hi : ds[i]? = some (.own a (dTP f m))) (h1 : Ev K t1 ds (.int k1)) (h2 : Ev K t2 ds (.int k2)) (e1 : k1 = (x : Int)) (e2 : k2 = (y : Int)) (hf : f x y = some v) :
    Ev K (tDGet (tVar i) (tTup (tCons t1 (tCons t2 tNil)))) ds (.int v) := fun p B H σ e w Q k => by
  obtain ⟨z, _⟩ := e.own hi
  refine ⟨_, z, (ea_cons h1 (ea_cons h2 ea_nil)) p B H σ e w _ fun xs vs B1 H1 q1 he g1 => ?_⟩
  subst q1
  have ev := two_ints he
  subst ev
  refine ⟨by show 2 ≤ _; decide, fun r hr => ?_⟩
  have g2 := Gw.new (o := .tup [.int k1, .int k2]) g1.wf hr
  obtain ⟨_, ⟨kvs, ho, hl, hv⟩, _⟩ := ((e.mono g1.bb).mono g2.bb).own hi
  refine ⟨a, .int v, rfl, .inr ⟨kvs, kT k1 k2, r, .inl (g2.wf.ow a _ ho).1, rfl, upd_same, ?_⟩, k _ _ _ _ rfl (.int _) (g1.trans g2)⟩
  rw [e1, e2, hv, hf]
  rfl
theorem ro_dputT {i m : Nat} {f : Nat → Nat → Option Int} {k1 k2 v : Int} {x y : Nat} (hi : ds[i]? = some (.own a (dTP f m))) (he : Ev K te ds (.int v)) (h1 : Ev K t1 ds (.int k1)) (h2 : Ev K t2 ds (.int k2)) (e1 : k1 = (x : Int)) (e2 : k2 = (y : Int)) (hm : m < 1000) (haw : awayL a (ds.set i .nil))
    (k : N (ds.set i (.own a (dTP (updO f x y v) (m + 1))))) : RunO K (sDPut (tVar i) (tTup (tCons t1 (tCons t2 tNil))) te) ds N R := fun p0 B0 H0 p B H σ D e F kn kr =>
  he p B H σ e F.wf _ fun d w B1 H1 q1 hd g1 => by
    subst q1
    cases hd
    have e' := e.mono g1.bb
    obtain ⟨z, _⟩ := e'.own hi
    refine ⟨_, z, (ea_cons h1 (ea_cons h2 ea_nil)) p B1 H1 σ e' g1.wf _ fun xs vs B2 H2 q2 he2 g2 => ?_⟩
    subst q2
    have ev := two_ints he2
    subst ev
    refine ⟨by show 2 ≤ _; decide, fun r hr => ?_⟩
    have g3 := Gw.new (o := .tup [.int k1, .int k2]) g2.wf hr
    have F3 := ((F.step g1).step g2).step g3
    have e3 := (e'.mono g2.bb).mono g3.bb
    obtain ⟨_, ⟨kvs, ho, hl, hv⟩, hn⟩ := e3.own hi
    have hn := hn a (by simp [dTP])
    refine ⟨a, _, rfl, .inr ⟨kvs, kT k1 k2, r, (F3.wf.ow a _ ho).1, rfl, upd_same, Nat.lt_of_lt_of_le (show kvs.length < 1001 by omega) (by decide), rfl⟩, ?_⟩
    have F4 := F3.mut hn ho (.dT (putK kvs (kT k1 k2) (.int v)))
    have e4 : EnvD K (p.put a (.dT (putK kvs (kT k1 k2) (.int v)))) _ σ (ds.set i .nil) := (e3.hide1 i).awayTo (p := p) (q := p.put a (.dT (putK kvs (kT k1 k2) (.int v)))) rfl (fun x hx => upd_ne hx) (fun x h => h) haw
    refine kn _ _ _ _ _ k (e4.back z ⟨rfl, ⟨_, upd_same, ?_, fun i' j' => ?_⟩, fun x hx => by rw [show x = a by simpa [dTP] using hx]; exact hn⟩) F4 ((Ex.of ((g1.bb.trans g2.bb).trans g3.bb)).trans (Ex.put hn))
    · have := length_putK kvs (kT k1 k2) (.int v)
      omega
    · rw [valV_put, hv, e1, e2]
      unfold updO
      by_cases h : i' = x ∧ j' = y
      · obtain ⟨rfl, rfl⟩ := h
        rw [if_pos rfl, if_pos ⟨rfl, rfl⟩]
        rfl
      · rw [if_neg h, if_neg]
        intro q
        unfold kT at q
        injection q with q1 q2
        injection q2 with q2 _
        injection q1 with q1
        injection q2 with q2
        exact h ⟨by omega, by omega⟩
end
end K47
/-! K47, the layer: the stream. -/
namespace K47
open PySem PySem.Spec PyProof.Rows L2
theorem Gw.strm {p : Pst} {B H : Hp} {a b : Addr} {ns : List Int} {c : Int} {k : Nat} (w : Wf p B H) (hp : p.st = some (a, b)) (h2 : b ≠ a) (h3 : H b = some (.lst (ns.map V.int))) (h4 : ns.length ≤ 63) (ha : ∃ o, H a = some o) : Gw p B H B (upd H a (.lst [.ref b, .int c, .int (k : Int)])) := by
  have hB := w.nb a b hp
  refine ⟨Same.refl B, fun _ h => .inl h, fun x h => ?_, fun x o hx h => ?_, ⟨fun x o h => ?_, fun x y e => ?_, w.nb, fun x o h => ?_, w.os⟩⟩
  · by_cases z : x = a
    · subst z; rw [upd_same]; simp
    · rw [upd_ne z]; exact h
  · rw [upd_ne fun z => hx b (by rw [z]; exact hp)]; exact h
  · rw [upd_ne (ne_of_none h hB)]; exact w.sub x o h
  · rw [hp] at e
    cases e
    exact ⟨ns, c, k, upd_same, h2, by rw [upd_ne h2]; exact h3, h4⟩
  · have hx : x ≠ a := fun z => by
      have := (w.os a b hp).1
      rw [z, this] at h
      cases h
    rw [upd_ne hx]
    exact w.ow x o h
section
variable {K : PySem.W.Frag} {ds : Slots} {te tj tk t1 t2 : TE} {ta : TA} {tt : TT} {t u : TS} {N N1 N' : Slots → Prop} {R R' PP : PyData → Prop} {d : PyData}
theorem ev_s1 {i : Nat} (h : ds[i]? = some .strm) : EvP K (tOp (rIxL K) (tVar i) (tC (.int 1))) ds (fun d => ∃ c : Int, d = .int c) := fun p B H σ e w Q k => by
  obtain ⟨a, b, hp, h1⟩ := e.getS h
  obtain ⟨ns, c, n, hH, _⟩ := w.st a b hp
  exact ⟨_, h1, a, [.ref b, .int c, .int (n : Int)], 1, .int c, rfl, rfl, .inl (.inl hH), rfl, k _ _ B H ⟨c, rfl⟩ (.int _) (Gw.refl w)⟩
theorem ev_s2 {i : Nat} (h : ds[i]? = some .strm) : EvP K (tOp (rIxL K) (tVar i) (tC (.int 2))) ds (fun d => ∃ k : Nat, d = .int (k : Int)) := fun p B H σ e w Q k => by
  obtain ⟨a, b, hp, h1⟩ := e.getS h
  obtain ⟨ns, c, n, hH, _⟩ := w.st a b hp
  exact ⟨_, h1, a, [.ref b, .int c, .int (n : Int)], 2, .int (n : Int), rfl, rfl, .inl (.inl hH), rfl, k _ _ B H ⟨n, rfl⟩ (.int _) (Gw.refl w)⟩
theorem run_s1 {i : Nat} (h : ds[i]? = some .strm) (he : EvP K te ds (fun d => ∃ c : Int, d = .int c)) (k : N ds) : Run K (tAsg te (gSub (tVar i) (tC (.int 1)) rSetL)) ds N R := fun p B H σ D e w kn kr =>
  he p B H σ e w _ fun d v B1 H1 q hd g1 => by
    obtain ⟨c', rfl⟩ := q
    cases hd
    have e' := e.mono g1.bb
    obtain ⟨a, b, hp, h1⟩ := e'.getS h
    obtain ⟨ns, c, n, hH, h2, h3, h4⟩ := g1.wf.st a b hp
    refine ⟨_, h1, a, [.ref b, .int c, .int (n : Int)], 1, 1, rfl, rfl, hH, rfl, ?_⟩
    exact kn ds B1 _ σ k e' (g1.trans (Gw.strm (c := c') (k := n) g1.wf hp h2 h3 h4 ⟨_, hH⟩))
theorem run_s2 {i : Nat} (h : ds[i]? = some .strm) (he : EvP K te ds (fun d => ∃ k : Nat, d = .int (k : Int))) (k : N ds) : Run K (tAsg te (gSub (tVar i) (tC (.int 2)) rSetL)) ds N R := fun p B H σ D e w kn kr =>
  he p B H σ e w _ fun d v B1 H1 q hd g1 => by
    obtain ⟨n', rfl⟩ := q
    cases hd
    have e' := e.mono g1.bb
    obtain ⟨a, b, hp, h1⟩ := e'.getS h
    obtain ⟨ns, c, n, hH, h2, h3, h4⟩ := g1.wf.st a b hp
    refine ⟨_, h1, a, [.ref b, .int c, .int (n : Int)], 2, 2, rfl, rfl, hH, rfl, ?_⟩
    exact kn ds B1 _ σ k e' (g1.trans (Gw.strm (c := c) (k := n') g1.wf hp h2 h3 h4 ⟨_, hH⟩))
/-- if k < len(s[0]): y = abs(s[0][k]) -/
theorem run_scr {i j m : Nat} {n : Nat} (h : ds[i]? = some .strm) (hj : ds[j]? = some (.dat (.int (n : Int)))) (k1 : ∀ c : Int, N (ds.set m (.dat (.int c)))) (k2 : N ds) :
    Run K (tIfS (tTest (tOp (rI0 fun i j => .bl (decide (i < j))) (tVar j) (tCB (rLen K) (tCons (tOp (rIxL K) (tVar i) (tC (.int 0))) tNil)))) (tAsg (tCB rAbs (tCons (tOp (rIxL K) (tOp (rIxL K) (tVar i) (tC (.int 0))) (tVar j)) tNil)) (gName m)) tNext) ds N R := fun p B H σ D e w kn kr => by
  obtain ⟨a, b, hp, h1⟩ := e.getS h
  obtain ⟨v, hv, hd⟩ := e.get hj
  cases hd
  obtain ⟨ns, c, l, hH, h2, h3, h4⟩ := w.st a b hp
  refine ⟨_, hv, _, h1, a, [.ref b, .int c, .int (l : Int)], 0, .ref b, rfl, rfl, .inl (.inl hH), rfl, b, ns.map V.int, rfl, .inl (.inl (.inl h3)), (n : Int), ((ns.map V.int).length : Int), rfl, rfl, decide ((n : Int) < ((ns.map V.int).length : Int)), rfl, ?_⟩
  by_cases hlt : (n : Int) < ((ns.map V.int).length : Int)
  · rw [decide_eq_true hlt]
    show (tAsg (tCB rAbs (tCons (tOp (rIxL K) (tOp (rIxL K) (tVar i) (tC (.int 0))) (tVar j)) tNil)) (gName m)) D σ H
    have hn : n < ns.length := by rw [List.length_map] at hlt; omega
    refine ⟨_, h1, a, [.ref b, .int c, .int (l : Int)], 0, .ref b, rfl, rfl, .inl (.inl hH), rfl, _, hv, b, ns.map V.int, (n : Int), .int ns[n], rfl, rfl, .inl (.inl h3), atI_nat (by rw [List.getElem?_map, List.getElem?_eq_getElem hn]; rfl), ns[n], rfl, ?_⟩
    exact kn _ B H _ (k1 _) (e.setD m (.int _)) (Gw.refl w)
  · rw [decide_eq_false hlt]
    show tNext D σ H
    exact kn ds B H σ k2 e (Gw.refl w)
theorem rd_pow {i j : Int} (h : CPow i j) : Rd2 K (rI CPow fun i j => .int (i ^ j.toNat)) (.int i) (.int j) (.int (i ^ j.toNat)) := rd_I h fun _ => .int _
theorem rd_modN {i j : Int} (h : j ≠ 0) : Rd2 K (rI (fun _ j => j ≠ 0) fun i j => .int (i.fmod j)) (.int i) (.int j) (.int (i.fmod j)) := rd_I h fun _ => .int _
theorem rd_fdivN {i j : Int} (h : CDivN i j) : Rd2 K (rI CDivN fun i j => .int (i.fdiv j)) (.int i) (.int j) (.int (i.fdiv j)) := rd_I h fun _ => .int _
theorem cd_int1 {i : Int} : Cd K rInt1 [.dat (.int i)] (.int i) := fun p B H vs e w Q k => by
  obtain ⟨v, rfl, hd⟩ := env_one e
  cases hd
  exact .inl ⟨i, rfl, k _ _ B H rfl (.int _) (Gw.refl w)⟩
end
end K47
/-! K47: the law's own tables. -/
namespace K47
open PySem PySem.Spec PyProof.Rows L2
local macro_rules | `(tactic| walk_at "lvl") => `(tactic| first | decide | omega)
local macro_rules | `(tactic| walk_at "at") => `(tactic| first | rfl | assumption | exact atN (by assumption))
/-- the names of the outer of two comprehensions -/
def lcSc : Scope := { kind := .function, names := [(".0", .local), ("_law_begin", .cell), ("tuple", .globalImplicit), ("range", .globalImplicit), ("_law_nests", .cell), ("_law_size", .cell)], isGenerator := false, isCoroutine := false }
abbrev spLT (K : PySem.W.Frag) : Sp := spI K (ι := Bk) (fun b => [.dat b.P, .dat b.S]) Bk.Ok (fun b d => d = tabD (leastN b.n b.cp) (leastE b.n b.cp))
theorem least_rows2 (b : Bk) : PyData.tuple ((List.range (b.n + 1)).map fun i => .tuple ((List.range (b.n + 1 - i)).map fun d => .int ((tb b.cp i (i + d) : Nat) : Int))) = encN2 (leastN b.n b.cp) := by
  rw [← least_rows b]
  congr 1
  refine List.map_congr_left fun i _ => ?_
  rw [drop_row, List.map_map]
  rfl
section
variable {P : Program} {w : World} {K : PySem.W.Frag} {mg : Str → Option Value} {base : Heap}
theorem ok__law_tables (B : Blt mg) (D : DefAt K mg "_law_tables" "_law_tables" s__law_tables p__law_tables) : FnOk P w K mg base CX0 1 D.f D.fd p__law_tables (spLT K) := by
  refine D.F.ok sc__law_tables (fun vs H Q E h => spI_len h (fun _ => rfl)) (fun cdv A outer s H vs Q E hr h => ⟨_, (pss_cons (ps_set (i := 2) sc__law_tables.nd rfl (.inr rfl) (pe_callB (kLen K rfl) (by rfl) B.len bt_len (pa_cons (pv 1) pa_nil)))
      (pss_cons (ps_set (i := 3) sc__law_tables.nd rfl (.inr rfl) (pe_dnewT))
      (pss_cons (ps_for PassesOwn.never rfl (pi_range1 (by rfl) B.range (pa_cons (pe_op op_add (pv 2) pe_int) pa_nil)) (pg_name (i := 4) sc__law_tables.nd rfl (.inl rfl))
      (pss_one (ps_for PassesOwn.never rfl (pi_range1 (by rfl) B.range (pa_cons (pe_op op_sub (pe_op op_add (pv 2) pe_int) (pv 4)) pa_nil)) (pg_name (i := 5) sc__law_tables.nd rfl (.inr rfl))
      (pss_cons (ps_set (i := 6) sc__law_tables.nd rfl (.inl rfl) (pe_op op_add (pv 5) (pv 4)))
      (pss_cons (ps_set (i := 7) sc__law_tables.nd rfl (.inl rfl) pe_int)
      (pss_cons (ps_if (pt_cmpR op_gt (pv 4) pe_int (nomark _)) (pss_one (ps_set (i := 7) sc__law_tables.nd rfl (.inl rfl) (pe_callB (cr_max2 rfl) (by rfl) B.max bt_max (pa_cons (pe_dget (hu_of hr) (pv 3) (pe_tup (pa_cons (pe_op op_add (pv 5) pe_int) (pa_cons (pv 6) pa_nil))) (fun _ _ => rfl)) (pa_cons (pe_dget (hu_of hr) (pv 3) (pe_tup (pa_cons (pv 5) (pa_cons (pe_op op_sub (pv 6) pe_int) pa_nil))) (fun _ _ => rfl)) pa_nil))))) pss_nil)
      (pss_cons (ps_if (PW.pt (pw_and (pt_cmpR op_gt (pv 4) pe_int (nomark _)) (pw_and1 (pt_cmpR op_eq (pe_ix (kIxT K rfl) (pv 0) (pe_ix (kIxT K rfl) (pv 1) (pv 5) (fun _ _ => rfl)) (fun _ _ => rfl)) (pe_ix (kIxT K rfl) (pv 1) (pe_op op_sub (pv 6) pe_int) (fun _ _ => rfl)) (nomark _))))) (pss_one (ps_set (i := 7) sc__law_tables.nd rfl (.inl rfl) (pe_callB (cr_max2 rfl) (by rfl) B.max bt_max (pa_cons (pv 7) (pa_cons (pe_op op_add pe_int (pe_dget (hu_of hr) (pv 3) (pe_tup (pa_cons (pe_op op_add (pv 5) pe_int) (pa_cons (pe_op op_sub (pv 6) pe_int) pa_nil))) (fun _ _ => rfl))) pa_nil))))) pss_nil)
      (pss_one (ps_dput (hu_of hr) (pv 3) (pe_tup (pa_cons (pv 5) (pa_cons (pv 6) pa_nil))) (pv 7) rfl)))))))))
      (pss_cons (ps_set (i := 8) sc__law_tables.nd rfl (.inr rfl) (pe_op op_rep (pe_lst (pa_cons pe_int pa_nil)) (pe_op op_add (pv 2) pe_int)))
      (pss_cons (ps_for PassesOwn.never rfl (pi_range3 (by rfl) B.range (pa_cons (pe_op op_sub (pv 2) pe_int) (pa_cons (pe_un un_neg pe_int) (pa_cons (pe_un un_neg pe_int) pa_nil)))) (pg_name (i := 5) sc__law_tables.nd rfl (.inr rfl))
      (pss_one (ps_asg (pe_callB (kMax K rfl rfl) (by rfl) B.max bt_max (pa_cons (pe_lc (own := [("_law_end", 6)]) rfl sc__law_tables.nd (pi_range2 (by rfl) B.range (pa_cons (pe_op op_add (pv 5) pe_int) (pa_cons (pe_op op_add (pv 2) pe_int) pa_nil))) (blkOk_by (N := N__law_tables) (sc := defScope s__law_tables) (by decide +kernel)) (fun _ _ _ _ _ => (pg_name (i := 6) sc__law_tables.nd rfl (.inl rfl))) (fun _ _ _ _ _ => pts_nil) (fun _ _ _ _ _ => (pe_op op_add (pe_dget (hu_of hr) (pv 3) (pe_tup (pa_cons (pv 5) (pa_cons (pv 6) pa_nil))) (fun _ _ => rfl)) (pe_ix (kIxL K rfl) (pv 8) (pv 6) (fun _ _ => rfl))))) pa_nil)) (pg_sub (pv 8) (pv 5) set_list))))
      (pss_cons (ps_setLc (i := 9) (own := [("_law_begin", 5)]) rfl sc__law_tables.nd rfl rfl (sw_true rfl rfl rfl (by decide +kernel)) (pi_range1 (by rfl) B.range (pa_cons (pe_op op_add (pv 2) pe_int) pa_nil)) (blkOk_by (N := N__law_tables) (sc := defScope s__law_tables) (by decide +kernel)) (fun _ _ _ _ _ => (pg_name (i := 5) sc__law_tables.nd rfl (.inr rfl))) (fun _ _ _ _ _ => pts_nil) (fun _ _ _ _ _ => (pe_callTy (kTup K rfl) (by rfl) B.tuple bt_tuple (pa_cons (pe_lc (own := [("_law_end", 6)]) rfl sc__law_tables.nd (pi_range2 (by rfl) B.range (pa_cons (pv 5) (pa_cons (pe_op op_add (pv 2) pe_int) pa_nil))) (blkOk_by (N := N__law_tables) (sc := lcSc) (by decide +kernel)) (fun _ _ _ _ _ => (pg_name (i := 6) sc__law_tables.nd rfl (.inl rfl))) (fun _ _ _ _ _ => pts_nil) (fun _ _ _ _ _ => (pe_dget (hu_of hr) (pv 3) (pe_tup (pa_cons (pv 5) (pa_cons (pv 6) pa_nil))) (fun _ _ => rfl)))) pa_nil))))
      (pss_one (ps_ret (pe_tup (pa_cons (pe_callTy (kTup K rfl) (by rfl) B.tuple bt_tuple (pa_cons (pv 9) pa_nil)) (pa_cons (pe_callTy (kTup K rfl) (by rfl) B.tuple bt_tuple (pa_cons (pv 8) pa_nil)) pa_nil))))))))))), run_fn0 h ?_⟩)
  intro b o
  have hs : (b.ss.map iD).length = b.n := List.length_map _
  have n7 : b.n ≤ 7 := o.s12
  show Run K _ ([.dat b.P, .dat b.S, .nil, .nil, .nil, .nil, .nil, .nil, .nil, .nil] : Slots) _ (fun x => x = tabD (leastN b.n b.cp) (leastE b.n b.cp))
  refine run_set (Ev.is (ev_cb (ea_cons (ev_var rfl) ea_nil) cd_lenT) (by rw [hs])) ?_
  refine run_own ?_ ⟨trivial, trivial, trivial, trivial, trivial, trivial, trivial, trivial, trivial, trivial, trivial⟩
  let GS : Addr → (Nat → Nat → Option Int) → Nat → Slots := fun a f m => [.dat b.P, .dat b.S, .dat (.int (b.n : Int)), .own a (dTP f m), .nil, .nil, .nil, .nil, .nil, .nil]
  refine ro_seq (N1 := fun x => ∃ a, x = GS a (fun _ _ => none) 0) (ro_newT fun a _ => ⟨a, rfl⟩) ?_
  rintro x ⟨a, rfl⟩
  refine ro_seq (N1 := fun x => ∃ f m, x = GS a f m ∧ ∀ i j, i ≤ j → j ≤ b.n → f i j = some (tb b.cp i j : Int)) ?_ ?_
  · refine ro_for (vs := [4]) (fun L x => ∃ f m, x = GS a f m ∧ m ≤ 10 * L ∧ ∀ i j, i ≤ j → j ≤ b.n → j - i < L → f i j = some (tb b.cp i j : Int))
      (ei_r1 (n := (b.n : Int) + 1) (ea_cons (ev_op (ev_var rfl) ev_int rd_add) ea_nil) (by omega)) ⟨_, _, rfl, by omega, fun i j h1 h2 h3 => by omega⟩ ?_ ?_
    · rintro L ds' hL ⟨f, m, rfl, hm, hf⟩
      have hL : L ≤ b.n := by omega
      refine ⟨_, eg_name, ?_⟩
      let GL : (Nat → Nat → Option Int) → Nat → Slots := fun f m => [.dat b.P, .dat b.S, .dat (.int (b.n : Int)), .own a (dTP f m), .dat (.int (L : Int)), .nil, .nil, .nil, .nil, .nil]
      refine ro_impW [4] (N' := fun x => ∃ f m, x = GL f m ∧ m ≤ 10 * (L + 1) ∧ ∀ i j, i ≤ j → j ≤ b.n → j - i < L + 1 → f i j = some (tb b.cp i j : Int)) ?_ (fun x ⟨f, m, e, h⟩ => ⟨f, m, by rw [e]; rfl, h⟩)
      refine ro_for (vs := [5]) (fun s x => ∃ f m, x = GL f m ∧ m ≤ 10 * L + s ∧ ∀ i j, i ≤ j → j ≤ b.n → (j - i < L ∨ (j - i = L ∧ i < s)) → f i j = some (tb b.cp i j : Int))
        (ei_r1 (n := (b.n : Int) + 1 - (L : Int)) (ea_cons (ev_op (ev_op (ev_var rfl) ev_int rd_add) (ev_var rfl) rd_sub) ea_nil) (by omega)) ⟨f, m, rfl, by omega, fun i j h1 h2 h3 => hf i j h1 h2 (by omega)⟩ ?_ ?_
      · rintro s ds' hsn ⟨f, m, rfl, hm, hf⟩
        have hsn : s + L ≤ b.n := by omega
        refine ⟨_, eg_name, ?_⟩
        let GE : Int → Slots := fun v => [.dat b.P, .dat b.S, .dat (.int (b.n : Int)), .own a (dTP f m), .dat (.int (L : Int)), .dat (.int (s : Int)), .dat (.int ((s + L : Nat) : Int)), .dat (.int v), .nil, .nil]
        refine ro_set (d := .int ((s + L : Nat) : Int)) (Ev.is (ev_op (ev_var rfl) (ev_var rfl) rd_add) (by congr 1)) ?_
        refine ro_set (d := .int 0) ev_int ?_
        refine ro_seq (N1 := fun x => x = GE (if L = 0 then 0 else ((max (tb b.cp (s + 1) (s + L)) (tb b.cp s (s + L - 1)) : Nat) : Int))) ?_ ?_
        · refine ro_if (b := decide (0 < L)) (EvB.is (et_test (ev_op (ev_var rfl) ev_int rd_gt)) (dlt 0 L)) (fun h => ?_) (fun h => ?_)
          · have h := of_decide_eq_true h
            refine ro_of (run_asg (d := .int ((max (tb b.cp (s + 1) (s + L)) (tb b.cp s (s + L - 1)) : Nat) : Int)) (Ev.is (ev_cb (ea_cons (ev_dgetT (x := s + 1) (y := s + L) rfl (ev_op (ev_var rfl) ev_int rd_add) (ev_var rfl) (by omega) rfl (hf (s + 1) (s + L) (by omega) hsn (by omega)))
              (ea_cons (ev_dgetT (x := s) (y := s + L - 1) rfl (ev_var rfl) (ev_op (ev_var rfl) ev_int rd_sub) rfl (by omega) (hf s (s + L - 1) (by omega) (by omega) (by omega))) ea_nil)) cd_max2) (by congr 1; omega)) (by rw [if_neg (by omega)]; rfl))
          · have h := of_decide_eq_false h
            exact ro_next (by rw [if_pos (by omega)]; rfl)
        · rintro x rfl
          refine ro_seq (N1 := fun x => x = GE (tb b.cp s (s + L) : Int)) ?_ ?_
          · refine ro_if (b := decide (1 < L) && b.cp s (s + L - 1)) ?_ (fun h => ?_) (fun h => ?_)
            · by_cases h1 : 1 < L
              · refine EvB.is (et_and (b := b.cp s (s + L - 1)) (et_test (ev_op (ev_var rfl) ev_int rd_gt)) fun _ => EvB.is (et_test (ev_op (ev_ctr (b := b) (i := s) o (ev_var rfl) (ev_var rfl) (ev_var rfl) rfl (by omega)) (ev_mark (b := b) (i := s + L - 1) (ev_var rfl) (ev_op (ev_var rfl) ev_int rd_sub) (by omega) (by omega)) rd_eqI)) (cpD b _ _)) ?_
                rw [show decide ((1 : Int) < (L : Int)) = decide (1 < L) from dlt 1 L]
              · refine EvB.is (et_and_f (EvB.is (et_test (ev_op (ev_var rfl) ev_int rd_gt)) (decide_eq_false (by omega)))) ?_
                rw [decide_eq_false h1]
                rfl
            · rw [Bool.and_eq_true, decide_eq_true_iff] at h
              refine ro_of (run_asg (d := .int (tb b.cp s (s + L) : Int)) (Ev.is (ev_cb (ea_cons (ev_var rfl) (ea_cons (ev_op ev_int (ev_dgetT (x := s + 1) (y := s + L - 1) rfl (ev_op (ev_var rfl) ev_int rd_add) (ev_op (ev_var rfl) ev_int rd_sub) (by omega) (by omega) (hf (s + 1) (s + L - 1) (by omega) (by omega) (by omega))) rd_add) ea_nil)) cd_max2) ?_) rfl)
              rw [if_neg (by omega), tb_eq (i := s) (j := s + L) (by omega), if_pos h.2]
              congr 1
              omega
            · refine ro_next ?_
              congr 1
              by_cases hL0 : L = 0
              · subst hL0
                rw [if_pos rfl, show s + 0 = s by omega, tb_self]
                rfl
              · rw [if_neg hL0]
                by_cases hL1 : L = 1
                · subst hL1
                  rw [tb_one, tb_self, show s + 1 - 1 = s by omega, tb_self]
                  rfl
                · have hc : ¬ b.cp s (s + L - 1) = true := fun z => by rw [z, decide_eq_true (by omega)] at h; cases h
                  rw [tb_eq (i := s) (j := s + L) (by omega), if_neg hc]
          · rintro x rfl
            refine ro_impW [5, 6, 7] (N' := fun x => ∃ f' m', x = [.dat b.P, .dat b.S, .dat (.int (b.n : Int)), .own a (dTP f' m'), .dat (.int (L : Int)), .dat (.int (s : Int)), .dat (.int ((s + L : Nat) : Int)), .dat (.int (tb b.cp s (s + L) : Int)), .nil, .nil] ∧ m' ≤ 10 * L + (s + 1) ∧ ∀ i j, i ≤ j → j ≤ b.n → (j - i < L ∨ (j - i = L ∧ i < s + 1)) → f' i j = some (tb b.cp i j : Int)) ?_ (fun x ⟨f', m', e, h⟩ => ⟨f', m', by rw [e]; rfl, h⟩)
            refine ro_dputT (i := 3) (a := a) (x := s) (y := s + L) rfl (ev_var rfl) (ev_var rfl) (ev_var rfl) rfl rfl (by omega) ⟨trivial, trivial, trivial, trivial, trivial, trivial, trivial, trivial, trivial, trivial, trivial⟩ ⟨_, _, rfl, by omega, fun i j h1 h2 h3 => ?_⟩
            unfold updO
            by_cases h : i = s ∧ j = s + L
            · obtain ⟨rfl, rfl⟩ := h
              rw [if_pos ⟨rfl, rfl⟩]
            · rw [if_neg h]
              refine hf i j h1 h2 ?_
              rcases h3 with h3 | ⟨h3, h4⟩
              · exact .inl h3
              · exact .inr ⟨h3, by
                  rcases Nat.lt_or_ge i s with q | q
                  · exact q
                  · exact absurd ⟨by omega, by omega⟩ h⟩
      · rintro ds' ⟨f, m, e, hm, hf⟩
        exact ⟨f, m, e, by omega, fun i j h1 h2 h3 => hf i j h1 h2 (by omega)⟩
    · rintro ds' ⟨f, m, e, hm, hf⟩
      exact ⟨f, m, e, fun i j h1 h2 => hf i j h1 h2 (by omega)⟩
  · rintro x ⟨f, m, rfl, hf⟩
    let ES : Addr → (Nat → Int) → Slots := fun c g => [.dat b.P, .dat b.S, .dat (.int (b.n : Int)), .own a (dTP f m), .nil, .nil, .nil, .nil, .own c (lstP K (fnD (b.n + 1) g)), .nil]
    refine ro_seq (N1 := fun x => ∃ c, c ∉ (dTP f m).foot a ∧ x = ES c fun _ => 0) ?_ ?_
    · refine ro_newL (new_rep (m := b.n + 1) (Ev.is (ev_op (ev_var rfl) ev_int rd_add) (by congr 1)) (by omega)) fun c aw => ⟨c, aw.2.2.2.1, by rw [zerosD_fn]; rfl⟩
    rintro x ⟨c, hc, rfl⟩
    refine ro_seq (N1 := fun x => ∃ g, x = ES c g ∧ ∀ j, j ≤ b.n → g j = enF b j) ?_ ?_
    · refine ro_for (vs := [5]) (fun i x => ∃ g, x = ES c g ∧ ∀ j, b.n - i ≤ j → j ≤ b.n → g j = enF b j) (ei_down (n := b.n) (ea_cons (ev_op (ev_var rfl) ev_int rd_sub) (ea_cons (ev_neg ev_int) (ea_cons (ev_neg ev_int) ea_nil))) (by omega)) ⟨_, rfl, fun j h1 h2 => ?_⟩ ?_ ?_
      · have : j = b.n := by omega
        subst this
        unfold enF
        rw [en_last]
        rfl
      · rintro i ds' hi ⟨g, rfl, hg⟩
        refine ⟨_, eg_name, ?_⟩
        obtain ⟨s, hs⟩ : ∃ s, s + 1 + i = b.n := ⟨b.n - 1 - i, by omega⟩
        have es : (b.n : Int) - 1 - (i : Nat) = (s : Int) := by omega
        rw [es]
        refine ro_impW [5] (N' := fun x => ∃ g, x = [.dat b.P, .dat b.S, .dat (.int (b.n : Int)), .own a (dTP f m), .nil, .dat (.int (s : Int)), .nil, .nil, .own c (lstP K (fnD (b.n + 1) g)), .nil] ∧ ∀ j, b.n - (i + 1) ≤ j → j ≤ b.n → g j = enF b j) ?_ (fun x ⟨g, e, h⟩ => ⟨g, by rw [e]; rfl, h⟩)
        refine ro_setL (i := 8) (a := c) (z := (s : Int)) (j := s) (P := fun d => d = .int (enF b s)) rfl ?_ (ev_var rfl) ?_ ⟨trivial, trivial, trivial, hc, trivial, trivial, trivial, trivial, trivial, trivial, trivial⟩ ?_
        · let ns : List Int := (List.range (b.n - s)).map fun m => ((tb b.cp s (s + 1 + m) + en b.n b.cp (s + 1 + m) : Nat) : Int)
          have lst : Ev K (tLc (iRng2 (tCons (tOp (rI0 fun i j => .int (i + j)) (tVar 5) (tC (.int 1))) (tCons (tOp (rI0 fun i j => .int (i + j)) (tVar 2) (tC (.int 1))) tNil))) (gName 6) tYes (tOp (rI0 fun i j => .int (i + j)) (tDGet (tVar 3) (tTup (tCons (tVar 5) (tCons (tVar 6) tNil)))) (tOp (rIxL K) (tVar 8) (tVar 6))) [6])
              [.dat b.P, .dat b.S, .dat (.int (b.n : Int)), .own a (dTP f m), .nil, .dat (.int (s : Int)), .nil, .nil, .own c (lstP K (fnD (b.n + 1) g)), .nil] (.list (ns.map .int)) := by
            refine Ev.is (ev_map (h := fun m => .int ((tb b.cp s (s + 1 + m) + en b.n b.cp (s + 1 + m) : Nat) : Int)) (ei_r2 (lo := (s : Int) + 1) (hi := (b.n : Int) + 1) (ea_cons (ev_op (ev_var rfl) ev_int rd_add) (ea_cons (ev_op (ev_var rfl) ev_int rd_add) ea_nil)) (by omega) (by omega)) (by omega) fun m hm => ⟨_, eg_name, ?_⟩) ?_
            · refine Ev.is (ev_op (ev_dgetT (x := s) (y := s + 1 + m) (a := a) (i := 3) rfl (ev_var rfl) (ev_var rfl) rfl (by omega) (hf s (s + 1 + m) (by omega) (by omega))) (ev_ownIx (i := 8) (a := c) rfl (ev_var rfl) (fnD_at (i := s + 1 + m) (by omega) (by omega))) rd_add) ?_
              rw [hg (s + 1 + m) (by omega) (by omega)]
              unfold enF
              congr 1
            · show PyData.list _ = .list (List.map _ (List.map _ _))
              rw [List.map_map, show ((b.n : Int) + 1 - ((s : Int) + 1)).toNat = b.n - s by omega]
              rfl
          refine ev_cbP (ea_cons lst ea_nil) fun xs exs => ?_
          subst exs
          have hne : ns ≠ [] := by
            intro e
            have := congrArg List.length e
            simp [ns] at this
            omega
          refine fun p B H vs he w Q k => cd_max hne p B H vs he w Q fun d v B' H' ⟨m, hm, hall, e⟩ hd g' => k d v B' H' ?_ hd g'
          subst e
          obtain ⟨q, hq, eq⟩ := List.mem_map.mp hm
          have e2 : (tb b.cp s (s + 1 + q) + en b.n b.cp (s + 1 + q)) = en b.n b.cp s := by
            rw [en_eq (show s < b.n by omega)]
            refine maxl_is (List.mem_map.mpr ⟨q, hq, rfl⟩) fun y hy => ?_
            obtain ⟨z, hz, ez⟩ := List.mem_map.mp hy
            have := hall _ (List.mem_map.mpr ⟨z, hz, rfl⟩)
            omega
          show PyData.int m = .int (enF b s)
          unfold enF
          rw [← eq, e2]
        · unfold ixN fnD
          rw [List.length_map, List.length_range, if_pos (by omega), if_pos (by omega), Int.toNat_natCast]
        · rintro d rfl
          rw [fnD_set]
          refine ⟨_, rfl, fun j h1 h2 => ?_⟩
          unfold updF
          by_cases h : j = s
          · rw [if_pos h, h]
          · rw [if_neg h, hg j (by omega) h2]
      · rintro ds' ⟨g, rfl, hg⟩
        exact ⟨g, rfl, fun j hj => hg j (by omega) hj⟩
    · rintro x ⟨g, rfl, hg⟩
      refine ro_freeze (i := 8) (a := c) rfl ⟨trivial, trivial, trivial, hc, trivial, trivial, trivial, trivial, trivial, trivial, trivial⟩ ?_
      refine ro_set (d := .list ((List.range (b.n + 1)).map fun i => .tuple ((List.range (b.n + 1 - i)).map fun d => .int ((tb b.cp i (i + d) : Nat) : Int)))) (Ev.is (ev_map (h := fun i => .tuple ((List.range (b.n + 1 - i)).map fun d => .int ((tb b.cp i (i + d) : Nat) : Int))) (ei_r1 (n := (b.n : Int) + 1) (ea_cons (ev_op (ev_var rfl) ev_int rd_add) ea_nil) (by omega)) (by omega) fun i hi => ⟨_, eg_name, ?_⟩) (by congr 1)) ?_
      · refine Ev.is (ev_cb (ea_cons (ev_map (h := fun d => .int ((tb b.cp i (i + d) : Nat) : Int)) (ei_r2 (lo := (i : Int)) (hi := (b.n : Int) + 1) (ea_cons (ev_var rfl) (ea_cons (ev_op (ev_var rfl) ev_int rd_add) ea_nil)) (by omega) (by omega)) (by omega) fun d hd => ⟨_, eg_name, ev_dgetT (x := i) (y := i + d) (a := a) (i := 3) rfl (ev_var rfl) (ev_var rfl) rfl (by omega) (hf i (i + d) (by omega) (by omega))⟩) ea_nil) cd_tupL) ?_
        rw [show ((b.n : Int) + 1 - (i : Int)).toNat = b.n + 1 - i by omega]
      · refine ro_ret (Ev.is (ev_tup (l := [_, _]) (ea_cons (ev_cb (ea_cons (ev_var rfl) ea_nil) cd_tupL) (ea_cons (ev_cb (ea_cons (ev_var rfl) ea_nil) cd_tupL) ea_nil)) (by show 2 ≤ _; decide)) ?_)
        show PyData.tuple [_, _] = .tuple [_, _]
        rw [fnD_congr fun i hi => hg i (by omega), least_ends]
        congr 2
        exact least_rows2 b
end
end K47
/-! K47: the stream's defs. -/
namespace K47
open PySem PySem.Spec PyProof.Rows L2
local macro_rules | `(tactic| walk_at "lvl") => `(tactic| first | decide | omega)
local macro_rules | `(tactic| walk_at "at") => `(tactic| first | rfl | assumption | exact atN (by assumption))
abbrev spNext (K : PySem.W.Frag) : Sp := spI K (ι := Int) (fun m => [.strm, .dat (.int m)]) (fun m => 0 < m ∧ m < 1000000) (fun m d => ∃ k : Nat, d = .int (k : Int) ∧ (k : Int) < m)
theorem cl_next {K : PySem.W.Frag} {ds : Slots} {i : Nat} {tb : TE} {E : XK} {m : Int} (h : ds[i]? = some .strm) (hb : Ev K tb ds (.int m)) (hm : 0 < m ∧ m < 1000000) : EvP K (tCall (spNext K) [] E (tCons (tVar i) (tCons tb tNil))) ds (fun d => ∃ k : Nat, d = .int (k : Int) ∧ (k : Int) < m) :=
  ev_call m (ea_strm h (ea_cons hb ea_nil) fun xs e => by rw [e]) hm fun d h => h
/-- the stream that is made: at a, the script's copy at b -/
def spStream (K : PySem.W.Frag) : Sp := fun vs H Q _ => ∃ (x : Addr) (ns : List Int), vs = [.ref x] ∧ SqL K H x (ns.map V.int) ∧ ns.length ≤ 63 ∧ ∀ a b, H b = none → b ≠ a → H a = none → Q (.ref a) (upd (upd H b (.lst (ns.map V.int))) a (.lst [.ref b, .int 0, .int 0]))
section
variable {P : Program} {w : World} {K : PySem.W.Frag} {mg : Str → Option Value} {base : Heap}
theorem ok__law_stream (B : Blt mg) (D : DefAt K mg "_law_stream" "_law_stream" s__law_stream p__law_stream) : FnOk P w K mg base CX0 1 D.f D.fd p__law_stream (spStream K) := by
  refine D.F.ok sc__law_stream (fun vs H Q E h => by obtain ⟨x, ns, rfl, _⟩ := h; rfl) (fun cdv A outer s H vs Q E hr h => ⟨_, (pss_one (ps_ret (pe_lst (pa_cons (pe_callTy (kList K rfl) (by rfl) B.list bt_list (pa_cons (pv 0) pa_nil)) (pa_cons pe_int (pa_cons pe_int pa_nil)))))), ?_⟩)
  obtain ⟨x, ns, rfl, hs, hl, q⟩ := h
  refine ⟨_, rfl, x, ns.map V.int, rfl, .inl hs, fun b hb => ⟨by show 3 ≤ _; decide, fun a ha => ?_⟩⟩
  have hab : b ≠ a := fun z => by rw [z, upd_same] at ha; cases ha
  exact q a b hb hab (by rw [upd_ne hab.symm] at ha; exact ha)
theorem ok__law_next (B : Blt mg) (D : DefAt K mg "_law_next" "_law_next" s__law_next p__law_next) : FnOk P w K mg base CX0 1 D.f D.fd p__law_next (spNext K) := by
  refine D.F.ok sc__law_next (fun vs H Q E h => spI_len h (fun _ => rfl)) (fun cdv A outer s H vs Q E hr h => ⟨_, (pss_cons (ps_if (pt_cmpR op_eq (pe_ix (kIxL K rfl) (pv 0) pe_int (fun _ _ => rfl)) pe_int (nomark _)) (pss_cons (ps_set (i := 2) sc__law_next.nd rfl (.inl rfl) (pe_ix (kIxL K rfl) (pv 0) pe_int (fun _ _ => rfl)))
      (pss_cons (ps_set (i := 3) sc__law_next.nd rfl (.inl rfl) (pe_op op_add pe_int (pv 2)))
      (pss_cons (ps_if (pt_cmpR op_lt (pv 2) (pe_callB (kLen K rfl) (by rfl) B.len bt_len (pa_cons (pe_ix (kIxL K rfl) (pv 0) pe_int (fun _ _ => rfl)) pa_nil)) (nomark _)) (pss_one (ps_set (i := 3) sc__law_next.nd rfl (.inl rfl) (pe_callB cr_abs (by rfl) B.abs bt_abs (pa_cons (pe_ix (kIxL K rfl) (pe_ix (kIxL K rfl) (pv 0) pe_int (fun _ _ => rfl)) (pv 2) (fun _ _ => rfl)) pa_nil)))) pss_nil)
      (pss_cons (ps_if (pt_cmpR op_lt (pv 3) (pe_op op_pow pe_int pe_int) (nomark _)) (pss_cons (ps_set (i := 3) sc__law_next.nd rfl (.inl rfl) (pe_op op_modN (pe_callTy cr_int (by rfl) B.int bt_int (pa_cons (pe_op op_add (pe_op op_add (pe_op op_mul (pv 3) pe_int) (pe_op op_mul (pv 2) pe_int)) pe_int) pa_nil)) pe_int))
      (pss_one (ps_set (i := 3) sc__law_next.nd rfl (.inl rfl) (pe_op op_add (pe_op op_mul (pe_op op_modN (pe_callTy cr_int (by rfl) B.int bt_int (pa_cons (pe_op op_add (pe_op op_mul (pv 3) pe_int) pe_int) pa_nil)) pe_int) pe_int) (pv 3))))) pss_nil)
      (pss_cons (ps_asg (pv 3) (pg_sub (pv 0) pe_int set_list))
      (pss_one (ps_asg (pe_op op_add (pv 2) pe_int) (pg_sub (pv 0) pe_int set_list)))))))) pss_nil)
      (pss_cons (ps_set (i := 4) sc__law_next.nd rfl (.inl rfl) (pe_op op_modN (pe_callTy cr_int (by rfl) B.int bt_int (pa_cons (pe_ix (kIxL K rfl) (pv 0) pe_int (fun _ _ => rfl)) pa_nil)) (pv 1)))
      (pss_cons (ps_asg (pe_op op_fdivN (pe_ix (kIxL K rfl) (pv 0) pe_int (fun _ _ => rfl)) (pv 1)) (pg_sub (pv 0) pe_int set_list))
      (pss_one (ps_ret (pv 4)))))), run_fn0 h ?_⟩)
  rintro m ⟨h1, h2⟩
  have h1 : 0 < m := h1
  have h2 : m < 1000000 := h2
  show Run K _ ([.strm, .dat (.int m), .nil, .nil, .nil] : Slots) _ (fun d => ∃ k : Nat, d = .int (k : Int) ∧ (k : Int) < m)
  refine run_seq (N1 := fun x => ∃ s2 s3, x = [.strm, .dat (.int m), s2, s3, .nil]) ?_ ?_
  · refine run_ifP (PB := fun _ => True) (et_testP (ev_opP (ev_s1 rfl) ev_int fun d1 d2 ⟨c, e1⟩ e2 => by
      subst e1 e2
      exact fun p B H x y hx hy w Q k => rd_eqI p B H x y hx hy w Q fun d v B' H' q hd g => k d v B' H' ⟨_, q, trivial⟩ hd g)) (fun _ => ?_) (fun _ => run_next ⟨_, _, rfl⟩)
    refine run_setP (ev_s2 rfl) fun d ⟨k, e⟩ => ?_
    subst e
    refine run_set (ev_op ev_int (ev_var rfl) rd_add) ?_
    refine run_seq (N1 := fun x => ∃ c : Int, x = [.strm, .dat (.int m), .dat (.int (k : Int)), .dat (.int c), .nil]) (run_scr (i := 0) (j := 2) (m := 3) (n := k) rfl rfl (fun c => ⟨c, rfl⟩) ⟨_, rfl⟩) ?_
    rintro x ⟨c, rfl⟩
    refine run_seq (N1 := fun x => ∃ c : Int, x = [.strm, .dat (.int m), .dat (.int (k : Int)), .dat (.int c), .nil]) ?_ ?_
    · refine run_if (et_test (ev_op (ev_var rfl) (ev_op ev_int ev_int (rd_pow ⟨by decide, by decide, by decide⟩)) rd_lt)) (fun _ => ?_) (fun _ => run_next ⟨_, rfl⟩)
      refine run_set (ev_op (ev_cb (ea_cons (ev_op (ev_op (ev_op (ev_var rfl) ev_int (rd_mul (.inr (by decide)))) (ev_op (ev_var rfl) ev_int (rd_mul (.inr (by decide)))) rd_add) ev_int rd_add) ea_nil) cd_int1) ev_int (rd_modN (by decide))) ?_
      exact run_asg (ev_op (ev_op (ev_op (ev_cb (ea_cons (ev_op (ev_op (ev_var rfl) ev_int (rd_mul (.inr (by decide)))) ev_int rd_add) ea_nil) cd_int1) ev_int (rd_modN (by decide))) ev_int (rd_mul (.inr (by decide)))) (ev_var rfl) rd_add) ⟨_, rfl⟩
    · rintro x ⟨c, rfl⟩
      refine run_seq (N1 := fun x => x = [.strm, .dat (.int m), .dat (.int (k : Int)), .dat (.int c), .nil]) (run_s1 (i := 0) rfl (Ev.to (ev_var rfl) ⟨_, rfl⟩) rfl) ?_
      rintro x rfl
      exact run_s2 (i := 0) rfl (Ev.to (ev_op (ev_var rfl) ev_int rd_add) ⟨k + 1, by congr 1⟩) ⟨_, _, rfl⟩
  · rintro x ⟨s2, s3, rfl⟩
    refine run_setP (P := fun d => ∃ k : Nat, d = .int (k : Int) ∧ (k : Int) < m) (ev_opP (P1 := fun d => ∃ c : Int, d = .int c) (P2 := fun d => d = .int m) (ev_cbP (PA := fun xs => ∃ c : Int, xs = [.dat (.int c)]) (ea_consP (ev_s1 rfl) ea_nil fun d xs ⟨c, e1⟩ e2 => ⟨c, by rw [e1, e2]⟩) fun xs ⟨c, e⟩ => by
      subst e
      exact fun p B H vs he w Q k => cd_int1 p B H vs he w Q fun d v B' H' q hd g => k d v B' H' ⟨c, q⟩ hd g) (ev_var rfl) fun d1 d2 ⟨c, e1⟩ e2 => ?_) fun d ⟨k, e, hk⟩ => ?_
    · subst e1 e2
      refine fun p B H x y hx hy w Q kk => rd_modN (show m ≠ 0 by omega) p B H x y hx hy w Q fun d v B' H' q hd g => kk d v B' H' ⟨(c.fmod m).toNat, ?_, ?_⟩ hd g
      · rw [q]
        have := Int.fmod_nonneg_of_pos c h1
        congr 1
        omega
      · have := Int.fmod_nonneg_of_pos c h1
        have := Int.fmod_lt_of_pos c h1
        omega
    · subst e
      refine run_seq (N1 := fun x => x = [.strm, .dat (.int m), s2, s3, .dat (.int (k : Int))]) (run_s1 (i := 0) rfl (ev_opP (P1 := fun d => ∃ c : Int, d = .int c) (P2 := fun d => d = .int m) (ev_s1 rfl) (ev_var rfl) fun d1 d2 ⟨c, e1⟩ e2 => ?_) rfl) ?_
      · subst e1 e2
        exact fun p B H x y hx hy w Q kk => rd_fdivN ⟨by omega, by omega⟩ p B H x y hx hy w Q fun d v B' H' q hd g => kk d v B' H' ⟨_, q⟩ hd g
      · rintro x rfl
        exact run_ret (Ev.to (ev_var rfl) ⟨k, rfl, hk⟩)
end
end K47
/-! K47: a paper, a sequence, drawn. -/
namespace K47
open PySem PySem.Spec PyProof.Rows L2
local macro_rules | `(tactic| walk_at "lvl") => `(tactic| first | decide | omega)
local macro_rules | `(tactic| walk_at "at") => `(tactic| first | rfl | assumption | exact atN (by assumption))
structure Paper (pp : List Nat) : Prop where
  p1 : 1 ≤ pp.length
  p6 : pp.length ≤ 6
  pm : ∀ x ∈ pp, x < pp.length
  inv : ∀ i, i < pp.length → pp.getD (pp.getD i 0) 0 = i
structure PaperInv (M : Nat) (L pp : List Nat) : Prop where
  nd : L.Nodup
  left : ∀ x ∈ L, x < M ∧ pp.getD x 0 = x
  len : pp.length = M
  inv : ∀ i, i < M → pp.getD i 0 < M ∧ pp.getD (pp.getD i 0) 0 = i
theorem getD_range (M i : Nat) (h : i < M) : (List.range M).getD i 0 = i := by
  rw [List.getD_eq_getElem?_getD, List.getElem?_range h]
  rfl
theorem PaperInv.start (M : Nat) : PaperInv M (List.range M) (List.range M) :=
  ⟨List.nodup_range, fun x hx => ⟨List.mem_range.mp hx, getD_range M x (List.mem_range.mp hx)⟩, List.length_range, fun i hi => by rw [getD_range M i hi]; exact ⟨hi, getD_range M i hi⟩⟩
theorem getD_set2 {l : List Nat} {x y i : Nat} (hx : x < l.length) : (l.set x y).getD i 0 = if i = x then y else l.getD i 0 := by
  rw [List.getD_eq_getElem?_getD, List.getD_eq_getElem?_getD]
  by_cases h : i = x
  · subst h
    rw [List.getElem?_set_self hx, if_pos rfl]
    rfl
  · rw [List.getElem?_set_ne (Ne.symm h), if_neg h]
theorem PaperInv.step {M : Nat} {L pp : List Nat} (I : PaperInv M L pp) {one other : Nat} (h1 : one ∈ L) (h2 : other ∈ L) (hne : other ≠ one) {L' : List Nat} (nd : L'.Nodup) (sub : ∀ x ∈ L', x ∈ L ∧ x ≠ one ∧ x ≠ other) : PaperInv M L' ((pp.set one other).set other one) := by
  obtain ⟨a1, a2⟩ := I.left one h1
  obtain ⟨b1, b2⟩ := I.left other h2
  have g : ∀ i, ((pp.set one other).set other one).getD i 0 = if i = other then one else if i = one then other else pp.getD i 0 := fun i => by
    rw [getD_set2 (by rw [List.length_set, I.len]; exact b1), getD_set2 (by rw [I.len]; exact a1)]
  refine ⟨nd, fun x hx => ?_, by rw [List.length_set, List.length_set, I.len], fun i hi => ?_⟩
  · obtain ⟨s1, s2, s3⟩ := sub x hx
    rw [g, if_neg s3, if_neg s2]
    exact I.left x s1
  · rw [g i]
    by_cases q1 : i = other
    · rw [if_pos q1, g, if_neg (Ne.symm hne), if_pos rfl]
      exact ⟨a1, q1.symm⟩
    · rw [if_neg q1]
      by_cases q2 : i = one
      · rw [if_pos q2, g, if_pos rfl]
        exact ⟨b1, q2.symm⟩
      · rw [if_neg q2, g]
        obtain ⟨c1, c2⟩ := I.inv i hi
        have n1 : pp.getD i 0 ≠ other := fun e => q1 (by rw [e, b2] at c2; exact c2.symm)
        have n2 : pp.getD i 0 ≠ one := fun e => q2 (by rw [e, a2] at c2; exact c2.symm)
        rw [if_neg n1, if_neg n2]
        exact ⟨c1, c2⟩
theorem PaperInv.paper {M : Nat} {L pp : List Nat} (I : PaperInv M L pp) (h1 : 1 ≤ M) (h6 : M ≤ 6) : Paper pp := by
  refine ⟨by rw [I.len]; exact h1, by rw [I.len]; exact h6, fun x hx => ?_, fun i hi => (I.inv i (by rw [← I.len]; exact hi)).2⟩
  obtain ⟨i, hi, e⟩ := List.getElem_of_mem hx
  have := (I.inv i (by rw [← I.len]; exact hi)).1
  rw [List.getD_eq_getElem?_getD, List.getElem?_eq_getElem hi] at this
  have e' : (some pp[i]).getD 0 = x := e
  rw [e', ← I.len] at this
  exact this
theorem erase_facts {L : List Nat} {j : Nat} (nd : L.Nodup) (hj : j < L.length) : (L.eraseIdx j).Nodup ∧ ∀ x ∈ L.eraseIdx j, x ∈ L ∧ x ≠ L[j] := by
  refine ⟨nd.sublist (List.eraseIdx_sublist _ _), fun x hx => ⟨(List.eraseIdx_sublist _ _).mem hx, fun e => ?_⟩⟩
  obtain ⟨i, hi, ne, e2⟩ := List.mem_eraseIdx_iff_getElem.mp hx
  exact ne ((List.getElem_inj nd).mp (e2.trans e))
theorem map_erase (L : List Nat) (j : Nat) : (L.map iD).eraseIdx j = (L.eraseIdx j).map iD := by
  induction L generalizing j with
  | nil => rfl
  | cons x L ih =>
    cases j with
    | zero => rfl
    | succ j => show iD x :: (L.map iD).eraseIdx j = iD x :: (L.eraseIdx j).map iD; rw [ih]
theorem set_iD (L : List Nat) (j x : Nat) : (L.map iD).set j (iD x) = (L.set j x).map iD := List.map_set.symm
abbrev spPaperD (K : PySem.W.Frag) : Sp := spI K (ι := Nat) (fun m => [.strm, .dat (.int (m : Int))]) (fun m => 1 ≤ m ∧ m ≤ 6) (fun m d => ∃ pp, d = encN pp ∧ Paper pp)
abbrev spSeqD (K : PySem.W.Frag) : Sp := spI K (ι := List Nat) (fun pp => [.strm, .dat (encN pp), .dat (.int 7)]) Paper (fun pp d => ∃ ss, d = encN ss ∧ ss.length ≤ 7 ∧ ∀ x ∈ ss, x < pp.length)
section
variable {P : Program} {w : World} {K : PySem.W.Frag} {mg : Str → Option Value} {base : Heap}
theorem ok__law_paper (B : Blt mg) (D : DefAt K mg "_law_paper" "_law_paper" s__law_paper p__law_paper) (D__law_next : DefAt K mg "_law_next" "_law_next" s__law_next p__law_next) (G__law_next : FnOk P w K mg base CX0 1 D__law_next.f D__law_next.fd p__law_next (spNext K)) :
    FnOk P w K mg base CX0 2 D.f D.fd p__law_paper (spPaperD K) := by
  refine D.F.ok sc__law_paper (fun vs H Q E h => spI_len h (fun _ => rfl)) (fun cdv A outer s H vs Q E hr h => ⟨_, (pss_cons (ps_set (i := 2) sc__law_paper.nd rfl (.inl rfl) (pe_op op_add pe_int (pe_call G__law_next (hr.mono (by walk_at "lvl")) (by rfl) D__law_next.m D__law_next.F.kp D__law_next.b .nil pass0 (pa_cons (pv 0) (pa_cons (pv 1) pa_nil)))))
      (pss_cons (ps_set (i := 3) sc__law_paper.nd rfl (.inl rfl) (pe_listRg rfl (by rfl) B.list (prg_1 (by rfl) B.range (pv 2))))
      (pss_cons (ps_set (i := 4) sc__law_paper.nd rfl (.inl rfl) (pe_listRg rfl (by rfl) B.list (prg_1 (by rfl) B.range (pv 2))))
      (pss_cons (ps_for PassesOwn.never rfl (pi_range1 (by rfl) B.range (pa_cons (pe_call G__law_next (hr.mono (by walk_at "lvl")) (by rfl) D__law_next.m D__law_next.F.kp D__law_next.b .nil pass0 (pa_cons (pv 0) (pa_cons (pv 2) pa_nil))) pa_nil)) (pg_name (i := 5) sc__law_paper.nd rfl (.inl rfl))
      (pss_one (ps_if (pt_cmpR op_gt (pe_callB (kLen K rfl) (by rfl) B.len bt_len (pa_cons (pv 3) pa_nil)) pe_int (nomark _)) (pss_cons (ps_set (i := 6) sc__law_paper.nd rfl (.inl rfl) (pe_bm PySem.F.plainAttrs_list PySem.F.slot_list_pop PySem.F.type_list_pop mt_popAt (pv 3) (pa_cons (pe_call G__law_next (hr.mono (by walk_at "lvl")) (by rfl) D__law_next.m D__law_next.F.kp D__law_next.b .nil pass0 (pa_cons (pv 0) (pa_cons (pe_callB (kLen K rfl) (by rfl) B.len bt_len (pa_cons (pv 3) pa_nil)) pa_nil))) pa_nil)))
      (pss_cons (ps_set (i := 7) sc__law_paper.nd rfl (.inl rfl) (pe_bm PySem.F.plainAttrs_list PySem.F.slot_list_pop PySem.F.type_list_pop mt_popAt (pv 3) (pa_cons (pe_call G__law_next (hr.mono (by walk_at "lvl")) (by rfl) D__law_next.m D__law_next.F.kp D__law_next.b .nil pass0 (pa_cons (pv 0) (pa_cons (pe_callB (kLen K rfl) (by rfl) B.len bt_len (pa_cons (pv 3) pa_nil)) pa_nil))) pa_nil)))
      (pss_cons (ps_asg (pv 7) (pg_sub (pv 4) (pv 6) set_list))
      (pss_one (ps_asg (pv 6) (pg_sub (pv 4) (pv 7) set_list)))))) pss_nil)))
      (pss_one (ps_ret (pe_callTy (kTup K rfl) (by rfl) B.tuple bt_tuple (pa_cons (pv 4) pa_nil)))))))), run_fn0 h ?_⟩)
  rintro m ⟨h1, h6⟩
  have h1 : 1 ≤ m := h1
  have h6 : m ≤ 6 := h6
  show Run K _ ([.strm, .dat (.int (m : Int)), .nil, .nil, .nil, .nil, .nil, .nil] : Slots) _ (fun d => ∃ pp, d = encN pp ∧ Paper pp)
  refine run_setP (P := fun d => ∃ k : Nat, d = .int ((k + 1 : Nat) : Int) ∧ k < m) (ev_opP (P1 := fun d => d = .int 1) ev_int (cl_next rfl (ev_var rfl) (by omega)) fun d1 d2 e1 ⟨k, e2, hk⟩ => ?_) fun d ⟨k, e, hk⟩ => ?_
  · subst e1 e2
    exact fun p B H x y hx hy w Q kk => rd_add p B H x y hx hy w Q fun d v B' H' q hd g => kk d v B' H' ⟨k, by rw [q]; congr 1; omega, by omega⟩ hd g
  subst e
  generalize hM : k + 1 = M
  refine run_own ?_ ⟨trivial, trivial, trivial, trivial, trivial, trivial, trivial, trivial, trivial⟩
  let X : Addr → List Nat → Addr → List Nat → Slots := fun a L c pp => [.strm, .dat (.int (m : Int)), .dat (.int (M : Int)), .own a (lstP K (L.map iD)), .own c (lstP K (pp.map iD)), .nil, .nil, .nil]
  refine ro_seq (N1 := fun x => ∃ a, x = [.strm, .dat (.int (m : Int)), .dat (.int (M : Int)), .own a (lstP K ((List.range M).map iD)), .nil, .nil, .nil, .nil]) (ro_newL (new_rg (m := M) (ev_var rfl) (by omega)) fun a _ => ⟨a, rfl⟩) ?_
  rintro x ⟨a, rfl⟩
  refine ro_seq (N1 := fun x => ∃ c, c ≠ a ∧ x = X a (List.range M) c (List.range M)) (ro_newL (new_rg (m := M) (ev_var rfl) (by omega)) fun c aw => ⟨c, fun e => aw.2.2.2.1 (by rw [e]; simp [lstP]), rfl⟩) ?_
  rintro x ⟨c, hca, rfl⟩
  have ac : ∀ l : List PyData, a ∉ (lstP K l).foot c := fun l h => hca (by simpa [lstP] using h : a = c).symm
  have ca : ∀ l : List PyData, c ∉ (lstP K l).foot a := fun l h => hca (by simpa [lstP] using h)
  refine ro_seq (N1 := fun x => ∃ L pp, x = X a L c pp ∧ PaperInv M L pp) ?_ ?_
  · refine ro_forP (vs := [5]) (ei_r1P (P := fun z => ∃ k : Nat, z = (k : Int) ∧ k < M) (ea_consP (cl_next rfl (ev_var rfl) (by omega)) ea_nil fun d xs ⟨k, e1, hk⟩ e2 => ⟨(k : Int), by rw [e1, e2], ⟨k, rfl, by omega⟩, by omega, by omega⟩)) fun n f hS => ?_
    obtain ⟨z, _, rfl, rfl⟩ := hS
    refine ⟨fun _ x => ∃ L pp, x = X a L c pp ∧ PaperInv M L pp, ⟨_, _, rfl, PaperInv.start M⟩, ?_, fun ds' h => h⟩
    rintro i ds' hi ⟨L, pp, rfl, I⟩
    refine ⟨_, eg_name, ?_⟩
    have lM : L.length ≤ 6 := by
      have : L.length ≤ M := by
        have := nodup_len I.nd (m := List.range M) fun x hx => List.mem_range.mpr (I.left x hx).1
        rwa [List.length_range] at this
      omega
    refine ro_impW [5, 6, 7] (N' := fun x => ∃ L pp s5 s6 s7, x = [.strm, .dat (.int (m : Int)), .dat (.int (M : Int)), .own a (lstP K (L.map iD)), .own c (lstP K (pp.map iD)), s5, s6, s7] ∧ PaperInv M L pp) ?_ (fun x ⟨L, pp, s5, s6, s7, e, h⟩ => ⟨L, pp, by rw [e]; rfl, h⟩)
    refine ro_if (EvB.is (et_test (ev_op (ev_ownLen (i := 3) (a := a) rfl) ev_int rd_gt)) rfl) (fun h => ?_) (fun h => ro_next ⟨L, pp, _, _, _, rfl, I⟩)
    have h := of_decide_eq_true h
    rw [List.length_map] at h
    have hl2 : 1 < L.length := by omega
    refine ro_hide [5] ?_
    refine ro_seq (N1 := fun x => ∃ j, ∃ hj : j < L.length, x = [.strm, .dat (.int (m : Int)), .dat (.int (M : Int)), .own a (lstP K ((L.eraseIdx j).map iD)), .own c (lstP K (pp.map iD)), .nil, .dat (iD L[j]), .nil]) ?_ ?_
    · refine ro_pop (i := 3) (m := 6) (a := a) (S := fun _ => True) rfl (by decide) ((cl_next rfl (ev_ownLen (i := 3) (a := a) rfl) (by rw [List.length_map]; omega)).imp fun d ⟨k, e, hk⟩ => ⟨k, e, trivial, by omega⟩) (by rw [List.length_map]; omega) ⟨trivial, trivial, trivial, trivial, ac _, trivial, trivial, trivial, trivial⟩ fun j d _ hd => ?_
      have hj : j < L.length := by have := (List.getElem?_eq_some_iff.mp hd).1; rwa [List.length_map] at this
      rw [List.getElem?_map, List.getElem?_eq_getElem hj] at hd
      refine ⟨j, hj, ?_⟩
      rw [← Option.some.inj hd, map_erase]
      rfl
    rintro x ⟨j, hj, rfl⟩
    obtain ⟨nd1, sub1⟩ := erase_facts I.nd hj
    have hL1 : (L.eraseIdx j).length = L.length - 1 := List.length_eraseIdx_of_lt hj
    refine ro_seq (N1 := fun x => ∃ j', ∃ hj' : j' < (L.eraseIdx j).length, x = [.strm, .dat (.int (m : Int)), .dat (.int (M : Int)), .own a (lstP K (((L.eraseIdx j).eraseIdx j').map iD)), .own c (lstP K (pp.map iD)), .nil, .dat (iD L[j]), .dat (iD (L.eraseIdx j)[j'])]) ?_ ?_
    · refine ro_pop (i := 3) (m := 7) (a := a) (S := fun _ => True) rfl (by decide) ((cl_next rfl (ev_ownLen (i := 3) (a := a) rfl) (by rw [List.length_map, hL1]; omega)).imp fun d ⟨k, e, hk⟩ => ⟨k, e, trivial, by omega⟩) (by rw [List.length_map]; omega) ⟨trivial, trivial, trivial, trivial, ac _, trivial, trivial, trivial, trivial⟩ fun j' d _ hd => ?_
      have hj' : j' < (L.eraseIdx j).length := by have := (List.getElem?_eq_some_iff.mp hd).1; rwa [List.length_map] at this
      rw [List.getElem?_map, List.getElem?_eq_getElem hj'] at hd
      refine ⟨j', hj', ?_⟩
      rw [← Option.some.inj hd, map_erase]
      rfl
    rintro x ⟨j', hj', rfl⟩
    obtain ⟨nd2, sub2⟩ := erase_facts nd1 hj'
    have m1 : L[j] ∈ L := List.getElem_mem hj
    have m2' : (L.eraseIdx j)[j'] ∈ L.eraseIdx j := List.getElem_mem hj'
    obtain ⟨m2, hne⟩ := sub1 _ m2'
    have I2 := I.step m1 m2 hne nd2 fun x hx => ⟨(sub1 x (sub2 x hx).1).1, (sub1 x (sub2 x hx).1).2, (sub2 x hx).2⟩
    generalize L[j] = one at *
    generalize (L.eraseIdx j)[j'] = other at *
    have o1 := (I.left one m1).1
    have o2 := (I.left other m2).1
    have plen := I.len
    refine ro_seq (N1 := fun x => x = [.strm, .dat (.int (m : Int)), .dat (.int (M : Int)), .own a (lstP K (((L.eraseIdx j).eraseIdx j').map iD)), .own c (lstP K ((pp.set one other).map iD)), .nil, .dat (iD one), .dat (iD other)]) ?_ ?_
    · refine ro_setL (i := 4) (a := c) (z := (one : Int)) (j := one) (P := fun d => d = iD other) rfl (ev_var rfl) (ev_var rfl) ?_ ⟨trivial, trivial, trivial, ca _, trivial, trivial, trivial, trivial, trivial⟩ fun d e => by subst e; rw [set_iD]; rfl
      unfold ixN
      rw [List.length_map, if_pos (by omega), if_pos (by omega), Int.toNat_natCast]
    rintro x rfl
    refine ro_setL (i := 4) (a := c) (z := (other : Int)) (j := other) (P := fun d => d = iD one) rfl (ev_var rfl) (ev_var rfl) ?_ ⟨trivial, trivial, trivial, ca _, trivial, trivial, trivial, trivial, trivial⟩ fun d e => by subst e; exact ⟨_, _, _, _, _, by rw [set_iD]; rfl, I2⟩
    unfold ixN
    rw [List.length_map, List.length_set, if_pos (by omega), if_pos (by omega), Int.toNat_natCast]
  · rintro x ⟨L, pp, rfl, I⟩
    refine ro_freeze (i := 4) (a := c) rfl ⟨trivial, trivial, trivial, ca _, trivial, trivial, trivial, trivial, trivial⟩ (ro_ret (Ev.to (ev_cb (ea_cons (ev_var rfl) ea_nil) cd_tupL) ⟨pp, rfl, I.paper (by omega) (by omega)⟩))
theorem marks_lc {ds : Slots} {t3 : TE} {ta : TA} {v : Nat} {pp : List Nat} {hi : Nat} {E : XK} (hi6 : hi ≤ 1000) (P1 : 1 ≤ pp.length ∧ pp.length ≤ 6) (hs : (wipeD ds [v])[0]? = some .strm) (hv : v ≠ 0) (hp : ∀ d, Ev K t3 ((wipeD ds [v]).set v (.dat d)) (.int (pp.length : Int)))
    (hit : EvA K ta ds (fun xs => ∃ n : Int, xs = [.dat (.int n)] ∧ (0 ≤ n ∧ n ≤ (hi : Int)) ∧ -100000 ≤ n ∧ n ≤ 100000)) :
    EvP K (tLc (iRng1 ta) (gName v) tYes (tCall (spNext K) [] E (tCons (tVar 0) (tCons t3 tNil))) [v]) ds (fun d => ∃ ms : List Nat, d = .list (ms.map iD) ∧ ms.length ≤ hi ∧ ∀ x ∈ ms, x < pp.length) :=
  ev_lcP (ei_r1P (P := fun n => 0 ≤ n ∧ n ≤ (hi : Int)) hit) fun n f hS => by
    obtain ⟨z, ⟨z1, z2⟩, rfl, rfl⟩ := hS
    refine ⟨fun i acc => ∃ ms : List Nat, acc = ms.map iD ∧ ms.length = i ∧ ∀ x ∈ ms, x < pp.length, by omega, ⟨[], rfl, rfl, by simp⟩, fun acc ⟨ms, e, h1, h2⟩ => ⟨ms, by rw [e], by omega, h2⟩, fun i acc hi' ⟨ms, e, h1, h2⟩ _ => ⟨_, eg_name, et_yes.imp fun b eb => ⟨fun _ => ?_, fun z => by rw [eb] at z; cases z⟩⟩⟩
    refine (cl_next ?_ (hp _) (by omega)).imp fun d ⟨k, ed, hk⟩ => ⟨ms ++ [k], by rw [e, ed, List.map_append]; rfl, by rw [List.length_append, h1]; rfl, fun x hx => ?_⟩
    · rw [List.getElem?_set_ne hv]
      exact hs
    · rcases List.mem_append.mp hx with hx | hx
      · exact h2 x hx
      · rw [List.mem_singleton] at hx
        omega
theorem ok__law_sequence (B : Blt mg) (D : DefAt K mg "_law_sequence" "_law_sequence" s__law_sequence p__law_sequence) (D__law_next : DefAt K mg "_law_next" "_law_next" s__law_next p__law_next) (G__law_next : FnOk P w K mg base CX0 1 D__law_next.f D__law_next.fd p__law_next (spNext K))
    (D__law_reflected : DefAt K mg "_law_reflected" "_law_reflected" s__law_reflected p__law_reflected) (G__law_reflected : FnOk P w K mg base CX0 1 D__law_reflected.f D__law_reflected.fd p__law_reflected (spRefl K)) : FnOk P w K mg base CX0 2 D.f D.fd p__law_sequence (spSeqD K) := by
  refine D.F.ok sc__law_sequence (fun vs H Q E h => spI_len h (fun _ => rfl)) (fun cdv A outer s H vs Q E hr h => ⟨_, (pss_cons (ps_if (pt_cmpR op_eq (pe_call G__law_next (hr.mono (by walk_at "lvl")) (by rfl) D__law_next.m D__law_next.F.kp D__law_next.b .nil pass0 (pa_cons (pv 0) (pa_cons pe_int pa_nil))) pe_int (nomark _)) (pss_one (ps_ret (pe_callTy (kTup K rfl) (by rfl) B.tuple bt_tuple (pa_cons (pe_lc (own := [("_law_turn", 3)]) rfl sc__law_sequence.nd (pi_range1 (by rfl) B.range (pa_cons (pe_call G__law_next (hr.mono (by walk_at "lvl")) (by rfl) D__law_next.m D__law_next.F.kp D__law_next.b .nil pass0 (pa_cons (pv 0) (pa_cons (pe_op op_add (pv 2) pe_int) pa_nil))) pa_nil)) (blkOk_by (N := N__law_sequence) (sc := defScope s__law_sequence) (by decide +kernel)) (fun _ _ _ _ _ => (pg_name (i := 3) sc__law_sequence.nd rfl (.inl rfl))) (fun _ _ _ _ _ => pts_nil) (fun _ _ _ _ _ => (pe_call G__law_next (hr.mono (by walk_at "lvl")) (by rfl) D__law_next.m D__law_next.F.kp D__law_next.b .nil pass0 (pa_cons (pv 0) (pa_cons (pe_callB (kLen K rfl) (by rfl) B.len bt_len (pa_cons (pv 1) pa_nil)) pa_nil))))) pa_nil)))) pss_nil)
      (pss_cons (ps_set (i := 4) sc__law_sequence.nd rfl (.inl rfl) (pe_tup pa_nil))
      (pss_cons (ps_for PassesOwn.never rfl (pi_range1 (by rfl) B.range (pa_cons (pe_op op_add pe_int (pe_call G__law_next (hr.mono (by walk_at "lvl")) (by rfl) D__law_next.m D__law_next.F.kp D__law_next.b .nil pass0 (pa_cons (pv 0) (pa_cons pe_int pa_nil)))) pa_nil)) (pg_name (i := 3) sc__law_sequence.nd rfl (.inl rfl))
      (pss_cons (ps_set (i := 5) sc__law_sequence.nd rfl (.inl rfl) (pe_callTy (kTup K rfl) (by rfl) B.tuple bt_tuple (pa_cons (pe_lc (own := [("_law_step", 6)]) rfl sc__law_sequence.nd (pi_range1 (by rfl) B.range (pa_cons (pe_op op_add pe_int (pe_call G__law_next (hr.mono (by walk_at "lvl")) (by rfl) D__law_next.m D__law_next.F.kp D__law_next.b .nil pass0 (pa_cons (pv 0) (pa_cons pe_int pa_nil)))) pa_nil)) (blkOk_by (N := N__law_sequence) (sc := defScope s__law_sequence) (by decide +kernel)) (fun _ _ _ _ _ => (pg_name (i := 6) sc__law_sequence.nd rfl (.inl rfl))) (fun _ _ _ _ _ => pts_nil) (fun _ _ _ _ _ => (pe_call G__law_next (hr.mono (by walk_at "lvl")) (by rfl) D__law_next.m D__law_next.F.kp D__law_next.b .nil pass0 (pa_cons (pv 0) (pa_cons (pe_callB (kLen K rfl) (by rfl) B.len bt_len (pa_cons (pv 1) pa_nil)) pa_nil))))) pa_nil)))
      (pss_one (ps_set (i := 4) sc__law_sequence.nd rfl (.inl rfl) (pe_op (kCat K rfl) (pe_op (kCat K rfl) (pv 4) (pv 5)) (pe_call G__law_reflected (hr.mono (by walk_at "lvl")) (by rfl) D__law_reflected.m D__law_reflected.F.kp D__law_reflected.b .nil pass0 (pa_cons (pv 1) (pa_cons (pv 5) pa_nil))))))))
      (pss_cons (ps_set (i := 4) sc__law_sequence.nd rfl (.inl rfl) (pe_slice (kSlT K rfl) (pv 4) po_none (po_some (pv 2))))
      (pss_cons (ps_for PassesOwn.never rfl (pi_range1 (by rfl) B.range (pa_cons (pe_call G__law_next (hr.mono (by walk_at "lvl")) (by rfl) D__law_next.m D__law_next.F.kp D__law_next.b .nil pass0 (pa_cons (pv 0) (pa_cons pe_int pa_nil))) pa_nil)) (pg_name (i := 3) sc__law_sequence.nd rfl (.inl rfl))
      (pss_one (ps_if (kTru K rfl (pv 4) (by intro _; rfl)) (pss_cons (ps_set (i := 7) sc__law_sequence.nd rfl (.inl rfl) (pe_call G__law_next (hr.mono (by walk_at "lvl")) (by rfl) D__law_next.m D__law_next.F.kp D__law_next.b .nil pass0 (pa_cons (pv 0) (pa_cons (pe_callB (kLen K rfl) (by rfl) B.len bt_len (pa_cons (pv 4) pa_nil)) pa_nil))))
      (pss_one (ps_set (i := 4) sc__law_sequence.nd rfl (.inl rfl) (pe_op (kCat K rfl) (pe_slice (kSlT K rfl) (pv 4) po_none (po_some (pv 7))) (pe_slice (kSlT K rfl) (pv 4) (po_some (pe_op op_add (pv 7) pe_int)) po_none))))) pss_nil)))
      (pss_one (ps_ret (pv 4)))))))), run_fn0 h ?_⟩)
  intro pp o
  have o : Paper pp := o
  have p1 := o.p1
  have p6 := o.p6
  show Run K _ ([.strm, .dat (encN pp), .dat (.int 7), .nil, .nil, .nil, .nil, .nil] : Slots) _ (fun d => ∃ ss, d = encN ss ∧ ss.length ≤ 7 ∧ ∀ x ∈ ss, x < pp.length)
  have lenP : ∀ {ds : Slots}, ds[1]? = some (.dat (encN pp)) → Ev K (tCB (rLen K) (tCons (tVar 1) tNil)) ds (.int (pp.length : Int)) := fun h => Ev.is (ev_cb (ea_cons (ev_var (d := .tuple (pp.map iD)) h) ea_nil) cd_lenT) (by rw [List.length_map])
  let Mk : List Nat → Prop := fun ms => ∀ x ∈ ms, x < pp.length
  refine run_guardP (PB := fun _ => True) (et_testP (ev_opP (cl_next rfl ev_int (by decide)) ev_int fun d1 d2 ⟨k, e1, _⟩ e2 => by
    subst e1 e2
    exact fun p B H x y hx hy w Q kk => rd_eqI p B H x y hx hy w Q fun d v B' H' q hd g => kk d v B' H' ⟨_, q, trivial⟩ hd g)) (fun _ => ?_) (fun _ => ?_)
  · refine run_ret (ev_cbP (PA := fun xs => ∃ ms : List Nat, xs = [.dat (.list (ms.map iD))] ∧ ms.length ≤ 7 ∧ Mk ms) (ea_consP (marks_lc (hi := 7) (pp := pp) (v := 3) (by decide) ⟨p1, p6⟩ rfl (by decide) (fun d => lenP rfl) (ea_consP (cl_next rfl (ev_op (ev_var rfl) ev_int rd_add) (by decide)) ea_nil fun d xs ⟨k, e1, hk⟩ e2 => ⟨(k : Int), by rw [e1, e2], ⟨by omega, by omega⟩, by omega, by omega⟩)) ea_nil fun d xs ⟨ms, e1, h⟩ e2 => ⟨ms, by rw [e1, e2], h⟩) fun xs ⟨ms, e, h⟩ => ?_)
    subst e
    exact fun p B H vs he w Q k => cd_tupL p B H vs he w Q fun d v B' H' q hd g => k d v B' H' ⟨ms, q, h⟩ hd g
  refine run_set (ev_tup (l := []) ea_nil) ?_
  let X : List Nat → Slots := fun ms => [.strm, .dat (encN pp), .dat (.int 7), .nil, .dat (encN ms), .nil, .nil, .nil]
  refine run_seq (N1 := fun x => ∃ ms, x = X ms ∧ ms.length ≤ 18 ∧ Mk ms) ?_ ?_
  · refine run_forP (vs := [3]) (ei_r1P (P := fun z => ∃ k : Nat, z = (k : Int) ∧ k ≤ 3) (ea_consP (P1 := fun d => ∃ k : Nat, d = .int (k : Int) ∧ k ≤ 3) (ev_opP (P1 := fun d => d = .int 1) ev_int (cl_next rfl ev_int (by decide)) fun d1 d2 e1 ⟨k, e2, hk⟩ => by
      subst e1 e2
      exact fun p B H x y hx hy w Q kk => rd_add p B H x y hx hy w Q fun d v B' H' q hd g => kk d v B' H' ⟨k + 1, by rw [q]; congr 1; omega, by omega⟩ hd g) ea_nil fun d xs ⟨k, e1, hk⟩ e2 => ⟨(k : Int), by rw [e1, e2], ⟨k, rfl, hk⟩, by omega, by omega⟩)) fun n f hS => ?_
    obtain ⟨z, ⟨k, rfl, hk⟩, rfl, rfl⟩ := hS
    refine ⟨fun i x => ∃ ms, x = X ms ∧ ms.length ≤ 6 * i ∧ Mk ms, ⟨[], rfl, by simp, by intro x hx; simp at hx⟩, ?_, fun ds' ⟨ms, e, h1, h2⟩ => ⟨ms, e, by omega, h2⟩⟩
    rintro i ds' hi ⟨ms, rfl, hl, hm⟩
    refine ⟨_, eg_name, ?_⟩
    refine run_impW [3, 5, 6] (N' := fun x => ∃ ms s3 s5 s6, x = [.strm, .dat (encN pp), .dat (.int 7), s3, .dat (encN ms), s5, s6, .nil] ∧ ms.length ≤ 6 * (i + 1) ∧ Mk ms) ?_ (fun x ⟨ms, s3, s5, s6, e, h⟩ => ⟨ms, by rw [e]; rfl, h⟩)
    refine run_setP (P := fun d => ∃ hs : List Nat, d = encN hs ∧ hs.length ≤ 3 ∧ Mk hs) (ev_cbP (PA := fun xs => ∃ ms : List Nat, xs = [.dat (.list (ms.map iD))] ∧ ms.length ≤ 3 ∧ Mk ms) (ea_consP (marks_lc (hi := 3) (pp := pp) (v := 6) (by decide) ⟨p1, p6⟩ rfl (by decide) (fun d => lenP rfl) (ea_consP (P1 := fun d => ∃ k : Nat, d = .int (k : Int) ∧ k ≤ 3) (ev_opP (P1 := fun d => d = .int 1) ev_int (cl_next rfl ev_int (by decide)) fun d1 d2 e1 ⟨k, e2, hk⟩ => by
      subst e1 e2
      exact fun p B H x y hx hy w Q kk => rd_add p B H x y hx hy w Q fun d v B' H' q hd g => kk d v B' H' ⟨k + 1, by rw [q]; congr 1; omega, by omega⟩ hd g) ea_nil fun d xs ⟨k, e1, hk⟩ e2 => ⟨(k : Int), by rw [e1, e2], ⟨by omega, by omega⟩, by omega, by omega⟩)) ea_nil fun d xs ⟨ms, e1, h⟩ e2 => ⟨ms, by rw [e1, e2], h⟩) fun xs ⟨ms, e, h⟩ => ?_) fun d ⟨hs, e, hl3, hm3⟩ => ?_
    · subst e
      exact fun p B H vs he w Q k => cd_tupL p B H vs he w Q fun d v B' H' q hd g => k d v B' H' ⟨ms, q, h⟩ hd g
    · subst e
      refine run_asgP (P := fun d => ∃ ns : List Nat, d = encN ns ∧ ns.length ≤ 6 * (i + 1) ∧ Mk ns) (ev_opP (P1 := fun d => d = encN (ms ++ hs)) (P2 := fun d => ∃ rs, d = encN rs ∧ rs.length = hs.length ∧ ∀ x ∈ rs, x < pp.length) (Ev.is (ev_op (ev_var (d := .tuple (ms.map iD)) rfl) (ev_var (d := .tuple (hs.map iD)) rfl) (rd_cat (Nat.le_trans (show (ms.map iD).length + (hs.map iD).length ≤ 100000 by rw [List.length_map, List.length_map]; omega) (by decide)))) (by unfold encN; rw [List.map_append])) (ev_call (pp, hs) (ea_cons (ev_var rfl) (ea_cons (ev_var rfl) ea_nil)) ⟨o.pm, hm3, by show hs.length ≤ 1000; omega⟩ fun d h => h) fun d1 d2 e1 ⟨rs, e2, hrl, hrm⟩ => ?_) fun d ⟨ns, e, h1, h2⟩ => by subst e; exact ⟨ns, _, _, _, rfl, h1, h2⟩
      subst e1 e2
      have := rd_cat (K := K) (a := (ms ++ hs).map iD) (b := rs.map iD) (Nat.le_trans (show ((ms ++ hs).map iD).length + (rs.map iD).length ≤ 100000 by rw [List.length_map, List.length_map, List.length_append]; omega) (by decide))
      refine fun p B H x y hx hy w Q kk => this p B H x y hx hy w Q fun d v B' H' q hd g => kk d v B' H' ⟨ms ++ hs ++ rs, by rw [q]; unfold encN; rw [List.map_append (l₁ := ms ++ hs)], ?_, fun x hx => ?_⟩ hd g
      · rw [List.length_append, List.length_append]
        omega
      · rcases List.mem_append.mp hx with hx | hx
        · rcases List.mem_append.mp hx with hx | hx
          · exact hm x hx
          · exact hm3 x hx
        · exact hrm x hx
  rintro x ⟨ms, rfl, hl, hm⟩
  refine run_set (d := encN (ms.take 7)) (Ev.is (ev_slT (ev_var (d := .tuple (ms.map iD)) rfl) eo_none (eo_some (ev_var rfl))) (by unfold encN; rw [show (7 : Int) = ((7 : Nat) : Int) from rfl, cutL_to, List.map_take])) ?_
  refine run_seq (N1 := fun x => ∃ ms, x = X ms ∧ ms.length ≤ 7 ∧ Mk ms) ?_ ?_
  · refine run_forP (vs := [3]) (ei_r1P (P := fun z => ∃ k : Nat, z = (k : Int) ∧ k ≤ 3) (ea_consP (cl_next rfl ev_int (by decide)) ea_nil fun d xs ⟨k, e1, hk⟩ e2 => ⟨(k : Int), by rw [e1, e2], ⟨k, rfl, by omega⟩, by omega, by omega⟩)) fun n f hS => ?_
    obtain ⟨z, ⟨k, rfl, hk⟩, rfl, rfl⟩ := hS
    refine ⟨fun _ x => ∃ ms, x = X ms ∧ ms.length ≤ 7 ∧ Mk ms, ⟨ms.take 7, rfl, by rw [List.length_take]; omega, fun x hx => hm x (List.mem_of_mem_take hx)⟩, ?_, fun ds' h => h⟩
    rintro i ds' hi ⟨ms, rfl, hl, hm⟩
    refine ⟨_, eg_name, ?_⟩
    refine run_impW [3, 7] (N' := fun x => ∃ ms s3 s7, x = [.strm, .dat (encN pp), .dat (.int 7), s3, .dat (encN ms), .nil, .nil, s7] ∧ ms.length ≤ 7 ∧ Mk ms) ?_ (fun x ⟨ms, s3, s7, e, h⟩ => ⟨ms, by rw [e]; rfl, h⟩)
    refine run_if (ev_tru (ev_var (d := .tuple (ms.map iD)) rfl)) (fun h => ?_) (fun h => run_next ⟨ms, _, _, rfl, hl, hm⟩)
    have hpos : 0 < ms.length := by
      cases ms with
      | nil => cases h
      | cons _ _ => simp
    refine run_setP (cl_next (m := (ms.length : Int)) rfl (Ev.is (ev_cb (ea_cons (ev_var (d := .tuple (ms.map iD)) rfl) ea_nil) cd_lenT) (by rw [List.length_map])) (by omega)) fun d ⟨k, e, hk⟩ => ?_
    subst e
    refine run_asg (d := encN (ms.take k ++ ms.drop (k + 1))) (Ev.is (ev_op (ev_slT (ev_var (d := .tuple (ms.map iD)) rfl) eo_none (eo_some (ev_var rfl))) (ev_slT (ev_var (d := .tuple (ms.map iD)) rfl) (eo_some (Ev.is (ev_op (ev_var rfl) ev_int rd_add) (show _ = PyData.int ((k + 1 : Nat) : Int) by congr 1))) eo_none) (rd_cat ?_)) ?_) ⟨_, _, _, rfl, ?_, fun x hx => ?_⟩
    · rw [cutL_to, cutL_from, List.length_take, List.length_drop, List.length_map]
      exact Nat.le_trans (by omega) (by decide : 100000 ≤ sizeLine)
    · rw [cutL_to, cutL_from]
      unfold encN
      rw [List.map_append, List.map_take, List.map_drop]
    · rw [List.length_append, List.length_take, List.length_drop]
      omega
    · rcases List.mem_append.mp hx with hx | hx
      · exact hm x (List.mem_of_mem_take hx)
      · exact hm x (List.mem_of_mem_drop hx)
  · rintro x ⟨ms, rfl, hl, hm⟩
    exact run_ret (Ev.to (ev_var rfl) ⟨ms, rfl, hl, hm⟩)
end
end K47
/-! K47: a value turned, other pairs. -/
namespace K47
open PySem PySem.Spec PyProof.Rows L2
local macro_rules | `(tactic| walk_at "lvl") => `(tactic| first | decide | omega)
local macro_rules | `(tactic| walk_at "at") => `(tactic| first | rfl | assumption | exact atN (by assumption))
def GoodV (d : PyData) : Prop := ∀ x y, d = .tuple [x, y] → ∀ l, x = .tuple l → l.length ≤ 1000
def tupP (n : Nat) (d : PyData) : Prop := ∃ l, d = .tuple l ∧ l.length ≤ n
section
variable {K : PySem.W.Frag} {ds : Slots} {ta tb te : TE} {xs : List PyData} {S P1 : PyData → Prop} {n m : Nat}
theorem ev_pickP (ha : EvP K ta ds (fun d => ∃ xs, d = .list xs ∧ xs.length = n ∧ ∀ x ∈ xs, S x)) (hb : EvP K tb ds (fun d => ∃ k : Nat, d = .int (k : Int) ∧ k < n)) : EvP K (tOp (rIxL K) ta tb) ds S :=
  ev_opP ha hb fun d1 d2 ⟨xs, e1, hl, hS⟩ ⟨k, e2, hk⟩ => by
    subst e1 e2
    have h : k < xs.length := by omega
    have := rd_ixL (K := K) (l := xs) (atI_natD (List.getElem?_eq_getElem h))
    exact fun p B H x y hx hy w Q kk => this p B H x y hx hy w Q fun d v B' H' q hd g => kk d v B' H' (by rw [q]; exact hS _ (List.getElem_mem h)) hd g
theorem ev_catP (ha : EvP K ta ds (tupP n)) (hb : EvP K tb ds (tupP m)) (h : n + m ≤ 10000) : EvP K (tOp (rCatA K) ta tb) ds (tupP (n + m)) :=
  ev_opP ha hb fun d1 d2 ⟨l1, e1, h1⟩ ⟨l2, e2, h2⟩ => by
    subst e1 e2
    have := rd_cat (K := K) (a := l1) (b := l2) (Nat.le_trans (show l1.length + l2.length ≤ 100000 by omega) (by decide))
    exact fun p B H x y hx hy w Q kk => this p B H x y hx hy w Q fun d v B' H' q hd g => kk d v B' H' ⟨_, q, by rw [List.length_append]; omega⟩ hd g
theorem ev_tup1 (h : EvP K te ds P1) : EvP K (tTup (tCons te tNil)) ds (tupP 1) := ev_tupP (ea_consP h ea_nil fun d xs _ e => ⟨[d], by rw [e]; rfl, by show 1 ≤ _; decide, [d], rfl, by show 1 ≤ 1; decide⟩)
theorem ev_upto {l : List PyData} {k : Nat} (ha : Ev K ta ds (.tuple l)) (hb : Ev K tb ds (.int (k : Int))) (hl : l.length ≤ n) : EvP K (tSl (rSlA K) ta tNoPart (tPart tb)) ds (tupP n) := (Ev.is (ev_slT ha eo_none (eo_some hb)) (by rw [cutL_to])).to ⟨_, rfl, by rw [List.length_take]; omega⟩
theorem ev_from {l : List PyData} {k : Nat} (ha : Ev K ta ds (.tuple l)) (hb : Ev K tb ds (.int (k : Int))) (hl : l.length ≤ n) : EvP K (tSl (rSlA K) ta (tPart tb) tNoPart) ds (tupP n) := (Ev.is (ev_slT ha (eo_some hb) eo_none) (by rw [cutL_from])).to ⟨_, rfl, by rw [List.length_drop]; omega⟩
/-- t[:k] + (e,) + t[k + 1:] -/
theorem ev_repl {l : List PyData} {k : Nat} (ha : Ev K ta ds (.tuple l)) (hb : Ev K tb ds (.int (k : Int))) (he : EvP K te ds P1) (hl : l.length ≤ n) (hn : n ≤ 1000) :
    EvP K (tOp (rCatA K) (tOp (rCatA K) (tSl (rSlA K) ta tNoPart (tPart tb)) (tTup (tCons te tNil))) (tSl (rSlA K) ta (tPart (tOp (rI0 fun i j => .int (i + j)) tb (tC (.int 1)))) tNoPart)) ds (tupP (n + 1 + n)) :=
  ev_catP (ev_catP (ev_upto ha hb hl) (ev_tup1 he) (by omega)) (ev_from (k := k + 1) ha (Ev.is (ev_op hb ev_int rd_add) (by congr 1)) hl) (by omega)
theorem ev_pair {P2 : PyData → Prop} (h1 : EvP K ta ds P1) (h2 : EvP K tb ds P2) : EvP K (tTup (tCons ta (tCons tb tNil))) ds (fun d => ∃ x y, d = .tuple [x, y] ∧ P1 x ∧ P2 y) :=
  ev_tupP (ea_consP h1 (ea_consP (PA := fun xs => ∃ y, xs = [.dat y] ∧ P2 y) h2 ea_nil fun d xs hd e => ⟨d, by rw [e], hd⟩) fun d xs hd ⟨y, e, hy⟩ => ⟨[d, y], by rw [e]; rfl, by show 2 ≤ _; decide, d, y, rfl, hd, hy⟩)
end
theorem goodV_pair {x y : PyData} (h : tupP 1000 x) : GoodV (.tuple [x, y]) := fun x' y' e l hl => by
  injection e with e
  injection e with e1 _
  obtain ⟨l', e', h'⟩ := h
  subst e1
  rw [e'] at hl
  injection hl with hl
  rw [← hl]
  exact h'
theorem goodV_no {d : PyData} (h : ∀ x y, d ≠ .tuple [x, y]) : GoodV d := fun x y e => absurd e (h x y)
theorem goodV_lst {l : List PyData} {y : PyData} : GoodV (.tuple [.list l, y]) := fun x' y' e m hm => by
  injection e with e
  injection e with e1 _
  rw [← e1] at hm
  cases hm
abbrev spTurned (K : PySem.W.Frag) : Sp := spI K (ι := Bk × List Pr) (fun i => [.strm, .dat (.tuple [encR i.2, tabD (leastN i.1.n i.1.cp) (leastE i.1.n i.1.cp)])]) (fun i => i.1.Ok ∧ i.2.length ≤ 7) (fun _ d => GoodV d)
abbrev spOther (K : PySem.W.Frag) : Sp := spI K (ι := Bk × List Pr) (fun i => [.strm, .dat i.1.S, .dat (encR i.2)]) (fun i => i.1.Ok ∧ 1 < i.1.n ∧ 2 * i.2.length ≤ i.1.n) (fun i d => ∃ l, d = .tuple l ∧ 2 * l.length ≤ i.1.n)
theorem least_shp (n : Nat) (cp : Nat → Nat → Bool) : Shp n (leastN n cp) where
  len := by unfold leastN; rw [List.length_map, List.length_range]
  row := fun i hi => by
    unfold leastN
    rw [List.getD_eq_getElem?_getD, List.getElem?_map, List.getElem?_range (by omega)]
    show (List.map _ _).length = _
    rw [List.length_map, List.length_range]
theorem least_len (n : Nat) (cp : Nat → Nat → Bool) : (leastE n cp).length = n + 1 := by unfold leastE; rw [List.length_map, List.length_range]
section
variable {P : Program} {w : World} {K : PySem.W.Frag} {mg : Str → Option Value} {base : Heap}
theorem ok__law_turned (B : Blt mg) (D : DefAt K mg "_law_turned" "_law_turned" s__law_turned p__law_turned) (D__law_next : DefAt K mg "_law_next" "_law_next" s__law_next p__law_next) (G__law_next : FnOk P w K mg base CX0 1 D__law_next.f D__law_next.fd p__law_next (spNext K)) :
    FnOk P w K mg base CX0 2 D.f D.fd p__law_turned (spTurned K) := by
  refine D.F.ok sc__law_turned (fun vs H Q E h => spI_len h (fun _ => rfl)) (fun cdv A outer s H vs Q E hr h => ⟨_, (pss_cons (ps_asg (pv 1) (kPgT (n := 2) K rfl rfl (pgs_cons (pg_name (i := 2) sc__law_turned.nd rfl (.inl rfl)) (pgs_cons (pg_name (i := 3) sc__law_turned.nd rfl (.inl rfl)) pgs_nil))))
      (pss_cons (ps_asg (pv 3) (kPgT (n := 2) K rfl rfl (pgs_cons (pg_name (i := 4) sc__law_turned.nd rfl (.inl rfl)) (pgs_cons (pg_name (i := 5) sc__law_turned.nd rfl (.inl rfl)) pgs_nil))))
      (pss_cons (ps_set (i := 6) sc__law_turned.nd rfl (.inl rfl) (pe_call G__law_next (hr.mono (by walk_at "lvl")) (by rfl) D__law_next.m D__law_next.F.kp D__law_next.b .nil pass0 (pa_cons (pv 0) (pa_cons pe_int pa_nil))))
      (pss_cons (ps_if (pt_cmpR op_eq (pv 6) pe_int (nomark _)) (pss_cons (ps_set (i := 7) sc__law_turned.nd rfl (.inl rfl) (pe_lst (pa_cons pe_non (pa_cons (pe_callTy (kList K rfl) (by rfl) B.list bt_list (pa_cons (pv 1) pa_nil)) (pa_cons (pe_tup (pa_cons (pv 2) pa_nil)) (pa_cons (pe_op (kCat K rfl) (pv 1) (pe_tup (pa_cons pe_int pa_nil))) (pa_cons (pe_tup (pa_cons (pv 3) (pa_cons (pv 2) pa_nil))) (pa_cons (pe_tup (pa_cons (pe_slice (kSlT K rfl) (pv 2) (po_some pe_int) po_none) (pa_cons (pv 3) pa_nil))) (pa_cons (pe_tup (pa_cons (pe_callTy (kList K rfl) (by rfl) B.list bt_list (pa_cons (pv 2) pa_nil)) (pa_cons (pv 3) pa_nil))) (pa_cons (pe_tup (pa_cons (pv 2) (pa_cons (pe_callTy (kList K rfl) (by rfl) B.list bt_list (pa_cons (pv 3) pa_nil)) pa_nil))) (pa_cons (pe_tup (pa_cons (pv 2) (pa_cons (pe_tup (pa_cons (pv 5) (pa_cons (pv 4) pa_nil))) pa_nil))) (pa_cons (pe_tup (pa_cons (pv 2) (pa_cons (pe_tup (pa_cons (pv 4) pa_nil)) pa_nil))) pa_nil))))))))))))
      (pss_one (ps_ret (pe_ix (kIxL K rfl) (pv 7) (pe_call G__law_next (hr.mono (by walk_at "lvl")) (by rfl) D__law_next.m D__law_next.F.kp D__law_next.b .nil pass0 (pa_cons (pv 0) (pa_cons pe_int pa_nil))) (fun _ _ => rfl))))) pss_nil)
      (pss_cons (ps_set (i := 8) sc__law_turned.nd rfl (.inl rfl) (pe_call G__law_next (hr.mono (by walk_at "lvl")) (by rfl) D__law_next.m D__law_next.F.kp D__law_next.b .nil pass0 (pa_cons (pv 0) (pa_cons (pe_callB (kLen K rfl) (by rfl) B.len bt_len (pa_cons (pv 4) pa_nil)) pa_nil))))
      (pss_cons (ps_if (pt_cmpR op_lt (pv 6) pe_int (nomark _)) (pss_cons (ps_set (i := 9) sc__law_turned.nd rfl (.inl rfl) (pe_ix (kIxT K rfl) (pv 4) (pv 8) (fun _ _ => rfl)))
      (pss_cons (ps_set (i := 10) sc__law_turned.nd rfl (.inl rfl) (pe_call G__law_next (hr.mono (by walk_at "lvl")) (by rfl) D__law_next.m D__law_next.F.kp D__law_next.b .nil pass0 (pa_cons (pv 0) (pa_cons (pe_callB (kLen K rfl) (by rfl) B.len bt_len (pa_cons (pv 9) pa_nil)) pa_nil))))
      (pss_cons (ps_set (i := 7) sc__law_turned.nd rfl (.inl rfl) (pe_lst (pa_cons (pe_op op_add (pe_ix (kIxT K rfl) (pv 9) (pv 10) (fun _ _ => rfl)) pe_int) (pa_cons (pe_op op_sub (pe_ix (kIxT K rfl) (pv 9) (pv 10) (fun _ _ => rfl)) pe_int) (pa_cons (pe_op op_add (pe_ix (kIxT K rfl) (pv 9) (pv 10) (fun _ _ => rfl)) pe_int) (pa_cons pe_non (pa_cons pe_bl (pa_cons pe_str pa_nil))))))))
      (pss_cons (ps_set (i := 9) sc__law_turned.nd rfl (.inl rfl) (pe_ix (kIxL K rfl) (pe_lst (pa_cons (pe_op (kCat K rfl) (pe_op (kCat K rfl) (pe_slice (kSlT K rfl) (pv 9) po_none (po_some (pv 10))) (pe_tup (pa_cons (pe_ix (kIxL K rfl) (pv 7) (pe_call G__law_next (hr.mono (by walk_at "lvl")) (by rfl) D__law_next.m D__law_next.F.kp D__law_next.b .nil pass0 (pa_cons (pv 0) (pa_cons pe_int pa_nil))) (fun _ _ => rfl)) pa_nil))) (pe_slice (kSlT K rfl) (pv 9) (po_some (pe_op op_add (pv 10) pe_int)) po_none)) (pa_cons (pe_slice (kSlT K rfl) (pv 9) (po_some pe_int) po_none) (pa_cons (pe_op (kCat K rfl) (pv 9) (pe_tup (pa_cons pe_int pa_nil))) (pa_cons (pe_callTy (kList K rfl) (by rfl) B.list bt_list (pa_cons (pv 9) pa_nil)) pa_nil))))) (pe_ix (kIxL K rfl) (pe_lst (pa_cons pe_int (pa_cons pe_int (pa_cons pe_int (pa_cons pe_int (pa_cons pe_int (pa_cons pe_int pa_nil))))))) (pe_call G__law_next (hr.mono (by walk_at "lvl")) (by rfl) D__law_next.m D__law_next.F.kp D__law_next.b .nil pass0 (pa_cons (pv 0) (pa_cons pe_int pa_nil))) (fun _ _ => rfl)) (fun _ _ => rfl)))
      (pss_one (ps_ret (pe_tup (pa_cons (pv 2) (pa_cons (pe_tup (pa_cons (pe_op (kCat K rfl) (pe_op (kCat K rfl) (pe_slice (kSlT K rfl) (pv 4) po_none (po_some (pv 8))) (pe_tup (pa_cons (pv 9) pa_nil))) (pe_slice (kSlT K rfl) (pv 4) (po_some (pe_op op_add (pv 8) pe_int)) po_none)) (pa_cons (pv 5) pa_nil))) pa_nil))))))))) pss_nil)
      (pss_cons (ps_if (pt_cmpR op_lt (pv 6) pe_int (nomark _)) (pss_cons (ps_set (i := 7) sc__law_turned.nd rfl (.inl rfl) (pe_lst (pa_cons (pe_op op_add (pe_ix (kIxT K rfl) (pv 5) (pv 8) (fun _ _ => rfl)) pe_int) (pa_cons (pe_op op_sub (pe_ix (kIxT K rfl) (pv 5) (pv 8) (fun _ _ => rfl)) pe_int) (pa_cons (pe_op op_add (pe_ix (kIxT K rfl) (pv 5) (pv 8) (fun _ _ => rfl)) pe_int) (pa_cons pe_non (pa_cons pe_bl pa_nil)))))))
      (pss_one (ps_ret (pe_tup (pa_cons (pv 2) (pa_cons (pe_tup (pa_cons (pv 4) (pa_cons (pe_op (kCat K rfl) (pe_op (kCat K rfl) (pe_slice (kSlT K rfl) (pv 5) po_none (po_some (pv 8))) (pe_tup (pa_cons (pe_ix (kIxL K rfl) (pv 7) (pe_call G__law_next (hr.mono (by walk_at "lvl")) (by rfl) D__law_next.m D__law_next.F.kp D__law_next.b .nil pass0 (pa_cons (pv 0) (pa_cons pe_int pa_nil))) (fun _ _ => rfl)) pa_nil))) (pe_slice (kSlT K rfl) (pv 5) (po_some (pe_op op_add (pv 8) pe_int)) po_none)) pa_nil))) pa_nil)))))) pss_nil)
      (pss_one (ps_ret (pv 1)))))))))), run_fn0 h ?_⟩)
  rintro ⟨b, r⟩ ⟨o, hr⟩
  have n7 : b.n ≤ 7 := o.s12
  have hr : r.length ≤ 7 := hr
  have S := least_shp b.n b.cp
  have hE := least_len b.n b.cp
  show Run K _ ([.strm, .dat (.tuple [encR r, tabD (leastN b.n b.cp) (leastE b.n b.cp)]), .nil, .nil, .nil, .nil, .nil, .nil, .nil, .nil, .nil] : Slots) _ GoodV
  generalize leastN b.n b.cp = N at *
  generalize leastE b.n b.cp = E at *
  have Nl : (N.map encI).length = b.n + 1 := by rw [List.length_map, S.len]
  have El : (E.map PyData.int).length = b.n + 1 := by rw [List.length_map, hE]
  refine run_unpack (vs := [2, 3]) (ev_var rfl) eg_pair ?_
  refine run_unpack (vs := [4, 5]) (ev_var (d := .tuple [encN2 N, encI E]) rfl) eg_pair ?_
  refine run_setP (cl_next (m := 6) rfl ev_int (by decide)) fun d ⟨pick, e, hp⟩ => ?_
  subst e
  have gR : tupP 1000 (encR r) := ⟨_, rfl, by rw [List.length_map]; omega⟩
  refine run_guard (et_test (ev_op (ev_var rfl) ev_int rd_eqI)) (fun _ => ?_) fun _ => ?_
  · -- odd things
    let odd : List PyData := [.none, .list [encR r, tabD N E], .tuple [encR r], .tuple [encR r, tabD N E, .int 0], .tuple [tabD N E, encR r], .tuple [.tuple ((r.map encPr).drop 1), tabD N E], .tuple [.list (r.map encPr), tabD N E], .tuple [encR r, .list [encN2 N, encI E]], .tuple [encR r, .tuple [encI E, encN2 N]], .tuple [encR r, .tuple [encN2 N]]]
    have vR : ∀ {ds : Slots}, ds[2]? = some (.dat (encR r)) → Ev K (tVar 2) ds (encR r) := fun h => ev_var h
    refine run_set (d := .list odd) (ev_lst (l := odd) (ea_cons ev_non (ea_cons (ev_cb (ea_cons (ev_var (d := .tuple [encR r, tabD N E]) rfl) ea_nil) cd_listT) (ea_cons (ev_tup (l := [encR r]) (ea_cons (ev_var rfl) ea_nil) (by show 1 ≤ _; decide)) (ea_cons (ev_op (ev_var (d := .tuple [encR r, tabD N E]) rfl) (ev_tup (l := [.int 0]) (ea_cons ev_int ea_nil)) (rd_cat (by show 3 ≤ _; decide)))
      (ea_cons (ev_tup (l := [tabD N E, encR r]) (ea_cons (ev_var rfl) (ea_cons (ev_var rfl) ea_nil)) (by show 2 ≤ _; decide)) (ea_cons (ev_tup (l := [.tuple ((r.map encPr).drop 1), tabD N E]) (ea_cons (Ev.is (ev_slT (ev_var (d := .tuple (r.map encPr)) rfl) (eo_some ev_int) eo_none) (by rw [show (1 : Int) = ((1 : Nat) : Int) from rfl, cutL_from])) (ea_cons (ev_var rfl) ea_nil)) (by show 2 ≤ _; decide))
      (ea_cons (ev_tup (l := [.list (r.map encPr), tabD N E]) (ea_cons (ev_cb (ea_cons (ev_var (d := .tuple (r.map encPr)) rfl) ea_nil) cd_listT) (ea_cons (ev_var rfl) ea_nil)) (by show 2 ≤ _; decide)) (ea_cons (ev_tup (l := [encR r, .list [encN2 N, encI E]]) (ea_cons (ev_var rfl) (ea_cons (ev_cb (ea_cons (ev_var (d := .tuple [encN2 N, encI E]) rfl) ea_nil) cd_listT) ea_nil)) (by show 2 ≤ _; decide))
      (ea_cons (ev_tup (l := [encR r, .tuple [encI E, encN2 N]]) (ea_cons (ev_var rfl) (ea_cons (ev_tup (l := [encI E, encN2 N]) (ea_cons (ev_var rfl) (ea_cons (ev_var rfl) ea_nil)) (by show 2 ≤ _; decide)) ea_nil)) (by show 2 ≤ _; decide)) (ea_cons (ev_tup (l := [encR r, .tuple [encN2 N]]) (ea_cons (ev_var rfl) (ea_cons (ev_tup (l := [encN2 N]) (ea_cons (ev_var rfl) ea_nil) (by show 1 ≤ _; decide)) ea_nil)) (by show 2 ≤ _; decide)) ea_nil)))))))))) (by show 10 ≤ _; decide)) ?_
    refine run_ret (ev_pickP (n := 10) (Ev.to (ev_var rfl) ⟨odd, rfl, rfl, fun x hx => ?_⟩) ((cl_next (m := 10) rfl ev_int (by decide)).imp fun d ⟨k, e, hk⟩ => ⟨k, e, by omega⟩))
    simp only [odd, List.mem_cons, List.mem_nil_iff, or_false] at hx
    rcases hx with rfl | rfl | rfl | rfl | rfl | rfl | rfl | rfl | rfl | rfl
    · exact goodV_no fun x y e => by cases e
    · exact goodV_no fun x y e => by cases e
    · exact goodV_no fun x y e => by cases e
    · exact goodV_no fun x y e => by cases e
    · exact goodV_pair ⟨_, rfl, by show 2 ≤ 1000; decide⟩
    · exact goodV_pair ⟨_, rfl, by rw [List.length_drop, List.length_map]; omega⟩
    · exact goodV_lst
    · exact goodV_pair gR
    · exact goodV_pair gR
    · exact goodV_pair gR
  refine run_setP (cl_next (m := ((b.n + 1 : Nat) : Int)) rfl (Ev.is (ev_cb (ea_cons (ev_var (d := .tuple (N.map encI)) rfl) ea_nil) cd_lenT) (by rw [Nl])) (by omega)) fun d ⟨at', e, ha⟩ => ?_
  subst e
  have ha : at' ≤ b.n := by omega
  refine run_guard (et_test (ev_op (ev_var rfl) ev_int rd_lt)) (fun _ => ?_) fun _ => ?_
  · -- a row changed
    have Rl : ((N.getD at' []).map PyData.int).length = b.n + 1 - at' := by rw [List.length_map, S.row at' ha]
    refine run_set (d := encI (N.getD at' [])) (ev_op (ev_var (d := .tuple (N.map encI)) rfl) (ev_var rfl) (rd_ixT (row_at S rfl ha))) ?_
    refine run_setP (cl_next (m := ((b.n + 1 - at' : Nat) : Int)) rfl (Ev.is (ev_cb (ea_cons (ev_var (d := .tuple ((N.getD at' []).map PyData.int)) rfl) ea_nil) cd_lenT) (by rw [Rl])) (by omega)) fun d ⟨to, e, ht⟩ => ?_
    subst e
    have cellE : ∀ {ds : Slots}, ds[9]? = some (.dat (encI (N.getD at' []))) → ds[10]? = some (.dat (.int (to : Int))) → Ev K (tOp (rIxT K) (tVar 9) (tVar 10)) ds (.int ((N.getD at' []).getD to 0)) := fun h1 h2 => ev_op (ev_var (d := .tuple ((N.getD at' []).map PyData.int)) h1) (ev_var h2) (rd_ixT (int_at rfl (by rw [S.row at' ha]; omega)))
    generalize hz : (N.getD at' []).getD to 0 = z at *
    refine run_set (d := .list [.int (z + 1), .int (z - 1), .int (z + 5), .none, .bool true, .str "0"]) (ev_lst (l := [.int (z + 1), .int (z - 1), .int (z + 5), .none, .bool true, .str "0"]) (ea_cons (ev_op (cellE rfl rfl) ev_int rd_add) (ea_cons (ev_op (cellE rfl rfl) ev_int rd_sub) (ea_cons (ev_op (cellE rfl rfl) ev_int rd_add) (ea_cons ev_non (ea_cons ev_bl (ea_cons ev_str ea_nil)))))) (by show 6 ≤ _; decide)) ?_
    refine run_setP (P := fun _ => True) (ev_pickP (n := 4) (S := fun _ => True) (ev_lstP (ea_consP (ev_repl (k := to) (n := 8) (P1 := fun _ => True) (ev_var (d := .tuple ((N.getD at' []).map PyData.int)) rfl) (ev_var rfl) (ev_pickP (n := 6) (S := fun _ => True) (Ev.to (ev_var rfl) ⟨_, rfl, rfl, fun _ _ => trivial⟩) ((cl_next (m := 6) rfl ev_int (by decide)).imp fun d ⟨k, e, hk⟩ => ⟨k, e, by omega⟩)) (by rw [Rl]; omega) (by decide))
      (ea_consP (PA := fun xs => ∃ a b c, xs = [.dat a, .dat b, .dat c]) (ev_from (k := 1) (n := 8) (ev_var (d := .tuple ((N.getD at' []).map PyData.int)) rfl) ev_int (by rw [Rl]; omega)) (ea_consP (PA := fun xs => ∃ b c, xs = [.dat b, .dat c]) (ev_catP (n := 8) (m := 1) (Ev.to (ev_var (d := .tuple ((N.getD at' []).map PyData.int)) rfl) ⟨_, rfl, by rw [Rl]; omega⟩) (ev_tup1 (P1 := fun _ => True) (Ev.to ev_int trivial)) (by decide)) (ea_cons (ev_cb (ea_cons (ev_var (d := .tuple ((N.getD at' []).map PyData.int)) rfl) ea_nil) cd_listT) ea_nil) fun d xs _ e => by subst e; exact ⟨d, _, rfl⟩) fun d xs _ ⟨b', c', e⟩ => by subst e; exact ⟨d, b', c', rfl⟩)
      fun d xs _ ⟨a', b', c', e⟩ => by subst e; exact ⟨[d, a', b', c'], rfl, by show 4 ≤ _; decide, _, rfl, rfl, fun _ _ => trivial⟩))
      (ev_pickP (n := 6) (Ev.to (ev_lst (l := [.int 0, .int 0, .int 0, .int 1, .int 2, .int 3]) (ea_cons ev_int (ea_cons ev_int (ea_cons ev_int (ea_cons ev_int (ea_cons ev_int (ea_cons ev_int ea_nil)))))) (by show 6 ≤ _; decide)) ⟨_, rfl, rfl, fun x hx => ?_⟩) ((cl_next (m := 6) rfl ev_int (by decide)).imp fun d ⟨k, e, hk⟩ => ⟨k, e, by omega⟩))) fun d _ => ?_
    · simp only [List.mem_cons, List.mem_nil_iff, or_false] at hx
      rcases hx with rfl | rfl | rfl | rfl | rfl | rfl
      · exact ⟨0, rfl, by decide⟩
      · exact ⟨0, rfl, by decide⟩
      · exact ⟨0, rfl, by decide⟩
      · exact ⟨1, rfl, by decide⟩
      · exact ⟨2, rfl, by decide⟩
      · exact ⟨3, rfl, by decide⟩
    · refine run_ret ((ev_pair (Ev.to (P := tupP 1000) (ev_var rfl) gR) (ev_pair (ev_repl (k := at') (n := 8) (P1 := fun _ => True) (ev_var (d := .tuple (N.map encI)) rfl) (ev_var rfl) (Ev.to (ev_var rfl) trivial) (by rw [Nl]; omega) (by decide)) (Ev.to (P := fun _ => True) (ev_var rfl) trivial))).imp fun d ⟨x, y, e, hx, _⟩ => by rw [e]; exact goodV_pair hx)
  refine run_guard (et_test (ev_op (ev_var rfl) ev_int rd_lt)) (fun _ => ?_) fun _ => ?_
  · have endE : ∀ {ds : Slots}, ds[5]? = some (.dat (encI E)) → ds[8]? = some (.dat (.int (at' : Int))) → Ev K (tOp (rIxT K) (tVar 5) (tVar 8)) ds (.int (tE E at')) := fun h1 h2 => ev_end hE (ev_var h1) (ev_var h2) rfl ha
    generalize tE E at' = z at *
    refine run_set (d := .list [.int (z + 1), .int (z - 1), .int (z + 5), .none, .bool false]) (ev_lst (l := [.int (z + 1), .int (z - 1), .int (z + 5), .none, .bool false]) (ea_cons (ev_op (endE rfl rfl) ev_int rd_add) (ea_cons (ev_op (endE rfl rfl) ev_int rd_sub) (ea_cons (ev_op (endE rfl rfl) ev_int rd_add) (ea_cons ev_non (ea_cons ev_bl ea_nil))))) (by show 5 ≤ _; decide)) ?_
    refine run_ret ((ev_pair (Ev.to (P := tupP 1000) (ev_var rfl) gR) (ev_pair (Ev.to (P := fun _ => True) (ev_var rfl) trivial) (ev_repl (k := at') (n := 8) (P1 := fun _ => True) (ev_var (d := .tuple (E.map PyData.int)) rfl) (ev_var rfl) (ev_pickP (n := 5) (S := fun _ => True) (Ev.to (ev_var rfl) ⟨_, rfl, rfl, fun _ _ => trivial⟩) ((cl_next (m := 5) rfl ev_int (by decide)).imp fun d ⟨k, e, hk⟩ => ⟨k, e, by omega⟩)) (by rw [El]; omega) (by decide)))).imp fun d ⟨x, y, e, hx, _⟩ => by rw [e]; exact goodV_pair hx)
  · exact run_ret (Ev.to (ev_var rfl) (goodV_pair gR))
theorem ok__law_other_pairs (B : Blt mg) (D : DefAt K mg "_law_other_pairs" "_law_other_pairs" s__law_other_pairs p__law_other_pairs) (D__law_next : DefAt K mg "_law_next" "_law_next" s__law_next p__law_next) (G__law_next : FnOk P w K mg base CX0 1 D__law_next.f D__law_next.fd p__law_next (spNext K)) :
    FnOk P w K mg base CX0 2 D.f D.fd p__law_other_pairs (spOther K) := by
  refine D.F.ok sc__law_other_pairs (fun vs H Q E h => spI_len h (fun _ => rfl)) (fun cdv A outer s H vs Q E hr h => ⟨_, (pss_cons (ps_set (i := 3) sc__law_other_pairs.nd rfl (.inl rfl) (pe_lst (pa_cons (pe_call G__law_next (hr.mono (by walk_at "lvl")) (by rfl) D__law_next.m D__law_next.F.kp D__law_next.b .nil pass0 (pa_cons (pv 0) (pa_cons (pe_callB (kLen K rfl) (by rfl) B.len bt_len (pa_cons (pv 1) pa_nil)) pa_nil))) (pa_cons (pe_call G__law_next (hr.mono (by walk_at "lvl")) (by rfl) D__law_next.m D__law_next.F.kp D__law_next.b .nil pass0 (pa_cons (pv 0) (pa_cons (pe_callB (kLen K rfl) (by rfl) B.len bt_len (pa_cons (pv 1) pa_nil)) pa_nil))) pa_nil))))
      (pss_cons (ps_set (i := 4) sc__law_other_pairs.nd rfl (.inl rfl) (pe_tup (pa_cons (pe_callB (kMin K rfl rfl) (by rfl) B.min bt_min (pa_cons (pv 3) pa_nil)) (pa_cons (pe_callB (kMax K rfl rfl) (by rfl) B.max bt_max (pa_cons (pv 3) pa_nil)) pa_nil))))
      (pss_cons (ps_if (PW.pt (pw_and (kTru K rfl (pv 2) (by intro _; rfl)) (pw_and1 (PW.pt (pw_or (pt_cmpR op_gt (pe_op op_add (pe_op op_mul pe_int (pe_callB (kLen K rfl) (by rfl) B.len bt_len (pa_cons (pv 2) pa_nil))) pe_int) (pe_callB (kLen K rfl) (by rfl) B.len bt_len (pa_cons (pv 1) pa_nil)) (nomark _)) (pw_or1 (pt_cmpR op_eq (pe_call G__law_next (hr.mono (by walk_at "lvl")) (by rfl) D__law_next.m D__law_next.F.kp D__law_next.b .nil pass0 (pa_cons (pv 0) (pa_cons pe_int pa_nil))) pe_int (nomark _)))))))) (pss_cons (ps_set (i := 5) sc__law_other_pairs.nd rfl (.inl rfl) (pe_call G__law_next (hr.mono (by walk_at "lvl")) (by rfl) D__law_next.m D__law_next.F.kp D__law_next.b .nil pass0 (pa_cons (pv 0) (pa_cons (pe_callB (kLen K rfl) (by rfl) B.len bt_len (pa_cons (pv 2) pa_nil)) pa_nil))))
      (pss_one (ps_ret (pe_op (kCat K rfl) (pe_op (kCat K rfl) (pe_slice (kSlT K rfl) (pv 2) po_none (po_some (pv 5))) (pe_tup (pa_cons (pv 4) pa_nil))) (pe_slice (kSlT K rfl) (pv 2) (po_some (pe_op op_add (pv 5) pe_int)) po_none))))) pss_nil)
      (pss_one (ps_ret (pe_callTy (kTup K rfl) (by rfl) B.tuple bt_tuple (pa_cons (pe_callB (kSortQ K rfl hr.units) (by rfl) B.sorted bt_sorted (pa_cons (pe_op (kCat K rfl) (pv 2) (pe_tup (pa_cons (pv 4) pa_nil))) pa_nil)) pa_nil))))))), run_fn0 h ?_⟩)
  rintro ⟨b, r⟩ ⟨o, hn, hr⟩
  have hn : 1 < b.n := hn
  have hr : 2 * r.length ≤ b.n := hr
  have n7 : b.n ≤ 7 := o.s12
  have hs : (b.ss.map iD).length = b.n := List.length_map _
  show Run K _ ([.strm, .dat b.S, .dat (encR r), .nil, .nil, .nil] : Slots) _ (fun d => ∃ l, d = .tuple l ∧ 2 * l.length ≤ b.n)
  have lenS : ∀ {ds : Slots}, ds[1]? = some (.dat b.S) → Ev K (tCB (rLen K) (tCons (tVar 1) tNil)) ds (.int (b.n : Int)) := fun h => Ev.is (ev_cb (ea_cons (ev_var (d := .tuple (b.ss.map iD)) h) ea_nil) cd_lenT) (by rw [hs])
  have lenR : ∀ {ds : Slots}, ds[2]? = some (.dat (encR r)) → Ev K (tCB (rLen K) (tCons (tVar 2) tNil)) ds (.int (r.length : Int)) := fun h => Ev.is (ev_cb (ea_cons (ev_var (d := .tuple (r.map encPr)) h) ea_nil) cd_lenT) (by rw [List.length_map])
  have nx : ∀ {ds : Slots} {E : XK}, ds[0]? = some .strm → ds[1]? = some (.dat b.S) → EvP K (tCall (spNext K) [] E (tCons (tVar 0) (tCons (tCB (rLen K) (tCons (tVar 1) tNil)) tNil))) ds (fun d => ∃ k : Nat, d = .int (k : Int)) := fun h0 h1 => (cl_next (m := (b.n : Int)) h0 (lenS h1) (by omega)).imp fun d ⟨k, e, _⟩ => ⟨k, e⟩
  refine run_setP (P := fun d => ∃ x y : Nat, d = .list (([(x : Int), (y : Int)] : List Int).map .int)) (ev_lstP (ea_consP (nx rfl rfl) (ea_consP (PA := fun xs => ∃ k : Nat, xs = [.dat (.int (k : Int))]) (nx rfl rfl) ea_nil fun d xs ⟨k, e1⟩ e2 => ⟨k, by rw [e1, e2]⟩) fun d xs ⟨k, e1⟩ ⟨k2, e2⟩ => ⟨[.int (k : Int), .int (k2 : Int)], by rw [e1, e2]; rfl, by show 2 ≤ _; decide, k, k2, rfl⟩)) fun d ⟨x, y, e⟩ => ?_
  subst e
  refine run_setP (P := fun d => ∃ p : Pr, d = encPr p) ((ev_pair (P1 := fun d => ∃ k : Nat, d = .int (k : Int)) (P2 := fun d => ∃ k : Nat, d = .int (k : Int)) (ev_cb (ea_cons (ev_var rfl) ea_nil) ?_) (ev_cb (ea_cons (ev_var rfl) ea_nil) ?_)).imp fun d ⟨u, v, e, ⟨k1, e1⟩, ⟨k2, e2⟩⟩ => ⟨(k1, k2), by rw [e, e1, e2]; rfl⟩) fun d ⟨q, e⟩ => ?_
  · exact fun p B H vs he w Q k => cd_min (by simp) p B H vs he w Q fun d v B' H' ⟨m, hm, _, e⟩ hd g => k d v B' H' (by
      simp at hm
      rcases hm with rfl | rfl
      · exact ⟨_, e⟩
      · exact ⟨_, e⟩) hd g
  · exact fun p B H vs he w Q k => cd_max (by simp) p B H vs he w Q fun d v B' H' ⟨m, hm, _, e⟩ hd g => k d v B' H' (by
      simp at hm
      rcases hm with rfl | rfl
      · exact ⟨_, e⟩
      · exact ⟨_, e⟩) hd g
  subst e
  refine run_guardP (PB := fun c => (c = true → r ≠ []) ∧ (c = false → r = [] ∨ 2 * r.length + 2 ≤ b.n)) (et_andP (a := !(r.map encPr).isEmpty) (ev_tru (ev_var (d := .tuple (r.map encPr)) rfl)) (fun h => ⟨fun h => (by cases h), fun _ => .inl ?_⟩) fun h => ?_) (fun ⟨h, _⟩ => ?_) (fun ⟨_, h⟩ => ?_)
  · cases r with
    | nil => rfl
    | cons _ _ => cases h
  · have hne : r ≠ [] := fun e => by rw [e] at h; cases h
    refine et_orP (a := decide ((b.n : Int) < 2 * (r.length : Int) + 2)) (et_test (ev_op (ev_op (ev_op ev_int (lenR rfl) (rd_mul (.inl (by decide)))) ev_int rd_add) (lenS rfl) rd_gt)) (fun _ => ⟨fun _ => hne, fun h => (by cases h)⟩) fun h2 => ?_
    have h2 := of_decide_eq_false h2
    exact et_testP (ev_opP (cl_next (m := 3) rfl ev_int (by decide)) ev_int fun d1 d2 ⟨k, e1, _⟩ e2 => by
      subst e1 e2
      exact fun p B H x y hx hy w Q kk => rd_eqI p B H x y hx hy w Q fun d v B' H' q hd g => kk d v B' H' ⟨_, q, fun _ => hne, fun _ => .inr (by omega)⟩ hd g)
  · have hne := h rfl
    have hpos : 0 < r.length := by
      cases r with
      | nil => exact absurd rfl hne
      | cons _ _ => simp
    refine run_setP (cl_next (m := (r.length : Int)) rfl (lenR rfl) (by omega)) fun d ⟨k, e, hk⟩ => ?_
    subst e
    have hk : k < r.length := by omega
    refine run_ret (Ev.to (ev_op (ev_op (Ev.is (ev_slT (ev_var (d := .tuple (r.map encPr)) rfl) eo_none (eo_some (ev_var rfl))) (by rw [cutL_to])) (ev_tup (l := [encPr q]) (ea_cons (ev_var rfl) ea_nil) (by show 1 ≤ _; decide)) (rd_cat (Nat.le_trans (show ((r.map encPr).take k).length + 1 ≤ 100000 by rw [List.length_take, List.length_map]; omega) (by decide)))) (Ev.is (ev_slT (ev_var (d := .tuple (r.map encPr)) rfl) (eo_some (Ev.is (ev_op (ev_var rfl) ev_int rd_add) (show _ = PyData.int ((k + 1 : Nat) : Int) by congr 1))) eo_none) (by rw [cutL_from])) (rd_cat (Nat.le_trans (show (((r.map encPr).take k) ++ [encPr q]).length + ((r.map encPr).drop (k + 1)).length ≤ 100000 by rw [List.length_append, List.length_take, List.length_drop, List.length_map]; show _ + 1 + _ ≤ _; omega) (by decide)))) ⟨_, rfl, ?_⟩)
    rw [List.length_append, List.length_append, List.length_take, List.length_drop, List.length_map]
    show 2 * (_ + 1 + _) ≤ _
    omega
  · have h := h rfl
    refine run_ret (Ev.to (ev_cb (ea_cons (ev_cb (ea_cons (Ev.is (ev_op (ev_var (d := .tuple (r.map encPr)) rfl) (ev_tup (l := [encPr q]) (ea_cons (ev_var rfl) ea_nil) (by show 1 ≤ _; decide)) (rd_cat (Nat.le_trans (show (r.map encPr).length + 1 ≤ 100000 by rw [List.length_map]; omega) (by decide)))) (show _ = PyData.tuple ((r ++ [q]).map encPr) by rw [List.map_append]; rfl)) ea_nil) cd_sortQ) ea_nil) cd_tupL) ⟨_, rfl, ?_⟩)
    rw [List.length_map, (sortQ_perm _).length_eq, List.length_append]
    show 2 * (r.length + 1) ≤ b.n
    rcases h with h | h
    · rw [h]; show 2 * 1 ≤ b.n; omega
    · omega
end
end K47
/-! K47: the law. -/
namespace K47
open PySem PySem.Spec PyProof.Rows L2
local macro_rules | `(tactic| walk_at "lvl") => `(tactic| first | decide | omega)
local macro_rules | `(tactic| walk_at "at") => `(tactic| first | rfl | assumption | exact atN (by assumption))
def spLaw (K : PySem.W.Frag) : Sp := fun vs H Q _ => ∃ (a : Addr) (ns : List Int), vs = [.ref a] ∧ SqL K H a (ns.map V.int) ∧ ns.length ≤ 63 ∧ ∀ H', Q (.bl true) H'
theorem gName_run {i : Nat} {v : V} {σ : L2.St} {H : Hp} {D : Ends} {t u : TS} (h : tSeq t u D (σ.set i (some v)) H) : gName i v σ H (tSeq t u D) := h
theorem valid_of {b : Bk} {x : PyData} (h : validD b x = true) : ∃ ps, x = encR ps ∧ Valid b.n b.cp ps := by
  cases x with
  | tuple l =>
    have h : (match decAll b l with | some ps => okPairs ps | none => false) = true := h
    cases hd : decAll b l with
    | none => rw [hd] at h; cases h
    | some ps =>
      rw [hd] at h
      obtain ⟨e, hg⟩ := decAll_some hd
      exact ⟨ps, by rw [e]; rfl, (good_valid hg).mp h⟩
  | _ => cases h
theorem ev_many {b : Bk} {many : Int} {v : PyData} (h : evB b many v = true) : many = (b.n : Int) - 2 * (en b.n b.cp 0 : Int) := by
  cases v with
  | tuple l =>
    match l, h with
    | [x, y], h =>
      have h : (validD b x && (decide ((b.n : Int) - 2 * (lenT x : Int) = many) && (tabsB b y && decide (firstE y ≤ (lenT x : Int))))) = true := h
      rw [Bool.and_eq_true, Bool.and_eq_true, Bool.and_eq_true, decide_eq_true_iff, decide_eq_true_iff] at h
      obtain ⟨h1, h2, h3, h4⟩ := h
      obtain ⟨ps, rfl, hv⟩ := valid_of h1
      obtain ⟨N, E, rfl, S, hE, hr⟩ := tabs_of h3
      have el : lenT (encR ps) = ps.length := by show (ps.map encPr).length = _; rw [List.length_map]
      rw [first_is hE, el] at h4
      have := told_is hv hr h4
      rw [← h2, el, this]
    | [], h => cases h
    | [_], h => cases h
    | _ :: _ :: _ :: _, h => cases h
  | _ => cases h
theorem ev_told {b : Bk} {r : List Pr} (h : MaxRow b.n b.cp 0 r) : evB b ((b.n : Int) - 2 * (r.length : Int)) (.tuple [encR r, tabD (leastN b.n b.cp) (leastE b.n b.cp)]) = true := by
  have el : lenT (encR r) = r.length := by show (r.map encPr).length = _; rw [List.length_map]
  show (validD b (encR r) && (decide ((b.n : Int) - 2 * (lenT (encR r) : Int) = (b.n : Int) - 2 * (r.length : Int)) && (tabsB b (tabD (leastN b.n b.cp) (leastE b.n b.cp)) && decide (firstE (tabD (leastN b.n b.cp) (leastE b.n b.cp)) ≤ (lenT (encR r) : Int))))) = true
  rw [validD_row, (okRow_iff _ _).mpr (valid_row.mpr h.1), el, decide_eq_true rfl, tabs_yes ⟨_, _, rfl, least_shp _ _, least_len _ _, least_ok⟩, first_is (least_len b.n b.cp), leastE_at (Nat.zero_le _), decide_eq_true (by rw [h.2]; exact Int.le_refl _)]
  rfl
theorem iT_ints (m : Nat) (l : List Int) (h : l.length ≤ 1000) : iT (m + 1) (.tuple (l.map .int)) := ⟨by rw [List.length_map]; exact h, fun d hd => by
  obtain ⟨z, _, rfl⟩ := List.mem_map.mp hd
  cases m <;> trivial⟩
theorem iT_row (m : Nat) (r : List Pr) (h : r.length ≤ 1000) : iT (m + 2) (encR r) := ⟨by rw [List.length_map]; exact h, fun d hd => by
  obtain ⟨p, _, rfl⟩ := List.mem_map.mp hd
  exact iT_ints m [(p.1 : Int), (p.2 : Int)] (by show 2 ≤ 1000; decide)⟩
theorem iT_tab {n : Nat} (cp : Nat → Nat → Bool) (hn : n ≤ 7) : iT 3 (tabD (leastN n cp) (leastE n cp)) := by
  refine ⟨by show 2 ≤ 1000; decide, fun d hd => ?_⟩
  have hd : d ∈ [encN2 (leastN n cp), encI (leastE n cp)] := hd
  simp only [List.mem_cons, List.mem_nil_iff, or_false] at hd
  rcases hd with rfl | rfl
  · refine ⟨by rw [List.length_map, (least_shp n cp).len]; omega, fun d hd => ?_⟩
    obtain ⟨row, hrow, rfl⟩ := List.mem_map.mp hd
    refine iT_ints 0 row ?_
    unfold leastN at hrow
    obtain ⟨i, hi, rfl⟩ := List.mem_map.mp hrow
    rw [List.length_map, List.length_range]
    omega
  · exact iT_ints 1 _ (by rw [least_len]; omega)
section
variable {P : Program} {w : World} {K : PySem.W.Frag} {mg : Str → Option Value} {base : Heap}
theorem ok_law (B : Blt mg) (D : DefAt K mg "law" "law" s_law p_law)
    (D__law_stream : DefAt K mg "_law_stream" "_law_stream" s__law_stream p__law_stream) (G__law_stream : FnOk P w K mg base CX0 1 D__law_stream.f D__law_stream.fd p__law_stream (spStream K))
    (D__law_next : DefAt K mg "_law_next" "_law_next" s__law_next p__law_next) (G__law_next : FnOk P w K mg base CX0 1 D__law_next.f D__law_next.fd p__law_next (spNext K))
    (D__law_paper : DefAt K mg "_law_paper" "_law_paper" s__law_paper p__law_paper) (G__law_paper : FnOk P w K mg base CX0 2 D__law_paper.f D__law_paper.fd p__law_paper (spPaperD K))
    (D__law_sequence : DefAt K mg "_law_sequence" "_law_sequence" s__law_sequence p__law_sequence) (G__law_sequence : FnOk P w K mg base CX0 2 D__law_sequence.f D__law_sequence.fd p__law_sequence (spSeqD K))
    (D__law_all_valid : DefAt K mg "_law_all_valid" "_law_all_valid" s__law_all_valid p__law_all_valid) (G__law_all_valid : FnOk P w K mg base CX0 4 D__law_all_valid.f D__law_all_valid.fd p__law_all_valid (spAll K))
    (D__law_greatest : DefAt K mg "_law_greatest" "_law_greatest" s__law_greatest p__law_greatest) (G__law_greatest : FnOk P w K mg base CX0 1 D__law_greatest.f D__law_greatest.fd p__law_greatest (spLG K))
    (D_missing_evidence : DefAt K mg "missing_evidence" "missing_evidence" s_missing_evidence p_missing_evidence) (G_missing_evidence : FnOk P w K mg base CX0 6 D_missing_evidence.f D_missing_evidence.fd p_missing_evidence (spMiss K))
    (D__law_tables : DefAt K mg "_law_tables" "_law_tables" s__law_tables p__law_tables) (G__law_tables : FnOk P w K mg base CX0 1 D__law_tables.f D__law_tables.fd p__law_tables (spLT K))
    (D__law_equal : DefAt K mg "_law_equal" "_law_equal" s__law_equal p__law_equal) (G__law_equal : FnOk P w K mg base CX0 6 D__law_equal.f D__law_equal.fd p__law_equal (spEq K 4))
    (D_accepts_missing : DefAt K mg "accepts_missing" "accepts_missing" s_accepts_missing p_accepts_missing) (G_accepts_missing : FnOk P w K mg base CX0 5 D_accepts_missing.f D_accepts_missing.fd p_accepts_missing (spEv K))
    (D__law_is_evidence : DefAt K mg "_law_is_evidence" "_law_is_evidence" s__law_is_evidence p__law_is_evidence) (G__law_is_evidence : FnOk P w K mg base CX0 5 D__law_is_evidence.f D__law_is_evidence.fd p__law_is_evidence (spEv K))
    (D__law_turned : DefAt K mg "_law_turned" "_law_turned" s__law_turned p__law_turned) (G__law_turned : FnOk P w K mg base CX0 2 D__law_turned.f D__law_turned.fd p__law_turned (spTurned K))
    (D__law_other_pairs : DefAt K mg "_law_other_pairs" "_law_other_pairs" s__law_other_pairs p__law_other_pairs) (G__law_other_pairs : FnOk P w K mg base CX0 2 D__law_other_pairs.f D__law_other_pairs.fd p__law_other_pairs (spOther K)) :
    FnOk P w K mg base CX0 7 D.f D.fd p_law (spLaw K) := by
  refine D.F.ok sc_law (fun vs H Q E h => by obtain ⟨a, ns, rfl, _⟩ := h; rfl) (fun cdv A outer s H vs Q E hr h => ⟨_, (pss_cons (ps_set (i := 1) sc_law.nd rfl (.inl rfl) (pe_call G__law_stream (hr.mono (by walk_at "lvl")) (by rfl) D__law_stream.m D__law_stream.F.kp D__law_stream.b .nil pass0 (pa_cons (pv 0) pa_nil)))
      (pss_cons (ps_set (i := 2) sc_law.nd rfl (.inl rfl) (pe_call G__law_paper (hr.mono (by walk_at "lvl")) (by rfl) D__law_paper.m D__law_paper.F.kp D__law_paper.b .nil pass0 (pa_cons (pv 1) (pa_cons pe_int pa_nil))))
      (pss_cons (ps_set (i := 3) sc_law.nd rfl (.inl rfl) (pe_call G__law_sequence (hr.mono (by walk_at "lvl")) (by rfl) D__law_sequence.m D__law_sequence.F.kp D__law_sequence.b .nil pass0 (pa_cons (pv 1) (pa_cons (pv 2) (pa_cons pe_int pa_nil)))))
      (pss_cons (ps_set (i := 4) sc_law.nd rfl (.inl rfl) (pe_call G__law_all_valid (hr.mono (by walk_at "lvl")) (by rfl) D__law_all_valid.m D__law_all_valid.F.kp D__law_all_valid.b .nil pass0 (pa_cons (pv 2) (pa_cons (pv 3) pa_nil))))
      (pss_cons (ps_set (i := 5) sc_law.nd rfl (.inl rfl) (pe_call G__law_greatest (hr.mono (by walk_at "lvl")) (by rfl) D__law_greatest.m D__law_greatest.F.kp D__law_greatest.b .nil pass0 (pa_cons (pv 4) pa_nil)))
      (pss_cons (ps_set (i := 6) sc_law.nd rfl (.inl rfl) (pe_op op_sub (pe_callB (kLen K rfl) (by rfl) B.len bt_len (pa_cons (pv 3) pa_nil)) (pe_op op_mul pe_int (pe_callB (kLen K rfl) (by rfl) B.len bt_len (pa_cons (pe_ix (kIxL K rfl) (pv 5) pe_int (fun _ _ => rfl)) pa_nil)))))
      (pss_cons (ps_set (i := 7) sc_law.nd rfl (.inl rfl) (pe_call G_missing_evidence (hr.mono (by walk_at "lvl")) (by rfl) D_missing_evidence.m D_missing_evidence.F.kp D_missing_evidence.b .nil pass0 (pa_cons (pv 2) (pa_cons (pv 3) pa_nil))))
      (pss_cons (ps_set (i := 8) sc_law.nd rfl (.inl rfl) (pe_tup (pa_cons (pe_ix (kIxL K rfl) (pv 5) pe_int (fun _ _ => rfl)) (pa_cons (pe_call G__law_tables (hr.mono (by walk_at "lvl")) (by rfl) D__law_tables.m D__law_tables.F.kp D__law_tables.b .nil pass0 (pa_cons (pv 2) (pa_cons (pv 3) pa_nil))) pa_nil))))
      (pss_cons (ps_if (PW.pt (pw_or (pt_not (pt_val (pe_call G__law_equal (hr.mono (by walk_at "lvl")) (by rfl) D__law_equal.m D__law_equal.F.kp D__law_equal.b .nil pass0 (pa_cons (pv 7) (pa_cons (pv 8) pa_nil))))) (pw_or1 (pt_cmpR op_notBl (pe_call G_accepts_missing (hr.mono (by walk_at "lvl")) (by rfl) D_accepts_missing.m D_accepts_missing.F.kp D_accepts_missing.b .nil pass0 (pa_cons (pv 2) (pa_cons (pv 3) (pa_cons (pv 6) (pa_cons (pv 7) pa_nil))))) pe_bl (nomark _))))) (pss_one (ps_ret pe_bl)) pss_nil)
      (pss_cons (ps_for PassesOwn.never rfl (kPiL K rfl (pe_lst (pa_cons (pe_call G__law_next (hr.mono (by walk_at "lvl")) (by rfl) D__law_next.m D__law_next.F.kp D__law_next.b .nil pass0 (pa_cons (pv 1) (pa_cons (pe_callB (kLen K rfl) (by rfl) B.len bt_len (pa_cons (pe_ix (kIxT K rfl) (pe_ix (kIxT K rfl) (pv 7) pe_int (fun _ _ => rfl)) pe_int (fun _ _ => rfl)) pa_nil)) pa_nil))) (pa_cons pe_int pa_nil)))) (pg_name (i := 9) sc_law.nd rfl (.inl rfl))
      (pss_cons (ps_set (i := 10) sc_law.nd rfl (.inl rfl) (pe_ix (kIxT K rfl) (pe_ix (kIxT K rfl) (pe_ix (kIxT K rfl) (pv 7) pe_int (fun _ _ => rfl)) pe_int (fun _ _ => rfl)) (pv 9) (fun _ _ => rfl)))
      (pss_one (ps_for PassesOwn.never rfl (pi_range1 (by rfl) B.range (pa_cons (pe_callB (kLen K rfl) (by rfl) B.len bt_len (pa_cons (pv 10) pa_nil)) pa_nil)) (pg_name (i := 11) sc_law.nd rfl (.inl rfl))
      (pss_cons (ps_set (i := 12) sc_law.nd rfl (.inl rfl) (pe_op (kCat K rfl) (pe_op (kCat K rfl) (pe_slice (kSlT K rfl) (pv 10) po_none (po_some (pv 11))) (pe_tup (pa_cons (pe_op op_sub (pe_ix (kIxT K rfl) (pv 10) (pv 11) (fun _ _ => rfl)) pe_int) pa_nil))) (pe_slice (kSlT K rfl) (pv 10) (po_some (pe_op op_add (pv 11) pe_int)) po_none)))
      (pss_cons (ps_set (i := 13) sc_law.nd rfl (.inl rfl) (pe_tup (pa_cons (pe_ix (kIxL K rfl) (pv 5) pe_int (fun _ _ => rfl)) (pa_cons (pe_tup (pa_cons (pe_op (kCat K rfl) (pe_op (kCat K rfl) (pe_slice (kSlT K rfl) (pe_ix (kIxT K rfl) (pe_ix (kIxT K rfl) (pv 7) pe_int (fun _ _ => rfl)) pe_int (fun _ _ => rfl)) po_none (po_some (pv 9))) (pe_tup (pa_cons (pv 12) pa_nil))) (pe_slice (kSlT K rfl) (pe_ix (kIxT K rfl) (pe_ix (kIxT K rfl) (pv 7) pe_int (fun _ _ => rfl)) pe_int (fun _ _ => rfl)) (po_some (pe_op op_add (pv 9) pe_int)) po_none)) (pa_cons (pe_ix (kIxT K rfl) (pe_ix (kIxT K rfl) (pv 7) pe_int (fun _ _ => rfl)) pe_int (fun _ _ => rfl)) pa_nil))) pa_nil))))
      (pss_one (ps_if (pt_not (pt_val (pe_call G__law_equal (hr.mono (by walk_at "lvl")) (by rfl) D__law_equal.m D__law_equal.F.kp D__law_equal.b .nil pass0 (pa_cons (pe_call G_accepts_missing (hr.mono (by walk_at "lvl")) (by rfl) D_accepts_missing.m D_accepts_missing.F.kp D_accepts_missing.b .nil pass0 (pa_cons (pv 2) (pa_cons (pv 3) (pa_cons (pv 6) (pa_cons (pv 13) pa_nil))))) (pa_cons (pe_call G__law_is_evidence (hr.mono (by walk_at "lvl")) (by rfl) D__law_is_evidence.m D__law_is_evidence.F.kp D__law_is_evidence.b .nil pass0 (pa_cons (pv 2) (pa_cons (pv 3) (pa_cons (pv 6) (pa_cons (pv 13) pa_nil))))) pa_nil))))) (pss_one (ps_ret pe_bl)) pss_nil))))))))
      (pss_cons (ps_for PassesOwn.never rfl (pi_range1 (by rfl) B.range (pa_cons pe_int pa_nil)) (pg_name (i := 14) sc_law.nd rfl (.inl rfl))
      (pss_cons (ps_set (i := 15) sc_law.nd rfl (.inl rfl) (pe_ix (kIxL K rfl) (pe_lst (pa_cons (pe_ix (kIxL K rfl) (pv 5) (pe_call G__law_next (hr.mono (by walk_at "lvl")) (by rfl) D__law_next.m D__law_next.F.kp D__law_next.b .nil pass0 (pa_cons (pv 1) (pa_cons (pe_callB (kLen K rfl) (by rfl) B.len bt_len (pa_cons (pv 5) pa_nil)) pa_nil))) (fun _ _ => rfl)) (pa_cons (pe_ix (kIxL K rfl) (pv 4) (pe_call G__law_next (hr.mono (by walk_at "lvl")) (by rfl) D__law_next.m D__law_next.F.kp D__law_next.b .nil pass0 (pa_cons (pv 1) (pa_cons (pe_callB (kLen K rfl) (by rfl) B.len bt_len (pa_cons (pv 4) pa_nil)) pa_nil))) (fun _ _ => rfl)) (pa_cons (pe_ix (kIxT K rfl) (pv 7) pe_int (fun _ _ => rfl)) pa_nil)))) (pe_call G__law_next (hr.mono (by walk_at "lvl")) (by rfl) D__law_next.m D__law_next.F.kp D__law_next.b .nil pass0 (pa_cons (pv 1) (pa_cons pe_int pa_nil))) (fun _ _ => rfl)))
      (pss_cons (ps_set (i := 13) sc_law.nd rfl (.inl rfl) (pe_call G__law_turned (hr.mono (by walk_at "lvl")) (by rfl) D__law_turned.m D__law_turned.F.kp D__law_turned.b .nil pass0 (pa_cons (pv 1) (pa_cons (pe_tup (pa_cons (pv 15) (pa_cons (pe_ix (kIxT K rfl) (pv 7) pe_int (fun _ _ => rfl)) pa_nil))) pa_nil))))
      (pss_cons (ps_set (i := 16) sc_law.nd rfl (.inl rfl) (pe_ix (kIxL K rfl) (pe_lst (pa_cons (pv 6) (pa_cons (pv 6) (pa_cons (pe_op op_sub (pe_callB (kLen K rfl) (by rfl) B.len bt_len (pa_cons (pv 3) pa_nil)) (pe_op op_mul pe_int (pe_callB (kLen K rfl) (by rfl) B.len bt_len (pa_cons (pv 15) pa_nil)))) (pa_cons (pe_call G__law_next (hr.mono (by walk_at "lvl")) (by rfl) D__law_next.m D__law_next.F.kp D__law_next.b .nil pass0 (pa_cons (pv 1) (pa_cons pe_int pa_nil))) pa_nil))))) (pe_call G__law_next (hr.mono (by walk_at "lvl")) (by rfl) D__law_next.m D__law_next.F.kp D__law_next.b .nil pass0 (pa_cons (pv 1) (pa_cons pe_int pa_nil))) (fun _ _ => rfl)))
      (pss_cons (ps_if (PW.pt (pw_and (pt_cmpR op_gt (pv 14) pe_int (nomark _)) (pw_and1 (pt_cmpR op_gt (pe_callB (kLen K rfl) (by rfl) B.len bt_len (pa_cons (pv 3) pa_nil)) pe_int (nomark _))))) (pss_cons (ps_set (i := 13) sc_law.nd rfl (.inl rfl) (pe_tup (pa_cons (pe_call G__law_other_pairs (hr.mono (by walk_at "lvl")) (by rfl) D__law_other_pairs.m D__law_other_pairs.F.kp D__law_other_pairs.b .nil pass0 (pa_cons (pv 1) (pa_cons (pv 3) (pa_cons (pv 15) pa_nil)))) (pa_cons (pe_ix (kIxT K rfl) (pv 7) pe_int (fun _ _ => rfl)) pa_nil))))
      (pss_one (ps_set (i := 16) sc_law.nd rfl (.inl rfl) (pe_op op_sub (pe_callB (kLen K rfl) (by rfl) B.len bt_len (pa_cons (pv 3) pa_nil)) (pe_op op_mul pe_int (pe_callB (kLen K rfl) (by rfl) B.len bt_len (pa_cons (pe_ix (kIxT K rfl) (pv 13) pe_int (fun _ _ => rfl)) pa_nil))))))) pss_nil)
      (pss_cons (ps_set (i := 17) sc_law.nd rfl (.inl rfl) (pe_call G__law_is_evidence (hr.mono (by walk_at "lvl")) (by rfl) D__law_is_evidence.m D__law_is_evidence.F.kp D__law_is_evidence.b .nil pass0 (pa_cons (pv 2) (pa_cons (pv 3) (pa_cons (pv 16) (pa_cons (pv 13) pa_nil))))))
      (pss_one (ps_if (PW.pt (pw_or (pt_not (pt_val (pe_call G__law_equal (hr.mono (by walk_at "lvl")) (by rfl) D__law_equal.m D__law_equal.F.kp D__law_equal.b .nil pass0 (pa_cons (pe_call G_accepts_missing (hr.mono (by walk_at "lvl")) (by rfl) D_accepts_missing.m D_accepts_missing.F.kp D_accepts_missing.b .nil pass0 (pa_cons (pv 2) (pa_cons (pv 3) (pa_cons (pv 16) (pa_cons (pv 13) pa_nil))))) (pa_cons (pv 17) pa_nil))))) (pw_or1 (PW.pt (pw_and (pt_val (pv 17)) (pw_and1 (pt_cmpR op_ne (pv 16) (pv 6) (nomark _)))))))) (pss_one (ps_ret pe_bl)) pss_nil))))))))
      (pss_one (ps_ret pe_bl))))))))))))), ?_⟩)
  obtain ⟨a0, ns, rfl, hs, hl, q⟩ := h
  refine ⟨_, rfl, a0, ns, rfl, hs, hl, fun a c hc hca ha => ?_⟩
  let p : Pst := { st := some (a, c), own := fun _ => none, nw := fun _ => False }
  have s1 : Same H (upd H c (.lst (ns.map V.int))) := same_new hc
  have s2 : Same (upd H c (.lst (ns.map V.int))) (upd (upd H c (.lst (ns.map V.int))) a (.lst [.ref c, .int 0, .int 0])) := same_new (by rw [upd_ne hca.symm]; exact ha)
  have W : Wf p H (upd (upd H c (.lst (ns.map V.int))) a (.lst [.ref c, .int 0, .int 0])) := by
    refine ⟨s1.trans s2, fun x y e => ?_, fun x y e => ?_, fun x o e => (by cases e), fun x y e => ⟨rfl, rfl⟩⟩
    · cases e
      exact ⟨ns, 0, 0, upd_same, hca, by rw [upd_ne hca, upd_same], hl⟩
    · cases e
      exact ha
  refine gName_run ?_
  refine (?_ : Run K _ ([.nil, .strm, .nil, .nil, .nil, .nil, .nil, .nil, .nil, .nil, .nil, .nil, .nil, .nil, .nil, .nil, .nil, .nil] : Slots) (fun _ => False) (fun d => d = .bool true)) p H _ _ _ ?_ W (fun _ _ _ _ z => z.elim) ?_
  rotate_left
  · exact .cons trivial (.cons ⟨a, c, rfl, rfl⟩ (.cons trivial (.cons trivial (.cons trivial (.cons trivial (.cons trivial (.cons trivial (.cons trivial (.cons trivial (.cons trivial (.cons trivial (.cons trivial (.cons trivial (.cons trivial (.cons trivial (.cons trivial (.cons trivial .nil)))))))))))))))))
  · intro d v B' H' e hd _
    subst e
    cases hd
    exact q H'
  refine run_setP (P := fun d => ∃ pp, d = encN pp ∧ Paper pp) (ev_call (3 : Nat) (ea_strm rfl (ea_cons ev_int ea_nil) fun xs e => by rw [e]; rfl) ⟨by decide, by decide⟩ fun d h => h) fun d ⟨pp, e, hp⟩ => ?_
  subst e
  refine run_setP (P := fun d => ∃ ss, d = encN ss ∧ ss.length ≤ 7 ∧ ∀ x ∈ ss, x < pp.length) (ev_call pp (ea_strm rfl (ea_cons (ev_var rfl) (ea_cons ev_int ea_nil)) fun xs e => by rw [e]) hp fun d h => h) fun d ⟨ss, e, hss, hsm⟩ => ?_
  subst e
  obtain ⟨b, hbP, hbS⟩ : ∃ b : Bk, b.pp = pp ∧ b.ss = ss := ⟨⟨pp, ss⟩, rfl, rfl⟩
  subst hbP hbS
  have o : b.Ok := ⟨hp.p1, hp.p6, hp.pm, hp.inv, hss, hsm⟩
  have n7 : b.n ≤ 7 := hss
  have hs' : (b.ss.map iD).length = b.n := List.length_map _
  let rows := sortR (allV b.n b.cp b.n)
  have rowsM : ∀ l, l ∈ rows ↔ Valid b.n b.cp l := fun l => by rw [(sortR_perm _).mem_iff, allV_all]
  have rowsL : rows.length ≤ 823543 := by rw [(sortR_perm _).length_eq]; exact allV_len7 n7 n7
  have rowsS : rows.Pairwise fun x y => ltRow y x = false := sortR_sorted _
  refine run_set (d := .list (rows.map encR)) (ev_call b (ea_cons (ev_var rfl) (ea_cons (ev_var rfl) ea_nil)) o fun d h => h) ?_
  generalize rows = rows at *
  refine run_set (d := .list ((greatV b.n b.cp rows).map encR)) (ev_call (b, rows) (ea_cons (ev_var rfl) ea_nil) ⟨rowsM, Nat.le_trans rowsL (by decide)⟩ fun d h => h) ?_
  have gM := great_mem rowsM
  have gS : (greatV b.n b.cp rows).Pairwise fun x y => ltRow y x = false := rowsS.filter _
  have gL : (greatV b.n b.cp rows).length ≤ 823543 := Nat.le_trans (List.length_filter_le _ _) rowsL
  generalize greatV b.n b.cp rows = great at *
  obtain ⟨r, gr, rfl⟩ : ∃ r gr, great = r :: gr := by
    cases great with
    | nil =>
      obtain ⟨l, hl⟩ := maxRow_some (n := b.n) (cp := b.cp) b.n (Nat.zero_le _) (Nat.le_refl _)
      exact absurd ((gM l).mpr hl) (by simp)
    | cons r gr => exact ⟨r, gr, rfl⟩
  have hr : MaxRow b.n b.cp 0 r := (gM r).mp List.mem_cons_self
  have rl : 2 * r.length ≤ b.n := by have := hr.1.len2; omega
  have lenS : ∀ {ds : Slots}, ds[3]? = some (.dat (encN b.ss)) → Ev K (tCB (rLen K) (tCons (tVar 3) tNil)) ds (.int (b.n : Int)) := fun h => Ev.is (ev_cb (ea_cons (ev_var (d := .tuple (b.ss.map iD)) h) ea_nil) cd_lenT) (by rw [hs'])
  have g0 : ∀ {ds : Slots}, ds[5]? = some (.dat (.list ((r :: gr).map encR))) → Ev K (tOp (rIxL K) (tVar 5) (tC (.int 0))) ds (encR r) := fun h => ev_op (ev_var h) ev_int (rd_ixL (show atI ((r :: gr).map encR) ((0 : Nat) : Int) = some (encR r) from atI_natD rfl))
  let miss : Int := (b.n : Int) - 2 * (r.length : Int)
  have hmiss : 0 ≤ miss ∧ miss ≤ 12 := ⟨by omega, by omega⟩
  refine run_set (d := .int miss) (ev_op (lenS rfl) (ev_op ev_int (Ev.is (ev_cb (ea_cons (ev_op (P := fun d => d = .tuple (r.map encPr)) (ev_var (d := .list ((r :: gr).map encR)) rfl) ev_int (rd_ixL (show atI ((r :: gr).map encR) ((0 : Nat) : Int) = some (encR r) from atI_natD rfl))) ea_nil) cd_lenT) (by rw [List.length_map])) (rd_mul (.inl (by decide)))) rd_sub) ?_
  let TB := tabD (leastN b.n b.cp) (leastE b.n b.cp)
  let T := PyData.tuple [encR r, TB]
  refine run_setP (P := fun d => d = T) ((ev_call b (ea_cons (ev_var rfl) (ea_cons (ev_var rfl) ea_nil)) o fun d h => h : EvP K _ _ (fun d => ∃ r rest, d = .tuple [encR r, tabD (leastN b.n b.cp) (leastE b.n b.cp)] ∧ ((r :: rest).Pairwise fun x y => ltRow y x = false) ∧ ∀ x, x ∈ r :: rest ↔ MaxRow b.n b.cp 0 x)).imp fun d ⟨r2, rest, e, h1, h2⟩ => by rw [e, head_same h1 gS fun x => by rw [h2, gM]]) fun d e => ?_
  subst e
  refine run_set (d := T) (ev_tup (l := [encR r, TB]) (ea_cons (g0 rfl) (ea_cons (ev_call b (ea_cons (ev_var rfl) (ea_cons (ev_var rfl) ea_nil)) o fun d h => h) ea_nil)) (by show 2 ≤ _; decide)) ?_
  have iT4 : iT 4 T := ⟨by show 2 ≤ 1000; decide, fun d hd => by
    have hd : d ∈ [encR r, TB] := hd
    simp only [List.mem_cons, List.mem_nil_iff, or_false] at hd
    rcases hd with rfl | rfl
    · exact iT_row 1 r (by omega)
    · exact iT_tab b.cp n7⟩
  have gT : GoodV T := goodV_pair ⟨_, rfl, by rw [List.length_map]; omega⟩
  refine run_guard (b := false) (et_or_f (EvB.is (et_not (et_B (cl_eqT iT4 (ev_var rfl) (ev_var rfl)))) rfl) (EvB.is (et_test (ev_op (cl_accepts_missing o hmiss gT (ev_var rfl) (ev_var rfl) (ev_var rfl) (ev_var rfl)) ev_bl rd_notB)) (by rw [ev_told hr]; rfl))) (fun h => by cases h) fun _ => ?_
  let X : Sl → Sl → Sl → Sl → Sl → Sl → Sl → Sl → Sl → Slots := fun s9 s10 s11 s12 s13 s14 s15 s16 s17 => [.nil, .strm, .dat b.P, .dat b.S, .dat (.list (rows.map encR)), .dat (.list ((r :: gr).map encR)), .dat (.int miss), .dat T, .dat T, s9, s10, s11, s12, s13, s14, s15, s16, s17]
  have S := least_shp b.n b.cp
  have hE := least_len b.n b.cp
  have tb1 : ∀ {ds : Slots}, ds[7]? = some (.dat T) → Ev K (tOp (rIxT K) (tOp (rIxT K) (tVar 7) (tC (.int 1))) (tC (.int 0))) ds (.tuple ((leastN b.n b.cp).map encI)) := fun h => ev_op (ev_op (ev_var (d := .tuple [encR r, TB]) h) ev_int (rd_ixT (d := .tuple [encN2 (leastN b.n b.cp), encI (leastE b.n b.cp)]) rfl)) ev_int (rd_ixT rfl)
  have tb2 : ∀ {ds : Slots}, ds[7]? = some (.dat T) → Ev K (tOp (rIxT K) (tOp (rIxT K) (tVar 7) (tC (.int 1))) (tC (.int 1))) ds (encI (leastE b.n b.cp)) := fun h => ev_op (ev_op (ev_var (d := .tuple [encR r, TB]) h) ev_int (rd_ixT (d := .tuple [encN2 (leastN b.n b.cp), encI (leastE b.n b.cp)]) rfl)) ev_int (rd_ixT rfl)
  have told1 : ∀ {ds : Slots}, ds[7]? = some (.dat T) → Ev K (tOp (rIxT K) (tVar 7) (tC (.int 1))) ds TB := fun h => ev_op (ev_var (d := .tuple [encR r, TB]) h) ev_int (rd_ixT rfl)
  have told0 : ∀ {ds : Slots}, ds[7]? = some (.dat T) → Ev K (tOp (rIxT K) (tVar 7) (tC (.int 0))) ds (encR r) := fun h => ev_op (ev_var (d := .tuple [encR r, TB]) h) ev_int (rd_ixT rfl)
  have Nl : ((leastN b.n b.cp).map encI).length = b.n + 1 := by rw [List.length_map, S.len]
  refine run_seq (N1 := fun x => ∃ s9 s10 s11 s12 s13 s14 s15 s16 s17, x = X s9 s10 s11 s12 s13 s14 s15 s16 s17) ?_ ?_
  · refine run_forP (vs := [9]) (ei_listP (P := fun xs => ∃ k : Nat, k ≤ b.n ∧ xs = [.int (k : Int), .int ((0 : Nat) : Int)]) (ev_lstP (ea_consP (cl_next (m := ((b.n + 1 : Nat) : Int)) rfl (Ev.is (ev_cb (ea_cons (tb1 rfl) ea_nil) cd_lenT) (by rw [Nl])) (by omega)) (ea_cons ev_int ea_nil) fun d xs ⟨k, e1, hk⟩ e2 => ⟨[.int (k : Int), .int 0], by rw [e1, e2]; rfl, by show 2 ≤ _; decide, _, rfl, k, by omega, rfl⟩))) fun n f hS => ?_
    obtain ⟨xs, ⟨k, hk, rfl⟩, rfl, rfl⟩ := hS
    refine ⟨fun _ x => ∃ s9 s10 s11 s12 s13 s14 s15 s16 s17, x = X s9 s10 s11 s12 s13 s14 s15 s16 s17, ⟨_, _, _, _, _, _, _, _, _, rfl⟩, ?_, fun ds' h => h⟩
    rintro i ds' hi ⟨s9, s10, s11, s12, s13, s14, s15, s16, s17, rfl⟩
    have hat : ∃ at' : Nat, at' ≤ b.n ∧ (fun i => [PyData.int (k : Int), .int ((0 : Nat) : Int)].getD i .none) i = .int (at' : Int) := by
      have hi : i < 2 := hi
      match i, hi with
      | 0, _ => exact ⟨k, hk, rfl⟩
      | 1, _ => exact ⟨0, Nat.zero_le _, rfl⟩
    obtain ⟨at', hal, hae⟩ := hat
    rw [hae]
    refine ⟨_, eg_name, ?_⟩
    refine run_set (d := encI ((leastN b.n b.cp).getD at' [])) (ev_op (tb1 rfl) (ev_var rfl) (rd_ixT (row_at S rfl hal))) ?_
    have Rl : (((leastN b.n b.cp).getD at' []).map PyData.int).length = b.n + 1 - at' := by rw [List.length_map, S.row at' hal]
    refine run_for (vs := [11]) (n := b.n + 1 - at') (f := fun i => .int (i : Nat)) (fun _ x => ∃ s11 s12 s13 s14 s15 s16 s17, x = X (.dat (.int (at' : Int))) (.dat (encI ((leastN b.n b.cp).getD at' []))) s11 s12 s13 s14 s15 s16 s17) ?_ ⟨_, _, _, _, _, _, _, rfl⟩ ?_ (fun ds' ⟨s11, s12, s13, s14, s15, s16, s17, e⟩ => ⟨_, _, s11, s12, s13, s14, s15, s16, s17, e⟩)
    · have := ei_r1 (K := K) (n := ((b.n + 1 - at' : Nat) : Int)) (ds := (List.set (List.set (X s9 s10 s11 s12 s13 s14 s15 s16 s17) 9 (.dat (.int (at' : Int)))) 10 (.dat (encI ((leastN b.n b.cp).getD at' []))))) (ea_cons (Ev.is (ev_cb (ea_cons (ev_var (i := 10) (d := .tuple (((leastN b.n b.cp).getD at' []).map PyData.int)) rfl) ea_nil) cd_lenT) (by rw [Rl])) ea_nil) (by omega)
      rw [Int.toNat_natCast] at this
      exact this
    rintro to ds' hto ⟨s11, s12, s13, s14, s15, s16, s17, rfl⟩
    refine ⟨_, eg_name, ?_⟩
    refine run_setP (ev_repl (k := to) (n := 8) (P1 := fun _ => True) (ev_var (d := .tuple (((leastN b.n b.cp).getD at' []).map PyData.int)) rfl) (ev_var rfl) (Ev.to (ev_op (ev_op (ev_var (d := .tuple (((leastN b.n b.cp).getD at' []).map PyData.int)) rfl) (ev_var rfl) (rd_ixT (int_at rfl (by rw [S.row at' hal]; exact hto)))) ev_int rd_sub) trivial) (by rw [Rl]; omega) (by decide)) fun less _ => ?_
    refine run_setP (P := GoodV) ((ev_pair (Ev.to (P := tupP 1000) (g0 rfl) ⟨_, rfl, by rw [List.length_map]; omega⟩) (ev_pair (ev_repl (k := at') (n := 8) (P1 := fun _ => True) (tb1 rfl) (ev_var rfl) (Ev.to (ev_var rfl) trivial) (by rw [Nl]; omega) (by decide)) (Ev.to (P := fun _ => True) (tb2 rfl) trivial))).imp fun d ⟨x, y, e, hx, _⟩ => by rw [e]; exact goodV_pair hx) fun v hv => ?_
    exact run_if (b := false) (EvB.is (et_not (et_B (cl_eqB (cl_accepts_missing o hmiss hv (ev_var rfl) (ev_var rfl) (ev_var rfl) (ev_var rfl)) (cl__law_is_evidence o hmiss hv (ev_var rfl) (ev_var rfl) (ev_var rfl) (ev_var rfl))))) (by rw [decide_eq_true rfl]; rfl)) (fun h => by cases h) fun _ => run_next ⟨_, _, _, _, _, _, _, rfl⟩
  rintro x ⟨s9, s10, s11, s12, s13, s14, s15, s16, s17, rfl⟩
  refine run_seq (N1 := fun x => True) ?_ (fun _ _ => run_ret ev_bl)
  refine run_for (vs := [14]) (n := 8) (f := fun i => .int (i : Nat)) (fun _ x => ∃ s9 s10 s11 s12 s13 s14 s15 s16 s17, x = X s9 s10 s11 s12 s13 s14 s15 s16 s17) (ei_r1 (n := 8) (ea_cons ev_int ea_nil) (by decide)) ⟨_, _, _, _, _, _, _, _, _, rfl⟩ ?_ (fun _ _ => trivial)
  rintro turn ds' hturn ⟨s9, s10, s11, s12, s13, s14, s15, s16, s17, rfl⟩
  refine ⟨_, eg_name, ?_⟩
  let SR : PyData → Prop := fun d => ∃ t, d = encR t ∧ Valid b.n b.cp t
  refine run_setP (P := SR) (ev_pickP (n := 3) (S := SR) (ev_lstP (ea_consP (P1 := SR) (ev_pickP (n := (r :: gr).length) (Ev.to (ev_var (d := .list ((r :: gr).map encR)) rfl) ⟨_, rfl, List.length_map _, fun x hx => by
      obtain ⟨t, ht, rfl⟩ := List.mem_map.mp hx
      exact ⟨t, rfl, valid_row.mpr ((gM t).mp ht).1⟩⟩) ((cl_next (m := ((r :: gr).length : Int)) rfl (Ev.is (ev_cb (ea_cons (ev_var (d := .list ((r :: gr).map encR)) rfl) ea_nil) cd_lenL) (by rw [List.length_map])) ⟨by rw [List.length_cons]; omega, by omega⟩).imp fun d ⟨k, e, hk⟩ => ⟨k, e, by omega⟩))
    (ea_consP (P1 := SR) (PA := fun xs => ∃ x y, xs = [.dat x, .dat y] ∧ SR x ∧ SR y) (ev_pickP (n := rows.length) (Ev.to (ev_var (d := .list (rows.map encR)) rfl) ⟨_, rfl, List.length_map _, fun x hx => by
      obtain ⟨t, ht, rfl⟩ := List.mem_map.mp hx
      exact ⟨t, rfl, (rowsM t).mp ht⟩⟩) ((cl_next (m := (rows.length : Int)) rfl (Ev.is (ev_cb (ea_cons (ev_var (d := .list (rows.map encR)) rfl) ea_nil) cd_lenL) (by rw [List.length_map])) ⟨by
        have : r ∈ rows := (rowsM r).mpr (valid_row.mpr hr.1)
        have := List.length_pos_of_mem this
        omega, by omega⟩).imp fun d ⟨k, e, hk⟩ => ⟨k, e, by omega⟩))
      (ea_cons (told0 rfl) ea_nil) fun d xs hd e => ⟨d, encR r, by rw [e], hd, r, rfl, valid_row.mpr hr.1⟩) fun d xs hd ⟨x, y, e, hx, hy⟩ => ⟨[d, x, y], by rw [e]; rfl, by show 3 ≤ _; decide, _, rfl, rfl, fun z hz => by
        simp only [List.mem_cons, List.mem_nil_iff, or_false] at hz
        rcases hz with rfl | rfl | rfl
        · exact hd
        · exact hx
        · exact hy⟩)) ((cl_next (m := 3) rfl ev_int (by decide)).imp fun d ⟨k, e, hk⟩ => ⟨k, e, by omega⟩)) fun d ⟨t, e, ht⟩ => ?_
  subst e
  have tl : 2 * t.length ≤ b.n := by have := (valid_row.mp ht).len2; omega
  have lenP : ∀ {ds : Slots}, ds[15]? = some (.dat (encR t)) → Ev K (tCB (rLen K) (tCons (tVar 15) tNil)) ds (.int (t.length : Int)) := fun h => Ev.is (ev_cb (ea_cons (ev_var (d := .tuple (t.map encPr)) h) ea_nil) cd_lenT) (by rw [List.length_map])
  refine run_setP (P := GoodV) (ev_call (b, t) (ea_strm rfl (ea_cons (ev_tup (l := [encR t, TB]) (ea_cons (ev_var rfl) (ea_cons (told1 rfl) ea_nil)) (by show 2 ≤ _; decide)) ea_nil) fun xs e => by rw [e]) ⟨o, by show t.length ≤ 7; omega⟩ fun d h => h) fun v0 hv0 => ?_
  let SM : PyData → Prop := fun d => ∃ z : Int, d = .int z ∧ 0 ≤ z ∧ z ≤ 12
  refine run_setP (P := SM) (ev_pickP (n := 4) (S := SM) (ev_lstP (ea_consP (P1 := SM) (Ev.to (ev_var rfl) ⟨miss, rfl, hmiss⟩) (ea_consP (P1 := SM) (PA := fun xs => ∃ x y z, xs = [.dat x, .dat y, .dat z] ∧ SM x ∧ SM y ∧ SM z) (Ev.to (ev_var rfl) ⟨miss, rfl, hmiss⟩) (ea_consP (P1 := SM) (PA := fun xs => ∃ y z, xs = [.dat y, .dat z] ∧ SM y ∧ SM z) (Ev.to (ev_op (lenS rfl) (ev_op ev_int (lenP rfl) (rd_mul (.inl (by decide)))) rd_sub) ⟨_, rfl, by omega, by omega⟩)
      (ea_consP (P1 := SM) (PA := fun xs => ∃ z, xs = [.dat z] ∧ SM z) ((cl_next (m := 13) rfl ev_int (by decide)).imp fun d ⟨k, e, hk⟩ => ⟨k, e, by omega, by omega⟩) ea_nil fun d xs hd e => ⟨d, by rw [e], hd⟩) fun d xs hd ⟨z, e, hz⟩ => ⟨d, z, by rw [e], hd, hz⟩) fun d xs hd ⟨y, z, e, hy, hz⟩ => ⟨d, y, z, by rw [e], hd, hy, hz⟩) fun d xs hd ⟨x, y, z, e, hx, hy, hz⟩ => ⟨[d, x, y, z], by rw [e]; rfl, by show 4 ≤ _; decide, _, rfl, rfl, fun u hu => by
        simp only [List.mem_cons, List.mem_nil_iff, or_false] at hu
        rcases hu with rfl | rfl | rfl | rfl
        · exact hd
        · exact hx
        · exact hy
        · exact hz⟩)) ((cl_next (m := 4) rfl ev_int (by decide)).imp fun d ⟨k, e, hk⟩ => ⟨k, e, by omega⟩)) fun d ⟨m0, e, hm0⟩ => ?_
  subst e
  refine run_seq (N1 := fun x => ∃ v many, GoodV v ∧ (0 ≤ many ∧ many ≤ 12) ∧ x = X s9 s10 s11 s12 (.dat v) (.dat (.int (turn : Nat))) (.dat (encR t)) (.dat (.int many)) s17) ?_ ?_
  · refine run_if (EvB.is (et_and (b := decide (1 < b.n)) (et_test (ev_op (ev_var rfl) ev_int rd_gt)) fun _ => EvB.is (et_test (ev_op (lenS rfl) ev_int rd_gt)) (dlt 1 b.n)) rfl) (fun h => ?_) (fun _ => run_next ⟨v0, m0, hv0, hm0, rfl⟩)
    rw [Bool.and_eq_true] at h
    have h1 := of_decide_eq_true h.2
    refine run_setP (P := fun d => ∃ l, d = .tuple [.tuple l, TB] ∧ 2 * l.length ≤ b.n) ((ev_pair (P1 := fun d => ∃ l, d = .tuple l ∧ 2 * l.length ≤ b.n) (P2 := fun d => d = TB) (ev_call (b, t) (ea_strm rfl (ea_cons (ev_var rfl) (ea_cons (ev_var rfl) ea_nil)) fun xs e => by rw [e]) ⟨o, h1, tl⟩ fun d h => h) (told1 rfl)).imp fun d ⟨x, y, e, ⟨l, e1, hl⟩, e2⟩ => ⟨l, by rw [e, e1, e2], hl⟩) fun d ⟨l, e, hl⟩ => ?_
    subst e
    refine run_asg (d := .int ((b.n : Int) - 2 * (l.length : Int))) (ev_op (lenS rfl) (ev_op ev_int (ev_cb (ea_cons (ev_op (ev_var (d := .tuple [.tuple l, TB]) rfl) ev_int (rd_ixT (d := .tuple l) rfl)) ea_nil) cd_lenT) (rd_mul (.inl (by decide)))) rd_sub) ⟨_, _, goodV_pair ⟨l, rfl, by omega⟩, ⟨by omega, by omega⟩, rfl⟩
  · rintro x ⟨v, many, hv, hm, rfl⟩
    refine run_set (cl__law_is_evidence o hm hv (ev_var rfl) (ev_var rfl) (ev_var rfl) (ev_var rfl)) ?_
    refine run_if (b := false) (et_or_f (EvB.is (et_not (et_B (cl_eqB (cl_accepts_missing o hm hv (ev_var rfl) (ev_var rfl) (ev_var rfl) (ev_var rfl)) (ev_var rfl)))) (by rw [decide_eq_true rfl]; rfl)) ?_) (fun h => by cases h) fun _ => run_next ⟨_, _, _, _, _, _, _, _, _, rfl⟩
    cases hev : evB b many v with
    | false => exact et_and_f (EvB.is (et_B (ev_var rfl)) rfl)
    | true =>
      refine et_and_t (EvB.is (et_B (ev_var rfl)) rfl) (EvB.is (et_test (ev_op (ev_var rfl) (ev_var rfl) rd_neI)) ?_)
      rw [decide_eq_true (show many = miss from by rw [ev_many hev]; show _ = (b.n : Int) - 2 * (r.length : Int); rw [hr.2])]
      rfl
end
end K47
/-! K47: what the top has written, and the walk. -/
namespace K47
open PySem PySem.Spec PyProof.Rows L2
theorem def_mk {K : PySem.W.Frag} {mg : Str → Option Value} {h : Heap} (X : K.In h) (G : h.Ns mainGlobals mg) {x q : Str} {st : Stmt} {ps : List Str} {f : Addr} {od an : Option Addr} {sl : Array (Option Value)} {oc kV dc pm cd ct : Value}
    (a : PySem.W.nsIn K mainGlobals x = some (some (.ref f))) (l : K.lookup f = some ⟨oc, od, .func (PySem.W.fnOf q q (defArgs st) (defBody st) (defScope st) .none kV dc pm an cd ct), sl⟩)
    (c : PySem.W.codeIn K cd q = true) (k : PySem.W.keepIn K (.ref f) = true) (b : ∀ fd, Fun K q q st f fd → Binds K fd ps []) :
    ∃ D : DefAt K mg x q st ps, D.f = f ∧ D.fd = PySem.W.fnOf q q (defArgs st) (defBody st) (defScope st) .none kV dc pm an cd ct :=
  let F := fun_mk (st := st) l c k
  ⟨⟨_, _, F, PySem.W.mg_of X G a, b _ F⟩, rfl, rfl⟩
theorem all_mk {l : PySem.W.OpenLaw} {w : World} {K : PySem.W.Frag} {h : Heap} {mg : Str → Option Value} {fa f1 f2 f3 f4 f5 f6 f7 f8 f9 f10 f11 f12 f13 f14 f15 f16 f17 f18 f19 f20 f21 f22 f23 f24 f25 f26 f27 f28 f29 f30 f31 f32 f33 f34 f35 f36 f37 f38 : Addr} (X : K.In h) (G : h.Ns mainGlobals mg) (hfa : mg "law" = some (.ref fa))
    {od1 an1 od2 an2 od3 an3 od4 an4 od5 an5 od6 an6 od7 an7 od8 an8 od9 an9 od10 an10 od11 an11 od12 an12 od13 an13 od14 an14 od15 an15 od16 an16 od17 an17 od18 an18 od19 an19 od20 an20 od21 an21 od22 an22 od23 an23 od24 an24 od25 an25 od26 an26 od27 an27 od28 an28 od29 an29 od30 an30 od31 an31 od32 an32 od33 an33 od34 an34 od35 an35 od36 an36 od37 an37 od38 an38 : Option Addr} {sl1 sl2 sl3 sl4 sl5 sl6 sl7 sl8 sl9 sl10 sl11 sl12 sl13 sl14 sl15 sl16 sl17 sl18 sl19 sl20 sl21 sl22 sl23 sl24 sl25 sl26 sl27 sl28 sl29 sl30 sl31 sl32 sl33 sl34 sl35 sl36 sl37 sl38 : Array (Option Value)}
    {oc1 kV1 dc1 pm1 cd1 ct1 oc2 kV2 dc2 pm2 cd2 ct2 oc3 kV3 dc3 pm3 cd3 ct3 oc4 kV4 dc4 pm4 cd4 ct4 oc5 kV5 dc5 pm5 cd5 ct5 oc6 kV6 dc6 pm6 cd6 ct6 oc7 kV7 dc7 pm7 cd7 ct7 oc8 kV8 dc8 pm8 cd8 ct8 oc9 kV9 dc9 pm9 cd9 ct9 oc10 kV10 dc10 pm10 cd10 ct10 oc11 kV11 dc11 pm11 cd11 ct11 oc12 kV12 dc12 pm12 cd12 ct12 oc13 kV13 dc13 pm13 cd13 ct13 oc14 kV14 dc14 pm14 cd14 ct14 oc15 kV15 dc15 pm15 cd15 ct15 oc16 kV16 dc16 pm16 cd16 ct16 oc17 kV17 dc17 pm17 cd17 ct17 oc18 kV18 dc18 pm18 cd18 ct18 oc19 kV19 dc19 pm19 cd19 ct19 oc20 kV20 dc20 pm20 cd20 ct20 oc21 kV21 dc21 pm21 cd21 ct21 oc22 kV22 dc22 pm22 cd22 ct22 oc23 kV23 dc23 pm23 cd23 ct23 oc24 kV24 dc24 pm24 cd24 ct24 oc25 kV25 dc25 pm25 cd25 ct25 oc26 kV26 dc26 pm26 cd26 ct26 oc27 kV27 dc27 pm27 cd27 ct27 oc28 kV28 dc28 pm28 cd28 ct28 oc29 kV29 dc29 pm29 cd29 ct29 oc30 kV30 dc30 pm30 cd30 ct30 oc31 kV31 dc31 pm31 cd31 ct31 oc32 kV32 dc32 pm32 cd32 ct32 oc33 kV33 dc33 pm33 cd33 ct33 oc34 kV34 dc34 pm34 cd34 ct34 oc35 kV35 dc35 pm35 cd35 ct35 oc36 kV36 dc36 pm36 cd36 ct36 oc37 kV37 dc37 pm37 cd37 ct37 oc38 kV38 dc38 pm38 cd38 ct38 : Value} {t1 t2 t3 : Tok}
    (a1 : PySem.W.nsIn K mainGlobals "is_whole_papers" = some (some (.ref f1)))
    (l1 : K.lookup f1 = some ⟨oc1, od1, .func (PySem.W.fnOf "is_whole" "is_whole" (defArgs s_is_whole_papers) (defBody s_is_whole_papers) (defScope s_is_whole_papers) .none kV1 dc1 pm1 an1 cd1 ct1), sl1⟩)
    (c1 : PySem.W.codeIn K cd1 "is_whole" = true) (k1 : PySem.W.keepIn K (.ref f1) = true)
    (a2 : PySem.W.nsIn K mainGlobals "is_whole_missing" = some (some (.ref f2)))
    (l2 : K.lookup f2 = some ⟨oc2, od2, .func (PySem.W.fnOf "is_whole" "is_whole" (defArgs s_is_whole_missing) (defBody s_is_whole_missing) (defScope s_is_whole_missing) .none kV2 dc2 pm2 an2 cd2 ct2), sl2⟩)
    (c2 : PySem.W.codeIn K cd2 "is_whole" = true) (k2 : PySem.W.keepIn K (.ref f2) = true)
    (a3 : PySem.W.nsIn K mainGlobals "is_paper" = some (some (.ref f3)))
    (l3 : K.lookup f3 = some ⟨oc3, od3, .func (PySem.W.fnOf "is_paper" "is_paper" (defArgs s_is_paper) (defBody s_is_paper) (defScope s_is_paper) .none kV3 dc3 pm3 an3 cd3 ct3), sl3⟩)
    (c3 : PySem.W.codeIn K cd3 "is_paper" = true) (k3 : PySem.W.keepIn K (.ref f3) = true)
    (a4 : PySem.W.nsIn K mainGlobals "are_marks" = some (some (.ref f4)))
    (l4 : K.lookup f4 = some ⟨oc4, od4, .func (PySem.W.fnOf "are_marks" "are_marks" (defArgs s_are_marks) (defBody s_are_marks) (defScope s_are_marks) .none kV4 dc4 pm4 an4 cd4 ct4), sl4⟩)
    (c4 : PySem.W.codeIn K cd4 "are_marks" = true) (k4 : PySem.W.keepIn K (.ref f4) = true)
    (a5 : PySem.W.nsIn K mainGlobals "is_sequence" = some (some (.ref f5)))
    (l5 : K.lookup f5 = some ⟨oc5, od5, .func (PySem.W.fnOf "is_sequence" "is_sequence" (defArgs s_is_sequence) (defBody s_is_sequence) (defScope s_is_sequence) .none kV5 dc5 pm5 an5 cd5 ct5), sl5⟩)
    (c5 : PySem.W.codeIn K cd5 "is_sequence" = true) (k5 : PySem.W.keepIn K (.ref f5) = true)
    (a6 : PySem.W.nsIn K mainGlobals "check_short" = some (some (.ref f6)))
    (l6 : K.lookup f6 = some ⟨oc6, od6, .func (PySem.W.fnOf "check_short" "check_short" (defArgs s_check_short) (defBody s_check_short) (defScope s_check_short) .none kV6 dc6 pm6 an6 cd6 ct6), sl6⟩)
    (c6 : PySem.W.codeIn K cd6 "check_short" = true) (k6 : PySem.W.keepIn K (.ref f6) = true)
    (a7 : PySem.W.nsIn K mainGlobals "is_inside" = some (some (.ref f7)))
    (l7 : K.lookup f7 = some ⟨oc7, od7, .func (PySem.W.fnOf "is_inside" "is_inside" (defArgs s_is_inside) (defBody s_is_inside) (defScope s_is_inside) .none kV7 dc7 pm7 an7 cd7 ct7), sl7⟩)
    (c7 : PySem.W.codeIn K cd7 "is_inside" = true) (k7 : PySem.W.keepIn K (.ref f7) = true)
    (a8 : PySem.W.nsIn K mainGlobals "_law_inside" = some (some (.ref f8)))
    (l8 : K.lookup f8 = some ⟨oc8, od8, .func (PySem.W.fnOf "_law_inside" "_law_inside" (defArgs s__law_inside) (defBody s__law_inside) (defScope s__law_inside) .none kV8 dc8 pm8 an8 cd8 ct8), sl8⟩)
    (c8 : PySem.W.codeIn K cd8 "_law_inside" = true) (k8 : PySem.W.keepIn K (.ref f8) = true)
    (a9 : PySem.W.nsIn K mainGlobals "are_apart" = some (some (.ref f9)))
    (l9 : K.lookup f9 = some ⟨oc9, od9, .func (PySem.W.fnOf "are_apart" "are_apart" (defArgs s_are_apart) (defBody s_are_apart) (defScope s_are_apart) .none kV9 dc9 pm9 an9 cd9 ct9), sl9⟩)
    (c9 : PySem.W.codeIn K cd9 "are_apart" = true) (k9 : PySem.W.keepIn K (.ref f9) = true)
    (a10 : PySem.W.nsIn K mainGlobals "_law_apart" = some (some (.ref f10)))
    (l10 : K.lookup f10 = some ⟨oc10, od10, .func (PySem.W.fnOf "_law_apart" "_law_apart" (defArgs s__law_apart) (defBody s__law_apart) (defScope s__law_apart) .none kV10 dc10 pm10 an10 cd10 ct10), sl10⟩)
    (c10 : PySem.W.codeIn K cd10 "_law_apart" = true) (k10 : PySem.W.keepIn K (.ref f10) = true)
    (a11 : PySem.W.nsIn K mainGlobals "_law_is_integer" = some (some (.ref f11)))
    (l11 : K.lookup f11 = some ⟨oc11, od11, .func (PySem.W.fnOf "_law_is_integer" "_law_is_integer" (defArgs s__law_is_integer) (defBody s__law_is_integer) (defScope s__law_is_integer) .none kV11 dc11 pm11 an11 cd11 ct11), sl11⟩)
    (c11 : PySem.W.codeIn K cd11 "_law_is_integer" = true) (k11 : PySem.W.keepIn K (.ref f11) = true)
    (a12 : PySem.W.nsIn K mainGlobals "are_integers" = some (some (.ref f12)))
    (l12 : K.lookup f12 = some ⟨oc12, od12, .func (PySem.W.fnOf "are_integers" "are_integers" (defArgs s_are_integers) (defBody s_are_integers) (defScope s_are_integers) .none kV12 dc12 pm12 an12 cd12 ct12), sl12⟩)
    (c12 : PySem.W.codeIn K cd12 "are_integers" = true) (k12 : PySem.W.keepIn K (.ref f12) = true)
    (a13 : PySem.W.nsIn K mainGlobals "_law_are_numbers" = some (some (.ref f13)))
    (l13 : K.lookup f13 = some ⟨oc13, od13, .func (PySem.W.fnOf "_law_are_numbers" "_law_are_numbers" (defArgs s__law_are_numbers) (defBody s__law_are_numbers) (defScope s__law_are_numbers) .none kV13 dc13 pm13 an13 cd13 ct13), sl13⟩)
    (c13 : PySem.W.codeIn K cd13 "_law_are_numbers" = true) (k13 : PySem.W.keepIn K (.ref f13) = true)
    (a14 : PySem.W.nsIn K mainGlobals "is_pair" = some (some (.ref f14)))
    (l14 : K.lookup f14 = some ⟨oc14, od14, .func (PySem.W.fnOf "is_pair" "is_pair" (defArgs s_is_pair) (defBody s_is_pair) (defScope s_is_pair) .none kV14 dc14 pm14 an14 cd14 ct14), sl14⟩)
    (c14 : PySem.W.codeIn K cd14 "is_pair" = true) (k14 : PySem.W.keepIn K (.ref f14) = true)
    (a15 : PySem.W.nsIn K mainGlobals "are_valid" = some (some (.ref f15)))
    (l15 : K.lookup f15 = some ⟨oc15, od15, .func (PySem.W.fnOf "are_valid" "are_valid" (defArgs s_are_valid) (defBody s_are_valid) (defScope s_are_valid) .none kV15 dc15 pm15 an15 cd15 ct15), sl15⟩)
    (c15 : PySem.W.codeIn K cd15 "are_valid" = true) (k15 : PySem.W.keepIn K (.ref f15) = true)
    (a16 : PySem.W.nsIn K mainGlobals "_law_is_valid" = some (some (.ref f16)))
    (l16 : K.lookup f16 = some ⟨oc16, od16, .func (PySem.W.fnOf "_law_is_valid" "_law_is_valid" (defArgs s__law_is_valid) (defBody s__law_is_valid) (defScope s__law_is_valid) .none kV16 dc16 pm16 an16 cd16 ct16), sl16⟩)
    (c16 : PySem.W.codeIn K cd16 "_law_is_valid" = true) (k16 : PySem.W.keepIn K (.ref f16) = true)
    (a17 : PySem.W.nsIn K mainGlobals "is_cell_right" = some (some (.ref f17)))
    (l17 : K.lookup f17 = some ⟨oc17, od17, .func (PySem.W.fnOf "is_cell_right" "is_cell_right" (defArgs s_is_cell_right) (defBody s_is_cell_right) (defScope s_is_cell_right) .none kV17 dc17 pm17 an17 cd17 ct17), sl17⟩)
    (c17 : PySem.W.codeIn K cd17 "is_cell_right" = true) (k17 : PySem.W.keepIn K (.ref f17) = true)
    (a18 : PySem.W.nsIn K mainGlobals "are_tables" = some (some (.ref f18)))
    (l18 : K.lookup f18 = some ⟨oc18, od18, .func (PySem.W.fnOf "are_tables" "are_tables" (defArgs s_are_tables) (defBody s_are_tables) (defScope s_are_tables) .none kV18 dc18 pm18 an18 cd18 ct18), sl18⟩)
    (c18 : PySem.W.codeIn K cd18 "are_tables" = true) (k18 : PySem.W.keepIn K (.ref f18) = true)
    (a19 : PySem.W.nsIn K mainGlobals "accepts_missing" = some (some (.ref f19)))
    (l19 : K.lookup f19 = some ⟨oc19, od19, .func (PySem.W.fnOf "accepts_missing" "accepts_missing" (defArgs s_accepts_missing) (defBody s_accepts_missing) (defScope s_accepts_missing) .none kV19 dc19 pm19 an19 cd19 ct19), sl19⟩)
    (c19 : PySem.W.codeIn K cd19 "accepts_missing" = true) (k19 : PySem.W.keepIn K (.ref f19) = true)
    (a20 : PySem.W.nsIn K mainGlobals "_law_are_tables" = some (some (.ref f20)))
    (l20 : K.lookup f20 = some ⟨oc20, od20, .func (PySem.W.fnOf "_law_are_tables" "_law_are_tables" (defArgs s__law_are_tables) (defBody s__law_are_tables) (defScope s__law_are_tables) .none kV20 dc20 pm20 an20 cd20 ct20), sl20⟩)
    (c20 : PySem.W.codeIn K cd20 "_law_are_tables" = true) (k20 : PySem.W.keepIn K (.ref f20) = true)
    (a21 : PySem.W.nsIn K mainGlobals "_law_is_evidence" = some (some (.ref f21)))
    (l21 : K.lookup f21 = some ⟨oc21, od21, .func (PySem.W.fnOf "_law_is_evidence" "_law_is_evidence" (defArgs s__law_is_evidence) (defBody s__law_is_evidence) (defScope s__law_is_evidence) .none kV21 dc21 pm21 an21 cd21 ct21), sl21⟩)
    (c21 : PySem.W.codeIn K cd21 "_law_is_evidence" = true) (k21 : PySem.W.keepIn K (.ref f21) = true)
    (a22 : PySem.W.nsIn K mainGlobals "nest_table" = some (some (.ref f22)))
    (l22 : K.lookup f22 = some ⟨oc22, od22, .func (PySem.W.fnOf "nest_table" "nest_table" (defArgs s_nest_table) (defBody s_nest_table) (defScope s_nest_table) .none kV22 dc22 pm22 an22 cd22 ct22), sl22⟩)
    (c22 : PySem.W.codeIn K cd22 "nest_table" = true) (k22 : PySem.W.keepIn K (.ref f22) = true)
    (a23 : PySem.W.nsIn K mainGlobals "end_table" = some (some (.ref f23)))
    (l23 : K.lookup f23 = some ⟨oc23, od23, .func (PySem.W.fnOf "end_table" "end_table" (defArgs s_end_table) (defBody s_end_table) (defScope s_end_table) .none kV23 dc23 pm23 an23 cd23 ct23), sl23⟩)
    (c23 : PySem.W.codeIn K cd23 "end_table" = true) (k23 : PySem.W.keepIn K (.ref f23) = true)
    (a24 : PySem.W.nsIn K mainGlobals "nests_in" = some (some (.ref f24)))
    (l24 : K.lookup f24 = some ⟨oc24, od24, .func (PySem.W.fnOf "nests_in" "nests_in" (defArgs s_nests_in) (defBody s_nests_in) (defScope s_nests_in) .none kV24 dc24 pm24 an24 cd24 ct24), sl24⟩)
    (c24 : PySem.W.codeIn K cd24 "nests_in" = true) (k24 : PySem.W.keepIn K (.ref f24) = true)
    (a25 : PySem.W.nsIn K mainGlobals "greatest" = some (some (.ref f25)))
    (l25 : K.lookup f25 = some ⟨oc25, od25, .func (PySem.W.fnOf "greatest" "greatest" (defArgs s_greatest) (defBody s_greatest) (defScope s_greatest) .none kV25 dc25 pm25 an25 cd25 ct25), sl25⟩)
    (c25 : PySem.W.codeIn K cd25 "greatest" = true) (k25 : PySem.W.keepIn K (.ref f25) = true)
    (a26 : PySem.W.nsIn K mainGlobals "missing_evidence" = some (some (.ref f26)))
    (l26 : K.lookup f26 = some ⟨oc26, od26, .func (PySem.W.fnOf "missing_evidence" "missing_evidence" (defArgs s_missing_evidence) (defBody s_missing_evidence) (defScope s_missing_evidence) .none kV26 dc26 pm26 an26 cd26 ct26), sl26⟩)
    (c26 : PySem.W.codeIn K cd26 "missing_evidence" = true) (k26 : PySem.W.keepIn K (.ref f26) = true)
    (a27 : PySem.W.nsIn K mainGlobals "_law_reflected" = some (some (.ref f27)))
    (l27 : K.lookup f27 = some ⟨oc27, od27, .func (PySem.W.fnOf "_law_reflected" "_law_reflected" (defArgs s__law_reflected) (defBody s__law_reflected) (defScope s__law_reflected) .none kV27 dc27 pm27 an27 cd27 ct27), sl27⟩)
    (c27 : PySem.W.codeIn K cd27 "_law_reflected" = true) (k27 : PySem.W.keepIn K (.ref f27) = true)
    (a28 : PySem.W.nsIn K mainGlobals "_law_equal" = some (some (.ref f28)))
    (l28 : K.lookup f28 = some ⟨oc28, od28, .func (PySem.W.fnOf "_law_equal" "_law_equal" (defArgs s__law_equal) (defBody s__law_equal) (defScope s__law_equal) .none kV28 dc28 pm28 an28 cd28 ct28), sl28⟩)
    (c28 : PySem.W.codeIn K cd28 "_law_equal" = true) (k28 : PySem.W.keepIn K (.ref f28) = true)
    (a29 : PySem.W.nsIn K mainGlobals "_law_greatest" = some (some (.ref f29)))
    (l29 : K.lookup f29 = some ⟨oc29, od29, .func (PySem.W.fnOf "_law_greatest" "_law_greatest" (defArgs s__law_greatest) (defBody s__law_greatest) (defScope s__law_greatest) .none kV29 dc29 pm29 an29 cd29 ct29), sl29⟩)
    (c29 : PySem.W.codeIn K cd29 "_law_greatest" = true) (k29 : PySem.W.keepIn K (.ref f29) = true)
    (a30 : PySem.W.nsIn K mainGlobals "_law_all_valid" = some (some (.ref f30)))
    (l30 : K.lookup f30 = some ⟨oc30, od30, .func (PySem.W.fnOf "_law_all_valid" "_law_all_valid" (defArgs s__law_all_valid) (defBody s__law_all_valid) (defScope s__law_all_valid) .none kV30 dc30 pm30 an30 cd30 ct30), sl30⟩)
    (c30 : PySem.W.codeIn K cd30 "_law_all_valid" = true) (k30 : PySem.W.keepIn K (.ref f30) = true)
    (a31 : PySem.W.nsIn K mainGlobals "_law_tables" = some (some (.ref f31)))
    (l31 : K.lookup f31 = some ⟨oc31, od31, .func (PySem.W.fnOf "_law_tables" "_law_tables" (defArgs s__law_tables) (defBody s__law_tables) (defScope s__law_tables) .none kV31 dc31 pm31 an31 cd31 ct31), sl31⟩)
    (c31 : PySem.W.codeIn K cd31 "_law_tables" = true) (k31 : PySem.W.keepIn K (.ref f31) = true)
    (a32 : PySem.W.nsIn K mainGlobals "_law_stream" = some (some (.ref f32)))
    (l32 : K.lookup f32 = some ⟨oc32, od32, .func (PySem.W.fnOf "_law_stream" "_law_stream" (defArgs s__law_stream) (defBody s__law_stream) (defScope s__law_stream) .none kV32 dc32 pm32 an32 cd32 ct32), sl32⟩)
    (c32 : PySem.W.codeIn K cd32 "_law_stream" = true) (k32 : PySem.W.keepIn K (.ref f32) = true)
    (a33 : PySem.W.nsIn K mainGlobals "_law_next" = some (some (.ref f33)))
    (l33 : K.lookup f33 = some ⟨oc33, od33, .func (PySem.W.fnOf "_law_next" "_law_next" (defArgs s__law_next) (defBody s__law_next) (defScope s__law_next) .none kV33 dc33 pm33 an33 cd33 ct33), sl33⟩)
    (c33 : PySem.W.codeIn K cd33 "_law_next" = true) (k33 : PySem.W.keepIn K (.ref f33) = true)
    (a34 : PySem.W.nsIn K mainGlobals "_law_paper" = some (some (.ref f34)))
    (l34 : K.lookup f34 = some ⟨oc34, od34, .func (PySem.W.fnOf "_law_paper" "_law_paper" (defArgs s__law_paper) (defBody s__law_paper) (defScope s__law_paper) .none kV34 dc34 pm34 an34 cd34 ct34), sl34⟩)
    (c34 : PySem.W.codeIn K cd34 "_law_paper" = true) (k34 : PySem.W.keepIn K (.ref f34) = true)
    (a35 : PySem.W.nsIn K mainGlobals "_law_sequence" = some (some (.ref f35)))
    (l35 : K.lookup f35 = some ⟨oc35, od35, .func (PySem.W.fnOf "_law_sequence" "_law_sequence" (defArgs s__law_sequence) (defBody s__law_sequence) (defScope s__law_sequence) .none kV35 dc35 pm35 an35 cd35 ct35), sl35⟩)
    (c35 : PySem.W.codeIn K cd35 "_law_sequence" = true) (k35 : PySem.W.keepIn K (.ref f35) = true)
    (a36 : PySem.W.nsIn K mainGlobals "_law_turned" = some (some (.ref f36)))
    (l36 : K.lookup f36 = some ⟨oc36, od36, .func (PySem.W.fnOf "_law_turned" "_law_turned" (defArgs s__law_turned) (defBody s__law_turned) (defScope s__law_turned) .none kV36 dc36 pm36 an36 cd36 ct36), sl36⟩)
    (c36 : PySem.W.codeIn K cd36 "_law_turned" = true) (k36 : PySem.W.keepIn K (.ref f36) = true)
    (a37 : PySem.W.nsIn K mainGlobals "_law_other_pairs" = some (some (.ref f37)))
    (l37 : K.lookup f37 = some ⟨oc37, od37, .func (PySem.W.fnOf "_law_other_pairs" "_law_other_pairs" (defArgs s__law_other_pairs) (defBody s__law_other_pairs) (defScope s__law_other_pairs) .none kV37 dc37 pm37 an37 cd37 ct37), sl37⟩)
    (c37 : PySem.W.codeIn K cd37 "_law_other_pairs" = true) (k37 : PySem.W.keepIn K (.ref f37) = true)
    (a38 : PySem.W.nsIn K mainGlobals "law" = some (some (.ref f38)))
    (l38 : K.lookup f38 = some ⟨oc38, od38, .func (PySem.W.fnOf "law" "law" (defArgs s_law) (defBody s_law) (defScope s_law) .none kV38 dc38 pm38 an38 cd38 ct38), sl38⟩)
    (c38 : PySem.W.codeIn K cd38 "law" = true) (k38 : PySem.W.keepIn K (.ref f38) = true)
    (z1 : PySem.W.nsIn K mainGlobals "len" = some none)
    (z2 : PySem.W.nsIn K mainGlobals "isinstance" = some none)
    (z3 : PySem.W.nsIn K mainGlobals "tuple" = some none)
    (z4 : PySem.W.nsIn K mainGlobals "list" = some none)
    (z5 : PySem.W.nsIn K mainGlobals "int" = some none)
    (z6 : PySem.W.nsIn K mainGlobals "bool" = some none)
    (z7 : PySem.W.nsIn K mainGlobals "str" = some none)
    (z8 : PySem.W.nsIn K mainGlobals "all" = some none)
    (z9 : PySem.W.nsIn K mainGlobals "any" = some none)
    (z10 : PySem.W.nsIn K mainGlobals "max" = some none)
    (z11 : PySem.W.nsIn K mainGlobals "min" = some none)
    (z12 : PySem.W.nsIn K mainGlobals "range" = some none)
    (z13 : PySem.W.nsIn K mainGlobals "enumerate" = some none)
    (z14 : PySem.W.nsIn K mainGlobals "sorted" = some none)
    (z15 : PySem.W.nsIn K mainGlobals "abs" = some none)
    (v1 : PySem.W.nsIn K mainGlobals "MOST_MARKS" = some (some (.int 6 t1)))
    (v2 : PySem.W.nsIn K mainGlobals "MOST_LEAVES_papers" = some (some (.int 16 t2)))
    (v3 : PySem.W.nsIn K mainGlobals "MOST_LEAVES_missing" = some (some (.int 12 t3)))
    : ∃ fd : FuncData, (∀ (s : Shared) (v : Value), BindsTo s fd ⟨[v], []⟩ [("_law_script", v)]) ∧ ∀ base : Heap, K.In base → base.Ns mainGlobals mg → FnOk l.prog w K mg base CX0 7 fa fd ["_law_script"] (spLaw K) := by
  have e := hfa.symm.trans (PySem.W.mg_of X G a38)
  cases e
  have B : Blt mg := ⟨PySem.W.mg_none_of X G z1, PySem.W.mg_none_of X G z2, PySem.W.mg_none_of X G z3, PySem.W.mg_none_of X G z4, PySem.W.mg_none_of X G z5, PySem.W.mg_none_of X G z6, PySem.W.mg_none_of X G z7, PySem.W.mg_none_of X G z8, PySem.W.mg_none_of X G z9, PySem.W.mg_none_of X G z10, PySem.W.mg_none_of X G z11, PySem.W.mg_none_of X G z12, PySem.W.mg_none_of X G z13, PySem.W.mg_none_of X G z14, PySem.W.mg_none_of X G z15⟩
  have C : Cst mg := ⟨⟨_, PySem.W.mg_of X G v1⟩, ⟨_, PySem.W.mg_of X G v2⟩, ⟨_, PySem.W.mg_of X G v3⟩⟩
  obtain ⟨D1, -, -⟩ := def_mk (st := s_is_whole_papers) (ps := p_is_whole_papers) X G a1 l1 c1 k1 fun fd F => F.binds (ps := p_is_whole_papers) fun _ _ _ _ _ _ us hl => match us, hl with | [_, _, _], _ => rfl
  obtain ⟨D2, -, -⟩ := def_mk (st := s_is_whole_missing) (ps := p_is_whole_missing) X G a2 l2 c2 k2 fun fd F => F.binds (ps := p_is_whole_missing) fun _ _ _ _ _ _ us hl => match us, hl with | [_, _, _], _ => rfl
  obtain ⟨D3, -, -⟩ := def_mk (st := s_is_paper) (ps := p_is_paper) X G a3 l3 c3 k3 fun fd F => F.binds (ps := p_is_paper) fun _ _ _ _ _ _ us hl => match us, hl with | [_], _ => rfl
  obtain ⟨D4, -, -⟩ := def_mk (st := s_are_marks) (ps := p_are_marks) X G a4 l4 c4 k4 fun fd F => F.binds (ps := p_are_marks) fun _ _ _ _ _ _ us hl => match us, hl with | [_, _], _ => rfl
  obtain ⟨D5, -, -⟩ := def_mk (st := s_is_sequence) (ps := p_is_sequence) X G a5 l5 c5 k5 fun fd F => F.binds (ps := p_is_sequence) fun _ _ _ _ _ _ us hl => match us, hl with | [_, _], _ => rfl
  obtain ⟨D6, -, -⟩ := def_mk (st := s_check_short) (ps := p_check_short) X G a6 l6 c6 k6 fun fd F => F.binds (ps := p_check_short) fun _ _ _ _ _ _ us hl => match us, hl with | [_, _], _ => rfl
  obtain ⟨D7, -, -⟩ := def_mk (st := s_is_inside) (ps := p_is_inside) X G a7 l7 c7 k7 fun fd F => F.binds (ps := p_is_inside) fun _ _ _ _ _ _ us hl => match us, hl with | [_, _], _ => rfl
  obtain ⟨D8, -, -⟩ := def_mk (st := s__law_inside) (ps := p__law_inside) X G a8 l8 c8 k8 fun fd F => F.binds (ps := p__law_inside) fun _ _ _ _ _ _ us hl => match us, hl with | [_, _], _ => rfl
  obtain ⟨D9, -, -⟩ := def_mk (st := s_are_apart) (ps := p_are_apart) X G a9 l9 c9 k9 fun fd F => F.binds (ps := p_are_apart) fun _ _ _ _ _ _ us hl => match us, hl with | [_, _], _ => rfl
  obtain ⟨D10, -, -⟩ := def_mk (st := s__law_apart) (ps := p__law_apart) X G a10 l10 c10 k10 fun fd F => F.binds (ps := p__law_apart) fun _ _ _ _ _ _ us hl => match us, hl with | [_, _], _ => rfl
  obtain ⟨D11, -, -⟩ := def_mk (st := s__law_is_integer) (ps := p__law_is_integer) X G a11 l11 c11 k11 fun fd F => F.binds (ps := p__law_is_integer) fun _ _ _ _ _ _ us hl => match us, hl with | [_], _ => rfl
  obtain ⟨D12, -, -⟩ := def_mk (st := s_are_integers) (ps := p_are_integers) X G a12 l12 c12 k12 fun fd F => F.binds (ps := p_are_integers) fun _ _ _ _ _ _ us hl => match us, hl with | [_, _], _ => rfl
  obtain ⟨D13, -, -⟩ := def_mk (st := s__law_are_numbers) (ps := p__law_are_numbers) X G a13 l13 c13 k13 fun fd F => F.binds (ps := p__law_are_numbers) fun _ _ _ _ _ _ us hl => match us, hl with | [_, _], _ => rfl
  obtain ⟨D14, -, -⟩ := def_mk (st := s_is_pair) (ps := p_is_pair) X G a14 l14 c14 k14 fun fd F => F.binds (ps := p_is_pair) fun _ _ _ _ _ _ us hl => match us, hl with | [_, _, _], _ => rfl
  obtain ⟨D15, -, -⟩ := def_mk (st := s_are_valid) (ps := p_are_valid) X G a15 l15 c15 k15 fun fd F => F.binds (ps := p_are_valid) fun _ _ _ _ _ _ us hl => match us, hl with | [_, _, _], _ => rfl
  obtain ⟨D16, -, -⟩ := def_mk (st := s__law_is_valid) (ps := p__law_is_valid) X G a16 l16 c16 k16 fun fd F => F.binds (ps := p__law_is_valid) fun _ _ _ _ _ _ us hl => match us, hl with | [_, _, _], _ => rfl
  obtain ⟨D17, -, -⟩ := def_mk (st := s_is_cell_right) (ps := p_is_cell_right) X G a17 l17 c17 k17 fun fd F => F.binds (ps := p_is_cell_right) fun _ _ _ _ _ _ us hl => match us, hl with | [_, _, _, _, _], _ => rfl
  obtain ⟨D18, -, -⟩ := def_mk (st := s_are_tables) (ps := p_are_tables) X G a18 l18 c18 k18 fun fd F => F.binds (ps := p_are_tables) fun _ _ _ _ _ _ us hl => match us, hl with | [_, _, _], _ => rfl
  obtain ⟨D19, -, -⟩ := def_mk (st := s_accepts_missing) (ps := p_accepts_missing) X G a19 l19 c19 k19 fun fd F => F.binds (ps := p_accepts_missing) fun _ _ _ _ _ _ us hl => match us, hl with | [_, _, _, _], _ => rfl
  obtain ⟨D20, -, -⟩ := def_mk (st := s__law_are_tables) (ps := p__law_are_tables) X G a20 l20 c20 k20 fun fd F => F.binds (ps := p__law_are_tables) fun _ _ _ _ _ _ us hl => match us, hl with | [_, _, _], _ => rfl
  obtain ⟨D21, -, -⟩ := def_mk (st := s__law_is_evidence) (ps := p__law_is_evidence) X G a21 l21 c21 k21 fun fd F => F.binds (ps := p__law_is_evidence) fun _ _ _ _ _ _ us hl => match us, hl with | [_, _, _, _], _ => rfl
  obtain ⟨D22, -, -⟩ := def_mk (st := s_nest_table) (ps := p_nest_table) X G a22 l22 c22 k22 fun fd F => F.binds (ps := p_nest_table) fun _ _ _ _ _ _ us hl => match us, hl with | [_, _], _ => rfl
  obtain ⟨D23, -, -⟩ := def_mk (st := s_end_table) (ps := p_end_table) X G a23 l23 c23 k23 fun fd F => F.binds (ps := p_end_table) fun _ _ _ _ _ _ us hl => match us, hl with | [_], _ => rfl
  obtain ⟨D24, -, -⟩ := def_mk (st := s_nests_in) (ps := p_nests_in) X G a24 l24 c24 k24 fun fd F => F.binds (ps := p_nests_in) fun _ _ _ _ _ _ us hl => match us, hl with | [_, _, _, _, _], _ => rfl
  obtain ⟨D25, -, -⟩ := def_mk (st := s_greatest) (ps := p_greatest) X G a25 l25 c25 k25 fun fd F => F.binds (ps := p_greatest) fun _ _ _ _ _ _ us hl => match us, hl with | [_, _], _ => rfl
  obtain ⟨D26, -, -⟩ := def_mk (st := s_missing_evidence) (ps := p_missing_evidence) X G a26 l26 c26 k26 fun fd F => F.binds (ps := p_missing_evidence) fun _ _ _ _ _ _ us hl => match us, hl with | [_, _], _ => rfl
  obtain ⟨D27, -, -⟩ := def_mk (st := s__law_reflected) (ps := p__law_reflected) X G a27 l27 c27 k27 fun fd F => F.binds (ps := p__law_reflected) fun _ _ _ _ _ _ us hl => match us, hl with | [_, _], _ => rfl
  obtain ⟨D28, -, -⟩ := def_mk (st := s__law_equal) (ps := p__law_equal) X G a28 l28 c28 k28 fun fd F => F.binds (ps := p__law_equal) fun _ _ _ _ _ _ us hl => match us, hl with | [_, _], _ => rfl
  obtain ⟨D29, -, -⟩ := def_mk (st := s__law_greatest) (ps := p__law_greatest) X G a29 l29 c29 k29 fun fd F => F.binds (ps := p__law_greatest) fun _ _ _ _ _ _ us hl => match us, hl with | [_], _ => rfl
  obtain ⟨D30, -, -⟩ := def_mk (st := s__law_all_valid) (ps := p__law_all_valid) X G a30 l30 c30 k30 fun fd F => F.binds (ps := p__law_all_valid) fun _ _ _ _ _ _ us hl => match us, hl with | [_, _], _ => rfl
  obtain ⟨D31, -, -⟩ := def_mk (st := s__law_tables) (ps := p__law_tables) X G a31 l31 c31 k31 fun fd F => F.binds (ps := p__law_tables) fun _ _ _ _ _ _ us hl => match us, hl with | [_, _], _ => rfl
  obtain ⟨D32, -, -⟩ := def_mk (st := s__law_stream) (ps := p__law_stream) X G a32 l32 c32 k32 fun fd F => F.binds (ps := p__law_stream) fun _ _ _ _ _ _ us hl => match us, hl with | [_], _ => rfl
  obtain ⟨D33, -, -⟩ := def_mk (st := s__law_next) (ps := p__law_next) X G a33 l33 c33 k33 fun fd F => F.binds (ps := p__law_next) fun _ _ _ _ _ _ us hl => match us, hl with | [_, _], _ => rfl
  obtain ⟨D34, -, -⟩ := def_mk (st := s__law_paper) (ps := p__law_paper) X G a34 l34 c34 k34 fun fd F => F.binds (ps := p__law_paper) fun _ _ _ _ _ _ us hl => match us, hl with | [_, _], _ => rfl
  obtain ⟨D35, -, -⟩ := def_mk (st := s__law_sequence) (ps := p__law_sequence) X G a35 l35 c35 k35 fun fd F => F.binds (ps := p__law_sequence) fun _ _ _ _ _ _ us hl => match us, hl with | [_, _, _], _ => rfl
  obtain ⟨D36, -, -⟩ := def_mk (st := s__law_turned) (ps := p__law_turned) X G a36 l36 c36 k36 fun fd F => F.binds (ps := p__law_turned) fun _ _ _ _ _ _ us hl => match us, hl with | [_, _], _ => rfl
  obtain ⟨D37, -, -⟩ := def_mk (st := s__law_other_pairs) (ps := p__law_other_pairs) X G a37 l37 c37 k37 fun fd F => F.binds (ps := p__law_other_pairs) fun _ _ _ _ _ _ us hl => match us, hl with | [_, _, _], _ => rfl
  obtain ⟨D38, eF38, eD38⟩ := def_mk (st := s_law) (ps := p_law) X G a38 l38 c38 k38 fun fd F => F.binds (ps := p_law) fun _ _ _ _ _ _ us hl => match us, hl with | [_], _ => rfl
  refine ⟨PySem.W.fnOf "law" "law" (defArgs s_law) (defBody s_law) (defScope s_law) .none kV38 dc38 pm38 an38 cd38 ct38, fun s v => .of_eq rfl, fun base _ _ => ?_⟩
  rw [← eD38, ← eF38]
  have G1 := ok_is_whole_papers (P := l.prog) (w := w) (base := base) B D1 
  have G2 := ok_is_whole_missing (P := l.prog) (w := w) (base := base) B D2 
  have G3 := ok_is_paper (P := l.prog) (w := w) (base := base) B C D3 D1 G1
  have G4 := ok_are_marks (P := l.prog) (w := w) (base := base) B D4 D1 G1
  have G5 := ok_is_sequence (P := l.prog) (w := w) (base := base) B C D5 D4 G4
  have G6 := ok_check_short (P := l.prog) (w := w) (base := base) B C D6 D3 G3 D5 G5
  have G7 := ok_is_inside (P := l.prog) (w := w) (base := base) B D7 
  have G8 := ok__law_inside (P := l.prog) (w := w) (base := base) B D8 
  have G9 := ok_are_apart (P := l.prog) (w := w) (base := base) B D9 
  have G10 := ok__law_apart (P := l.prog) (w := w) (base := base) B D10 
  have G11 := ok__law_is_integer (P := l.prog) (w := w) (base := base) B D11 
  have G12 := ok_are_integers (P := l.prog) (w := w) (base := base) B D12 
  have G13 := ok__law_are_numbers (P := l.prog) (w := w) (base := base) B D13 D11 G11
  have G14 := ok_is_pair (P := l.prog) (w := w) (base := base) B D14 D2 G2
  have G15 := ok_are_valid (P := l.prog) (w := w) (base := base) B D15 D14 G14 D7 G7 D9 G9
  have G16 := ok__law_is_valid (P := l.prog) (w := w) (base := base) B D16 D11 G11 D8 G8 D10 G10
  have G17 := ok_is_cell_right (P := l.prog) (w := w) (base := base) B D17 
  have G18 := ok_are_tables (P := l.prog) (w := w) (base := base) B D18 D12 G12 D17 G17
  have G19 := ok_accepts_missing (P := l.prog) (w := w) (base := base) B C D19 D6 G6 D2 G2 D15 G15 D18 G18
  have G20 := ok__law_are_tables (P := l.prog) (w := w) (base := base) B D20 D13 G13
  have G21 := ok__law_is_evidence (P := l.prog) (w := w) (base := base) B D21 D16 G16 D20 G20
  have G22 := ok_nest_table (P := l.prog) (w := w) (base := base) B D22 
  have G23 := ok_end_table (P := l.prog) (w := w) (base := base) B D23 
  have G24 := ok_nests_in (P := l.prog) (w := w) (base := base) B D24 4 
  have G25 := ok_greatest (P := l.prog) (w := w) (base := base) B D25 D22 G22 D23 G23 D24 G24
  have G26 := ok_missing_evidence (P := l.prog) (w := w) (base := base) B D26 D6 G6 D22 G22 D23 G23 D25 G25
  have G27 := ok__law_reflected (P := l.prog) (w := w) (base := base) B D27 
  have G28 := ok__law_equal (P := l.prog) (w := w) (base := base) B D28 D11 G11 5
  have G29 := ok__law_greatest (P := l.prog) (w := w) (base := base) B D29 
  have G30 := ok__law_all_valid (P := l.prog) (w := w) (base := base) B D30 D16 G16
  have G31 := ok__law_tables (P := l.prog) (w := w) (base := base) B D31 
  have G32 := ok__law_stream (P := l.prog) (w := w) (base := base) B D32 
  have G33 := ok__law_next (P := l.prog) (w := w) (base := base) B D33 
  have G34 := ok__law_paper (P := l.prog) (w := w) (base := base) B D34 D33 G33
  have G35 := ok__law_sequence (P := l.prog) (w := w) (base := base) B D35 D33 G33 D27 G27
  have G36 := ok__law_turned (P := l.prog) (w := w) (base := base) B D36 D33 G33
  have G37 := ok__law_other_pairs (P := l.prog) (w := w) (base := base) B D37 D33 G33
  have G38 := ok_law (P := l.prog) (w := w) (base := base) B D38 D32 G32 D33 G33 D34 G34 D35 G35 D30 G30 D29 G29 D26 G26 D31 G31 D28 G28 D19 G19 D21 G21 D36 G36 D37 G37
  exact G38

theorem walk {l : PySem.W.OpenLaw} {q : Program} {loose : List Str} {XP : (Str → Option Value) → Heap → Prop} {YP : World → Heap → Prop} {d : DefRec} {K : Params → PySem.W.Frag} (hn : l.most = some 63) (hdf : d.params.defaults = [])
    (hY : ∀ (w : World) (h : Heap), YP w h → (K w.params).In h)
    (F : ∀ (w : World) (mg : Str → Option Value) (fa : Addr) (h : Heap), (K w.params).In h → h.Ns mainGlobals mg → mg d.name = some (.ref fa) →
      ∃ fd : FuncData, (∀ (s : Shared) (u : Value), BindsTo s fd ⟨[u], []⟩ [("_law_script", u)]) ∧ ∀ base : Heap, (K w.params).In base → base.Ns mainGlobals mg → FnOk l.prog w (K w.params) mg base CX0 7 fa fd ["_law_script"] (spLaw (K w.params))) :
    PySem.W.WalkO q loose XP YP l.row.toRowW d [] (fun f vs => PySem.call f vs) :=
  L2.walk_of (n := 63) (k := 7) (x := "_law_script") (CX := fun _ => CX0) (sp := fun w => spLaw (K w.params)) hn (by decide) hdf ⟨rfl, by decide, by decide⟩ hY F (fun _ _ a ns hl _ hS => ⟨a, ns, rfl, hS, hl, fun _ => rfl⟩) fun _ _ _ _ _ z => z
end K47
open PySem PySem.W PyProof.Rows
set_option maxRecDepth 100000 in
set_option maxHeartbeats 0 in
theorem PySem.Challenge.cw_quiremarks_k47_whole_evidence_of_missing_holds : PySem.Challenge.rw_quiremarks_k47_whole_evidence_of_missing.Holds := by
  w_on; o_law; k_head; (case hw => w_witness2)
  k_fill
  refine K47.walk (l := PySem.Challenge.rw_quiremarks_k47_whole_evidence_of_missing) rfl rfl (fun w h Y => PySem.W.kIn_of Y) ?F
  case F =>
    intro w mg fa h KX G hmg
    refine' K47.all_mk KX G hmg ?a1 ?l1 ?c1 ?k1 ?a2 ?l2 ?c2 ?k2 ?a3 ?l3 ?c3 ?k3 ?a4 ?l4 ?c4 ?k4 ?a5 ?l5 ?c5 ?k5 ?a6 ?l6 ?c6 ?k6 ?a7 ?l7 ?c7 ?k7 ?a8 ?l8 ?c8 ?k8 ?a9 ?l9 ?c9 ?k9 ?a10 ?l10 ?c10 ?k10 ?a11 ?l11 ?c11 ?k11 ?a12 ?l12 ?c12 ?k12 ?a13 ?l13 ?c13 ?k13 ?a14 ?l14 ?c14 ?k14 ?a15 ?l15 ?c15 ?k15 ?a16 ?l16 ?c16 ?k16 ?a17 ?l17 ?c17 ?k17 ?a18 ?l18 ?c18 ?k18 ?a19 ?l19 ?c19 ?k19 ?a20 ?l20 ?c20 ?k20 ?a21 ?l21 ?c21 ?k21 ?a22 ?l22 ?c22 ?k22 ?a23 ?l23 ?c23 ?k23 ?a24 ?l24 ?c24 ?k24 ?a25 ?l25 ?c25 ?k25 ?a26 ?l26 ?c26 ?k26 ?a27 ?l27 ?c27 ?k27 ?a28 ?l28 ?c28 ?k28 ?a29 ?l29 ?c29 ?k29 ?a30 ?l30 ?c30 ?k30 ?a31 ?l31 ?c31 ?k31 ?a32 ?l32 ?c32 ?k32 ?a33 ?l33 ?c33 ?k33 ?a34 ?l34 ?c34 ?k34 ?a35 ?l35 ?c35 ?k35 ?a36 ?l36 ?c36 ?k36 ?a37 ?l37 ?c37 ?k37 ?a38 ?l38 ?c38 ?k38 ?z1 ?z2 ?z3 ?z4 ?z5 ?z6 ?z7 ?z8 ?z9 ?z10 ?z11 ?z12 ?z13 ?z14 ?z15 ?v1 ?v2 ?v3
    (case a1 => k_is); (case l1 => k_is); (case c1 => k_is); (case k1 => k_is)
    (case a2 => k_is); (case l2 => k_is); (case c2 => k_is); (case k2 => k_is)
    (case a3 => k_is); (case l3 => k_is); (case c3 => k_is); (case k3 => k_is)
    (case a4 => k_is); (case l4 => k_is); (case c4 => k_is); (case k4 => k_is)
    (case a5 => k_is); (case l5 => k_is); (case c5 => k_is); (case k5 => k_is)
    (case a6 => k_is); (case l6 => k_is); (case c6 => k_is); (case k6 => k_is)
    (case a7 => k_is); (case l7 => k_is); (case c7 => k_is); (case k7 => k_is)
    (case a8 => k_is); (case l8 => k_is); (case c8 => k_is); (case k8 => k_is)
    (case a9 => k_is); (case l9 => k_is); (case c9 => k_is); (case k9 => k_is)
    (case a10 => k_is); (case l10 => k_is); (case c10 => k_is); (case k10 => k_is)
    (case a11 => k_is); (case l11 => k_is); (case c11 => k_is); (case k11 => k_is)
    (case a12 => k_is); (case l12 => k_is); (case c12 => k_is); (case k12 => k_is)
    (case a13 => k_is); (case l13 => k_is); (case c13 => k_is); (case k13 => k_is)
    (case a14 => k_is); (case l14 => k_is); (case c14 => k_is); (case k14 => k_is)
    (case a15 => k_is); (case l15 => k_is); (case c15 => k_is); (case k15 => k_is)
    (case a16 => k_is); (case l16 => k_is); (case c16 => k_is); (case k16 => k_is)
    (case a17 => k_is); (case l17 => k_is); (case c17 => k_is); (case k17 => k_is)
    (case a18 => k_is); (case l18 => k_is); (case c18 => k_is); (case k18 => k_is)
    (case a19 => k_is); (case l19 => k_is); (case c19 => k_is); (case k19 => k_is)
    (case a20 => k_is); (case l20 => k_is); (case c20 => k_is); (case k20 => k_is)
    (case a21 => k_is); (case l21 => k_is); (case c21 => k_is); (case k21 => k_is)
    (case a22 => k_is); (case l22 => k_is); (case c22 => k_is); (case k22 => k_is)
    (case a23 => k_is); (case l23 => k_is); (case c23 => k_is); (case k23 => k_is)
    (case a24 => k_is); (case l24 => k_is); (case c24 => k_is); (case k24 => k_is)
    (case a25 => k_is); (case l25 => k_is); (case c25 => k_is); (case k25 => k_is)
    (case a26 => k_is); (case l26 => k_is); (case c26 => k_is); (case k26 => k_is)
    (case a27 => k_is); (case l27 => k_is); (case c27 => k_is); (case k27 => k_is)
    (case a28 => k_is); (case l28 => k_is); (case c28 => k_is); (case k28 => k_is)
    (case a29 => k_is); (case l29 => k_is); (case c29 => k_is); (case k29 => k_is)
    (case a30 => k_is); (case l30 => k_is); (case c30 => k_is); (case k30 => k_is)
    (case a31 => k_is); (case l31 => k_is); (case c31 => k_is); (case k31 => k_is)
    (case a32 => k_is); (case l32 => k_is); (case c32 => k_is); (case k32 => k_is)
    (case a33 => k_is); (case l33 => k_is); (case c33 => k_is); (case k33 => k_is)
    (case a34 => k_is); (case l34 => k_is); (case c34 => k_is); (case k34 => k_is)
    (case a35 => k_is); (case l35 => k_is); (case c35 => k_is); (case k35 => k_is)
    (case a36 => k_is); (case l36 => k_is); (case c36 => k_is); (case k36 => k_is)
    (case a37 => k_is); (case l37 => k_is); (case c37 => k_is); (case k37 => k_is)
    (case a38 => k_is); (case l38 => k_is); (case c38 => k_is); (case k38 => k_is)
    (case z1 => k_is); (case z2 => k_is); (case z3 => k_is); (case z4 => k_is)
    (case z5 => k_is); (case z6 => k_is); (case z7 => k_is); (case z8 => k_is)
    (case z9 => k_is); (case z10 => k_is); (case z11 => k_is); (case z12 => k_is)
    (case z13 => k_is); (case z14 => k_is); (case z15 => k_is); (case v1 => k_is)
    (case v2 => k_is); (case v3 => k_is)
#print axioms PySem.Challenge.cw_quiremarks_k47_whole_evidence_of_missing_holds
