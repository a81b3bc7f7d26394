import PyProof.Rows.All
import Wide.All
import OpenK.AllK
import Wide.FinOn
import HandS.ForMost
import HandS.More
import HandS.IsInst
import HandS.NoneIn
import HandS.Walk
import PySem.Challenge.RW_tiehues_k32_whole_knotted_crossings
set_option Elab.async false
set_option linter.all false
set_option maxRecDepth 100000
set_option maxHeartbeats 4000000
/-! The plain law: chains of two hues, exchanged; core Lean alone. -/
namespace Tie
abbrev Pr := Int × Int
def touch (p : Pr) (t : Int) : Prop := p.1 = t ∨ p.2 = t
instance touchDec (p : Pr) (t : Int) : Decidable (touch p t) := inferInstanceAs (Decidable (_ ∨ _))

theorem touch_other {p : Pr} {w u : Int} (h : touch p w) : touch p u ↔ u = w ∨ u = p.1 + p.2 - w := by
  unfold touch at *
  omega
theorem other_touch {p : Pr} {w : Int} (h : touch p w) : touch p (p.1 + p.2 - w) := by
  unfold touch at *
  omega
theorem other_ne {p : Pr} {w : Int} (h : touch p w) (n : p.1 ≠ p.2) : p.1 + p.2 - w ≠ w := by
  unfold touch at *
  omega

section
variable (p : Nat → Pr)
def hitB (c : Nat → Int) (t h : Int) (k : Nat) : Bool := decide (c k = h) && decide (touch (p k) t)
/-- the first pair on a tie with a hue -/
def byF (c : Nat → Int) (m : Nat) (t h : Int) : Option Nat := (List.range m).find? (hitB p c t h)
/-- the hues below q that no pair on a tie has -/
def freeF (c : Nat → Int) (m : Nat) (t : Int) (q : Nat) : List Int := ((List.range q).filter fun (h : Nat) => (byF p c m t (h : Int)).isNone).map fun (h : Nat) => (h : Int)
/-- no pair of the first m on tie t has hue h -/
def Fr (c : Nat → Int) (m : Nat) (t h : Int) : Prop := ∀ k, k < m → touch (p k) t → c k ≠ h
def Proper (c : Nat → Int) (m : Nat) : Prop := ∀ i j, i < m → j < m → i ≠ j → c i = c j → ∀ t, touch (p i) t → ¬ touch (p j) t
/-- a chain's walk, with at most f steps -/
def chainA (c : Nat → Int) (m : Nat) : Nat → List Nat → Int → Int → Int → Option (List Nat × Option Int)
  | 0, _, _, _, _ => none
  | f + 1, acc, tie, hue, other =>
    match byF p c m tie hue with
    | none => some (acc, some tie)
    | some k => if (p k).1 = (p k).2 then some (acc ++ [k], none) else chainA c m f (acc ++ [k]) ((p k).1 + (p k).2 - tie) other hue
end

section
variable {p : Nat → Pr} {c : Nat → Int} {m : Nat} {t h : Int}
theorem hitB_iff {k : Nat} : hitB p c t h k = true ↔ c k = h ∧ touch (p k) t := by
  unfold hitB
  rw [Bool.and_eq_true, decide_eq_true_eq, decide_eq_true_eq]
theorem by_some {k : Nat} (e : byF p c m t h = some k) : k < m ∧ c k = h ∧ touch (p k) t := by
  unfold byF at e
  have h1 := List.find?_some e
  have h2 := List.mem_of_find?_eq_some e
  rw [List.mem_range] at h2
  exact ⟨h2, hitB_iff.mp h1⟩
theorem by_none : byF p c m t h = none ↔ Fr p c m t h := by
  unfold byF Fr
  rw [List.find?_eq_none]
  constructor
  · intro q k hk ht e
    exact q k (List.mem_range.mpr hk) (hitB_iff.mpr ⟨e, ht⟩)
  · intro q k hk e
    have := hitB_iff.mp e
    exact q k (List.mem_range.mp hk) this.2 this.1
theorem by_isNone : (byF p c m t h).isNone = true ↔ Fr p c m t h := by
  rw [Option.isNone_iff_eq_none]
  exact by_none
theorem by_there {k : Nat} (hp : Proper p c m) (hk : k < m) (e : c k = h) (ht : touch (p k) t) : byF p c m t h = some k := by
  cases q : byF p c m t h with
  | none => exact absurd e (by_none.mp q k hk ht)
  | some j =>
    obtain ⟨h1, h2, h3⟩ := by_some q
    by_cases z : j = k
    · rw [z]
    · exact absurd ht (hp j k h1 hk z (h2.trans e.symm) t h3)
theorem find_range_first {f : Nat → Bool} : ∀ {m k : Nat}, k < m → f k = true → (∀ j, j < k → f j = false) → (List.range m).find? f = some k := by
  intro m k hk hf hn
  rw [List.find?_range_eq_some]
  refine ⟨hf, List.mem_range.mpr hk, fun j hj => ?_⟩
  rw [hn j hj]
  rfl
theorem by_first {k : Nat} (hk : k < m) (e : c k = h) (ht : touch (p k) t) (hn : ∀ j, j < k → ¬ (c j = h ∧ touch (p j) t)) : byF p c m t h = some k := by
  unfold byF
  refine find_range_first hk (hitB_iff.mpr ⟨e, ht⟩) fun j hj => ?_
  cases z : hitB p c t h j with
  | false => rfl
  | true => exact absurd (hitB_iff.mp z) (hn j hj)
theorem by_never (hn : ∀ j, j < m → ¬ (c j = h ∧ touch (p j) t)) : byF p c m t h = none := by
  rw [by_none]
  exact fun k hk ht e => hn k hk ⟨e, ht⟩
theorem mem_free {q : Nat} : h ∈ freeF p c m t q ↔ 0 ≤ h ∧ h < q ∧ Fr p c m t h := by
  unfold freeF
  rw [List.mem_map]
  constructor
  · rintro ⟨a, ha, rfl⟩
    rw [List.mem_filter, List.mem_range] at ha
    exact ⟨by omega, by omega, by_isNone.mp ha.2⟩
  · rintro ⟨h0, h1, hf⟩
    refine ⟨h.toNat, ?_, by omega⟩
    rw [List.mem_filter, List.mem_range]
    refine ⟨by omega, ?_⟩
    rw [show ((h.toNat : Nat) : Int) = h by omega]
    exact by_isNone.mpr hf
theorem free_zero : freeF p c m t 0 = [] := rfl
theorem free_succ {q : Nat} : freeF p c m t (q + 1) = freeF p c m t q ++ (if byF p c m t (q : Int) = none then [(q : Int)] else []) := by
  unfold freeF
  rw [List.range_succ, List.filter_append, List.map_append]
  congr 1
  cases e : byF p c m t (q : Int) with
  | none => simp [e]
  | some k => simp [e]
theorem free_length {q : Nat} : (freeF p c m t q).length ≤ q := by
  unfold freeF
  rw [List.length_map]
  refine Nat.le_trans (List.length_filter_le _ _) ?_
  rw [List.length_range]
  exact Nat.le_refl _

/-! ### chains -/
/-- the state of a walk of hues a, b from tie t on: at tie w, about to leave by hue -/
structure ChI (p : Nat → Pr) (c : Nat → Int) (m : Nat) (t a b : Int) (F : List Nat) (w hue other : Int) : Prop where
  col : (hue = a ∧ other = b) ∨ (hue = b ∧ other = a)
  nd : F.Nodup
  lt : ∀ k, k ∈ F → k < m
  fc : ∀ k, k ∈ F → c k = a ∨ c k = b
  nl : ∀ k, k ∈ F → (p k).1 ≠ (p k).2
  cl : ∀ k, k ∈ F → ∀ u, touch (p k) u → u ≠ w → ∀ j, j < m → touch (p j) u → (c j = a ∨ c j = b) → j ∈ F
  at_ : ∀ j, j < m → touch (p j) w → c j = other → j ∈ F
  off : ∀ j, j < m → touch (p j) w → c j = hue → j ∉ F
  wt : w = t → F = []
  nil : F = [] → w = t ∧ hue = a
  sc : F ≠ [] → ∀ j, j < m → touch (p j) t → (c j = a ∨ c j = b) → j ∈ F
  mid : ∀ k, k ∈ F → ∀ u, touch (p k) u → u ≠ t → u ≠ w → ¬ Fr p c m u a ∧ ¬ Fr p c m u b
  en : F ≠ [] → ∃ k, k ∈ F ∧ touch (p k) w ∧ c k = other
  sep : ∀ G : Nat → Prop, (∀ k, G k → (c k = a ∨ c k = b) ∧ ∀ u, touch (p k) u → ∀ j, j < m → touch (p j) u → (c j = a ∨ c j = b) → G j) → (∀ k, G k → ¬ touch (p k) t) → (∀ k, k ∈ F → ¬ G k) ∧ ∀ k, G k → ¬ touch (p k) w
/-- a whole chain from tie t: its pairs F, its end e -/
structure ChS (p : Nat → Pr) (c : Nat → Int) (m : Nat) (t a b : Int) (F : List Nat) (e : Option Int) : Prop where
  nd : F.Nodup
  lt : ∀ k, k ∈ F → k < m
  fc : ∀ k, k ∈ F → c k = a ∨ c k = b
  cl : ∀ k, k ∈ F → ∀ u, touch (p k) u → ∀ j, j < m → touch (p j) u → (c j = a ∨ c j = b) → j ∈ F
  st : ∀ j, j < m → touch (p j) t → (c j = a ∨ c j = b) → j ∈ F
  mid : ∀ k, k ∈ F → ∀ u, touch (p k) u → u ≠ t → e ≠ some u → ¬ Fr p c m u a ∧ ¬ Fr p c m u b
  nl : ∀ w, e = some w → ∀ k, k ∈ F → (p k).1 ≠ (p k).2
  en : ∀ w, e = some w → w ≠ t → ∃ k, k ∈ F ∧ touch (p k) w
  sep : ∀ G : Nat → Prop, (∀ k, G k → (c k = a ∨ c k = b) ∧ ∀ u, touch (p k) u → ∀ j, j < m → touch (p j) u → (c j = a ∨ c j = b) → G j) → (∀ k, G k → ¬ touch (p k) t) → ∀ k, k ∈ F → ¬ G k

theorem notFr {u x : Int} {k : Nat} (hk : k < m) (ht : touch (p k) u) (e : c k = x) : ¬ Fr p c m u x := fun q => q k hk ht e
theorem nodup_len : ∀ {m : Nat} {F : List Nat}, F.Nodup → (∀ k, k ∈ F → k < m) → F.length ≤ m
  | 0, F, _, hl => by
    cases F with
    | nil => exact Nat.le_refl _
    | cons x r => exact absurd (hl x List.mem_cons_self) (Nat.not_lt_zero _)
  | m + 1, F, nd, hl => by
    have nd' : (F.erase m).Nodup := nd.erase m
    have hl' : ∀ k, k ∈ F.erase m → k < m := fun k hk => by
      rw [nd.mem_erase_iff] at hk
      have := hl k hk.2
      omega
    have := nodup_len nd' hl'
    have h2 := List.length_erase (a := m) (l := F)
    split at h2 <;> omega

variable {a b : Int}
theorem ChI.start (hb : Fr p c m t b) : ChI p c m t a b [] t a b where
  col := .inl ⟨rfl, rfl⟩
  nd := List.nodup_nil
  lt := fun _ h => nomatch h
  fc := fun _ h => nomatch h
  nl := fun _ h => nomatch h
  cl := fun _ h => nomatch h
  at_ := fun j hj ht e => absurd e (hb j hj ht)
  off := fun _ _ _ _ h => nomatch h
  wt := fun _ => rfl
  nil := fun _ => ⟨rfl, rfl⟩
  sc := fun h => absurd rfl h
  mid := fun _ h => nomatch h
  en := fun h => absurd rfl h
  sep := fun G _ hn => ⟨(fun _ h => nomatch h), hn⟩

theorem ChI.step {F : List Nat} {w hue other : Int} {k : Nat} (I : ChI p c m t a b F w hue other) (hp : Proper p c m) (hab : a ≠ b) (hb : Fr p c m t b) (e : byF p c m w hue = some k) (nl : (p k).1 ≠ (p k).2) :
    ChI p c m t a b (F ++ [k]) ((p k).1 + (p k).2 - w) other hue := by
  obtain ⟨hk, hc, hw⟩ := by_some e
  have kn : k ∉ F := I.off k hk hw hc
  have huq : hue = a ∨ hue = b := by rcases I.col with z | z <;> simp [z.1]
  have hne : hue ≠ other := by rcases I.col with z | z <;> (rw [z.1, z.2]; first | exact hab | exact hab.symm)
  have ck : c k = a ∨ c k = b := by rw [hc]; exact huq
  have uniq : ∀ j, j < m → ∀ u, touch (p j) u → touch (p k) u → c j = hue → j = k := fun j hj u h1 h2 h3 => by
    by_cases z : j = k
    · exact z
    · exact absurd h2 (hp j k hj hk z (h3.trans hc.symm) u h1)
  have colOf : ∀ j, (c j = a ∨ c j = b) → c j = hue ∨ c j = other := fun j z => by
    rcases I.col with y | y <;> rcases z with z | z <;> simp [y.1, y.2, z]
  have w'w : (p k).1 + (p k).2 - w ≠ w := other_ne hw nl
  have tw' : touch (p k) ((p k).1 + (p k).2 - w) := other_touch hw
  -- the far end is not the start
  have w't : (p k).1 + (p k).2 - w ≠ t := fun z => by
    rw [z] at tw' w'w
    have ca : c k = a := by
      rcases ck with y | y
      · exact y
      · exact absurd y (hb k hk tw')
    by_cases hF : F = []
    · exact w'w (I.nil hF).1.symm
    · exact kn (I.sc hF k hk tw' (.inl ca))
  have mem : ∀ j, j ∈ F ++ [k] ↔ j ∈ F ∨ j = k := fun j => by rw [List.mem_append, List.mem_singleton]
  have ne : F ++ [k] ≠ [] := by simp
  refine ⟨?_, ?_, ?_, ?_, ?_, ?_, ?_, ?_, ?_, ?_, ?_, ?_, ?_, ?_⟩
  · rcases I.col with z | z
    · exact .inr ⟨z.2, z.1⟩
    · exact .inl ⟨z.2, z.1⟩
  · rw [List.nodup_append]
    refine ⟨I.nd, by simp, fun x hx y hy z => ?_⟩
    rw [List.mem_singleton] at hy
    rw [z, hy] at hx
    exact kn hx
  · intro j hj
    rcases (mem j).mp hj with z | z
    · exact I.lt j z
    · rw [z]; exact hk
  · intro j hj
    rcases (mem j).mp hj with z | z
    · exact I.fc j z
    · rw [z]; exact ck
  · intro j hj
    rcases (mem j).mp hj with z | z
    · exact I.nl j z
    · rw [z]; exact nl
  · -- closed but at the new end
    intro i hi u hu nu j hj hju hcj
    rw [mem]
    by_cases uw : u = w
    · rw [uw] at hju
      rcases colOf j hcj with y | y
      · exact .inr (uniq j hj w hju hw y)
      · exact .inl (I.at_ j hj hju y)
    · rcases (mem i).mp hi with z | z
      · exact .inl (I.cl i z u hu uw j hj hju hcj)
      · rw [z] at hu
        rcases (touch_other hw).mp hu with y | y
        · exact absurd y uw
        · exact absurd y nu
  · intro j hj hjw y
    rw [mem]
    exact .inr (uniq j hj _ hjw tw' y)
  · intro j hj hjw y hm
    rcases (mem j).mp hm with z | z
    · exact kn (I.cl j z _ hjw w'w k hk tw' ck)
    · rw [z] at y
      exact hne (hc.symm.trans y)
  · intro z
    exact absurd z w't
  · intro z
    exact absurd z ne
  · intro _ j hj hjt hcj
    rw [mem]
    by_cases hF : F = []
    · obtain ⟨h1, h2⟩ := I.nil hF
      have ca : c j = a := by
        rcases hcj with y | y
        · exact y
        · exact absurd y (hb j hj hjt)
      rw [h1] at hw
      exact .inr (uniq j hj t hjt hw (by rw [ca, h2]))
    · exact .inl (I.sc hF j hj hjt hcj)
  · intro i hi u hu ut uw'
    by_cases uw : u = w
    · -- the old end, not the start: it has both
      have hF : F ≠ [] := fun z => ut (uw.trans (I.nil z).1)
      obtain ⟨l, hl1, hl2, hl3⟩ := I.en hF
      have f1 : ¬ Fr p c m u hue := notFr hk (by rw [uw]; exact hw) hc
      have f2 : ¬ Fr p c m u other := notFr (I.lt l hl1) (by rw [uw]; exact hl2) hl3
      rcases I.col with y | y
      · rw [← y.1, ← y.2]; exact ⟨f1, f2⟩
      · rw [← y.1, ← y.2]; exact ⟨f2, f1⟩
    · rcases (mem i).mp hi with z | z
      · exact I.mid i z u hu ut uw
      · rw [z] at hu
        rcases (touch_other hw).mp hu with y | y
        · exact absurd y uw
        · exact absurd y uw'
  · intro _
    exact ⟨k, (mem k).mpr (.inr rfl), tw', hc⟩
  · intro G hG hn
    obtain ⟨s1, s2⟩ := I.sep G hG hn
    have gk : ¬ G k := fun z => s2 k z hw
    refine ⟨fun j hj => ?_, fun j hj hjw => ?_⟩
    · rcases (mem j).mp hj with z | z
      · exact s1 j z
      · rw [z]; exact gk
    · exact gk ((hG j hj).2 _ hjw k hk tw' ck)

theorem ChI.ends {F : List Nat} {w hue other : Int} (I : ChI p c m t a b F w hue other) (e : byF p c m w hue = none) : ChS p c m t a b F (some w) := by
  have hf := by_none.mp e
  have colOf : ∀ j, (c j = a ∨ c j = b) → c j = hue ∨ c j = other := fun j z => by
    rcases I.col with y | y <;> rcases z with z | z <;> simp [y.1, y.2, z]
  have atw : ∀ j, j < m → touch (p j) w → (c j = a ∨ c j = b) → j ∈ F := fun j hj hjw hcj => by
    rcases colOf j hcj with y | y
    · exact absurd y (hf j hj hjw)
    · exact I.at_ j hj hjw y
  refine ⟨I.nd, I.lt, I.fc, ?_, ?_, ?_, ?_, ?_, fun G hG hn => (I.sep G hG hn).1⟩
  · intro i hi u hu j hj hju hcj
    by_cases uw : u = w
    · rw [uw] at hju
      exact atw j hj hju hcj
    · exact I.cl i hi u hu uw j hj hju hcj
  · intro j hj hjt hcj
    by_cases hF : F = []
    · rw [← (I.nil hF).1] at hjt
      exact atw j hj hjt hcj
    · exact I.sc hF j hj hjt hcj
  · intro i hi u hu ut ue
    exact I.mid i hi u hu ut fun z => ue (by rw [z])
  · intro _ _ i hi
    exact I.nl i hi
  · intro w' hw' n
    cases hw'
    have hF : F ≠ [] := fun z => n (I.nil z).1
    obtain ⟨l, h1, h2, _⟩ := I.en hF
    exact ⟨l, h1, h2⟩

theorem ChI.loops {F : List Nat} {w hue other : Int} {k : Nat} (I : ChI p c m t a b F w hue other) (hp : Proper p c m) (hb : Fr p c m t b) (e : byF p c m w hue = some k) (lp : (p k).1 = (p k).2) : ChS p c m t a b (F ++ [k]) none := by
  obtain ⟨hk, hc, hw⟩ := by_some e
  have kn : k ∉ F := I.off k hk hw hc
  have huq : hue = a ∨ hue = b := by rcases I.col with z | z <;> simp [z.1]
  have ck : c k = a ∨ c k = b := by rw [hc]; exact huq
  have uniq : ∀ j, j < m → ∀ u, touch (p j) u → touch (p k) u → c j = hue → j = k := fun j hj u h1 h2 h3 => by
    by_cases z : j = k
    · exact z
    · exact absurd h2 (hp j k hj hk z (h3.trans hc.symm) u h1)
  have colOf : ∀ j, (c j = a ∨ c j = b) → c j = hue ∨ c j = other := fun j z => by
    rcases I.col with y | y <;> rcases z with z | z <;> simp [y.1, y.2, z]
  have only : ∀ u, touch (p k) u → u = w := fun u hu => by
    unfold touch at hu hw
    omega
  have mem : ∀ j, j ∈ F ++ [k] ↔ j ∈ F ∨ j = k := fun j => by rw [List.mem_append, List.mem_singleton]
  have atw : ∀ j, j < m → touch (p j) w → (c j = a ∨ c j = b) → j ∈ F ++ [k] := fun j hj hjw hcj => by
    rw [mem]
    rcases colOf j hcj with y | y
    · exact .inr (uniq j hj w hjw hw y)
    · exact .inl (I.at_ j hj hjw y)
  refine ⟨?_, ?_, ?_, ?_, ?_, ?_, (fun _ z => nomatch z), (fun _ z => nomatch z), ?_⟩
  · rw [List.nodup_append]
    refine ⟨I.nd, by simp, fun x hx y hy z => ?_⟩
    rw [List.mem_singleton] at hy
    rw [z, hy] at hx
    exact kn hx
  · intro j hj
    rcases (mem j).mp hj with z | z
    · exact I.lt j z
    · rw [z]; exact hk
  · intro j hj
    rcases (mem j).mp hj with z | z
    · exact I.fc j z
    · rw [z]; exact ck
  · intro i hi u hu j hj hju hcj
    by_cases uw : u = w
    · rw [uw] at hju
      exact atw j hj hju hcj
    · rcases (mem i).mp hi with z | z
      · exact (mem j).mpr (.inl (I.cl i z u hu uw j hj hju hcj))
      · rw [z] at hu
        exact absurd (only u hu) uw
  · intro j hj hjt hcj
    by_cases hF : F = []
    · rw [← (I.nil hF).1] at hjt
      exact atw j hj hjt hcj
    · exact (mem j).mpr (.inl (I.sc hF j hj hjt hcj))
  · intro i hi u hu ut _
    by_cases uw : u = w
    · have hF : F ≠ [] := fun z => ut (uw.trans (I.nil z).1)
      obtain ⟨l, hl1, hl2, hl3⟩ := I.en hF
      have f1 : ¬ Fr p c m u hue := notFr hk (by rw [uw]; exact hw) hc
      have f2 : ¬ Fr p c m u other := notFr (I.lt l hl1) (by rw [uw]; exact hl2) hl3
      rcases I.col with y | y
      · rw [← y.1, ← y.2]; exact ⟨f1, f2⟩
      · rw [← y.1, ← y.2]; exact ⟨f2, f1⟩
    · rcases (mem i).mp hi with z | z
      · exact I.mid i z u hu ut uw
      · rw [z] at hu
        exact absurd (only u hu) uw
  · intro G hG hn j hj
    obtain ⟨s1, s2⟩ := I.sep G hG hn
    rcases (mem j).mp hj with z | z
    · exact s1 j z
    · rw [z]
      exact fun y => s2 k y hw

theorem chain_go (hp : Proper p c m) (hab : a ≠ b) (hb : Fr p c m t b) : ∀ (f : Nat) (F : List Nat) (w hue other : Int), ChI p c m t a b F w hue other → m < f + F.length →
    ∃ F' e, chainA p c m f F w hue other = some (F', e) ∧ ChS p c m t a b F' e ∧ F'.length ≤ m
  | 0, F, w, hue, other, I, hf => by
    have := nodup_len I.nd I.lt
    omega
  | f + 1, F, w, hue, other, I, hf => by
    unfold chainA
    cases e : byF p c m w hue with
    | none =>
      exact ⟨_, _, rfl, I.ends e, nodup_len I.nd I.lt⟩
    | some k =>
      by_cases lp : (p k).1 = (p k).2
      · have S := I.loops hp hb e lp
        refine ⟨_, _, by simp only [if_pos lp], S, nodup_len S.nd S.lt⟩
      · simp only [if_neg lp]
        exact chain_go hp hab hb f _ _ _ _ (I.step hp hab hb e lp) (by rw [List.length_append, List.length_singleton]; omega)
theorem chain_spec (hp : Proper p c m) (hab : a ≠ b) (hb : Fr p c m t b) : ∃ F e, chainA p c m (m + 1) [] t a b = some (F, e) ∧ ChS p c m t a b F e ∧ F.length ≤ m :=
  chain_go hp hab hb (m + 1) [] t a b (ChI.start hb) (by simp)
end
end Tie

/-! Exchanges, the hue that is free, counts; lists of hues. Core Lean alone. -/
namespace Tie
section
variable {p : Nat → Pr} {c : Nat → Int} {m : Nat} {t a b : Int}
def swapC (c : Nat → Int) (a b : Int) (F : List Nat) : Nat → Int := fun k => if k ∈ F then a + b - c k else c k
theorem swap_in {F : List Nat} {k : Nat} (h : k ∈ F) : swapC c a b F k = a + b - c k := by unfold swapC; rw [if_pos h]
theorem swap_out {F : List Nat} {k : Nat} (h : k ∉ F) : swapC c a b F k = c k := by unfold swapC; rw [if_neg h]
theorem swap_ab {F : List Nat} {e : Option Int} (S : ChS p c m t a b F e) {k : Nat} (h : k ∈ F) : (c k = a ∧ swapC c a b F k = b) ∨ (c k = b ∧ swapC c a b F k = a) := by
  rw [swap_in h]
  rcases S.fc k h with z | z
  · exact .inl ⟨z, by omega⟩
  · exact .inr ⟨z, by omega⟩
theorem swap_proper {F : List Nat} {e : Option Int} (hp : Proper p c m) (S : ChS p c m t a b F e) : Proper p (swapC c a b F) m := by
  have half : ∀ i j, i < m → j < m → i ∈ F → j ∉ F → swapC c a b F i = swapC c a b F j → ∀ u, touch (p i) u → ¬ touch (p j) u := by
    intro i j hi hj fi fj e u h1 h2
    rw [swap_out fj] at e
    refine fj (S.cl i fi u h1 j hj h2 ?_)
    rcases swap_ab S fi with z | z
    · exact .inr (e.symm.trans z.2)
    · exact .inl (e.symm.trans z.2)
  intro i j hi hj n e u h1 h2
  by_cases fi : i ∈ F
  · by_cases fj : j ∈ F
    · rw [swap_in fi, swap_in fj] at e
      exact hp i j hi hj n (by omega) u h1 h2
    · exact half i j hi hj fi fj e u h1 h2
  · by_cases fj : j ∈ F
    · exact half j i hj hi fj fi e.symm u h2 h1
    · rw [swap_out fi, swap_out fj] at e
      exact hp i j hi hj n e u h1 h2
theorem swap_start {F : List Nat} {e : Option Int} (hb : Fr p c m t b) (S : ChS p c m t a b F e) : Fr p (swapC c a b F) m t a := by
  intro k hk ht z
  by_cases fk : k ∈ F
  · rcases swap_ab S fk with y | y
    · rw [z] at y
      exact hb k hk ht (y.1.trans y.2)
    · exact hb k hk ht y.1
  · rw [swap_out fk] at z
    exact fk (S.st k hk ht (.inl z))
theorem swap_away {F : List Nat} {u x : Int} (h : ∀ k, k ∈ F → ¬ touch (p k) u) (hf : Fr p c m u x) : Fr p (swapC c a b F) m u x := by
  intro k hk ht z
  rw [swap_out fun y => h k y ht] at z
  exact hf k hk ht z
theorem swap_range {F : List Nat} {e : Option Int} {q : Int} (S : ChS p c m t a b F e) (ha : 0 ≤ a ∧ a < q) (hb : 0 ≤ b ∧ b < q) (hc : ∀ k, k < m → 0 ≤ c k ∧ c k < q) : ∀ k, k < m → 0 ≤ swapC c a b F k ∧ swapC c a b F k < q := by
  intro k hk
  by_cases fk : k ∈ F
  · rcases swap_ab S fk with y | y
    · rw [y.2]; exact hb
    · rw [y.2]; exact ha
  · rw [swap_out fk]; exact hc k hk
theorem Proper.congr {c' : Nat → Int} (hp : Proper p c m) (h : ∀ k, k < m → c' k = c k) : Proper p c' m := by
  intro i j hi hj n e
  rw [h i hi, h j hj] at e
  exact hp i j hi hj n e
theorem Fr.congr {c' : Nat → Int} {u x : Int} (hf : Fr p c m u x) (h : ∀ k, k < m → c' k = c k) : Fr p c' m u x := by
  intro k hk ht
  rw [h k hk]
  exact hf k hk ht
/-- one pair more, by a hue that is free at its ties -/
theorem ext_proper {c' : Nat → Int} {x : Int} (hp : Proper p c m) (h : ∀ k, k < m → c' k = c k) (hm : c' m = x) (hf : ∀ u, touch (p m) u → Fr p c m u x) : Proper p c' (m + 1) := by
  intro i j hi hj n e u h1 h2
  by_cases zi : i = m
  · have hj' : j < m := by omega
    rw [zi] at h1
    rw [zi, hm, h j hj'] at e
    exact hf u h1 j hj' h2 e.symm
  · have hi' : i < m := by omega
    by_cases zj : j = m
    · rw [zj] at h2
      rw [zj, hm, h i hi'] at e
      exact hf u h2 i hi' h1 e
    · have hj' : j < m := by omega
      rw [h i hi', h j hj'] at e
      exact hp i j hi' hj' n e u h1 h2
/-- a chain that does not end at s leaves it as it is -/
theorem not_at {F : List Nat} {e : Option Int} {s : Int} (S : ChS p c m t a b F e) (hs : Fr p c m s a) (st : s ≠ t) (he : e ≠ some s) : ∀ k, k ∈ F → ¬ touch (p k) s :=
  fun k hk ht => (S.mid k hk s ht st he).1 hs

/-- hues that are short at a pair's two ties: every chain leads over -/
structure Short (p : Nat → Pr) (c : Nat → Int) (m q : Nat) (s t : Int) : Prop where
  ne : s ≠ t
  dis : ∀ x, x ∈ freeF p c m s q → x ∉ freeF p c m t q
  all : ∀ x, x ∈ freeF p c m s q → ∀ y, y ∈ freeF p c m t q → ∃ F, ChS p c m t x y F (some s)

section
variable {q : Nat} {s : Int}
theorem Short.other {b : Int} (S : Short p c m q s t) (hb : b ∈ freeF p c m t q) : ∃ o, byF p c m s b = some o := by
  cases e : byF p c m s b with
  | some o => exact ⟨o, rfl⟩
  | none =>
    have h := mem_free.mp hb
    exact absurd hb (S.dis b (mem_free.mpr ⟨h.1, h.2.1, by_none.mp e⟩))
theorem Short.third {x b : Int} {o : Nat} (S : Short p c m q s t) (hx : x ∈ freeF p c m s q) (hb : b ∈ freeF p c m t q) (ho : byF p c m s b = some o) :
    (p o).1 ≠ (p o).2 ∧ (p o).1 + (p o).2 - s ≠ s ∧ (p o).1 + (p o).2 - s ≠ t ∧ ¬ Fr p c m ((p o).1 + (p o).2 - s) x ∧ ¬ Fr p c m ((p o).1 + (p o).2 - s) b := by
  obtain ⟨F, C⟩ := S.all x hx b hb
  obtain ⟨o1, o2, o3⟩ := by_some ho
  obtain ⟨k, k1, k2⟩ := C.en s rfl S.ne
  have oF : o ∈ F := C.cl k k1 s k2 o o1 o3 (.inr o2)
  have nl := C.nl s rfl o oF
  have tz := other_touch o3
  have zs := other_ne o3 nl
  have zt : (p o).1 + (p o).2 - s ≠ t := fun z => by
    rw [z] at tz
    exact (mem_free.mp hb).2.2 o o1 tz o2
  have md := C.mid o oF _ tz zt fun z => zs (Option.some.inj z).symm
  exact ⟨nl, zs, zt, md.1, md.2⟩
/-- the third tie's chain leaves the pair's two ties as they are -/
theorem Short.apart {x y z : Int} {F' : List Nat} {e' : Option Int} (S : Short p c m q s t) (hx : x ∈ freeF p c m s q) (hy : y ∈ freeF p c m t q) (hz : Fr p c m z y) (zs : z ≠ s) (zt : z ≠ t) (C' : ChS p c m z x y F' e') :
    (∀ k, k ∈ F' → ¬ touch (p k) s) ∧ ∀ k, k ∈ F' → ¬ touch (p k) t := by
  obtain ⟨G, C⟩ := S.all x hx y hy
  have sep := C'.sep (fun k => k ∈ G) (fun k hk => ⟨C.fc k hk, C.cl k hk⟩) fun k hk ht => (C.mid k hk z ht zt fun w => zs (Option.some.inj w).symm).2 hz
  refine ⟨fun k hk ht => ?_, fun k hk ht => ?_⟩
  · obtain ⟨l, l1, l2⟩ := C.en s rfl S.ne
    exact sep k hk (C.cl l l1 s l2 k (C'.lt k hk) ht (C'.fc k hk))
  · exact sep k hk (C.st k (C'.lt k hk) ht (C'.fc k hk))
/-- the way round about -/
theorem Short.round {a b y z : Int} {o : Nat} {F' : List Nat} {e' : Option Int} (S : Short p c m q s t) (hp : Proper p c m) (ha : a ∈ freeF p c m s q) (hb : b ∈ freeF p c m t q) (ho : byF p c m s b = some o) (ez : z = (p o).1 + (p o).2 - s)
    (hy : y ∈ freeF p c m t q) (hz : y ∈ freeF p c m z q) (C' : ChS p c m z a y F' e') :
    o ∉ F' ∧ ∀ c' : Nat → Int, (∀ k, k < m → c' k = if k = o then a else swapC c a y F' k) → Proper p c' m ∧ Fr p c' m s b ∧ Fr p c' m t b := by
  obtain ⟨nl, zs, zt, za, zb⟩ := S.third ha hb ho
  rw [← ez] at zs zt za zb
  obtain ⟨o1, o2, o3⟩ := by_some ho
  have fa := (mem_free.mp ha).2.2
  have fb := (mem_free.mp hb).2.2
  have fz := (mem_free.mp hz).2.2
  have ba : b ≠ a := fun w => fa o o1 o3 (by rw [o2, w])
  have by_ : b ≠ y := fun w => zb (by rw [w]; exact fz)
  have oF : o ∉ F' := fun w => by
    rcases C'.fc o w with v | v
    · exact ba (o2.symm.trans v)
    · exact by_ (o2.symm.trans v)
  obtain ⟨as, at_⟩ := S.apart ha hy fz zs zt C'
  refine ⟨oF, fun c' hc' => ?_⟩
  have p1 := swap_proper hp C'
  have f1 : Fr p (swapC c a y F') m s a := swap_away as fa
  have f2 : Fr p (swapC c a y F') m z a := swap_start fz C'
  have ends : ∀ u, touch (p o) u → u = s ∨ u = z := fun u hu => by
    rw [ez]
    exact (touch_other o3).mp hu
  have fo : ∀ u, touch (p o) u → Fr p (swapC c a y F') m u a := fun u hu => by
    rcases ends u hu with w | w <;> rw [w] <;> assumption
  have co : c' o = a := by rw [hc' o o1, if_pos rfl]
  have cn : ∀ k, k < m → k ≠ o → c' k = swapC c a y F' k := fun k hk n => by rw [hc' k hk, if_neg n]
  refine ⟨?_, ?_, ?_⟩
  · intro i j hi hj n e u h1 h2
    by_cases zi : i = o
    · rw [zi] at h1
      rw [zi, co, cn j hj (by rw [← zi]; exact n.symm)] at e
      exact fo u h1 j hj h2 e.symm
    · by_cases zj : j = o
      · rw [zj] at h2
        rw [zj, co, cn i hi zi] at e
        exact fo u h2 i hi h1 e
      · rw [cn i hi zi, cn j hj zj] at e
        exact p1 i j hi hj n e u h1 h2
  · intro k hk ht e
    by_cases zk : k = o
    · rw [zk, co] at e
      exact ba e.symm
    · rw [cn k hk zk, swap_out fun w => as k w ht] at e
      exact hp k o hk o1 zk (e.trans o2.symm) s ht o3
  · intro k hk ht e
    have zk : k ≠ o := fun w => by
      rw [w] at ht
      rcases ends t ht with v | v
      · exact S.ne v.symm
      · exact zt v.symm
    rw [cn k hk zk, swap_out fun w => at_ k w ht] at e
    exact fb k hk ht e
end

/-! ### counts -/
theorem countP_or_le {α : Type} (f g : α → Bool) : ∀ l : List α, l.countP (fun x => f x || g x) ≤ l.countP f + l.countP g
  | [] => by simp
  | x :: r => by
    have h := countP_or_le f g r
    rw [List.countP_cons, List.countP_cons, List.countP_cons]
    cases f x <;> cases g x <;> simp <;> omega
theorem countP_is (x : Int) : ∀ q : Nat, (List.range q).countP (fun (h : Nat) => decide (x = (h : Int))) = if 0 ≤ x ∧ x < q then 1 else 0
  | 0 => by
    simp
  | q + 1 => by
    rw [List.range_succ, List.countP_append, countP_is x q]
    by_cases h : x = (q : Int)
    · have h1 : ¬ (0 ≤ x ∧ x < (q : Int)) := by omega
      have h2 : 0 ≤ x ∧ x < ((q + 1 : Nat) : Int) := by omega
      rw [if_neg h1, if_pos h2]
      simp [h]
    · have e : (0 ≤ x ∧ x < ((q + 1 : Nat) : Int)) ↔ (0 ≤ x ∧ x < (q : Int)) := by omega
      simp only [e]
      simp [h]
theorem countP_split {α : Type} (f : α → Bool) : ∀ l : List α, l.countP f + l.countP (fun x => !f x) = l.length
  | [] => rfl
  | x :: r => by
    have h := countP_split f r
    rw [List.countP_cons, List.countP_cons, List.length_cons]
    cases f x <;> simp <;> omega
def degB (p : Nat → Pr) (t : Int) (k : Nat) : Bool := decide (touch (p k) t)
def deg (p : Nat → Pr) (m : Nat) (t : Int) : Nat := (List.range m).countP (degB p t)
theorem by_succ {h : Int} : (byF p c (m + 1) t h).isSome = ((byF p c m t h).isSome || hitB p c t h m) := by
  unfold byF
  rw [List.range_succ, List.find?_append]
  cases e : List.find? (hitB p c t h) (List.range m) with
  | some k => simp
  | none =>
    cases z : hitB p c t h m <;> simp [z]
theorem used_le {q : Nat} : ∀ m : Nat, (List.range q).countP (fun (h : Nat) => (byF p c m t (h : Int)).isSome) ≤ deg p m t
  | 0 => by
    have e : (fun (h : Nat) => (byF p c 0 t (h : Int)).isSome) = fun _ => false := by funext h; rfl
    rw [e]
    simp
  | m + 1 => by
    have e : (fun (h : Nat) => (byF p c (m + 1) t (h : Int)).isSome) = fun (h : Nat) => ((byF p c m t (h : Int)).isSome || hitB p c t (h : Int) m) := by
      funext h
      exact by_succ
    rw [e]
    refine Nat.le_trans (countP_or_le _ _ _) ?_
    have h1 := used_le (q := q) m
    have h2 : deg p (m + 1) t = deg p m t + if degB p t m = true then 1 else 0 := by
      unfold deg
      rw [List.range_succ, List.countP_append]
      simp [List.countP_cons]
    have h3 : (List.range q).countP (fun (h : Nat) => hitB p c t (h : Int) m) ≤ if degB p t m = true then 1 else 0 := by
      by_cases z : degB p t m = true
      · rw [if_pos z]
        have e2 : (fun (h : Nat) => hitB p c t (h : Int) m) = fun (h : Nat) => decide (c m = (h : Int)) := by
          funext h
          unfold hitB
          unfold degB at z
          rw [z, Bool.and_true]
        rw [e2, countP_is]
        split <;> omega
      · have e2 : (fun (h : Nat) => hitB p c t (h : Int) m) = fun _ => false := by
          funext h
          unfold hitB
          unfold degB at z
          rw [Bool.not_eq_true] at z
          rw [z, Bool.and_false]
        rw [e2]
        simp
    omega
theorem free_len {q : Nat} : (freeF p c m t q).length = (List.range q).countP (fun (h : Nat) => (byF p c m t (h : Int)).isNone) := by
  unfold freeF
  rw [List.length_map, List.countP_eq_length_filter]
theorem free_many {q : Nat} : q ≤ (freeF p c m t q).length + deg p m t := by
  have h := used_le (p := p) (c := c) (t := t) (q := q) m
  have h2 := countP_split (fun (h : Nat) => (byF p c m t (h : Int)).isNone) (List.range q)
  rw [← free_len, List.length_range] at h2
  have e : (fun (h : Nat) => !(byF p c m t (h : Int)).isNone) = fun (h : Nat) => (byF p c m t (h : Int)).isSome := by
    funext h
    cases byF p c m t (h : Int) <;> rfl
  rw [e] at h2
  omega
theorem three_apart {f g k : Nat → Bool} : ∀ q : Nat, (∀ x, x < q → ¬ (f x = true ∧ g x = true)) → (∀ x, x < q → ¬ (f x = true ∧ k x = true)) → (∀ x, x < q → ¬ (g x = true ∧ k x = true)) →
    (List.range q).countP f + (List.range q).countP g + (List.range q).countP k ≤ q
  | 0, _, _, _ => by simp
  | q + 1, h1, h2, h3 => by
    have h := three_apart q (fun x hx => h1 x (by omega)) (fun x hx => h2 x (by omega)) (fun x hx => h3 x (by omega))
    have g1 := h1 q (by omega)
    have g2 := h2 q (by omega)
    have g3 := h3 q (by omega)
    rw [List.range_succ, List.countP_append, List.countP_append, List.countP_append]
    simp only [List.countP_cons, List.countP_nil]
    cases e1 : f q <;> cases e2 : g q <;> cases e3 : k q <;> simp_all <;> omega
theorem deg_mono {m n : Nat} (h : m ≤ n) : deg p m t ≤ deg p n t := by
  induction n with
  | zero =>
    have : m = 0 := by omega
    rw [this]
    exact Nat.le_refl _
  | succ n ih =>
    by_cases e : m = n + 1
    · rw [e]
      exact Nat.le_refl _
    · refine Nat.le_trans (ih (by omega)) ?_
      unfold deg
      rw [List.range_succ, List.countP_append]
      omega
theorem deg_less {n L : Nat} (h : m < n) (ht : touch (p m) t) (hL : deg p n t ≤ L) : deg p m t + 1 ≤ L := by
  refine Nat.le_trans ?_ (Nat.le_trans (deg_mono (p := p) (t := t) (show m + 1 ≤ n from h)) hL)
  unfold deg
  rw [List.range_succ, List.countP_append]
  have e : degB p t m = true := decide_eq_true ht
  simp [List.countP_cons, e]
/-- of three ties, two of the pair to come, some hue is free at the second and the third -/
theorem third_hue {n L : Nat} {s z : Int} (hm : m < n) (hL : ∀ u, deg p n u ≤ L) (hs : touch (p m) s) (ht : touch (p m) t) (h1 : ∀ x, x ∈ freeF p c m s (3 * L / 2) → x ∉ freeF p c m t (3 * L / 2)) (h2 : ∀ x, x ∈ freeF p c m s (3 * L / 2) → x ∉ freeF p c m z (3 * L / 2)) :
    ∃ y, y ∈ freeF p c m t (3 * L / 2) ∧ y ∈ freeF p c m z (3 * L / 2) := by
  have d1 := deg_less hm hs (hL s)
  have d2 := deg_less hm ht (hL t)
  have d3 : deg p m z ≤ L := Nat.le_trans (deg_mono (by omega)) (hL z)
  have f1 := free_many (p := p) (c := c) (m := m) (t := s) (q := 3 * L / 2)
  have f2 := free_many (p := p) (c := c) (m := m) (t := t) (q := 3 * L / 2)
  have f3 := free_many (p := p) (c := c) (m := m) (t := z) (q := 3 * L / 2)
  refine Classical.byContradiction fun no => ?_
  have no' : ∀ y, y ∈ freeF p c m t (3 * L / 2) → y ∉ freeF p c m z (3 * L / 2) := fun y hy hz => no ⟨y, hy, hz⟩
  have mf : ∀ (u : Int) (x : Nat), x < 3 * L / 2 → (byF p c m u (x : Int)).isNone = true → (x : Int) ∈ freeF p c m u (3 * L / 2) := fun u x hx e => mem_free.mpr ⟨by omega, by omega, by_isNone.mp e⟩
  have t3 := three_apart (f := fun (h : Nat) => (byF p c m s (h : Int)).isNone) (g := fun (h : Nat) => (byF p c m t (h : Int)).isNone) (k := fun (h : Nat) => (byF p c m z (h : Int)).isNone) (3 * L / 2)
    (fun x hx e => h1 x (mf s x hx e.1) (mf t x hx e.2)) (fun x hx e => h2 x (mf s x hx e.1) (mf z x hx e.2)) (fun x hx e => no' x (mf t x hx e.1) (mf z x hx e.2))
  rw [← free_len, ← free_len, ← free_len] at t3
  omega
theorem free_some {n L : Nat} (hm : m < n) (hL : ∀ u, deg p n u ≤ L) (ht : touch (p m) t) : 0 < (freeF p c m t (3 * L / 2)).length := by
  have d := deg_less hm ht (hL t)
  have f := free_many (p := p) (c := c) (m := m) (t := t) (q := 3 * L / 2)
  omega
end
end Tie

/-! Pairs and hues as lists. Core Lean alone. -/
namespace Tie
def pF (ps : List Pr) (k : Nat) : Pr := ps.getD k (0, 0)
def cF (hs : List Int) (k : Nat) : Int := hs.getD k 0
theorem pF_at {ps : List Pr} {k : Nat} {x : Pr} (h : ps[k]? = some x) : pF ps k = x := by
  unfold pF
  rw [List.getD_eq_getElem?_getD, h]
  rfl
theorem cF_at {hs : List Int} {k : Nat} {x : Int} (h : hs[k]? = some x) : cF hs k = x := by
  unfold cF
  rw [List.getD_eq_getElem?_getD, h]
  rfl
theorem pF_some {ps : List Pr} {k : Nat} (h : k < ps.length) : ps[k]? = some (pF ps k) := by
  unfold pF
  rw [List.getD_eq_getElem?_getD, List.getElem?_eq_getElem h]
  rfl
theorem cF_some {hs : List Int} {k : Nat} (h : k < hs.length) : hs[k]? = some (cF hs k) := by
  unfold cF
  rw [List.getD_eq_getElem?_getD, List.getElem?_eq_getElem h]
  rfl
theorem cF_snoc {hs : List Int} {x : Int} {k : Nat} (h : k < hs.length) : cF (hs ++ [x]) k = cF hs k := by
  unfold cF
  rw [List.getD_eq_getElem?_getD, List.getD_eq_getElem?_getD, List.getElem?_append_left h]
theorem cF_last {hs : List Int} {x : Int} : cF (hs ++ [x]) hs.length = x := by
  unfold cF
  rw [List.getD_eq_getElem?_getD, List.getElem?_append_right (Nat.le_refl _)]
  simp
theorem cF_set {hs : List Int} {j k : Nat} {x : Int} (h : j < hs.length) : cF (hs.set j x) k = if k = j then x else cF hs k := by
  unfold cF
  rw [List.getD_eq_getElem?_getD, List.getD_eq_getElem?_getD, List.getElem?_set]
  by_cases e : j = k
  · rw [if_pos e, if_pos h, if_pos e.symm]
    rfl
  · rw [if_neg e, if_neg (Ne.symm e)]

/-- the hues of the first pairs, right and below q -/
structure Good (ps : List Pr) (q : Nat) (hs : List Int) : Prop where
  len : hs.length ≤ ps.length
  rng : ∀ k, k < hs.length → 0 ≤ cF hs k ∧ cF hs k < (q : Int)
  pr : Proper (pF ps) (cF hs) hs.length
theorem Good.nil {ps : List Pr} {q : Nat} : Good ps q [] := ⟨Nat.zero_le _, fun _ h => absurd h (Nat.not_lt_zero _), fun _ _ h => absurd h (Nat.not_lt_zero _)⟩

/-- exchanging two hues on some pairs, one by one -/
def exchL (a b : Int) (F : List Nat) (hs : List Int) : List Int := F.foldl (fun l k => l.set k (a + b - cF l k)) hs
theorem exchL_nil {a b : Int} {hs : List Int} : exchL a b [] hs = hs := rfl
theorem exchL_snoc {a b : Int} {F : List Nat} {k : Nat} {hs : List Int} : exchL a b (F ++ [k]) hs = (exchL a b F hs).set k (a + b - cF (exchL a b F hs) k) := by
  unfold exchL
  rw [List.foldl_append]
  rfl
theorem exchL_len {a b : Int} : ∀ (F : List Nat) (hs : List Int), (exchL a b F hs).length = hs.length
  | [], hs => rfl
  | k :: F, hs => by
    show (exchL a b F (hs.set k (a + b - cF hs k))).length = hs.length
    rw [exchL_len F, List.length_set]
theorem exchL_get {a b : Int} : ∀ (F : List Nat) (hs : List Int), F.Nodup → (∀ k, k ∈ F → k < hs.length) → ∀ k, cF (exchL a b F hs) k = swapC (cF hs) a b F k
  | [], hs, _, _, k => by
    rw [exchL_nil, swap_out List.not_mem_nil]
  | j :: F, hs, nd, hl, k => by
    obtain ⟨n1, n2⟩ := List.nodup_cons.mp nd
    have hj : j < hs.length := hl j List.mem_cons_self
    show cF (exchL a b F (hs.set j (a + b - cF hs j))) k = _
    rw [exchL_get F _ n2 (fun i hi => by rw [List.length_set]; exact hl i (List.mem_cons_of_mem _ hi)) k]
    unfold swapC
    rw [cF_set hj]
    by_cases e : k = j
    · rw [e, if_neg n1, if_pos rfl, if_pos List.mem_cons_self]
    · rw [if_neg e]
      have m : (k ∈ j :: F) ↔ k ∈ F := by simp [e]
      simp only [m]

section
variable {ps : List Pr} {q : Nat} {hs : List Int} {s t : Int}
/-- a hue that is free at both ties -/
theorem Good.direct {x : Int} (G : Good ps q hs) (hk : hs.length < ps.length) (e : pF ps hs.length = (s, t)) (h1 : x ∈ freeF (pF ps) (cF hs) hs.length s q) (h2 : x ∈ freeF (pF ps) (cF hs) hs.length t q) : Good ps q (hs ++ [x]) := by
  have m1 := mem_free.mp h1
  have m2 := mem_free.mp h2
  have el : (hs ++ [x]).length = hs.length + 1 := by rw [List.length_append, List.length_singleton]
  refine ⟨by omega, fun k hk' => ?_, ?_⟩
  · by_cases z : k = hs.length
    · rw [z, cF_last]
      exact ⟨m1.1, m1.2.1⟩
    · rw [cF_snoc (by omega)]
      exact G.rng k (by omega)
  · rw [el]
    refine ext_proper G.pr (fun k hk' => cF_snoc hk') cF_last fun u hu => ?_
    rw [e] at hu
    rcases hu with z | z
    · rw [← z]; exact m1.2.2
    · rw [← z]; exact m2.2.2
/-- the same behind an exchange along a chain that does not lead over -/
theorem Good.chain {a b : Int} {F : List Nat} {en : Option Int} (G : Good ps q hs) (hk : hs.length < ps.length) (e : pF ps hs.length = (s, t)) (st : s ≠ t) (h1 : a ∈ freeF (pF ps) (cF hs) hs.length s q) (h2 : b ∈ freeF (pF ps) (cF hs) hs.length t q)
    (S : ChS (pF ps) (cF hs) hs.length t a b F en) (he : en ≠ some s) : Good ps q (exchL a b F hs ++ [a]) := by
  have m1 := mem_free.mp h1
  have m2 := mem_free.mp h2
  have el : (exchL a b F hs).length = hs.length := exchL_len F hs
  have cg : ∀ k, cF (exchL a b F hs) k = swapC (cF hs) a b F k := exchL_get F hs S.nd S.lt
  have G1 : Good ps q (exchL a b F hs) := by
    refine ⟨by rw [el]; exact G.len, fun k hk' => ?_, ?_⟩
    · rw [cg]
      exact swap_range S ⟨m1.1, m1.2.1⟩ ⟨m2.1, m2.2.1⟩ G.rng k (by rw [← el]; exact hk')
    · rw [el]
      exact (swap_proper G.pr S).congr fun k _ => cg k
  refine G1.direct (s := s) (t := t) (by rw [el]; exact hk) (by rw [el]; exact e) ?_ ?_
  · rw [el]
    exact mem_free.mpr ⟨m1.1, m1.2.1, (swap_away (not_at S m1.2.2 st he) m1.2.2).congr fun k _ => cg k⟩
  · rw [el]
    exact mem_free.mpr ⟨m1.1, m1.2.1, (swap_start m2.2.2 S).congr fun k _ => cg k⟩
/-- the way round about -/
theorem Good.round {a b y z : Int} {o : Nat} {F' : List Nat} {e' : Option Int} (G : Good ps q hs) (hk : hs.length < ps.length) (e : pF ps hs.length = (s, t)) (S : Short (pF ps) (cF hs) hs.length q s t)
    (ha : a ∈ freeF (pF ps) (cF hs) hs.length s q) (hb : b ∈ freeF (pF ps) (cF hs) hs.length t q) (ho : byF (pF ps) (cF hs) hs.length s b = some o) (ez : z = (pF ps o).1 + (pF ps o).2 - s)
    (hy : y ∈ freeF (pF ps) (cF hs) hs.length t q) (hz : y ∈ freeF (pF ps) (cF hs) hs.length z q) (C' : ChS (pF ps) (cF hs) hs.length z a y F' e') : Good ps q ((exchL a y F' hs).set o a ++ [b]) := by
  have m1 := mem_free.mp ha
  have m2 := mem_free.mp hb
  have m3 := mem_free.mp hy
  obtain ⟨o1, o2, o3⟩ := by_some ho
  have el : (exchL a y F' hs).length = hs.length := exchL_len F' hs
  have cg : ∀ k, cF (exchL a y F' hs) k = swapC (cF hs) a y F' k := exchL_get F' hs C'.nd C'.lt
  have el2 : ((exchL a y F' hs).set o a).length = hs.length := by rw [List.length_set, el]
  have cg2 : ∀ k, cF ((exchL a y F' hs).set o a) k = if k = o then a else swapC (cF hs) a y F' k := fun k => by
    rw [cF_set (by rw [el]; exact o1), cg]
  obtain ⟨oF, R⟩ := S.round G.pr ha hb ho ez hy hz C'
  obtain ⟨R1, R2, R3⟩ := R (cF ((exchL a y F' hs).set o a)) fun k _ => cg2 k
  have G2 : Good ps q ((exchL a y F' hs).set o a) := by
    refine ⟨by rw [el2]; exact G.len, fun k hk' => ?_, by rw [el2]; exact R1⟩
    rw [cg2]
    by_cases w : k = o
    · rw [if_pos w]
      exact ⟨m1.1, m1.2.1⟩
    · rw [if_neg w]
      exact swap_range C' ⟨m1.1, m1.2.1⟩ ⟨m3.1, m3.2.1⟩ G.rng k (by rw [← el2]; exact hk')
  refine G2.direct (s := s) (t := t) (by rw [el2]; exact hk) (by rw [el2]; exact e) ?_ ?_
  · rw [el2]
    exact mem_free.mpr ⟨m2.1, m2.2.1, R2⟩
  · rw [el2]
    exact mem_free.mpr ⟨m2.1, m2.2.1, R3⟩
end

/-! ### loads -/
def cnt (ps : List Pr) (t : Int) : Nat := ps.countP fun x => decide (touch x t)
theorem deg_cnt (ps : List Pr) (t : Int) : deg (pF ps) ps.length t = cnt ps t := by
  have e : ps = (List.range ps.length).map (pF ps) := by
    refine List.ext_getElem? fun k => ?_
    rw [List.getElem?_map]
    by_cases h : k < ps.length
    · rw [List.getElem?_range h, pF_some h]
      rfl
    · rw [List.getElem?_eq_none (by omega), List.getElem?_eq_none (by rw [List.length_range]; omega)]
      rfl
  unfold cnt deg
  conv => rhs; rw [e]
  rw [List.countP_map]
  rfl
/-- the greatest load, as a running maximum -/
def loadF (ps : List Pr) : Nat → Nat
  | 0 => 0
  | n + 1 => max (loadF ps n) (cnt ps (n : Int))
theorem loadF_ge (ps : List Pr) : ∀ (n k : Nat), k < n → cnt ps (k : Int) ≤ loadF ps n
  | n + 1, k, h => by
    show _ ≤ max (loadF ps n) (cnt ps (n : Int))
    by_cases e : k = n
    · rw [e]
      exact Nat.le_max_right _ _
    · exact Nat.le_trans (loadF_ge ps n k (by omega)) (Nat.le_max_left _ _)
theorem loadF_is (ps : List Pr) : ∀ n : Nat, loadF ps n = 0 ∨ ∃ k, k < n ∧ loadF ps n = cnt ps (k : Int)
  | 0 => .inl rfl
  | n + 1 => by
    have h := loadF_is ps n
    have e : loadF ps (n + 1) = max (loadF ps n) (cnt ps (n : Int)) := rfl
    by_cases c : loadF ps n ≤ cnt ps (n : Int)
    · exact .inr ⟨n, by omega, by rw [e, Nat.max_eq_right c]⟩
    · rw [e, Nat.max_eq_left (by omega)]
      rcases h with h | ⟨k, h1, h2⟩
      · exact .inl h
      · exact .inr ⟨k, by omega, h2⟩
/-- a crossing's pairs: each of two of its ties, rising -/
def Cross (many : Nat) (ps : List Pr) : Prop := ∀ x, x ∈ ps → 0 ≤ x.1 ∧ x.1 ≤ x.2 ∧ x.2 < (many : Int)
theorem Cross.deg {many : Nat} {ps : List Pr} (C : Cross many ps) (u : Int) : deg (pF ps) ps.length u ≤ loadF ps many := by
  rw [deg_cnt]
  by_cases h : 0 ≤ u ∧ u < many
  · have e : ((u.toNat : Nat) : Int) = u := by omega
    have := loadF_ge ps many u.toNat (by omega)
    rw [e] at this
    exact this
  · have : cnt ps u = 0 := by
      unfold cnt
      rw [List.countP_eq_zero]
      intro x hx z
      have c := C x hx
      have z := of_decide_eq_true z
      unfold touch at z
      omega
    omega
end Tie

/-! Unlike numbers of a list; odd lots; turned pairs. Core Lean alone. -/
namespace Tie
def stepD (l : List Int) (k : Int) : List Int := if l.any (fun x => x == k) then l else l ++ [k]
def ddup (ns : List Int) : List Int := ns.foldl stepD []
theorem stepD_mem (l : List Int) (k x : Int) : x ∈ stepD l k ↔ x ∈ l ∨ x = k := by
  unfold stepD
  by_cases h : l.any (fun x => x == k) = true
  · rw [if_pos h]
    constructor
    · exact .inl
    · rintro (z | z)
      · exact z
      · obtain ⟨y, hy, e⟩ := List.any_eq_true.mp h
        have e : y = k := beq_iff_eq.mp e
        rw [z, ← e]
        exact hy
  · rw [if_neg h, List.mem_append, List.mem_singleton]
theorem stepD_nodup {l : List Int} {k : Int} (h : l.Nodup) : (stepD l k).Nodup := by
  unfold stepD
  by_cases c : l.any (fun x => x == k) = true
  · rw [if_pos c]
    exact h
  · rw [if_neg c, List.nodup_append]
    refine ⟨h, by simp, fun x hx y hy z => c ?_⟩
    rw [List.mem_singleton] at hy
    exact List.any_eq_true.mpr ⟨x, hx, beq_iff_eq.mpr (z.trans hy)⟩
theorem stepD_len (l : List Int) (k : Int) : (stepD l k).length ≤ l.length + 1 := by
  unfold stepD
  split
  · omega
  · rw [List.length_append, List.length_singleton]
    exact Nat.le_refl _
theorem fold_props : ∀ (ns l : List Int), l.Nodup → (ns.foldl stepD l).Nodup ∧ (∀ x, x ∈ ns.foldl stepD l ↔ x ∈ l ∨ x ∈ ns) ∧ (ns.foldl stepD l).length ≤ l.length + ns.length
  | [], l, h => ⟨h, fun x => by simp, by simp⟩
  | k :: ns, l, h => by
    obtain ⟨h1, h2, h3⟩ := fold_props ns (stepD l k) (stepD_nodup h)
    refine ⟨h1, fun x => ?_, ?_⟩
    · rw [List.foldl_cons, h2, stepD_mem, List.mem_cons]
      constructor
      · rintro ((z | z) | z)
        · exact .inl z
        · exact .inr (.inl z)
        · exact .inr (.inr z)
      · rintro (z | z | z)
        · exact .inl (.inl z)
        · exact .inl (.inr z)
        · exact .inr z
    · have := stepD_len l k
      rw [List.foldl_cons, List.length_cons]
      omega
theorem ddup_nodup (ns : List Int) : (ddup ns).Nodup := (fold_props ns [] List.nodup_nil).1
theorem ddup_mem (ns : List Int) (x : Int) : x ∈ ddup ns ↔ x ∈ ns := by
  have := (fold_props ns [] List.nodup_nil).2.1 x
  unfold ddup
  simpa using this
theorem ddup_le (ns : List Int) : (ddup ns).length ≤ ns.length := by
  have := (fold_props ns [] List.nodup_nil).2.2
  unfold ddup
  simpa using this
theorem count_cover {b : Nat} : ∀ (D ns : List Int), (∀ x, x ∈ ns → x ∈ D) → (∀ x, ns.count x ≤ b) → ns.length ≤ b * D.length
  | [], ns, h, _ => by
    cases ns with
    | nil => exact Nat.zero_le _
    | cons y r => exact absurd (h y List.mem_cons_self) List.not_mem_nil
  | d :: D, ns, h, hc => by
    have h1 : ns.length = ns.count d + (ns.filter fun y => !(y == d)).length := by
      have e := countP_split (fun y : Int => y == d) ns
      rw [← List.countP_eq_length_filter]
      exact e.symm
    have h2 := count_cover (b := b) D (ns.filter fun y => !(y == d)) (fun x hx => by
      rw [List.mem_filter] at hx
      rcases List.mem_cons.mp (h x hx.1) with z | z
      · rw [z] at hx
        simp at hx
      · exact z) fun x => Nat.le_trans (List.Sublist.count_le x List.filter_sublist) (hc x)
    have h3 := hc d
    rw [List.length_cons, Nat.mul_succ]
    omega
/-- the places of a number -/
def places (hs : List Int) (x : Int) : List Nat := (List.range hs.length).filter fun k => decide (cF hs k = x)
theorem range_map (hs : List Int) : (List.range hs.length).map (cF hs) = hs := by
  refine List.ext_getElem? fun k => ?_
  rw [List.getElem?_map]
  by_cases h : k < hs.length
  · rw [List.getElem?_range h, cF_some h]
    rfl
  · rw [List.getElem?_eq_none (by rw [List.length_range]; omega), List.getElem?_eq_none (by omega)]
    rfl
theorem places_len (hs : List Int) (x : Int) : (places hs x).length = hs.count x := by
  unfold places
  rw [← List.countP_eq_length_filter]
  conv => rhs; rw [← range_map hs]
  rw [List.count, List.countP_map]
  congr 1
theorem places_mem {hs : List Int} {x : Int} {k : Nat} (h : k ∈ places hs x) : k < hs.length ∧ cF hs k = x := by
  unfold places at h
  rw [List.mem_filter, List.mem_range, decide_eq_true_eq] at h
  exact h
theorem places_nodup (hs : List Int) (x : Int) : (places hs x).Nodup := List.Nodup.sublist List.filter_sublist List.nodup_range

/-! ### turned pairs -/
def turnP (m b : Int) (x : Pr) : Pr := (if (x.2 + b) % m < (x.1 + b) % m then (x.2 + b) % m else (x.1 + b) % m, if (x.2 + b) % m > (x.1 + b) % m then (x.2 + b) % m else (x.1 + b) % m)
theorem turn_touch {m b : Int} {x : Pr} {v : Int} (h : touch x v) : touch (turnP m b x) ((v + b) % m) := by
  unfold touch turnP at *
  rcases h with rfl | rfl
  · by_cases c : (x.2 + b) % m < (x.1 + b) % m
    · right
      show (if (x.2 + b) % m > (x.1 + b) % m then (x.2 + b) % m else (x.1 + b) % m) = _
      rw [if_neg (by omega)]
    · left
      show (if (x.2 + b) % m < (x.1 + b) % m then (x.2 + b) % m else (x.1 + b) % m) = _
      rw [if_neg c]
  · by_cases c : (x.2 + b) % m < (x.1 + b) % m
    · left
      show (if (x.2 + b) % m < (x.1 + b) % m then (x.2 + b) % m else (x.1 + b) % m) = _
      rw [if_pos c]
    · right
      show (if (x.2 + b) % m > (x.1 + b) % m then (x.2 + b) % m else (x.1 + b) % m) = _
      by_cases c2 : (x.2 + b) % m > (x.1 + b) % m
      · rw [if_pos c2]
      · rw [if_neg c2]
        omega
theorem turn_cross {m : Nat} {b : Int} (hm : 0 < m) (ps : List Pr) : Cross m (ps.map (turnP (m : Int) b)) := by
  intro y hy
  obtain ⟨x, _, rfl⟩ := List.mem_map.mp hy
  have a1 := Int.emod_nonneg (x.1 + b) (by omega : (m : Int) ≠ 0)
  have a2 := Int.emod_lt_of_pos (x.1 + b) (by omega : 0 < (m : Int))
  have a3 := Int.emod_nonneg (x.2 + b) (by omega : (m : Int) ≠ 0)
  have a4 := Int.emod_lt_of_pos (x.2 + b) (by omega : 0 < (m : Int))
  unfold turnP
  refine ⟨?_, ?_, ?_⟩ <;> (simp only []; repeat (first | split | omega))
/-- pairs within a lot of so many ties -/
def LotPs (size : Int) (ps : List Pr) : Prop := ∀ x, x ∈ ps → 0 ≤ x.1 ∧ x.1 < x.2 ∧ x.2 < size
theorem share3 {x y : Pr} (hx : 0 ≤ x.1 ∧ x.1 < x.2 ∧ x.2 < 3) (hy : 0 ≤ y.1 ∧ y.1 < y.2 ∧ y.2 < 3) : ∃ v, touch x v ∧ touch y v := by
  unfold touch
  by_cases h1 : x.1 = y.1
  · exact ⟨x.1, .inl rfl, .inl h1.symm⟩
  · by_cases h2 : x.1 = y.2
    · exact ⟨x.1, .inl rfl, .inr h2.symm⟩
    · by_cases h3 : x.2 = y.1
      · exact ⟨x.2, .inr rfl, .inl h3.symm⟩
      · exact ⟨x.2, .inr rfl, .inr (by omega)⟩
theorem share_or {x y : Pr} (h : ¬ ∃ v, touch x v ∧ touch y v) : x.1 ≠ y.1 ∧ x.1 ≠ y.2 ∧ x.2 ≠ y.1 ∧ x.2 ≠ y.2 := by
  refine ⟨fun e => h ⟨x.1, .inl rfl, .inl e.symm⟩, fun e => h ⟨x.1, .inl rfl, .inr e.symm⟩, fun e => h ⟨x.2, .inr rfl, .inl e.symm⟩, fun e => h ⟨x.2, .inr rfl, .inr e.symm⟩⟩
theorem share5 {x y z : Pr} (hx : 0 ≤ x.1 ∧ x.1 < x.2 ∧ x.2 < 5) (hy : 0 ≤ y.1 ∧ y.1 < y.2 ∧ y.2 < 5) (hz : 0 ≤ z.1 ∧ z.1 < z.2 ∧ z.2 < 5) :
    (∃ v, touch x v ∧ touch y v) ∨ (∃ v, touch x v ∧ touch z v) ∨ ∃ v, touch y v ∧ touch z v := by
  refine Classical.byContradiction fun no => ?_
  have n1 := share_or fun h => no (.inl h)
  have n2 := share_or fun h => no (.inr (.inl h))
  have n3 := share_or fun h => no (.inr (.inr h))
  have nd : [x.1.toNat, x.2.toNat, y.1.toNat, y.2.toNat, z.1.toNat, z.2.toNat].Nodup := by
    simp only [List.nodup_cons, List.mem_cons, List.not_mem_nil, or_false, not_or, List.nodup_nil, not_false_eq_true, and_true]
    refine ⟨⟨?_, ?_, ?_, ?_, ?_⟩, ⟨?_, ?_, ?_, ?_⟩, ⟨?_, ?_, ?_⟩, ⟨?_, ?_⟩, ?_⟩ <;> omega
  have hl := nodup_len (m := 5) nd fun k hk => by
    simp only [List.mem_cons, List.not_mem_nil, or_false] at hk
    omega
  simp at hl
section
variable {ps : List Pr} {hs : List Int} {m b : Int}
theorem no_two (hl : hs.length = ps.length) (hp : Proper (pF (ps.map (turnP m b))) (cF hs) hs.length) {i j : Nat} (hi : i < hs.length) (hj : j < hs.length) (n : i ≠ j) (e : cF hs i = cF hs j) : ¬ ∃ v, touch (pF ps i) v ∧ touch (pF ps j) v := by
  rintro ⟨v, h1, h2⟩
  have tp : ∀ k, k < hs.length → pF (ps.map (turnP m b)) k = turnP m b (pF ps k) := fun k hk => by
    refine pF_at ?_
    rw [List.getElem?_map, pF_some (by omega)]
    rfl
  refine hp i j hi hj n e ((v + b) % m) ?_ ?_
  · rw [tp i hi]
    exact turn_touch h1
  · rw [tp j hj]
    exact turn_touch h2
theorem lot_at {size : Int} (hL : LotPs size ps) {i : Nat} (hi : i < ps.length) : 0 ≤ (pF ps i).1 ∧ (pF ps i).1 < (pF ps i).2 ∧ (pF ps i).2 < size := hL _ (List.mem_of_getElem? (pF_some hi))
theorem lot3 (hL : LotPs 3 ps) (hl : hs.length = ps.length) (hp : Proper (pF (ps.map (turnP m b))) (cF hs) hs.length) : (ddup hs).length = ps.length := by
  have h1 := ddup_le hs
  have h2 := count_cover (b := 1) (ddup hs) hs (fun x hx => (ddup_mem hs x).mpr hx) fun x => by
    rw [← places_len]
    cases e : places hs x with
    | nil => exact Nat.zero_le _
    | cons i r =>
      cases r with
      | nil => exact Nat.le_refl _
      | cons j r =>
        have nd := places_nodup hs x
        rw [e] at nd
        have i1 := places_mem (hs := hs) (x := x) (k := i) (by rw [e]; exact List.mem_cons_self)
        have j1 := places_mem (hs := hs) (x := x) (k := j) (by rw [e]; exact List.mem_cons_of_mem _ List.mem_cons_self)
        have ne : i ≠ j := fun z => (List.nodup_cons.mp nd).1 (by rw [z]; exact List.mem_cons_self)
        exact absurd (share3 (lot_at hL (by omega)) (lot_at hL (by omega))) (no_two hl hp i1.1 j1.1 ne (i1.2.trans j1.2.symm))
  omega
theorem lot5 (hL : LotPs 5 ps) (hl : hs.length = ps.length) (hp : Proper (pF (ps.map (turnP m b))) (cF hs) hs.length) : ps.length ≤ 2 * (ddup hs).length := by
  rw [← hl]
  refine count_cover (b := 2) (ddup hs) hs (fun x hx => (ddup_mem hs x).mpr hx) fun x => ?_
  rw [← places_len]
  cases e : places hs x with
  | nil => exact Nat.zero_le _
  | cons i r =>
    cases r with
    | nil => exact Nat.le_succ _
    | cons j r =>
      cases r with
      | nil => exact Nat.le_refl _
      | cons k r =>
        have nd := places_nodup hs x
        rw [e] at nd
        obtain ⟨d1, d2⟩ := List.nodup_cons.mp nd
        obtain ⟨d3, _⟩ := List.nodup_cons.mp d2
        have i1 := places_mem (hs := hs) (x := x) (k := i) (by rw [e]; simp)
        have j1 := places_mem (hs := hs) (x := x) (k := j) (by rw [e]; simp)
        have k1 := places_mem (hs := hs) (x := x) (k := k) (by rw [e]; simp)
        have nij : i ≠ j := fun z => d1 (by rw [z]; simp)
        have nik : i ≠ k := fun z => d1 (by rw [z]; simp)
        have njk : j ≠ k := fun z => d3 (by rw [z]; simp)
        rcases share5 (lot_at hL (i := i) (by omega)) (lot_at hL (i := j) (by omega)) (lot_at hL (i := k) (by omega)) with z | z | z
        · exact absurd z (no_two hl hp i1.1 j1.1 nij (i1.2.trans j1.2.symm))
        · exact absurd z (no_two hl hp i1.1 k1.1 nik (i1.2.trans k1.2.symm))
        · exact absurd z (no_two hl hp j1.1 k1.1 njk (j1.2.trans k1.2.symm))
end
end Tie

namespace K32
open PySem L2 Tie
/-! ### the text by places -/
def top (i : Nat) : Stmt := PySem.Challenge.pw_tiehues_k32_whole_knotted_crossings.main.body.getD i (.Pass ⟨0, 0, 0, 0⟩)
abbrev sMust : Stmt := top 6
abbrev sLoad : Stmt := top 7
abbrev sInit : Stmt := inClass (top 8) 0
abbrev sBy : Stmt := inClass (top 8) 1
abbrev sFree : Stmt := inClass (top 8) 2
abbrev sChain : Stmt := inClass (top 8) 3
abbrev sExch : Stmt := inClass (top 8) 4
abbrev sDirect : Stmt := inClass (top 8) 5
abbrev sRound : Stmt := inClass (top 8) 6
abbrev sFreed : Stmt := inClass (top 8) 7
abbrev sPut : Stmt := inClass (top 8) 8
abbrev sCross : Stmt := top 9
abbrev sPurse : Stmt := top 11
abbrev sDraw : Stmt := top 12
abbrev sLot : Stmt := top 13
abbrev sKnot : Stmt := top 14
abbrev sClosed : Stmt := top 15
abbrev sClosedBy : Stmt := top 16
abbrev sStir : Stmt := top 17
abbrev sTurned : Stmt := top 18
abbrev sLLoad : Stmt := top 19
abbrev sMeet : Stmt := top 20
abbrev sRight : Stmt := top 21
abbrev sGood : Stmt := top 22
abbrev sLaw : Stmt := top 23

/-! ### tests -/
theorem ifF {c A B : Prop} [Decidable c] (hc : ¬ c) (h : B) : if decide c = true then A else B := by
  rw [decide_eq_false hc]
  exact iteF h
theorem ifT {c A B : Prop} [Decidable c] (hc : c) (h : A) : if decide c = true then A else B := by
  rw [decide_eq_true hc]
  exact iteT h
theorem if2 {c A B : Prop} [Decidable c] (h1 : c → A) (h2 : ¬ c → B) : if decide c = true then A else B := by
  by_cases h : c
  · exact ifT h (h1 h)
  · exact ifF h (h2 h)

/-! ### heaps -/
/-- all but what stands at d is kept -/
def But (d : Addr) (H H' : Hp) : Prop := ∀ b o, H b = some o → b ≠ d → H' b = some o
/-- tuples are kept -/
def Tk (H H' : Hp) : Prop := ∀ a xs, H a = some (.tup xs) → H' a = some (.tup xs)
theorem Tk.same {H H' : Hp} (s : Same H H') : Tk H H' := fun a _ e => s a _ e
theorem Tk.trans {H H1 H2 : Hp} (a : Tk H H1) (b : Tk H1 H2) : Tk H H2 := fun c _ e => b c _ (a c _ e)
theorem Same.upd {H : Hp} {p : Addr} {o : HO} (np : H p = none) : Same H (upd H p o) := fun b _ e => by
  rw [upd_ne (ne_of_none e np)]
  exact e
theorem Same.then {H H1 : Hp} {p : Addr} {o : HO} (s : Same H H1) (np : H1 p = none) : Same H (L2.upd H1 p o) := s.trans (Same.upd np)
theorem upd_self {H : Hp} {a : Addr} {o : HO} (h : H a = some o) : L2.upd H a o = H := by
  funext b
  unfold L2.upd
  split
  · next e => rw [e, h]
  · rfl

/-! ### pairs in the heap -/
def PairV (H : Hp) (v : V) (x : Pr) : Prop := ∃ a, v = .ref a ∧ H a = some (.tup [.int x.1, .int x.2])
structure PairsV (H : Hp) (vs : List V) (ps : List Pr) : Prop where
  len : vs.length = ps.length
  at_ : ∀ (k : Nat) (v : V) (x : Pr), vs[k]? = some v → ps[k]? = some x → PairV H v x
theorem PairV.keep {H H' : Hp} {v : V} {x : Pr} (t : Tk H H') (h : PairV H v x) : PairV H' v x := let ⟨a, e, q⟩ := h; ⟨a, e, t _ _ q⟩
theorem PairsV.keep {H H' : Hp} {vs : List V} {ps : List Pr} (t : Tk H H') (h : PairsV H vs ps) : PairsV H' vs ps := ⟨h.len, fun k v x e1 e2 => (h.at_ k v x e1 e2).keep t⟩
theorem PairsV.nil {H : Hp} : PairsV H [] [] := ⟨rfl, fun k v x e => by simp at e⟩
theorem PairsV.get {H : Hp} {vs : List V} {ps : List Pr} {k : Nat} {v : V} (h : PairsV H vs ps) (e : vs[k]? = some v) : ∃ x, ps[k]? = some x ∧ PairV H v x := by
  have hk : k < ps.length := by
    rw [← h.len]
    exact (List.getElem?_eq_some_iff.mp e).1
  exact ⟨_, pF_some hk, h.at_ k v _ e (pF_some hk)⟩
theorem PairsV.there {H : Hp} {vs : List V} {ps : List Pr} {k : Nat} {x : Pr} (h : PairsV H vs ps) (e : ps[k]? = some x) : ∃ a, vs[k]? = some (.ref a) ∧ H a = some (.tup [.int x.1, .int x.2]) := by
  have hk : k < vs.length := by
    rw [h.len]
    exact (List.getElem?_eq_some_iff.mp e).1
  obtain ⟨a, e1, e2⟩ := h.at_ k _ x (List.getElem?_eq_getElem hk) e
  exact ⟨a, by rw [List.getElem?_eq_getElem hk, e1], e2⟩
theorem PairsV.append {H : Hp} {vs ws : List V} {ps qs : List Pr} (h : PairsV H vs ps) (g : PairsV H ws qs) : PairsV H (vs ++ ws) (ps ++ qs) := by
  refine ⟨by rw [List.length_append, List.length_append, h.len, g.len], fun k v x e1 e2 => ?_⟩
  by_cases hk : k < vs.length
  · rw [List.getElem?_append_left hk] at e1
    rw [List.getElem?_append_left (by rw [← h.len]; exact hk)] at e2
    exact h.at_ k v x e1 e2
  · rw [List.getElem?_append_right (by omega)] at e1
    rw [List.getElem?_append_right (by rw [← h.len]; omega), ← h.len] at e2
    exact g.at_ _ v x e1 e2
theorem PairsV.one {H : Hp} {v : V} {x : Pr} (h : PairV H v x) : PairsV H [v] [x] := by
  refine ⟨rfl, fun k u y e1 e2 => ?_⟩
  cases k with
  | zero =>
    cases Option.some.inj e1
    cases Option.some.inj e2
    exact h
  | succ k => simp at e1
theorem PairsV.take {H : Hp} {vs : List V} {ps : List Pr} (n : Nat) (h : PairsV H vs ps) : PairsV H (vs.take n) (ps.take n) := by
  refine ⟨by rw [List.length_take, List.length_take, h.len], fun k v x e1 e2 => ?_⟩
  rw [List.getElem?_take] at e1 e2
  by_cases hk : k < n
  · rw [if_pos hk] at e1 e2
    exact h.at_ k v x e1 e2
  · rw [if_neg hk] at e1
    cases e1
theorem PairsV.drop {H : Hp} {vs : List V} {ps : List Pr} (n : Nat) (h : PairsV H vs ps) : PairsV H (vs.drop n) (ps.drop n) := by
  refine ⟨by rw [List.length_drop, List.length_drop, h.len], fun k v x e1 e2 => ?_⟩
  rw [List.getElem?_drop] at e1 e2
  exact h.at_ _ v x e1 e2
theorem PairsV.rep {H : Hp} {vs : List V} {ps : List Pr} (h : PairsV H vs ps) : ∀ n : Nat, PairsV H (List.replicate n vs).flatten (List.replicate n ps).flatten
  | 0 => PairsV.nil
  | n + 1 => by
    rw [List.replicate_succ, List.replicate_succ, List.flatten_cons, List.flatten_cons]
    exact h.append (PairsV.rep h n)
/-- a list of pairs stands at l -/
def PairsAt (H : Hp) (l : Addr) (ps : List Pr) : Prop := ∃ vs, H l = some (.lst vs) ∧ PairsV H vs ps
theorem PairsAt.keep {H H' : Hp} {l : Addr} {ps : List Pr} (h : PairsAt H l ps) (t : Tk H H') (e : ∀ o, H l = some o → H' l = some o) : PairsAt H' l ps := let ⟨vs, h1, h2⟩ := h; ⟨vs, e _ h1, h2.keep t⟩
theorem PairsAt.same {H H' : Hp} {l : Addr} {ps : List Pr} (h : PairsAt H l ps) (s : Same H H') : PairsAt H' l ps := h.keep (Tk.same s) (s l)
/-- a crossing stands at x -/
def CrossAt (H : Hp) (x : Addr) (many : Int) (ps : List Pr) : Prop := ∃ l, H x = some (.tup [.int many, .ref l]) ∧ PairsAt H l ps
theorem CrossAt.same {H H' : Hp} {x : Addr} {many : Int} {ps : List Pr} (h : CrossAt H x many ps) (s : Same H H') : CrossAt H' x many ps := let ⟨l, h1, h2⟩ := h; ⟨l, s _ _ h1, h2.same s⟩

theorem eqV_int (x y : Int) : eqV (.int x) (.int y) = true ↔ x = y := by
  show (x == y) = true ↔ x = y
  exact beq_iff_eq
theorem inV_pair (t a b : Int) : inV (.int t) [.int a, .int b] = decide (touch (a, b) t) := by
  rw [Bool.eq_iff_iff, decide_eq_true_eq]
  unfold inV
  rw [List.any_eq_true]
  constructor
  · rintro ⟨v, hv, e⟩
    rcases List.mem_cons.mp hv with z | z
    · rw [z] at e
      exact .inl ((eqV_int _ _).mp e)
    · rw [List.mem_singleton.mp z] at e
      exact .inr ((eqV_int _ _).mp e)
  · rintro (z | z)
    · exact ⟨_, List.mem_cons_self, (eqV_int _ _).mpr z⟩
    · exact ⟨_, List.mem_cons_of_mem _ List.mem_cons_self, (eqV_int _ _).mpr z⟩
/-! ### rules with the written part told (for blocks) -/
section
variable {X : Cx} {K : PySem.W.Frag}
theorem inK (K : PySem.W.Frag) (h : X.K = K) : OpR X (compareOp .In) (rIn K false) := h ▸ op_in_seq
theorem listK (K : PySem.W.Frag) {tg l : Expr} {tl : TE} (h : X.K = K) (hl : PE X l tl) : PI X tg l (iList K tl) := h ▸ pi_list hl
def rLenK (K : PySem.W.Frag) : List V → Hp → VK → Prop := fun xs H Q => ∃ p ys, xs = [.ref p] ∧ (SqL K H p ys ∨ SqT K H p ys) ∧ Q (.int ys.length) H
theorem lenK (K : PySem.W.Frag) (h : X.K = K) : CallR X (.builtin "len") (rLenK K) := h ▸ call_len_seq
end
end K32

namespace K32
open PySem L2 Tie
/-- what the walk asks of the top's names -/
structure TxA (K : PySem.W.Frag) (mg : Str → Option Value) : Prop where
  len : mg "len" = none
  range : mg "range" = none
  max : mg "max" = none
  mt : ∃ t, mg "MOST_TIES" = some (.int 60 t)
  mp : ∃ t, mg "MOST_PAIRS" = some (.int 60 t)

def spMust : Sp := fun vs H Q _ => ∃ (x : Addr) (many : Nat) (ps : List Pr), vs = [.ref x] ∧ CrossAt H x many ps ∧ many ≤ 60 ∧ ps.length ≤ 60 ∧ Cross many ps ∧ Q .non H
def spLoad : Sp := fun vs H Q _ => ∃ (x : Addr) (many : Nat) (ps : List Pr), vs = [.ref x] ∧ CrossAt H x many ps ∧ many ≤ 60 ∧ ps.length ≤ 60 ∧ ∀ H', Same H H' → Q (.int (loadF ps many : Nat)) H'

section
variable {P : Program} {w : World} {K : PySem.W.Frag} {mg : Str → Option Value} {base : Heap}
theorem scMust : FnScope ["crossing", "many", "pairs", "s", "t"] ["crossing"] (defScope sMust) := ⟨rfl, rfl, rfl, by decide +kernel, rfl, by decide +kernel, by decide +kernel⟩
theorem ok_must {f : Addr} {fd : FuncData} (F : Fun K "must_be_crossing" "must_be_crossing" sMust f fd) (T : TxA K mg) : FnOk P w K mg base CX0 1 f fd ["crossing"] spMust := by
  refine F.ok scMust (fun vs H Q E h => ?_) (fun cdv A outer s H vs Q E hr h => ?_)
  · obtain ⟨x, many, ps, rfl, _⟩ := h
    rfl
  · obtain ⟨x, many, ps, rfl, ⟨l, hx, hP⟩, hm, hn, hC, k⟩ := h
    obtain ⟨vs, hl, pv_⟩ := id hP
    obtain ⟨t1, m1⟩ := T.mt
    obtain ⟨t2, m2⟩ := T.mp
    refine ⟨_, pss_cons (ps_asg (pv 0) (pg_tup (by rfl) (pgs_cons (pg_name (i := 1) scMust.nd rfl (.inl rfl)) (pgs_cons (pg_name (i := 2) scMust.nd rfl (.inl rfl)) pgs_nil))))
      (pss_cons (ps_if (PW.pt (pw_or (pt_cmpR op_lt (pv 1) pe_int (nomark _)) (pw_or (pt_cmpR op_gt (pv 1) (pe_glob (v := .int 60) rfl m1 ⟨_, rfl⟩) (nomark _)) (pw_or1 (pt_cmpR op_gt (pe_callB call_len_seq (by rfl) T.len PySem.boot_len (pa_cons (pv 2) pa_nil)) (pe_glob (v := .int 60) rfl m2 ⟨_, rfl⟩) (nomark _)))))) pss_never pss_nil)
      (pss_one (ps_for PassesOwn.never rfl (pi_list (pv 2)) (pg_tup (by rfl) (pgs_cons (pg_name (i := 3) scMust.nd rfl (.inl rfl)) (pgs_cons (pg_name (i := 4) scMust.nd rfl (.inl rfl)) pgs_nil)))
        (pss_one (ps_if (PW.pt (pw_or (pt_cmpR op_lt (pv 3) pe_int (nomark _)) (pw_or (pt_cmpR op_gt (pv 3) (pv 4) (nomark _)) (pw_or1 (pt_cmpR op_ge (pv 4) (pv 1) (nomark _)))))) pss_never pss_nil))))), ?_⟩
    refine ⟨_, rfl, x, _, rfl, SqT.of hx, rfl, _, _, rfl, _, _, rfl, rfl, ?_⟩
    refine ⟨_, rfl, _, _, rfl, rfl, _, rfl, ifF (by omega) ?_⟩
    refine ⟨_, rfl, _, _, rfl, rfl, _, rfl, ifF (by omega) ?_⟩
    refine ⟨_, rfl, l, vs, rfl, .inl (SqL.of hl), _, _, rfl, rfl, _, rfl, ifF (by rw [pv_.len]; omega) ?_⟩
    refine ⟨_, rfl, l, rfl, ⟨_, SqL.of hl⟩, for_list (K := K) (a := l) (xs := vs) (fun i σ H' => H' = H ∧ ∃ u v : Option V, σ = [some (.ref x), some (.int many), some (.ref l), u, v])
      ⟨rfl, none, none, rfl⟩ (fun i σ H' _ ⟨e, _⟩ => by rw [e]; exact SqL.of hl) ?_ ?_⟩
    · rintro i y σ H' hi ⟨rfl, u, v, rfl⟩
      obtain ⟨pr, e1, a, rfl, e2⟩ := pv_.get hi
      have c := hC pr (List.mem_of_getElem? e1)
      refine ⟨a, _, rfl, SqT.of e2, rfl, _, _, rfl, _, _, rfl, rfl, ?_⟩
      refine ⟨_, rfl, _, _, rfl, rfl, _, rfl, ifF (by omega) ?_⟩
      refine ⟨_, rfl, _, rfl, _, _, rfl, rfl, _, rfl, ifF (by omega) ?_⟩
      refine ⟨_, rfl, _, rfl, _, _, rfl, rfl, _, rfl, ifF (by omega) ?_⟩
      exact ⟨rfl, _, _, rfl⟩
    · rintro σ H' ⟨rfl, u, v, rfl⟩
      exact k

abbrev nLoad : List Str := ["crossing", "many", "pairs", "tie", "pair"]
theorem scLoad : FnScope nLoad ["crossing"] (defScope sLoad) := ⟨rfl, rfl, rfl, by decide +kernel, rfl, by decide +kernel, by decide +kernel⟩

theorem ifIn {t a b : Int} {A B : Prop} (h1 : touch (a, b) t → A) (h2 : ¬ touch (a, b) t → B) : if (if false = true then !inV (.int t) [.int a, .int b] else inV (.int t) [.int a, .int b]) = true then A else B := by
  rw [if_neg Bool.false_ne_true, inV_pair]
  exact if2 h1 h2
theorem max_load {ps : List Pr} {many : Nat} {m : Int} (h1 : m ∈ (0 : Int) :: (List.range many).map fun (k : Nat) => (cnt ps (k : Int) : Int)) (h2 : ∀ y, y ∈ (0 : Int) :: (List.range many).map (fun (k : Nat) => (cnt ps (k : Int) : Int)) → y ≤ m) : m = (loadF ps many : Int) := by
  have a1 : m ≤ (loadF ps many : Int) := by
    rcases List.mem_cons.mp h1 with z | z
    · omega
    · obtain ⟨k, hk, e⟩ := List.mem_map.mp z
      have := loadF_ge ps many k (List.mem_range.mp hk)
      omega
  have a2 : (loadF ps many : Int) ≤ m := by
    rcases loadF_is ps many with z | ⟨k, hk, e⟩
    · have := h2 0 List.mem_cons_self
      omega
    · have := h2 (cnt ps (k : Int) : Int) (List.mem_cons_of_mem _ (List.mem_map.mpr ⟨k, List.mem_range.mpr hk, rfl⟩))
      omega
  omega
theorem small60 {n : Nat} (h : n ≤ 100) : n < sizeLine := small1000 (by omega)
theorem ok_load {f : Addr} {fd : FuncData} (F : Fun K "load_at" "load_at" sLoad f fd) (T : TxA K mg) : FnOk P w K mg base CX0 1 f fd ["crossing"] spLoad := by
  refine F.ok scLoad (fun vs H Q E h => ?_) (fun cdv A outer s H vs Q E hr h => ?_)
  · obtain ⟨x, many, ps, rfl, _⟩ := h
    rfl
  · obtain ⟨x, many, ps, rfl, ⟨l, hx, hP⟩, hm, hn, k⟩ := h
    obtain ⟨vs, hl, pv_⟩ := id hP
    refine ⟨_, pss_cons (ps_asg (pv 0) (pg_tup (by rfl) (pgs_cons (pg_name (i := 1) scLoad.nd rfl (.inl rfl)) (pgs_cons (pg_name (i := 2) scLoad.nd rfl (.inr rfl)) pgs_nil))))
      (pss_one (ps_ret (pe_callB (cr_max rfl) (by rfl) T.max (by decide +kernel) (pa_cons (pe_op op_cat (pe_lst (pa_cons pe_int pa_nil))
        (pe_lc (own := [("tie", 3)]) (g := gName 3) (tt := tYes) rfl scLoad.nd (pi_range1 (by rfl) T.range (pa_cons (pv 1) pa_nil)) (blkOk_by (N := nLoad) (sc := defScope sLoad) (by decide +kernel)) (fun _ _ _ _ _ => pg_name (i := 3) scLoad.nd rfl (Or.inr rfl)) (fun _ _ _ _ _ => pts_nil)
          (fun _ _ _ _ _ => pe_callB (lenK K rfl) (by rfl) T.len PySem.boot_len (pa_cons
            (pe_lc (own := [("pair", 4)]) (g := gName 4) rfl scLoad.nd (listK K rfl (pv 2)) (blkOk_by (N := nLoad) (sc := relS _ (defScope sLoad)) (by decide +kernel)) (fun _ _ _ _ _ => pg_name (i := 4) scLoad.nd rfl (Or.inl rfl)) (fun _ _ _ _ _ => pts_one (pt_cmpR (inK K rfl) (pv 3) (pv 4) (by rfl)))
              (fun _ _ _ _ _ => pv 4)) pa_nil)))) pa_nil)))), ?_⟩
    refine ⟨_, rfl, x, _, rfl, SqT.of hx, rfl, _, _, rfl, _, _, rfl, rfl, ?_⟩
    refine ⟨by decide, fun p0 n0 => ?_⟩
    refine ⟨_, rfl, (many : Int), rfl, by omega, by omega, fun D nD => lc_range (lo := 0) (n := (many : Int).toNat) (fun i H' => Same (upd H p0 (.lst [.int 0])) H' ∧ H' D = some (.lst ((List.range i).map fun (k : Nat) => V.int (cnt ps (k : Int) : Int))))
      ⟨Same.upd nD, upd_same⟩ ?_ ?_⟩
    · rintro i H1 hi ⟨s1, hD⟩
      have s0 : Same H H1 := (Same.upd n0).trans s1
      refine ⟨rfl, _, rfl, l, rfl, ⟨_, SqL.of (s0 _ _ hl)⟩, fun D2 nD2 => lc_list (K := K) (a := l) (xs := vs) (fun j H' => Same H1 H' ∧ ∃ ws : List V, H' D2 = some (.lst ws) ∧ ws.length = (ps.take j).countP fun x => decide (touch x (i : Int)))
        ⟨Same.upd nD2, [], upd_same, by simp⟩ (fun j H' _ ⟨s2, _⟩ => SqL.of (s2 _ _ (s0 _ _ hl))) ?_ ?_⟩
      · rintro j y H2 hj ⟨s2, ws, hw, el⟩
        obtain ⟨pr, e1, a, rfl, e2⟩ := pv_.get hj
        have s3 : Same H H2 := s0.trans s2
        have hjl := (List.getElem?_eq_some_iff.mp e1).1
        have et : ps.take (j + 1) = ps.take j ++ [pr] := by
          rw [List.take_add_one, e1]
          rfl
        refine ⟨rfl, _, rfl, _, rfl, a, _, rfl, .inr (SqT.of (s3 _ _ e2)), rfl, rfl, _, rfl, ifIn (fun ht => ?_) (fun ht => ?_)⟩
        · have nD2' : ∀ b o, H1 b = some o → b ≠ D2 := fun b o e => ne_of_none e nD2
          refine ⟨_, rfl, ws, hw, small60 ?_, fun b o e => ?_, _, upd_same, ?_⟩
          · rw [el]
            refine Nat.le_trans (List.countP_le_length) ?_
            rw [List.length_take]
            omega
          · rw [upd_ne (nD2' b o e)]
            exact s2 b o e
          · rw [List.length_append, et, List.countP_append, el]
            have : touch pr (0 + (i : Int)) := ht
            rw [Int.zero_add] at this
            simp [List.countP_cons, this]
        · refine ⟨s2, ws, hw, ?_⟩
          rw [et, List.countP_append, el]
          have : ¬ touch pr (0 + (i : Int)) := ht
          rw [Int.zero_add] at this
          simp [List.countP_cons, this]
      · rintro H2 ⟨s2, ws, hw, el⟩
        rw [pv_.len, List.take_length] at el
        refine ⟨D2, ws, rfl, .inl (SqL.of hw), _, s2 _ _ hD, small60 (by rw [List.length_map, List.length_range]; omega), fun b o e => ?_, ?_⟩
        · rw [upd_ne (ne_of_none e nD)]
          exact s2 b o (s1 b o e)
        · rw [upd_same, List.range_succ, List.map_append, el]
          rfl
    · rintro H1 ⟨s1, hD⟩
      refine ⟨p0, D, _, _, rfl, rfl, s1 _ _ upd_same, hD, ?_, fun p1 n1 => ?_⟩
      · rw [List.length_map, List.length_range]
        refine Nat.le_of_lt (small60 ?_)
        simp
        omega
      · refine ⟨p1, (0 : Int) :: (List.range many).map (fun (k : Nat) => (cnt ps (k : Int) : Int)), rfl, SqL.of ?_, by simp, fun m h1 h2 => ?_⟩
        · rw [upd_same]
          simp [Function.comp_def]
        · rw [max_load h1 h2]
          exact k _ (((Same.upd n0).trans s1).trans (Same.upd n1))
end
end K32

namespace K32
open PySem L2 Tie
/-! ### the meeting's data -/
theorem n_pm : ¬ (("pairs" : Str) = "most") := by decide +kernel
theorem n_pw : ¬ (("pairs" : Str) = "worn") := by decide +kernel
theorem n_mw : ¬ (("most" : Str) = "worn") := by decide +kernel
def mf (l : Addr) (q : Int) (d : Addr) : List (Str × V) := putF "worn" (.ref d) (putF "most" (.int q) (putF "pairs" (.ref l) []))
theorem mf_pairs (l : Addr) (q : Int) (d : Addr) : (mf l q d).lookup ("pairs" : Str) = some (.ref l) := by
  unfold mf
  rw [lookup_putF, if_neg n_pw, lookup_putF, if_neg n_pm, lookup_putF, if_pos rfl]
theorem mf_most (l : Addr) (q : Int) (d : Addr) : (mf l q d).lookup ("most" : Str) = some (.int q) := by
  unfold mf
  rw [lookup_putF, if_neg n_mw, lookup_putF, if_pos rfl]
theorem mf_worn (l : Addr) (q : Int) (d : Addr) : (mf l q d).lookup ("worn" : Str) = some (.ref d) := by
  unfold mf
  rw [lookup_putF, if_pos rfl]
theorem mf_no (l : Addr) (q : Int) (d : Addr) {m : Str} (h1 : ¬ m = "pairs") (h2 : ¬ m = "most") (h3 : ¬ m = "worn") : (mf l q d).lookup m = none := by
  unfold mf
  rw [lookup_putF, if_neg h3, lookup_putF, if_neg h2, lookup_putF, if_neg h1]
  all_goals rfl
theorem putF_len (f : Str) (v : V) : ∀ fs : List (Str × V), (putF f v fs).length ≤ fs.length + 1
  | [] => Nat.le_refl _
  | (g, u) :: r => by
    have h := putF_len f v r
    unfold putF
    split
    · simp
    · simp only [List.length_cons]
      omega
/-- the dict of hues: pair k has hue cF hs k -/
def kvs (hs : List Int) : List (Key × V) := (List.range hs.length).map fun (k : Nat) => ((Sum.inl (k : Int) : Key), V.int (cF hs k))
theorem kvs_len (hs : List Int) : (kvs hs).length = hs.length := by
  unfold kvs
  rw [List.length_map, List.length_range]
theorem kvs_at {hs : List Int} {i : Nat} (h : i < hs.length) : (kvs hs)[i]? = some (Sum.inl (i : Int), V.int (cF hs i)) := by
  unfold kvs
  rw [List.getElem?_map, List.getElem?_range h]
  rfl
theorem key_eq {i j : Nat} : ((Sum.inl (i : Int) : Key) = Sum.inl (j : Int)) ↔ i = j := by
  constructor
  · intro h
    have := Sum.inl.inj h
    omega
  · intro h
    rw [h]
theorem find_range {f : Nat → Bool} {n k : Nat} (h : k < n) (h1 : ∀ j, f j = true ↔ j = k) : (List.range n).find? f = some k := by
  refine find_range_first h ((h1 k).mpr rfl) fun j hj => ?_
  cases e : f j with
  | false => rfl
  | true =>
    have := (h1 j).mp e
    omega
theorem valV_kvs {hs : List Int} {k : Nat} (h : k < hs.length) : valV (kvs hs) (Sum.inl (k : Int) : Key) = some (V.int (cF hs k)) := by
  unfold valV kvs
  rw [List.find?_map, find_range (k := k) h]
  · rfl
  · intro j
    show decide ((Sum.inl (j : Int) : Key) = Sum.inl (k : Int)) = true ↔ j = k
    rw [decide_eq_true_eq]
    exact key_eq
theorem valV_kvs_none {hs : List Int} : valV (kvs hs) (Sum.inl (hs.length : Int) : Key) = none := by
  unfold valV kvs
  rw [List.find?_map, Option.map_eq_none_iff, Option.map_eq_none_iff, List.find?_eq_none]
  intro j hj
  rw [List.mem_range] at hj
  show ¬ decide ((Sum.inl (j : Int) : Key) = Sum.inl (hs.length : Int)) = true
  rw [decide_eq_true_eq, key_eq]
  omega
theorem put_new {hs : List Int} {x : Int} : putK (kvs hs) (Sum.inl (hs.length : Int) : Key) (V.int x) = kvs (hs ++ [x]) := by
  rw [putK_new _ valV_kvs_none]
  unfold kvs
  rw [List.length_append, List.length_singleton, List.range_succ, List.map_append]
  congr 1
  · refine List.map_congr_left fun k hk => ?_
    rw [List.mem_range] at hk
    rw [cF_snoc hk]
  · show _ = [((Sum.inl (hs.length : Int) : Key), V.int (cF (hs ++ [x]) hs.length))]
    rw [cF_last]
theorem put_old {hs : List Int} {k : Nat} {x : Int} (h : k < hs.length) : putK (kvs hs) (Sum.inl (k : Int) : Key) (V.int x) = kvs (hs.set k x) := by
  unfold putK
  have e : ((kvs hs).any fun kv => decide (kv.1 = (Sum.inl (k : Int) : Key))) = true := by
    rw [valV_any, valV_kvs h]
    rfl
  rw [if_pos e]
  unfold kvs
  rw [List.map_map, List.length_set]
  refine List.map_congr_left fun j hj => ?_
  rw [cF_set h]
  show (if (Sum.inl (j : Int) : Key) = Sum.inl (k : Int) then ((Sum.inl (j : Int) : Key), V.int x) else (Sum.inl (j : Int), V.int (cF hs j))) = _
  by_cases z : j = k
  · rw [if_pos (key_eq.mpr z), if_pos z]
  · rw [if_neg fun w => z (key_eq.mp w), if_neg z]

/-- a meeting stands at p: its pairs at l, its dict at d -/
structure MtAt (C : Addr) (H : Hp) (p l d : Addr) (ps : List Pr) (q : Nat) (hs : List Int) : Prop where
  ob : ∃ dx, H p = some (.ins C dx (mf l q d))
  pr : PairsAt H l ps
  dc : H d = some (.dK (kvs hs))
  ln : hs.length ≤ ps.length
  sz : ps.length ≤ 60
theorem MtAt.same {C : Addr} {H H' : Hp} {p l d : Addr} {ps : List Pr} {q : Nat} {hs : List Int} (M : MtAt C H p l d ps q hs) (s : Same H H') : MtAt C H' p l d ps q hs :=
  ⟨let ⟨dx, e⟩ := M.ob; ⟨dx, s _ _ e⟩, M.pr.same s, s _ _ M.dc, M.ln, M.sz⟩
/-- .. with other hues -/
theorem MtAt.re {C : Addr} {H : Hp} {p l d : Addr} {ps : List Pr} {q : Nat} {hs hs' : List Int} (M : MtAt C H p l d ps q hs) (hl : hs'.length ≤ ps.length) : MtAt C (upd H d (.dK (kvs hs'))) p l d ps q hs' := by
  obtain ⟨dx, e⟩ := M.ob
  obtain ⟨vs, h1, h2⟩ := M.pr
  have npd : p ≠ d := ne_of e M.dc (by intro z; cases z)
  have nld : l ≠ d := ne_of h1 M.dc (by intro z; cases z)
  refine ⟨⟨dx, by rw [upd_ne npd]; exact e⟩, ⟨vs, by rw [upd_ne nld]; exact h1, h2.keep fun a xs t => ?_⟩, upd_same, hl, M.sz⟩
  rw [upd_ne (ne_of t M.dc (by intro z; cases z))]
  exact t
theorem But.upd {H : Hp} {d : Addr} {o : HO} : But d H (L2.upd H d o) := fun b _ e n => by
  rw [upd_ne n]
  exact e
theorem But.of {d : Addr} {H H' : Hp} (s : Same H H') : But d H H' := fun b o e _ => s b o e
theorem But.trans {d : Addr} {H H1 H2 : Hp} (a : But d H H1) (b : But d H1 H2) : But d H H2 := fun c o e n => b c o (a c o e n) n

/-- the class as the top has made it -/
structure TxM (K : PySem.W.Frag) (mg : Str → Option Value) (C : Addr) : Prop where
  cl : Cls K C
  nP : NoAttr K C "pairs"
  nM : NoAttr K C "most"
  nW : NoAttr K C "worn"
  mgC : mg "Meeting" = some (.ref C)
  len : mg "len" = none
  range : mg "range" = none

def optV (r : Option Nat) : V := match r with
  | some k => .int (k : Int)
  | none => .non
abbrev byL (ps : List Pr) (hs : List Int) (t h : Int) : Option Nat := byF (pF ps) (cF hs) hs.length t h
abbrev freeL (ps : List Pr) (hs : List Int) (t : Int) (q : Nat) : List Int := freeF (pF ps) (cF hs) hs.length t q

def spInit (C : Addr) : Sp := fun vs H Q _ => ∃ (p dx l : Addr) (q : Nat) (ps : List Pr), vs = [.ref p, .ref l, .int q] ∧ H p = some (.ins C dx []) ∧ PairsAt H l ps ∧ ps.length ≤ 60 ∧
  ∀ (d : Addr) (H' : Hp), H d = none → MtAt C H' p l d ps q [] → But p H H' → Q .non H'
def spBy (C : Addr) : Sp := fun vs H Q _ => ∃ (p l d : Addr) (ps : List Pr) (q : Nat) (hs : List Int) (t h : Int), vs = [.ref p, .int t, .int h] ∧ MtAt C H p l d ps q hs ∧ Q (optV (byL ps hs t h)) H
def spFree (C : Addr) : Sp := fun vs H Q _ => ∃ (p l d : Addr) (ps : List Pr) (q : Nat) (hs : List Int) (t : Int), vs = [.ref p, .int t] ∧ MtAt C H p l d ps q hs ∧ q ≤ 100 ∧
  ∀ r : Addr, H r = none → Q (.ref r) (upd H r (.lst ((freeL ps hs t q).map V.int)))

section
variable {P : Program} {w : World} {K : PySem.W.Frag} {mg : Str → Option Value} {base : Heap}
theorem scInit : FnScope ["self", "pairs", "most"] ["self", "pairs", "most"] (defScope sInit) := ⟨rfl, rfl, rfl, by decide +kernel, rfl, by decide +kernel, by decide +kernel⟩
theorem ok_init {f C : Addr} {fd : FuncData} (F : Fun K "__init__" "Meeting.__init__" sInit f fd) (T : TxM K mg C) : FnOk P w K mg base CX0 1 f fd ["self", "pairs", "most"] (spInit C) := by
  refine F.ok scInit (fun vs H Q E h => ?_) (fun cdv A outer s H vs Q E hr h => ?_)
  · obtain ⟨p, dx, l, q, ps, rfl, _⟩ := h
    rfl
  · obtain ⟨p, dx, l, q, ps, rfl, hp, ⟨vs, hl, hP⟩, hn, k⟩ := h
    refine ⟨_, pss_cons (ps_fld (pv 0) (pv 1) rfl) (pss_cons (ps_fld (pv 0) (pv 2) rfl) (pss_one (ps_fld (pv 0) pe_dnewK rfl))), ?_⟩
    refine ⟨_, rfl, _, rfl, p, C, dx, _, rfl, hp, T.cl, T.nP, (by show 0 < 1000; decide), ?_⟩
    refine ⟨_, rfl, _, rfl, p, C, dx, _, rfl, upd_same, T.cl, T.nM, (by show 1 < 1000; decide), ?_⟩
    intro d hd
    rw [upd_upd] at hd
    have npd : p ≠ d := fun z => by
      rw [← z, upd_same] at hd
      cases hd
    have hd0 : H d = Option.none := by
      rw [upd_ne npd.symm] at hd
      exact hd
    have npl : l ≠ p := ne_of hl hp (by intro z; cases z)
    have nld : l ≠ d := ne_of_none hl hd0
    have hm : (putF "most" (.int (q : Int)) (putF "pairs" (.ref l) [])).length ≤ 2 := Nat.le_trans (putF_len _ _ _) (Nat.succ_le_succ (putF_len _ _ _))
    refine ⟨_, rfl, p, C, dx, _, rfl, (by rw [upd_upd, upd_ne npd, upd_same]), T.cl, T.nW, Nat.lt_of_le_of_lt hm (by decide), ?_⟩
    have tups : ∀ a xs, H a = some (.tup xs) → a ≠ p ∧ a ≠ d := fun a xs e => ⟨ne_of e hp (by intro z; cases z), ne_of_none e hd0⟩
    refine k d _ hd0 ⟨⟨dx, upd_same⟩, ⟨vs, ?_, hP.keep fun a xs e => ?_⟩, ?_, Nat.zero_le _, hn⟩ fun b o e nb => ?_
    · rw [upd_ne npl, upd_ne nld, upd_ne npl, upd_ne npl]
      exact hl
    · obtain ⟨h1, h2⟩ := tups a xs e
      rw [upd_ne h1, upd_ne h2, upd_ne h1, upd_ne h1]
      exact e
    · rw [upd_ne npd.symm, upd_same]
      rfl
    · rw [upd_ne nb, upd_ne (ne_of_none e hd0), upd_ne nb, upd_ne nb]
      exact e
theorem scBy : FnScope ["self", "tie", "hue", "k"] ["self", "tie", "hue"] (defScope sBy) := ⟨rfl, rfl, rfl, by decide +kernel, rfl, by decide +kernel, by decide +kernel⟩
theorem ok_by {f C : Addr} {fd : FuncData} (F : Fun K "by" "Meeting.by" sBy f fd) (T : TxM K mg C) : FnOk P w K mg base CX0 1 f fd ["self", "tie", "hue"] (spBy C) := by
  refine F.ok scBy (fun vs H Q E h => ?_) (fun cdv A outer s H vs Q E hr h => ?_)
  · obtain ⟨p, l, d, ps, q, hs, t, h, rfl, _⟩ := h
    rfl
  · obtain ⟨p, l, d, ps, q, hs, t, h, rfl, M, k⟩ := h
    have hu := hu_of hr
    obtain ⟨⟨dx, hp⟩, ⟨vs, hl, hP⟩, hd, ln, sz⟩ := id M
    have npd : p ≠ d := ne_of hp hd (by intro z; cases z)
    have nld : l ≠ d := ne_of hl hd (by intro z; cases z)
    refine ⟨_, pss_cons (ps_lock (ps_for PassesOwn.never rfl (pi_keys (pe_fld (pv 0) rfl)) (pg_name (i := 3) scBy.nd rfl (.inl rfl))
        (pss_one (ps_if (PW.pt (pw_and (pt_cmpR op_eq (pe_dget hu (pe_fld (pv 0) rfl) (pv 3) (fun _ _ => rfl)) (pv 2) (nomark _)) (pw_and1 (pt_cmpR op_in_seq (pv 1) (pe_ix ix_list (pe_fld (pv 0) rfl) (pv 3) (fun _ _ => rfl)) (by rfl)))))
          (pss_one (ps_ret (pv 3))) pss_nil))))
      (pss_one (ps_ret pe_non)), ?_⟩
    refine ⟨d, _, hd, trivial, fun od => ?_⟩
    have back : upd (upd H d (.frz od (.dK (kvs hs)))) d (.dK (kvs hs)) = H := by rw [upd_upd, upd_self hd]
    have hp' : (upd H d (.frz od (.dK (kvs hs)))) p = some (.ins C dx (mf l q d)) := by rw [upd_ne npd]; exact hp
    have hl' : (upd H d (.frz od (.dK (kvs hs)))) l = some (.lst vs) := by rw [upd_ne nld]; exact hl
    have hP' : PairsV (upd H d (.frz od (.dK (kvs hs)))) vs ps := hP.keep fun a xs e => by
      rw [upd_ne (ne_of e hd (by intro z; cases z))]
      exact e
    refine ⟨_, rfl, p, C, dx, _, _, rfl, hp', T.cl, T.nW, mf_worn _ _ _, d, od, rfl, .inl ⟨kvs hs, upd_same, ?_⟩⟩
    refine for_it (walk_keys (d := d) (o := od) (kvs := kvs hs)) (fun i σ H' => H' = upd H d (.frz od (.dK (kvs hs))) ∧ (∃ v, σ = [some (.ref p), some (.int t), some (.int h), v]) ∧ ∀ j, j < i → ¬ (cF hs j = h ∧ touch (pF ps j) t))
      ⟨rfl, ⟨none, rfl⟩, fun j hj => absurd hj (Nat.not_lt_zero _)⟩ (fun i σ H' _ ⟨e, _⟩ => by rw [e]; exact upd_same) ?_ ?_
    · rintro i x σ H1 H2 hi ⟨rfl, ⟨v, rfl⟩, no⟩ ⟨rfl, key, val, e, rfl⟩
      rw [kvs_len] at hi
      rw [kvs_at hi] at e
      cases e
      obtain ⟨a, e1, e2⟩ := hP'.there (pF_some (Nat.lt_of_lt_of_le hi ln))
      refine ⟨_, rfl, p, C, dx, _, _, rfl, hp', T.cl, T.nW, mf_worn _ _ _, _, rfl, d, _, rfl, .inl ⟨_, Sum.inl (i : Int), .inr ⟨od, upd_same⟩, rfl, (valV_kvs hi).symm⟩, _, rfl, rfl, _, rfl, if2 (fun c1 => ?_) (fun c1 => ?_)⟩
      · have c1' : cF hs i = h := V.int.inj c1
        refine ⟨_, rfl, _, rfl, p, C, dx, _, _, rfl, hp', T.cl, T.nP, mf_pairs _ _ _, _, rfl, l, vs, _, _, rfl, rfl, SqL.of hl', at_of rfl e1, a, _, rfl, .inr (SqT.of e2), rfl, rfl, _, rfl, ifIn (fun ht => ?_) (fun ht => ?_)⟩
        · refine ⟨_, rfl, upd_same, ?_⟩
          rw [back]
          have := by_first (p := pF ps) (c := cF hs) (m := hs.length) hi c1' ht no
          have e9 : optV (byL ps hs t h) = V.int (i : Int) := by
            show optV (byF (pF ps) (cF hs) hs.length t h) = _
            rw [this]
            rfl
          rw [e9] at k
          exact k
        · refine ⟨rfl, ⟨_, rfl⟩, fun j hj z => ?_⟩
          by_cases y : j = i
          · rw [y] at z
            exact ht z.2
          · exact no j (by omega) z
      · refine ⟨rfl, ⟨_, rfl⟩, fun j hj z => ?_⟩
        by_cases y : j = i
        · rw [y] at z
          exact c1 (congrArg V.int z.1)
        · exact no j (by omega) z
    · rintro σ H1 ⟨rfl, ⟨v, rfl⟩, no⟩
      refine ⟨upd_same, ?_⟩
      rw [back]
      rw [kvs_len] at no
      have e9 : optV (byL ps hs t h) = V.non := by
        show optV (byF (pF ps) (cF hs) hs.length t h) = _
        rw [by_never no]
        rfl
      rw [e9] at k
      exact k
end
end K32

namespace K32
open PySem L2 Tie
def optI (e : Option Int) : V := match e with | some x => .int x | none => .non
/-- a chain that ends within 100 steps -/
def spChain (C : Addr) : Sp := fun vs H Q _ => ∃ (p l d : Addr) (ps : List Pr) (q : Nat) (hs : List Int) (t a b : Int) (fu : Nat) (R : List Nat × Option Int), vs = [.ref p, .int t, .int a, .int b] ∧ MtAt C H p l d ps q hs ∧ fu ≤ 100 ∧
  chainA (pF ps) (cF hs) hs.length fu [] t a b = some R ∧
  ∀ (r f : Addr) (H' : Hp), Same H H' → H' f = some (.lst (R.1.map fun (k : Nat) => V.int (k : Int))) → H' r = some (.tup [.ref f, optI R.2]) → Q (.ref r) H'
def spExch (C : Addr) : Sp := fun vs H Q _ => ∃ (p l d f : Addr) (ps : List Pr) (q : Nat) (hs : List Int) (F : List Nat) (a b : Int), vs = [.ref p, .ref f, .int a, .int b] ∧ MtAt C H p l d ps q hs ∧
  H f = some (.lst (F.map fun (k : Nat) => V.int (k : Int))) ∧ (∀ k, k ∈ F → k < hs.length) ∧
  ∀ H' : Hp, MtAt C H' p l d ps q (exchL a b F hs) → But d H H' → Q .non H'

section
variable {P : Program} {w : World} {K : PySem.W.Frag} {mg : Str → Option Value} {base : Heap}
abbrev nFree : List Str := ["self", "tie", "hue"]
theorem scFree : FnScope nFree ["self", "tie"] (defScope sFree) := ⟨rfl, rfl, rfl, by decide +kernel, rfl, by decide +kernel, by decide +kernel⟩
theorem ok_free {f C fB : Addr} {fd fdB : FuncData} (F : Fun K "free" "Meeting.free" sFree f fd) (T : TxM K mg C) (GB : FnOk P w K mg base CX0 1 fB fdB ["self", "tie", "hue"] (spBy C)) (bB : Binds K fdB ["self", "tie", "hue"] []) (mB : Meth K C "by" fB) :
    FnOk P w K mg base CX0 2 f fd ["self", "tie"] (spFree C) := by
  refine F.ok scFree (fun vs H Q E h => ?_) (fun cdv A outer s H vs Q E hr h => ?_)
  · obtain ⟨p, l, d, ps, q, hs, t, rfl, _⟩ := h
    rfl
  · obtain ⟨p, l, d, ps, q, hs, t, rfl, M, hq, k⟩ := h
    obtain ⟨⟨dx, hp⟩, _⟩ := id M
    refine ⟨_, pss_one (ps_ret (pe_lc (own := [("hue", 2)]) (g := gName 2) rfl scFree.nd (pi_range1 (by rfl) T.range (pa_cons (pe_fld (pv 0) rfl) pa_nil)) (blkOk_by (N := nFree) (sc := defScope sFree) (by decide +kernel))
      (fun _ _ _ _ _ => pg_name (i := 2) scFree.nd rfl (Or.inl rfl)) (fun _ _ _ _ _ => pts_one (pt_cmp (pc_isN (pe_meth (pv 0) T.cl mB GB hr bB .nil pass0 (pa_cons (pv 1) (pa_cons (pv 2) pa_nil))))))
      (fun _ _ _ _ _ => pv 2))), ?_⟩
    refine ⟨_, rfl, p, C, dx, _, _, rfl, hp, T.cl, T.nM, mf_most _ _ _, (q : Int), rfl, by omega, by omega, fun D nD => lc_range (lo := 0) (n := (q : Int).toNat) (fun i H' => H' = upd H D (.lst ((freeL ps hs t i).map V.int)))
      rfl ?_ ?_⟩
    · rintro i H1 hi rfl
      rw [Int.zero_add]
      have S1 : Same H (upd H D (.lst ((freeL ps hs t i).map V.int))) := Same.upd nD
      refine ⟨rfl, _, rfl, p, dx, _, rfl, S1 _ _ hp, mf_no _ _ _ (by decide +kernel) (by decide +kernel) (by decide +kernel), _, rfl, _, rfl, p, l, d, ps, q, hs, t, (i : Int), rfl, M.same S1, _, rfl, ?_⟩
      have es : freeL ps hs t (i + 1) = freeL ps hs t i ++ (if byL ps hs t (i : Int) = none then [(i : Int)] else []) := free_succ
      cases e : byL ps hs t (i : Int) with
      | none =>
        rw [e, if_pos rfl] at es
        refine iteT ⟨_, rfl, _, upd_same, ?_, ?_⟩
        · rw [List.length_map]
          exact small60 (Nat.le_trans free_length (by omega))
        · rw [upd_upd, es, List.map_append]
          rfl
      | some j =>
        rw [e, if_neg (by simp), List.append_nil] at es
        refine iteF ?_
        show _ = _
        rw [es]
    · rintro H1 rfl
      exact k D nD
theorem scExch : FnScope ["self", "some", "hue", "other", "k"] ["self", "some", "hue", "other"] (defScope sExch) := ⟨rfl, rfl, rfl, by decide +kernel, rfl, by decide +kernel, by decide +kernel⟩
theorem ok_exch {f C : Addr} {fd : FuncData} (F : Fun K "exchange" "Meeting.exchange" sExch f fd) (T : TxM K mg C) : FnOk P w K mg base CX0 1 f fd ["self", "some", "hue", "other"] (spExch C) := by
  refine F.ok scExch (fun vs H Q E h => ?_) (fun cdv A outer s H vs Q E hr h => ?_)
  · obtain ⟨p, l, d, f, ps, q, hs, F, a, b, rfl, _⟩ := h
    rfl
  · obtain ⟨p, l, d, f, ps, q, hs, F, a, b, rfl, M, hf, hF, k⟩ := h
    have hu := hu_of hr
    have nfd : f ≠ d := ne_of hf M.dc (by intro z; cases z)
    refine ⟨_, pss_one (ps_for PassesOwn.never rfl (pi_list (pv 1)) (pg_name (i := 4) scExch.nd rfl (.inl rfl))
      (pss_one (ps_dput hu (pe_fld (pv 0) rfl) (pv 4) (pe_op op_sub (pe_op op_add (pv 2) (pv 3)) (pe_dget hu (pe_fld (pv 0) rfl) (pv 4) (fun _ _ => rfl))) rfl))), ?_⟩
    refine ⟨_, rfl, f, rfl, ⟨_, SqL.of hf⟩, for_list (K := K) (a := f) (xs := F.map fun (k : Nat) => V.int (k : Int)) (fun i σ H' => (∃ v, σ = [some (.ref p), some (.ref f), some (.int a), some (.int b), v]) ∧ MtAt C H' p l d ps q (exchL a b (F.take i) hs) ∧ But d H H')
      ⟨⟨none, rfl⟩, M, fun b o e _ => e⟩ (fun i σ H' _ ⟨_, _, B⟩ => SqL.of (B _ _ hf nfd)) ?_ ?_⟩
    · rintro i y σ H1 hi ⟨⟨v, rfl⟩, M1, B⟩
      rw [List.getElem?_map] at hi
      obtain ⟨j, hj, rfl⟩ := Option.map_eq_some_iff.mp hi
      obtain ⟨⟨dx, hp⟩, _, hd, ln, sz⟩ := id M1
      have jl : j < (exchL a b (F.take i) hs).length := by
        rw [exchL_len]
        exact hF j (List.mem_of_getElem? hj)
      refine ⟨_, rfl, _, rfl, _, _, rfl, rfl, _, rfl, p, C, dx, _, _, rfl, hp, T.cl, T.nW, mf_worn _ _ _, _, rfl, d, _, rfl, .inl ⟨_, Sum.inl (j : Int), .inl hd, rfl, (valV_kvs jl).symm⟩, _, _, rfl, rfl, ?_⟩
      refine ⟨_, rfl, p, C, dx, _, _, rfl, hp, T.cl, T.nW, mf_worn _ _ _, _, rfl, d, _, rfl, DPut.k (k := Sum.inl (j : Int)) hd (small60 (by rw [kvs_len]; omega)), ?_⟩
      rw [put_old jl]
      have et : F.take (i + 1) = F.take i ++ [j] := by
        rw [List.take_add_one, hj]
        rfl
      refine ⟨⟨_, rfl⟩, ?_, B.trans But.upd⟩
      rw [et, exchL_snoc]
      exact M1.re (by rw [List.length_set]; exact ln)
    · rintro σ H1 ⟨⟨v, rfl⟩, M1, B⟩
      rw [List.length_map, List.take_length] at M1
      exact k _ M1 B
end
end K32

namespace K32
open PySem L2 Tie
theorem chainA_none {p : Nat → Pr} {c : Nat → Int} {m fu : Nat} {acc : List Nat} {w a b : Int} {R : List Nat × Option Int} (h : chainA p c m fu acc w a b = some R) (e : byF p c m w a = none) : R = (acc, some w) := by
  cases fu with
  | zero => cases h
  | succ fu =>
    unfold chainA at h
    rw [e] at h
    exact (Option.some.inj h).symm
theorem chainA_some {p : Nat → Pr} {c : Nat → Int} {m fu j : Nat} {acc : List Nat} {w a b : Int} {R : List Nat × Option Int} (h : chainA p c m fu acc w a b = some R) (e : byF p c m w a = some j) :
    ∃ fu', fu = fu' + 1 ∧ (((p j).1 = (p j).2 ∧ R = (acc ++ [j], none)) ∨ ((p j).1 ≠ (p j).2 ∧ chainA p c m fu' (acc ++ [j]) ((p j).1 + (p j).2 - w) b a = some R)) := by
  cases fu with
  | zero => cases h
  | succ fu =>
    refine ⟨fu, rfl, ?_⟩
    unfold chainA at h
    rw [e] at h
    by_cases z : (p j).1 = (p j).2
    · simp only [if_pos z] at h
      exact .inl ⟨z, (Option.some.inj h).symm⟩
    · simp only [if_neg z] at h
      exact .inr ⟨z, h⟩

section
variable {P : Program} {w : World} {K : PySem.W.Frag} {mg : Str → Option Value} {base : Heap}
theorem scChain : FnScope ["self", "tie", "hue", "other", "found", "k", "s", "t"] ["self", "tie", "hue", "other"] (defScope sChain) := ⟨rfl, rfl, rfl, by decide +kernel, rfl, by decide +kernel, by decide +kernel⟩
theorem ok_chain {f C fB : Addr} {fd fdB : FuncData} (F : Fun K "chain" "Meeting.chain" sChain f fd) (T : TxM K mg C) (GB : FnOk P w K mg base CX0 1 fB fdB ["self", "tie", "hue"] (spBy C)) (bB : Binds K fdB ["self", "tie", "hue"] []) (mB : Meth K C "by" fB) :
    FnOk P w K mg base CX0 2 f fd ["self", "tie", "hue", "other"] (spChain C) := by
  refine F.ok scChain (fun vs H Q E h => ?_) (fun cdv A outer s H vs Q E hr h => ?_)
  · obtain ⟨p, l, d, ps, q, hs, t, a, b, fu, R, rfl, _⟩ := h
    rfl
  · obtain ⟨p, l, d, ps, q, hs, t, a, b, fu, R, rfl, M, hfu, hch, k⟩ := h
    refine ⟨_, pss_cons (ps_set (i := 4) scChain.nd rfl (.inl rfl) (pe_lst pa_nil))
      (pss_cons (ps_set (i := 5) scChain.nd rfl (.inl rfl) (pe_meth (pv 0) T.cl mB GB hr bB .nil pass0 (pa_cons (pv 1) (pa_cons (pv 2) pa_nil))))
      (pss_cons (ps_while PassesOwn.never (pt_cmp (pc_notN (pv 5)))
        (pss_cons (ps_expr (pe_bm PySem.F.plainAttrs_list PySem.F.slot_list_append PySem.F.type_list_append mt_append (pv 4) (pa_cons (pv 5) pa_nil)))
        (pss_cons (ps_asg (pe_ix ix_list (pe_fld (pv 0) rfl) (pv 5) (fun _ _ => rfl)) (pg_tup (by rfl) (pgs_cons (pg_name (i := 6) scChain.nd rfl (.inl rfl)) (pgs_cons (pg_name (i := 7) scChain.nd rfl (.inl rfl)) pgs_nil))))
        (pss_cons (ps_if (pt_cmpR op_eq (pv 6) (pv 7) (nomark _)) (pss_one (ps_ret (pe_tup (pa_cons (pv 4) (pa_cons pe_non pa_nil))))) pss_nil)
        (pss_cons (ps_set (i := 1) scChain.nd rfl (.inl rfl) (pe_op op_sub (pe_op op_add (pv 6) (pv 7)) (pv 1)))
        (pss_cons (ps_par (i := 2) (j := 3) (by rfl) scChain.nd rfl rfl (by decide) rfl rfl (pa_cons (pv 3) (pa_cons (pv 2) pa_nil)) (by rfl))
        (pss_one (ps_set (i := 5) scChain.nd rfl (.inl rfl) (pe_meth (pv 0) T.cl mB GB hr bB .nil pass0 (pa_cons (pv 1) (pa_cons (pv 2) pa_nil)))))))))))
      (pss_one (ps_ret (pe_tup (pa_cons (pv 4) (pa_cons (pv 1) pa_nil))))))), ?_⟩
    refine ⟨Nat.zero_le _, fun f0 n0 => ?_⟩
    have S0 : Same H (upd H f0 (.lst [])) := Same.upd n0
    have M0 := M.same S0
    obtain ⟨⟨dx, hp⟩, _⟩ := id M0
    refine ⟨_, rfl, p, dx, _, rfl, hp, mf_no _ _ _ (by decide +kernel) (by decide +kernel) (by decide +kernel), _, rfl, _, rfl, p, l, d, ps, q, hs, t, a, rfl, M0, ?_⟩
    refine while_by (fun σ H' => ∃ (fu : Nat) (acc : List Nat) (w hue other : Int) (u v : Option V), σ = [some (.ref p), some (.int w), some (.int hue), some (.int other), some (.ref f0), some (optV (byL ps hs w hue)), u, v] ∧
        Same H H' ∧ H' f0 = some (.lst (acc.map fun (k : Nat) => V.int (k : Int))) ∧ chainA (pF ps) (cF hs) hs.length fu acc w hue other = some R ∧ acc.length + fu ≤ 100)
      (fun σ H' => match H' f0 with | some (.lst xs) => 100 - xs.length | _ => 0) ⟨fu, [], t, a, b, none, none, rfl, S0, upd_same, hch, by simpa using hfu⟩ ?_ (fun σ H Q Q' f ⟨v, e, c, e2, q⟩ => ⟨v, e, c, e2, f _ _ q⟩)
    rintro σ H1 ⟨fu, acc, w, hue, other, u, v, rfl, S1, hf, hc, hl⟩
    have M1 := M.same S1
    obtain ⟨⟨dx, hp⟩, ⟨vs, hvl, hP⟩, hd, ln, sz⟩ := id M1
    refine ⟨_, rfl, _, rfl, ?_⟩
    cases e : byL ps hs w hue with
    | none =>
      refine iteF ?_
      have eR := chainA_none hc e
      refine ⟨_, rfl, _, rfl, (by decide : 2 ≤ sizeLine), fun r nr => ?_⟩
      refine k r f0 _ (S1.trans (Same.upd nr)) ?_ ?_
      · rw [upd_ne (ne_of_none hf nr), hf, eR]
      · rw [upd_same, eR]
        all_goals rfl
    | some j =>
      refine iteT ?_
      obtain ⟨hj, hcj, hjt⟩ := by_some e
      obtain ⟨fu', rfl, cs⟩ := chainA_some hc e
      obtain ⟨pa, e1, e2⟩ := hP.there (pF_some (Nat.lt_of_lt_of_le hj ln))
      have naf : pa ≠ f0 := ne_of e2 hf (by intro z; cases z)
      have npf : p ≠ f0 := ne_of hp hf (by intro z; cases z)
      have nlf : l ≠ f0 := fun z => by
        have := M.pr
        obtain ⟨ws, q1, _⟩ := this
        exact ne_of_none q1 n0 z
      have S2 : Same H (upd H1 f0 (.lst (acc.map (fun (k : Nat) => V.int (k : Int)) ++ [V.int (j : Int)]))) := fun b o z => by
        rw [upd_ne (ne_of_none z n0)]
        exact S1 b o z
      have M2 := M.same S2
      obtain ⟨⟨dx2, hp2⟩, _⟩ := id M2
      refine ⟨_, rfl, .inl ⟨rfl, _, SqL.of hf⟩, _, rfl, f0, _, _, rfl, rfl, hf, small60 (by rw [List.length_map]; omega), ?_⟩
      have hv2 : (upd H1 f0 (.lst (acc.map (fun (k : Nat) => V.int (k : Int)) ++ [V.int (j : Int)]))) l = some (.lst vs) := by
        rw [upd_ne nlf]
        exact hvl
      have ht2 : (upd H1 f0 (.lst (acc.map (fun (k : Nat) => V.int (k : Int)) ++ [V.int (j : Int)]))) pa = some (.tup [.int (pF ps j).1, .int (pF ps j).2]) := by
        rw [upd_ne naf]
        exact e2
      refine ⟨_, rfl, p, C, dx2, _, _, rfl, hp2, T.cl, T.nP, mf_pairs _ _ _, _, rfl, l, vs, _, _, rfl, rfl, SqL.of hv2, at_of rfl e1, pa, _, rfl, SqT.of ht2, rfl, _, _, rfl, _, _, rfl, rfl, ?_⟩
      refine ⟨_, rfl, _, rfl, rfl, _, rfl, if2 (fun c1 => ?_) (fun c1 => ?_)⟩
      · have c1' := V.int.inj c1
        rcases cs with ⟨_, eR⟩ | ⟨z, _⟩
        · refine ⟨_, rfl, (by decide : 2 ≤ sizeLine), fun r nr => ?_⟩
          refine k r f0 _ (S2.trans (Same.upd nr)) ?_ ?_
          · rw [upd_ne (fun z => by rw [← z, upd_same] at nr; cases nr), upd_same, eR, List.map_append]
            rfl
          · rw [upd_same, eR]
            all_goals rfl
        · exact absurd c1' z
      · rcases cs with ⟨z, _⟩ | ⟨z, hc'⟩
        · exact absurd (congrArg V.int z) c1
        · refine ⟨_, rfl, _, rfl, _, _, rfl, rfl, _, rfl, _, _, rfl, rfl, ?_⟩
          refine ⟨_, rfl, _, rfl, _, _, rfl, ?_⟩
          refine ⟨_, rfl, p, dx2, _, rfl, hp2, mf_no _ _ _ (by decide +kernel) (by decide +kernel) (by decide +kernel), _, rfl, _, rfl, p, l, d, ps, q, hs, _, _, rfl, M2, ?_⟩
          refine ⟨⟨fu', acc ++ [j], _, other, hue, _, _, rfl, S2, ?_, hc', ?_⟩, ?_⟩
          · rw [upd_same, List.map_append]
            rfl
          · rw [List.length_append, List.length_singleton]
            omega
          · simp only [upd_same, hf, List.length_append, List.length_map, List.length_singleton]
            omega
end
end K32

namespace K32
open PySem L2 Tie
theorem inV_ints (x : Int) (ns : List Int) : inV (.int x) (ns.map V.int) = decide (x ∈ ns) := by
  rw [Bool.eq_iff_iff, decide_eq_true_eq]
  unfold inV
  rw [List.any_eq_true]
  constructor
  · rintro ⟨v, hv, e⟩
    obtain ⟨y, hy, rfl⟩ := List.mem_map.mp hv
    have := (eqV_int _ _).mp e
    rw [← this]
    exact hy
  · intro h
    exact ⟨_, List.mem_map.mpr ⟨x, h, rfl⟩, (eqV_int _ _).mpr rfl⟩
theorem flat_ints (ns : List Int) : (ns.map V.int).all flatV = true := by
  rw [List.all_eq_true]
  intro v hv
  obtain ⟨y, _, rfl⟩ := List.mem_map.mp hv
  rfl
theorem ifInL {x : Int} {ns : List Int} {A B : Prop} (h1 : x ∈ ns → A) (h2 : x ∉ ns → B) : if (if false = true then !inV (.int x) (ns.map V.int) else inV (.int x) (ns.map V.int)) = true then A else B := by
  rw [if_neg Bool.false_ne_true, inV_ints]
  exact if2 h1 h2
theorem int_at {ns : List Int} {i : Nat} {y : V} (h : (ns.map V.int)[i]? = some y) : ∃ x, ns[i]? = some x ∧ y = V.int x := by
  rw [List.getElem?_map] at h
  obtain ⟨x, h1, h2⟩ := Option.map_eq_some_iff.mp h
  exact ⟨x, h1, h2.symm⟩
theorem ifN {c A B : Prop} [Decidable c] (h1 : ¬ c → A) (h2 : c → B) : if (!decide c) = true then A else B := by
  by_cases h : c
  · rw [decide_eq_true h]
    exact iteF (h2 h)
  · rw [decide_eq_false h]
    exact iteT (h1 h)
/-- the hues free at the one are not free at the other -/
def Dis (ps : List Pr) (hs : List Int) (q : Nat) (s t : Int) : Prop := ∀ x, x ∈ freeL ps hs s q → x ∉ freeL ps hs t q
abbrev ChL (ps : List Pr) (hs : List Int) (t a b : Int) (F : List Nat) (e : Option Int) : Prop := ChS (pF ps) (cF hs) hs.length t a b F e
def All (ps : List Pr) (hs : List Int) (q : Nat) (s t : Int) : Prop := ∀ x, x ∈ freeL ps hs s q → ∀ y, y ∈ freeL ps hs t q → ∃ F, ChL ps hs t x y F (some s)
def spDirect (C : Addr) : Sp := fun vs H Q _ => ∃ (p l d : Addr) (ps : List Pr) (q : Nat) (hs : List Int) (s t : Int), vs = [.ref p, .int (hs.length : Nat)] ∧ MtAt C H p l d ps q hs ∧ Good ps q hs ∧ hs.length < ps.length ∧ q ≤ 100 ∧ pF ps hs.length = (s, t) ∧
  (∀ (H' : Hp) (hs' : List Int), MtAt C H' p l d ps q hs' → Good ps q hs' → hs'.length = hs.length + 1 → But d H H' → Q (.bl true) H') ∧
  (∀ H' : Hp, Same H H' → Dis ps hs q s t → All ps hs q s t → Q (.bl false) H')

section
variable {P : Program} {w : World} {K : PySem.W.Frag} {mg : Str → Option Value} {base : Heap}
abbrev nDirect : List Str := ["self", "k", "s", "t", "ahead", "behind", "both", "a", "b", "some", "end", "hue"]
theorem scDirect : FnScope nDirect ["self", "k"] (defScope sDirect) := ⟨rfl, rfl, rfl, by decide +kernel, rfl, by decide +kernel, by decide +kernel⟩
theorem ok_direct {f C fF fC fE : Addr} {fd fdF fdC fdE : FuncData} (F : Fun K "direct" "Meeting.direct" sDirect f fd) (T : TxM K mg C)
    (GF : FnOk P w K mg base CX0 2 fF fdF ["self", "tie"] (spFree C)) (bF : Binds K fdF ["self", "tie"] []) (mF : Meth K C "free" fF)
    (GC : FnOk P w K mg base CX0 2 fC fdC ["self", "tie", "hue", "other"] (spChain C)) (bC : Binds K fdC ["self", "tie", "hue", "other"] []) (mC : Meth K C "chain" fC)
    (GE : FnOk P w K mg base CX0 1 fE fdE ["self", "some", "hue", "other"] (spExch C)) (bE : Binds K fdE ["self", "some", "hue", "other"] []) (mE : Meth K C "exchange" fE) :
    FnOk P w K mg base CX0 3 f fd ["self", "k"] (spDirect C) := by
  refine F.ok scDirect (fun vs H Q E h => ?_) (fun cdv A outer s0 H vs Q E hr h => ?_)
  · obtain ⟨p, l, d, ps, q, hs, s, t, rfl, _⟩ := h
    rfl
  · obtain ⟨p, l, d, ps, q, hs, s, t, rfl, M, G, hk, hq, est, kT, kF⟩ := h
    have hu := hu_of hr
    have hr1 : Room 1 _ := hr.mono (by decide)
    obtain ⟨⟨dx, hp⟩, ⟨vs, hl, hP⟩, hd, ln, sz⟩ := id M
    refine ⟨_, pss_cons (ps_asg (pe_ix ix_list (pe_fld (pv 0) rfl) (pv 1) (fun _ _ => rfl)) (pg_tup (by rfl) (pgs_cons (pg_name (i := 2) scDirect.nd rfl (.inl rfl)) (pgs_cons (pg_name (i := 3) scDirect.nd rfl (.inl rfl)) pgs_nil))))
      (pss_cons (ps_set (i := 4) scDirect.nd rfl (.inl rfl) (pe_meth (pv 0) T.cl mF GF hr bF .nil pass0 (pa_cons (pv 2) pa_nil)))
      (pss_cons (ps_set (i := 5) scDirect.nd rfl (.inr rfl) (pe_meth (pv 0) T.cl mF GF hr bF .nil pass0 (pa_cons (pv 3) pa_nil)))
      (pss_cons (ps_setLc (i := 6) (own := [("hue", 11)]) (g := gName 11) (by rfl) scDirect.nd rfl rfl (sw_true rfl rfl rfl (by decide +kernel)) (pi_list (pv 4)) (blkOk_by (N := nDirect) (sc := defScope sDirect) (by decide +kernel))
        (fun _ _ _ _ _ => pg_name (i := 11) scDirect.nd rfl (Or.inl rfl)) (fun _ _ _ _ _ => pts_one (pt_cmpR (inK K rfl) (pv 11) (pv 5) (by rfl))) (fun _ _ _ _ _ => pv 11))
      (pss_cons (ps_if (pt_cmpR op_gt (pe_callB call_len_seq (by rfl) T.len PySem.boot_len (pa_cons (pv 6) pa_nil)) pe_int (nomark _))
        (pss_cons (ps_dput hu (pe_fld (pv 0) rfl) (pv 1) (pe_ix ix_list (pv 6) pe_int (fun _ _ => rfl)) rfl) (pss_one (ps_ret pe_bl))) pss_nil)
      (pss_cons (ps_for PassesOwn.never rfl (pi_list (pv 4)) (pg_name (i := 7) scDirect.nd rfl (.inl rfl))
        (pss_one (ps_for PassesOwn.never rfl (pi_list (pv 5)) (pg_name (i := 8) scDirect.nd rfl (.inl rfl))
          (pss_cons (ps_asg (pe_meth (pv 0) T.cl mC GC hr bC .nil pass0 (pa_cons (pv 3) (pa_cons (pv 7) (pa_cons (pv 8) pa_nil)))) (pg_tup (by rfl) (pgs_cons (pg_name (i := 9) scDirect.nd rfl (.inl rfl)) (pgs_cons (pg_name (i := 10) scDirect.nd rfl (.inl rfl)) pgs_nil))))
          (pss_one (ps_if (pt_cmpR op_ne (pv 10) (pv 2) (nomark _))
            (pss_cons (ps_expr (pe_meth (pv 0) T.cl mE GE hr1 bE .nil pass0 (pa_cons (pv 9) (pa_cons (pv 7) (pa_cons (pv 8) pa_nil)))))
            (pss_cons (ps_dput hu (pe_fld (pv 0) rfl) (pv 1) (pv 7) rfl) (pss_one (ps_ret pe_bl)))) pss_nil))))))
      (pss_one (ps_ret pe_bl))))))), ?_⟩
    obtain ⟨pa, e1, e2⟩ := hP.there (pF_some hk)
    rw [est] at e2
    refine ⟨_, rfl, p, C, dx, _, _, rfl, hp, T.cl, T.nP, mf_pairs _ _ _, _, rfl, l, vs, _, _, rfl, rfl, SqL.of hl, at_of rfl e1, pa, _, rfl, SqT.of e2, rfl, _, _, rfl, _, _, rfl, rfl, ?_⟩
    refine ⟨_, rfl, p, dx, _, rfl, hp, mf_no _ _ _ (by decide +kernel) (by decide +kernel) (by decide +kernel), _, rfl, p, l, d, ps, q, hs, s, rfl, M, hq, fun ra na => ?_⟩
    have S1 : Same H (upd H ra (.lst ((freeL ps hs s q).map V.int))) := Same.upd na
    refine ⟨_, rfl, p, dx, _, rfl, S1 _ _ hp, mf_no _ _ _ (by decide +kernel) (by decide +kernel) (by decide +kernel), _, rfl, p, l, d, ps, q, hs, t, rfl, M.same S1, hq, fun rb nb => ?_⟩
    generalize eH2 : upd (upd H ra (.lst ((freeL ps hs s q).map V.int))) rb (.lst ((freeL ps hs t q).map V.int)) = H2
    have S2 : Same H H2 := by rw [← eH2]; exact S1.trans (Same.upd nb)
    have ha2 : H2 ra = some (.lst ((freeL ps hs s q).map V.int)) := by
      rw [← eH2]
      exact Same.upd nb _ _ upd_same
    have hb2 : H2 rb = some (.lst ((freeL ps hs t q).map V.int)) := by rw [← eH2, upd_same]
    refine ⟨_, rfl, ra, rfl, ⟨_, SqL.of ha2⟩, fun D nD => lc_list (K := K) (a := ra) (xs := (freeL ps hs s q).map V.int) (fun i H' => H' = upd H2 D (.lst ((((freeL ps hs s q).take i).filter fun x => decide (x ∈ freeL ps hs t q)).map V.int)))
      rfl (fun i H' _ e => by rw [e]; exact SqL.of (Same.upd nD _ _ ha2)) ?_ ?_⟩
    · rintro i y H3 hi rfl
      obtain ⟨x, hx, rfl⟩ := int_at hi
      have et : (freeL ps hs s q).take (i + 1) = (freeL ps hs s q).take i ++ [x] := by
        rw [List.take_add_one, hx]
        rfl
      refine ⟨rfl, _, rfl, _, rfl, rb, _, rfl, .inl (SqL.of (Same.upd nD _ _ hb2)), rfl, flat_ints _, _, rfl, ifInL (fun hin => ?_) (fun hin => ?_)⟩
      · refine ⟨_, rfl, _, upd_same, ?_, ?_⟩
        · rw [List.length_map]
          refine small60 (Nat.le_trans (List.length_filter_le _ _) ?_)
          rw [List.length_take]
          exact Nat.le_trans (Nat.min_le_right _ _) (Nat.le_trans free_length hq)
        · rw [upd_upd, et, List.filter_append, List.map_append, List.filter_cons_of_pos (by exact decide_eq_true hin)]
          rfl
      · show _ = _
        rw [et, List.filter_append, List.filter_cons_of_neg (by rw [decide_eq_true_eq]; exact hin)]
        simp
    rintro H3 rfl
    rw [List.length_map, List.take_length]
    generalize eW : (freeL ps hs s q).filter (fun x => decide (x ∈ freeL ps hs t q)) = both
    generalize eH3 : upd H2 D (.lst (both.map V.int)) = H3
    have S3 : Same H2 H3 := by rw [← eH3]; exact Same.upd nD
    have hD : H3 D = some (.lst (both.map V.int)) := by rw [← eH3, upd_same]
    have S03 : Same H H3 := S2.trans S3
    have M3 := M.same S03
    have mem : ∀ x, x ∈ both ↔ x ∈ freeL ps hs s q ∧ x ∈ freeL ps hs t q := fun x => by
      rw [← eW, List.mem_filter, decide_eq_true_eq]
    refine ⟨_, rfl, D, _, rfl, .inl (SqL.of hD), _, _, rfl, rfl, _, rfl, if2 (fun c1 => ?_) (fun c1 => ?_)⟩
    · cases both with
      | nil => simp at c1
      | cons x rest =>
        have mx := (mem x).mp List.mem_cons_self
        refine ⟨_, rfl, D, _, _, _, rfl, rfl, SqL.of hD, at_of (j := 0) rfl rfl, _, rfl, p, C, dx, _, _, rfl, S03 _ _ hp, T.cl, T.nW, mf_worn _ _ _, _, rfl, d, _, rfl, DPut.k (k := Sum.inl (hs.length : Int)) (S03 _ _ hd) (small60 (by rw [kvs_len]; omega)), ?_⟩
        rw [put_new]
        have el : (hs ++ [x]).length = hs.length + 1 := by rw [List.length_append, List.length_singleton]
        exact kT _ _ (M3.re (by omega)) (G.direct hk est mx.1 mx.2) el ((But.of S03).trans But.upd)
    · have nob : both = [] := by
        cases both with
        | nil => rfl
        | cons x rest => exact absurd (show (0 : Int) < _ by simp) c1
      have dis : Dis ps hs q s t := fun x h1 h2 => by
        have := (mem x).mpr ⟨h1, h2⟩
        rw [nob] at this
        exact absurd this List.not_mem_nil
      refine ⟨_, rfl, ra, rfl, ⟨_, SqL.of (S3 _ _ ha2)⟩, for_list (K := K) (a := ra) (xs := (freeL ps hs s q).map V.int)
        (fun i σ H' => (∃ u1 u2 u3 u4, σ = [some (.ref p), some (.int (hs.length : Nat)), some (.int s), some (.int t), some (.ref ra), some (.ref rb), some (.ref D), u1, u2, u3, u4, none]) ∧ Same H3 H' ∧
          ∀ j x, j < i → (freeL ps hs s q)[j]? = some x → ∀ y, y ∈ freeL ps hs t q → ∃ F, ChL ps hs t x y F (some s))
        ⟨⟨_, _, _, _, rfl⟩, Same.refl _, fun j x hj => absurd hj (Nat.not_lt_zero _)⟩ (fun i σ H' _ ⟨_, S4, _⟩ => SqL.of (S4 _ _ (S3 _ _ ha2))) ?_ ?_⟩
      · rintro i y σ H4 hi ⟨⟨u1, u2, u3, u4, rfl⟩, S4, al⟩
        obtain ⟨x, hx, rfl⟩ := int_at hi
        have xm : x ∈ freeL ps hs s q := List.mem_of_getElem? hx
        refine ⟨_, rfl, rb, rfl, ⟨_, SqL.of (S4 _ _ (S3 _ _ hb2))⟩, for_list (K := K) (a := rb) (xs := (freeL ps hs t q).map V.int)
          (fun j σ H' => (∃ u2 u3 u4, σ = [some (.ref p), some (.int (hs.length : Nat)), some (.int s), some (.int t), some (.ref ra), some (.ref rb), some (.ref D), some (.int x), u2, u3, u4, none]) ∧ Same H3 H' ∧
            ∀ n y, n < j → (freeL ps hs t q)[n]? = some y → ∃ F, ChL ps hs t x y F (some s))
          ⟨⟨_, _, _, rfl⟩, S4, fun n y hn => absurd hn (Nat.not_lt_zero _)⟩ (fun j σ H' _ ⟨_, S5, _⟩ => SqL.of (S5 _ _ (S3 _ _ hb2))) ?_ ?_⟩
        · rintro j z σ H5 hj ⟨⟨v2, v3, v4, rfl⟩, S5, al2⟩
          obtain ⟨y, hy, rfl⟩ := int_at hj
          have ym : y ∈ freeL ps hs t q := List.mem_of_getElem? hy
          have S05 := S03.trans S5
          have M5 := M.same S05
          have fy := (mem_free.mp ym).2.2
          have xy : x ≠ y := fun z => dis x xm (by rw [z]; exact ym)
          obtain ⟨Fl, en, hch, CS, hFl⟩ := chain_spec G.pr xy fy
          refine ⟨_, rfl, p, dx, _, rfl, S05 _ _ hp, mf_no _ _ _ (by decide +kernel) (by decide +kernel) (by decide +kernel), _, rfl, _, rfl, _, rfl, p, l, d, ps, q, hs, t, x, y, hs.length + 1, (Fl, en), rfl, M5, by omega, hch, fun r f6 H6 S6 hf6 hr6 => ?_⟩
          have S06 := S05.trans S6
          have M6 := M.same S06
          refine ⟨r, _, rfl, SqT.of hr6, rfl, _, _, rfl, _, _, rfl, rfl, ?_⟩
          refine ⟨_, rfl, _, rfl, ?_⟩
          by_cases ce : en = some s
          · rw [ce] at CS ⊢
            refine ⟨rfl, _, rfl, ifN (fun c => absurd rfl c) (fun _ => ?_)⟩
            refine ⟨⟨_, _, _, rfl⟩, S5.trans S6, fun n y' hn hy' => ?_⟩
            by_cases w : n = j
            · rw [w, hy] at hy'
              cases hy'
              exact ⟨Fl, CS⟩
            · exact al2 n y' (by omega) hy'
          · have sc : scal (optI en) (.int s) = true := by cases en <;> rfl
            refine ⟨sc, _, rfl, ifN (fun _ => ?_) (fun c => ?_)⟩
            · have st : s ≠ t := fun z => dis x xm (by rw [← z]; exact xm)
              refine ⟨_, rfl, p, dx, _, rfl, S06 _ _ hp, mf_no _ _ _ (by decide +kernel) (by decide +kernel) (by decide +kernel), _, rfl, _, rfl, _, rfl, p, l, d, f6, ps, q, hs, Fl, x, y, rfl, M6, hf6, CS.lt, fun H7 M7 B7 => ?_⟩
              obtain ⟨⟨dx7, hp7⟩, _, hd7, ln7, _⟩ := id M7
              have el7 : (exchL x y Fl hs).length = hs.length := exchL_len Fl hs
              have ek : ((hs.length : Nat) : Int) = ((exchL x y Fl hs).length : Int) := by rw [el7]
              refine ⟨_, rfl, _, rfl, p, C, dx7, _, _, rfl, hp7, T.cl, T.nW, mf_worn _ _ _, _, rfl, d, _, rfl, DPut.k (k := Sum.inl (hs.length : Int)) hd7 (small60 (by rw [kvs_len]; omega)), ?_⟩
              rw [ek, put_new]
              have el : (exchL x y Fl hs ++ [x]).length = hs.length + 1 := by rw [List.length_append, List.length_singleton, el7]
              exact kT _ _ (M7.re (by omega)) (G.chain hk est st xm ym CS ce) el ((But.of S06).trans (B7.trans But.upd))
            · cases en with
              | none => cases c
              | some z => exact absurd (congrArg some (V.int.inj c)) ce
        · rintro σ H5 ⟨⟨v2, v3, v4, rfl⟩, S5, al2⟩
          refine ⟨⟨_, _, _, _, rfl⟩, S5, fun n x' hn hx' => ?_⟩
          by_cases w : n = i
          · rw [w, hx] at hx'
            cases hx'
            intro y hy
            obtain ⟨m, hm⟩ := List.mem_iff_getElem?.mp hy
            exact al2 m y (by rw [List.length_map]; exact (List.getElem?_eq_some_iff.mp hm).1) hm
          · exact al n x' (by omega) hx'
      · rintro σ H4 ⟨⟨u1, u2, u3, u4, rfl⟩, S4, al⟩
        refine kF _ (S03.trans S4) dis fun x hx => ?_
        obtain ⟨m, hm⟩ := List.mem_iff_getElem?.mp hx
        exact al m x (by rw [List.length_map]; exact (List.getElem?_eq_some_iff.mp hm).1) hm
end
end K32

namespace K32
open PySem L2 Tie
abbrev ShL (ps : List Pr) (hs : List Int) (q : Nat) (s t : Int) : Prop := Short (pF ps) (cF hs) hs.length q s t
def spFreed (C : Addr) : Sp := fun vs H Q _ => ∃ (p l d : Addr) (ps : List Pr) (q : Nat) (hs : List Int) (s t z a : Int), vs = [.ref p, .int s, .int t, .int z] ∧ MtAt C H p l d ps q hs ∧ Good ps q hs ∧ q ≤ 100 ∧
  (freeL ps hs s q)[0]? = some a ∧ a ∉ freeL ps hs t q ∧ (∃ y, y ∈ freeL ps hs t q ∧ y ∈ freeL ps hs z q) ∧
  ∀ (H' : Hp) (y : Int) (F' : List Nat) (e' : Option Int), y ∈ freeL ps hs t q → y ∈ freeL ps hs z q → ChL ps hs z a y F' e' → MtAt C H' p l d ps q (exchL a y F' hs) → But d H H' → Q (.int a) H'
def Degs (ps : List Pr) (L q : Nat) : Prop := q = 3 * L / 2 ∧ ∀ u, deg (pF ps) ps.length u ≤ L
def spRound (C : Addr) : Sp := fun vs H Q _ => ∃ (p l d : Addr) (ps : List Pr) (q L : Nat) (hs : List Int) (s t : Int), vs = [.ref p, .int (hs.length : Nat)] ∧ MtAt C H p l d ps q hs ∧ Good ps q hs ∧ hs.length < ps.length ∧ q ≤ 100 ∧ pF ps hs.length = (s, t) ∧
  Degs ps L q ∧ ShL ps hs q s t ∧ ∀ (H' : Hp) (hs' : List Int), MtAt C H' p l d ps q hs' → Good ps q hs' → hs'.length = hs.length + 1 → But d H H' → Q .non H'
def spPut (C : Addr) : Sp := fun vs H Q _ => ∃ (p l d : Addr) (ps : List Pr) (q L : Nat) (hs : List Int), vs = [.ref p, .int (hs.length : Nat)] ∧ MtAt C H p l d ps q hs ∧ Good ps q hs ∧ hs.length < ps.length ∧ q ≤ 100 ∧
  Degs ps L q ∧ ∀ (H' : Hp) (hs' : List Int), MtAt C H' p l d ps q hs' → Good ps q hs' → hs'.length = hs.length + 1 → But d H H' → Q .non H'

section
variable {P : Program} {w : World} {K : PySem.W.Frag} {mg : Str → Option Value} {base : Heap}
abbrev nFreed : List Str := ["self", "s", "t", "z", "a", "beyond", "c", "some", "end", "hue"]
theorem scFreed : FnScope nFreed ["self", "s", "t", "z"] (defScope sFreed) := ⟨rfl, rfl, rfl, by decide +kernel, rfl, by decide +kernel, by decide +kernel⟩
theorem ok_freed {f C fF fC fE : Addr} {fd fdF fdC fdE : FuncData} (F : Fun K "freed" "Meeting.freed" sFreed f fd) (T : TxM K mg C)
    (GF : FnOk P w K mg base CX0 2 fF fdF ["self", "tie"] (spFree C)) (bF : Binds K fdF ["self", "tie"] []) (mF : Meth K C "free" fF)
    (GC : FnOk P w K mg base CX0 2 fC fdC ["self", "tie", "hue", "other"] (spChain C)) (bC : Binds K fdC ["self", "tie", "hue", "other"] []) (mC : Meth K C "chain" fC)
    (GE : FnOk P w K mg base CX0 1 fE fdE ["self", "some", "hue", "other"] (spExch C)) (bE : Binds K fdE ["self", "some", "hue", "other"] []) (mE : Meth K C "exchange" fE) :
    FnOk P w K mg base CX0 3 f fd ["self", "s", "t", "z"] (spFreed C) := by
  refine F.ok scFreed (fun vs H Q E h => ?_) (fun cdv A outer s0 H vs Q E hr h => ?_)
  · obtain ⟨p, l, d, ps, q, hs, s, t, z, a, rfl, _⟩ := h
    rfl
  · obtain ⟨p, l, d, ps, q, hs, s, t, z, a, rfl, M, G, hq, h0, hat, ⟨y0, hy0, hz0⟩, k⟩ := h
    have hr1 : Room 1 _ := hr.mono (by decide)
    obtain ⟨⟨dx, hp⟩, _, hd, ln, sz⟩ := id M
    have noF : (mf l (q : Int) d).lookup ("free" : Str) = none := mf_no _ _ _ (by decide +kernel) (by decide +kernel) (by decide +kernel)
    refine ⟨_, pss_cons (ps_set (i := 4) scFreed.nd rfl (.inl rfl) (pe_ix ix_list (pe_meth (pv 0) T.cl mF GF hr bF .nil pass0 (pa_cons (pv 1) pa_nil)) pe_int (fun _ _ => rfl)))
      (pss_cons (ps_set (i := 5) scFreed.nd rfl (.inr rfl) (pe_meth (pv 0) T.cl mF GF hr bF .nil pass0 (pa_cons (pv 3) pa_nil)))
      (pss_cons (ps_set (i := 6) scFreed.nd rfl (.inl rfl) (pe_ix ix_list (pe_lc (own := [("hue", 9)]) (g := gName 9) (by rfl) scFreed.nd (pi_list (pe_meth (pv 0) T.cl mF GF hr bF .nil pass0 (pa_cons (pv 2) pa_nil))) (blkOk_by (N := nFreed) (sc := defScope sFreed) (by decide +kernel))
        (fun _ _ _ _ _ => pg_name (i := 9) scFreed.nd rfl (Or.inl rfl)) (fun _ _ _ _ _ => pts_one (pt_cmpR (inK K rfl) (pv 9) (pv 5) (by rfl))) (fun _ _ _ _ _ => pv 9)) pe_int (fun _ _ => rfl)))
      (pss_cons (ps_asg (pe_meth (pv 0) T.cl mC GC hr bC .nil pass0 (pa_cons (pv 3) (pa_cons (pv 4) (pa_cons (pv 6) pa_nil)))) (pg_tup (by rfl) (pgs_cons (pg_name (i := 7) scFreed.nd rfl (.inl rfl)) (pgs_cons (pg_name (i := 8) scFreed.nd rfl (.inl rfl)) pgs_nil))))
      (pss_cons (ps_expr (pe_meth (pv 0) T.cl mE GE hr1 bE .nil pass0 (pa_cons (pv 7) (pa_cons (pv 4) (pa_cons (pv 6) pa_nil)))))
      (pss_one (ps_ret (pv 4))))))), ?_⟩
    refine ⟨_, rfl, p, dx, _, rfl, hp, noF, _, rfl, p, l, d, ps, q, hs, s, rfl, M, hq, fun ra na => ?_⟩
    have S1 : Same H (upd H ra (.lst ((freeL ps hs s q).map V.int))) := Same.upd na
    refine ⟨ra, _, _, V.int a, rfl, rfl, SqL.of upd_same, at_of (j := 0) rfl (by rw [List.getElem?_map, h0]; rfl), ?_⟩
    refine ⟨_, rfl, p, dx, _, rfl, S1 _ _ hp, noF, _, rfl, p, l, d, ps, q, hs, z, rfl, M.same S1, hq, fun rb nb => ?_⟩
    have S2 : Same H (upd (upd H ra (.lst ((freeL ps hs s q).map V.int))) rb (.lst ((freeL ps hs z q).map V.int))) := S1.trans (Same.upd nb)
    refine ⟨_, rfl, p, dx, _, rfl, S2 _ _ hp, noF, _, rfl, p, l, d, ps, q, hs, t, rfl, M.same S2, hq, fun rc nc => ?_⟩
    generalize eH3 : upd (upd (upd H ra (.lst ((freeL ps hs s q).map V.int))) rb (.lst ((freeL ps hs z q).map V.int))) rc (.lst ((freeL ps hs t q).map V.int)) = H3
    have S3 : Same H H3 := by rw [← eH3]; exact S2.trans (Same.upd nc)
    have hb3 : H3 rb = some (.lst ((freeL ps hs z q).map V.int)) := by
      rw [← eH3]
      exact Same.upd nc _ _ upd_same
    have hc3 : H3 rc = some (.lst ((freeL ps hs t q).map V.int)) := by rw [← eH3, upd_same]
    refine ⟨rc, rfl, ⟨_, SqL.of hc3⟩, fun D nD => lc_list (K := K) (a := rc) (xs := (freeL ps hs t q).map V.int) (fun i H' => H' = upd H3 D (.lst ((((freeL ps hs t q).take i).filter fun x => decide (x ∈ freeL ps hs z q)).map V.int)))
      rfl (fun i H' _ e => by rw [e]; exact SqL.of (Same.upd nD _ _ hc3)) ?_ ?_⟩
    · rintro i v H4 hi rfl
      obtain ⟨x, hx, rfl⟩ := int_at hi
      have et : (freeL ps hs t q).take (i + 1) = (freeL ps hs t q).take i ++ [x] := by
        rw [List.take_add_one, hx]
        rfl
      refine ⟨rfl, _, rfl, _, rfl, rb, _, rfl, .inl (SqL.of (Same.upd nD _ _ hb3)), rfl, flat_ints _, _, rfl, ifInL (fun hin => ?_) (fun hin => ?_)⟩
      · refine ⟨_, rfl, _, upd_same, ?_, ?_⟩
        · rw [List.length_map]
          refine small60 (Nat.le_trans (List.length_filter_le _ _) ?_)
          rw [List.length_take]
          exact Nat.le_trans (Nat.min_le_right _ _) (Nat.le_trans free_length hq)
        · rw [upd_upd, et, List.filter_append, List.map_append, List.filter_cons_of_pos (by exact decide_eq_true hin)]
          rfl
      · show _ = _
        rw [et, List.filter_append, List.filter_cons_of_neg (by rw [decide_eq_true_eq]; exact hin)]
        simp
    rintro H4 rfl
    rw [List.length_map, List.take_length]
    generalize eW : (freeL ps hs t q).filter (fun x => decide (x ∈ freeL ps hs z q)) = both
    have mem : ∀ x, x ∈ both ↔ x ∈ freeL ps hs t q ∧ x ∈ freeL ps hs z q := fun x => by
      rw [← eW, List.mem_filter, decide_eq_true_eq]
    generalize eH4 : upd H3 D (.lst (both.map V.int)) = H4
    have S4 : Same H H4 := by rw [← eH4]; exact S3.trans (Same.upd nD)
    have hD : H4 D = some (.lst (both.map V.int)) := by rw [← eH4, upd_same]
    cases both with
    | nil => exact absurd ((mem y0).mpr ⟨hy0, hz0⟩) List.not_mem_nil
    | cons y rest =>
      have my := (mem y).mp List.mem_cons_self
      have fy := (mem_free.mp my.2).2.2
      have ay : a ≠ y := fun w => hat (by rw [w]; exact my.1)
      obtain ⟨Fl, en, hch, CS, hFl⟩ := chain_spec G.pr ay fy
      refine ⟨D, _, _, _, rfl, rfl, SqL.of hD, at_of (j := 0) rfl rfl, ?_⟩
      refine ⟨_, rfl, p, dx, _, rfl, S4 _ _ hp, mf_no _ _ _ (by decide +kernel) (by decide +kernel) (by decide +kernel), _, rfl, _, rfl, _, rfl, p, l, d, ps, q, hs, z, a, y, hs.length + 1, (Fl, en), rfl, M.same S4, by omega, hch, fun r f6 H6 S6 hf6 hr6 => ?_⟩
      have S06 := S4.trans S6
      refine ⟨r, _, rfl, SqT.of hr6, rfl, _, _, rfl, _, _, rfl, rfl, ?_⟩
      refine ⟨_, rfl, p, dx, _, rfl, S06 _ _ hp, mf_no _ _ _ (by decide +kernel) (by decide +kernel) (by decide +kernel), _, rfl, _, rfl, _, rfl, p, l, d, f6, ps, q, hs, Fl, a, y, rfl, M.same S06, hf6, CS.lt, fun H7 M7 B7 => ?_⟩
      exact ⟨_, rfl, k _ y Fl en my.1 my.2 CS M7 ((But.of S06).trans B7)⟩

theorem scRound : FnScope ["self", "k", "s", "t", "b", "other", "first", "last"] ["self", "k"] (defScope sRound) := ⟨rfl, rfl, rfl, by decide +kernel, rfl, by decide +kernel, by decide +kernel⟩
theorem ok_round {f C fF fB fR : Addr} {fd fdF fdB fdR : FuncData} (F : Fun K "round_about" "Meeting.round_about" sRound f fd) (T : TxM K mg C)
    (GF : FnOk P w K mg base CX0 2 fF fdF ["self", "tie"] (spFree C)) (bF : Binds K fdF ["self", "tie"] []) (mF : Meth K C "free" fF)
    (GB : FnOk P w K mg base CX0 1 fB fdB ["self", "tie", "hue"] (spBy C)) (bB : Binds K fdB ["self", "tie", "hue"] []) (mB : Meth K C "by" fB)
    (GR : FnOk P w K mg base CX0 3 fR fdR ["self", "s", "t", "z"] (spFreed C)) (bR : Binds K fdR ["self", "s", "t", "z"] []) (mR : Meth K C "freed" fR) :
    FnOk P w K mg base CX0 4 f fd ["self", "k"] (spRound C) := by
  refine F.ok scRound (fun vs H Q E h => ?_) (fun cdv A outer s0 H vs Q E hr h => ?_)
  · obtain ⟨p, l, d, ps, q, L, hs, s, t, rfl, _⟩ := h
    rfl
  · obtain ⟨p, l, d, ps, q, L, hs, s, t, rfl, M, G, hk, hq, est, ⟨eq, hL⟩, S, k⟩ := h
    have hu := hu_of hr
    have hr1 : Room 1 _ := hr.mono (by decide)
    have hr2 : Room 2 _ := hr.mono (by decide)
    obtain ⟨⟨dx, hp⟩, ⟨vs, hl, hP⟩, hd, ln, sz⟩ := id M
    refine ⟨_, pss_cons (ps_asg (pe_ix ix_list (pe_fld (pv 0) rfl) (pv 1) (fun _ _ => rfl)) (pg_tup (by rfl) (pgs_cons (pg_name (i := 2) scRound.nd rfl (.inl rfl)) (pgs_cons (pg_name (i := 3) scRound.nd rfl (.inl rfl)) pgs_nil))))
      (pss_cons (ps_set (i := 4) scRound.nd rfl (.inl rfl) (pe_ix ix_list (pe_meth (pv 0) T.cl mF GF hr2 bF .nil pass0 (pa_cons (pv 3) pa_nil)) pe_int (fun _ _ => rfl)))
      (pss_cons (ps_set (i := 5) scRound.nd rfl (.inl rfl) (pe_meth (pv 0) T.cl mB GB hr1 bB .nil pass0 (pa_cons (pv 2) (pa_cons (pv 4) pa_nil))))
      (pss_cons (ps_asg (pe_ix ix_list (pe_fld (pv 0) rfl) (pv 5) (fun _ _ => rfl)) (pg_tup (by rfl) (pgs_cons (pg_name (i := 6) scRound.nd rfl (.inl rfl)) (pgs_cons (pg_name (i := 7) scRound.nd rfl (.inl rfl)) pgs_nil))))
      (pss_cons (ps_dput hu (pe_fld (pv 0) rfl) (pv 5) (pe_meth (pv 0) T.cl mR GR hr bR .nil pass0 (pa_cons (pv 2) (pa_cons (pv 3) (pa_cons (pe_op op_sub (pe_op op_add (pv 6) (pv 7)) (pv 2)) pa_nil)))) rfl)
      (pss_one (ps_dput hu (pe_fld (pv 0) rfl) (pv 1) (pv 4) rfl)))))), ?_⟩
    have tcs : touch (pF ps hs.length) s := by rw [est]; exact .inl rfl
    have tct : touch (pF ps hs.length) t := by rw [est]; exact .inr rfl
    have ls := free_some (c := cF hs) hk hL tcs
    have lt := free_some (c := cF hs) hk hL tct
    rw [← eq] at ls lt
    obtain ⟨a, ha⟩ : ∃ a, (freeL ps hs s q)[0]? = some a := ⟨_, List.getElem?_eq_getElem ls⟩
    obtain ⟨b, hb⟩ : ∃ b, (freeL ps hs t q)[0]? = some b := ⟨_, List.getElem?_eq_getElem lt⟩
    have am : a ∈ freeL ps hs s q := List.mem_of_getElem? ha
    have bm : b ∈ freeL ps hs t q := List.mem_of_getElem? hb
    obtain ⟨o, ho⟩ := S.other bm
    obtain ⟨o1, o2, o3⟩ := by_some ho
    obtain ⟨pa, e1, e2⟩ := hP.there (pF_some hk)
    rw [est] at e2
    obtain ⟨pb, g1, g2⟩ := hP.there (pF_some (Nat.lt_of_lt_of_le o1 ln))
    have disz : ∀ x, x ∈ freeL ps hs s q → x ∉ freeL ps hs ((pF ps o).1 + (pF ps o).2 - s) q := fun x hx hz => (S.third hx bm ho).2.2.2.1 (mem_free.mp hz).2.2
    have third : ∃ y, y ∈ freeL ps hs t q ∧ y ∈ freeL ps hs ((pF ps o).1 + (pF ps o).2 - s) q := by
      have h3 := third_hue (c := cF hs) (z := (pF ps o).1 + (pF ps o).2 - s) hk hL tcs tct
      rw [← eq] at h3
      exact h3 S.dis disz
    refine ⟨_, rfl, p, C, dx, _, _, rfl, hp, T.cl, T.nP, mf_pairs _ _ _, _, rfl, l, vs, _, _, rfl, rfl, SqL.of hl, at_of rfl e1, pa, _, rfl, SqT.of e2, rfl, _, _, rfl, _, _, rfl, rfl, ?_⟩
    refine ⟨_, rfl, p, dx, _, rfl, hp, mf_no _ _ _ (by decide +kernel) (by decide +kernel) (by decide +kernel), _, rfl, p, l, d, ps, q, hs, t, rfl, M, hq, fun ra na => ?_⟩
    have S1 : Same H (upd H ra (.lst ((freeL ps hs t q).map V.int))) := Same.upd na
    refine ⟨ra, _, _, V.int b, rfl, rfl, SqL.of upd_same, at_of (j := 0) rfl (by rw [List.getElem?_map, hb]; rfl), ?_⟩
    have M1 := M.same S1
    have eo : optV (byL ps hs s b) = V.int (o : Int) := by
      rw [show byL ps hs s b = some o from ho]
      rfl
    refine ⟨_, rfl, p, dx, _, rfl, S1 _ _ hp, mf_no _ _ _ (by decide +kernel) (by decide +kernel) (by decide +kernel), _, rfl, _, rfl, p, l, d, ps, q, hs, s, b, rfl, M1, ?_⟩
    rw [eo]
    refine ⟨_, rfl, p, C, dx, _, _, rfl, S1 _ _ hp, T.cl, T.nP, mf_pairs _ _ _, _, rfl, l, vs, _, _, rfl, rfl, SqL.of (S1 _ _ hl), at_of rfl g1, pb, _, rfl, SqT.of (S1 _ _ g2), rfl, _, _, rfl, _, _, rfl, rfl, ?_⟩
    refine ⟨_, rfl, p, dx, _, rfl, S1 _ _ hp, mf_no _ _ _ (by decide +kernel) (by decide +kernel) (by decide +kernel), _, rfl, _, rfl, _, rfl, _, rfl, _, _, rfl, rfl, _, rfl, _, _, rfl, rfl, ?_⟩
    refine ⟨p, l, d, ps, q, hs, s, t, _, a, rfl, M1, G, hq, ha, S.dis a am, third, fun H2 y F' e' ym yz CS M2 B2 => ?_⟩
    obtain ⟨⟨dx2, hp2⟩, _, hd2, ln2, _⟩ := id M2
    have ol : o < (exchL a y F' hs).length := by
      rw [exchL_len]
      exact o1
    refine ⟨_, rfl, p, C, dx2, _, _, rfl, hp2, T.cl, T.nW, mf_worn _ _ _, _, rfl, d, _, rfl, DPut.k (k := Sum.inl (o : Int)) hd2 (small60 (by rw [kvs_len]; omega)), ?_⟩
    rw [put_old ol]
    have M3 := M2.re (hs' := (exchL a y F' hs).set o a) (by rw [List.length_set]; exact ln2)
    obtain ⟨⟨dx3, hp3⟩, _, hd3, ln3, _⟩ := id M3
    have el : ((exchL a y F' hs).set o a).length = hs.length := by rw [List.length_set, exchL_len]
    have ek : ((hs.length : Nat) : Int) = (((exchL a y F' hs).set o a).length : Int) := by rw [el]
    refine ⟨_, rfl, _, rfl, p, C, dx3, _, _, rfl, hp3, T.cl, T.nW, mf_worn _ _ _, _, rfl, d, _, rfl, DPut.k (k := Sum.inl (hs.length : Int)) hd3 (small60 (by rw [kvs_len]; omega)), ?_⟩
    rw [ek, put_new]
    have el2 : ((exchL a y F' hs).set o a ++ [b]).length = hs.length + 1 := by rw [List.length_append, List.length_singleton, el]
    exact k _ _ (M3.re (by omega)) (G.round hk est S am bm ho rfl ym yz CS) el2 ((But.of S1).trans (B2.trans (But.upd.trans But.upd)))

theorem scPut : FnScope ["self", "k"] ["self", "k"] (defScope sPut) := ⟨rfl, rfl, rfl, by decide +kernel, rfl, by decide +kernel, by decide +kernel⟩
theorem ok_put {f C fD fR : Addr} {fd fdD fdR : FuncData} (F : Fun K "put" "Meeting.put" sPut f fd) (T : TxM K mg C)
    (GD : FnOk P w K mg base CX0 3 fD fdD ["self", "k"] (spDirect C)) (bD : Binds K fdD ["self", "k"] []) (mD : Meth K C "direct" fD)
    (GR : FnOk P w K mg base CX0 4 fR fdR ["self", "k"] (spRound C)) (bR : Binds K fdR ["self", "k"] []) (mR : Meth K C "round_about" fR) :
    FnOk P w K mg base CX0 5 f fd ["self", "k"] (spPut C) := by
  refine F.ok scPut (fun vs H Q E h => ?_) (fun cdv A outer s0 H vs Q E hr h => ?_)
  · obtain ⟨p, l, d, ps, q, L, hs, rfl, _⟩ := h
    rfl
  · obtain ⟨p, l, d, ps, q, L, hs, rfl, M, G, hk, hq, ⟨eq, hL⟩, k⟩ := h
    have hr3 : Room 3 _ := hr.mono (by decide)
    obtain ⟨⟨dx, hp⟩, _⟩ := id M
    refine ⟨_, pss_one (ps_if (pt_not (pt_val (pe_meth (pv 0) T.cl mD GD hr3 bD .nil pass0 (pa_cons (pv 1) pa_nil)))) (pss_one (ps_expr (pe_meth (pv 0) T.cl mR GR hr bR .nil pass0 (pa_cons (pv 1) pa_nil)))) pss_nil), ?_⟩
    refine ⟨_, rfl, p, dx, _, rfl, hp, mf_no _ _ _ (by decide +kernel) (by decide +kernel) (by decide +kernel), _, rfl, p, l, d, ps, q, hs, (pF ps hs.length).1, (pF ps hs.length).2, rfl, M, G, hk, hq, rfl, fun H1 hs1 M1 G1 e1 B1 => ?_, fun H1 S1 dis al => ?_⟩
    · exact ⟨true, rfl, iteF (k _ _ M1 G1 e1 B1)⟩
    · refine ⟨false, rfl, iteT ?_⟩
      have tcs : touch (pF ps hs.length) (pF ps hs.length).1 := .inl rfl
      have ls := free_some (c := cF hs) hk hL tcs
      rw [← eq] at ls
      have ne : (pF ps hs.length).1 ≠ (pF ps hs.length).2 := fun z => by
        have am := List.getElem_mem ls
        have := dis _ am
        rw [← z] at this
        exact this am
      refine ⟨_, rfl, p, dx, _, rfl, S1 _ _ hp, mf_no _ _ _ (by decide +kernel) (by decide +kernel) (by decide +kernel), _, rfl, p, l, d, ps, q, L, hs, (pF ps hs.length).1, (pF ps hs.length).2, rfl, M.same S1, G, hk, hq, rfl, ⟨eq, hL⟩, ⟨ne, dis, al⟩, fun H2 hs2 M2 G2 e2 B2 => ?_⟩
      exact k _ _ M2 G2 e2 ((But.of S1).trans B2)
end
end K32

namespace K32
open PySem L2 Tie
theorem fldK (K : PySem.W.Frag) {X : Cx} {e : Expr} {f : Str} {pos : Pos} {ta : TE} (h : X.K = K) (he : PE X e ta) (hb : attributeBase e f X.env (eval e X.env) = eval e X.env) : PE X (.Attribute e f pos) (tFld K ta f) := h ▸ pe_fld he hb
theorem loadF_le (ps : List Pr) : ∀ n : Nat, loadF ps n ≤ ps.length
  | 0 => Nat.zero_le _
  | n + 1 => by
    have h := loadF_le ps n
    have h2 : cnt ps (n : Int) ≤ ps.length := List.countP_le_length
    show max (loadF ps n) (cnt ps (n : Int)) ≤ ps.length
    omega
theorem cF_all (hs : List Int) : (List.range hs.length).map (cF hs) = hs := by
  refine List.ext_getElem? fun k => ?_
  rw [List.getElem?_map]
  by_cases h : k < hs.length
  · rw [List.getElem?_range h, cF_some h]
    rfl
  · rw [List.getElem?_eq_none (by rw [List.length_range]; omega), List.getElem?_eq_none (by omega)]
    rfl
/-- cross_hues: right hues below half of three times the load -/
def spCross : Sp := fun vs H Q _ => ∃ (x : Addr) (many : Nat) (ps : List Pr), vs = [.ref x] ∧ CrossAt H x many ps ∧ many ≤ 60 ∧ ps.length ≤ 60 ∧ Cross many ps ∧
  ∀ (H' : Hp) (r : Addr) (hs : List Int), Same H H' → H' r = some (.lst (hs.map V.int)) → Good ps (3 * loadF ps many / 2) hs → hs.length = ps.length → Q (.ref r) H'
structure TxC (mg : Str → Option Value) (C fM fL : Addr) : Prop where
  mgM : mg "must_be_crossing" = some (.ref fM)
  mgL : mg "load_at" = some (.ref fL)
  list : mg "list" = none

section
variable {P : Program} {w : World} {K : PySem.W.Frag} {mg : Str → Option Value} {base : Heap}
abbrev nCross : List Str := ["crossing", "meeting", "k"]
theorem scCross : FnScope nCross ["crossing"] (defScope sCross) := ⟨rfl, rfl, rfl, by decide +kernel, rfl, by decide +kernel, by decide +kernel⟩
theorem ok_cross {f C fM fL fI fP : Addr} {fd fdM fdL fdI fdP : FuncData} (F : Fun K "cross_hues" "cross_hues" sCross f fd) (T : TxM K mg C) (TC : TxC mg C fM fL)
    (GM : FnOk P w K mg base CX0 1 fM fdM ["crossing"] spMust) (bM : Binds K fdM ["crossing"] []) (kM : PySem.W.keepIn K (.ref fM) = true)
    (GL : FnOk P w K mg base CX0 1 fL fdL ["crossing"] spLoad) (bL : Binds K fdL ["crossing"] []) (kL : PySem.W.keepIn K (.ref fL) = true)
    (MK : Mk K C fI) (GI : FnOk P w K mg base CX0 1 fI fdI ["self", "pairs", "most"] (spInit C)) (bI : Binds K fdI ["self", "pairs", "most"] [])
    (GP : FnOk P w K mg base CX0 5 fP fdP ["self", "k"] (spPut C)) (bP : Binds K fdP ["self", "k"] []) (mP : Meth K C "put" fP) :
    FnOk P w K mg base CX0 6 f fd ["crossing"] spCross := by
  refine F.ok scCross (fun vs H Q E h => ?_) (fun cdv A outer s0 H vs Q E hr h => ?_)
  · obtain ⟨x, many, ps, rfl, _⟩ := h
    rfl
  · obtain ⟨x, many, ps, rfl, ⟨l0, hx, hP0⟩, hm, hn, hC, k⟩ := h
    have hu := hu_of hr
    have hr1 : Room 1 _ := hr.mono (by decide)
    have hr2 : Room 2 _ := hr.mono (by decide)
    obtain ⟨vs, hl0, hP⟩ := id hP0
    refine ⟨_, pss_cons (ps_expr (pe_call GM hr1 (by rfl) TC.mgM kM bM .nil pass0 (pa_cons (pv 0) pa_nil)))
      (pss_cons (ps_set (i := 1) scCross.nd rfl (.inr rfl) (pe_make MK GI hr2 (by rfl) T.mgC bI .nil pass0 (pa_cons (pe_callTy call_list_of (by rfl) TC.list (by decide +kernel) (pa_cons (pe_ix ix_tup (pv 0) pe_int (fun _ _ => rfl)) pa_nil))
        (pa_cons (pe_op op_fdiv (pe_op op_mul pe_int (pe_call GL hr1 (by rfl) TC.mgL kL bL .nil pass0 (pa_cons (pv 0) pa_nil))) pe_int) pa_nil))))
      (pss_cons (ps_for PassesOwn.never rfl (pi_range1 (by rfl) T.range (pa_cons (pe_callB call_len_seq (by rfl) T.len PySem.boot_len (pa_cons (pe_ix ix_tup (pv 0) pe_int (fun _ _ => rfl)) pa_nil)) pa_nil)) (pg_name (i := 2) scCross.nd rfl (.inl rfl))
        (pss_one (ps_expr (pe_meth (pv 1) T.cl mP GP hr bP .nil pass0 (pa_cons (pv 2) pa_nil)))))
      (pss_one (ps_ret (pe_lc (own := [("k", 2)]) (g := gName 2) (tt := tYes) (by rfl) scCross.nd (pi_range1 (by rfl) T.range (pa_cons (pe_callB call_len_seq (by rfl) T.len PySem.boot_len (pa_cons (pe_ix ix_tup (pv 0) pe_int (fun _ _ => rfl)) pa_nil)) pa_nil))
        (blkOk_by (N := nCross) (sc := defScope sCross) (by decide +kernel)) (fun _ _ _ _ _ => pg_name (i := 2) scCross.nd rfl (Or.inl rfl)) (fun _ _ _ _ _ => pts_nil) (fun _ _ _ _ _ => pe_dget hu (fldK K rfl (pv 1) rfl) (pv 2) (fun _ _ => rfl))))))), ?_⟩
    refine ⟨_, rfl, x, many, ps, rfl, ⟨l0, hx, hP0⟩, hm, hn, hC, ?_⟩
    refine ⟨_, rfl, x, _, _, _, rfl, rfl, SqT.of hx, at_of (j := 1) rfl rfl, l0, _, rfl, .inl (SqL.of hl0), fun l nl => ?_⟩
    have S1 : Same H (upd H l (.lst vs)) := Same.upd nl
    refine ⟨_, rfl, x, many, ps, rfl, ⟨l0, S1 _ _ hx, hP0.same S1⟩, hm, hn, fun H2 S2 => ?_⟩
    have S02 : Same H H2 := S1.trans S2
    have Lq := loadF_le ps many
    refine ⟨_, _, rfl, rfl, .inl ⟨by decide, by decide⟩, _, _, rfl, rfl, ⟨by decide, by decide⟩, fun p dx np ndx nex => ?_⟩
    have eq : (3 * ((loadF ps many : Nat) : Int)) / 2 = ((3 * loadF ps many / 2 : Nat) : Int) := by omega
    generalize eq' : 3 * loadF ps many / 2 = q
    have e5 : ([V.ref p, V.ref l, V.int ((3 * ((loadF ps many : Nat) : Int)) / 2)] : List V) = [V.ref p, V.ref l, V.int (q : Int)] := by rw [eq, eq']
    have S3 : Same H2 (upd (upd H2 dx (.own p)) p (.ins C dx [])) := fun b o e => by
      rw [upd_ne (ne_of_none e np), upd_ne (ne_of_none e ndx)]
      exact e
    have hl3 : PairsAt (upd (upd H2 dx (.own p)) p (.ins C dx [])) l ps := ⟨vs, S3 _ _ (S2 _ _ upd_same), hP.keep (Tk.same (S02.trans S3))⟩
    refine ⟨p, dx, l, q, ps, e5, upd_same, hl3, hn, fun d H4 nd4 M4 B4 => ⟨rfl, ?_⟩⟩
    have S4 : Same H2 H4 := fun b o e => B4 b o (S3 b o e) (ne_of_none e np)
    have nd2 : H2 d = none := S3.free nd4
    have S04 : Same H H4 := S02.trans S4
    have D : Degs ps (loadF ps many) q := ⟨eq'.symm, hC.deg⟩
    have pl : 1 = 1 := rfl
    refine ⟨_, rfl, x, _, _, _, rfl, rfl, SqT.of (S04 _ _ hx), at_of (j := 1) rfl rfl, l0, vs, rfl, .inl (SqL.of (S04 _ _ hl0)), (vs.length : Int), rfl, by omega, by rw [hP.len]; omega, ?_⟩
    refine for_range (lo := 0) (n := ((vs.length : Nat) : Int).toNat) (fun i σ H' => (∃ v, σ = [some (.ref x), some (.ref p), v]) ∧ Same H H' ∧ ∃ hs, MtAt C H' p l d ps q hs ∧ Good ps q hs ∧ hs.length = i) ⟨⟨none, rfl⟩, S04, [], M4, Good.nil, rfl⟩ ?_ ?_
    · rintro i σ H5 hi ⟨⟨v, rfl⟩, S5, hs, M5, G5, el⟩
      rw [Int.zero_add]
      obtain ⟨⟨dx5, hp5⟩, _⟩ := id M5
      have hi' : hs.length < ps.length := by
        rw [← hP.len, el]
        omega
      refine ⟨_, rfl, p, dx5, _, rfl, hp5, mf_no _ _ _ (by decide +kernel) (by decide +kernel) (by decide +kernel), _, rfl, p, l, d, ps, q, loadF ps many, hs, by rw [el]; rfl, M5, G5, hi', by omega, D, fun H6 hs6 M6 G6 e6 B6 => ?_⟩
      refine ⟨⟨_, rfl⟩, fun b o e => B6 b o (S5 b o e) ?_, hs6, M6, G6, by omega⟩
      exact ne_of_none (S02 b o e) nd2
    · rintro σ H5 ⟨⟨v, rfl⟩, S5, hs, M5, G5, el⟩
      obtain ⟨⟨dx5, hp5⟩, _, hd5, _, _⟩ := id M5
      have el' : hs.length = ps.length := by
        rw [el, ← hP.len]
        omega
      refine ⟨_, rfl, x, _, _, _, rfl, rfl, SqT.of (S5 _ _ hx), at_of (j := 1) rfl rfl, l0, vs, rfl, .inl (SqL.of (S5 _ _ hl0)), (vs.length : Int), rfl, by omega, by rw [hP.len]; omega, fun R nR => ?_⟩
      refine lc_range (lo := 0) (n := ((vs.length : Nat) : Int).toNat) (fun i H' => H' = upd H5 R (.lst ((List.range i).map fun (k : Nat) => V.int (cF hs k)))) rfl ?_ ?_
      · rintro i H6 hi rfl
        rw [Int.zero_add]
        have hi' : i < hs.length := by
          rw [el', ← hP.len]
          omega
        refine ⟨rfl, _, rfl, p, C, dx5, _, _, rfl, Same.upd nR _ _ hp5, T.cl, T.nW, mf_worn _ _ _, _, rfl, d, _, rfl, .inl ⟨_, Sum.inl (i : Int), .inl (Same.upd nR _ _ hd5), rfl, (valV_kvs hi').symm⟩, _, upd_same, ?_, ?_⟩
        · rw [List.length_map, List.length_range]
          exact small60 (by omega)
        · rw [upd_upd, List.range_succ, List.map_append]
          rfl
      · rintro H6 rfl
        have er : (List.range ((vs.length : Nat) : Int).toNat).map (fun (k : Nat) => V.int (cF hs k)) = hs.map V.int := by
          have e1 : ((vs.length : Nat) : Int).toNat = hs.length := by
            rw [el', ← hP.len]
            omega
          rw [e1]
          conv => rhs; rw [← cF_all hs]
          rw [List.map_map]
          rfl
        rw [er]
        refine k _ R hs (S5.trans (Same.upd nR)) upd_same ?_ el'
        rw [eq']
        exact G5
end
end K32

namespace K32
open PySem L2 Tie
/-! ### the purse: a list of the cells' list and the turn -/
structure Pu (H : Hp) (p c : Addr) (n : Nat) : Prop where
  ex : ∃ (cs : List Int) (t : Nat), H p = some (.lst [.ref c, .int (t : Int)]) ∧ H c = some (.lst (cs.map V.int)) ∧ 0 < cs.length ∧ cs.length ≤ 63 ∧ t ≤ n
theorem Pu.same {H H' : Hp} {p c : Addr} {n : Nat} (h : Pu H p c n) (s : Same H H') : Pu H' p c n := let ⟨cs, t, a, b, r⟩ := h.ex; ⟨cs, t, s _ _ a, s _ _ b, r⟩
theorem Pu.le {H : Hp} {p c : Addr} {n m : Nat} (h : Pu H p c n) (hm : n ≤ m) : Pu H p c m := let ⟨cs, t, a, b, r1, r2, r3⟩ := h.ex; ⟨cs, t, a, b, r1, r2, Nat.le_trans r3 hm⟩
theorem refs_ne {c : Addr} {t : Int} {cs : List Int} : HO.lst [.ref c, .int t] ≠ HO.lst (cs.map V.int) := by
  intro z
  cases cs with
  | nil => cases z
  | cons x r =>
    injection z with z
    rw [List.map_cons] at z
    injection z with z _
    cases z
theorem Pu.ne {H : Hp} {p c : Addr} {n : Nat} (h : Pu H p c n) : p ≠ c := let ⟨cs, t, a, b, _⟩ := h.ex; ne_of a b refs_ne
/-- all but the purse and its cells is kept -/
def But2 (p c : Addr) (H H' : Hp) : Prop := ∀ b o, H b = some o → b ≠ p → b ≠ c → H' b = some o
theorem But2.of {p c : Addr} {H H' : Hp} (s : Same H H') : But2 p c H H' := fun b o e _ _ => s b o e
theorem But2.trans {p c : Addr} {H H1 H2 : Hp} (a : But2 p c H H1) (b : But2 p c H1 H2) : But2 p c H H2 := fun x o e n1 n2 => b x o (a x o e n1 n2) n1 n2
theorem But2.refl {p c : Addr} {H : Hp} : But2 p c H H := fun _ _ e _ _ => e
theorem But2.tk {p c : Addr} {H H' : Hp} {n : Nat} (a : But2 p c H H') (P : Pu H p c n) : Tk H H' := fun b xs e => by
  obtain ⟨cs, t, h1, h2, _⟩ := P.ex
  exact a b _ e (ne_of e h1 (by intro z; cases z)) (ne_of e h2 (by intro z; cases z))
theorem ixN_nat {n j : Nat} (h : j < n) : ixN n (j : Int) = some j := by
  unfold ixN
  rw [if_pos (by omega), if_pos (by omega)]
  simp
theorem mulMod {x m y : Int} (h : 0 < m) (h2 : m ≤ 2 ^ 62) : CMul (x % m) y := by
  have h3 := Int.emod_nonneg x (by omega : m ≠ 0)
  have h4 := Int.emod_lt_of_pos x h
  refine .inl ⟨?_, ?_⟩ <;> omega

def spPurse (K : PySem.W.Frag) : Sp := fun vs H Q _ => ∃ (a : Addr) (ns : List Int), vs = [.ref a] ∧ SqL K H a (ns.map V.int) ∧ ns.length ≤ 63 ∧ ∀ (H' : Hp) (p c : Addr), Same H H' → Pu H' p c 0 → Q (.ref p) H'
def spDraw : Sp := fun vs H Q _ => ∃ (p c : Addr) (m n : Nat), vs = [.ref p, .int (n : Int)] ∧ Pu H p c m ∧ m ≤ 1000000 ∧ 0 < n ∧ n ≤ 1000 ∧
  ∀ (H' : Hp) (r : Nat), Pu H' p c (m + 1) → But2 p c H H' → r < n → Q (.int (r : Int)) H'

section
variable {P : Program} {w : World} {K : PySem.W.Frag} {mg : Str → Option Value} {base : Heap}
theorem scPurse : FnScope ["_law_script", "_law_cells"] ["_law_script"] (defScope sPurse) := ⟨rfl, rfl, rfl, by decide +kernel, rfl, by decide +kernel, by decide +kernel⟩
theorem dpInts {H : Hp} : ∀ ns : List Int, DpAll K H (ns.map V.int) (ns.map PyData.int)
  | [] => .nil
  | n :: ns => .cons (.int n) (dpInts ns)
theorem eqv_nil (ns : List Int) : PyData.eqv (.list (ns.map PyData.int)) (.list []) = decide (ns = []) := by
  cases ns with
  | nil => simp [PyData.eqv, PyData.eqvAll]
  | cons x r => simp [PyData.eqv, PyData.eqvAll]
theorem ok_purse {f : Addr} {fd : FuncData} (F : Fun K "_law_purse" "_law_purse" sPurse f fd) : FnOk P w K mg base CX0 1 f fd ["_law_script"] (spPurse K) := by
  refine F.ok scPurse (fun vs H Q E h => ?_) (fun cdv A outer s H vs Q E hr h => ?_)
  · obtain ⟨a, ns, rfl, _⟩ := h
    rfl
  · obtain ⟨a, ns, rfl, hS, hn, k⟩ := h
    refine ⟨_, pss_cons (ps_set (i := 1) scPurse.nd rfl (.inl rfl) (pe_slice sl_list (pv 0) po_none (po_some pe_int)))
      (pss_cons (ps_if (pt_cmpR (op_eqD hr.units) (pv 1) (pe_lst pa_nil) (nomark _)) (pss_one (ps_set (i := 1) scPurse.nd rfl (.inl rfl) (pe_lst (pa_cons pe_int pa_nil)))) pss_nil)
      (pss_one (ps_ret (pe_lst (pa_cons (pv 1) (pa_cons pe_int pa_nil)))))), ?_⟩
    refine ⟨_, rfl, _, rfl, a, _, rfl, hS, fun c nc => ?_⟩
    have ec : cutV (ns.map V.int) none (some 63) = (ns.take 63).map V.int := by
      show ((ns.map V.int).drop 0).take (min 63 (ns.map V.int).length - 0) = _
      rw [List.drop_zero, Nat.sub_zero, List.map_take, List.length_map]
      rw [show min 63 ns.length = ns.length by omega]
      rw [List.take_of_length_le (by rw [List.length_map]; exact Nat.le_refl _), List.take_of_length_le (by rw [List.length_map]; exact hn)]
    rw [ec]
    have el : (ns.take 63).length ≤ 63 := by
      rw [List.length_take]
      omega
    generalize ns.take 63 = cs at el
    refine ⟨_, rfl, Nat.zero_le _, fun e0 ne0 => ?_⟩
    have S1 : Same H (upd (upd H c (.lst (cs.map V.int))) e0 (.lst [])) := (Same.upd nc).trans (Same.upd ne0)
    have hc1 : (upd (upd H c (.lst (cs.map V.int))) e0 (.lst [])) c = some (.lst (cs.map V.int)) := Same.upd ne0 _ _ upd_same
    refine ⟨.list (cs.map PyData.int), .list [], .lst (SqL.of hc1) (dpInts cs), .lst (SqL.of upd_same) .nil, PySem.W.shaped_ints cs, PySem.W.shaped_ints [], _, rfl, ?_⟩
    rw [eqv_nil]
    refine if2 (fun e => ?_) (fun e => ?_)
    · refine ⟨by decide, fun c2 nc2 => ?_⟩
      refine ⟨_, rfl, (by show 2 ≤ sizeLine; decide), fun p np => ?_⟩
      exact k _ p c2 ((S1.trans (Same.upd nc2)).trans (Same.upd np)) ⟨[0], 0, upd_same, Same.upd np _ _ upd_same, by decide, by decide, Nat.le_refl _⟩
    · refine ⟨_, rfl, (by show 2 ≤ sizeLine; decide), fun p np => ?_⟩
      have h0 : 0 < cs.length := by
        cases cs with
        | nil => exact absurd rfl e
        | cons x r => exact Nat.succ_pos _
      exact k _ p c (S1.trans (Same.upd np)) ⟨cs, 0, upd_same, Same.upd np _ _ hc1, h0, el, Nat.le_refl _⟩
theorem scDraw : FnScope ["_law_purse_here", "_law_out_of", "_law_cells", "_law_turn", "_law_at", "_law_cell", "_law_number"] ["_law_purse_here", "_law_out_of"] (defScope sDraw) := ⟨rfl, rfl, rfl, by decide +kernel, rfl, by decide +kernel, by decide +kernel⟩
theorem ok_draw {f : Addr} {fd : FuncData} (F : Fun K "_law_draw" "_law_draw" sDraw f fd) (len : mg "len" = none) : FnOk P w K mg base CX0 1 f fd ["_law_purse_here", "_law_out_of"] spDraw := by
  refine F.ok scDraw (fun vs H Q E h => ?_) (fun cdv A outer s H vs Q E hr h => ?_)
  · obtain ⟨p, c, m, n, rfl, _⟩ := h
    rfl
  · obtain ⟨p, c, m, n, rfl, PU, hm, hn0, hn, k⟩ := h
    refine ⟨_, pss_cons (ps_asg (pv 0) (pg_unl (by rfl) (pgs_cons (pg_name (i := 2) scDraw.nd rfl (.inl rfl)) (pgs_cons (pg_name (i := 3) scDraw.nd rfl (.inl rfl)) pgs_nil))))
      (pss_cons (ps_set (i := 4) scDraw.nd rfl (.inl rfl) (pe_op op_mod (pv 3) (pe_callB call_len_seq (by rfl) len PySem.boot_len (pa_cons (pv 2) pa_nil))))
      (pss_cons (ps_set (i := 5) scDraw.nd rfl (.inl rfl) (pe_ix ix_list (pv 2) (pv 4) (fun _ _ => rfl)))
      (pss_cons (ps_asg (pe_op op_add (pv 3) pe_int) (pg_sub (pv 0) pe_int set_list))
      (pss_cons (ps_if (pt_cmpR op_ge (pv 5) (pe_op op_pow pe_int pe_int) (nomark _))
        (pss_cons (ps_asg (pe_op op_fdiv (pv 5) (pv 1)) (pg_sub (pv 2) (pv 4) set_list)) (pss_one (ps_ret (pe_op op_mod (pv 5) (pv 1))))) pss_nil)
      (pss_cons (ps_set (i := 6) scDraw.nd rfl (.inl rfl) (pe_op op_mod (pe_op op_add (pe_op op_add (pe_op op_mul (pe_op op_mod (pv 5) pe_int) pe_int) (pe_op op_mul (pe_op op_mul (pv 3) (pv 3)) pe_int)) pe_int) pe_int))
      (pss_cons (ps_set (i := 6) scDraw.nd rfl (.inl rfl) (pe_op op_mod (pe_op op_mul (pv 6) (pv 6)) pe_int))
      (pss_one (ps_ret (pe_op op_mod (pe_op op_mod (pe_op op_mul (pv 6) (pv 6)) pe_int) (pv 1)))))))))), ?_⟩
    have pc := PU.ne
    obtain ⟨cs, t, h1, h2, l0, l1, ht⟩ := PU.ex
    have tb : (t : Int) ≤ 1000000 := by omega
    refine ⟨_, rfl, p, _, rfl, SqL.of h1, rfl, _, _, rfl, _, _, rfl, rfl, ?_⟩
    refine ⟨_, rfl, _, rfl, c, _, rfl, .inl (SqL.of h2), _, _, rfl, rfl, (by rw [List.length_map]; omega), ?_⟩
    have ea : (t : Int) % ((cs.map V.int).length : Int) = ((t % cs.length : Nat) : Int) := by
      rw [List.length_map]
      omega
    have aj : t % cs.length < cs.length := Nat.mod_lt _ l0
    obtain ⟨cell, hcell⟩ : ∃ x, cs[t % cs.length]? = some x := ⟨_, List.getElem?_eq_getElem aj⟩
    have hcv : (cs.map V.int)[t % cs.length]? = some (V.int cell) := by rw [List.getElem?_map, hcell]; rfl
    refine ⟨_, rfl, _, rfl, c, _, _, _, rfl, rfl, SqL.of h2, at_of ea hcv, ?_⟩
    refine ⟨_, rfl, _, _, rfl, rfl, _, rfl, p, _, _, 1, rfl, rfl, h1, rfl, ?_⟩
    have B1 : But2 p c H (upd H p (.lst ([V.ref c, V.int (t : Int)].set 1 (V.int ((t : Int) + 1))))) := fun b o e n1 n2 => by
      rw [upd_ne n1]
      exact e
    have g1 : (upd H p (.lst ([V.ref c, V.int (t : Int)].set 1 (V.int ((t : Int) + 1))))) c = some (.lst (cs.map V.int)) := by rw [upd_ne pc.symm]; exact h2
    have g0 : (upd H p (.lst ([V.ref c, V.int (t : Int)].set 1 (V.int ((t : Int) + 1))))) p = some (.lst [.ref c, .int ((t + 1 : Nat) : Int)]) := by
      rw [upd_same]
      rfl
    generalize upd H p (.lst ([V.ref c, V.int (t : Int)].set 1 (V.int ((t : Int) + 1)))) = H1 at B1 g1 g0
    refine ⟨_, rfl, _, _, rfl, rfl, ⟨by decide, by decide, by decide⟩, _, _, rfl, rfl, _, rfl, if2 (fun _ => ?_) (fun _ => ?_)⟩
    · refine ⟨_, rfl, _, rfl, _, _, rfl, rfl, ⟨by omega, by omega⟩, _, rfl, _, rfl, c, _, _, t % cs.length, rfl, rfl, g1, ?_, ?_⟩
      · rw [ea, List.length_map]
        exact ixN_nat aj
      · refine ⟨_, rfl, _, rfl, _, _, rfl, rfl, (by omega), ?_⟩
        have e1 := Int.emod_nonneg cell (by omega : (n : Int) ≠ 0)
        have e2 := Int.emod_lt_of_pos cell (by omega : 0 < (n : Int))
        have e3 : cell % (n : Int) = (((cell % (n : Int)).toNat : Nat) : Int) := by omega
        show Q (V.int (cell % (n : Int))) _
        rw [e3]
        refine k _ _ ⟨cs.set (t % cs.length) (cell / (n : Int)), t + 1, by rw [upd_ne pc]; exact g0, ?_, by rw [List.length_set]; exact l0, by rw [List.length_set]; exact l1, by omega⟩ (fun b o e n1 n2 => ?_) (by omega)
        · rw [upd_same, List.map_set]
        · rw [upd_ne n2]
          exact B1 b o e n1 n2
    · have PU1 : Pu H1 p c (m + 1) := ⟨cs, t + 1, g0, g1, l0, l1, by omega⟩
      refine ⟨_, rfl, _, _, rfl, rfl, (by show (0 : Int) < 2147483647; decide), _, _, rfl, rfl, .inr ⟨by decide, by decide⟩, _, rfl, _, rfl, _, _, rfl, rfl, .inl ⟨by omega, by omega⟩, _, _, rfl, rfl, .inr ⟨by decide, by decide⟩, _, _, rfl, rfl, _, _, rfl, rfl, _, _, rfl, rfl, (by show (0 : Int) < 2147483647; decide), ?_⟩
      refine ⟨_, rfl, _, rfl, _, _, rfl, rfl, mulMod (by decide) (by decide), _, _, rfl, rfl, (by show (0 : Int) < 2147483629; decide), ?_⟩
      refine ⟨_, rfl, _, rfl, _, _, rfl, rfl, mulMod (by decide) (by decide), _, _, rfl, rfl, (by show (0 : Int) < 2147483587; decide), _, rfl, _, _, rfl, rfl, (by omega), ?_⟩
      have fin : ∀ z : Int, Q (V.int (z % (n : Int))) H1 := fun z => by
        have e1 := Int.emod_nonneg z (by omega : (n : Int) ≠ 0)
        have e2 := Int.emod_lt_of_pos z (by omega : 0 < (n : Int))
        have e3 : z % (n : Int) = (((z % (n : Int)).toNat : Nat) : Int) := by omega
        rw [e3]
        exact k _ _ PU1 B1 (by omega)
      exact fin _
end
end K32

namespace K32
open PySem L2 Tie
/-! ### len(set(xs)) of a list of ints -/
theorem first_ddup (ns : List Int) : PyProof.Rows.firstMet (fun i => ns.getD i 0) ns.length = ddup ns := by
  show ((List.range ns.length).map (cF ns)).foldl stepD [] = ns.foldl stepD []
  rw [range_map]
def tDd (K : PySem.W.Frag) (ta : TE) : TE := fun σ H Q => ta σ H fun x H1 => ∃ (l : Addr) (ns : List Int), x = .ref l ∧ SqL K H1 l (ns.map V.int) ∧ ns.length ≤ 100 ∧ Q (.int ((ddup ns).length : Nat)) H1
theorem pe_unlike {X : Cx} {a : Expr} {ta : TE} {p p2 q pos : Pos} (gl : Gl X "len") (ml : X.mg "len" = none) (gs : Gl X "set") (ms : X.mg "set" = none) (ha : PE X a ta) (cm : X.calm = true := by rfl)
    (na : starEach [a] X.env = (false, eval a X.env) :: starEach [] X.env := by rfl) : PE X (.Call (.Name "len" p) [.Call (.Name "set" p2) [a] [] q] [] pos) (tDd X.K ta) := by
  refine ⟨fun pins st σ H Q J hw => PyProof.Rows.Call_ (ld_blt J gl ml PySem.boot_len ?_)⟩
  refine PyProof.Rows.callWith_builtin1 (PyProof.Rows.args_cons (PyProof.Rows.Call_ (ld_blt J gs ms PyProof.Rows.boot_set ?_)) rfl) rfl rfl
  refine PyProof.Rows.callWith_type1 (PyProof.Rows.args_cons (thn (ha.run pins st σ H _ J hw) fun v s1 ⟨x, H1, J1, r1, q1⟩ => PyProof.Rows.args_nil ?_) na) na rfl
  obtain ⟨l, ns, rfl, sq, sm, goal⟩ := q1
  cases r1
  obtain ⟨its, r, pl, hz⟩ := J1.list sq
  have hlen : its.toArray.size = ns.length := by rw [List.size_toArray, ← r.length, List.length_map]
  refine PySem.call_set_list (J1.ok.hd cm) pl.isList (by simpa using r.ints) (by rw [hlen]; unfold scanBound; omega) fun h' tk hS hk => PyProof.Rows.args_nil ?_
  rw [hlen, first_ddup] at hS
  obtain ⟨o, es, ep, t, ho, hex, hd, _, _, _, hf, hn⟩ := hS
  have J2 : Inv X pins σ H1 { s1 with heap := h', toks := tk } := J1.kept fun b u e => hk b u (Heap.lt_size e) e
  have dl := ddup_le ns
  exact PySem.call_len_set ho hex hd hf (by rw [hn] <;> omega) ⟨.int ((ddup ns).length : Nat), H1, J2.tok _, ⟨_, by rw [hn]⟩, goal⟩

theorem PairsAt.vs_ne {H : Hp} {l p c : Addr} {n : Nat} {ps : List Pr} (h : PairsAt H l ps) (P : Pu H p c n) : l ≠ p ∧ l ≠ c := by
  obtain ⟨vs, h1, h2⟩ := h
  obtain ⟨cs, t, g1, g2, l0, _⟩ := P.ex
  refine ⟨ne_of h1 g1 fun z => ?_, ne_of h1 g2 fun z => ?_⟩
  · injection z with z
    rw [z] at h2
    obtain ⟨x, _, a, e, _⟩ := h2.get (k := 1) (v := .int t) rfl
    cases e
  · injection z with z
    rw [z] at h2
    obtain ⟨x, _, a, e, _⟩ := h2.get (k := 0) (v := .int cs[0]) (by rw [List.getElem?_map, List.getElem?_eq_getElem l0]; rfl)
    cases e
theorem PairsAt.but2 {H H' : Hp} {l p c : Addr} {n : Nat} {ps : List Pr} (h : PairsAt H l ps) (P : Pu H p c n) (B : But2 p c H H') : PairsAt H' l ps := by
  obtain ⟨n1, n2⟩ := h.vs_ne P
  exact h.keep (B.tk P) fun o e => B _ _ e n1 n2
theorem CrossAt.but2 {H H' : Hp} {x p c : Addr} {n : Nat} {many : Int} {ps : List Pr} (h : CrossAt H x many ps) (P : Pu H p c n) (B : But2 p c H H') : CrossAt H' x many ps := by
  obtain ⟨l, h1, h2⟩ := h
  exact ⟨l, B.tk P _ _ h1, h2.but2 P B⟩

def spTurned : Sp := fun vs H Q _ => ∃ (l : Addr) (m : Nat) (b : Int) (ps : List Pr), vs = [.int (m : Int), .int b, .ref l] ∧ PairsAt H l ps ∧ 0 < m ∧ ps.length ≤ 60 ∧
  ∀ (H' : Hp) (r : Addr), Same H H' → CrossAt H' r m (ps.map (turnP (m : Int) b)) → Q (.ref r) H'
def spStir : Sp := fun vs H Q _ => ∃ (p c l : Addr) (m : Nat) (ps : List Pr), vs = [.ref p, .ref l] ∧ Pu H p c m ∧ PairsAt H l ps ∧ ps.length ≤ 60 ∧ m ≤ 900000 ∧
  ∀ (H' : Hp) (r : Addr) (qs : List Pr), But2 p c H H' → Pu H' p c (m + 60) → PairsAt H' r qs → qs.length = ps.length → (∀ x, x ∈ qs → x ∈ ps) → Q (.ref r) H'
def spLLoad : Sp := spLoad
def spMeet : Sp := fun vs H Q _ => ∃ (v1 v2 : V) (x y : Pr), vs = [v1, v2] ∧ PairV H v1 x ∧ PairV H v2 y ∧ Q (.bl (decide (touch y x.1 ∨ touch y x.2))) H

section
variable {P : Program} {w : World} {K : PySem.W.Frag} {mg : Str → Option Value} {base : Heap}
theorem scTurned : FnScope ["_law_many", "_law_by", "_law_pairs", "_law_found", "_law_one", "_law_other"] ["_law_many", "_law_by", "_law_pairs"] (defScope sTurned) := ⟨rfl, rfl, rfl, by decide +kernel, rfl, by decide +kernel, by decide +kernel⟩
theorem ok_turned {f : Addr} {fd : FuncData} (F : Fun K "_law_turned" "_law_turned" sTurned f fd) (mmin : mg "min" = none) (mmax : mg "max" = none) : FnOk P w K mg base CX0 1 f fd ["_law_many", "_law_by", "_law_pairs"] spTurned := by
  refine F.ok scTurned (fun vs H Q E h => ?_) (fun cdv A outer s H vs Q E hr h => ?_)
  · obtain ⟨l, m, b, ps, rfl, _⟩ := h
    rfl
  · obtain ⟨l, m, b, ps, rfl, ⟨vs, hl, hP⟩, hm, hn, k⟩ := h
    refine ⟨_, pss_cons (ps_set (i := 3) scTurned.nd rfl (.inl rfl) (pe_lst pa_nil))
      (pss_cons (ps_for PassesOwn.never rfl (pi_list (pv 2)) (pg_tup (by rfl) (pgs_cons (pg_name (i := 4) scTurned.nd rfl (.inl rfl)) (pgs_cons (pg_name (i := 5) scTurned.nd rfl (.inl rfl)) pgs_nil)))
        (pss_cons (ps_set (i := 4) scTurned.nd rfl (.inl rfl) (pe_op op_mod (pe_op op_add (pv 4) (pv 1)) (pv 0)))
        (pss_cons (ps_set (i := 5) scTurned.nd rfl (.inl rfl) (pe_op op_mod (pe_op op_add (pv 5) (pv 1)) (pv 0)))
        (pss_one (ps_expr (pe_bm PySem.F.plainAttrs_list PySem.F.slot_list_append PySem.F.type_list_append mt_append (pv 3) (pa_cons (pe_tup
          (pa_cons (pe_callB (call_min2 rfl) (by rfl) mmin (by decide +kernel) (pa_cons (pv 4) (pa_cons (pv 5) pa_nil))) (pa_cons (pe_callB (call_max2 rfl) (by rfl) mmax (by decide +kernel) (pa_cons (pv 4) (pa_cons (pv 5) pa_nil))) pa_nil))) pa_nil)))))))
      (pss_one (ps_ret (pe_tup (pa_cons (pv 0) (pa_cons (pv 3) pa_nil)))))), ?_⟩
    refine ⟨Nat.zero_le _, fun r nr => ?_⟩
    have hlr : l ≠ r := ne_of_none hl nr
    refine ⟨_, rfl, l, rfl, ⟨_, SqL.of (Same.upd nr _ _ hl)⟩, for_list (K := K) (a := l) (xs := vs) (fun i σ H' => (∃ u v, σ = [some (.int (m : Int)), some (.int b), some (.ref l), some (.ref r), u, v]) ∧ Same H H' ∧ PairsAt H' r ((ps.take i).map (turnP (m : Int) b)))
      ⟨⟨none, none, rfl⟩, Same.upd nr, [], upd_same, PairsV.nil⟩ (fun i σ H' _ ⟨_, S1, _⟩ => SqL.of (S1 _ _ hl)) ?_ ?_⟩
    · rintro i y σ H1 hi ⟨⟨u, v, rfl⟩, S1, ws, hw, pw⟩
      obtain ⟨x, e1, a, rfl, e2⟩ := hP.get hi
      have et : ps.take (i + 1) = ps.take i ++ [x] := by
        rw [List.take_add_one, e1]
        rfl
      have lw : ws.length ≤ 60 := by
        rw [pw.len, List.length_map, List.length_take]
        omega
      refine ⟨a, _, rfl, SqT.of (S1 _ _ e2), rfl, _, _, rfl, _, _, rfl, rfl, ?_⟩
      refine ⟨_, rfl, _, rfl, _, _, rfl, rfl, _, rfl, _, _, rfl, rfl, by omega, ?_⟩
      refine ⟨_, rfl, _, rfl, _, _, rfl, rfl, _, rfl, _, _, rfl, rfl, by omega, ?_⟩
      refine ⟨_, rfl, .inl ⟨rfl, _, SqL.of hw⟩, _, rfl, _, rfl, _, _, rfl, _, rfl, _, rfl, _, _, rfl, (by show 2 ≤ sizeLine; decide), fun t nt => ?_⟩
      refine ⟨r, ws, _, rfl, rfl, Same.upd nt _ _ hw, small60 (by omega), ?_⟩
      have ntr : t ≠ r := (ne_of_none hw nt).symm
      have S2 : Same H (upd (upd H1 t (.tup [.int (turnP (m : Int) b x).1, .int (turnP (m : Int) b x).2])) r (.lst (ws ++ [V.ref t]))) := fun d o e => by
        rw [upd_ne (ne_of_none e nr)]
        exact Same.upd nt _ _ (S1 _ _ e)
      have T2 : Tk H1 (upd (upd H1 t (.tup [.int (turnP (m : Int) b x).1, .int (turnP (m : Int) b x).2])) r (.lst (ws ++ [V.ref t]))) := fun d xs e => by
        rw [upd_ne (ne_of e hw (by intro z; cases z))]
        exact Same.upd nt _ _ e
      refine ⟨⟨_, _, rfl⟩, S2, _, upd_same, ?_⟩
      rw [et, List.map_append]
      refine (pw.keep T2).append (PairsV.one ⟨t, rfl, ?_⟩)
      rw [upd_ne ntr, upd_same]
    · rintro σ H1 ⟨⟨u, v, rfl⟩, S1, PA⟩
      rw [hP.len, List.take_length] at PA
      refine ⟨_, rfl, _, rfl, (by show 2 ≤ sizeLine; decide), fun t nt => ?_⟩
      exact k _ t (S1.trans (Same.upd nt)) ⟨r, upd_same, PA.same (Same.upd nt)⟩

theorem scStir : FnScope ["_law_purse_here", "_law_pairs", "_law_found", "_law_pair"] ["_law_purse_here", "_law_pairs"] (defScope sStir) := ⟨rfl, rfl, rfl, by decide +kernel, rfl, by decide +kernel, by decide +kernel⟩
theorem ok_stir {f fD : Addr} {fd fdD : FuncData} (F : Fun K "_law_stirred" "_law_stirred" sStir f fd) (len : mg "len" = none) (mgD : mg "_law_draw" = some (.ref fD)) (kD : PySem.W.keepIn K (.ref fD) = true)
    (GD : FnOk P w K mg base CX0 1 fD fdD ["_law_purse_here", "_law_out_of"] spDraw) (bD : Binds K fdD ["_law_purse_here", "_law_out_of"] []) : FnOk P w K mg base CX0 2 f fd ["_law_purse_here", "_law_pairs"] spStir := by
  refine F.ok scStir (fun vs H Q E h => ?_) (fun cdv A outer s H vs Q E hr h => ?_)
  · obtain ⟨p, c, l, m, ps, rfl, _⟩ := h
    rfl
  · obtain ⟨p, c, l, m, ps, rfl, PU, PA, hn, hm, k⟩ := h
    obtain ⟨nlp, nlc⟩ := PA.vs_ne PU
    obtain ⟨vs, hl, hP⟩ := id PA
    refine ⟨_, pss_cons (ps_set (i := 2) scStir.nd rfl (.inl rfl) (pe_lst pa_nil))
      (pss_cons (ps_for PassesOwn.never rfl (pi_list (pv 1)) (pg_name (i := 3) scStir.nd rfl (.inl rfl))
        (pss_one (ps_expr (pe_bm PySem.F.plainAttrs_list PySem.F.slot_list_insert PySem.F.type_list_insert mt_insert (pv 2)
          (pa_cons (pe_call GD hr (by rfl) mgD kD bD .nil pass0 (pa_cons (pv 0) (pa_cons (pe_op op_add (pe_callB call_len_seq (by rfl) len PySem.boot_len (pa_cons (pv 2) pa_nil)) pe_int) pa_nil))) (pa_cons (pv 3) pa_nil))))))
      (pss_one (ps_ret (pv 2)))), ?_⟩
    refine ⟨Nat.zero_le _, fun r nr => ?_⟩
    have S0 : Same H (upd H r (.lst [])) := Same.upd nr
    refine ⟨_, rfl, l, rfl, ⟨_, SqL.of (S0 _ _ hl)⟩, for_list (K := K) (a := l) (xs := vs) (fun i σ H' => (∃ u, σ = [some (.ref p), some (.ref l), some (.ref r), u]) ∧ i ≤ 60 ∧ But2 p c H H' ∧ Pu H' p c (m + i) ∧ ∃ qs, PairsAt H' r qs ∧ qs.length = i ∧ ∀ x, x ∈ qs → x ∈ ps)
      ⟨⟨none, rfl⟩, Nat.zero_le _, But2.of S0, PU.same S0, [], ⟨[], upd_same, PairsV.nil⟩, rfl, fun x hx => absurd hx List.not_mem_nil⟩ (fun i σ H' _ ⟨_, _, B, _⟩ => SqL.of (B _ _ hl nlp nlc)) ?_ ?_⟩
    · rintro i y σ H1 hi ⟨⟨u, rfl⟩, i60, B1, P1, qs, PQ, el, sub⟩
      obtain ⟨x, e1, a, rfl, e2⟩ := hP.get hi
      have il : i < ps.length := (List.getElem?_eq_some_iff.mp e1).1
      obtain ⟨nrp, nrc⟩ := PQ.vs_ne P1
      obtain ⟨ws, hw, pw⟩ := id PQ
      have lw : ws.length = i := by rw [pw.len, el]
      refine ⟨_, rfl, .inl ⟨rfl, _, SqL.of hw⟩, _, rfl, _, rfl, r, ws, rfl, .inl (SqL.of hw), _, _, rfl, rfl, ?_⟩
      have en : ((ws.length : Nat) : Int) + 1 = ((i + 1 : Nat) : Int) := by omega
      have ev : ([V.ref p, V.int (((ws.length : Nat) : Int) + 1)] : List V) = [V.ref p, V.int ((i + 1 : Nat) : Int)] := by rw [en]
      refine ⟨p, c, m + i, i + 1, ev, P1, by omega, by omega, by omega, fun H2 z P2 B2 hz => ?_⟩
      have hw2 := B2 _ _ hw nrp nrc
      refine ⟨_, rfl, r, ws, _, _, rfl, rfl, hw2, small60 (by omega), by omega, by omega, ?_⟩
      have T2 : Tk H2 (upd H2 r (.lst (ws.take (z : Int).toNat ++ [V.ref a] ++ ws.drop (z : Int).toNat))) := fun d xs e => by
        rw [upd_ne (ne_of e hw2 (by intro z; cases z))]
        exact e
      have T12 : Tk H1 H2 := B2.tk P1
      have ha1 : H1 a = some (.tup [.int x.1, .int x.2]) := B1.tk PU _ _ e2
      refine ⟨⟨_, rfl⟩, by omega, fun d o e n1 n2 => ?_, ?_, qs.take (z : Int).toNat ++ [x] ++ qs.drop (z : Int).toNat, ⟨_, upd_same, ?_⟩, ?_, ?_⟩
      · rw [upd_ne (ne_of_none e nr)]
        exact B2 _ _ (B1 _ _ e n1 n2) n1 n2
      · obtain ⟨cs, t, g1, g2, r3⟩ := P2.ex
        exact ⟨cs, t, by rw [upd_ne nrp.symm]; exact g1, by rw [upd_ne nrc.symm]; exact g2, r3⟩
      · have pw2 := pw.keep (T12.trans T2)
        exact ((pw2.take _).append (PairsV.one ⟨a, rfl, T2 _ _ (T12 _ _ ha1)⟩)).append (pw2.drop _)
      · rw [List.length_append, List.length_append, List.length_take, List.length_drop, List.length_singleton, el]
        omega
      · intro v hv
        rcases List.mem_append.mp hv with q | q
        · rcases List.mem_append.mp q with q | q
          · exact sub v (List.mem_of_mem_take q)
          · rw [List.mem_singleton.mp q]
            exact List.mem_of_getElem? e1
        · exact sub v (List.mem_of_mem_drop q)
    · rintro σ H1 ⟨⟨u, rfl⟩, i60, B1, P1, qs, PQ, el, sub⟩
      exact ⟨_, rfl, k _ r qs B1 (P1.le (by omega)) PQ (by rw [el, hP.len]) sub⟩
end
end K32

namespace K32
open PySem L2 Tie
theorem inV_or (x y : Pr) : (inV (.int x.1) [.int y.1, .int y.2] || inV (.int x.2) [.int y.1, .int y.2]) = decide (touch y x.1 ∨ touch y x.2) := by
  have e : y = (y.1, y.2) := rfl
  rw [inV_pair, inV_pair]
  by_cases h1 : touch (y.1, y.2) x.1 <;> by_cases h2 : touch (y.1, y.2) x.2 <;> simp [h1, h2]
/-- hues of a crossing's pairs, right -/
def spRight : Sp := fun vs H Q _ => ∃ (x r : Addr) (many : Int) (ps : List Pr) (hs : List Int), vs = [.ref x, .ref r] ∧ CrossAt H x many ps ∧ H r = some (.lst (hs.map V.int)) ∧ hs.length = ps.length ∧ ps.length ≤ 60 ∧
  (∀ k, k < hs.length → 0 ≤ cF hs k) ∧ Proper (pF ps) (cF hs) hs.length ∧ Q (.bl true) H
def spGood : Sp := fun vs H Q _ => ∃ (x : Addr) (many : Nat) (ps : List Pr), vs = [.ref x] ∧ CrossAt H x many ps ∧ many ≤ 60 ∧ 0 < ps.length ∧ ps.length ≤ 60 ∧ Cross many ps ∧
  ∀ (H' : Hp) (hs : List Int), Same H H' → hs.length = ps.length → Proper (pF ps) (cF hs) hs.length → Q (.int ((ddup hs).length : Nat)) H'

section
variable {P : Program} {w : World} {K : PySem.W.Frag} {mg : Str → Option Value} {base : Heap}
abbrev nLLoad : List Str := ["_law_crossing", "_law_found", "_law_tie", "_law_pair"]
theorem scLLoad : FnScope nLLoad ["_law_crossing"] (defScope sLLoad) := ⟨rfl, rfl, rfl, by decide +kernel, rfl, by decide +kernel, by decide +kernel⟩
theorem ok_lload {f : Addr} {fd : FuncData} (F : Fun K "_law_load" "_law_load" sLLoad f fd) (T : TxA K mg) : FnOk P w K mg base CX0 1 f fd ["_law_crossing"] spLoad := by
  refine F.ok scLLoad (fun vs H Q E h => ?_) (fun cdv A outer s H vs Q E hr h => ?_)
  · obtain ⟨x, many, ps, rfl, _⟩ := h
    rfl
  · obtain ⟨x, many, ps, rfl, ⟨l, hx, hP⟩, hm, hn, k⟩ := h
    obtain ⟨vs, hl, pv_⟩ := id hP
    refine ⟨_, pss_cons (ps_set (i := 1) scLLoad.nd rfl (.inl rfl) pe_int)
      (pss_cons (ps_for PassesOwn.never rfl (pi_range1 (by rfl) T.range (pa_cons (pe_ix ix_tup (pv 0) pe_int (fun _ _ => rfl)) pa_nil)) (pg_name (i := 2) scLLoad.nd rfl (.inr rfl))
        (pss_one (ps_set (i := 1) scLLoad.nd rfl (.inl rfl) (pe_callB (call_max2 rfl) (by rfl) T.max (by decide +kernel) (pa_cons (pv 1) (pa_cons (pe_callB call_len_seq (by rfl) T.len PySem.boot_len (pa_cons
          (pe_lc (own := [("_law_pair", 3)]) (g := gName 3) (by rfl) scLLoad.nd (pi_list (pe_ix ix_tup (pv 0) pe_int (fun _ _ => rfl))) (blkOk_by (N := nLLoad) (sc := defScope sLLoad) (by decide +kernel)) (fun _ _ _ _ _ => pg_name (i := 3) scLLoad.nd rfl (Or.inl rfl)) (fun _ _ _ _ _ => pts_one (pt_cmpR (inK K rfl) (pv 2) (pv 3) (by rfl)))
            (fun _ _ _ _ _ => pv 3)) pa_nil)) pa_nil))))))
      (pss_one (ps_ret (pv 1)))), ?_⟩
    refine ⟨_, rfl, x, _, _, _, rfl, rfl, SqT.of hx, at_of (j := 0) rfl rfl, (many : Int), rfl, by omega, by omega, ?_⟩
    refine for_range (lo := 0) (n := (many : Int).toNat) (fun i σ H' => (∃ u, σ = [some (.ref x), some (.int (loadF ps i : Nat)), u, none]) ∧ Same H H') ⟨⟨none, rfl⟩, Same.refl _⟩ ?_ ?_
    · rintro i σ H1 hi ⟨⟨u, rfl⟩, s0⟩
      rw [Int.zero_add]
      refine ⟨_, rfl, _, rfl, x, _, _, _, rfl, rfl, SqT.of (s0 _ _ hx), at_of (j := 1) rfl rfl, l, rfl, ⟨_, SqL.of (s0 _ _ hl)⟩, fun D2 nD2 => lc_list (K := K) (a := l) (xs := vs) (fun j H' => Same H1 H' ∧ ∃ ws : List V, H' D2 = some (.lst ws) ∧ ws.length = (ps.take j).countP fun x => decide (touch x (i : Int)))
        ⟨Same.upd nD2, [], upd_same, by simp⟩ (fun j H' _ ⟨s2, _⟩ => SqL.of (s2 _ _ (s0 _ _ hl))) ?_ ?_⟩
      · rintro j y H2 hj ⟨s2, ws, hw, el⟩
        obtain ⟨pr, e1, a, rfl, e2⟩ := pv_.get hj
        have s3 : Same H H2 := s0.trans s2
        have hjl := (List.getElem?_eq_some_iff.mp e1).1
        have et : ps.take (j + 1) = ps.take j ++ [pr] := by
          rw [List.take_add_one, e1]
          rfl
        refine ⟨rfl, _, rfl, _, rfl, a, _, rfl, .inr (SqT.of (s3 _ _ e2)), rfl, rfl, _, rfl, ifIn (fun ht => ?_) (fun ht => ?_)⟩
        · refine ⟨_, rfl, ws, hw, small60 ?_, fun b o e => ?_, _, upd_same, ?_⟩
          · rw [el]
            refine Nat.le_trans (List.countP_le_length) ?_
            rw [List.length_take]
            omega
          · rw [upd_ne (ne_of_none e nD2)]
            exact s2 b o e
          · rw [List.length_append, et, List.countP_append, el]
            have : touch pr (i : Int) := ht
            simp [List.countP_cons, this]
        · refine ⟨s2, ws, hw, ?_⟩
          rw [et, List.countP_append, el]
          have : ¬ touch pr (i : Int) := ht
          simp [List.countP_cons, this]
      · rintro H2 ⟨s2, ws, hw, el⟩
        rw [pv_.len, List.take_length] at el
        refine ⟨D2, ws, rfl, .inl (SqL.of hw), _, _, rfl, ⟨some (.int (i : Int)), ?_⟩, s0.trans s2⟩
        have e9 : (if ((ws.length : Nat) : Int) > ((loadF ps i : Nat) : Int) then ((ws.length : Nat) : Int) else ((loadF ps i : Nat) : Int)) = ((loadF ps (i + 1) : Nat) : Int) := by
          show _ = ((max (loadF ps i) (cnt ps (i : Int)) : Nat) : Int)
          rw [el]
          show (if ((cnt ps (i : Int) : Nat) : Int) > ((loadF ps i : Nat) : Int) then ((cnt ps (i : Int) : Nat) : Int) else ((loadF ps i : Nat) : Int)) = _
          split <;> omega
        rw [← e9]
        rfl
    · rintro σ H1 ⟨⟨u, rfl⟩, s0⟩
      exact ⟨_, rfl, k _ s0⟩
theorem scMeet : FnScope ["_law_one", "_law_other"] ["_law_one", "_law_other"] (defScope sMeet) := ⟨rfl, rfl, rfl, by decide +kernel, rfl, by decide +kernel, by decide +kernel⟩
theorem ok_meet {f : Addr} {fd : FuncData} (F : Fun K "_law_meet" "_law_meet" sMeet f fd) : FnOk P w K mg base CX0 1 f fd ["_law_one", "_law_other"] spMeet := by
  refine F.ok scMeet (fun vs H Q E h => ?_) (fun cdv A outer s H vs Q E hr h => ?_)
  · obtain ⟨v1, v2, x, y, rfl, _⟩ := h
    rfl
  · obtain ⟨v1, v2, x, y, rfl, ⟨a, rfl, ha⟩, ⟨b, rfl, hb⟩, k⟩ := h
    refine ⟨_, pss_one (ps_ret (pe_or (pe_cmpR op_in_seq (pe_ix ix_tup (pv 0) pe_int (fun _ _ => rfl)) (pv 1) (by rfl)) (pe_one (pe_cmpR op_in_seq (pe_ix ix_tup (pv 0) pe_int (fun _ _ => rfl)) (pv 1) (by rfl))))), ?_⟩
    rw [← inV_or] at k
    refine ⟨_, rfl, a, _, _, _, rfl, rfl, SqT.of ha, at_of (j := 0) rfl rfl, _, rfl, b, _, rfl, .inr (SqT.of hb), rfl, rfl, _, rfl, ?_⟩
    cases e : inV (.int x.1) [.int y.1, .int y.2] with
    | true =>
      rw [e] at k
      exact iteT k
    | false =>
      rw [e] at k
      refine iteF ?_
      exact ⟨_, rfl, a, _, _, _, rfl, rfl, SqT.of ha, at_of (j := 1) rfl rfl, _, rfl, b, _, rfl, .inr (SqT.of hb), rfl, rfl, k⟩
end
end K32

namespace K32
open PySem L2 Tie
structure TxR (mg : Str → Option Value) : Prop where
  isi : mg "isinstance" = none
  list : mg "list" = none
  int : mg "int" = none
  bool : mg "bool" = none
  len : mg "len" = none
  range : mg "range" = none
section
variable {P : Program} {w : World} {K : PySem.W.Frag} {mg : Str → Option Value} {base : Heap}
theorem scRight : FnScope ["_law_crossing", "_law_hues", "_law_k", "_law_j"] ["_law_crossing", "_law_hues"] (defScope sRight) := ⟨rfl, rfl, rfl, by decide +kernel, rfl, by decide +kernel, by decide +kernel⟩
theorem ok_right {f fM : Addr} {fd fdM : FuncData} (F : Fun K "_law_right" "_law_right" sRight f fd) (T : TxR mg) (mgM : mg "_law_meet" = some (.ref fM)) (kM : PySem.W.keepIn K (.ref fM) = true)
    (GM : FnOk P w K mg base CX0 1 fM fdM ["_law_one", "_law_other"] spMeet) (bM : Binds K fdM ["_law_one", "_law_other"] []) : FnOk P w K mg base CX0 2 f fd ["_law_crossing", "_law_hues"] spRight := by
  refine F.ok scRight (fun vs H Q E h => ?_) (fun cdv A outer s H vs Q E hr h => ?_)
  · obtain ⟨x, r, many, ps, hs, rfl, _⟩ := h
    rfl
  · obtain ⟨x, r, many, ps, hs, rfl, ⟨l, hx, vs, hl, hP⟩, hR, el, hn, nn, pr, k⟩ := h
    refine ⟨_, pss_cons (ps_if (PW.pt (pw_or (pt_not (pt_val (pe_callB call_isi (by rfl) T.isi (by decide +kernel) (pa_cons (pv 1) (pa_cons (pe_bltn (v := .ty "list") (u := .type "list") (by rfl) T.list (by decide +kernel) rfl) pa_nil)))))
        (pw_or1 (pt_cmpR op_ne (pe_callB call_len_seq (by rfl) T.len PySem.boot_len (pa_cons (pv 1) pa_nil)) (pe_callB call_len_seq (by rfl) T.len PySem.boot_len (pa_cons (pe_ix ix_tup (pv 0) pe_int (fun _ _ => rfl)) pa_nil)) (nomark _))))) pss_never pss_nil)
      (pss_cons (ps_for PassesOwn.never rfl (pi_range1 (by rfl) T.range (pa_cons (pe_callB call_len_seq (by rfl) T.len PySem.boot_len (pa_cons (pv 1) pa_nil)) pa_nil)) (pg_name (i := 2) scRight.nd rfl (.inl rfl))
        (pss_cons (ps_if (PW.pt (pw_or (pt_not (pt_val (pe_callB call_isi (by rfl) T.isi (by decide +kernel) (pa_cons (pe_ix ix_list (pv 1) (pv 2) (fun _ _ => rfl)) (pa_cons (pe_bltn (v := .ty "int") (u := .type "int") (by rfl) T.int (by decide +kernel) rfl) pa_nil)))))
            (pw_or (pt_val (pe_callB call_isi (by rfl) T.isi (by decide +kernel) (pa_cons (pe_ix ix_list (pv 1) (pv 2) (fun _ _ => rfl)) (pa_cons (pe_bltn (v := .ty "bool") (u := .type "bool") (by rfl) T.bool (by decide +kernel) rfl) pa_nil))))
            (pw_or1 (pt_cmpR op_lt (pe_ix ix_list (pv 1) (pv 2) (fun _ _ => rfl)) pe_int (nomark _)))))) pss_never pss_nil)
        (pss_one (ps_for PassesOwn.never rfl (pi_range1 (by rfl) T.range (pa_cons (pv 2) pa_nil)) (pg_name (i := 3) scRight.nd rfl (.inl rfl))
          (pss_one (ps_if (PW.pt (pw_and (pt_cmpR op_eq (pe_ix ix_list (pv 1) (pv 3) (fun _ _ => rfl)) (pe_ix ix_list (pv 1) (pv 2) (fun _ _ => rfl)) (nomark _))
            (pw_and1 (pt_val (pe_call GM hr (by rfl) mgM kM bM .nil pass0 (pa_cons (pe_ix ix_list (pe_ix ix_tup (pv 0) pe_int (fun _ _ => rfl)) (pv 3) (fun _ _ => rfl)) (pa_cons (pe_ix ix_list (pe_ix ix_tup (pv 0) pe_int (fun _ _ => rfl)) (pv 2) (fun _ _ => rfl)) pa_nil))))))) pss_never pss_nil))))))
      (pss_one (ps_ret pe_bl))), ?_⟩
    refine ⟨_, rfl, _, _, _, _, true, rfl, .ty _, .base (.lst hR), kit_ty (by decide +kernel), _, rfl, iteF ?_⟩
    refine ⟨_, rfl, r, _, rfl, .inl (SqL.of hR), _, rfl, x, _, _, _, rfl, rfl, SqT.of hx, at_of (j := 1) rfl rfl, l, vs, rfl, .inl (SqL.of hl), rfl, _, rfl, ifN (fun c => absurd ?_ c) (fun _ => ?_)⟩
    · rw [List.length_map, el, hP.len]
    refine ⟨_, rfl, r, _, rfl, .inl (SqL.of hR), _, rfl, by omega, by rw [List.length_map]; omega, ?_⟩
    have ev : ∀ i, i < hs.length → (hs.map V.int)[i]? = some (V.int (cF hs i)) := fun i hi => by
      rw [List.getElem?_map, cF_some hi]
      rfl
    refine for_range (lo := 0) (n := (((hs.map V.int).length : Nat) : Int).toNat) (fun i σ H' => H' = H ∧ ∃ u v, σ = [some (.ref x), some (.ref r), u, v]) ⟨rfl, none, none, rfl⟩ ?_ ?_
    · rintro i σ H1 hi ⟨rfl, u, v, rfl⟩
      rw [Int.zero_add]
      have hi' : i < hs.length := by
        rw [List.length_map] at hi
        omega
      obtain ⟨a, e1, e2⟩ := hP.there (pF_some (by omega : i < ps.length))
      refine ⟨_, rfl, _, rfl, r, _, _, _, rfl, rfl, SqL.of hR, at_of rfl (ev i hi'), _, _, _, _, true, rfl, .ty _, .base (.int _), kit_ty (by decide +kernel), _, rfl, iteF ?_⟩
      refine ⟨_, rfl, _, rfl, r, _, _, _, rfl, rfl, SqL.of hR, at_of rfl (ev i hi'), _, _, _, _, false, rfl, .ty _, .base (.int _), kit_ty (by decide +kernel), _, rfl, iteF ?_⟩
      refine ⟨_, rfl, _, rfl, r, _, _, _, rfl, rfl, SqL.of hR, at_of rfl (ev i hi'), _, _, rfl, rfl, _, rfl, ifF (by have := nn i hi'; omega) ?_⟩
      refine ⟨_, rfl, (i : Int), rfl, by omega, by omega, for_range (lo := 0) (n := (i : Int).toNat) (fun j σ H' => H' = H1 ∧ ∃ v, σ = [some (.ref x), some (.ref r), some (.int (i : Int)), v]) ⟨rfl, v, rfl⟩ ?_ ?_⟩
      · rintro j σ H2 hj ⟨rfl, v, rfl⟩
        rw [Int.zero_add]
        have hj' : j < i := by omega
        obtain ⟨b, g1, g2⟩ := hP.there (pF_some (by omega : j < ps.length))
        refine ⟨_, rfl, _, rfl, r, _, _, _, rfl, rfl, SqL.of hR, at_of rfl (ev j (by omega)), _, rfl, _, rfl, r, _, _, _, rfl, rfl, SqL.of hR, at_of rfl (ev i hi'), rfl, _, rfl, if2 (fun c => ?_) (fun c => ?_)⟩
        · have c' := V.int.inj c
          refine ⟨_, rfl, x, _, _, _, rfl, rfl, SqT.of hx, at_of (j := 1) rfl rfl, _, rfl, l, vs, _, _, rfl, rfl, SqL.of hl, at_of rfl g1, _, rfl, x, _, _, _, rfl, rfl, SqT.of hx, at_of (j := 1) rfl rfl, _, rfl, l, vs, _, _, rfl, rfl, SqL.of hl, at_of rfl e1,
            _, _, pF ps j, pF ps i, rfl, ⟨b, rfl, g2⟩, ⟨a, rfl, e2⟩, _, rfl, ifF ?_ ⟨rfl, _, rfl⟩⟩
          rintro (z | z)
          · exact pr j i (by omega) hi' (by omega) c' _ (.inl rfl) z
          · exact pr j i (by omega) hi' (by omega) c' _ (.inr rfl) z
        · exact ⟨rfl, _, rfl⟩
      · rintro σ H2 ⟨rfl, v, rfl⟩
        exact ⟨rfl, _, _, rfl⟩
    · rintro σ H1 ⟨rfl, u, v, rfl⟩
      exact k

theorem scGood : FnScope ["_law_crossing", "_law_found"] ["_law_crossing"] (defScope sGood) := ⟨rfl, rfl, rfl, by decide +kernel, rfl, by decide +kernel, by decide +kernel⟩
theorem ok_good {f fC fR fL : Addr} {fd fdC fdR fdL : FuncData} (F : Fun K "_law_good" "_law_good" sGood f fd) (mmax : mg "max" = none) (mlen : mg "len" = none) (mset : mg "set" = none)
    (mgC : mg "cross_hues" = some (.ref fC)) (kC : PySem.W.keepIn K (.ref fC) = true) (GC : FnOk P w K mg base CX0 6 fC fdC ["crossing"] spCross) (bC : Binds K fdC ["crossing"] [])
    (mgR : mg "_law_right" = some (.ref fR)) (kR : PySem.W.keepIn K (.ref fR) = true) (GR : FnOk P w K mg base CX0 2 fR fdR ["_law_crossing", "_law_hues"] spRight) (bR : Binds K fdR ["_law_crossing", "_law_hues"] [])
    (mgL : mg "_law_load" = some (.ref fL)) (kL : PySem.W.keepIn K (.ref fL) = true) (GL : FnOk P w K mg base CX0 1 fL fdL ["_law_crossing"] spLoad) (bL : Binds K fdL ["_law_crossing"] []) :
    FnOk P w K mg base CX0 7 f fd ["_law_crossing"] spGood := by
  refine F.ok scGood (fun vs H Q E h => ?_) (fun cdv A outer s H vs Q E hr h => ?_)
  · obtain ⟨x, many, ps, rfl, _⟩ := h
    rfl
  · obtain ⟨x, many, ps, rfl, CA, hm, h0, hn, hC, k⟩ := h
    have hr1 : Room 1 _ := hr.mono (by decide)
    have hr2 : Room 2 _ := hr.mono (by decide)
    refine ⟨_, pss_cons (ps_set (i := 1) scGood.nd rfl (.inl rfl) (pe_call GC hr (by rfl) mgC kC bC .nil pass0 (pa_cons (pv 0) pa_nil)))
      (pss_cons (ps_if (pt_not (pt_val (pe_call GR hr2 (by rfl) mgR kR bR .nil pass0 (pa_cons (pv 0) (pa_cons (pv 1) pa_nil))))) pss_never pss_nil)
      (pss_cons (ps_if (pt_cmpR op_ge (pe_callB (cr_max rfl) (by rfl) mmax (by decide +kernel) (pa_cons (pv 1) pa_nil)) (pe_op op_fdiv (pe_op op_mul pe_int (pe_call GL hr1 (by rfl) mgL kL bL .nil pass0 (pa_cons (pv 0) pa_nil))) pe_int) (nomark _)) pss_never pss_nil)
      (pss_one (ps_ret (pe_unlike (by rfl) mlen (by rfl) mset (pv 1)))))), ?_⟩
    refine ⟨_, rfl, x, many, ps, rfl, CA, hm, hn, hC, fun H1 r hs S1 hR G el => ?_⟩
    refine ⟨_, rfl, _, rfl, x, r, (many : Int), ps, hs, rfl, CA.same S1, hR, el, hn, fun i hi => (G.rng i hi).1, G.pr, _, rfl, iteF ?_⟩
    refine ⟨_, rfl, r, hs, rfl, SqL.of hR, by omega, fun mx m1 m2 => ?_⟩
    refine ⟨_, rfl, x, many, ps, rfl, CA.same S1, hm, hn, fun H2 S2 => ?_⟩
    have Lq := loadF_le ps many
    refine ⟨_, _, rfl, rfl, .inl ⟨by decide, by decide⟩, _, _, rfl, rfl, ⟨by decide, by decide⟩, _, _, rfl, rfl, _, rfl, ifF ?_ ?_⟩
    · obtain ⟨i, hi⟩ := List.mem_iff_getElem?.mp m1
      have il := (List.getElem?_eq_some_iff.mp hi).1
      have := (G.rng i il).2
      rw [cF_at hi] at this
      omega
    · exact ⟨_, rfl, r, hs, rfl, SqL.of (S2 _ _ hR), by omega, k _ hs (S1.trans S2) el G.pr⟩
end
end K32

namespace K32
open PySem L2 Tie
def tri : Nat → Nat
  | 0 => 0
  | j + 1 => tri j + (j + 1)
theorem tri_mono {i j : Nat} (h : i ≤ j) : tri i ≤ tri j := by
  induction j with
  | zero =>
    have : i = 0 := by omega
    rw [this]
    exact Nat.le_refl _
  | succ j ih =>
    by_cases e : i = j + 1
    · rw [e]
      exact Nat.le_refl _
    · exact Nat.le_trans (ih (by omega)) (Nat.le_add_right _ _)
theorem Pu.new {H : Hp} {p c a : Addr} {n : Nat} (h : Pu H p c n) (na : H a = none) : a ≠ p ∧ a ≠ c := by
  obtain ⟨cs, t, g1, g2, _⟩ := h.ex
  exact ⟨(ne_of_none g1 na).symm, (ne_of_none g2 na).symm⟩
theorem Same.but2 {p c : Addr} {H H1 H2 : Hp} (B : But2 p c H H1) (S : Same H1 H2) : But2 p c H H2 := B.trans (But2.of S)

def spLot : Sp := fun vs H Q _ => ∃ (p c : Addr) (m : Nat), vs = [.ref p] ∧ Pu H p c m ∧ m ≤ 900000 ∧
  ∀ (H' : Hp) (r l : Addr) (size : Nat) (ps : List Pr), But2 p c H H' → Pu H' p c (m + 2) → H' r = some (.tup [.int (size : Int), .ref l]) → PairsAt H' l ps → (size = 3 ∨ size = 5) → LotPs (size : Int) ps → 0 < ps.length → ps.length ≤ 60 → Q (.ref r) H'
def spKnot : Sp := fun vs H Q _ => ∃ (p c : Addr) (m : Nat), vs = [.ref p] ∧ Pu H p c m ∧ m ≤ 900000 ∧
  ∀ (H' : Hp) (r l : Addr) (many : Nat) (ps : List Pr), But2 p c H H' → Pu H' p c (m + 1) → H' r = some (.tup [.int (many : Int), .ref l]) → PairsAt H' l ps → 0 < many → many ≤ 10 → 0 < ps.length → ps.length ≤ 60 → Q (.ref r) H'

section
variable {P : Program} {w : World} {K : PySem.W.Frag} {mg : Str → Option Value} {base : Heap}
abbrev nLot : List Str := ["_law_purse_here", "_law_size", "_law_times", "_law_pairs", "_law_time", "_law_other", "_law_one"]
theorem scLot : FnScope nLot ["_law_purse_here"] (defScope sLot) := ⟨rfl, rfl, rfl, by decide +kernel, rfl, by decide +kernel, by decide +kernel⟩
theorem ok_lot {f fD : Addr} {fd fdD : FuncData} (F : Fun K "_law_lot" "_law_lot" sLot f fd) (range : mg "range" = none) (mgD : mg "_law_draw" = some (.ref fD)) (kD : PySem.W.keepIn K (.ref fD) = true)
    (GD : FnOk P w K mg base CX0 1 fD fdD ["_law_purse_here", "_law_out_of"] spDraw) (bD : Binds K fdD ["_law_purse_here", "_law_out_of"] []) : FnOk P w K mg base CX0 2 f fd ["_law_purse_here"] spLot := by
  refine F.ok scLot (fun vs H Q E h => ?_) (fun cdv A outer s H vs Q E hr h => ?_)
  · obtain ⟨p, c, m, rfl, _⟩ := h
    rfl
  · obtain ⟨p, c, m, rfl, PU, hm, k⟩ := h
    refine ⟨_, pss_cons (ps_set (i := 1) scLot.nd rfl (.inl rfl) (pe_ix ix_list (pe_lst (pa_cons pe_int (pa_cons pe_int (pa_cons pe_int pa_nil)))) (pe_call GD hr (by rfl) mgD kD bD .nil pass0 (pa_cons (pv 0) (pa_cons pe_int pa_nil))) (fun _ _ => rfl)))
      (pss_cons (ps_set (i := 2) scLot.nd rfl (.inl rfl) (pe_op op_add pe_int (pe_call GD hr (by rfl) mgD kD bD .nil pass0 (pa_cons (pv 0) (pa_cons (pe_ix ix_list (pe_lst (pa_cons pe_int (pa_cons pe_int pa_nil))) (pe_op op_fdiv (pv 1) pe_int) (fun _ _ => rfl)) pa_nil)))))
      (pss_cons (ps_set (i := 3) scLot.nd rfl (.inl rfl) (pe_lst pa_nil))
      (pss_cons (ps_for PassesOwn.never rfl (pi_range1 (by rfl) range (pa_cons (pv 2) pa_nil)) (pg_name (i := 4) scLot.nd rfl (.inl rfl))
        (pss_one (ps_for PassesOwn.never rfl (pi_range2 (by rfl) range (pa_cons pe_int (pa_cons (pv 1) pa_nil))) (pg_name (i := 5) scLot.nd rfl (.inr rfl))
          (pss_one (ps_set (i := 3) scLot.nd rfl (.inl rfl) (pe_op op_cat (pv 3) (pe_lc (own := [("_law_one", 6)]) (g := gName 6) (tt := tYes) (by rfl) scLot.nd (pi_range1 (by rfl) range (pa_cons (pv 5) pa_nil)) (blkOk_by (N := nLot) (sc := defScope sLot) (by decide +kernel))
            (fun _ _ _ _ _ => pg_name (i := 6) scLot.nd rfl (Or.inl rfl)) (fun _ _ _ _ _ => pts_nil) (fun _ _ _ _ _ => pe_tup (pa_cons (pv 6) (pa_cons (pv 5) pa_nil))))))))))
      (pss_one (ps_ret (pe_tup (pa_cons (pv 1) (pa_cons (pv 3) pa_nil)))))))), ?_⟩
    refine ⟨(by show 3 ≤ sizeLine; decide), fun a0 n0 => ?_⟩
    have S0 : Same H (upd H a0 (.lst [V.int 3, V.int 3, V.int 5])) := Same.upd n0
    obtain ⟨a0p, a0c⟩ := PU.new n0
    refine ⟨_, rfl, p, c, m, 3, rfl, PU.same S0, by omega, by omega, by omega, fun H1 r1 P1 B1 hr1 => ?_⟩
    have hA := B1 _ _ upd_same a0p a0c
    have B01 : But2 p c H H1 := (But2.of S0).trans B1
    obtain ⟨size, hsz, esz⟩ : ∃ size : Nat, (size = 3 ∨ size = 5) ∧ ([V.int 3, V.int 3, V.int 5] : List V)[r1]? = some (V.int (size : Int)) := by
      have : r1 = 0 ∨ r1 = 1 ∨ r1 = 2 := by omega
      rcases this with z | z | z <;> rw [z]
      · exact ⟨3, .inl rfl, rfl⟩
      · exact ⟨3, .inl rfl, rfl⟩
      · exact ⟨5, .inr rfl, rfl⟩
    refine ⟨a0, _, _, _, rfl, rfl, SqL.of hA, at_of rfl esz, ?_⟩
    refine ⟨_, rfl, (by show 2 ≤ sizeLine; decide), fun a1 n1 => ?_⟩
    have S1 : Same H1 (upd H1 a1 (.lst [V.int 20, V.int 6])) := Same.upd n1
    obtain ⟨mx, hmx, emx⟩ : ∃ mx : Nat, ((size = 3 ∧ mx = 20) ∨ (size = 5 ∧ mx = 6)) ∧ atI ([V.int 20, V.int 6] : List V) ((size : Int) / 5) = some (V.int (mx : Int)) := by
      rcases hsz with z | z <;> rw [z]
      · exact ⟨20, .inl ⟨rfl, rfl⟩, rfl⟩
      · exact ⟨6, .inr ⟨rfl, rfl⟩, rfl⟩
    refine ⟨_, rfl, _, _, rfl, rfl, ⟨by decide, by decide⟩, a1, _, _, _, rfl, rfl, SqL.of upd_same, emx, ?_⟩
    refine ⟨p, c, m + 1, mx, rfl, P1.same S1, by omega, by omega, by omega, fun H2 r2 P2 B2 hr2 => ?_⟩
    have B02 : But2 p c H H2 := B01.trans ((But2.of S1).trans B2)
    refine ⟨_, _, rfl, rfl, ?_⟩
    refine ⟨Nat.zero_le _, fun l0 nl0 => ?_⟩
    have S2 : Same H2 (upd H2 l0 (.lst [])) := Same.upd nl0
    have hT : (1 + r2) * tri (size - 1) ≤ 60 := by
      rcases hmx with ⟨z1, z2⟩ | ⟨z1, z2⟩
      · rw [z1]
        show (1 + r2) * 3 ≤ 60
        omega
      · rw [z1]
        show (1 + r2) * 10 ≤ 60
        omega
    generalize eT : tri (size - 1) = T at hT
    refine ⟨_, rfl, 1 + (r2 : Int), rfl, by omega, by omega, ?_⟩
    refine for_range (lo := 0) (n := (1 + (r2 : Int)).toNat) (fun i σ H' => ∃ (l : Addr) (u v : Option V) (ps : List Pr), σ = [some (.ref p), some (.int (size : Int)), some (.int (1 + (r2 : Int))), some (.ref l), u, v, none] ∧ Same H2 H' ∧ PairsAt H' l ps ∧ LotPs (size : Int) ps ∧ ps.length = i * T)
      ⟨l0, none, none, [], rfl, S2, ⟨[], upd_same, PairsV.nil⟩, fun x hx => absurd hx List.not_mem_nil, by simp⟩ ?_ ?_
    · rintro i σ H3 hi ⟨l, u, v, ps, rfl, S3, PA, LP, el⟩
      have hi2 : (i + 1) * T ≤ 60 := Nat.le_trans (Nat.mul_le_mul_right T (by omega : i + 1 ≤ 1 + r2)) hT
      rw [Nat.succ_mul] at hi2
      refine ⟨_, rfl, (1 : Int), (size : Int), rfl, ⟨by omega, by omega, by omega, by omega⟩, ?_⟩
      refine for_range (lo := 1) (n := ((size : Int) - 1).toNat) (fun j σ H' => ∃ (l : Addr) (u v : Option V) (ps : List Pr), σ = [some (.ref p), some (.int (size : Int)), some (.int (1 + (r2 : Int))), some (.ref l), u, v, none] ∧ Same H2 H' ∧ PairsAt H' l ps ∧ LotPs (size : Int) ps ∧ ps.length = i * T + tri j)
        ⟨l, _, v, ps, rfl, S3, PA, LP, by rw [el]; rfl⟩ ?_ ?_
      · rintro j σ H4 hj ⟨l4, u4, v4, ps4, rfl, S4, PA4, LP4, el4⟩
        have js : j + 1 ≤ size - 1 := by omega
        have tj : tri (j + 1) ≤ T := by
          rw [← eT]
          exact tri_mono js
        have tj2 : tri (j + 1) = tri j + (j + 1) := rfl
        obtain ⟨vs4, hl4, pv4⟩ := id PA4
        have lv4 : vs4.length = ps4.length := pv4.len
        refine ⟨_, rfl, _, rfl, 1 + (j : Int), rfl, by omega, by omega, fun D nD => ?_⟩
        refine lc_range (lo := 0) (n := (1 + (j : Int)).toNat) (fun n H' => Same H4 H' ∧ ∃ ws, H' D = some (.lst ws) ∧ PairsV H' ws ((List.range n).map fun (k : Nat) => ((k : Int), 1 + (j : Int)))) ⟨Same.upd nD, [], upd_same, PairsV.nil⟩ ?_ ?_
        · rintro n H5 hn ⟨S5, ws, hw, pw⟩
          rw [Int.zero_add]
          have lw : ws.length = n := by rw [pw.len, List.length_map, List.length_range]
          refine ⟨rfl, _, rfl, _, rfl, (by show 2 ≤ sizeLine; decide), fun t nt => ?_⟩
          have hw' := Same.upd (o := .tup [.int (n : Int), .int (1 + (j : Int))]) nt _ _ hw
          have ntD : t ≠ D := (ne_of_none hw nt).symm
          refine ⟨ws, hw', small60 (by omega), fun b o e => ?_, _, upd_same, ?_⟩
          · rw [upd_ne (ne_of_none e nD)]
            exact Same.upd nt _ _ (S5 _ _ e)
          · rw [List.range_succ, List.map_append]
            refine (pw.keep fun b xs e => ?_).append (PairsV.one ⟨t, rfl, ?_⟩)
            · rw [upd_ne (ne_of e hw (by intro z; cases z))]
              exact Same.upd nt _ _ e
            · rw [upd_ne ntD, upd_same]
        · rintro H5 ⟨S5, ws, hw, pw⟩
          have en : (1 + (j : Int)).toNat = j + 1 := by omega
          rw [en] at pw
          have lw : ws.length = j + 1 := by rw [pw.len, List.length_map, List.length_range]
          refine ⟨l4, D, vs4, ws, rfl, rfl, S5 _ _ hl4, hw, Nat.le_of_lt (small60 (by omega)), fun q nq => ?_⟩
          have S6 : Same H5 (upd H5 q (.lst (vs4 ++ ws))) := Same.upd nq
          refine ⟨q, u4, _, _, rfl, (S4.trans S5).trans S6, ⟨_, upd_same, ((pv4.keep (Tk.same (S5.trans S6))).append (pw.keep (Tk.same S6)))⟩, fun x hx => ?_, ?_⟩
          · rcases List.mem_append.mp hx with z | z
            · exact LP4 x z
            · obtain ⟨a, ha, rfl⟩ := List.mem_map.mp z
              rw [List.mem_range] at ha
              refine ⟨?_, ?_, ?_⟩ <;> show _ <;> simp only [] <;> omega
          · rw [List.length_append, List.length_map, List.length_range, el4, tj2]
            omega
      · rintro σ H4 ⟨l4, u4, v4, ps4, rfl, S4, PA4, LP4, el4⟩
        have en : ((size : Int) - 1).toNat = size - 1 := by omega
        rw [en, eT, ← Nat.succ_mul] at el4
        exact ⟨l4, u4, v4, ps4, rfl, S4, PA4, LP4, el4⟩
    · rintro σ H3 ⟨l, u, v, ps, rfl, S3, PA, LP, el⟩
      have en : (1 + (r2 : Int)).toNat = 1 + r2 := by omega
      rw [en] at el
      have T3 : 3 ≤ T := by
        rw [← eT]
        exact tri_mono (i := 2) (by omega)
      have pos : 0 < ps.length := by
        rw [el]
        exact Nat.mul_pos (by omega) (by omega)
      refine ⟨_, rfl, _, rfl, (by show 2 ≤ sizeLine; decide), fun t nt => ?_⟩
      have S4 := S3.trans (Same.upd (o := .tup [.int (size : Int), .ref l]) nt)
      exact k _ t l size ps (Same.but2 B02 S4) (P2.same S4) upd_same (PA.same (Same.upd nt)) hsz LP pos (by omega)
end
end K32

namespace K32
open PySem L2 Tie
theorem rep_len {α : Type} (n : Nat) (x : α) : (List.replicate n [x]).flatten.length = n := by
  induction n with
  | zero => rfl
  | succ n ih =>
    rw [List.replicate_succ, List.flatten_cons, List.length_append, ih, List.length_singleton]
    omega
theorem cut59 (vs : List V) : cutV vs none (some 59) = vs.take 59 := by
  show (vs.drop 0).take (min 59 vs.length - 0) = _
  rw [List.drop_zero, Nat.sub_zero]
  by_cases h : vs.length ≤ 59
  · rw [Nat.min_eq_right h, List.take_of_length_le (Nat.le_refl _), List.take_of_length_le h]
  · rw [Nat.min_eq_left (by omega)]
theorem cut60 (vs : List V) : cutV vs none (some 60) = vs.take 60 := by
  show (vs.drop 0).take (min 60 vs.length - 0) = _
  rw [List.drop_zero, Nat.sub_zero]
  by_cases h : vs.length ≤ 60
  · rw [Nat.min_eq_right h, List.take_of_length_le (Nat.le_refl _), List.take_of_length_le h]
  · rw [Nat.min_eq_left (by omega)]
section
variable {P : Program} {w : World} {K : PySem.W.Frag} {mg : Str → Option Value} {base : Heap}
theorem scKnot : FnScope ["_law_purse_here", "_law_most", "_law_many", "_law_pairs", "_law_k"] ["_law_purse_here"] (defScope sKnot) := ⟨rfl, rfl, rfl, by decide +kernel, rfl, by decide +kernel, by decide +kernel⟩
theorem ok_knot {f fD : Addr} {fd fdD : FuncData} (F : Fun K "_law_knot" "_law_knot" sKnot f fd) (range : mg "range" = none) (mgD : mg "_law_draw" = some (.ref fD)) (kD : PySem.W.keepIn K (.ref fD) = true)
    (GD : FnOk P w K mg base CX0 1 fD fdD ["_law_purse_here", "_law_out_of"] spDraw) (bD : Binds K fdD ["_law_purse_here", "_law_out_of"] []) : FnOk P w K mg base CX0 2 f fd ["_law_purse_here"] spKnot := by
  refine F.ok scKnot (fun vs H Q E h => ?_) (fun cdv A outer s H vs Q E hr h => ?_)
  · obtain ⟨p, c, m, rfl, _⟩ := h
    rfl
  · obtain ⟨p, c, m, rfl, PU, hm, k⟩ := h
    refine ⟨_, pss_cons (ps_set (i := 1) scKnot.nd rfl (.inl rfl) (pe_op op_add pe_int (pe_call GD hr (by rfl) mgD kD bD .nil pass0 (pa_cons (pv 0) (pa_cons pe_int pa_nil)))))
      (pss_cons (ps_set (i := 2) scKnot.nd rfl (.inl rfl) pe_int)
      (pss_cons (ps_set (i := 3) scKnot.nd rfl (.inl rfl) (pe_op op_rep (pe_lst (pa_cons (pe_tup (pa_cons pe_int (pa_cons pe_int pa_nil))) pa_nil)) (pe_op op_sub (pv 1) pe_int)))
      (pss_cons (ps_for PassesOwn.never rfl (pi_range1 (by rfl) range (pa_cons (pe_op op_sub (pv 1) pe_int) pa_nil)) (pg_name (i := 4) scKnot.nd rfl (.inl rfl))
        (pss_cons (ps_set (i := 3) scKnot.nd rfl (.inl rfl) (pe_op op_cat (pe_op op_cat (pv 3) (pe_op op_rep (pe_lst (pa_cons (pe_tup (pa_cons (pv 2) (pa_cons (pv 2) pa_nil))) pa_nil)) (pe_op op_sub (pv 1) pe_int)))
          (pe_lst (pa_cons (pe_tup (pa_cons pe_int (pa_cons (pv 2) pa_nil))) pa_nil))))
        (pss_one (ps_set (i := 2) scKnot.nd rfl (.inl rfl) (pe_op op_add (pv 2) pe_int)))))
      (pss_one (ps_ret (pe_tup (pa_cons (pv 2) (pa_cons (pe_op op_cat (pe_slice sl_list (pv 3) po_none (po_some pe_int)) (pe_lst (pa_cons (pe_tup (pa_cons pe_int (pa_cons pe_int pa_nil))) pa_nil))) pa_nil)))))))), ?_⟩
    refine ⟨_, rfl, p, c, m, 4, rfl, PU, by omega, by omega, by omega, fun H1 r1 P1 B1 hr1 => ?_⟩
    refine ⟨_, _, rfl, rfl, ?_⟩
    refine ⟨(by show 2 ≤ sizeLine; decide), fun t0 nt0 => ?_⟩
    refine ⟨(by show 1 ≤ sizeLine; decide), fun a0 na0 => ?_⟩
    have e1 : (2 + (r1 : Int) - 1).toNat = r1 + 1 := by omega
    have S0 : Same H1 (upd (upd H1 t0 (.tup [V.int 0, V.int 0])) a0 (.lst [V.ref t0])) := (Same.upd nt0).trans (Same.upd na0)
    refine ⟨_, rfl, _, _, rfl, rfl, a0, _, _, rfl, rfl, upd_same, by omega, by omega, by rw [e1]; exact Nat.le_of_lt (small60 (by show 1 * (r1 + 1) ≤ 100; omega)), fun l0 nl0 => ?_⟩
    have T0 : PairV (upd (upd (upd H1 t0 (.tup [V.int 0, V.int 0])) a0 (.lst [V.ref t0])) l0 (.lst (List.replicate (2 + (r1 : Int) - 1).toNat [V.ref t0]).flatten)) (V.ref t0) (0, 0) :=
      ⟨t0, rfl, Same.upd nl0 _ _ (Same.upd na0 _ _ upd_same)⟩
    have PA0 : PairsAt (upd (upd (upd H1 t0 (.tup [V.int 0, V.int 0])) a0 (.lst [V.ref t0])) l0 (.lst (List.replicate (2 + (r1 : Int) - 1).toNat [V.ref t0]).flatten)) l0 (List.replicate (2 + (r1 : Int) - 1).toNat [((0 : Int), (0 : Int))]).flatten :=
      ⟨_, upd_same, (PairsV.one T0).rep _⟩
    refine ⟨_, rfl, _, _, rfl, rfl, 2 + (r1 : Int) - 1, rfl, by omega, by omega, ?_⟩
    refine for_range (lo := 0) (n := (2 + (r1 : Int) - 1).toNat) (fun i σ H' => ∃ (l : Addr) (u : Option V) (ps : List Pr), σ = [some (.ref p), some (.int (2 + (r1 : Int))), some (.int ((i + 2 : Nat) : Int)), some (.ref l), u] ∧ Same H1 H' ∧ PairsAt H' l ps ∧ ps.length ≤ 4 + 5 * i ∧ i ≤ 4)
      ⟨l0, none, _, rfl, S0.trans (Same.upd nl0), PA0, by rw [rep_len]; omega, Nat.zero_le _⟩ ?_ ?_
    · rintro i σ H2 hi ⟨l, u, ps, rfl, S2, PA, el, i4⟩
      obtain ⟨vs, hl, hP⟩ := id PA
      refine ⟨_, rfl, _, rfl, _, rfl, (by show 2 ≤ sizeLine; decide), fun t1 nt1 => ?_⟩
      refine ⟨(by show 1 ≤ sizeLine; decide), fun a1 na1 => ?_⟩
      refine ⟨_, rfl, _, _, rfl, rfl, a1, _, _, rfl, rfl, upd_same, by omega, by omega, by rw [e1]; exact Nat.le_of_lt (small60 (by show 1 * (r1 + 1) ≤ 100; omega)), fun b1 nb1 => ?_⟩
      generalize eG : upd (upd (upd H2 t1 (.tup [V.int ((i + 2 : Nat) : Int), V.int ((i + 2 : Nat) : Int)])) a1 (.lst [V.ref t1])) b1 (.lst (List.replicate (2 + (r1 : Int) - 1).toNat [V.ref t1]).flatten) = H3
      have S3 : Same H2 H3 := by rw [← eG]; exact ((Same.upd nt1).trans (Same.upd na1)).trans (Same.upd nb1)
      have ht1 : H3 t1 = some (.tup [V.int ((i + 2 : Nat) : Int), V.int ((i + 2 : Nat) : Int)]) := by rw [← eG]; exact Same.upd nb1 _ _ (Same.upd na1 _ _ upd_same)
      have hb1 : H3 b1 = some (.lst (List.replicate (2 + (r1 : Int) - 1).toNat [V.ref t1]).flatten) := by rw [← eG, upd_same]
      have PB : PairsV H3 (List.replicate (2 + (r1 : Int) - 1).toNat [V.ref t1]).flatten (List.replicate (2 + (r1 : Int) - 1).toNat [(((i + 2 : Nat) : Int), ((i + 2 : Nat) : Int))]).flatten := (PairsV.one ⟨t1, rfl, ht1⟩).rep _
      have lB := rep_len (2 + (r1 : Int) - 1).toNat (V.ref t1)
      have lB2 := rep_len (2 + (r1 : Int) - 1).toNat ((((i + 2 : Nat) : Int), ((i + 2 : Nat) : Int)) : Pr)
      have lv := hP.len
      generalize (List.replicate (2 + (r1 : Int) - 1).toNat [V.ref t1]).flatten = bs at hb1 PB lB
      generalize (List.replicate (2 + (r1 : Int) - 1).toNat [((((i + 2 : Nat) : Int), ((i + 2 : Nat) : Int)) : Pr)]).flatten = qs at PB lB2
      refine ⟨l, b1, vs, bs, rfl, rfl, S3 _ _ hl, hb1, Nat.le_of_lt (small60 (by omega)), fun c1 nc1 => ?_⟩
      refine ⟨_, rfl, (by show 2 ≤ sizeLine; decide), fun t2 nt2 => ?_⟩
      refine ⟨(by show 1 ≤ sizeLine; decide), fun a2 na2 => ?_⟩
      generalize eG4 : upd (upd (upd H3 c1 (.lst (vs ++ bs))) t2 (.tup [V.int 1, V.int ((i + 2 : Nat) : Int)])) a2 (.lst [V.ref t2]) = H4
      have S4 : Same H3 H4 := by rw [← eG4]; exact ((Same.upd nc1).trans (Same.upd nt2)).trans (Same.upd na2)
      have hc1 : H4 c1 = some (.lst (vs ++ bs)) := by rw [← eG4]; exact Same.upd na2 _ _ (Same.upd nt2 _ _ upd_same)
      have ht2 : H4 t2 = some (.tup [V.int 1, V.int ((i + 2 : Nat) : Int)]) := by rw [← eG4]; exact Same.upd na2 _ _ upd_same
      have ha2 : H4 a2 = some (.lst [V.ref t2]) := by rw [← eG4, upd_same]
      refine ⟨c1, a2, _, _, rfl, rfl, hc1, ha2, Nat.le_of_lt (small60 (by rw [List.length_append, List.length_singleton]; omega)), fun d1 nd1 => ?_⟩
      have S5 : Same H4 (upd H4 d1 (.lst (vs ++ bs ++ [V.ref t2]))) := Same.upd nd1
      refine ⟨_, rfl, _, _, rfl, rfl, d1, _, ps ++ qs ++ [((1 : Int), ((i + 2 : Nat) : Int))], rfl, ((S2.trans S3).trans S4).trans S5, ⟨_, upd_same, ?_⟩, ?_, by omega⟩
      · exact ((hP.keep (Tk.same ((S3.trans S4).trans S5))).append (PB.keep (Tk.same (S4.trans S5)))).append (PairsV.one ⟨t2, rfl, S5 _ _ ht2⟩)
      · rw [List.length_append, List.length_append, List.length_singleton]
        omega
    · rintro σ H2 ⟨l, u, ps, rfl, S2, PA, el, i4⟩
      obtain ⟨vs, hl, hP⟩ := id PA
      refine ⟨_, rfl, _, rfl, _, rfl, l, vs, rfl, SqL.of hl, fun s1 ns1 => ?_⟩
      rw [cut59]
      refine ⟨(by show 2 ≤ sizeLine; decide), fun t2 nt2 => ?_⟩
      refine ⟨(by show 1 ≤ sizeLine; decide), fun a2 na2 => ?_⟩
      generalize eG4 : upd (upd (upd H2 s1 (.lst (vs.take 59))) t2 (.tup [V.int 0, V.int 1])) a2 (.lst [V.ref t2]) = H4
      have S4 : Same H2 H4 := by rw [← eG4]; exact ((Same.upd ns1).trans (Same.upd nt2)).trans (Same.upd na2)
      have hs1 : H4 s1 = some (.lst (vs.take 59)) := by rw [← eG4]; exact Same.upd na2 _ _ (Same.upd nt2 _ _ upd_same)
      have ht2 : H4 t2 = some (.tup [V.int 0, V.int 1]) := by rw [← eG4]; exact Same.upd na2 _ _ upd_same
      have ha2 : H4 a2 = some (.lst [V.ref t2]) := by rw [← eG4, upd_same]
      have lt : (vs.take 59).length ≤ 59 := by
        rw [List.length_take]
        omega
      refine ⟨s1, a2, _, _, rfl, rfl, hs1, ha2, Nat.le_of_lt (small60 (by rw [List.length_singleton]; omega)), fun d1 nd1 => ?_⟩
      have S5 : Same H4 (upd H4 d1 (.lst (vs.take 59 ++ [V.ref t2]))) := Same.upd nd1
      refine ⟨(by show 2 ≤ sizeLine; decide), fun t nt => ?_⟩
      have S6 := Same.upd (o := .tup [.int (((2 + (r1 : Int) - 1).toNat + 2 : Nat) : Int), .ref d1]) nt
      have SS := ((S2.trans S4).trans S5).trans S6
      refine k _ t d1 ((2 + (r1 : Int) - 1).toNat + 2) (ps.take 59 ++ [((0 : Int), (1 : Int))]) (Same.but2 B1 SS) (P1.same SS) upd_same ⟨_, S6 _ _ upd_same, ?_⟩ (by omega) (by omega) (by simp) ?_
      · exact ((hP.take 59).keep (Tk.same ((S4.trans S5).trans S6))).append (PairsV.one ⟨t2, rfl, S6 _ _ (S5 _ _ ht2)⟩)
      · rw [List.length_append, List.length_take, List.length_singleton]
        omega
end
end K32

namespace K32
open PySem L2 Tie
/-- a new pair goes to the end of a list -/
theorem app_pair {H : Hp} {l t : Addr} {vs : List V} {ps : List Pr} {x : Pr} (hl : H l = some (.lst vs)) (hP : PairsV H vs ps) (nt : H t = none) :
    (upd H t (.tup [.int x.1, .int x.2])) l = some (.lst vs) ∧ PairsV (upd (upd H t (.tup [.int x.1, .int x.2])) l (.lst (vs ++ [V.ref t]))) (vs ++ [V.ref t]) (ps ++ [x]) ∧
    Tk H (upd (upd H t (.tup [.int x.1, .int x.2])) l (.lst (vs ++ [V.ref t]))) ∧ But l H (upd (upd H t (.tup [.int x.1, .int x.2])) l (.lst (vs ++ [V.ref t]))) := by
  have ntl : t ≠ l := (ne_of_none hl nt).symm
  have T2 : Tk H (upd (upd H t (.tup [.int x.1, .int x.2])) l (.lst (vs ++ [V.ref t]))) := fun d xs e => by
    rw [upd_ne (ne_of e hl (by intro z; cases z))]
    exact Same.upd nt _ _ e
  refine ⟨Same.upd nt _ _ hl, (hP.keep T2).append (PairsV.one ⟨t, rfl, ?_⟩), T2, fun b o e n => ?_⟩
  · rw [upd_ne ntl, upd_same]
  · rw [upd_ne n]
    exact Same.upd nt _ _ e
theorem But.same {H0 H H' : Hp} {l : Addr} (B : But l H H') (S : Same H0 H) (n0 : H0 l = none) : Same H0 H' := fun b o e => B b o (S b o e) (ne_of_none e n0)
def spClosed : Sp := fun vs H Q _ => ∃ m : Nat, vs = [.int (m : Int)] ∧ (m = 2 ∨ m = 3) ∧
  ∀ (H' : Hp) (r l : Addr) (ps : List Pr), Same H H' → H' r = some (.tup [.int ((2 + 2 * m + m * m : Nat) : Int), .ref l]) → PairsAt H' l ps → 0 < ps.length → ps.length ≤ 14 * m + 1 → Q (.ref r) H'
def spClosedBy : Sp := fun vs H Q _ => ∃ (p c : Addr) (m : Nat), vs = [.ref p] ∧ Pu H p c m ∧ m ≤ 900000 ∧
  ∀ (H' : Hp) (r l : Addr) (many : Nat) (ps : List Pr), But2 p c H H' → Pu H' p c (m + 3) → H' r = some (.tup [.int (many : Int), .ref l]) → PairsAt H' l ps → 0 < many → many ≤ 60 → 0 < ps.length → ps.length ≤ 60 → Q (.ref r) H'
section
variable {P : Program} {w : World} {K : PySem.W.Frag} {mg : Str → Option Value} {base : Heap}
abbrev nClosed : List Str := ["_law_many", "_law_pairs", "_law_own", "_law_b", "_law_a", "_law_far"]
theorem scClosed : FnScope nClosed ["_law_many"] (defScope sClosed) := ⟨rfl, rfl, rfl, by decide +kernel, rfl, by decide +kernel, by decide +kernel⟩
theorem ok_closed {f : Addr} {fd : FuncData} (F : Fun K "_law_closed" "_law_closed" sClosed f fd) (range : mg "range" = none) : FnOk P w K mg base CX0 1 f fd ["_law_many"] spClosed := by
  refine F.ok scClosed (fun vs H Q E h => ?_) (fun cdv A outer s H vs Q E hr h => ?_)
  · obtain ⟨m, rfl, _⟩ := h
    rfl
  · obtain ⟨m, rfl, hm, k⟩ := h
    have m3 : m ≤ 3 := by omega
    have m2 : 2 ≤ m := by omega
    refine ⟨_, pss_cons (ps_set (i := 1) scClosed.nd rfl (.inl rfl) (pe_lst pa_nil))
      (pss_cons (ps_set (i := 2) scClosed.nd rfl (.inl rfl) (pe_lst pa_nil))
      (pss_cons (ps_for PassesOwn.never rfl (pi_range1 (by rfl) range (pa_cons (pv 0) pa_nil)) (pg_name (i := 3) scClosed.nd rfl (.inl rfl))
        (pss_cons (ps_expr (pe_bm PySem.F.plainAttrs_list PySem.F.slot_list_append PySem.F.type_list_append mt_append (pv 1) (pa_cons (pe_tup (pa_cons pe_int (pa_cons (pe_op op_add pe_int (pv 3)) pa_nil))) pa_nil)))
        (pss_one (ps_for PassesOwn.never rfl (pi_range1 (by rfl) range (pa_cons (pv 0) pa_nil)) (pg_name (i := 4) scClosed.nd rfl (.inr rfl))
          (pss_cons (ps_set (i := 5) scClosed.nd rfl (.inl rfl) (pe_op op_add (pe_op op_add (pe_op op_add pe_int (pe_op op_mul pe_int (pv 0))) (pe_op op_mul (pv 0) (pv 4))) (pv 3)))
          (pss_cons (ps_expr (pe_bm PySem.F.plainAttrs_list PySem.F.slot_list_append PySem.F.type_list_append mt_append (pv 1) (pa_cons (pe_tup (pa_cons (pe_op op_add (pe_op op_add pe_int (pv 0)) (pv 4)) (pa_cons (pv 5) pa_nil))) pa_nil)))
          (pss_one (ps_set (i := 2) scClosed.nd rfl (.inl rfl) (pe_op op_cat (pv 2) (pe_op op_rep (pe_lst (pa_cons (pe_tup (pa_cons (pv 5) (pa_cons (pv 5) pa_nil))) pa_nil)) (pe_op op_sub (pv 0) pe_int)))))))))))
      (pss_cons (ps_set (i := 1) scClosed.nd rfl (.inl rfl) (pe_op op_cat (pe_op op_cat (pv 1) (pv 2))
        (pe_lc (own := [("_law_a", 4)]) (g := gName 4) (tt := tYes) (by rfl) scClosed.nd (pi_range1 (by rfl) range (pa_cons (pv 0) pa_nil)) (blkOk_by (N := nClosed) (sc := defScope sClosed) (by decide +kernel))
            (fun _ _ _ _ _ => pg_name (i := 4) scClosed.nd rfl (Or.inl rfl)) (fun _ _ _ _ _ => pts_nil) (fun _ _ _ _ _ => pe_tup (pa_cons pe_int (pa_cons (pe_op op_add (pe_op op_add pe_int (pv 0)) (pv 4)) pa_nil))))))
      (pss_cons (ps_for PassesOwn.never rfl (pi_range1 (by rfl) range (pa_cons (pv 0) pa_nil)) (pg_name (i := 4) scClosed.nd rfl (.inr rfl))
        (pss_one (ps_set (i := 1) scClosed.nd rfl (.inl rfl) (pe_op op_cat (pv 1)
          (pe_lc (own := [("_law_b", 3)]) (g := gName 3) (tt := tYes) (by rfl) scClosed.nd (pi_range1 (by rfl) range (pa_cons (pv 0) pa_nil)) (blkOk_by (N := nClosed) (sc := defScope sClosed) (by decide +kernel))
            (fun _ _ _ _ _ => pg_name (i := 3) scClosed.nd rfl (Or.inl rfl)) (fun _ _ _ _ _ => pts_nil) (fun _ _ _ _ _ => pe_tup (pa_cons (pe_op op_add pe_int (pv 3)) (pa_cons (pe_op op_add (pe_op op_add (pe_op op_add pe_int (pe_op op_mul pe_int (pv 0))) (pe_op op_mul (pv 0) (pv 4))) (pv 3)) pa_nil))))))))
      (pss_one (ps_ret (pe_tup (pa_cons (pe_op op_add (pe_op op_add pe_int (pe_op op_mul pe_int (pv 0))) (pe_op op_mul (pv 0) (pv 0)))
        (pa_cons (pe_op op_cat (pv 1) (pe_lst (pa_cons (pe_tup (pa_cons pe_int (pa_cons pe_int pa_nil))) pa_nil))) pa_nil))))))))), ?_⟩
    refine ⟨Nat.zero_le _, fun l1 nl1 => ?_⟩
    refine ⟨Nat.zero_le _, fun l2 nl2 => ?_⟩
    have S0 : Same H (upd (upd H l1 (.lst [])) l2 (.lst [])) := (Same.upd nl1).trans (Same.upd nl2)
    have n12 : l1 ≠ l2 := fun z => by
      rw [← z, upd_same] at nl2
      cases nl2
    refine ⟨_, rfl, (m : Int), rfl, by omega, by omega, ?_⟩
    refine for_range (lo := 0) (n := (m : Int).toNat) (fun i σ H' => ∃ (lo : Addr) (u v y : Option V) (ps qs : List Pr), σ = [some (.int (m : Int)), some (.ref l1), some (.ref lo), u, v, y] ∧ Same H H' ∧ l1 ≠ lo ∧ PairsAt H' l1 ps ∧ PairsAt H' lo qs ∧ ps.length ≤ 4 * i ∧ qs.length ≤ 6 * i ∧ i ≤ m)
      ⟨l2, none, none, none, [], [], rfl, S0, n12, ⟨[], by rw [upd_ne n12, upd_same], PairsV.nil⟩, ⟨[], upd_same, PairsV.nil⟩, Nat.zero_le _, Nat.zero_le _, Nat.zero_le _⟩ ?_ ?_
    · rintro i σ H1 hi ⟨lo, u, v, y, ps, qs, rfl, S1, nlo, PA, QA, lp, lq, im⟩
      rw [Int.zero_add]
      obtain ⟨vs, hl, hP⟩ := id PA
      have lv := hP.len
      refine ⟨_, rfl, .inl ⟨rfl, _, SqL.of hl⟩, _, rfl, _, _, rfl, rfl, (by show 2 ≤ sizeLine; decide), fun t nt => ?_⟩
      obtain ⟨a1, a2, a3, a4⟩ := app_pair (x := ((0 : Int), 2 + (i : Int))) hl hP nt
      refine ⟨l1, vs, _, rfl, rfl, a1, small60 (by omega), ?_⟩
      have S2 := a4.same S1 nl1
      obtain ⟨ws, hlo, hQ⟩ := id QA
      have QA2 : PairsAt _ lo qs := ⟨ws, a4 _ _ hlo nlo.symm, hQ.keep a3⟩
      refine ⟨_, rfl, (m : Int), rfl, by omega, by omega, ?_⟩
      refine for_range (lo := 0) (n := (m : Int).toNat) (fun j σ H' => ∃ (lo : Addr) (v y : Option V) (ps qs : List Pr), σ = [some (.int (m : Int)), some (.ref l1), some (.ref lo), some (.int (i : Int)), v, y] ∧ Same H H' ∧ l1 ≠ lo ∧ PairsAt H' l1 ps ∧ PairsAt H' lo qs ∧ ps.length ≤ 4 * i + 1 + j ∧ qs.length ≤ 6 * i + 2 * j ∧ j ≤ m)
        ⟨lo, v, y, _, qs, rfl, S2, nlo, ⟨_, upd_same, a2⟩, QA2, by rw [List.length_append, List.length_singleton]; omega, by omega, Nat.zero_le _⟩ ?_ ?_
      · rintro j σ H3 hj ⟨lo3, v3, y3, ps3, qs3, rfl, S3, nlo3, PA3, QA3, lp3, lq3, jm⟩
        rw [Int.zero_add]
        obtain ⟨vs3, hl3, hP3⟩ := id PA3
        obtain ⟨ws3, hlo3, hQ3⟩ := id QA3
        have lv3 := hP3.len
        have lw3 := hQ3.len
        refine ⟨_, rfl, _, _, rfl, rfl, .inl ⟨by decide, by decide⟩, _, _, rfl, rfl, _, rfl, _, rfl, _, _, rfl, rfl, .inl ⟨by omega, by omega⟩, _, _, rfl, rfl, _, rfl, _, _, rfl, rfl, ?_⟩
        refine ⟨_, rfl, .inl ⟨rfl, _, SqL.of hl3⟩, _, rfl, _, _, rfl, rfl, _, rfl, _, _, rfl, rfl, _, rfl, (by show 2 ≤ sizeLine; decide), fun t3 nt3 => ?_⟩
        obtain ⟨b1, b2, b3, b4⟩ := app_pair (x := (2 + (m : Int) + (j : Int), 2 + 2 * (m : Int) + (m : Int) * (j : Int) + (i : Int))) hl3 hP3 nt3
        refine ⟨l1, vs3, _, rfl, rfl, b1, small60 (by omega), ?_⟩
        have S4 := b4.same S3 nl1
        have hlo4 := b4 _ _ hlo3 nlo3.symm
        have hQ4 := hQ3.keep b3
        have PA4 : PairsAt _ l1 _ := ⟨_, upd_same, b2⟩
        revert S4 hlo4 hQ4 PA4
        generalize upd (upd H3 t3 (.tup [.int (2 + (m : Int) + (j : Int)), .int (2 + 2 * (m : Int) + (m : Int) * (j : Int) + (i : Int))])) l1 (.lst (vs3 ++ [V.ref t3])) = H4
        intro S4 hlo4 hQ4 PA4
        refine ⟨_, rfl, _, rfl, _, rfl, (by show 2 ≤ sizeLine; decide), fun t4 nt4 => ?_⟩
        refine ⟨(by show 1 ≤ sizeLine; decide), fun g4 ng4 => ?_⟩
        have e1 : ((m : Int) - 1).toNat = m - 1 := by omega
        refine ⟨_, rfl, _, _, rfl, rfl, g4, _, _, rfl, rfl, upd_same, by omega, by omega, by rw [e1]; exact Nat.le_of_lt (small60 (by show 1 * (m - 1) ≤ 100; omega)), fun c4 nc4 => ?_⟩
        rw [e1]
        generalize eG : upd (upd (upd H4 t4 (.tup [V.int (2 + 2 * (m : Int) + (m : Int) * (j : Int) + (i : Int)), V.int (2 + 2 * (m : Int) + (m : Int) * (j : Int) + (i : Int))])) g4 (.lst [V.ref t4])) c4 (.lst (List.replicate (m - 1) [V.ref t4]).flatten) = H5
        have S5 : Same H4 H5 := by rw [← eG]; exact ((Same.upd nt4).trans (Same.upd ng4)).trans (Same.upd nc4)
        have ht5 : H5 t4 = some (.tup [V.int (2 + 2 * (m : Int) + (m : Int) * (j : Int) + (i : Int)), V.int (2 + 2 * (m : Int) + (m : Int) * (j : Int) + (i : Int))]) := by rw [← eG]; exact Same.upd nc4 _ _ (Same.upd ng4 _ _ upd_same)
        have hc5 : H5 c4 = some (.lst (List.replicate (m - 1) [V.ref t4]).flatten) := by rw [← eG, upd_same]
        have PB : PairsV H5 (List.replicate (m - 1) [V.ref t4]).flatten (List.replicate (m - 1) [((2 + 2 * (m : Int) + (m : Int) * (j : Int) + (i : Int), 2 + 2 * (m : Int) + (m : Int) * (j : Int) + (i : Int)) : Pr)]).flatten := (PairsV.one ⟨t4, rfl, ht5⟩).rep _
        have lB := rep_len (m - 1) (V.ref t4)
        have lB2 := PB.len
        rw [lB] at lB2
        generalize (List.replicate (m - 1) [V.ref t4]).flatten = bs at hc5 PB lB
        generalize (List.replicate (m - 1) [((2 + 2 * (m : Int) + (m : Int) * (j : Int) + (i : Int), 2 + 2 * (m : Int) + (m : Int) * (j : Int) + (i : Int)) : Pr)]).flatten = rs at PB lB2
        refine ⟨lo3, c4, ws3, bs, rfl, rfl, S5 _ _ hlo4, hc5, Nat.le_of_lt (small60 (by omega)), fun d5 nd5 => ?_⟩
        have S6 : Same H5 (upd H5 d5 (.lst (ws3 ++ bs))) := Same.upd nd5
        have PA6 := (PA4.same S5).same S6
        have nl5 : l1 ≠ d5 := fun z => by
          obtain ⟨_, q, _⟩ := PA4.same S5
          exact ne_of_none q nd5 z
        refine ⟨d5, _, _, _, qs3 ++ rs, rfl, (S4.trans S5).trans S6, nl5, PA6, ⟨_, upd_same, (hQ4.keep (Tk.same (S5.trans S6))).append (PB.keep (Tk.same S6))⟩, ?_, ?_, by omega⟩
        · rw [List.length_append, List.length_singleton]
          omega
        · rw [List.length_append]
          omega
      · rintro σ H3 ⟨lo3, v3, y3, ps3, qs3, rfl, S3, nlo3, PA3, QA3, lp3, lq3, jm⟩
        exact ⟨lo3, _, _, _, ps3, qs3, rfl, S3, nlo3, PA3, QA3, by omega, by omega, by omega⟩
    · rintro σ H1 ⟨lo, u, v, y, ps, qs, rfl, S1, nlo, PA, QA, lp, lq, im⟩
      obtain ⟨vs, hl, hP⟩ := id PA
      obtain ⟨ws, hlo, hQ⟩ := id QA
      have lv := hP.len
      have lw := hQ.len
      refine ⟨_, rfl, _, rfl, l1, lo, vs, ws, rfl, rfl, hl, hlo, Nat.le_of_lt (small60 (by omega)), fun q1 nq1 => ?_⟩
      have S2 : Same H1 (upd H1 q1 (.lst (vs ++ ws))) := Same.upd nq1
      have PQ2 : PairsV (upd H1 q1 (.lst (vs ++ ws))) (vs ++ ws) (ps ++ qs) := (hP.append hQ).keep (Tk.same S2)
      refine ⟨_, rfl, (m : Int), rfl, by omega, by omega, fun D nD => ?_⟩
      refine lc_range (lo := 0) (n := (m : Int).toNat) (fun n H' => Same (upd H1 q1 (.lst (vs ++ ws))) H' ∧ ∃ xs rs, H' D = some (.lst xs) ∧ PairsV H' xs rs ∧ rs.length = n ∧ n ≤ m) ⟨Same.upd nD, [], [], upd_same, PairsV.nil, rfl, Nat.zero_le _⟩ ?_ ?_
      · rintro n H3 hn ⟨S3, xs, rs, hx, pw, el, nm⟩
        rw [Int.zero_add]
        have lx := pw.len
        refine ⟨rfl, _, rfl, _, _, rfl, rfl, _, rfl, _, _, rfl, rfl, (by show 2 ≤ sizeLine; decide), fun t nt => ?_⟩
        obtain ⟨c1, c2, c3, c4⟩ := app_pair (x := ((1 : Int), 2 + (m : Int) + (n : Int))) hx pw nt
        exact ⟨xs, c1, small60 (by omega), c4.same S3 nD, _, _, upd_same, c2, by rw [List.length_append, List.length_singleton, el], by omega⟩
      · rintro H3 ⟨S3, xs, rs, hx, pw, el, nm⟩
        have lx := pw.len
        refine ⟨q1, D, _, _, rfl, rfl, S3 _ _ upd_same, hx, Nat.le_of_lt (small60 (by rw [List.length_append]; omega)), fun q2 nq2 => ?_⟩
        have S4 : Same H3 (upd H3 q2 (.lst (vs ++ ws ++ xs))) := Same.upd nq2
        have PA4 : PairsAt (upd H3 q2 (.lst (vs ++ ws ++ xs))) q2 (ps ++ qs ++ rs) := ⟨_, upd_same, (PQ2.keep (Tk.same (S3.trans S4))).append (pw.keep (Tk.same S4))⟩
        have SS4 := ((S1.trans S2).trans S3).trans S4
        have len4 : (ps ++ qs ++ rs).length ≤ 11 * m := by
          rw [List.length_append, List.length_append]
          omega
        revert PA4 SS4 len4
        generalize ps ++ qs ++ rs = ps4
        generalize upd H3 q2 (.lst (vs ++ ws ++ xs)) = H4
        intro PA4 SS4 len4
        refine ⟨_, rfl, (m : Int), rfl, by omega, by omega, ?_⟩
        refine for_range (lo := 0) (n := (m : Int).toNat) (fun i σ H' => ∃ (l : Addr) (v : Option V) (ps : List Pr), σ = [some (.int (m : Int)), some (.ref l), some (.ref lo), u, v, y] ∧ Same H H' ∧ PairsAt H' l ps ∧ ps.length ≤ 11 * m + 3 * i ∧ i ≤ m)
          ⟨q2, v, ps4, rfl, SS4, PA4, by omega, Nat.zero_le _⟩ ?_ ?_
        · rintro i σ H5 hi ⟨l5, v5, ps5, rfl, S5, PA5, lp5, i5⟩
          rw [Int.zero_add]
          obtain ⟨vs5, hl5, hP5⟩ := id PA5
          have lv5 := hP5.len
          refine ⟨_, rfl, _, rfl, (m : Int), rfl, by omega, by omega, fun D5 nD5 => ?_⟩
          refine lc_range (lo := 0) (n := (m : Int).toNat) (fun n H' => Same H5 H' ∧ ∃ xs rs, H' D5 = some (.lst xs) ∧ PairsV H' xs rs ∧ rs.length = n ∧ n ≤ m) ⟨Same.upd nD5, [], [], upd_same, PairsV.nil, rfl, Nat.zero_le _⟩ ?_ ?_
          · rintro n H6 hn ⟨S6, xs6, rs6, hx6, pw6, el6, nm6⟩
            rw [Int.zero_add]
            have lx6 := pw6.len
            refine ⟨rfl, _, rfl, _, _, rfl, rfl, _, rfl, _, _, rfl, rfl, .inl ⟨by decide, by decide⟩, _, _, rfl, rfl, _, rfl, _, rfl, _, _, rfl, rfl, .inl ⟨by omega, by omega⟩, _, _, rfl, rfl, _, rfl, _, _, rfl, rfl, (by show 2 ≤ sizeLine; decide), fun t nt => ?_⟩
            obtain ⟨c1, c2, c3, c4⟩ := app_pair (x := (2 + (n : Int), 2 + 2 * (m : Int) + (m : Int) * (i : Int) + (n : Int))) hx6 pw6 nt
            exact ⟨xs6, c1, small60 (by omega), c4.same S6 nD5, _, _, upd_same, c2, by rw [List.length_append, List.length_singleton, el6], by omega⟩
          · rintro H6 ⟨S6, xs6, rs6, hx6, pw6, el6, nm6⟩
            have lx6 := pw6.len
            refine ⟨l5, D5, _, _, rfl, rfl, S6 _ _ hl5, hx6, Nat.le_of_lt (small60 (by omega)), fun q6 nq6 => ?_⟩
            have S7 : Same H6 (upd H6 q6 (.lst (vs5 ++ xs6))) := Same.upd nq6
            refine ⟨q6, _, ps5 ++ rs6, rfl, (S5.trans S6).trans S7, ⟨_, upd_same, (hP5.keep (Tk.same (S6.trans S7))).append (pw6.keep (Tk.same S7))⟩, ?_, by omega⟩
            rw [List.length_append]
            omega
        · rintro σ H5 ⟨l5, v5, ps5, rfl, S5, PA5, lp5, i5⟩
          obtain ⟨vs5, hl5, hP5⟩ := id PA5
          have lv5 := hP5.len
          refine ⟨_, rfl, _, _, rfl, rfl, .inl ⟨by decide, by decide⟩, _, _, rfl, rfl, _, rfl, _, rfl, _, _, rfl, rfl, .inl ⟨by omega, by omega⟩, _, _, rfl, rfl, _, rfl, ?_⟩
          refine ⟨(by show 2 ≤ sizeLine; decide), fun t2 nt2 => ?_⟩
          refine ⟨(by show 1 ≤ sizeLine; decide), fun a2 na2 => ?_⟩
          generalize eG4 : upd (upd H5 t2 (.tup [V.int 0, V.int 1])) a2 (.lst [V.ref t2]) = H6
          have S6 : Same H5 H6 := by rw [← eG4]; exact (Same.upd nt2).trans (Same.upd na2)
          have ht6 : H6 t2 = some (.tup [V.int 0, V.int 1]) := by rw [← eG4]; exact Same.upd na2 _ _ upd_same
          have ha6 : H6 a2 = some (.lst [V.ref t2]) := by rw [← eG4, upd_same]
          refine ⟨l5, a2, _, _, rfl, rfl, S6 _ _ hl5, ha6, Nat.le_of_lt (small60 (by rw [List.length_singleton]; omega)), fun d1 nd1 => ?_⟩
          have S7 : Same H6 (upd H6 d1 (.lst (vs5 ++ [V.ref t2]))) := Same.upd nd1
          refine ⟨(by show 2 ≤ sizeLine; decide), fun t nt => ?_⟩
          have em : (2 : Int) + 2 * (m : Int) + (m : Int) * (m : Int) = ((2 + 2 * m + m * m : Nat) : Int) := by
            rcases hm with rfl | rfl <;> rfl
          have S8 := Same.upd (o := .tup [.int (2 + 2 * (m : Int) + (m : Int) * (m : Int)), .ref d1]) nt
          refine k _ t d1 (ps5 ++ [((0 : Int), (1 : Int))]) (((S5.trans S6).trans S7).trans S8) ?_ ⟨_, S8 _ _ upd_same, ?_⟩ (by simp) ?_
          · rw [upd_same, ← em]
          · exact (hP5.keep (Tk.same ((S6.trans S7).trans S8))).append (PairsV.one ⟨t2, rfl, S8 _ _ (S7 _ _ ht6)⟩)
          · rw [List.length_append, List.length_singleton]
            omega
end
end K32

namespace K32
open PySem L2 Tie
theorem tupK (K : PySem.W.Frag) {X : Cx} {es : List Expr} {k : Nat} {t : TGs} {n : Nat} {pos : Pos} (h : X.K = K) (hc : X.calm = true) (hs : PGs X es t)
    (hn : (assignEach es X.env).length = n := by rfl) (hst : (assignEach es X.env).findIdx? (·.1) = none := by rfl) : PG X (.Tuple es k pos) (gTup K n t) := h ▸ pg_tup hc hs hn hst
section
variable {P : Program} {w : World} {K : PySem.W.Frag} {mg : Str → Option Value} {base : Heap}
abbrev nClosedBy : List Str := ["_law_purse_here", "_law_many", "_law_pairs", "_law_one", "_law_other"]
theorem scClosedBy : FnScope nClosedBy ["_law_purse_here"] (defScope sClosedBy) := ⟨rfl, rfl, rfl, by decide +kernel, rfl, by decide +kernel, by decide +kernel⟩
theorem ok_closed_by {f fD fC : Addr} {fd fdD fdC : FuncData} (F : Fun K "_law_closed_by" "_law_closed_by" sClosedBy f fd) (mgD : mg "_law_draw" = some (.ref fD)) (kD : PySem.W.keepIn K (.ref fD) = true)
    (GD : FnOk P w K mg base CX0 1 fD fdD ["_law_purse_here", "_law_out_of"] spDraw) (bD : Binds K fdD ["_law_purse_here", "_law_out_of"] [])
    (mgC : mg "_law_closed" = some (.ref fC)) (kC : PySem.W.keepIn K (.ref fC) = true) (GC : FnOk P w K mg base CX0 1 fC fdC ["_law_many"] spClosed) (bC : Binds K fdC ["_law_many"] []) : FnOk P w K mg base CX0 2 f fd ["_law_purse_here"] spClosedBy := by
  refine F.ok scClosedBy (fun vs H Q E h => ?_) (fun cdv A outer s H vs Q E hr h => ?_)
  · obtain ⟨p, c, m, rfl, _⟩ := h
    rfl
  · obtain ⟨p, c, m, rfl, PU, hm, k⟩ := h
    refine ⟨_, pss_cons (ps_asg (pe_call GC hr (by rfl) mgC kC bC .nil pass0 (pa_cons (pe_op op_add pe_int (pe_call GD hr (by rfl) mgD kD bD .nil pass0 (pa_cons (pv 0) (pa_cons pe_int pa_nil)))) pa_nil))
        (pg_tup (by rfl) (pgs_cons (pg_name (i := 1) scClosedBy.nd rfl (.inr rfl)) (pgs_cons (pg_name (i := 2) scClosedBy.nd rfl (.inl rfl)) pgs_nil))))
      (pss_cons (ps_if (PW.pt (pw_and (pt_cmpR op_lt (pv 1) pe_int (nomark _)) (pw_and1 (pt_cmpR op_eq (pe_call GD hr (by rfl) mgD kD bD .nil pass0 (pa_cons (pv 0) (pa_cons pe_int pa_nil))) pe_int (nomark _)))))
        (pss_cons (ps_set (i := 2) scClosedBy.nd rfl (.inl rfl) (pe_op op_cat (pv 2)
          (pe_lc (own := [("_law_one", 3), ("_law_other", 4)]) (g := gTup K 2 (gCons (gName 3) (gCons (gName 4) gNil))) (tt := tYes) (by rfl) scClosedBy.nd (pi_list (pv 2)) (blkOk_by (N := nClosedBy) (sc := defScope sClosedBy) (by decide +kernel))
            (fun _ _ _ _ _ => tupK K rfl rfl (pgs_cons (pg_name (i := 3) scClosedBy.nd rfl (Or.inl rfl)) (pgs_cons (pg_name (i := 4) scClosedBy.nd rfl (Or.inl rfl)) pgs_nil))) (fun _ _ _ _ _ => pts_nil)
            (fun _ _ _ _ _ => pe_tup (pa_cons (pe_op op_add (pv 3) (pv 1)) (pa_cons (pe_op op_add (pv 4) (pv 1)) pa_nil))))))
        (pss_one (ps_set (i := 1) scClosedBy.nd rfl (.inr rfl) (pe_op op_mul pe_int (pv 1))))) pss_nil)
      (pss_one (ps_ret (pe_tup (pa_cons (pe_op op_add (pv 1) (pe_call GD hr (by rfl) mgD kD bD .nil pass0 (pa_cons (pv 0) (pa_cons pe_int pa_nil)))) (pa_cons (pv 2) pa_nil)))))), ?_⟩
    refine ⟨_, rfl, p, c, m, 2, rfl, PU, by omega, by omega, by omega, fun H1 r1 P1 B1 hr1 => ?_⟩
    have ev : ([V.int (2 + (r1 : Int))] : List V) = [V.int ((2 + r1 : Nat) : Int)] := by
      rw [Int.natCast_add]
      rfl
    refine ⟨_, _, rfl, rfl, 2 + r1, ev, by omega, fun H2 r l ps S2 hr2 PA h0 hl => ?_⟩
    have P2 := P1.same S2
    have B2 : But2 p c H H2 := Same.but2 B1 S2
    refine ⟨r, _, rfl, SqT.of hr2, rfl, _, _, rfl, _, _, rfl, rfl, ?_⟩
    have cs : r1 = 0 ∨ r1 = 1 := by omega
    rcases cs with rfl | rfl
    · refine ⟨_, rfl, _, _, rfl, rfl, _, rfl, ifT (by decide) ?_⟩
      refine ⟨_, rfl, p, c, m + 1, 2, rfl, P2, by omega, by omega, by omega, fun H3 r3 P3 B3 hr3 => ?_⟩
      have PA3 := PA.but2 P2 B3
      refine ⟨rfl, _, rfl, if2 (fun _ => ?_) (fun _ => ?_)⟩
      · obtain ⟨vs, hvl, hP⟩ := id PA3
        have lv := hP.len
        refine ⟨_, rfl, _, rfl, l, rfl, ⟨_, SqL.of hvl⟩, fun D nD => ?_⟩
        refine lc_list (K := K) (a := l) (xs := vs) (fun i H' => Same H3 H' ∧ ∃ xs rs, H' D = some (.lst xs) ∧ PairsV H' xs rs ∧ rs.length = i ∧ i ≤ 30) ⟨Same.upd nD, [], [], upd_same, PairsV.nil, rfl, Nat.zero_le _⟩ (fun i H' _ ⟨S4, _⟩ => SqL.of (S4 _ _ hvl)) ?_ ?_
        · rintro i y H4 hi ⟨S4, xs, rs, hx, pw, el, i30⟩
          obtain ⟨x, e1, a, rfl, e2⟩ := hP.get hi
          have il : i < ps.length := (List.getElem?_eq_some_iff.mp e1).1
          have lx := pw.len
          refine ⟨a, _, rfl, SqT.of (S4 _ _ e2), rfl, _, _, rfl, _, _, rfl, rfl, rfl, _, rfl, _, rfl, _, _, rfl, rfl, _, rfl, _, rfl, _, _, rfl, rfl, (by show 2 ≤ sizeLine; decide), fun t nt => ?_⟩
          obtain ⟨c1, c2, c3, c4⟩ := app_pair (x := (x.1 + ((2 + 2 * (2 + 0) + (2 + 0) * (2 + 0) : Nat) : Int), x.2 + ((2 + 2 * (2 + 0) + (2 + 0) * (2 + 0) : Nat) : Int))) hx pw nt
          exact ⟨xs, c1, small60 (by omega), c4.same S4 nD, _, _, upd_same, c2, by rw [List.length_append, List.length_singleton, el], by omega⟩
        · rintro H4 ⟨S4, xs, rs, hx, pw, el, i30⟩
          have lx := pw.len
          refine ⟨l, D, _, _, rfl, rfl, S4 _ _ hvl, hx, Nat.le_of_lt (small60 (by omega)), fun q nq => ?_⟩
          have S5 : Same H4 (upd H4 q (.lst (vs ++ xs))) := Same.upd nq
          have PA5 : PairsAt (upd H4 q (.lst (vs ++ xs))) q (ps ++ rs) := ⟨_, upd_same, (hP.keep (Tk.same (S4.trans S5))).append (pw.keep (Tk.same S5))⟩
          have P5 := (P3.same S4).same S5
          have B5 : But2 p c H (upd H4 q (.lst (vs ++ xs))) := Same.but2 (Same.but2 (B2.trans B3) S4) S5
          have l5 : (ps ++ rs).length ≤ 60 := by
            rw [List.length_append]
            omega
          have l50 : 0 < (ps ++ rs).length := by
            rw [List.length_append]
            omega
          refine ⟨_, rfl, _, _, rfl, rfl, .inl ⟨by decide, by decide⟩, ?_⟩
          refine ⟨_, rfl, _, rfl, p, c, m + 2, 4, rfl, P5, by omega, by omega, by omega, fun H6 r6 P6 B6 hr6 => ?_⟩
          refine ⟨_, _, rfl, rfl, _, rfl, (by show 2 ≤ sizeLine; decide), fun t nt => ?_⟩
          have PA6 := PA5.but2 P5 B6
          have S7 := Same.upd (o := .tup [.int (2 * ((2 + 2 * (2 + 0) + (2 + 0) * (2 + 0) : Nat) : Int) + (r6 : Int)), .ref q]) nt
          refine k _ t q (20 + r6) _ (Same.but2 (B5.trans B6) S7) (P6.same S7) ?_ (PA6.same S7) (by omega) (by omega) l50 l5
          rw [upd_same, Int.natCast_add]
          rfl
      · refine ⟨_, rfl, _, rfl, p, c, m + 2, 4, rfl, P3, by omega, by omega, by omega, fun H6 r6 P6 B6 hr6 => ?_⟩
        refine ⟨_, _, rfl, rfl, _, rfl, (by show 2 ≤ sizeLine; decide), fun t nt => ?_⟩
        have PA6 := PA3.but2 P3 B6
        have S7 := Same.upd (o := .tup [.int (((2 + 2 * (2 + 0) + (2 + 0) * (2 + 0) : Nat) : Int) + (r6 : Int)), .ref l]) nt
        refine k _ t l (10 + r6) _ (Same.but2 ((B2.trans B3).trans B6) S7) (P6.same S7) ?_ (PA6.same S7) (by omega) (by omega) h0 (by omega)
        rw [upd_same, Int.natCast_add]
        rfl
    · refine ⟨_, rfl, _, _, rfl, rfl, _, rfl, ifF (by decide) ?_⟩
      refine ⟨_, rfl, _, rfl, p, c, m + 1, 4, rfl, P2, by omega, by omega, by omega, fun H6 r6 P6 B6 hr6 => ?_⟩
      refine ⟨_, _, rfl, rfl, _, rfl, (by show 2 ≤ sizeLine; decide), fun t nt => ?_⟩
      have PA6 := PA.but2 P2 B6
      have S7 := Same.upd (o := .tup [.int (((2 + 2 * (2 + 1) + (2 + 1) * (2 + 1) : Nat) : Int) + (r6 : Int)), .ref l]) nt
      refine k _ t l (17 + r6) _ (Same.but2 (B2.trans B6) S7) ((P6.same S7).le (by omega)) ?_ (PA6.same S7) (by omega) (by omega) h0 (by omega)
      rw [upd_same, Int.natCast_add]
      rfl
end
end K32

namespace K32
open PySem L2 Tie
theorem Pu.but {H H' : Hp} {p c l : Addr} {n : Nat} (h : Pu H p c n) (B : But l H H') (n1 : l ≠ p) (n2 : l ≠ c) : Pu H' p c n := by
  obtain ⟨cs, t, a, b, r⟩ := h.ex
  exact ⟨cs, t, B _ _ a n1.symm, B _ _ b n2.symm, r⟩
theorem prod_le {a b : Nat} (ha : a < 2) (hb : b < 5) : a * b ≤ 4 := by
  have : a = 0 ∨ a = 1 := by omega
  rcases this with rfl | rfl <;> omega
theorem lot_ok {size n : Nat} {b m : Int} {ps : List Pr} {hs : List Int} (hsz : size = 3 ∨ size = 5) (LP : LotPs (size : Int) ps) (el : hs.length = (ps.map (turnP m b)).length) (pr : Proper (pF (ps.map (turnP m b))) (cF hs) hs.length) (en : n = (ddup hs).length) :
    ¬ (((n : Nat) : Int) * ((size : Int) / 2) < ((ps.length : Nat) : Int)) ∧ (size = 3 → n = ps.length) := by
  rw [List.length_map] at el
  rcases hsz with rfl | rfl
  · have := lot3 LP el pr
    refine ⟨?_, fun _ => by omega⟩
    show ¬ (((n : Nat) : Int) * 1 < _)
    omega
  · have := lot5 LP el pr
    refine ⟨?_, fun z => by omega⟩
    show ¬ (((n : Nat) : Int) * 2 < _)
    omega
def spLaw (K : PySem.W.Frag) : Sp := fun vs H Q _ => ∃ (a : Addr) (ns : List Int), vs = [.ref a] ∧ SqL K H a (ns.map V.int) ∧ ns.length ≤ 63 ∧ ∀ H', Q (.bl true) H'
section
variable {P : Program} {w : World} {K : PySem.W.Frag} {mg : Str → Option Value} {base : Heap}
abbrev nLaw : List Str := ["_law_script", "_law_purse_here", "_law_turn", "_law_size", "_law_pairs", "_law_half", "_law_crossing", "_law_many", "_law_k"]
theorem scLaw : FnScope nLaw ["_law_script"] (defScope sLaw) := ⟨rfl, rfl, rfl, by decide +kernel, rfl, by decide +kernel, by decide +kernel⟩
theorem ok_law {f fP fL fD fT fG fS fKn fCB : Addr} {fd fdP fdL fdD fdT fdG fdS fdK fdCB : FuncData} (F : Fun K "law" "law" sLaw f fd) (range : mg "range" = none) (len : mg "len" = none)
    (mgP : mg "_law_purse" = some (.ref fP)) (kP : PySem.W.keepIn K (.ref fP) = true) (GP : FnOk P w K mg base CX0 1 fP fdP ["_law_script"] (spPurse K)) (bP : Binds K fdP ["_law_script"] [])
    (mgL : mg "_law_lot" = some (.ref fL)) (kL : PySem.W.keepIn K (.ref fL) = true) (GL : FnOk P w K mg base CX0 2 fL fdL ["_law_purse_here"] spLot) (bL : Binds K fdL ["_law_purse_here"] [])
    (mgD : mg "_law_draw" = some (.ref fD)) (kD : PySem.W.keepIn K (.ref fD) = true) (GD : FnOk P w K mg base CX0 1 fD fdD ["_law_purse_here", "_law_out_of"] spDraw) (bD : Binds K fdD ["_law_purse_here", "_law_out_of"] [])
    (mgT : mg "_law_turned" = some (.ref fT)) (kT : PySem.W.keepIn K (.ref fT) = true) (GT : FnOk P w K mg base CX0 1 fT fdT ["_law_many", "_law_by", "_law_pairs"] spTurned) (bT : Binds K fdT ["_law_many", "_law_by", "_law_pairs"] [])
    (mgG : mg "_law_good" = some (.ref fG)) (kG : PySem.W.keepIn K (.ref fG) = true) (GG : FnOk P w K mg base CX0 7 fG fdG ["_law_crossing"] spGood) (bG : Binds K fdG ["_law_crossing"] [])
    (mgS : mg "_law_stirred" = some (.ref fS)) (kS : PySem.W.keepIn K (.ref fS) = true) (GS : FnOk P w K mg base CX0 2 fS fdS ["_law_purse_here", "_law_pairs"] spStir) (bS : Binds K fdS ["_law_purse_here", "_law_pairs"] [])
    (mgK : mg "_law_knot" = some (.ref fKn)) (kK : PySem.W.keepIn K (.ref fKn) = true) (GK : FnOk P w K mg base CX0 2 fKn fdK ["_law_purse_here"] spKnot) (bK : Binds K fdK ["_law_purse_here"] [])
    (mgC : mg "_law_closed_by" = some (.ref fCB)) (kC : PySem.W.keepIn K (.ref fCB) = true) (GC : FnOk P w K mg base CX0 2 fCB fdCB ["_law_purse_here"] spClosedBy) (bC : Binds K fdCB ["_law_purse_here"] []) :
    FnOk P w K mg base CX0 8 f fd ["_law_script"] (spLaw K) := by
  refine F.ok scLaw (fun vs H Q E h => ?_) (fun cdv A outer s H vs Q E hr h => ?_)
  · obtain ⟨a, ns, rfl, _⟩ := h
    rfl
  · obtain ⟨a, ns, rfl, hS, hn, k⟩ := h
    have hr1 : Room 1 _ := hr.mono (by decide)
    have hr2 : Room 2 _ := hr.mono (by decide)
    refine ⟨_, pss_cons (ps_set (i := 1) scLaw.nd rfl (.inl rfl) (pe_call GP hr1 (by rfl) mgP kP bP .nil pass0 (pa_cons (pv 0) pa_nil)))
      (pss_cons (ps_for PassesOwn.never rfl (pi_range1 (by rfl) range (pa_cons pe_int pa_nil)) (pg_name (i := 2) scLaw.nd rfl (.inl rfl))
        (pss_cons (ps_asg (pe_call GL hr2 (by rfl) mgL kL bL .nil pass0 (pa_cons (pv 1) pa_nil)) (pg_tup (by rfl) (pgs_cons (pg_name (i := 3) scLaw.nd rfl (.inl rfl)) (pgs_cons (pg_name (i := 4) scLaw.nd rfl (.inl rfl)) pgs_nil))))
        (pss_cons (ps_set (i := 5) scLaw.nd rfl (.inl rfl) (pe_op op_fdiv (pv 3) pe_int))
        (pss_cons (ps_set (i := 6) scLaw.nd rfl (.inl rfl) (pe_call GT hr1 (by rfl) mgT kT bT .nil pass0 (pa_cons (pe_op op_add (pv 3) pe_int) (pa_cons (pe_call GD hr1 (by rfl) mgD kD bD .nil pass0 (pa_cons (pv 1) (pa_cons (pe_op op_add (pv 3) pe_int) pa_nil))) (pa_cons (pv 4) pa_nil)))))
        (pss_cons (ps_set (i := 7) scLaw.nd rfl (.inl rfl) (pe_call GG hr (by rfl) mgG kG bG .nil pass0 (pa_cons (pv 6) pa_nil)))
        (pss_cons (ps_if (PW.pt (pw_or (pt_cmp (pc_isN (pv 7))) (pw_or (pt_cmpR op_lt (pe_op op_mul (pv 7) (pv 5)) (pe_callB call_len_seq (by rfl) len PySem.boot_len (pa_cons (pv 4) pa_nil)) (nomark _))
          (pw_or1 (PW.pt (pw_and (pt_cmpR op_eq (pv 3) pe_int (nomark _)) (pw_and1 (pt_cmpR op_ne (pv 7) (pe_callB call_len_seq (by rfl) len PySem.boot_len (pa_cons (pv 4) pa_nil)) (nomark _))))))))) pss_never pss_nil)
        (pss_cons (ps_if (pt_cmp (pc_isN (pe_call GG hr (by rfl) mgG kG bG .nil pass0 (pa_cons (pe_tup (pa_cons (pe_ix ix_tup (pv 6) pe_int (fun _ _ => rfl)) (pa_cons (pe_call GS hr2 (by rfl) mgS kS bS .nil pass0 (pa_cons (pv 1) (pa_cons (pe_ix ix_tup (pv 6) pe_int (fun _ _ => rfl)) pa_nil))) pa_nil))) pa_nil)))) pss_never pss_nil)
        (pss_cons (ps_asg (pe_call GK hr2 (by rfl) mgK kK bK .nil pass0 (pa_cons (pv 1) pa_nil)) (pg_tup (by rfl) (pgs_cons (pg_name (i := 7) scLaw.nd rfl (.inl rfl)) (pgs_cons (pg_name (i := 4) scLaw.nd rfl (.inl rfl)) pgs_nil))))
        (pss_cons (ps_for PassesOwn.never rfl (pi_range1 (by rfl) range (pa_cons (pe_op op_mul (pe_call GD hr1 (by rfl) mgD kD bD .nil pass0 (pa_cons (pv 1) (pa_cons pe_int pa_nil))) (pe_call GD hr1 (by rfl) mgD kD bD .nil pass0 (pa_cons (pv 1) (pa_cons pe_int pa_nil)))) pa_nil)) (pg_name (i := 8) scLaw.nd rfl (.inl rfl))
          (pss_one (ps_expr (pe_bm PySem.F.plainAttrs_list PySem.F.slot_list_append PySem.F.type_list_append mt_append (pv 4) (pa_cons (pe_tup (pa_cons (pe_call GD hr1 (by rfl) mgD kD bD .nil pass0 (pa_cons (pv 1) (pa_cons pe_int pa_nil))) (pa_cons (pe_op op_sub (pv 7) pe_int) pa_nil))) pa_nil)))))
        (pss_cons (ps_set (i := 6) scLaw.nd rfl (.inl rfl) (pe_call GT hr1 (by rfl) mgT kT bT .nil pass0 (pa_cons (pe_op op_add (pv 7) pe_int) (pa_cons (pe_call GD hr1 (by rfl) mgD kD bD .nil pass0 (pa_cons (pv 1) (pa_cons (pe_op op_add (pv 7) pe_int) pa_nil))) (pa_cons (pe_slice sl_list (pv 4) po_none (po_some pe_int)) pa_nil)))))
        (pss_cons (ps_if (PW.pt (pw_or (pt_cmp (pc_isN (pe_call GG hr (by rfl) mgG kG bG .nil pass0 (pa_cons (pv 6) pa_nil))))
          (pw_or1 (pt_cmp (pc_isN (pe_call GG hr (by rfl) mgG kG bG .nil pass0 (pa_cons (pe_tup (pa_cons (pe_op op_add (pv 7) pe_int) (pa_cons (pe_call GS hr2 (by rfl) mgS kS bS .nil pass0 (pa_cons (pv 1) (pa_cons (pe_ix ix_tup (pv 6) pe_int (fun _ _ => rfl)) pa_nil))) pa_nil))) pa_nil))))))) pss_never pss_nil)
        (pss_cons (ps_asg (pe_call GC hr2 (by rfl) mgC kC bC .nil pass0 (pa_cons (pv 1) pa_nil)) (pg_tup (by rfl) (pgs_cons (pg_name (i := 7) scLaw.nd rfl (.inl rfl)) (pgs_cons (pg_name (i := 4) scLaw.nd rfl (.inl rfl)) pgs_nil))))
        (pss_cons (ps_set (i := 6) scLaw.nd rfl (.inl rfl) (pe_call GT hr1 (by rfl) mgT kT bT .nil pass0 (pa_cons (pv 7) (pa_cons (pe_call GD hr1 (by rfl) mgD kD bD .nil pass0 (pa_cons (pv 1) (pa_cons (pv 7) pa_nil))) (pa_cons (pv 4) pa_nil)))))
        (pss_one (ps_if (PW.pt (pw_or (pt_cmp (pc_isN (pe_call GG hr (by rfl) mgG kG bG .nil pass0 (pa_cons (pv 6) pa_nil))))
          (pw_or1 (pt_cmp (pc_isN (pe_call GG hr (by rfl) mgG kG bG .nil pass0 (pa_cons (pe_tup (pa_cons (pv 7) (pa_cons (pe_call GS hr2 (by rfl) mgS kS bS .nil pass0 (pa_cons (pv 1) (pa_cons (pe_ix ix_tup (pv 6) pe_int (fun _ _ => rfl)) pa_nil))) pa_nil))) pa_nil))))))) pss_never pss_nil)))))))))))))))
      (pss_one (ps_ret pe_bl))), ?_⟩
    refine ⟨_, rfl, a, ns, rfl, hS, hn, fun H0 p c S0 P0 => ?_⟩
    refine ⟨4, rfl, by decide, by decide, ?_⟩
    refine for_range (lo := 0) (n := (4 : Int).toNat) (fun i σ H' => (∃ u2 u3 u4 u5 u6 u7 u8, σ = [some (.ref a), some (.ref p), u2, u3, u4, u5, u6, u7, u8]) ∧ Pu H' p c (i * 300) ∧ i ≤ 4)
      ⟨⟨_, _, _, _, _, _, _, rfl⟩, P0.le (by omega), Nat.zero_le _⟩ ?_ ?_
    · rintro i σ H1 hi ⟨⟨u2, u3, u4, u5, u6, u7, u8, rfl⟩, P1, i4⟩
      generalize em : i * 300 = m at P1
      have i3 : i < 4 := hi
      refine ⟨_, rfl, p, c, m, rfl, P1, by omega, fun H2 r2 l2 size ps B2 P2 hr2 PA2 hsz LP h0 hl => ?_⟩
      refine ⟨r2, _, rfl, SqT.of hr2, rfl, _, _, rfl, _, _, rfl, rfl, ?_⟩
      refine ⟨_, rfl, _, _, rfl, rfl, ⟨by decide, by decide⟩, ?_⟩
      have e2 : (size : Int) + 2 = ((size + 2 : Nat) : Int) := by omega
      refine ⟨_, rfl, _, _, rfl, rfl, _, rfl, _, rfl, _, _, rfl, rfl, p, c, m + 2, size + 2, (by show [V.ref p, V.int ((size : Int) + 2)] = _; rw [e2]), P2, by omega, by omega, by omega, fun H3 r3 P3 B3 hr3 => ?_⟩
      have PA3 := PA2.but2 P2 B3
      refine ⟨_, rfl, l2, size + 2, (r3 : Int), ps, (by show [V.int ((size : Int) + 2), V.int (r3 : Int), V.ref l2] = _; rw [e2]), PA3, by omega, hl, fun H4 x4 S4 C4 => ?_⟩
      have PA4 := PA3.same S4
      have P4 := P3.same S4
      have cr4 := turn_cross (m := size + 2) (b := (r3 : Int)) (by omega) ps
      refine ⟨_, rfl, x4, size + 2, _, rfl, C4, by omega, by rw [List.length_map]; exact h0, by rw [List.length_map]; exact hl, cr4, fun H5 hs S5 el pr => ?_⟩
      have PA5 := PA4.same S5
      have P5 := P4.same S5
      have C5 := C4.same S5
      obtain ⟨f1, f2⟩ := lot_ok hsz LP el pr rfl
      have dl : (ddup hs).length ≤ 60 := by
        have := ddup_le hs
        rw [el, List.length_map] at this
        omega
      generalize (ddup hs).length = n at f1 f2 dl
      obtain ⟨vs5, hv5, pv5⟩ := id PA5
      have lv5 := pv5.len
      rw [← lv5] at f1 f2
      refine ⟨_, rfl, _, rfl, ifF (by intro z; cases z) ?_⟩
      refine ⟨_, rfl, _, rfl, _, _, rfl, rfl, .inl ⟨by omega, by omega⟩, _, rfl, l2, vs5, rfl, .inl (SqL.of hv5), _, _, rfl, rfl, _, rfl, ifF f1 ?_⟩
      obtain ⟨l5, hx5, PX5⟩ := id C5
      have hlm : ∀ {b : Int} {M : Int}, (ps.map (turnP M b)).length = ps.length := fun {_} {_} => List.length_map _
      refine ⟨_, rfl, rfl, _, rfl, ?_⟩
      refine (fun r => if2 (fun e => ?_) (fun _ => iteF r)) ?_
      · have e3 : size = 3 := by
          have := V.int.inj e
          omega
        refine ⟨_, rfl, _, rfl, l2, vs5, rfl, .inl (SqL.of hv5), rfl, _, rfl, ifN (fun ne => absurd (by rw [f2 e3]) ne) (fun _ => r)⟩
      refine ⟨_, rfl, x4, _, _, _, rfl, rfl, SqT.of hx5, at_of (j := 0) rfl rfl, _, rfl, _, rfl, x4, _, _, _, rfl, rfl, SqT.of hx5, at_of (j := 1) rfl rfl, p, c, l5, m + 2 + 1, _, rfl, P5, PX5, (by rw [hlm]; exact hl), by omega, fun H6 r6 qs6 B6 P6 PA6 el6 sub6 => ?_⟩
      rw [hlm] at el6
      refine ⟨(by show 2 ≤ sizeLine; decide), fun t6 nt6 => ?_⟩
      refine ⟨t6, size + 2, qs6, rfl, ⟨r6, upd_same, PA6.same (Same.upd nt6)⟩, by omega, by omega, by omega, fun x hx => cr4 x (sub6 x hx), fun H7 hs7 S7 _ _ => ?_⟩
      have P7 := (P6.same (Same.upd nt6)).same S7
      refine ⟨_, rfl, ifF (by intro z; cases z) ?_⟩
      clear C5 C4 hx5 PX5 PA5 hv5 PA4 PA3 PA2 PA6 P6 P5 P4 P3 P2 B2 B3 B6 S4 S5 S7
      refine ⟨_, rfl, p, c, m + 2 + 1 + 60, rfl, P7, by omega, fun H8 r8 l8 many8 ps8 B8 P8 hr8 PA8 m0 m10 h08 hl8 => ?_⟩
      refine ⟨r8, _, rfl, SqT.of hr8, rfl, _, _, rfl, _, _, rfl, rfl, ?_⟩
      refine ⟨_, rfl, p, c, _, 2, rfl, P8, by omega, by omega, by omega, fun H9 r9 P9 B9 hr9 => ?_⟩
      refine ⟨_, rfl, p, c, _, 5, rfl, P9, by omega, by omega, by omega, fun H10 r10 P10 B10 hr10 => ?_⟩
      have pr4 := prod_le hr9 hr10
      have prc : (r9 : Int) * (r10 : Int) = ((r9 * r10 : Nat) : Int) := (Int.natCast_mul r9 r10).symm
      have prz : ((r9 : Int) * (r10 : Int)).toNat = r9 * r10 := by rw [prc]; rfl
      have PA10 := (PA8.but2 P8 B9).but2 P9 B10
      refine ⟨_, _, rfl, rfl, .inl ⟨by omega, by omega⟩, (r9 : Int) * (r10 : Int), rfl, by rw [prc]; omega, by rw [prc]; omega, ?_⟩
      refine for_range (lo := 0) (n := ((r9 : Int) * (r10 : Int)).toNat) (fun j σ H' => (∃ u2 u3 u5 u6 u8, σ = [some (.ref a), some (.ref p), u2, u3, some (.ref l8), u5, u6, some (.int (many8 : Int)), u8]) ∧ j ≤ 4 ∧ Pu H' p c (m + 70 + j) ∧ ∃ ps, PairsAt H' l8 ps ∧ 0 < ps.length ∧ ps.length ≤ 60 + j)
        ⟨⟨_, _, _, _, _, rfl⟩, Nat.zero_le _, P10.le (by omega), ps8, PA10, h08, by omega⟩ ?_ ?_
      · rintro j σ H11 hj ⟨⟨w2, w3, w5, w6, w8, rfl⟩, j4, P11, ps11, PA11, h11, hl11⟩
        rw [prz] at hj
        obtain ⟨vs11, hv11, _⟩ := id PA11
        refine ⟨_, rfl, .inl ⟨rfl, _, SqL.of hv11⟩, _, rfl, p, c, _, 2, rfl, P11, by omega, by omega, by omega, fun H12 r12 P12 B12 hr12 => ?_⟩
        have PA12 := PA11.but2 P11 B12
        obtain ⟨n1, n2⟩ := PA12.vs_ne P12
        obtain ⟨vs12, hv12, pv12⟩ := id PA12
        have lv12 := pv12.len
        refine ⟨_, rfl, _, _, rfl, rfl, (by show 2 ≤ sizeLine; decide), fun t nt => ?_⟩
        obtain ⟨a1, a2, a3, a4⟩ := app_pair (x := ((r12 : Int), (many8 : Int) - 1)) hv12 pv12 nt
        have lps : ps11.length ≤ 64 := by omega
        refine ⟨l8, vs12, _, rfl, rfl, a1, small60 (by omega), ?_⟩
        refine ⟨⟨_, _, _, _, _, rfl⟩, by omega, (P12.but a4 n1 n2).le (by omega), _, ⟨_, upd_same, a2⟩, by simp, ?_⟩
        rw [List.length_append, List.length_singleton]
        omega
      rintro σ H11 ⟨⟨w2, w3, w5, w6, w8, rfl⟩, j4, P11, ps11, PA11, h11, hl11⟩
      have e8 : (many8 : Int) + 1 = ((many8 + 1 : Nat) : Int) := by omega
      refine ⟨_, rfl, _, _, rfl, rfl, _, rfl, _, rfl, _, _, rfl, rfl, p, c, _, many8 + 1, (by show [V.ref p, V.int ((many8 : Int) + 1)] = _; rw [e8]), P11, by omega, by omega, by omega, fun H13 r13 P13 B13 hr13 => ?_⟩
      have PA13 := PA11.but2 P11 B13
      obtain ⟨vs13, hv13, pv13⟩ := id PA13
      refine ⟨_, rfl, _, rfl, l8, vs13, rfl, SqL.of hv13, fun s1 ns1 => ?_⟩
      rw [cut60]
      have PS : PairsAt (upd H13 s1 (.lst (vs13.take 60))) s1 (ps11.take 60) := ⟨_, upd_same, (pv13.take 60).keep (Tk.same (Same.upd ns1))⟩
      have ls1 : (ps11.take 60).length ≤ 60 := by
        rw [List.length_take]
        omega
      have ls0 : 0 < (ps11.take 60).length := by
        rw [List.length_take]
        omega
      have P14 := P13.same (Same.upd (o := .lst (vs13.take 60)) ns1)
      generalize ps11.take 60 = ps14 at PS ls1 ls0
      refine ⟨s1, many8 + 1, (r13 : Int), ps14, (by show [V.int ((many8 : Int) + 1), V.int (r13 : Int), V.ref s1] = _; rw [e8]), PS, by omega, ls1, fun H15 x15 S15 C15 => ?_⟩
      have P15 := P14.same S15
      have cr15 := turn_cross (m := many8 + 1) (b := (r13 : Int)) (by omega) ps14
      have lm15 : (ps14.map (turnP ((many8 + 1 : Nat) : Int) (r13 : Int))).length = ps14.length := List.length_map _
      generalize ps14.map (turnP ((many8 + 1 : Nat) : Int) (r13 : Int)) = ps15 at C15 cr15 lm15
      refine ⟨_, rfl, x15, many8 + 1, ps15, rfl, C15, by omega, by omega, by omega, cr15, fun H16 hs16 S16 _ _ => ?_⟩
      refine ⟨_, rfl, ifF (by intro z; cases z) ?_⟩
      have P16 := P15.same S16
      obtain ⟨l16, hx16, PX16⟩ := C15.same S16
      refine ⟨_, rfl, _, _, rfl, rfl, _, rfl, _, rfl, x15, _, _, _, rfl, rfl, SqT.of hx16, at_of (j := 1) rfl rfl, p, c, l16, _, ps15, rfl, P16, PX16, by omega, by omega, fun H17 r17 qs17 B17 P17 PA17 el17 sub17 => ?_⟩
      refine ⟨(by show 2 ≤ sizeLine; decide), fun t17 nt17 => ?_⟩
      refine ⟨t17, many8 + 1, qs17, rfl, ⟨r17, upd_same.trans (by show some (HO.tup [V.int ((many8 : Int) + 1), V.ref r17]) = _; rw [e8]), PA17.same (Same.upd nt17)⟩, by omega, by omega, by omega, fun x hx => cr15 x (sub17 x hx), fun H18 hs18 S18 _ _ => ?_⟩
      have P18 := (P17.same (Same.upd (o := .tup [V.int ((many8 : Int) + 1), .ref r17]) nt17)).same S18
      refine ⟨_, rfl, ifF (by intro z; cases z) ?_⟩
      refine ⟨_, rfl, p, c, _, rfl, P18, by omega, fun H20 r20 l20 many20 ps20 B20 P20 hr20 PA20 m020 m6020 h020 hl20 => ?_⟩
      refine ⟨r20, _, rfl, SqT.of hr20, rfl, _, _, rfl, _, _, rfl, rfl, ?_⟩
      refine ⟨_, rfl, _, rfl, _, rfl, p, c, _, many20, rfl, P20, by omega, by omega, by omega, fun H21 r21 P21 B21 hr21 => ?_⟩
      have PA21 := PA20.but2 P20 B21
      refine ⟨_, rfl, l20, many20, (r21 : Int), ps20, rfl, PA21, by omega, hl20, fun H22 x22 S22 C22 => ?_⟩
      have P22 := P21.same S22
      have cr22 := turn_cross (m := many20) (b := (r21 : Int)) (by omega) ps20
      have lm22 : (ps20.map (turnP (many20 : Int) (r21 : Int))).length = ps20.length := List.length_map _
      generalize ps20.map (turnP (many20 : Int) (r21 : Int)) = ps22 at C22 cr22 lm22
      refine ⟨_, rfl, x22, many20, ps22, rfl, C22, by omega, by omega, by omega, cr22, fun H23 hs23 S23 _ _ => ?_⟩
      refine ⟨_, rfl, ifF (by intro z; cases z) ?_⟩
      have P23 := P22.same S23
      obtain ⟨l23, hx23, PX23⟩ := C22.same S23
      refine ⟨_, rfl, _, rfl, _, rfl, x22, _, _, _, rfl, rfl, SqT.of hx23, at_of (j := 1) rfl rfl, p, c, l23, _, ps22, rfl, P23, PX23, by omega, by omega, fun H24 r24 qs24 B24 P24 PA24 el24 sub24 => ?_⟩
      refine ⟨(by show 2 ≤ sizeLine; decide), fun t24 nt24 => ?_⟩
      refine ⟨t24, many20, qs24, rfl, ⟨r24, upd_same, PA24.same (Same.upd nt24)⟩, by omega, by omega, by omega, fun x hx => cr22 x (sub24 x hx), fun H25 hs25 S25 _ _ => ?_⟩
      have P25 := (P24.same (Same.upd (o := .tup [V.int (many20 : Int), .ref r24]) nt24)).same S25
      refine ⟨_, rfl, ifF (by intro z; cases z) ?_⟩
      exact ⟨⟨_, _, _, _, _, _, _, rfl⟩, P25.le (by omega), by omega⟩
    · rintro σ H1 ⟨⟨u2, u3, u4, u5, u6, u7, u8, rfl⟩, P1, i4⟩
      exact k H1
end
end K32

namespace K32
open PySem L2 Tie
theorem all_mk {l : PySem.W.OpenLaw} {w : World} {K : PySem.W.Frag} {h : Heap} {mg : Str → Option Value} {fa C f_must f_load f_cross f_purse f_draw f_lot f_knot f_closed f_cby f_stir f_turned f_lload f_meet f_right f_good f_law f_init f_by f_free f_chain f_exch f_direct f_round f_freed f_put : Addr} (X : K.In h) (G : h.Ns mainGlobals mg) (hfa : mg "law" = some (.ref fa))
    {od_must an_must : Option Addr} {sl_must : Array (Option Value)} {oc_must kV_must dc_must pm_must cd_must ct_must : Value}
    {od_load an_load : Option Addr} {sl_load : Array (Option Value)} {oc_load kV_load dc_load pm_load cd_load ct_load : Value}
    {od_cross an_cross : Option Addr} {sl_cross : Array (Option Value)} {oc_cross kV_cross dc_cross pm_cross cd_cross ct_cross : Value}
    {od_purse an_purse : Option Addr} {sl_purse : Array (Option Value)} {oc_purse kV_purse dc_purse pm_purse cd_purse ct_purse : Value}
    {od_draw an_draw : Option Addr} {sl_draw : Array (Option Value)} {oc_draw kV_draw dc_draw pm_draw cd_draw ct_draw : Value}
    {od_lot an_lot : Option Addr} {sl_lot : Array (Option Value)} {oc_lot kV_lot dc_lot pm_lot cd_lot ct_lot : Value}
    {od_knot an_knot : Option Addr} {sl_knot : Array (Option Value)} {oc_knot kV_knot dc_knot pm_knot cd_knot ct_knot : Value}
    {od_closed an_closed : Option Addr} {sl_closed : Array (Option Value)} {oc_closed kV_closed dc_closed pm_closed cd_closed ct_closed : Value}
    {od_cby an_cby : Option Addr} {sl_cby : Array (Option Value)} {oc_cby kV_cby dc_cby pm_cby cd_cby ct_cby : Value}
    {od_stir an_stir : Option Addr} {sl_stir : Array (Option Value)} {oc_stir kV_stir dc_stir pm_stir cd_stir ct_stir : Value}
    {od_turned an_turned : Option Addr} {sl_turned : Array (Option Value)} {oc_turned kV_turned dc_turned pm_turned cd_turned ct_turned : Value}
    {od_lload an_lload : Option Addr} {sl_lload : Array (Option Value)} {oc_lload kV_lload dc_lload pm_lload cd_lload ct_lload : Value}
    {od_meet an_meet : Option Addr} {sl_meet : Array (Option Value)} {oc_meet kV_meet dc_meet pm_meet cd_meet ct_meet : Value}
    {od_right an_right : Option Addr} {sl_right : Array (Option Value)} {oc_right kV_right dc_right pm_right cd_right ct_right : Value}
    {od_good an_good : Option Addr} {sl_good : Array (Option Value)} {oc_good kV_good dc_good pm_good cd_good ct_good : Value}
    {od_law an_law : Option Addr} {sl_law : Array (Option Value)} {oc_law kV_law dc_law pm_law cd_law ct_law : Value}
    {od_init an_init : Option Addr} {sl_init : Array (Option Value)} {oc_init kV_init dc_init pm_init cd_init ct_init : Value}
    {od_by an_by : Option Addr} {sl_by : Array (Option Value)} {oc_by kV_by dc_by pm_by cd_by ct_by : Value}
    {od_free an_free : Option Addr} {sl_free : Array (Option Value)} {oc_free kV_free dc_free pm_free cd_free ct_free : Value}
    {od_chain an_chain : Option Addr} {sl_chain : Array (Option Value)} {oc_chain kV_chain dc_chain pm_chain cd_chain ct_chain : Value}
    {od_exch an_exch : Option Addr} {sl_exch : Array (Option Value)} {oc_exch kV_exch dc_exch pm_exch cd_exch ct_exch : Value}
    {od_direct an_direct : Option Addr} {sl_direct : Array (Option Value)} {oc_direct kV_direct dc_direct pm_direct cd_direct ct_direct : Value}
    {od_round an_round : Option Addr} {sl_round : Array (Option Value)} {oc_round kV_round dc_round pm_round cd_round ct_round : Value}
    {od_freed an_freed : Option Addr} {sl_freed : Array (Option Value)} {oc_freed kV_freed dc_freed pm_freed cd_freed ct_freed : Value}
    {od_put an_put : Option Addr} {sl_put : Array (Option Value)} {oc_put kV_put dc_put pm_put cd_put ct_put : Value}
    {tk_mt tk_mp : Tok}
    (aC : PySem.W.nsIn K mainGlobals "Meeting" = some (some (.ref C)))
    (a_init : PySem.W.findIn K (.ref C) "__init__" = some (some (.ref f_init))) (i_init : PySem.W.isFn K (.ref f_init) = true)
    (l_init : K.lookup f_init = some ⟨oc_init, od_init, .func (PySem.W.fnOf "__init__" "Meeting.__init__" (defArgs sInit) (defBody sInit) (defScope sInit) .none kV_init dc_init pm_init an_init cd_init ct_init), sl_init⟩)
    (c_init : PySem.W.codeIn K cd_init "Meeting.__init__" = true) (k_init : PySem.W.keepIn K (.ref f_init) = true)
    (a_by : PySem.W.findIn K (.ref C) "by" = some (some (.ref f_by))) (i_by : PySem.W.isFn K (.ref f_by) = true)
    (l_by : K.lookup f_by = some ⟨oc_by, od_by, .func (PySem.W.fnOf "by" "Meeting.by" (defArgs sBy) (defBody sBy) (defScope sBy) .none kV_by dc_by pm_by an_by cd_by ct_by), sl_by⟩)
    (c_by : PySem.W.codeIn K cd_by "Meeting.by" = true) (k_by : PySem.W.keepIn K (.ref f_by) = true)
    (a_free : PySem.W.findIn K (.ref C) "free" = some (some (.ref f_free))) (i_free : PySem.W.isFn K (.ref f_free) = true)
    (l_free : K.lookup f_free = some ⟨oc_free, od_free, .func (PySem.W.fnOf "free" "Meeting.free" (defArgs sFree) (defBody sFree) (defScope sFree) .none kV_free dc_free pm_free an_free cd_free ct_free), sl_free⟩)
    (c_free : PySem.W.codeIn K cd_free "Meeting.free" = true) (k_free : PySem.W.keepIn K (.ref f_free) = true)
    (a_chain : PySem.W.findIn K (.ref C) "chain" = some (some (.ref f_chain))) (i_chain : PySem.W.isFn K (.ref f_chain) = true)
    (l_chain : K.lookup f_chain = some ⟨oc_chain, od_chain, .func (PySem.W.fnOf "chain" "Meeting.chain" (defArgs sChain) (defBody sChain) (defScope sChain) .none kV_chain dc_chain pm_chain an_chain cd_chain ct_chain), sl_chain⟩)
    (c_chain : PySem.W.codeIn K cd_chain "Meeting.chain" = true) (k_chain : PySem.W.keepIn K (.ref f_chain) = true)
    (a_exch : PySem.W.findIn K (.ref C) "exchange" = some (some (.ref f_exch))) (i_exch : PySem.W.isFn K (.ref f_exch) = true)
    (l_exch : K.lookup f_exch = some ⟨oc_exch, od_exch, .func (PySem.W.fnOf "exchange" "Meeting.exchange" (defArgs sExch) (defBody sExch) (defScope sExch) .none kV_exch dc_exch pm_exch an_exch cd_exch ct_exch), sl_exch⟩)
    (c_exch : PySem.W.codeIn K cd_exch "Meeting.exchange" = true) (k_exch : PySem.W.keepIn K (.ref f_exch) = true)
    (a_direct : PySem.W.findIn K (.ref C) "direct" = some (some (.ref f_direct))) (i_direct : PySem.W.isFn K (.ref f_direct) = true)
    (l_direct : K.lookup f_direct = some ⟨oc_direct, od_direct, .func (PySem.W.fnOf "direct" "Meeting.direct" (defArgs sDirect) (defBody sDirect) (defScope sDirect) .none kV_direct dc_direct pm_direct an_direct cd_direct ct_direct), sl_direct⟩)
    (c_direct : PySem.W.codeIn K cd_direct "Meeting.direct" = true) (k_direct : PySem.W.keepIn K (.ref f_direct) = true)
    (a_round : PySem.W.findIn K (.ref C) "round_about" = some (some (.ref f_round))) (i_round : PySem.W.isFn K (.ref f_round) = true)
    (l_round : K.lookup f_round = some ⟨oc_round, od_round, .func (PySem.W.fnOf "round_about" "Meeting.round_about" (defArgs sRound) (defBody sRound) (defScope sRound) .none kV_round dc_round pm_round an_round cd_round ct_round), sl_round⟩)
    (c_round : PySem.W.codeIn K cd_round "Meeting.round_about" = true) (k_round : PySem.W.keepIn K (.ref f_round) = true)
    (a_freed : PySem.W.findIn K (.ref C) "freed" = some (some (.ref f_freed))) (i_freed : PySem.W.isFn K (.ref f_freed) = true)
    (l_freed : K.lookup f_freed = some ⟨oc_freed, od_freed, .func (PySem.W.fnOf "freed" "Meeting.freed" (defArgs sFreed) (defBody sFreed) (defScope sFreed) .none kV_freed dc_freed pm_freed an_freed cd_freed ct_freed), sl_freed⟩)
    (c_freed : PySem.W.codeIn K cd_freed "Meeting.freed" = true) (k_freed : PySem.W.keepIn K (.ref f_freed) = true)
    (a_put : PySem.W.findIn K (.ref C) "put" = some (some (.ref f_put))) (i_put : PySem.W.isFn K (.ref f_put) = true)
    (l_put : K.lookup f_put = some ⟨oc_put, od_put, .func (PySem.W.fnOf "put" "Meeting.put" (defArgs sPut) (defBody sPut) (defScope sPut) .none kV_put dc_put pm_put an_put cd_put ct_put), sl_put⟩)
    (c_put : PySem.W.codeIn K cd_put "Meeting.put" = true) (k_put : PySem.W.keepIn K (.ref f_put) = true)
    (a_must : PySem.W.nsIn K mainGlobals "must_be_crossing" = some (some (.ref f_must)))
    (l_must : K.lookup f_must = some ⟨oc_must, od_must, .func (PySem.W.fnOf "must_be_crossing" "must_be_crossing" (defArgs sMust) (defBody sMust) (defScope sMust) .none kV_must dc_must pm_must an_must cd_must ct_must), sl_must⟩)
    (c_must : PySem.W.codeIn K cd_must "must_be_crossing" = true) (k_must : PySem.W.keepIn K (.ref f_must) = true)
    (a_load : PySem.W.nsIn K mainGlobals "load_at" = some (some (.ref f_load)))
    (l_load : K.lookup f_load = some ⟨oc_load, od_load, .func (PySem.W.fnOf "load_at" "load_at" (defArgs sLoad) (defBody sLoad) (defScope sLoad) .none kV_load dc_load pm_load an_load cd_load ct_load), sl_load⟩)
    (c_load : PySem.W.codeIn K cd_load "load_at" = true) (k_load : PySem.W.keepIn K (.ref f_load) = true)
    (a_cross : PySem.W.nsIn K mainGlobals "cross_hues" = some (some (.ref f_cross)))
    (l_cross : K.lookup f_cross = some ⟨oc_cross, od_cross, .func (PySem.W.fnOf "cross_hues" "cross_hues" (defArgs sCross) (defBody sCross) (defScope sCross) .none kV_cross dc_cross pm_cross an_cross cd_cross ct_cross), sl_cross⟩)
    (c_cross : PySem.W.codeIn K cd_cross "cross_hues" = true) (k_cross : PySem.W.keepIn K (.ref f_cross) = true)
    (a_purse : PySem.W.nsIn K mainGlobals "_law_purse" = some (some (.ref f_purse)))
    (l_purse : K.lookup f_purse = some ⟨oc_purse, od_purse, .func (PySem.W.fnOf "_law_purse" "_law_purse" (defArgs sPurse) (defBody sPurse) (defScope sPurse) .none kV_purse dc_purse pm_purse an_purse cd_purse ct_purse), sl_purse⟩)
    (c_purse : PySem.W.codeIn K cd_purse "_law_purse" = true) (k_purse : PySem.W.keepIn K (.ref f_purse) = true)
    (a_draw : PySem.W.nsIn K mainGlobals "_law_draw" = some (some (.ref f_draw)))
    (l_draw : K.lookup f_draw = some ⟨oc_draw, od_draw, .func (PySem.W.fnOf "_law_draw" "_law_draw" (defArgs sDraw) (defBody sDraw) (defScope sDraw) .none kV_draw dc_draw pm_draw an_draw cd_draw ct_draw), sl_draw⟩)
    (c_draw : PySem.W.codeIn K cd_draw "_law_draw" = true) (k_draw : PySem.W.keepIn K (.ref f_draw) = true)
    (a_lot : PySem.W.nsIn K mainGlobals "_law_lot" = some (some (.ref f_lot)))
    (l_lot : K.lookup f_lot = some ⟨oc_lot, od_lot, .func (PySem.W.fnOf "_law_lot" "_law_lot" (defArgs sLot) (defBody sLot) (defScope sLot) .none kV_lot dc_lot pm_lot an_lot cd_lot ct_lot), sl_lot⟩)
    (c_lot : PySem.W.codeIn K cd_lot "_law_lot" = true) (k_lot : PySem.W.keepIn K (.ref f_lot) = true)
    (a_knot : PySem.W.nsIn K mainGlobals "_law_knot" = some (some (.ref f_knot)))
    (l_knot : K.lookup f_knot = some ⟨oc_knot, od_knot, .func (PySem.W.fnOf "_law_knot" "_law_knot" (defArgs sKnot) (defBody sKnot) (defScope sKnot) .none kV_knot dc_knot pm_knot an_knot cd_knot ct_knot), sl_knot⟩)
    (c_knot : PySem.W.codeIn K cd_knot "_law_knot" = true) (k_knot : PySem.W.keepIn K (.ref f_knot) = true)
    (a_closed : PySem.W.nsIn K mainGlobals "_law_closed" = some (some (.ref f_closed)))
    (l_closed : K.lookup f_closed = some ⟨oc_closed, od_closed, .func (PySem.W.fnOf "_law_closed" "_law_closed" (defArgs sClosed) (defBody sClosed) (defScope sClosed) .none kV_closed dc_closed pm_closed an_closed cd_closed ct_closed), sl_closed⟩)
    (c_closed : PySem.W.codeIn K cd_closed "_law_closed" = true) (k_closed : PySem.W.keepIn K (.ref f_closed) = true)
    (a_cby : PySem.W.nsIn K mainGlobals "_law_closed_by" = some (some (.ref f_cby)))
    (l_cby : K.lookup f_cby = some ⟨oc_cby, od_cby, .func (PySem.W.fnOf "_law_closed_by" "_law_closed_by" (defArgs sClosedBy) (defBody sClosedBy) (defScope sClosedBy) .none kV_cby dc_cby pm_cby an_cby cd_cby ct_cby), sl_cby⟩)
    (c_cby : PySem.W.codeIn K cd_cby "_law_closed_by" = true) (k_cby : PySem.W.keepIn K (.ref f_cby) = true)
    (a_stir : PySem.W.nsIn K mainGlobals "_law_stirred" = some (some (.ref f_stir)))
    (l_stir : K.lookup f_stir = some ⟨oc_stir, od_stir, .func (PySem.W.fnOf "_law_stirred" "_law_stirred" (defArgs sStir) (defBody sStir) (defScope sStir) .none kV_stir dc_stir pm_stir an_stir cd_stir ct_stir), sl_stir⟩)
    (c_stir : PySem.W.codeIn K cd_stir "_law_stirred" = true) (k_stir : PySem.W.keepIn K (.ref f_stir) = true)
    (a_turned : PySem.W.nsIn K mainGlobals "_law_turned" = some (some (.ref f_turned)))
    (l_turned : K.lookup f_turned = some ⟨oc_turned, od_turned, .func (PySem.W.fnOf "_law_turned" "_law_turned" (defArgs sTurned) (defBody sTurned) (defScope sTurned) .none kV_turned dc_turned pm_turned an_turned cd_turned ct_turned), sl_turned⟩)
    (c_turned : PySem.W.codeIn K cd_turned "_law_turned" = true) (k_turned : PySem.W.keepIn K (.ref f_turned) = true)
    (a_lload : PySem.W.nsIn K mainGlobals "_law_load" = some (some (.ref f_lload)))
    (l_lload : K.lookup f_lload = some ⟨oc_lload, od_lload, .func (PySem.W.fnOf "_law_load" "_law_load" (defArgs sLLoad) (defBody sLLoad) (defScope sLLoad) .none kV_lload dc_lload pm_lload an_lload cd_lload ct_lload), sl_lload⟩)
    (c_lload : PySem.W.codeIn K cd_lload "_law_load" = true) (k_lload : PySem.W.keepIn K (.ref f_lload) = true)
    (a_meet : PySem.W.nsIn K mainGlobals "_law_meet" = some (some (.ref f_meet)))
    (l_meet : K.lookup f_meet = some ⟨oc_meet, od_meet, .func (PySem.W.fnOf "_law_meet" "_law_meet" (defArgs sMeet) (defBody sMeet) (defScope sMeet) .none kV_meet dc_meet pm_meet an_meet cd_meet ct_meet), sl_meet⟩)
    (c_meet : PySem.W.codeIn K cd_meet "_law_meet" = true) (k_meet : PySem.W.keepIn K (.ref f_meet) = true)
    (a_right : PySem.W.nsIn K mainGlobals "_law_right" = some (some (.ref f_right)))
    (l_right : K.lookup f_right = some ⟨oc_right, od_right, .func (PySem.W.fnOf "_law_right" "_law_right" (defArgs sRight) (defBody sRight) (defScope sRight) .none kV_right dc_right pm_right an_right cd_right ct_right), sl_right⟩)
    (c_right : PySem.W.codeIn K cd_right "_law_right" = true) (k_right : PySem.W.keepIn K (.ref f_right) = true)
    (a_good : PySem.W.nsIn K mainGlobals "_law_good" = some (some (.ref f_good)))
    (l_good : K.lookup f_good = some ⟨oc_good, od_good, .func (PySem.W.fnOf "_law_good" "_law_good" (defArgs sGood) (defBody sGood) (defScope sGood) .none kV_good dc_good pm_good an_good cd_good ct_good), sl_good⟩)
    (c_good : PySem.W.codeIn K cd_good "_law_good" = true) (k_good : PySem.W.keepIn K (.ref f_good) = true)
    (a_law : PySem.W.nsIn K mainGlobals "law" = some (some (.ref f_law)))
    (l_law : K.lookup f_law = some ⟨oc_law, od_law, .func (PySem.W.fnOf "law" "law" (defArgs sLaw) (defBody sLaw) (defScope sLaw) .none kV_law dc_law pm_law an_law cd_law ct_law), sl_law⟩)
    (c_law : PySem.W.codeIn K cd_law "law" = true) (k_law : PySem.W.keepIn K (.ref f_law) = true)
    (pg : PySem.W.plainGet K C Str.empty = true) (hd : PySem.W.hasDictIn K C = true) (po : PySem.W.plainOver K C = true) (sa : PySem.W.findIn K (.ref C) "__setattr__" = some (some (.builtin "object.__setattr__"))) (mk : PySem.W.makesIn K C = true) (kc : PySem.W.keepIn K (.ref C) = true)
    (nP : PySem.W.findIn K (.ref C) "pairs" = some none) (nM : PySem.W.findIn K (.ref C) "most" = some none) (nW : PySem.W.findIn K (.ref C) "worn" = some none)
    (z_len : PySem.W.nsIn K mainGlobals "len" = some none)
    (z_range : PySem.W.nsIn K mainGlobals "range" = some none)
    (z_max : PySem.W.nsIn K mainGlobals "max" = some none)
    (z_min : PySem.W.nsIn K mainGlobals "min" = some none)
    (z_list : PySem.W.nsIn K mainGlobals "list" = some none)
    (z_isinstance : PySem.W.nsIn K mainGlobals "isinstance" = some none)
    (z_int : PySem.W.nsIn K mainGlobals "int" = some none)
    (z_bool : PySem.W.nsIn K mainGlobals "bool" = some none)
    (z_set : PySem.W.nsIn K mainGlobals "set" = some none)
    (y_mt : PySem.W.nsIn K mainGlobals "MOST_TIES" = some (some (.int 60 tk_mt)))
    (y_mp : PySem.W.nsIn K mainGlobals "MOST_PAIRS" = some (some (.int 60 tk_mp)))
    : ∃ fd : FuncData, (∀ (s : Shared) (v : Value), BindsTo s fd ⟨[v], []⟩ [("_law_script", v)]) ∧ ∀ base : Heap, K.In base → base.Ns mainGlobals mg → FnOk l.prog w K mg base CX0 8 fa fd ["_law_script"] (spLaw K) := by
  have e := hfa.symm.trans (PySem.W.mg_of X G a_law)
  cases e
  have m_len := PySem.W.mg_none_of X G z_len
  have m_range := PySem.W.mg_none_of X G z_range
  have m_max := PySem.W.mg_none_of X G z_max
  have m_min := PySem.W.mg_none_of X G z_min
  have m_list := PySem.W.mg_none_of X G z_list
  have m_isinstance := PySem.W.mg_none_of X G z_isinstance
  have m_int := PySem.W.mg_none_of X G z_int
  have m_bool := PySem.W.mg_none_of X G z_bool
  have m_set := PySem.W.mg_none_of X G z_set
  have TA : TxA K mg := ⟨m_len, m_range, m_max, ⟨_, PySem.W.mg_of X G y_mt⟩, ⟨_, PySem.W.mg_of X G y_mp⟩⟩
  have TM : TxM K mg C := ⟨⟨pg, hd, po, sa⟩, nP, nM, nW, PySem.W.mg_of X G aC, m_len, m_range⟩
  have F_init := fun_mk (st := sInit) l_init c_init k_init
  have b_init := F_init.binds (ps := ["self", "pairs", "most"]) fun _ _ _ _ _ _ us hl => match us, hl with | [_, _, _], _ => rfl
  have F_by := fun_mk (st := sBy) l_by c_by k_by
  have b_by := F_by.binds (ps := ["self", "tie", "hue"]) fun _ _ _ _ _ _ us hl => match us, hl with | [_, _, _], _ => rfl
  have F_free := fun_mk (st := sFree) l_free c_free k_free
  have b_free := F_free.binds (ps := ["self", "tie"]) fun _ _ _ _ _ _ us hl => match us, hl with | [_, _], _ => rfl
  have F_chain := fun_mk (st := sChain) l_chain c_chain k_chain
  have b_chain := F_chain.binds (ps := ["self", "tie", "hue", "other"]) fun _ _ _ _ _ _ us hl => match us, hl with | [_, _, _, _], _ => rfl
  have F_exch := fun_mk (st := sExch) l_exch c_exch k_exch
  have b_exch := F_exch.binds (ps := ["self", "some", "hue", "other"]) fun _ _ _ _ _ _ us hl => match us, hl with | [_, _, _, _], _ => rfl
  have F_direct := fun_mk (st := sDirect) l_direct c_direct k_direct
  have b_direct := F_direct.binds (ps := ["self", "k"]) fun _ _ _ _ _ _ us hl => match us, hl with | [_, _], _ => rfl
  have F_round := fun_mk (st := sRound) l_round c_round k_round
  have b_round := F_round.binds (ps := ["self", "k"]) fun _ _ _ _ _ _ us hl => match us, hl with | [_, _], _ => rfl
  have F_freed := fun_mk (st := sFreed) l_freed c_freed k_freed
  have b_freed := F_freed.binds (ps := ["self", "s", "t", "z"]) fun _ _ _ _ _ _ us hl => match us, hl with | [_, _, _, _], _ => rfl
  have F_put := fun_mk (st := sPut) l_put c_put k_put
  have b_put := F_put.binds (ps := ["self", "k"]) fun _ _ _ _ _ _ us hl => match us, hl with | [_, _], _ => rfl
  have F_must := fun_mk (st := sMust) l_must c_must k_must
  have b_must := F_must.binds (ps := ["crossing"]) fun _ _ _ _ _ _ us hl => match us, hl with | [_], _ => rfl
  have F_load := fun_mk (st := sLoad) l_load c_load k_load
  have b_load := F_load.binds (ps := ["crossing"]) fun _ _ _ _ _ _ us hl => match us, hl with | [_], _ => rfl
  have F_cross := fun_mk (st := sCross) l_cross c_cross k_cross
  have b_cross := F_cross.binds (ps := ["crossing"]) fun _ _ _ _ _ _ us hl => match us, hl with | [_], _ => rfl
  have F_purse := fun_mk (st := sPurse) l_purse c_purse k_purse
  have b_purse := F_purse.binds (ps := ["_law_script"]) fun _ _ _ _ _ _ us hl => match us, hl with | [_], _ => rfl
  have F_draw := fun_mk (st := sDraw) l_draw c_draw k_draw
  have b_draw := F_draw.binds (ps := ["_law_purse_here", "_law_out_of"]) fun _ _ _ _ _ _ us hl => match us, hl with | [_, _], _ => rfl
  have F_lot := fun_mk (st := sLot) l_lot c_lot k_lot
  have b_lot := F_lot.binds (ps := ["_law_purse_here"]) fun _ _ _ _ _ _ us hl => match us, hl with | [_], _ => rfl
  have F_knot := fun_mk (st := sKnot) l_knot c_knot k_knot
  have b_knot := F_knot.binds (ps := ["_law_purse_here"]) fun _ _ _ _ _ _ us hl => match us, hl with | [_], _ => rfl
  have F_closed := fun_mk (st := sClosed) l_closed c_closed k_closed
  have b_closed := F_closed.binds (ps := ["_law_many"]) fun _ _ _ _ _ _ us hl => match us, hl with | [_], _ => rfl
  have F_cby := fun_mk (st := sClosedBy) l_cby c_cby k_cby
  have b_cby := F_cby.binds (ps := ["_law_purse_here"]) fun _ _ _ _ _ _ us hl => match us, hl with | [_], _ => rfl
  have F_stir := fun_mk (st := sStir) l_stir c_stir k_stir
  have b_stir := F_stir.binds (ps := ["_law_purse_here", "_law_pairs"]) fun _ _ _ _ _ _ us hl => match us, hl with | [_, _], _ => rfl
  have F_turned := fun_mk (st := sTurned) l_turned c_turned k_turned
  have b_turned := F_turned.binds (ps := ["_law_many", "_law_by", "_law_pairs"]) fun _ _ _ _ _ _ us hl => match us, hl with | [_, _, _], _ => rfl
  have F_lload := fun_mk (st := sLLoad) l_lload c_lload k_lload
  have b_lload := F_lload.binds (ps := ["_law_crossing"]) fun _ _ _ _ _ _ us hl => match us, hl with | [_], _ => rfl
  have F_meet := fun_mk (st := sMeet) l_meet c_meet k_meet
  have b_meet := F_meet.binds (ps := ["_law_one", "_law_other"]) fun _ _ _ _ _ _ us hl => match us, hl with | [_, _], _ => rfl
  have F_right := fun_mk (st := sRight) l_right c_right k_right
  have b_right := F_right.binds (ps := ["_law_crossing", "_law_hues"]) fun _ _ _ _ _ _ us hl => match us, hl with | [_, _], _ => rfl
  have F_good := fun_mk (st := sGood) l_good c_good k_good
  have b_good := F_good.binds (ps := ["_law_crossing"]) fun _ _ _ _ _ _ us hl => match us, hl with | [_], _ => rfl
  have F_law := fun_mk (st := sLaw) l_law c_law k_law
  have g_must := PySem.W.mg_of X G a_must
  have g_load := PySem.W.mg_of X G a_load
  have g_cross := PySem.W.mg_of X G a_cross
  have g_purse := PySem.W.mg_of X G a_purse
  have g_draw := PySem.W.mg_of X G a_draw
  have g_lot := PySem.W.mg_of X G a_lot
  have g_knot := PySem.W.mg_of X G a_knot
  have g_closed := PySem.W.mg_of X G a_closed
  have g_cby := PySem.W.mg_of X G a_cby
  have g_stir := PySem.W.mg_of X G a_stir
  have g_turned := PySem.W.mg_of X G a_turned
  have g_lload := PySem.W.mg_of X G a_lload
  have g_meet := PySem.W.mg_of X G a_meet
  have g_right := PySem.W.mg_of X G a_right
  have g_good := PySem.W.mg_of X G a_good
  have M_by : Meth K C "by" f_by := ⟨a_by, i_by, k_by⟩
  have M_free : Meth K C "free" f_free := ⟨a_free, i_free, k_free⟩
  have M_chain : Meth K C "chain" f_chain := ⟨a_chain, i_chain, k_chain⟩
  have M_exch : Meth K C "exchange" f_exch := ⟨a_exch, i_exch, k_exch⟩
  have M_direct : Meth K C "direct" f_direct := ⟨a_direct, i_direct, k_direct⟩
  have M_round : Meth K C "round_about" f_round := ⟨a_round, i_round, k_round⟩
  have M_freed : Meth K C "freed" f_freed := ⟨a_freed, i_freed, k_freed⟩
  have M_put : Meth K C "put" f_put := ⟨a_put, i_put, k_put⟩
  have TC : TxC mg C f_must f_load := ⟨g_must, g_load, m_list⟩
  have TR : TxR mg := ⟨m_isinstance, m_list, m_int, m_bool, m_len, m_range⟩
  refine ⟨PySem.W.fnOf "law" "law" (defArgs sLaw) (defBody sLaw) (defScope sLaw) .none kV_law dc_law pm_law an_law cd_law ct_law, fun s v => .of_eq rfl, fun base _ _ => ?_⟩
  have G_must := ok_must (P := l.prog) (w := w) (base := base) F_must TA
  have G_load := ok_load (P := l.prog) (w := w) (base := base) F_load TA
  have G_init := ok_init (P := l.prog) (w := w) (base := base) F_init TM
  have G_by := ok_by (P := l.prog) (w := w) (base := base) F_by TM
  have G_free := ok_free F_free TM G_by b_by M_by
  have G_chain := ok_chain F_chain TM G_by b_by M_by
  have G_exch := ok_exch (P := l.prog) (w := w) (base := base) F_exch TM
  have G_direct := ok_direct F_direct TM G_free b_free M_free G_chain b_chain M_chain G_exch b_exch M_exch
  have G_freed := ok_freed F_freed TM G_free b_free M_free G_chain b_chain M_chain G_exch b_exch M_exch
  have G_round := ok_round F_round TM G_free b_free M_free G_by b_by M_by G_freed b_freed M_freed
  have G_put := ok_put F_put TM G_direct b_direct M_direct G_round b_round M_round
  have G_cross := ok_cross F_cross TM TC G_must b_must k_must G_load b_load k_load ⟨mk, a_init, i_init, kc⟩ G_init b_init G_put b_put M_put
  have G_purse := ok_purse (P := l.prog) (w := w) (base := base) (mg := mg) F_purse
  have G_draw := ok_draw (P := l.prog) (w := w) (base := base) F_draw m_len
  have G_lot := ok_lot F_lot m_range g_draw k_draw G_draw b_draw
  have G_knot := ok_knot F_knot m_range g_draw k_draw G_draw b_draw
  have G_closed := ok_closed (P := l.prog) (w := w) (base := base) F_closed m_range
  have G_cby := ok_closed_by F_cby g_draw k_draw G_draw b_draw g_closed k_closed G_closed b_closed
  have G_stir := ok_stir F_stir m_len g_draw k_draw G_draw b_draw
  have G_turned := ok_turned (P := l.prog) (w := w) (base := base) F_turned m_min m_max
  have G_lload := ok_lload (P := l.prog) (w := w) (base := base) F_lload TA
  have G_meet := ok_meet (P := l.prog) (w := w) (base := base) (mg := mg) F_meet
  have G_right := ok_right F_right TR g_meet k_meet G_meet b_meet
  have G_good := ok_good F_good m_max m_len m_set g_cross k_cross G_cross b_cross g_right k_right G_right b_right g_lload k_lload G_lload b_lload
  exact ok_law F_law m_range m_len g_purse k_purse G_purse b_purse g_lot k_lot G_lot b_lot g_draw k_draw G_draw b_draw g_turned k_turned G_turned b_turned g_good k_good G_good b_good g_stir k_stir G_stir b_stir g_knot k_knot G_knot b_knot g_cby k_cby G_cby b_cby
theorem walk {l : PySem.W.OpenLaw} {q : Program} {loose : List Str} {XP : (Str → Option Value) → Heap → Prop} {YP : World → Heap → Prop} {d : DefRec} {K : Params → PySem.W.Frag} (hn : l.most = some 63) (hdf : d.params.defaults = [])
    (hY : ∀ (w : World) (h : Heap), YP w h → (K w.params).In h)
    (F : ∀ (w : World) (mg : Str → Option Value) (fa : Addr) (h : Heap), (K w.params).In h → h.Ns mainGlobals mg → mg d.name = some (.ref fa) →
      ∃ fd : FuncData, (∀ (s : Shared) (u : Value), BindsTo s fd ⟨[u], []⟩ [("_law_script", u)]) ∧ ∀ base : Heap, (K w.params).In base → base.Ns mainGlobals mg → FnOk l.prog w (K w.params) mg base CX0 8 fa fd ["_law_script"] (spLaw (K w.params))) :
    PySem.W.WalkO q loose XP YP l.row.toRowW d [] (fun f vs => PySem.call f vs) :=
  L2.walk_of (n := 63) (k := 8) (x := "_law_script") (CX := fun _ => CX0) (sp := fun w => spLaw (K w.params)) hn (by decide) hdf ⟨rfl, by decide, by decide⟩ hY F (fun _ _ a ns hl _ hS => ⟨a, ns, rfl, hS, hl, fun _ => rfl⟩) fun _ _ _ _ _ z => z
end K32

open PySem PySem.W PyProof.Rows in
set_option maxRecDepth 100000 in
set_option maxHeartbeats 0 in
theorem PySem.Challenge.cw_tiehues_k32_whole_knotted_crossings_holds : PySem.Challenge.rw_tiehues_k32_whole_knotted_crossings.Holds := by
  w_on; o_law; k_head; (case hw => w_witness2)
  k_fill
  refine K32.walk (l := PySem.Challenge.rw_tiehues_k32_whole_knotted_crossings) rfl rfl (fun w h Y => PySem.W.kIn_of Y) ?F
  case F =>
    intro w mg fa h KX G hmg
    refine' K32.all_mk KX G hmg ?aC ?a_init ?i_init ?l_init ?c_init ?k_init ?a_by ?i_by ?l_by ?c_by ?k_by ?a_free ?i_free ?l_free ?c_free ?k_free ?a_chain ?i_chain ?l_chain ?c_chain ?k_chain ?a_exch ?i_exch ?l_exch ?c_exch ?k_exch ?a_direct ?i_direct ?l_direct ?c_direct ?k_direct ?a_round ?i_round ?l_round ?c_round ?k_round ?a_freed ?i_freed ?l_freed ?c_freed ?k_freed ?a_put ?i_put ?l_put ?c_put ?k_put ?a_must ?l_must ?c_must ?k_must ?a_load ?l_load ?c_load ?k_load ?a_cross ?l_cross ?c_cross ?k_cross ?a_purse ?l_purse ?c_purse ?k_purse ?a_draw ?l_draw ?c_draw ?k_draw ?a_lot ?l_lot ?c_lot ?k_lot ?a_knot ?l_knot ?c_knot ?k_knot ?a_closed ?l_closed ?c_closed ?k_closed ?a_cby ?l_cby ?c_cby ?k_cby ?a_stir ?l_stir ?c_stir ?k_stir ?a_turned ?l_turned ?c_turned ?k_turned ?a_lload ?l_lload ?c_lload ?k_lload ?a_meet ?l_meet ?c_meet ?k_meet ?a_right ?l_right ?c_right ?k_right ?a_good ?l_good ?c_good ?k_good ?a_law ?l_law ?c_law ?k_law ?pg ?hd ?po ?sa ?mk ?kc ?nP ?nM ?nW ?z_len ?z_range ?z_max ?z_min ?z_list ?z_isinstance ?z_int ?z_bool ?z_set ?y_mt ?y_mp
    (case aC => k_is)
    (case a_init => k_is)
    (case i_init => k_is)
    (case l_init => k_is)
    (case c_init => k_is)
    (case k_init => k_is)
    (case a_by => k_is)
    (case i_by => k_is)
    (case l_by => k_is)
    (case c_by => k_is)
    (case k_by => k_is)
    (case a_free => k_is)
    (case i_free => k_is)
    (case l_free => k_is)
    (case c_free => k_is)
    (case k_free => k_is)
    (case a_chain => k_is)
    (case i_chain => k_is)
    (case l_chain => k_is)
    (case c_chain => k_is)
    (case k_chain => k_is)
    (case a_exch => k_is)
    (case i_exch => k_is)
    (case l_exch => k_is)
    (case c_exch => k_is)
    (case k_exch => k_is)
    (case a_direct => k_is)
    (case i_direct => k_is)
    (case l_direct => k_is)
    (case c_direct => k_is)
    (case k_direct => k_is)
    (case a_round => k_is)
    (case i_round => k_is)
    (case l_round => k_is)
    (case c_round => k_is)
    (case k_round => k_is)
    (case a_freed => k_is)
    (case i_freed => k_is)
    (case l_freed => k_is)
    (case c_freed => k_is)
    (case k_freed => k_is)
    (case a_put => k_is)
    (case i_put => k_is)
    (case l_put => k_is)
    (case c_put => k_is)
    (case k_put => k_is)
    (case a_must => k_is)
    (case l_must => k_is)
    (case c_must => k_is)
    (case k_must => k_is)
    (case a_load => k_is)
    (case l_load => k_is)
    (case c_load => k_is)
    (case k_load => k_is)
    (case a_cross => k_is)
    (case l_cross => k_is)
    (case c_cross => k_is)
    (case k_cross => k_is)
    (case a_purse => k_is)
    (case l_purse => k_is)
    (case c_purse => k_is)
    (case k_purse => k_is)
    (case a_draw => k_is)
    (case l_draw => k_is)
    (case c_draw => k_is)
    (case k_draw => k_is)
    (case a_lot => k_is)
    (case l_lot => k_is)
    (case c_lot => k_is)
    (case k_lot => k_is)
    (case a_knot => k_is)
    (case l_knot => k_is)
    (case c_knot => k_is)
    (case k_knot => k_is)
    (case a_closed => k_is)
    (case l_closed => k_is)
    (case c_closed => k_is)
    (case k_closed => k_is)
    (case a_cby => k_is)
    (case l_cby => k_is)
    (case c_cby => k_is)
    (case k_cby => k_is)
    (case a_stir => k_is)
    (case l_stir => k_is)
    (case c_stir => k_is)
    (case k_stir => k_is)
    (case a_turned => k_is)
    (case l_turned => k_is)
    (case c_turned => k_is)
    (case k_turned => k_is)
    (case a_lload => k_is)
    (case l_lload => k_is)
    (case c_lload => k_is)
    (case k_lload => k_is)
    (case a_meet => k_is)
    (case l_meet => k_is)
    (case c_meet => k_is)
    (case k_meet => k_is)
    (case a_right => k_is)
    (case l_right => k_is)
    (case c_right => k_is)
    (case k_right => k_is)
    (case a_good => k_is)
    (case l_good => k_is)
    (case c_good => k_is)
    (case k_good => k_is)
    (case a_law => k_is)
    (case l_law => k_is)
    (case c_law => k_is)
    (case k_law => k_is)
    (case pg => k_is)
    (case hd => k_is)
    (case po => k_is)
    (case sa => k_is)
    (case mk => k_is)
    (case kc => k_is)
    (case nP => k_is)
    (case nM => k_is)
    (case nW => k_is)
    (case z_len => k_is)
    (case z_range => k_is)
    (case z_max => k_is)
    (case z_min => k_is)
    (case z_list => k_is)
    (case z_isinstance => k_is)
    (case z_int => k_is)
    (case z_bool => k_is)
    (case z_set => k_is)
    (case y_mt => k_is)
    (case y_mp => k_is)
