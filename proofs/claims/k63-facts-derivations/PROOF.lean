import PyProof.Rows.All
import Wide.All
import OpenK.AllK
import Wide.FinOn
import PySem.Challenge.RW_howfarback_k63_whole_facts_and_derivatio
import HandS.ForMost
import HandS.Defaults
import HandS.HeadHook1
import HandS.Evl
import HandS.Walk
import HandS.IsInst
import HandS.Deep
import HandS.Conv
import HandS.NoneIn
import HandS.Style
import HandS.Zip
import HandS.SetKeys
import HandS.TupLe
import KE.GoesComp
import KE.GoesMore
import KE.KDictDisplayH
import KE.KDictCopyH
import KE.KStateDown
import HandS.Head0
import HandS.Head1
import HandS.Head2
import HandS.HeadEnd
import HandS.HeadHook2
set_option Elab.async false
set_option linter.all false
set_option maxRecDepth 100000
set_option maxHeartbeats 0
/-! distances, windows, links: plain lists -/
namespace Hfb

/-- the greatest place below n that holds x -/
def prevEq (M : List Nat) (x : Nat) : Nat → Option Nat
  | 0 => none
  | n + 1 => if M[n]? = some x then some n else prevEq M x n

theorem prevEq_some {M : List Nat} {x : Nat} : ∀ {n q : Nat}, prevEq M x n = some q → q < n ∧ M[q]? = some x ∧ ∀ r, q < r → r < n → M[r]? ≠ some x
  | 0, q, h => by simp [prevEq] at h
  | n + 1, q, h => by
    unfold prevEq at h
    by_cases e : M[n]? = some x
    · rw [if_pos e] at h
      cases h
      exact ⟨by omega, e, fun r h1 h2 => by omega⟩
    · rw [if_neg e] at h
      obtain ⟨h1, h2, h3⟩ := prevEq_some h
      refine ⟨by omega, h2, fun r h4 h5 => ?_⟩
      by_cases er : r = n
      · rw [er]; exact e
      · exact h3 r h4 (by omega)

theorem prevEq_none {M : List Nat} {x : Nat} : ∀ {n : Nat}, prevEq M x n = none → ∀ r, r < n → M[r]? ≠ some x
  | 0, _, r, h => by omega
  | n + 1, h, r, hr => by
    unfold prevEq at h
    by_cases e : M[n]? = some x
    · rw [if_pos e] at h
      cases h
    · rw [if_neg e] at h
      by_cases er : r = n
      · rw [er]; exact e
      · exact prevEq_none h r (by omega)

def dAt (M : List Nat) (p : Nat) : Nat :=
  match prevEq M (M.getD p 0) p with
  | some q => p - q
  | none => 0
def distOf (M : List Nat) : List Nat := (List.range M.length).map (dAt M)

theorem distOf_length (M : List Nat) : (distOf M).length = M.length := by simp [distOf]
theorem distOf_get {M : List Nat} {p : Nat} (h : p < M.length) : (distOf M)[p]? = some (dAt M p) := by simp [distOf, h]
theorem distOf_getD {M : List Nat} {p : Nat} (h : p < M.length) : (distOf M).getD p 0 = dAt M p := by
  rw [List.getD_eq_getElem?_getD, distOf_get h]; rfl
theorem get_of_lt {M : List Nat} {p : Nat} (h : p < M.length) : M[p]? = some (M.getD p 0) := by
  rw [List.getD_eq_getElem?_getD, List.getElem?_eq_getElem h]; rfl
theorem dAt_le (M : List Nat) (p : Nat) : dAt M p ≤ p := by
  unfold dAt
  split <;> omega
theorem dAt_pos {M : List Nat} {p : Nat} (hp : p < M.length) (h : 0 < dAt M p) :
    M[p - dAt M p]? = M[p]? ∧ ∀ r, p - dAt M p < r → r < p → M[r]? ≠ M[p]? := by
  have e := get_of_lt hp
  cases q : prevEq M (M.getD p 0) p with
  | none =>
    have : dAt M p = 0 := by unfold dAt; rw [q]
    omega
  | some t =>
    have ed : dAt M p = p - t := by unfold dAt; rw [q]
    obtain ⟨h1, h2, h3⟩ := prevEq_some q
    have : p - dAt M p = t := by omega
    rw [this, e]
    exact ⟨h2, h3⟩
theorem dAt_zero {M : List Nat} {p : Nat} (hp : p < M.length) (h : dAt M p = 0) : ∀ r, r < p → M[r]? ≠ M[p]? := by
  have e := get_of_lt hp
  cases q : prevEq M (M.getD p 0) p with
  | none =>
    rw [e]
    exact prevEq_none q
  | some t =>
    have ed : dAt M p = p - t := by unfold dAt; rw [q]
    obtain ⟨h1, h2, h3⟩ := prevEq_some q
    omega

/-- two lists have the same equalities -/
def Ker (M M' : List Nat) : Prop := M.length = M'.length ∧ ∀ p q, p < M.length → q < M.length → (M[p]? = M[q]? ↔ M'[p]? = M'[q]?)
theorem Ker.symm {M M' : List Nat} (k : Ker M M') : Ker M' M := ⟨k.1.symm, fun p q h1 h2 => (k.2 p q (k.1 ▸ h1) (k.1 ▸ h2)).symm⟩
theorem Ker.trans {M M' M'' : List Nat} (k : Ker M M') (k' : Ker M' M'') : Ker M M'' :=
  ⟨k.1.trans k'.1, fun p q h1 h2 => (k.2 p q h1 h2).trans (k'.2 p q (k.1 ▸ h1) (k.1 ▸ h2))⟩
theorem Ker.refl (M : List Nat) : Ker M M := ⟨rfl, fun _ _ _ _ => Iff.rfl⟩

/-- the distances follow from the equalities -/
theorem Ker.dAt_eq {M M' : List Nat} (k : Ker M M') {p : Nat} (hp : p < M.length) : dAt M p = dAt M' p := by
  have hp' : p < M'.length := k.1 ▸ hp
  have l1 := dAt_le M p
  have l2 := dAt_le M' p
  by_cases h1 : dAt M p = 0
  · by_cases h2 : dAt M' p = 0
    · omega
    · have z := dAt_pos hp' (by omega)
      have y := dAt_zero hp h1 (p - dAt M' p) (by omega)
      exact absurd ((k.2 _ p (by omega) hp).mpr z.1) y
  · have z := dAt_pos hp (by omega)
    by_cases h2 : dAt M' p = 0
    · have y := dAt_zero hp' h2 (p - dAt M p) (by omega)
      exact absurd ((k.2 _ p (by omega) hp).mp z.1) y
    · have z' := dAt_pos hp' (by omega)
      rcases Nat.lt_trichotomy (dAt M p) (dAt M' p) with h | h | h
      · exact absurd ((k.2 _ p (by omega) hp).mp z.1) (z'.2 _ (by omega) (by omega))
      · exact h
      · exact absurd ((k.2 _ p (by omega) hp).mpr z'.1) (z.2 _ (by omega) (by omega))
theorem Ker.dist {M M' : List Nat} (k : Ker M M') : distOf M = distOf M' := by
  unfold distOf
  rw [← k.1]
  exact List.map_congr_left fun p hp => k.dAt_eq (List.mem_range.mp hp)

/-- a list that is filled by the distances: a new sign at 0, else the sign at the place it refers to -/
def Follows (ds F : List Nat) : Prop := F.length = ds.length ∧ ∀ p, p < ds.length →
  (ds.getD p 0 = 0 → ∀ r, r < p → F[r]? ≠ F[p]?) ∧ (0 < ds.getD p 0 → F[p]? = F[p - ds.getD p 0]?)
theorem Follows.ker_lt {M F : List Nat} (f : Follows (distOf M) F) : ∀ (q : Nat), q < M.length → ∀ p, p < q → (M[p]? = M[q]? ↔ F[p]? = F[q]?) := by
  intro q
  induction q using Nat.strongRecOn with
  | _ q ih =>
    intro hq p hpq
    have ⟨f0, f1⟩ := f.2 q (by rw [distOf_length]; exact hq)
    rw [distOf_getD hq] at f0 f1
    have l := dAt_le M q
    by_cases h : dAt M q = 0
    · exact ⟨fun e => absurd e (dAt_zero hq h p hpq), fun e => absurd e (f0 h p hpq)⟩
    · have hpos : 0 < dAt M q := by omega
      have z := dAt_pos hq hpos
      have y := f1 hpos
      rw [← z.1, y]
      rcases Nat.lt_trichotomy p (q - dAt M q) with h1 | h1 | h1
      · exact ih _ (by omega) (by omega) p h1
      · rw [h1]; exact ⟨fun _ => rfl, fun _ => rfl⟩
      · have := ih p hpq (by omega) _ h1
        exact ⟨fun e => (this.mp e.symm).symm, fun e => (this.mpr e.symm).symm⟩
theorem Follows.ker {M F : List Nat} (f : Follows (distOf M) F) : Ker M F := by
  refine ⟨by rw [f.1, distOf_length], fun p q hp hq => ?_⟩
  rcases Nat.lt_trichotomy p q with h | h | h
  · exact f.ker_lt q hq p h
  · rw [h]; exact ⟨fun _ => rfl, fun _ => rfl⟩
  · have := f.ker_lt p hp q h
    exact ⟨fun e => (this.mp e.symm).symm, fun e => (this.mpr e.symm).symm⟩
theorem follows_self (M : List Nat) : Follows (distOf M) M := by
  refine ⟨(distOf_length M).symm, fun p hp => ?_⟩
  rw [distOf_length] at hp
  rw [distOf_getD hp]
  exact ⟨fun h => dAt_zero hp h, fun h => (dAt_pos hp h).1.symm⟩
theorem ker_of_dist {M M' : List Nat} (h : distOf M = distOf M') : Ker M M' := by
  have f := follows_self M'
  rw [← h] at f
  exact f.ker

/-! the pairs of neighbouring equal places -/
def linkG (ds : List Nat) (o : Nat) : Option (Nat × Nat) := if 0 < ds.getD o 0 then some (o - ds.getD o 0, o) else none
def linksD (ds : List Nat) : List (Nat × Nat) := (List.range ds.length).filterMap (linkG ds)
theorem mem_links {M : List Nat} {x y : Nat} (h : (x, y) ∈ linksD (distOf M)) : x < y ∧ y < M.length ∧ M[x]? = M[y]? := by
  obtain ⟨o, ho, e⟩ := List.mem_filterMap.mp h
  have ho := List.mem_range.mp ho
  rw [distOf_length] at ho
  unfold linkG at e
  rw [distOf_getD ho] at e
  by_cases hp : 0 < dAt M o
  · rw [if_pos hp] at e
    cases e
    have l := dAt_le M y
    exact ⟨by omega, ho, (dAt_pos ho hp).1⟩
  · rw [if_neg hp] at e
    cases e
theorem links_mem {M : List Nat} {y : Nat} (hy : y < M.length) (hp : 0 < dAt M y) : (y - dAt M y, y) ∈ linksD (distOf M) := by
  refine List.mem_filterMap.mpr ⟨y, List.mem_range.mpr (by rw [distOf_length]; exact hy), ?_⟩
  unfold linkG
  rw [distOf_getD hy, if_pos hp]
/-- an equivalence that holds the neighbours holds all equal places -/
theorem links_gen {M : List Nat} {R : Nat → Nat → Prop} (rr : ∀ a, a < M.length → R a a) (rs : ∀ a b, R a b → R b a) (rt : ∀ a b c, R a b → R b c → R a c)
    (h : ∀ x y, (x, y) ∈ linksD (distOf M) → R x y) : ∀ a b, a < M.length → b < M.length → M[a]? = M[b]? → R a b := by
  have key : ∀ (q : Nat), q < M.length → ∀ p, p < q → M[p]? = M[q]? → R p q := by
    intro q
    induction q using Nat.strongRecOn with
    | _ q ih =>
      intro hq p hpq e
      by_cases h0 : dAt M q = 0
      · exact absurd e (dAt_zero hq h0 p hpq)
      · have hpos : 0 < dAt M q := by omega
        have l := dAt_le M q
        have z := dAt_pos hq hpos
        have m := h _ _ (links_mem hq hpos)
        rcases Nat.lt_trichotomy p (q - dAt M q) with h1 | h1 | h1
        · exact rt _ _ _ (ih _ (by omega) (by omega) p h1 (e.trans z.1.symm)) m
        · rw [h1]; exact m
        · exact absurd e (z.2 p h1 hpq)
  intro a b ha hb e
  rcases Nat.lt_trichotomy a b with h1 | h1 | h1
  · exact key b hb a h1 e
  · rw [h1]; exact rr b hb
  · exact rs _ _ (key a ha b h1 e.symm)

/-- the checks of is_distances -/
theorem targets_ne {M : List Nat} {p q : Nat} (hpq : p < q) (hq : q < M.length) (h1 : 0 < dAt M p) (h2 : 0 < dAt M q) : p - dAt M p ≠ q - dAt M q := by
  intro e
  have a := dAt_pos (M := M) (p := p) (by omega) h1
  have b := dAt_pos hq h2
  have l := dAt_le M p
  have l2 := dAt_le M q
  refine b.2 p (by omega) hpq ?_
  rw [← a.1, e, b.1]
def targG (ds : List Nat) (o : Nat) : Option Nat := if 0 < ds.getD o 0 then some (o - ds.getD o 0) else none
def targets (ds : List Nat) : List Nat := (List.range ds.length).filterMap (targG ds)
theorem targets_nodup (M : List Nat) : (targets (distOf M)).Nodup := by
  unfold targets
  rw [distOf_length]
  have gen : ∀ n, n ≤ M.length → ((List.range n).filterMap (targG (distOf M))).Nodup := by
    intro n
    induction n with
    | zero => intro _; exact List.nodup_nil
    | succ n ih =>
      intro hn
      rw [List.range_succ, List.filterMap_append, List.nodup_append]
      refine ⟨ih (by omega), ?_, ?_⟩
      · cases e : targG (distOf M) n with
        | none => simp [e]
        | some v => simp [e]
      · intro a ha b hb e
        obtain ⟨o, ho, e1⟩ := List.mem_filterMap.mp ha
        obtain ⟨o2, ho2, e2⟩ := List.mem_filterMap.mp hb
        have ho := List.mem_range.mp ho
        have ho2 := List.mem_singleton.mp ho2
        subst ho2
        unfold targG at e1 e2
        rw [distOf_getD (by omega)] at e1 e2
        by_cases h1 : 0 < dAt M o
        · by_cases h2 : 0 < dAt M o2
          · rw [if_pos h1] at e1
            rw [if_pos h2] at e2
            have e1 := Option.some.inj e1
            have e2 := Option.some.inj e2
            exact targets_ne ho (by omega) h1 h2 (by omega)
          · rw [if_neg h2] at e2
            cases e2
        · rw [if_neg h1] at e1
          cases e1
  exact gen _ (Nat.le_refl _)
end Hfb
/-! facts, what follows, the finest partition -/
namespace Hfb

inductive Fact where
  | same (i j : Nat)
  | diff (i j : Nat)
  | eqv (i j l : Nat)
  | win (i : Nat) (W : List Nat)

def Fact.Ok (n : Nat) : Fact → Prop
  | .same i j => i < n ∧ j < n ∧ i ≠ j
  | .diff i j => i < n ∧ j < n ∧ i ≠ j
  | .eqv i j l => i < n ∧ j < n ∧ i ≠ j ∧ 1 ≤ l ∧ i + l ≤ n ∧ j + l ≤ n
  | .win i W => 1 ≤ W.length ∧ i + W.length ≤ n

inductive Der (fs : List Fact) : Nat → Nat → Prop
  | refl (i : Nat) : Der fs i i
  | symm {i j : Nat} : Der fs i j → Der fs j i
  | trans {i j k : Nat} : Der fs i j → Der fs j k → Der fs i k
  | same {i j : Nat} : Fact.same i j ∈ fs → Der fs i j
  | win {s : Nat} {W : List Nat} {a b : Nat} : Fact.win s W ∈ fs → a < W.length → b < W.length → W[a]? = W[b]? → Der fs (s + a) (s + b)
  | copy {s t l a b : Nat} : Fact.eqv s t l ∈ fs → a < l → b < l → Der fs (s + a) (s + b) → Der fs (t + a) (t + b)
  | copyr {s t l a b : Nat} : Fact.eqv s t l ∈ fs → a < l → b < l → Der fs (t + a) (t + b) → Der fs (s + a) (s + b)

/-- a fact says that a and b are the same; different -/
def SSame : Fact → Nat → Nat → Prop
  | .same i j, a, b => (a = i ∧ b = j) ∨ (a = j ∧ b = i)
  | .win s W, a, b => ∃ x y, a = s + x ∧ b = s + y ∧ x < W.length ∧ y < W.length ∧ W[x]? = W[y]?
  | _, _, _ => False
def SDiff : Fact → Nat → Nat → Prop
  | .diff i j, a, b => (a = i ∧ b = j) ∨ (a = j ∧ b = i)
  | .win s W, a, b => ∃ x y, a = s + x ∧ b = s + y ∧ x < W.length ∧ y < W.length ∧ W[x]? ≠ W[y]?
  | _, _, _ => False
theorem SDiff.symm {f : Fact} {a b : Nat} (h : SDiff f a b) : SDiff f b a := by
  cases f with
  | diff i j => rcases h with ⟨h1, h2⟩ | ⟨h1, h2⟩ <;> simp [SDiff, h1, h2]
  | win s W => obtain ⟨x, y, h1, h2, h3, h4, h5⟩ := h; exact ⟨y, x, h2, h1, h4, h3, fun e => h5 e.symm⟩
  | same i j => exact h
  | eqv i j l => exact h
theorem SSame.symm {f : Fact} {a b : Nat} (h : SSame f a b) : SSame f b a := by
  cases f with
  | same i j => rcases h with ⟨h1, h2⟩ | ⟨h1, h2⟩ <;> simp [SSame, h1, h2]
  | win s W => obtain ⟨x, y, h1, h2, h3, h4, h5⟩ := h; exact ⟨y, x, h2, h1, h4, h3, h5.symm⟩
  | diff i j => exact h
  | eqv i j l => exact h
theorem SDiff.ne {f : Fact} {n a b : Nat} (ok : f.Ok n) (h : SDiff f a b) : a ≠ b := by
  cases f with
  | diff i j => obtain ⟨_, _, h3⟩ := ok; rcases h with ⟨h1, h2⟩ | ⟨h1, h2⟩ <;> omega
  | win s W =>
    obtain ⟨x, y, h1, h2, h3, h4, h5⟩ := h
    intro e
    have : x = y := by omega
    subst this
    exact h5 rfl
  | same i j => exact h.elim
  | eqv i j l => exact h.elim
theorem SDiff.lt {f : Fact} {n a b : Nat} (ok : f.Ok n) (h : SDiff f a b) : a < n ∧ b < n := by
  cases f with
  | diff i j => obtain ⟨_, _, h3⟩ := ok; rcases h with ⟨h1, h2⟩ | ⟨h1, h2⟩ <;> omega
  | win s W => obtain ⟨x, y, h1, h2, h3, h4, h5⟩ := h; obtain ⟨_, _⟩ := ok; omega
  | same i j => exact h.elim
  | eqv i j l => exact h.elim
theorem SSame.der {fs : List Fact} {f : Fact} {a b : Nat} (hf : f ∈ fs) (h : SSame f a b) : Der fs a b := by
  cases f with
  | same i j =>
    rcases h with ⟨h1, h2⟩ | ⟨h1, h2⟩
    · subst h1; subst h2; exact .same hf
    · subst h1; subst h2; exact .symm (.same hf)
  | win s W => obtain ⟨x, y, h1, h2, h3, h4, h5⟩ := h; subst h1; subst h2; exact .win hf h3 h4 h5
  | diff i j => exact h.elim
  | eqv i j l => exact h.elim

def Cons (fs : List Fact) : Prop := ∀ f ∈ fs, ∀ a b, SDiff f a b → ¬ Der fs a b

theorem Der.mono {fs gs : List Fact} (h : ∀ f ∈ fs, f ∈ gs) {a b : Nat} (d : Der fs a b) : Der gs a b := by
  induction d with
  | refl i => exact .refl i
  | symm _ ih => exact .symm ih
  | trans _ _ ih1 ih2 => exact .trans ih1 ih2
  | same m => exact .same (h _ m)
  | win m h1 h2 h3 => exact .win (h _ m) h1 h2 h3
  | copy m h1 h2 _ ih => exact .copy (h _ m) h1 h2 ih
  | copyr m h1 h2 _ ih => exact .copyr (h _ m) h1 h2 ih

/-- what a fact says of a list of signs -/
def Sat (L : List Nat) : Fact → Prop
  | .same i j => L[i]? = L[j]?
  | .diff i j => L[i]? ≠ L[j]?
  | .win s W => ∀ a b, a < W.length → b < W.length → (W[a]? = W[b]? ↔ L[s + a]? = L[s + b]?)
  | .eqv s t l => ∀ a b, a < l → b < l → (L[s + a]? = L[s + b]? ↔ L[t + a]? = L[t + b]?)
theorem der_sound {fs : List Fact} {L : List Nat} (h : ∀ f ∈ fs, Sat L f) {a b : Nat} (d : Der fs a b) : L[a]? = L[b]? := by
  induction d with
  | refl i => rfl
  | symm _ ih => exact ih.symm
  | trans _ _ ih1 ih2 => exact ih1.trans ih2
  | same m => exact h _ m
  | win m h1 h2 h3 => exact (h _ m _ _ h1 h2).mp h3
  | copy m h1 h2 _ ih => exact (h _ m _ _ h1 h2).mp ih
  | copyr m h1 h2 _ ih => exact (h _ m _ _ h1 h2).mpr ih
theorem sat_diff {L : List Nat} {f : Fact} (h : Sat L f) {a b : Nat} (d : SDiff f a b) : L[a]? ≠ L[b]? := by
  cases f with
  | diff i j =>
    rcases d with ⟨h1, h2⟩ | ⟨h1, h2⟩
    · subst h1; subst h2; exact h
    · subst h1; subst h2; exact fun e => h e.symm
  | win s W =>
    obtain ⟨x, y, h1, h2, h3, h4, h5⟩ := d
    subst h1; subst h2
    exact fun e => h5 ((h x y h3 h4).mpr e)
  | same i j => exact d.elim
  | eqv i j l => exact d.elim
theorem cons_of_sat {fs : List Fact} {L : List Nat} (h : ∀ f ∈ fs, Sat L f) : Cons fs := fun f hf _ _ d e =>
  sat_diff (h f hf) d (der_sound h e)

/-- L is the partition of the first n places by what follows -/
def Part (fs : List Fact) (n : Nat) (L : List Nat) : Prop := L.length = n ∧ ∀ i j, i < n → j < n → (L[i]? = L[j]? ↔ Der fs i j)
theorem part_sat {fs : List Fact} {n : Nat} {L : List Nat} (p : Part fs n L) (ok : ∀ f ∈ fs, f.Ok n) (c : Cons fs) : ∀ f ∈ fs, Sat L f := by
  intro f hf
  have o := ok f hf
  cases f with
  | same i j => exact (p.2 i j o.1 o.2.1).mpr (.same hf)
  | diff i j => exact fun e => c _ hf i j (.inl ⟨rfl, rfl⟩) ((p.2 i j o.1 o.2.1).mp e)
  | win s W =>
    intro a b ha hb
    obtain ⟨o1, o2⟩ := o
    constructor
    · intro e
      exact (p.2 _ _ (by omega) (by omega)).mpr (.win hf ha hb e)
    · intro e
      by_cases q : W[a]? = W[b]?
      · exact q
      · exact absurd ((p.2 _ _ (by omega) (by omega)).mp e) (c _ hf _ _ ⟨a, b, rfl, rfl, ha, hb, q⟩)
  | eqv s t l =>
    intro a b ha hb
    obtain ⟨o1, o2, o3, o4, o5, o6⟩ := o
    rw [p.2 _ _ (by omega) (by omega), p.2 _ _ (by omega) (by omega)]
    exact ⟨fun d => .copy hf ha hb d, fun d => .copyr hf ha hb d⟩

/-! merges -/
def mrg (L : List Nat) (k d : Nat) : List Nat := L.map fun x => if x = d then k else x
def mergeF (L : List Nat) (a b : Nat) : List Nat × Bool :=
  if min (L.getD a 0) (L.getD b 0) = max (L.getD a 0) (L.getD b 0) then (L, false)
  else (mrg L (min (L.getD a 0) (L.getD b 0)) (max (L.getD a 0) (L.getD b 0)), true)
theorem mrg_length (L : List Nat) (k d : Nat) : (mrg L k d).length = L.length := by simp [mrg]
theorem mergeF_length (L : List Nat) (a b : Nat) : (mergeF L a b).1.length = L.length := by
  unfold mergeF; split
  · rfl
  · exact mrg_length _ _ _
theorem mrg_get (L : List Nat) (k d i : Nat) : (mrg L k d)[i]? = L[i]?.map fun x => if x = d then k else x := by simp [mrg]
/-- no equality is lost -/
def Coarser (L L' : List Nat) : Prop := L.length = L'.length ∧ ∀ i j : Nat, L[i]? = L[j]? → L'[i]? = L'[j]?
theorem Coarser.refl (L : List Nat) : Coarser L L := ⟨rfl, fun _ _ h => h⟩
theorem Coarser.trans {L L' L'' : List Nat} (a : Coarser L L') (b : Coarser L' L'') : Coarser L L'' := ⟨a.1.trans b.1, fun i j h => b.2 i j (a.2 i j h)⟩
theorem mergeF_coarser (L : List Nat) (a b : Nat) : Coarser L (mergeF L a b).1 := by
  refine ⟨(mergeF_length L a b).symm, fun i j h => ?_⟩
  unfold mergeF; split
  · exact h
  · show (mrg _ _ _)[i]? = (mrg _ _ _)[j]?
    rw [mrg_get, mrg_get, h]
theorem mergeF_eq {L : List Nat} {a b : Nat} (ha : a < L.length) (hb : b < L.length) : (mergeF L a b).1[a]? = (mergeF L a b).1[b]? := by
  have ea := get_of_lt ha
  have eb := get_of_lt hb
  unfold mergeF; split
  · rename_i h
    show L[a]? = L[b]?
    rw [ea, eb]
    congr 1
    omega
  · rename_i h
    show (mrg _ _ _)[a]? = (mrg _ _ _)[b]?
    rw [mrg_get, mrg_get, ea, eb]
    show some _ = some _
    congr 1
    dsimp only
    split <;> split <;> omega
theorem mergeF_false {L : List Nat} {a b : Nat} (h : (mergeF L a b).2 = false) : (mergeF L a b).1 = L := by
  unfold mergeF at h ⊢
  split at h
  · rw [if_pos ‹_›]
  · cases h
theorem sum_le_map (k d : Nat) (hk : k < d) : ∀ L : List Nat, (mrg L k d).sum ≤ L.sum ∧ (d ∈ L → (mrg L k d).sum < L.sum)
  | [] => ⟨Nat.le_refl _, fun h => nomatch h⟩
  | x :: r => by
    obtain ⟨h1, h2⟩ := sum_le_map k d hk r
    have e : (mrg (x :: r) k d).sum = (if x = d then k else x) + (mrg r k d).sum := by simp [mrg]
    have e2 : (x :: r).sum = x + r.sum := by simp
    rw [e, e2]
    refine ⟨?_, fun hm => ?_⟩
    · split <;> omega
    · rcases List.mem_cons.mp hm with h | h
      · subst h
        rw [if_pos rfl]; omega
      · have := h2 h
        split <;> omega
theorem mergeF_true {L : List Nat} {a b : Nat} (ha : a < L.length) (hb : b < L.length) (h : (mergeF L a b).2 = true) : (mergeF L a b).1.sum < L.sum := by
  unfold mergeF at h ⊢
  split at h
  · cases h
  · rename_i hn
    rw [if_neg hn]
    refine (sum_le_map _ _ (by omega) L).2 ?_
    have ea := List.mem_of_getElem? (get_of_lt ha)
    have eb := List.mem_of_getElem? (get_of_lt hb)
    rcases Nat.le_total (L.getD a 0) (L.getD b 0) with q | q
    · rw [Nat.max_eq_right q]; exact eb
    · rw [Nat.max_eq_left q]; exact ea
/-- equalities that follow -/
def Sound (fs : List Fact) (L : List Nat) : Prop := ∀ i j, i < L.length → j < L.length → L[i]? = L[j]? → Der fs i j
theorem mergeF_sound {fs : List Fact} {L : List Nat} {a b : Nat} (s : Sound fs L) (ha : a < L.length) (hb : b < L.length) (d : Der fs a b) : Sound fs (mergeF L a b).1 := by
  intro i j hi hj e
  rw [mergeF_length] at hi hj
  unfold mergeF at e
  split at e
  · exact s i j hi hj e
  · rename_i hn
    have e : (mrg L _ _)[i]? = (mrg L _ _)[j]? := e
    have ea := get_of_lt ha
    have eb := get_of_lt hb
    have ei := get_of_lt hi
    have ej := get_of_lt hj
    rw [mrg_get, mrg_get, ei, ej] at e
    have e := Option.some.inj e
    -- the sign of i is that of j, or both are among the two merged
    have toA : ∀ x, x < L.length → (L.getD x 0 = L.getD a 0 ∨ L.getD x 0 = L.getD b 0) → Der fs x a := by
      intro x hx h
      rcases h with h | h
      · exact s x a hx ha (by rw [get_of_lt hx, ea, h])
      · exact .trans (s x b hx hb (by rw [get_of_lt hx, eb, h])) (.symm d)
    by_cases hij : L.getD i 0 = L.getD j 0
    · exact s i j hi hj (by rw [ei, ej, hij])
    · have hh : (L.getD i 0 = L.getD a 0 ∨ L.getD i 0 = L.getD b 0) ∧ (L.getD j 0 = L.getD a 0 ∨ L.getD j 0 = L.getD b 0) := by
        revert e
        dsimp only
        split <;> split <;> omega
      exact .trans (toA i hi hh.1) (.symm (toA j hj hh.2))

/-! copying links -/
def copyStep (t : Nat) (st : List Nat × Bool) (xy : Nat × Nat) : List Nat × Bool := ((mergeF st.1 (t + xy.1) (t + xy.2)).1, (mergeF st.1 (t + xy.1) (t + xy.2)).2 || st.2)
def copyF (L : List Nat) (s t l : Nat) : List Nat × Bool := (linksD (distOf ((L.drop s).take l))).foldl (copyStep t) (L, false)
theorem cut_get (L : List Nat) (s l a : Nat) (ha : a < l) : ((L.drop s).take l)[a]? = L[s + a]? := by
  rw [List.getElem?_take, if_pos ha, List.getElem?_drop]
theorem cut_len {L : List Nat} {s l : Nat} (h : s + l ≤ L.length) : ((L.drop s).take l).length = l := by
  rw [List.length_take, List.length_drop]; omega
structure CopyInv (fs : List Fact) (L : List Nat) (t : Nat) (done : List (Nat × Nat)) (st : List Nat × Bool) : Prop where
  coarser : Coarser L st.1
  sound : Sound fs st.1
  off : st.2 = false → st.1 = L
  on : st.2 = true → st.1.sum < L.sum
  eqs : ∀ x y, (x, y) ∈ done → st.1[t + x]? = st.1[t + y]?
theorem CopyInv.step {fs : List Fact} {L : List Nat} {t x y : Nat} {done : List (Nat × Nat)} {st : List Nat × Bool} (I : CopyInv fs L t done st)
    (hx : t + x < L.length) (hy : t + y < L.length) (d : Der fs (t + x) (t + y)) : CopyInv fs L t (done ++ [(x, y)]) (copyStep t st (x, y)) := by
  have hl := I.coarser.1
  have hx' : t + x < st.1.length := by omega
  have hy' : t + y < st.1.length := by omega
  refine ⟨I.coarser.trans (mergeF_coarser _ _ _), mergeF_sound I.sound hx' hy' d, fun h => ?_, fun h => ?_, fun a b hm => ?_⟩
  · have h : ((mergeF st.1 (t + x) (t + y)).2 || st.2) = false := h
    rw [Bool.or_eq_false_iff] at h
    show (mergeF st.1 (t + x) (t + y)).1 = L
    rw [mergeF_false h.1, I.off h.2]
  · have h : ((mergeF st.1 (t + x) (t + y)).2 || st.2) = true := h
    show (mergeF st.1 (t + x) (t + y)).1.sum < L.sum
    have c : st.1.sum ≤ L.sum := by
      cases q : st.2 with
      | false => rw [I.off q]; exact Nat.le_refl _
      | true => exact Nat.le_of_lt (I.on q)
    cases q : (mergeF st.1 (t + x) (t + y)).2 with
    | true => exact Nat.lt_of_lt_of_le (mergeF_true hx' hy' q) c
    | false =>
      rw [q, Bool.false_or] at h
      rw [mergeF_false q]
      exact I.on h
  · rcases List.mem_append.mp hm with h | h
    · exact (mergeF_coarser st.1 (t + x) (t + y)).2 _ _ (I.eqs a b h)
    · have h := List.mem_singleton.mp h
      cases h
      exact mergeF_eq hx' hy'
theorem CopyInv.all {fs : List Fact} {L : List Nat} {t : Nat} (todo : List (Nat × Nat)) : ∀ (done : List (Nat × Nat)) (st : List Nat × Bool), CopyInv fs L t done st →
    (∀ x y, (x, y) ∈ todo → t + x < L.length ∧ t + y < L.length ∧ Der fs (t + x) (t + y)) → CopyInv fs L t (done ++ todo) (todo.foldl (copyStep t) st) := by
  induction todo with
  | nil => intro done st I _; rw [List.append_nil]; exact I
  | cons p r ih =>
    intro done st I h
    obtain ⟨x, y⟩ := p
    obtain ⟨h1, h2, h3⟩ := h x y List.mem_cons_self
    have := ih (done ++ [(x, y)]) _ (I.step h1 h2 h3) fun a b hm => h a b (List.mem_cons_of_mem _ hm)
    rw [List.append_assoc] at this
    exact this
/-- what copying does: nothing lost, sound, no change where it says so, the images are there -/
structure Copied (fs : List Fact) (L : List Nat) (s t l : Nat) (L' : List Nat) (b : Bool) : Prop where
  coarser : Coarser L L'
  sound : Sound fs L'
  off : b = false → L' = L
  on : b = true → L'.sum < L.sum
  eqs : ∀ x y, x < l → y < l → L[s + x]? = L[s + y]? → L'[t + x]? = L'[t + y]?
theorem copied {fs : List Fact} {L : List Nat} {s t l : Nat} (sd : Sound fs L) (hs : s + l ≤ L.length) (ht : t + l ≤ L.length)
    (cp : ∀ a b, a < l → b < l → Der fs (s + a) (s + b) → Der fs (t + a) (t + b)) : Copied fs L s t l (copyF L s t l).1 (copyF L s t l).2 := by
  have I0 : CopyInv fs L t [] (L, false) := ⟨Coarser.refl L, sd, fun _ => rfl, (fun h => nomatch h), (fun _ _ h => nomatch h)⟩
  have I := I0.all (linksD (distOf ((L.drop s).take l))) [] (L, false) fun x y hm => by
    obtain ⟨h1, h2, h3⟩ := mem_links hm
    rw [cut_len hs] at h2
    rw [cut_get L s l x (by omega), cut_get L s l y h2] at h3
    exact ⟨by omega, by omega, cp x y (by omega) h2 (sd _ _ (by omega) (by omega) h3)⟩
  refine ⟨I.coarser, I.sound, I.off, I.on, fun x y hx hy e => ?_⟩
  have len := cut_len hs
  refine links_gen (M := (L.drop s).take l) (R := fun a b => (copyF L s t l).1[t + a]? = (copyF L s t l).1[t + b]?) (fun _ _ => rfl) (fun _ _ h => h.symm) (fun _ _ _ h1 h2 => h1.trans h2) ?_ x y (by omega) (by omega) ?_
  · intro a b hm
    exact I.eqs a b (by rw [List.nil_append]; exact hm)
  · rw [cut_get L s l x hx, cut_get L s l y hy]; exact e
def bothF (L : List Nat) (s t l : Nat) : List Nat × Bool := ((copyF (copyF L s t l).1 t s l).1, (copyF (copyF L s t l).1 t s l).2 || (copyF L s t l).2)
structure Both (fs : List Fact) (L : List Nat) (s t l : Nat) (L' : List Nat) (b : Bool) : Prop where
  coarser : Coarser L L'
  sound : Sound fs L'
  off : b = false → L' = L ∧ ∀ x y, x < l → y < l → (L[s + x]? = L[s + y]? ↔ L[t + x]? = L[t + y]?)
  on : b = true → L'.sum < L.sum
theorem both {fs : List Fact} {L : List Nat} {s t l : Nat} (sd : Sound fs L) (hs : s + l ≤ L.length) (ht : t + l ≤ L.length) (hf : Fact.eqv s t l ∈ fs) : Both fs L s t l (bothF L s t l).1 (bothF L s t l).2 := by
  have C1 := copied sd hs ht fun a b ha hb d => .copy hf ha hb d
  have C2 := copied C1.sound (s := t) (t := s) (l := l) (by rw [← C1.coarser.1]; exact ht) (by rw [← C1.coarser.1]; exact hs) fun a b ha hb d => .copyr hf ha hb d
  refine ⟨C1.coarser.trans C2.coarser, C2.sound, fun h => ?_, fun h => ?_⟩
  · have h : ((copyF (copyF L s t l).1 t s l).2 || (copyF L s t l).2) = false := h
    rw [Bool.or_eq_false_iff] at h
    have e1 := C1.off h.2
    have e2 := C2.off h.1
    have q1 := C1.eqs
    have q2 := C2.eqs
    rw [e1] at q1
    rw [e1] at e2 q2
    rw [e2] at q2
    exact ⟨by show (copyF (copyF L s t l).1 t s l).1 = L; rw [e1, e2], fun x y hx hy => ⟨q1 x y hx hy, q2 x y hx hy⟩⟩
  · have h : ((copyF (copyF L s t l).1 t s l).2 || (copyF L s t l).2) = true := h
    show (copyF (copyF L s t l).1 t s l).1.sum < L.sum
    cases q : (copyF L s t l).2 with
    | true =>
      have c := C1.on q
      cases q2 : (copyF (copyF L s t l).1 t s l).2 with
      | true => exact Nat.lt_trans (C2.on q2) c
      | false => rw [C2.off q2]; exact c
    | false =>
      rw [q, Bool.or_false] at h
      have c := C2.on h
      rw [C1.off q] at c ⊢
      exact c

/-- the equalities that the facts state outright -/
def Stated (fs : List Fact) (L : List Nat) : Prop := ∀ f ∈ fs, ∀ a b, SSame f a b → L[a]? = L[b]?
theorem Stated.coarser {fs : List Fact} {L L' : List Nat} (s : Stated fs L) (c : Coarser L L') : Stated fs L' := fun f hf a b h => c.2 _ _ (s f hf a b h)
/-- sound, holds what is stated, closed under the copies: the finest partition -/
theorem part_of {fs : List Fact} {n : Nat} {L : List Nat} (hl : L.length = n) (sd : Sound fs L) (st : Stated fs L)
    (cl : ∀ s t l, Fact.eqv s t l ∈ fs → ∀ x y, x < l → y < l → (L[s + x]? = L[s + y]? ↔ L[t + x]? = L[t + y]?)) : Part fs n L := by
  refine ⟨hl, fun i j hi hj => ⟨fun e => sd i j (by omega) (by omega) e, fun d => ?_⟩⟩
  clear hi hj
  induction d with
  | refl i => rfl
  | symm _ ih => exact ih.symm
  | trans _ _ ih1 ih2 => exact ih1.trans ih2
  | same m => exact st _ m _ _ (.inl ⟨rfl, rfl⟩)
  | win m h1 h2 h3 => exact st _ m _ _ ⟨_, _, rfl, rfl, h1, h2, h3⟩
  | copy m h1 h2 _ ih => exact (cl _ _ _ m _ _ h1 h2).mp ih
  | copyr m h1 h2 _ ih => exact (cl _ _ _ m _ _ h1 h2).mpr ih

/-- the pairs that a fact states, by which the merges begin -/
def statedP : Fact → List (Nat × Nat)
  | .same i j => [(i, j)]
  | .win s W => (linksD (distOf W)).map fun xy => (s + xy.1, s + xy.2)
  | _ => []
theorem statedP_sound {fs : List Fact} {f : Fact} {n a b : Nat} (hf : f ∈ fs) (ok : f.Ok n) (h : (a, b) ∈ statedP f) : a < n ∧ b < n ∧ a ≠ b ∧ SSame f a b := by
  cases f with
  | same i j =>
    have h := List.mem_singleton.mp h
    cases h
    exact ⟨ok.1, ok.2.1, ok.2.2, .inl ⟨rfl, rfl⟩⟩
  | win s W =>
    obtain ⟨xy, hm, e⟩ := List.mem_map.mp h
    obtain ⟨x, y⟩ := xy
    obtain ⟨h1, h2, h3⟩ := mem_links hm
    obtain ⟨o1, o2⟩ := ok
    cases e
    exact ⟨by show s + x < n; omega, by show s + y < n; omega, by show s + x ≠ s + y; omega, x, y, rfl, rfl, by omega, h2, h3⟩
  | diff i j => exact absurd h (by simp [statedP])
  | eqv i j l => exact absurd h (by simp [statedP])
/-- an equivalence that holds the stated pairs holds what the fact states -/
theorem statedP_gen {f : Fact} {n : Nat} {R : Nat → Nat → Prop} (ok : f.Ok n) (rr : ∀ a, a < n → R a a) (rs : ∀ a b, R a b → R b a) (rt : ∀ a b c, R a b → R b c → R a c)
    (h : ∀ a b, (a, b) ∈ statedP f → R a b) : ∀ a b, SSame f a b → R a b := by
  intro a b hs
  cases f with
  | same i j =>
    have := h i j (by simp [statedP])
    rcases hs with ⟨h1, h2⟩ | ⟨h1, h2⟩
    · subst h1; subst h2; exact this
    · subst h1; subst h2; exact rs _ _ this
  | win s W =>
    obtain ⟨x, y, h1, h2, h3, h4, h5⟩ := hs
    subst h1; subst h2
    obtain ⟨o1, o2⟩ := ok
    refine links_gen (M := W) (R := fun x y => R (s + x) (s + y)) (fun x hx => rr _ (by omega)) (fun _ _ => rs _ _) (fun _ _ _ => rt _ _ _) (fun x y hm => ?_) x y h3 h4 h5
    exact h _ _ (List.mem_map.mpr ⟨(x, y), hm, rfl⟩)
  | diff i j => exact hs.elim
  | eqv i j l => exact hs.elim
end Hfb
/-! lists that are filled by the distances -/
namespace Hfb
def fillF (b : Nat → Nat) (ds : List Nat) : Nat → List Nat
  | 0 => []
  | n + 1 => fillF b ds n ++ [if ds.getD n 0 = 0 then b n else (fillF b ds n).getD (n - ds.getD n 0) 0]
theorem fillF_len (b : Nat → Nat) (ds : List Nat) : ∀ n, (fillF b ds n).length = n
  | 0 => rfl
  | n + 1 => by unfold fillF; rw [List.length_append, fillF_len b ds n]; rfl
theorem fillF_get (b : Nat → Nat) (ds : List Nat) {p : Nat} : ∀ {n : Nat}, p < n → (fillF b ds n)[p]? = some (if ds.getD p 0 = 0 then b p else (fillF b ds p).getD (p - ds.getD p 0) 0)
  | 0, h => by omega
  | n + 1, h => by
    rw [show fillF b ds (n + 1) = fillF b ds n ++ [if ds.getD n 0 = 0 then b n else (fillF b ds n).getD (n - ds.getD n 0) 0] from rfl]
    by_cases e : p = n
    · subst e
      rw [List.getElem?_append_right (by rw [fillF_len]; exact Nat.le_refl _), fillF_len, Nat.sub_self]
      rfl
    · rw [List.getElem?_append_left (by rw [fillF_len]; omega)]
      exact fillF_get b ds (by omega)
theorem fillF_stab (b : Nat → Nat) (ds : List Nat) {p n m : Nat} (h1 : p < n) (h2 : p < m) : (fillF b ds n)[p]? = (fillF b ds m)[p]? := by rw [fillF_get b ds h1, fillF_get b ds h2]
theorem fillF_lt {b : Nat → Nat} {ds : List Nat} {N : Nat} (mono : ∀ n, n < N → b n ≤ b (n + 1)) (up : ∀ n, n < N → ds.getD n 0 = 0 → b n < b (n + 1)) (le : ∀ n, n < N → ds.getD n 0 ≤ n) : ∀ (n : Nat), n ≤ N → ∀ p, p < n → ∀ v, (fillF b ds n)[p]? = some v → v < b n := by
  intro n
  induction n with
  | zero => intro _ p hp; omega
  | succ n ih =>
    intro hn p hp v hv
    have ih := ih (by omega)
    have m := mono n (by omega)
    by_cases e : p = n
    · rw [fillF_get b ds hp] at hv
      have hv := Option.some.inj hv
      rw [e] at hv
      by_cases h0 : ds.getD n 0 = 0
      · rw [if_pos h0] at hv
        have := up n (by omega) h0
        omega
      · rw [if_neg h0] at hv
        have l := le n (by omega)
        have lt : n - ds.getD n 0 < n := by omega
        have g : (fillF b ds n)[n - ds.getD n 0]? = some v := by
          rw [← hv]
          exact get_of_lt (by rw [fillF_len]; exact lt)
        have := ih _ lt v g
        omega
    · rw [fillF_stab b ds hp (show p < n by omega)] at hv
      have := ih p (by omega) v hv
      omega
theorem fillF_follows {b : Nat → Nat} {ds : List Nat} (mono : ∀ n, n < ds.length → b n ≤ b (n + 1)) (up : ∀ n, n < ds.length → ds.getD n 0 = 0 → b n < b (n + 1)) (le : ∀ n, n < ds.length → ds.getD n 0 ≤ n) : Follows ds (fillF b ds ds.length) := by
  refine ⟨fillF_len b ds _, fun p hp => ⟨fun h0 r hr e => ?_, fun hpos => ?_⟩⟩
  · have g := fillF_get b ds hp
    rw [if_pos h0] at g
    rw [g] at e
    rw [fillF_stab b ds (show r < ds.length by omega) hr] at e
    have := fillF_lt mono up le p (by omega) r hr _ e
    omega
  · have g := fillF_get b ds hp
    rw [if_neg (by omega)] at g
    rw [g]
    have l := le p hp
    have lt : p - ds.getD p 0 < p := by omega
    rw [fillF_stab b ds (show p - ds.getD p 0 < ds.length by omega) lt]
    exact (get_of_lt (by rw [fillF_len]; exact lt)).symm
theorem reps_follows (M : List Nat) : Follows (distOf M) (fillF id (distOf M) (distOf M).length) := by
  refine fillF_follows (fun n _ => Nat.le_succ n) (fun n _ _ => Nat.lt_succ_self n) fun n hn => ?_
  rw [distOf_length] at hn
  rw [distOf_getD hn]
  exact dAt_le M n
/-- how many zeros stand below n -/
def zeros (ds : List Nat) : Nat → Nat
  | 0 => 0
  | n + 1 => zeros ds n + if ds.getD n 0 = 0 then 1 else 0
theorem ids_follows (M : List Nat) : Follows (distOf M) (fillF (zeros (distOf M)) (distOf M) (distOf M).length) := by
  refine fillF_follows (fun n _ => ?_) (fun n _ h => ?_) fun n hn => ?_
  · unfold zeros
    cases n <;> exact Nat.le_add_right _ _
  · show zeros (distOf M) n < zeros (distOf M) (n + 1)
    rw [show zeros (distOf M) (n + 1) = zeros (distOf M) n + if (distOf M).getD n 0 = 0 then 1 else 0 from rfl, if_pos h]
    omega
  · rw [distOf_length] at hn
    rw [distOf_getD hn]
    exact dAt_le M n
end Hfb
/-! derivations -/
namespace Hfb
abbrev Pr := Nat × Nat
def keyP (a b : Nat) : Pr := (min a b, max a b)
theorem keyP_symm (a b : Nat) : keyP a b = keyP b a := by unfold keyP; rw [Nat.min_comm, Nat.max_comm]
theorem keyP_inj {a b c d : Nat} (h : keyP a b = keyP c d) : (a = c ∧ b = d) ∨ (a = d ∧ b = c) := by
  unfold keyP at h
  have h1 := congrArg Prod.fst h
  have h2 := congrArg Prod.snd h
  simp only at h1 h2
  omega
theorem keyP_of_lt {a b : Nat} (h : a < b) : keyP a b = (a, b) := by
  unfold keyP
  rw [Nat.min_eq_left (by omega), Nat.max_eq_right (by omega)]
inductive Reason where
  | fact (m : Nat)
  | chain (r : Nat)
  | copy (m x y : Nat)
structure Step where
  p : Nat
  q : Nat
  reason : Reason
def Step.key (s : Step) : Pr := keyP s.p s.q
/-- the images of two places -/
def copiesL (s t l a b : Nat) : List Pr := (if s ≤ a ∧ a < s + l ∧ s ≤ b ∧ b < s + l then [(t + a - s, t + b - s)] else []) ++ (if t ≤ a ∧ a < t + l ∧ t ≤ b ∧ b < t + l then [(s + a - t, s + b - t)] else [])
theorem mem_copies {s t l a b i j : Nat} (h : (i, j) ∈ copiesL s t l a b) :
    (∃ x y, a = s + x ∧ b = s + y ∧ x < l ∧ y < l ∧ i = t + x ∧ j = t + y) ∨ (∃ x y, a = t + x ∧ b = t + y ∧ x < l ∧ y < l ∧ i = s + x ∧ j = s + y) := by
  unfold copiesL at h
  rcases List.mem_append.mp h with h | h
  · split at h
    · have h := List.mem_singleton.mp h
      cases h
      exact .inl ⟨a - s, b - s, by omega, by omega, by omega, by omega, by omega, by omega⟩
    · simp at h
  · split at h
    · have h := List.mem_singleton.mp h
      cases h
      exact .inr ⟨a - t, b - t, by omega, by omega, by omega, by omega, by omega, by omega⟩
    · simp at h
theorem copies_mem1 {s t l x y : Nat} (hx : x < l) (hy : y < l) : (t + x, t + y) ∈ copiesL s t l (s + x) (s + y) := by
  unfold copiesL
  rw [if_pos (by omega)]
  have e1 : t + (s + x) - s = t + x := by omega
  have e2 : t + (s + y) - s = t + y := by omega
  rw [e1, e2]
  simp
theorem copies_mem2 {s t l x y : Nat} (hx : x < l) (hy : y < l) : (s + x, s + y) ∈ copiesL s t l (t + x) (t + y) := by
  unfold copiesL
  refine List.mem_append.mpr (.inr ?_)
  rw [if_pos (by omega)]
  have e1 : s + (t + x) - t = s + x := by omega
  have e2 : s + (t + y) - t = s + y := by omega
  rw [e1, e2]
  simp
/-- a step's reason holds, given the pairs that are known -/
def VStep (n : Nat) (fs : List Fact) (kn : Pr → Prop) (st : Step) : Prop :=
  match st.reason with
  | .fact m => ∃ f, fs[m]? = some f ∧ SSame f st.p st.q
  | .chain r => r < n ∧ kn (keyP st.p r) ∧ kn (keyP r st.q)
  | .copy m x y => ∃ s t l, fs[m]? = some (.eqv s t l) ∧ x < n ∧ y < n ∧ x ≠ y ∧ kn (keyP x y) ∧ (st.p, st.q) ∈ copiesL s t l x y
def VOk (n : Nat) (fs : List Fact) (kn : Pr → Prop) (st : Step) : Prop := st.p < n ∧ st.q < n ∧ st.p ≠ st.q ∧ VStep n fs kn st
theorem VOk.mono {n : Nat} {fs : List Fact} {k k' : Pr → Prop} {st : Step} (h : ∀ x, k x → k' x) (v : VOk n fs k st) : VOk n fs k' st := by
  obtain ⟨h1, h2, h3, h4⟩ := v
  refine ⟨h1, h2, h3, ?_⟩
  obtain ⟨p, q, r⟩ := st
  cases r with
  | fact m => exact h4
  | chain r => exact ⟨h4.1, h _ h4.2.1, h _ h4.2.2⟩
  | copy m x y =>
    obtain ⟨s, t, l, a, b, c, d, e, f⟩ := h4
    exact ⟨s, t, l, a, b, c, d, h _ e, f⟩
def VAll (n : Nat) (fs : List Fact) : List Pr → List Step → Prop
  | _, [] => True
  | K, s :: r => VOk n fs (· ∈ K) s ∧ VAll n fs (K ++ [s.key]) r
theorem vAll_snoc {n : Nat} {fs : List Fact} {s : Step} : ∀ {xs : List Step} {K : List Pr}, VAll n fs K (xs ++ [s]) ↔ VAll n fs K xs ∧ VOk n fs (· ∈ K ++ xs.map Step.key) s
  | [], K => by
    show (VOk n fs (· ∈ K) s ∧ True) ↔ (True ∧ VOk n fs (· ∈ K ++ []) s)
    rw [List.append_nil]
    exact ⟨fun h => ⟨trivial, h.1⟩, fun h => ⟨h.2, trivial⟩⟩
  | x :: r, K => by
    show (VOk n fs (· ∈ K) x ∧ VAll n fs (K ++ [x.key]) (r ++ [s])) ↔ ((VOk n fs (· ∈ K) x ∧ VAll n fs (K ++ [x.key]) r) ∧ VOk n fs (· ∈ K ++ (x.key :: r.map Step.key)) s)
    rw [vAll_snoc, and_assoc, List.append_assoc]
    rfl
/-- what a valid step claims follows -/
theorem VOk.der {n : Nat} {fs : List Fact} {kn : Pr → Prop} {st : Step} (hk : ∀ a b, kn (keyP a b) → Der fs a b) (v : VOk n fs kn st) : Der fs st.p st.q := by
  obtain ⟨_, _, _, h4⟩ := v
  unfold VStep at h4
  cases e : st.reason with
  | fact m =>
    rw [e] at h4
    obtain ⟨f, hf, hs⟩ := h4
    exact hs.der (List.mem_of_getElem? hf)
  | chain r =>
    rw [e] at h4
    exact .trans (hk _ _ h4.2.1) (hk _ _ h4.2.2)
  | copy m x y =>
    rw [e] at h4
    obtain ⟨s, t, l, a, b, c, d, ek, hc⟩ := h4
    have dd := hk _ _ ek
    have hm := List.mem_of_getElem? a
    rcases mem_copies hc with ⟨u, v, h1, h2, h3, h4, h5, h6⟩ | ⟨u, v, h1, h2, h3, h4, h5, h6⟩
    · rw [h1, h2] at dd
      rw [h5, h6]
      exact .copy hm h3 h4 dd
    · rw [h1, h2] at dd
      rw [h5, h6]
      exact .copyr hm h3 h4 dd
theorem key_der {fs : List Fact} {a b c d : Nat} (h : keyP a b = keyP c d) (x : Der fs a b) : Der fs c d := by
  rcases keyP_inj h with ⟨h1, h2⟩ | ⟨h1, h2⟩
  · rw [← h1, ← h2]; exact x
  · rw [← h1, ← h2]; exact .symm x
theorem vAll_der {n : Nat} {fs : List Fact} : ∀ {xs : List Step} {K : List Pr}, (∀ a b, keyP a b ∈ K → Der fs a b) → VAll n fs K xs → ∀ s ∈ xs, Der fs s.p s.q
  | [], _, _, _, s, h => by simp at h
  | x :: r, K, hk, v, s, h => by
    have dx : Der fs x.p x.q := VOk.der (kn := (· ∈ K)) hk v.1
    rcases List.mem_cons.mp h with e | h
    · rw [e]; exact dx
    · refine vAll_der (K := K ++ [x.key]) (fun a b hm => ?_) v.2 s h
      rcases List.mem_append.mp hm with h' | h'
      · exact hk a b h'
      · have h' := List.mem_singleton.mp h'
        exact key_der h'.symm dx

/-! the store of all that can be proved -/
structure Ent where
  step : Step
  used : List Pr
def Ent.key (e : Ent) : Pr := e.step.key
def keysE (es : List Ent) : List Pr := es.map Ent.key
theorem keysE_append (a b : List Ent) : keysE (a ++ b) = keysE a ++ keysE b := by simp [keysE]
inductive EntsOk (n : Nat) (fs : List Fact) : List Ent → Prop
  | nil : EntsOk n fs []
  | snoc {es : List Ent} {e : Ent} : EntsOk n fs es → VOk n fs (· ∈ e.used) e.step → (∀ u ∈ e.used, u ∈ keysE es) → e.key ∉ keysE es → EntsOk n fs (es ++ [e])
def pick : List Ent → List Pr → List Step
  | [], _ => []
  | e :: r, N => if e.key ∈ N then e.step :: pick r (N ++ e.used) else pick r N
theorem pick_ok {n : Nat} {fs : List Fact} {es : List Ent} (ok : EntsOk n fs es) : ∀ N, VAll n fs [] ((pick es.reverse N).reverse) ∧ ∀ k ∈ N, k ∈ keysE es → k ∈ ((pick es.reverse N).reverse).map Step.key := by
  induction ok with
  | nil => intro N; exact ⟨trivial, fun k _ h => by simp [keysE] at h⟩
  | @snoc es e hs hv hu hn ih =>
    intro N
    rw [List.reverse_append]
    show VAll n fs [] ((pick (e :: es.reverse) N).reverse) ∧ _
    by_cases hk : e.key ∈ N
    · have ep : pick (e :: es.reverse) N = e.step :: pick es.reverse (N ++ e.used) := by
        show (if e.key ∈ N then _ else _) = _
        rw [if_pos hk]
      obtain ⟨i1, i2⟩ := ih (N ++ e.used)
      show VAll n fs [] ((pick (e :: es.reverse) N).reverse) ∧ ∀ k ∈ N, k ∈ keysE (es ++ [e]) → k ∈ ((pick (e :: es.reverse) N).reverse).map Step.key
      rw [ep, List.reverse_cons]
      refine ⟨vAll_snoc.mpr ⟨i1, hv.mono fun x hx => ?_⟩, fun k hkN hke => ?_⟩
      · rw [List.nil_append]
        exact i2 x (List.mem_append.mpr (.inr hx)) (hu x hx)
      · rw [List.map_append, List.mem_append]
        rw [keysE_append, List.mem_append] at hke
        rcases hke with h | h
        · exact .inl (i2 k (List.mem_append.mpr (.inl hkN)) h)
        · exact .inr h
    · have ep : pick (e :: es.reverse) N = pick es.reverse N := by
        show (if e.key ∈ N then _ else _) = _
        rw [if_neg hk]
      show VAll n fs [] ((pick (e :: es.reverse) N).reverse) ∧ ∀ k ∈ N, k ∈ keysE (es ++ [e]) → k ∈ ((pick (e :: es.reverse) N).reverse).map Step.key
      rw [ep]
      obtain ⟨i1, i2⟩ := ih N
      refine ⟨i1, fun k hkN hke => ?_⟩
      rw [keysE_append, List.mem_append] at hke
      rcases hke with h | h
      · exact i2 k hkN h
      · have h := List.mem_singleton.mp h
        rw [h] at hkN
        exact absurd hkN hk
theorem pick_last {k : Pr} : ∀ {r : List Ent}, k ∈ keysE r → ((pick r [k]).head?).map Step.key = some k
  | [], h => by simp [keysE] at h
  | e :: r, h => by
    by_cases hk : e.key ∈ [k]
    · have ep : pick (e :: r) [k] = e.step :: pick r ([k] ++ e.used) := by
        show (if e.key ∈ [k] then _ else _) = _
        rw [if_pos hk]
      rw [ep]
      have hk := List.mem_singleton.mp hk
      show some e.step.key = some k
      exact congrArg some hk
    · have ep : pick (e :: r) [k] = pick r [k] := by
        show (if e.key ∈ [k] then _ else _) = _
        rw [if_neg hk]
      rw [ep]
      refine pick_last ?_
      have h : k ∈ e.key :: keysE r := h
      rcases List.mem_cons.mp h with e1 | h
      · exact absurd (by rw [e1]; simp) hk
      · exact h
def lastKey (xs : List Step) : Option Pr := xs.getLast?.map Step.key
theorem pick_shows {n : Nat} {fs : List Fact} {es : List Ent} (ok : EntsOk n fs es) {k : Pr} (h : k ∈ keysE es) : VAll n fs [] ((pick es.reverse [k]).reverse) ∧ lastKey ((pick es.reverse [k]).reverse) = some k := by
  refine ⟨(pick_ok ok [k]).1, ?_⟩
  unfold lastKey
  rw [List.getLast?_reverse]
  refine pick_last ?_
  unfold keysE at h ⊢
  rw [List.map_reverse]
  exact List.mem_reverse.mpr h
theorem EntsOk.der {n : Nat} {fs : List Fact} {es : List Ent} (ok : EntsOk n fs es) : ∀ a b, keyP a b ∈ keysE es → Der fs a b ∧ a ≠ b ∧ a < n ∧ b < n := by
  induction ok with
  | nil => intro a b h; simp [keysE] at h
  | @snoc es e hs hv hu hn ih =>
    intro a b h
    rw [keysE_append, List.mem_append] at h
    rcases h with h | h
    · exact ih a b h
    · have h : keyP a b = e.key := List.mem_singleton.mp h
      have d := hv.der (fun a b hm => (ih a b (hu _ hm)).1)
      obtain ⟨v1, v2, v3, _⟩ := hv
      have hh : keyP e.step.p e.step.q = keyP a b := h.symm
      refine ⟨key_der hh d, ?_⟩
      rcases keyP_inj hh with ⟨h1, h2⟩ | ⟨h1, h2⟩ <;> omega
theorem EntsOk.nodup {n : Nat} {fs : List Fact} {es : List Ent} (ok : EntsOk n fs es) : (keysE es).Nodup := by
  induction ok with
  | nil => exact List.nodup_nil
  | @snoc es e hs hv hu hn ih =>
    rw [keysE_append, List.nodup_append]
    refine ⟨ih, by simp [keysE], fun a ha b hb => ?_⟩
    have hb : b = e.key := List.mem_singleton.mp hb
    intro z
    rw [z, hb] at ha
    exact hn ha
theorem nodup_le : ∀ (N : Nat) (l : List Nat), l.Nodup → (∀ x ∈ l, x < N) → l.length ≤ N
  | 0, l, _, h => by
    cases l with
    | nil => exact Nat.le_refl _
    | cons x r => exact absurd (h x List.mem_cons_self) (Nat.not_lt_zero _)
  | N + 1, l, nd, h => by
    by_cases hm : N ∈ l
    · have e := List.length_erase_of_mem hm
      have ih := nodup_le N (l.erase N) (nd.erase N) fun x hx => by
        have h1 := List.mem_of_mem_erase hx
        have h2 : x ≠ N := fun z => by rw [z] at hx; exact (nd.mem_erase_iff.mp hx).1 rfl
        have := h x h1
        omega
      have : 0 < l.length := List.length_pos_of_mem hm
      omega
    · have := nodup_le N l nd fun x hx => by
        have h2 : x ≠ N := fun z => by rw [z] at hx; exact hm hx
        have := h x hx
        omega
      omega
theorem EntsOk.len {n : Nat} {fs : List Fact} {es : List Ent} (ok : EntsOk n fs es) : es.length ≤ n * n := by
  have nd := ok.nodup
  have lt : ∀ k ∈ keysE es, k.1 < n ∧ k.2 < n := fun k hk => by
    obtain ⟨e, he, rfl⟩ := List.mem_map.mp hk
    have := ok.der e.step.p e.step.q hk
    show min e.step.p e.step.q < n ∧ max e.step.p e.step.q < n
    omega
  have h2 := nodup_le (n * n) ((keysE es).map fun k => k.1 * n + k.2) ?_ ?_
  · rw [List.length_map] at h2
    unfold keysE at h2
    rw [List.length_map] at h2
    exact h2
  · refine List.Pairwise.map _ (R := fun a b => a ≠ b ∧ a ∈ keysE es ∧ b ∈ keysE es) (fun a b hab e => ?_) ?_
    · obtain ⟨h1, h2, h3⟩ := hab
      obtain ⟨a1, a2⟩ := a
      obtain ⟨b1, b2⟩ := b
      obtain ⟨_, la⟩ := lt _ h2
      obtain ⟨_, lb⟩ := lt _ h3
      dsimp only at e la lb
      have hn : 0 < n := by omega
      have q1 : (a1 * n + a2) / n = a1 := by rw [Nat.mul_comm, Nat.mul_add_div hn, Nat.div_eq_of_lt la]; omega
      have q2 : (b1 * n + b2) / n = b1 := by rw [Nat.mul_comm, Nat.mul_add_div hn, Nat.div_eq_of_lt lb]; omega
      have e1 : a1 = b1 := by rw [← q1, ← q2, e]
      subst e1
      have e2 : a2 = b2 := by omega
      subst e2
      exact h1 rfl
    · exact List.Pairwise.imp_of_mem (fun ha hb h => ⟨h, ha, hb⟩) nd
  · intro x hx
    obtain ⟨k, hk, rfl⟩ := List.mem_map.mp hx
    obtain ⟨l1, l2⟩ := lt k hk
    have : k.1 * n + n ≤ n * n := by
      rw [← Nat.succ_mul]
      exact Nat.mul_le_mul_right n l1
    omega

/-! the work list -/
structure Work (fs : List Fact) (es : List Ent) (q : List Pr) : Prop where
  sub : ∀ k ∈ q, k ∈ keysE es
  chain : ∀ a b c, a ≠ c → keyP a b ∈ keysE es → keyP b c ∈ keysE es → keyP a c ∈ keysE es ∨ keyP a b ∈ q ∨ keyP b c ∈ q
  copies : ∀ s t l, Fact.eqv s t l ∈ fs → ∀ x y, (x, y) ∈ keysE es → (x, y) ∉ q → ∀ i j, (i, j) ∈ copiesL s t l x y → keyP i j ∈ keysE es
theorem Work.grow {fs : List Fact} {es new : List Ent} {q : List Pr} (w : Work fs es q) : Work fs (es ++ new) (q ++ keysE new) := by
  refine ⟨fun k hk => ?_, fun a b c hac h1 h2 => ?_, fun s t l hf x y h1 h2 i j hc => ?_⟩
  · rw [keysE_append, List.mem_append]
    rcases List.mem_append.mp hk with h | h
    · exact .inl (w.sub k h)
    · exact .inr h
  · rw [keysE_append, List.mem_append] at h1 h2 ⊢
    rw [List.mem_append, List.mem_append]
    rcases h1 with h1 | h1
    · rcases h2 with h2 | h2
      · rcases w.chain a b c hac h1 h2 with h | h | h
        · exact .inl (.inl h)
        · exact .inr (.inl (.inl h))
        · exact .inr (.inr (.inl h))
      · exact .inr (.inr (.inr h2))
    · exact .inr (.inl (.inr h1))
  · rw [keysE_append, List.mem_append] at h1 ⊢
    rw [List.mem_append, not_or] at h2
    rcases h1 with h1 | h1
    · exact .inl (w.copies s t l hf x y h1 h2.1 i j hc)
    · exact absurd h1 h2.2
/-- a pair is taken out and worked off -/
theorem Work.pop {fs : List Fact} {es new : List Ent} {q : List Pr} {a b : Nat} (w : Work fs es ((a, b) :: q)) (hab : a < b)
    (h1 : ∀ s t l, Fact.eqv s t l ∈ fs → ∀ i j, (i, j) ∈ copiesL s t l a b → keyP i j ∈ keysE (es ++ new))
    (h2 : ∀ c, c ≠ a → keyP b c ∈ keysE es → keyP a c ∈ keysE (es ++ new)) (h3 : ∀ c, c ≠ b → keyP a c ∈ keysE es → keyP b c ∈ keysE (es ++ new)) : Work fs (es ++ new) (q ++ keysE new) := by
  have g := w.grow (new := new)
  have kab := keyP_of_lt hab
  refine ⟨fun k hk => g.sub k (List.mem_cons_of_mem _ hk), fun x y z hxz m1 m2 => ?_, fun s t l hf x y m1 m2 i j hc => ?_⟩
  · -- a pair that is (a, b) itself, or a new one
    have old : ∀ u v, keyP u v ∈ keysE (es ++ new) → keyP u v ∈ keysE es ∨ keyP u v ∈ q ++ keysE new := fun u v m => by
      rw [keysE_append, List.mem_append] at m
      rcases m with m | m
      · exact .inl m
      · exact .inr (List.mem_append.mpr (.inr m))
    rcases g.chain x y z hxz m1 m2 with h | h | h
    · exact .inl h
    · rcases List.mem_cons.mp (show keyP x y ∈ (a, b) :: (q ++ keysE new) from h) with h | h
      · rw [← kab] at h
        rcases old y z m2 with m2 | m2
        · rcases keyP_inj h with ⟨e1, e2⟩ | ⟨e1, e2⟩
          · subst e1; subst e2
            exact .inl (h2 z (fun e => hxz e.symm) m2)
          · subst e1; subst e2
            exact .inl (h3 z (fun e => hxz e.symm) m2)
        · exact .inr (.inr m2)
      · exact .inr (.inl h)
    · rcases List.mem_cons.mp (show keyP y z ∈ (a, b) :: (q ++ keysE new) from h) with h | h
      · rw [← kab] at h
        rcases old x y m1 with m1 | m1
        · rcases keyP_inj h with ⟨e1, e2⟩ | ⟨e1, e2⟩
          · subst e1; subst e2
            rw [keyP_symm] at m1
            have := h3 x hxz m1
            rw [keyP_symm] at this
            exact .inl this
          · subst e1; subst e2
            rw [keyP_symm] at m1
            have := h2 x hxz m1
            rw [keyP_symm] at this
            exact .inl this
        · exact .inr (.inl m1)
      · exact .inr (.inr h)
  · by_cases e : (x, y) = (a, b)
    · cases e
      exact h1 s t l hf i j hc
    · exact g.copies s t l hf x y m1 (fun z => by
        rcases List.mem_cons.mp (show (x, y) ∈ (a, b) :: (q ++ keysE new) from z) with h | h
        · exact e h
        · exact m2 h) i j hc
/-- the work is done: all that follows is in the store -/
theorem work_done {n : Nat} {fs : List Fact} {es : List Ent} (ok : EntsOk n fs es) (w : Work fs es []) (okf : ∀ f ∈ fs, f.Ok n) (st : ∀ f ∈ fs, ∀ a b, (a, b) ∈ statedP f → keyP a b ∈ keysE es) {a b : Nat} (hab : a ≠ b) : keyP a b ∈ keysE es ↔ Der fs a b := by
  refine ⟨fun h => (ok.der a b h).1, fun d => ?_⟩
  have rs : ∀ {x y : Nat}, (x = y ∨ keyP x y ∈ keysE es) → (y = x ∨ keyP y x ∈ keysE es) := fun h => by
    rcases h with h | h
    · exact .inl h.symm
    · rw [keyP_symm]; exact .inr h
  have rt : ∀ {x y z : Nat}, (x = y ∨ keyP x y ∈ keysE es) → (y = z ∨ keyP y z ∈ keysE es) → (x = z ∨ keyP x z ∈ keysE es) := fun {x y z} h1 h2 => by
    rcases h1 with h1 | h1
    · rw [h1]; exact h2
    · rcases h2 with h2 | h2
      · rw [← h2]; exact .inr h1
      · by_cases e : x = z
        · exact .inl e
        · rcases w.chain x y z e h1 h2 with h | h | h
          · exact .inr h
          · simp at h
          · simp at h
  have cp : ∀ {s t l x y : Nat}, Fact.eqv s t l ∈ fs → x < l → y < l → keyP (s + x) (s + y) ∈ keysE es → keyP (t + x) (t + y) ∈ keysE es := fun {s t l x y} hf hx hy h => by
    rcases Nat.lt_trichotomy x y with hlt | he | hlt
    · rw [keyP_of_lt (show s + x < s + y by omega)] at h
      exact w.copies s t l hf _ _ h (by simp) _ _ (copies_mem1 hx hy)
    · exfalso
      have := (ok.der _ _ h).2.1
      omega
    · rw [keyP_symm, keyP_of_lt (show s + y < s + x by omega)] at h
      rw [keyP_symm]
      exact w.copies s t l hf _ _ h (by simp) _ _ (copies_mem1 hy hx)
  have cr : ∀ {s t l x y : Nat}, Fact.eqv s t l ∈ fs → x < l → y < l → keyP (t + x) (t + y) ∈ keysE es → keyP (s + x) (s + y) ∈ keysE es := fun {s t l x y} hf hx hy h => by
    rcases Nat.lt_trichotomy x y with hlt | he | hlt
    · rw [keyP_of_lt (show t + x < t + y by omega)] at h
      exact w.copies s t l hf _ _ h (by simp) _ _ (copies_mem2 hx hy)
    · exfalso
      have := (ok.der _ _ h).2.1
      omega
    · rw [keyP_symm, keyP_of_lt (show t + y < t + x by omega)] at h
      rw [keyP_symm]
      exact w.copies s t l hf _ _ h (by simp) _ _ (copies_mem2 hy hx)
  have gen : ∀ {x y : Nat}, Der fs x y → (x = y ∨ keyP x y ∈ keysE es) := fun {x y} d => by
    induction d with
    | refl i => exact .inl rfl
    | symm _ ih => exact rs ih
    | trans _ _ ih1 ih2 => exact rt ih1 ih2
    | same m => exact .inr (st _ m _ _ (by simp [statedP]))
    | @win s W a b m h1 h2 h3 => exact statedP_gen (okf _ m) (R := fun x y => x = y ∨ keyP x y ∈ keysE es) (fun _ _ => .inl rfl) (fun _ _ h => rs h) (fun _ _ _ h1 h2 => rt h1 h2) (fun u v hm => .inr (st _ m _ _ hm)) _ _ ⟨a, b, rfl, rfl, h1, h2, h3⟩
    | copy m h1 h2 _ ih =>
      rcases ih with e | ih
      · exact .inl (by omega)
      · exact .inr (cp m h1 h2 ih)
    | copyr m h1 h2 _ ih =>
      rcases ih with e | ih
      · exact .inl (by omega)
      · exact .inr (cr m h1 h2 ih)
  rcases gen d with h | h
  · exact absurd h hab
  · exact h
end Hfb
/-! cuts, what a fact says of them -/
namespace Hfb
theorem cutAt {S : List Nat} {p m a : Nat} (h : a < m) : ((S.drop p).take m)[a]? = S[p + a]? := by
  rw [List.getElem?_take, if_pos h, List.getElem?_drop]
theorem cut_length {S : List Nat} {p m : Nat} (h : p + m ≤ S.length) : ((S.drop p).take m).length = m := by
  rw [List.length_take, List.length_drop]
  omega
theorem sat_win {S W : List Nat} {s : Nat} (h : s + W.length ≤ S.length) : Sat S (.win s W) ↔ distOf ((S.drop s).take W.length) = distOf W := by
  have hl := cut_length h
  constructor
  · intro hs
    refine Ker.dist ⟨hl, fun p q hp hq => ?_⟩
    rw [hl] at hp hq
    rw [cutAt hp, cutAt hq]
    exact (hs p q hp hq).symm
  · intro he a b ha hb
    have k := (ker_of_dist he).2 a b (by rw [hl]; exact ha) (by rw [hl]; exact hb)
    rw [cutAt ha, cutAt hb] at k
    exact k.symm
theorem sat_eqv {S : List Nat} {s t l : Nat} (h : s + l ≤ S.length) (h2 : t + l ≤ S.length) : Sat S (.eqv s t l) ↔ distOf ((S.drop s).take l) = distOf ((S.drop t).take l) := by
  have hl := cut_length h
  have hl2 := cut_length h2
  constructor
  · intro hs
    refine Ker.dist ⟨by rw [hl, hl2], fun p q hp hq => ?_⟩
    rw [hl] at hp hq
    rw [cutAt hp, cutAt hq, cutAt hp, cutAt hq]
    exact hs p q hp hq
  · intro he a b ha hb
    have k := (ker_of_dist he).2 a b (by rw [hl]; exact ha) (by rw [hl]; exact hb)
    rw [cutAt ha, cutAt hb, cutAt ha, cutAt hb] at k
    exact k
theorem sat_ker {L F : List Nat} {f : Fact} {n : Nat} (k : Ker L F) (hl : L.length = n) (ok : f.Ok n) : Sat L f ↔ Sat F f := by
  subst hl
  cases f with
  | same i j => exact k.2 i j ok.1 ok.2.1
  | diff i j => exact not_congr (k.2 i j ok.1 ok.2.1)
  | win s W =>
    obtain ⟨o1, o2⟩ := ok
    constructor
    · intro h a b ha hb
      rw [h a b ha hb]
      exact k.2 _ _ (by omega) (by omega)
    · intro h a b ha hb
      rw [h a b ha hb]
      exact (k.2 _ _ (by omega) (by omega)).symm
  | eqv s t l =>
    obtain ⟨o1, o2, o3, o4, o5, o6⟩ := ok
    constructor
    · intro h a b ha hb
      rw [← k.2 (s + a) (s + b) (by omega) (by omega), h a b ha hb]
      exact k.2 _ _ (by omega) (by omega)
    · intro h a b ha hb
      rw [k.2 (s + a) (s + b) (by omega) (by omega), h a b ha hb]
      exact (k.2 _ _ (by omega) (by omega)).symm
theorem ints_inj {A B : List Nat} : A.map (fun n : Nat => (n : Int)) = B.map (fun n : Nat => (n : Int)) ↔ A = B := by
  constructor
  · intro h
    apply List.ext_getElem?
    intro i
    have := congrArg (fun l => l[i]?) h
    simp only [List.getElem?_map] at this
    cases ha : A[i]? with
    | none =>
      cases hb : B[i]? with
      | none => rfl
      | some y => rw [ha, hb] at this; cases this
    | some x =>
      cases hb : B[i]? with
      | none => rw [ha, hb] at this; cases this
      | some y =>
        rw [ha, hb] at this
        have e := Option.some.inj this
        have e : (x : Int) = (y : Int) := e
        congr 1
        omega
  · intro h; rw [h]
end Hfb
/-! where each def of the text stands -/
namespace Hfb
open PySem PySem.Spec PyProof.Rows L2
def top (i : Nat) : Stmt := PySem.Challenge.pw_howfarback_k63_whole_facts_and_derivatio.main.body.getD i (.Pass ⟨0, 0, 0, 0⟩)
abbrev s_is_integer_distances : Stmt := top 8
abbrev s_is_sequence_distances : Stmt := top 10
abbrev s_is_distances : Stmt := top 12
abbrev s_is_integer_facts : Stmt := top 21
abbrev s_is_sequence_facts : Stmt := top 23
abbrev s_check_size : Stmt := top 25
abbrev s_are_two_positions : Stmt := top 26
abbrev s_is_fact_of : Stmt := top 27
abbrev s_checked_facts : Stmt := top 28
abbrev s_check_positions : Stmt := top 29
abbrev s_distances_by : Stmt := top 30
abbrev s_linked_offsets : Stmt := top 31
abbrev s_representatives : Stmt := top 32
abbrev s_Partition___init__ : Stmt := inClass (top 33) 0
abbrev s_Partition_merge : Stmt := inClass (top 33) 1
abbrev s_Partition_copy_links : Stmt := inClass (top 33) 2
abbrev s_Partition_copy_both_ways : Stmt := inClass (top 33) 3
abbrev s_Partition_are_equal : Stmt := inClass (top 33) 4
abbrev s_Partition_distances : Stmt := inClass (top 33) 5
abbrev s_window_symbols : Stmt := top 34
abbrev s_states_different : Stmt := top 35
abbrev s_violated_pair : Stmt := top 36
abbrev s_consistent_partition : Stmt := top 37
abbrev s_is_consistent : Stmt := top 38
abbrev s_finest_list : Stmt := top 39
abbrev s_relation : Stmt := top 40
abbrev s_pair_key : Stmt := top 45
abbrev s_states_same : Stmt := top 46
abbrev s_copies : Stmt := top 47
abbrev s_is_valid_step : Stmt := top 48
abbrev s_shown_pair : Stmt := top 49
abbrev s_is_derivation : Stmt := top 50
abbrev s_Derivation___init__ : Stmt := inClass (top 51) 0
abbrev s_Derivation_add : Stmt := inClass (top 51) 1
abbrev s_Derivation_extend : Stmt := inClass (top 51) 2
abbrev s_Derivation_steps_for : Stmt := inClass (top 51) 3
abbrev s_stated_pairs : Stmt := top 52
abbrev s_find_derivation : Stmt := top 53
abbrev s_find_conflict : Stmt := top 54
abbrev s_is_conflict : Stmt := top 55
abbrev s__law_stream : Stmt := top 57
abbrev s__law_draw : Stmt := top 58
abbrev s__law_distances : Stmt := top 59
abbrev s__law_symbols : Stmt := top 60
abbrev s__law_ids : Stmt := top 61
abbrev s__law_window : Stmt := top 63
abbrev s__law_true_fact : Stmt := top 64
abbrev s__law_satisfied : Stmt := top 65
abbrev s__law_all_satisfied : Stmt := top 66
abbrev s__law_pair_holds : Stmt := top 67
abbrev s__law_consistent_holds : Stmt := top 68
abbrev s__law_any_fact : Stmt := top 69
abbrev s__law_holds : Stmt := top 70
abbrev s_law : Stmt := top 71
abbrev N_is_integer_distances : List Str := ["value", "lowest", "highest"]
theorem sc_is_integer_distances : FnScope N_is_integer_distances ["value", "lowest", "highest"] (defScope s_is_integer_distances) := ⟨rfl, rfl, rfl, by decide +kernel, rfl, by decide +kernel, by decide +kernel⟩
abbrev N_is_sequence_distances : List Str := ["value"]
theorem sc_is_sequence_distances : FnScope N_is_sequence_distances ["value"] (defScope s_is_sequence_distances) := ⟨rfl, rfl, rfl, by decide +kernel, rfl, by decide +kernel, by decide +kernel⟩
abbrev N_is_distances : List Str := ["value", "targets", "position", "entry"]
theorem sc_is_distances : FnScope N_is_distances ["value"] (defScope s_is_distances) := ⟨rfl, rfl, rfl, by decide +kernel, rfl, by decide +kernel, by decide +kernel⟩
abbrev N_is_integer_facts : List Str := ["value", "low", "high"]
theorem sc_is_integer_facts : FnScope N_is_integer_facts ["value", "low", "high"] (defScope s_is_integer_facts) := ⟨rfl, rfl, rfl, by decide +kernel, rfl, by decide +kernel, by decide +kernel⟩
abbrev N_is_sequence_facts : List Str := ["value"]
theorem sc_is_sequence_facts : FnScope N_is_sequence_facts ["value"] (defScope s_is_sequence_facts) := ⟨rfl, rfl, rfl, by decide +kernel, rfl, by decide +kernel, by decide +kernel⟩
abbrev N_check_size : List Str := ["size"]
theorem sc_check_size : FnScope N_check_size ["size"] (defScope s_check_size) := ⟨rfl, rfl, rfl, by decide +kernel, rfl, by decide +kernel, by decide +kernel⟩
abbrev N_are_two_positions : List Str := ["size", "one", "other"]
theorem sc_are_two_positions : FnScope N_are_two_positions ["size", "one", "other"] (defScope s_are_two_positions) := ⟨rfl, rfl, rfl, by decide +kernel, rfl, by decide +kernel, by decide +kernel⟩
abbrev N_is_fact_of : List Str := ["size", "value"]
theorem sc_is_fact_of : FnScope N_is_fact_of ["size", "value"] (defScope s_is_fact_of) := ⟨rfl, rfl, rfl, by decide +kernel, rfl, by decide +kernel, by decide +kernel⟩
abbrev N_checked_facts : List Str := ["size", "facts", "fact"]
theorem sc_checked_facts : FnScope N_checked_facts ["size", "facts"] (defScope s_checked_facts) := ⟨rfl, rfl, rfl, by decide +kernel, rfl, by decide +kernel, by decide +kernel⟩
abbrev N_check_positions : List Str := ["size", "one", "other", "position"]
theorem sc_check_positions : FnScope N_check_positions ["size", "one", "other"] (defScope s_check_positions) := ⟨rfl, rfl, rfl, by decide +kernel, rfl, by decide +kernel, by decide +kernel⟩
abbrev N_distances_by : List Str := ["symbols", "last_at", "found", "position", "symbol"]
theorem sc_distances_by : FnScope N_distances_by ["symbols"] (defScope s_distances_by) := ⟨rfl, rfl, rfl, by decide +kernel, rfl, by decide +kernel, by decide +kernel⟩
abbrev N_linked_offsets : List Str := ["distances", "offset", "back"]
theorem sc_linked_offsets : FnScope N_linked_offsets ["distances"] (defScope s_linked_offsets) := ⟨rfl, rfl, rfl, by decide +kernel, rfl, by decide +kernel, by decide +kernel⟩
abbrev N_representatives : List Str := ["distances", "found", "position", "back"]
theorem sc_representatives : FnScope N_representatives ["distances"] (defScope s_representatives) := ⟨rfl, rfl, rfl, by decide +kernel, rfl, by decide +kernel, by decide +kernel⟩
abbrev N_Partition___init__ : List Str := ["self", "size", "facts", "fact", "one", "other", "equivalences"]
theorem sc_Partition___init__ : FnScope N_Partition___init__ ["self", "size", "facts"] (defScope s_Partition___init__) := ⟨rfl, rfl, rfl, by decide +kernel, rfl, by decide +kernel, by decide +kernel⟩
abbrev N_Partition_merge : List Str := ["self", "one", "other", "keep", "drop", "leader"]
theorem sc_Partition_merge : FnScope N_Partition_merge ["self", "one", "other"] (defScope s_Partition_merge) := ⟨rfl, rfl, rfl, by decide +kernel, rfl, by decide +kernel, by decide +kernel⟩
abbrev N_Partition_copy_links : List Str := ["self", "source", "target", "length", "changed", "one", "other"]
theorem sc_Partition_copy_links : FnScope N_Partition_copy_links ["self", "source", "target", "length"] (defScope s_Partition_copy_links) := ⟨rfl, rfl, rfl, by decide +kernel, rfl, by decide +kernel, by decide +kernel⟩
abbrev N_Partition_copy_both_ways : List Str := ["self", "fact", "changed"]
theorem sc_Partition_copy_both_ways : FnScope N_Partition_copy_both_ways ["self", "fact"] (defScope s_Partition_copy_both_ways) := ⟨rfl, rfl, rfl, by decide +kernel, rfl, by decide +kernel, by decide +kernel⟩
abbrev N_Partition_are_equal : List Str := ["self", "one", "other"]
theorem sc_Partition_are_equal : FnScope N_Partition_are_equal ["self", "one", "other"] (defScope s_Partition_are_equal) := ⟨rfl, rfl, rfl, by decide +kernel, rfl, by decide +kernel, by decide +kernel⟩
abbrev N_Partition_distances : List Str := ["self"]
theorem sc_Partition_distances : FnScope N_Partition_distances ["self"] (defScope s_Partition_distances) := ⟨rfl, rfl, rfl, by decide +kernel, rfl, by decide +kernel, by decide +kernel⟩
abbrev N_window_symbols : List Str := ["fact", "one", "other", "inside", "offsets", "offset"]
theorem sc_window_symbols : FnScope N_window_symbols ["fact", "one", "other"] (defScope s_window_symbols) := ⟨rfl, rfl, rfl, by decide +kernel, rfl, by decide +kernel, by decide +kernel⟩
abbrev N_states_different : List Str := ["fact", "one", "other", "symbols"]
theorem sc_states_different : FnScope N_states_different ["fact", "one", "other"] (defScope s_states_different) := ⟨rfl, rfl, rfl, by decide +kernel, rfl, by decide +kernel, by decide +kernel⟩
abbrev N_violated_pair : List Str := ["partition", "fact", "pairs", "end", "one", "other"]
theorem sc_violated_pair : FnScope N_violated_pair ["partition", "fact"] (defScope s_violated_pair) := ⟨rfl, rfl, rfl, by decide +kernel, rfl, by decide +kernel, by decide +kernel⟩
abbrev N_consistent_partition : List Str := ["size", "facts", "partition", "fact"]
theorem sc_consistent_partition : FnScope N_consistent_partition ["size", "facts"] (defScope s_consistent_partition) := ⟨rfl, rfl, rfl, by decide +kernel, rfl, by decide +kernel, by decide +kernel⟩
abbrev N_is_consistent : List Str := ["size", "facts"]
theorem sc_is_consistent : FnScope N_is_consistent ["size", "facts"] (defScope s_is_consistent) := ⟨rfl, rfl, rfl, by decide +kernel, rfl, by decide +kernel, by decide +kernel⟩
abbrev N_finest_list : List Str := ["size", "facts", "partition"]
theorem sc_finest_list : FnScope N_finest_list ["size", "facts"] (defScope s_finest_list) := ⟨rfl, rfl, rfl, by decide +kernel, rfl, by decide +kernel, by decide +kernel⟩
abbrev N_relation : List Str := ["size", "facts", "one", "other", "known", "partition"]
theorem sc_relation : FnScope N_relation ["size", "facts", "one", "other"] (defScope s_relation) := ⟨rfl, rfl, rfl, by decide +kernel, rfl, by decide +kernel, by decide +kernel⟩
abbrev N_pair_key : List Str := ["one", "other"]
theorem sc_pair_key : FnScope N_pair_key ["one", "other"] (defScope s_pair_key) := ⟨rfl, rfl, rfl, by decide +kernel, rfl, by decide +kernel, by decide +kernel⟩
abbrev N_states_same : List Str := ["fact", "one", "other", "symbols"]
theorem sc_states_same : FnScope N_states_same ["fact", "one", "other"] (defScope s_states_same) := ⟨rfl, rfl, rfl, by decide +kernel, rfl, by decide +kernel, by decide +kernel⟩
abbrev N_copies : List Str := ["fact", "one", "other", "found", "length", "source", "target"]
theorem sc_copies : FnScope N_copies ["fact", "one", "other"] (defScope s_copies) := ⟨rfl, rfl, rfl, by decide +kernel, rfl, by decide +kernel, by decide +kernel⟩
abbrev N_is_valid_step : List Str := ["size", "facts", "known", "step", "one", "other", "reason", "fact"]
theorem sc_is_valid_step : FnScope N_is_valid_step ["size", "facts", "known", "step"] (defScope s_is_valid_step) := ⟨rfl, rfl, rfl, by decide +kernel, rfl, by decide +kernel, by decide +kernel⟩
abbrev N_shown_pair : List Str := ["size", "facts", "value", "known", "last", "step"]
theorem sc_shown_pair : FnScope N_shown_pair ["size", "facts", "value"] (defScope s_shown_pair) := ⟨rfl, rfl, rfl, by decide +kernel, rfl, by decide +kernel, by decide +kernel⟩
abbrev N_is_derivation : List Str := ["size", "facts", "one", "other", "value", "known"]
theorem sc_is_derivation : FnScope N_is_derivation ["size", "facts", "one", "other", "value"] (defScope s_is_derivation) := ⟨rfl, rfl, rfl, by decide +kernel, rfl, by decide +kernel, by decide +kernel⟩
abbrev N_Derivation___init__ : List Str := ["self", "facts", "number", "fact", "one", "other", "equivalences", "image", "partner"]
theorem sc_Derivation___init__ : FnScope N_Derivation___init__ ["self", "facts"] (defScope s_Derivation___init__) := ⟨rfl, rfl, rfl, by decide +kernel, rfl, by decide +kernel, by decide +kernel⟩
abbrev N_Derivation_add : List Str := ["self", "one", "other", "reason", "used", "pair"]
theorem sc_Derivation_add : FnScope N_Derivation_add ["self", "one", "other", "reason", "used"] (defScope s_Derivation_add) := ⟨rfl, rfl, rfl, by decide +kernel, rfl, by decide +kernel, by decide +kernel⟩
abbrev N_Derivation_extend : List Str := ["self", "one", "middle", "other"]
theorem sc_Derivation_extend : FnScope N_Derivation_extend ["self", "one", "middle"] (defScope s_Derivation_extend) := ⟨rfl, rfl, rfl, by decide +kernel, rfl, by decide +kernel, by decide +kernel⟩
abbrev N_Derivation_steps_for : List Str := ["self", "pair", "needed", "found", "own", "used"]
theorem sc_Derivation_steps_for : FnScope N_Derivation_steps_for ["self", "pair"] (defScope s_Derivation_steps_for) := ⟨rfl, rfl, rfl, by decide +kernel, rfl, by decide +kernel, by decide +kernel⟩
abbrev N_stated_pairs : List Str := ["fact", "one", "other"]
theorem sc_stated_pairs : FnScope N_stated_pairs ["fact"] (defScope s_stated_pairs) := ⟨rfl, rfl, rfl, by decide +kernel, rfl, by decide +kernel, by decide +kernel⟩
abbrev N_find_derivation : List Str := ["size", "facts", "one", "other", "known", "derivation", "pair"]
theorem sc_find_derivation : FnScope N_find_derivation ["size", "facts", "one", "other"] (defScope s_find_derivation) := ⟨rfl, rfl, rfl, by decide +kernel, rfl, by decide +kernel, by decide +kernel⟩
abbrev N_find_conflict : List Str := ["size", "facts", "known", "partition", "number", "fact", "pair"]
theorem sc_find_conflict : FnScope N_find_conflict ["size", "facts"] (defScope s_find_conflict) := ⟨rfl, rfl, rfl, by decide +kernel, rfl, by decide +kernel, by decide +kernel⟩
abbrev N_is_conflict : List Str := ["size", "facts", "value", "known", "pair"]
theorem sc_is_conflict : FnScope N_is_conflict ["size", "facts", "value"] (defScope s_is_conflict) := ⟨rfl, rfl, rfl, by decide +kernel, rfl, by decide +kernel, by decide +kernel⟩
abbrev N__law_stream : List Str := ["_law_cell", "_law_k"]
theorem sc__law_stream : FnScope N__law_stream ["_law_cell", "_law_k"] (defScope s__law_stream) := ⟨rfl, rfl, rfl, by decide +kernel, rfl, by decide +kernel, by decide +kernel⟩
abbrev N__law_draw : List Str := ["_law_stream_here", "_law_many", "_law_found", "_law_stirred"]
theorem sc__law_draw : FnScope N__law_draw ["_law_stream_here", "_law_many"] (defScope s__law_draw) := ⟨rfl, rfl, rfl, by decide +kernel, rfl, by decide +kernel, by decide +kernel⟩
abbrev N__law_distances : List Str := ["_law_symbols_here", "_law_found", "_law_position", "_law_symbol", "_law_ahead", "_law_at"]
theorem sc__law_distances : FnScope N__law_distances ["_law_symbols_here"] (defScope s__law_distances) := ⟨rfl, rfl, rfl, by decide +kernel, rfl, by decide +kernel, by decide +kernel⟩
abbrev N__law_symbols : List Str := ["_law_stream_here", "_law_many", "_law_most", "_law_size", "_law_some", "_law_k"]
theorem sc__law_symbols : FnScope N__law_symbols ["_law_stream_here", "_law_many", "_law_most"] (defScope s__law_symbols) := ⟨rfl, rfl, rfl, by decide +kernel, rfl, by decide +kernel, by decide +kernel⟩
abbrev N__law_ids : List Str := ["_law_distances_here", "_law_found", "_law_many", "_law_position", "_law_number"]
theorem sc__law_ids : FnScope N__law_ids ["_law_distances_here"] (defScope s__law_ids) := ⟨rfl, rfl, rfl, by decide +kernel, rfl, by decide +kernel, by decide +kernel⟩
abbrev N__law_window : List Str := ["_law_symbols_here", "_law_position", "_law_many"]
theorem sc__law_window : FnScope N__law_window ["_law_symbols_here", "_law_position", "_law_many"] (defScope s__law_window) := ⟨rfl, rfl, rfl, by decide +kernel, rfl, by decide +kernel, by decide +kernel⟩
abbrev N__law_true_fact : List Str := ["_law_stream_here", "_law_symbols_here", "_law_many", "_law_symbol_id", "_law_one", "_law_other", "_law_size"]
theorem sc__law_true_fact : FnScope N__law_true_fact ["_law_stream_here", "_law_symbols_here"] (defScope s__law_true_fact) := ⟨rfl, rfl, rfl, by decide +kernel, rfl, by decide +kernel, by decide +kernel⟩
abbrev N__law_satisfied : List Str := ["_law_symbols_here", "_law_fact"]
theorem sc__law_satisfied : FnScope N__law_satisfied ["_law_symbols_here", "_law_fact"] (defScope s__law_satisfied) := ⟨rfl, rfl, rfl, by decide +kernel, rfl, by decide +kernel, by decide +kernel⟩
abbrev N__law_all_satisfied : List Str := ["_law_distances_here", "_law_facts", "_law_ids_here", "_law_fact"]
theorem sc__law_all_satisfied : FnScope N__law_all_satisfied ["_law_distances_here", "_law_facts"] (defScope s__law_all_satisfied) := ⟨rfl, rfl, rfl, by decide +kernel, rfl, by decide +kernel, by decide +kernel⟩
abbrev N__law_pair_holds : List Str := ["_law_many", "_law_facts", "_law_one", "_law_other", "_law_best", "_law_word", "_law_ids_here", "_law_derivation", "_law_more"]
theorem sc__law_pair_holds : FnScope N__law_pair_holds ["_law_many", "_law_facts", "_law_one", "_law_other", "_law_best"] (defScope s__law_pair_holds) := ⟨rfl, rfl, rfl, by decide +kernel, rfl, by decide +kernel, by decide +kernel⟩
abbrev N__law_consistent_holds : List Str := ["_law_stream_here", "_law_many", "_law_facts", "_law_symbols_here", "_law_best", "_law_ids_here", "_law_one", "_law_other", "_law_turn", "_law_word"]
theorem sc__law_consistent_holds : FnScope N__law_consistent_holds ["_law_stream_here", "_law_many", "_law_facts", "_law_symbols_here"] (defScope s__law_consistent_holds) := ⟨rfl, rfl, rfl, by decide +kernel, rfl, by decide +kernel, by decide +kernel⟩
abbrev N__law_any_fact : List Str := ["_law_stream_here", "_law_many", "_law_one", "_law_other", "_law_symbol_id", "_law_size", "_law_k"]
theorem sc__law_any_fact : FnScope N__law_any_fact ["_law_stream_here", "_law_many"] (defScope s__law_any_fact) := ⟨rfl, rfl, rfl, by decide +kernel, rfl, by decide +kernel, by decide +kernel⟩
abbrev N__law_holds : List Str := ["_law_stream_here", "_law_many", "_law_symbols_here", "_law_some", "_law_facts", "_law_conflict", "_law_k", "_law_fact"]
theorem sc__law_holds : FnScope N__law_holds ["_law_stream_here"] (defScope s__law_holds) := ⟨rfl, rfl, rfl, by decide +kernel, rfl, by decide +kernel, by decide +kernel⟩
abbrev N_law : List Str := ["_law_script", "_law_cells", "_law_k", "_law_cell"]
theorem sc_law : FnScope N_law ["_law_script"] (defScope s_law) := ⟨rfl, rfl, rfl, by decide +kernel, rfl, by decide +kernel, by decide +kernel⟩

end Hfb
/-! the layer of this proof: what a name stands for, calls, what goes on from a heap -/
namespace Hfb
open PySem PySem.Spec PyProof.Rows L2
open Evl (Ex Ev EvT EvA EvL EvU)

/-! ### a def where it stands, a def that may be called -/
def At (K : PySem.W.Frag) (mg : Str → Option Value) (g x qual : Str) (st : Stmt) (dvs : List V) : Prop :=
  ∃ f fd, FunD K x qual (defArgs st) (defBody st) (defScope st) dvs [] f fd ∧ mg g = some (.ref f)
def AtM (K : PySem.W.Frag) (C : Addr) (m qual : Str) (st : Stmt) : Prop :=
  ∃ f fd, FunD K m qual (defArgs st) (defBody st) (defScope st) [] [] f fd ∧ Meth K C m f
def AtI (K : PySem.W.Frag) (C : Addr) (qual : Str) (st : Stmt) : Prop :=
  ∃ f fd, FunD K "__init__" qual (defArgs st) (defBody st) (defScope st) [] [] f fd ∧ Mk K C f
def Cl (P : Program) (w : World) (K : PySem.W.Frag) (mg : Str → Option Value) (base : Heap) (k : Nat) (x : Str) (sp : Sp) : Prop :=
  ∃ f fd ps, FnOk P w K mg base CX0 k f fd ps sp ∧ mg x = some (.ref f) ∧ PySem.W.keepIn K (.ref f) = true ∧ Binds K fd ps []
def Mt (P : Program) (w : World) (K : PySem.W.Frag) (mg : Str → Option Value) (base : Heap) (k : Nat) (C : Addr) (m : Str) (sp : Sp) : Prop :=
  ∃ f fd ps, Cls K C ∧ Meth K C m f ∧ FnOk P w K mg base CX0 k f fd ps sp ∧ Binds K fd ps []
def Mz (P : Program) (w : World) (K : PySem.W.Frag) (mg : Str → Option Value) (base : Heap) (k : Nat) (x : Str) (C : Addr) (sp : Sp) : Prop :=
  ∃ f fd ps, Mk K C f ∧ FnOk P w K mg base CX0 k f fd ps sp ∧ mg x = some (.ref C) ∧ Binds K fd ps []
section
variable {P : Program} {w : World} {K : PySem.W.Frag} {mg : Str → Option Value} {base : Heap} {g x m qual : Str} {st : Stmt} {N ps : List Str} {k : Nat} {sp : Sp} {C : Addr}
abbrev BindP (x qual : Str) (st : Stmt) (ps : List Str) : Prop := ∀ (kV doc pm : Value) (an : Option Addr) (cdv ct : Value) (us : List Value), us.length = ps.length →
  bindArgs (PySem.W.fnOf x qual (defArgs st) (defBody st) (defScope st) .none kV doc pm an cdv ct) ⟨us, []⟩ = pure (ps.zip us)
abbrev BodyP (P : Program) (w : World) (K : PySem.W.Frag) (mg : Str → Option Value) (base : Heap) (qual : Str) (st : Stmt) (N : List Str) (k : Nat) (sp : Sp) : Prop :=
  ∀ (f : Addr) (cdv : Value) (A : Around) (outer : List Env) (s : Shared) (H : Hp) (vs : List V) (Q : VK) (E : XK), Room k (A.deeper (envOfC qual (defScope st) s.heap.objs.size f cdv)) → sp vs H Q E →
      ∃ t, PSs (cxOf CX0 P w K mg base N qual (defScope st) f cdv A outer s H E).nox (defBody st) t ∧ t { nx := fun _ H' => Q .non H', rt := Q } (start N vs) H
theorem cl_of (A : At K mg g x qual st []) (S : FnScope N ps (defScope st)) (hb : BindP x qual st ps) (len : ∀ vs H Q E, sp vs H Q E → vs.length = ps.length)
    (hbody : BodyP P w K mg base qual st N k sp) : Cl P w K mg base (k + 1) g sp := by
  obtain ⟨f, fd, F, hm⟩ := A
  refine ⟨f, fd, ps, F.ok S len fun cdv A outer s H vs Q E hr h => ?_, hm, F.kp, F.bindsN hb⟩
  obtain ⟨t, h1, h2⟩ := hbody f cdv A outer s H vs Q E hr h
  exact ⟨t, h1.nox, h2⟩
theorem mt_of (A : AtM K C m qual st) (c : Cls K C) (S : FnScope N ps (defScope st)) (hb : BindP m qual st ps) (len : ∀ vs H Q E, sp vs H Q E → vs.length = ps.length)
    (hbody : BodyP P w K mg base qual st N k sp) : Mt P w K mg base (k + 1) C m sp := by
  obtain ⟨f, fd, F, hm⟩ := A
  refine ⟨f, fd, ps, c, hm, F.ok S len fun cdv A outer s H vs Q E hr h => ?_, F.bindsN hb⟩
  obtain ⟨t, h1, h2⟩ := hbody f cdv A outer s H vs Q E hr h
  exact ⟨t, h1.nox, h2⟩
theorem mz_of (A : AtI K C qual st) (hm : mg g = some (.ref C)) (S : FnScope N ps (defScope st)) (hb : BindP "__init__" qual st ps) (len : ∀ vs H Q E, sp vs H Q E → vs.length = ps.length)
    (hbody : BodyP P w K mg base qual st N k sp) : Mz P w K mg base (k + 1) g C sp := by
  obtain ⟨f, fd, F, M⟩ := A
  refine ⟨f, fd, ps, M, F.ok S len fun cdv A outer s H vs Q E hr h => ?_, hm, F.bindsN hb⟩
  obtain ⟨t, h1, h2⟩ := hbody f cdv A outer s H vs Q E hr h
  exact ⟨t, h1.nox, h2⟩
end
section
variable {X : Cx} {k j : Nat} {C : Addr} {x m : Str} {sp : Sp} {p pos apos : Pos} {e o : Expr} {es : List Expr} {ta : TE} {t : TA}
theorem pcl (c : Cl X.prog X.w X.K X.mg X.base k x sp) (hr : Room k X.A) (hg : Gl X x) (ha : PA X (e :: es) t)
    (hdb : (x == ("__debug__" : Str)) = false := by decide) (he : starEach (e :: es) X.env = (false, eval e X.env) :: starEach es X.env := by rfl) (hpl : (backTo pos (starEach es X.env)).any (·.1) = false := by rfl) :
    PE X (.Call (.Name x p) (e :: es) [] pos) (tCall sp [] E0 t) := by
  obtain ⟨f, fd, ps, F, hm, kp, b⟩ := c
  exact pe_call F hr hg hm kp b .nil L2.pass0 ha hdb he hpl
theorem pmkC (c : Mz X.prog X.w X.K X.mg X.base k x C sp) (hr : Room (k + 1) X.A) (hg : Gl X x) (ha : PA X (e :: es) t)
    (hdb : (x == ("__debug__" : Str)) = false := by decide) (he : starEach (e :: es) X.env = (false, eval e X.env) :: starEach es X.env := by rfl) (hpl : (backTo pos (starEach es X.env)).any (·.1) = false := by rfl) :
    PE X (.Call (.Name x p) (e :: es) [] pos) (tMake C sp [] E0 t) := by
  obtain ⟨f, fd, ps, M, F, hm, b⟩ := c
  exact pe_make M F hr hg hm b .nil L2.pass0 ha hdb he hpl
theorem pmt {pl : Sem Bool} (c : Mt X.prog X.w X.K X.mg X.base k C m sp) (hr : Room k X.A) (he : PE X o ta) (ha : PA X (e :: es) t)
    (hst : starEach (e :: es) X.env = (false, eval e X.env) :: starEach es X.env := by rfl) (hpl : (backTo pos (starEach es X.env)).any (·.1) = false := by rfl)
    (ht : eval (.Call (.Attribute o m apos) (e :: es) [] pos) X.env = (do
      let ov ← eval o X.env
      standAt apos.atName
      let (f, first) ← holding [ov] (getMethod ov m pl)
      callWith pos f first (backTo pos (starEach (e :: es) X.env)) (backToKw pos (keywordEach [] X.env))) := by rfl) :
    PE X (.Call (.Attribute o m apos) (e :: es) [] pos) (tMeth C m sp [] E0 ta t) := by
  obtain ⟨f, fd, ps, hc, hm, F, b⟩ := c
  exact pe_meth (pl := pl) he hc hm F hr b .nil L2.pass0 ha hst hpl ht
theorem pmt0 {pl : Sem Bool} (c : Mt X.prog X.w X.K X.mg X.base k C m sp) (hr : Room k X.A) (he : PE X o ta)
    (ht : eval (.Call (.Attribute o m apos) [] [] pos) X.env = (do
      let ov ← eval o X.env
      standAt apos.atName
      let (f, first) ← holding [ov] (getMethod ov m pl)
      callWith pos f first (backTo pos (starEach [] X.env)) (backToKw pos (keywordEach [] X.env))) := by rfl) :
    PE X (.Call (.Attribute o m apos) [] [] pos) (tMeth C m sp [] E0 ta tNil) := by
  obtain ⟨f, fd, ps, hc, hm, F, b⟩ := c
  exact pe_meth0 (pl := pl) he hc hm F hr b .nil L2.pass0 ht
/-- a constant of the module -/
theorem pk {v : V} (h : ∃ u, X.mg x = some u ∧ RelV v u) (hg : Gl X x := by rfl) (hd : (x == ("__debug__" : Str)) = false := by decide) : PE X (.Name x pos) (tC v) := by
  obtain ⟨u, hm, r⟩ := h
  exact pe_glob hg hm r hd
end

/-! ### what the top has left -/
abbrev CP (K : PySem.W.Frag) : Addr := He.ga K "Partition"
abbrev CD (K : PySem.W.Frag) : Addr := He.ga K "Derivation"
def Kst (mg : Str → Option Value) (x : Str) (v : V) : Prop := ∃ u, mg x = some u ∧ RelV v u
structure Tx (K : PySem.W.Frag) (mg : Str → Option Value) : Prop where
  b_isinstance : mg "isinstance" = none
  b_int : mg "int" = none
  b_bool : mg "bool" = none
  b_list : mg "list" = none
  b_tuple : mg "tuple" = none
  b_str : mg "str" = none
  b_len : mg "len" = none
  b_all : mg "all" = none
  b_any : mg "any" = none
  b_enumerate : mg "enumerate" = none
  b_set : mg "set" = none
  b_sorted : mg "sorted" = none
  b_range : mg "range" = none
  b_max : mg "max" = none
  b_min : mg "min" = none
  b_abs : mg "abs" = none
  MAX_POSITIONS : Kst mg "MAX_POSITIONS" (.int 400)
  SAME : Kst mg "SAME" (.str "same")
  DIFFERENT : Kst mg "DIFFERENT" (.str "different")
  EQUIVALENT : Kst mg "EQUIVALENT" (.str "equivalent")
  WINDOW : Kst mg "WINDOW" (.str "window")
  UNKNOWN : Kst mg "UNKNOWN" (.str "unknown")
  MAX_SIZE : Kst mg "MAX_SIZE" (.int 60)
  MAX_FACTS : Kst mg "MAX_FACTS" (.int 40)
  FACT : Kst mg "FACT" (.str "fact")
  CHAIN : Kst mg "CHAIN" (.str "chain")
  COPY : Kst mg "COPY" (.str "copy")
  cP : Cls K (CP K)
  nP : NoAttr K (CP K) "leaders"
  mP : mg "Partition" = some (.ref (CP K))
  cD : Cls K (CD K)
  n1 : NoAttr K (CD K) "steps"
  n2 : NoAttr K (CD K) "uses"
  n3 : NoAttr K (CD K) "queue"
  n4 : NoAttr K (CD K) "partners"
  mD : mg "Derivation" = some (.ref (CD K))

/-! ### going on from a heap, whatever is laid besides -/
def Go (ts : TS) (D : Ends) (σ : L2.St) (H : Hp) : Prop := ∀ H1, Ex H H1 → ts D σ H1
/-- an expression that takes to some value of which P -/
def Tk (te : TE) (σ : L2.St) (H : Hp) (R : V → Hp → Prop) : Prop := ∀ H1, Ex H H1 → ∀ Q : VK, (∀ v H2, Ex H1 H2 → R v H2 → Q v H2) → te σ H1 Q
/-- a promise that takes to some value of which P -/
def SpK (sp : Sp) (vs : List V) (H : Hp) (R : V → Hp → Prop) : Prop := ∀ H1, Ex H H1 → ∀ Q : VK, (∀ v H2, Ex H1 H2 → R v H2 → Q v H2) → ∀ E : XK, sp vs H1 Q E
section
variable {K : PySem.W.Frag} {σ : L2.St} {H H' : Hp} {ta tb te tx : TE} {t u : TT} {x y z v : V} {D : Ends} {tu tw tz : TS} {g : TG} {R : V → Hp → Prop}
theorem Go.mono {ts : TS} (e : Ex H H') (h : Go ts D σ H) : Go ts D σ H' := fun H1 a => h H1 (e.trans a)
theorem Tk.mono (e : Ex H H') (h : Tk te σ H R) : Tk te σ H' R := fun H1 a Q q => h H1 (e.trans a) Q q
theorem Tk.imp {R' : V → Hp → Prop} (h : Tk te σ H R) (f : ∀ v H2, Ex H H2 → R v H2 → R' v H2) : Tk te σ H R' := fun H1 e Q q => h H1 e Q fun v H2 e2 r => q v H2 e2 (f v H2 (e.trans e2) r)
theorem Go.here {ts : TS} (h : Go ts D σ H) : ts D σ H := h H (Ex.refl H)
theorem Tk.of (h : Ev te σ H v) : Tk te σ H (fun u _ => u = v) := fun H1 e Q q => h H1 e Q fun H2 e2 => q v H2 e2 rfl
theorem Tk.ev (h : Tk te σ H (fun u _ => u = v)) : Ev te σ H v := fun H1 e Q q => h H1 e Q fun u H2 e2 r => by rw [r]; exact q H2 e2
theorem tk_call {sp : Sp} {vs : List V} {E : XK} {ta : TA} (h : EvA ta σ H vs) (hs : SpK sp (vs ++ []) H R) : Tk (tCall sp [] E ta) σ H R := fun H1 e Q q =>
  h H1 e _ fun H2 e2 => hs H2 (e.trans e2) Q (fun v H3 e3 r => q v H3 (e2.trans e3) r) E
theorem tk_if {b : Bool} (h : EvT t σ H b) (h1 : b = true → Tk ta σ H R) (h2 : b = false → Tk tb σ H R) : Tk (tIf t ta tb) σ H R := fun H1 e Q q => h H1 e _ fun H2 e2 => by
  cases b with
  | true =>
    show ta σ H2 Q
    exact h1 rfl H2 (e.trans e2) Q fun v H3 e3 => q v H3 (e2.trans e3)
  | false =>
    show tb σ H2 Q
    exact h2 rfl H2 (e.trans e2) Q fun v H3 e3 => q v H3 (e2.trans e3)
theorem tk_tup {ta : TA} {vs : List V} (h : EvA ta σ H vs) (hl : vs.length ≤ 100000) : Tk (tTup ta) σ H (fun v H2 => ∃ p, v = .ref p ∧ H p = none ∧ H2 p = some (.tup vs)) := fun H1 e Q q =>
  Evl.eu_tup h hl H1 e Q fun p H2 n e2 h2 => q _ _ e2 ⟨p, rfl, Evl.fresh_back e n, h2⟩
theorem tk_lst {ta : TA} {vs : List V} (h : EvA ta σ H vs) (hl : vs.length ≤ 100000) : Tk (tLst ta) σ H (fun v H2 => ∃ p, v = .ref p ∧ H p = none ∧ H2 p = some (.lst vs)) := fun H1 e Q q =>
  Evl.el_lst h hl H1 e Q fun p H2 n e2 h2 => q _ _ e2 ⟨p, rfl, Evl.fresh_back e n, h2⟩
theorem tk_L {xs : List V} (h : EvL te σ H xs) : Tk te σ H (fun v H2 => ∃ p, v = .ref p ∧ H p = none ∧ H2 p = some (.lst xs)) := fun H1 e Q q =>
  h H1 e Q fun p H2 n e2 h2 => q _ _ e2 ⟨p, rfl, Evl.fresh_back e n, h2⟩
theorem tk_U {xs : List V} (h : EvU te σ H xs) : Tk te σ H (fun v H2 => ∃ p, v = .ref p ∧ H p = none ∧ H2 p = some (.tup xs)) := fun H1 e Q q =>
  h H1 e Q fun p H2 n e2 h2 => q _ _ e2 ⟨p, rfl, Evl.fresh_back e n, h2⟩

theorem go_seq (h : Go tu { D with nx := tz D } σ H) : Go (tSeq tu tz) D σ H := h
theorem go_if {b : Bool} (h : EvT t σ H b) (h1 : b = true → Go tu D σ H) (h2 : b = false → Go tw D σ H) : Go (tIfS t tu tw) D σ H := fun H1 e => by
  refine h H1 e _ fun H2 e2 => ?_
  cases b with
  | true => exact h1 rfl H2 (e.trans e2)
  | false => exact h2 rfl H2 (e.trans e2)
theorem go_when {b : Bool} (h : EvT t σ H b) (h1 : b = true → Go tu { D with nx := tz D } σ H) (h2 : b = false → Go tz D σ H) : Go (tSeq (tIfS t tu tNext) tz) D σ H := fun H1 e => by
  refine h H1 e _ fun H2 e2 => ?_
  cases b with
  | true => exact h1 rfl H2 (e.trans e2)
  | false => exact h2 rfl H2 (e.trans e2)
/-- an if that is not taken -/
theorem go_skip {b : Bool} (h : EvT t σ H b) (hb : b = false) (h2 : Go tz D σ H) : Go (tSeq (tIfS t tu tNext) tz) D σ H := go_when h (fun z => by rw [hb] at z; cases z) fun _ => h2
theorem go_ret (h : Ev te σ H v) (k : ∀ H1, Ex H H1 → D.rt v H1) : Go (tRet te) D σ H := fun H1 e => h H1 e _ fun H2 e2 => k H2 (e.trans e2)
theorem go_retP (h : Tk te σ H R) (k : ∀ v H1, Ex H H1 → R v H1 → D.rt v H1) : Go (tRet te) D σ H := fun H1 e => h H1 e _ fun v H2 e2 r => k v H2 (e.trans e2) r
theorem go_set {i : Nat} (h : Ev te σ H v) (k : Go tz D (σ.set i (some v)) H) : Go (tSeq (tAsg te (gName i)) tz) D σ H := fun H1 e => h H1 e _ fun H2 e2 => k H2 (e.trans e2)
theorem go_setP {i : Nat} (h : Tk te σ H R) (k : ∀ v H1, Ex H H1 → R v H1 → Go tz D (σ.set i (some v)) H1) : Go (tSeq (tAsg te (gName i)) tz) D σ H := fun H1 e => h H1 e _ fun v H2 e2 r => k v H2 (e.trans e2) r H2 (Ex.refl H2)
theorem go_drop (h : Ev te σ H v) (k : Go tz D σ H) : Go (tSeq (tDrop te) tz) D σ H := fun H1 e => h H1 e _ fun H2 e2 => k H2 (e.trans e2)
end

/-! ### small things -/
abbrev nV (n : Nat) : V := .int (n : Int)
abbrev nL (ns : List Nat) : List V := ns.map nV
theorem nL_get {ns : List Nat} {i : Nat} {a : Nat} (h : ns[i]? = some a) : (nL ns)[i]? = some (nV a) := by rw [List.getElem?_map, h]; rfl
theorem nL_get_of {ns : List Nat} {i : Nat} {v : V} (h : (nL ns)[i]? = some v) : ∃ a, ns[i]? = some a ∧ v = nV a := by
  rw [List.getElem?_map] at h
  cases e : ns[i]? with
  | none => rw [e] at h; cases h
  | some a => rw [e] at h; exact ⟨a, rfl, (Option.some.inj h).symm⟩
theorem lt_of_get {α : Type} {xs : List α} {i : Nat} {a : α} (h : xs[i]? = some a) : i < xs.length := (List.getElem?_eq_some_iff.mp h).1
theorem ex_upd {H H1 : Hp} {p : Addr} {o : HO} (e : Ex H H1) (hp : H1 p = some o) : Ex (upd H p o) H1 := fun a u h => by
  by_cases q : a = p
  · subst q; rw [upd_same] at h; rw [hp]; exact h
  · rw [upd_ne q] at h; exact e a u h
/-- all that is a tuple stays so -/
def TEx (H H' : Hp) : Prop := ∀ a xs, H a = some (.tup xs) → H' a = some (.tup xs)
theorem Ex.te {H H' : Hp} (e : Ex H H') : TEx H H' := fun a xs h => e a _ h
theorem TEx.trans {H H1 H2 : Hp} (a : TEx H H1) (b : TEx H1 H2) : TEx H H2 := fun x o h => b x o (a x o h)
theorem TEx.refl (H : Hp) : TEx H H := fun _ _ h => h
theorem te_mut {H : Hp} {p : Addr} {xs : List V} {o : HO} (h : H p = some (.lst xs)) : TEx H (upd H p o) := fun a ys q => by
  have n : a ≠ p := fun z => by rw [z, h] at q; cases q
  rw [upd_ne n]; exact q
end Hfb
namespace Hfb
open PySem PySem.Spec PyProof.Rows L2
open Evl (Ex Ev EvT EvA EvL EvU ev_op ev_var ev_c ev_call ea_cons ea_nil)
section
variable {P : Program} {w : World} {K : PySem.W.Frag} {mg : Str → Option Value} {base : Heap} {H : Hp}

/-! ### isinstance, len, max -/
theorem rc_isi {x c : V} {t u : Value} {b : Bool} (hc : ClsV c u) (ht : ∀ H1, Ex H H1 → TyX K H1 x t) (hk : PySem.W.kitOne K t u = some b) : Evl.RC (rIsi K) [x, c] H (.bl b) :=
  fun H1 e Q q => ⟨x, c, t, u, b, rfl, hc, ht H1 e, hk, q H1 (Ex.refl H1)⟩
theorem isi_int {i : Int} : Evl.RC (rIsi K) [.int i, .ty "int"] H (.bl true) := rc_isi (.ty _) (fun _ _ => .base (.int i)) (kit_ty (by decide +kernel))
theorem isi_bool {i : Int} : Evl.RC (rIsi K) [.int i, .ty "bool"] H (.bl false) := rc_isi (.ty _) (fun _ _ => .base (.int i)) (kit_ty (by decide +kernel))
theorem isi_str {x : Str} : Evl.RC (rIsi K) [.str x, .ty "str"] H (.bl true) := rc_isi (.ty _) (fun _ _ => .base (.str x)) (kit_ty (by decide +kernel))
theorem rc_max {i j : Int} : Evl.RC (fun xs H Q => ∃ i j, xs = [.int i, .int j] ∧ Q (.int (if j > i then j else i)) H) [.int i, .int j] H (.int (max i j)) := fun H1 e Q q => ⟨i, j, rfl, by
  have ee : (if j > i then j else i) = max i j := by split <;> omega
  rw [ee]; exact q H1 (Ex.refl H1)⟩
theorem rc_min {i j : Int} : Evl.RC (fun xs H Q => ∃ i j, xs = [.int i, .int j] ∧ Q (.int (if j < i then j else i)) H) [.int i, .int j] H (.int (min i j)) := fun H1 e Q q => ⟨i, j, rfl, by
  have ee : (if j < i then j else i) = min i j := by split <;> omega
  rw [ee]; exact q H1 (Ex.refl H1)⟩
theorem rc_lenL {p : Addr} {ys : List V} (h : SqL K H p ys) : Evl.RC (fun xs H Q => ∃ p ys, xs = [.ref p] ∧ (SqL K H p ys ∨ SqT K H p ys) ∧ Q (.int ys.length) H) [.ref p] H (.int (ys.length : Nat)) :=
  fun H1 e Q q => ⟨p, ys, rfl, .inl (Evl.ex_l e h), q H1 (Ex.refl H1)⟩
theorem rc_lenT {p : Addr} {ys : List V} (h : SqT K H p ys) : Evl.RC (fun xs H Q => ∃ p ys, xs = [.ref p] ∧ (SqL K H p ys ∨ SqT K H p ys) ∧ Q (.int ys.length) H) [.ref p] H (.int (ys.length : Nat)) :=
  fun H1 e Q q => ⟨p, ys, rfl, .inr (Evl.ex_t e h), q H1 (Ex.refl H1)⟩
theorem ev_chain {σ : L2.St} {ta tb tc : TE} {f g : Int → Int → Bool} {i j k : Int} (ha : Ev ta σ H (.int i)) (hb : Ev tb σ H (.int j)) (hc : Ev tc σ H (.int k)) :
    Ev (tChain (rI0 fun i j => .bl (f i j)) (rI0 fun i j => .bl (g i j)) ta tb tc) σ H (.bl (f i j && g j k)) := fun H1 e Q q =>
  ha H1 e _ fun H2 e2 => hb H2 (e.trans e2) _ fun H3 e3 => ⟨i, j, rfl, rfl, f i j, rfl, by
    cases h : f i j with
    | true =>
      rw [if_pos rfl]
      refine hc H3 ((e.trans e2).trans e3) _ fun H4 e4 => ⟨j, k, rfl, rfl, ?_⟩
      have z := q H4 ((e2.trans e3).trans e4)
      rw [h, Bool.true_and] at z
      exact z
    | false =>
      rw [if_neg Bool.false_ne_true]
      have z := q H3 (e2.trans e3)
      rw [h, Bool.false_and] at z
      exact z⟩
theorem rc_isiLT {p : Addr} {t : Value} (ht : ∀ H1, Ex H H1 → TyX K H1 (.ref p) t) (hk : PySem.W.kitAny K t [.type "list", .type "tuple"] = some true) {tp : Addr} (h : H tp = some (.tup [.ty "list", .ty "tuple"])) : Evl.RC (rIsiT K) [.ref p, .ref tp] H (.bl true) :=
  fun H1 e Q q => ⟨.ref p, tp, [.ty "list", .ty "tuple"], t, [.type "list", .type "tuple"], true, rfl, e _ _ h, .cons (.ty _) (.cons (.ty _) .nil), ht H1 e, hk, q H1 (Ex.refl H1)⟩
theorem kit_list : PySem.W.kitAny K (.type "list") [.type "list", .type "tuple"] = some true := kitAny_cons (b := true) (kit_ty (by decide +kernel)) (fun z => nomatch z) fun _ => rfl
theorem kit_tuple : PySem.W.kitAny K (.type "tuple") [.type "list", .type "tuple"] = some true := kitAny_cons (b := false) (kit_ty (by decide +kernel)) (fun _ => kitAny_cons (b := true) (kit_ty (by decide +kernel)) (fun z => nomatch z) fun _ => rfl) (fun z => nomatch z)
/-- what is a list or a tuple -/
def IsSq (H : Hp) (v : V) : Prop := ∃ p, v = .ref p ∧ ((∃ xs, H p = some (.lst xs)) ∨ ∃ xs, H p = some (.tup xs))
theorem IsSq.l {p : Addr} {xs : List V} (h : H p = some (.lst xs)) : IsSq H (.ref p) := ⟨p, rfl, .inl ⟨xs, h⟩⟩
theorem IsSq.t {p : Addr} {xs : List V} (h : H p = some (.tup xs)) : IsSq H (.ref p) := ⟨p, rfl, .inr ⟨xs, h⟩⟩
theorem ev_isiLT {σ : L2.St} {tv : TE} {v : V} (hv : Ev tv σ H v) (h : IsSq H v) : Ev (tCB (rIsiT K) (tCons tv (tCons (tTup (tCons (tC (.ty "list")) (tCons (tC (.ty "tuple")) tNil))) tNil))) σ H (.bl true) := fun H1 e Q q => by
  obtain ⟨p, rfl, h⟩ := h
  refine hv H1 e _ fun H2 e2 => ?_
  refine Evl.eu_tup (vs := [.ty "list", .ty "tuple"]) (ea_cons ev_c (ea_cons ev_c ea_nil)) (by decide) H2 (Ex.refl H2) _ fun tp H3 n3 e3 h3 => ?_
  rcases h with ⟨xs, h⟩ | ⟨xs, h⟩
  · exact rc_isiLT (H := H3) (fun H4 e4 => .base (.lst (e4 _ _ (e3 _ _ (e2 _ _ (e _ _ h)))))) kit_list h3 H3 (Ex.refl H3) _ fun H4 e4 => q H4 ((e2.trans e3).trans e4)
  · exact rc_isiLT (H := H3) (fun H4 e4 => .base (.tup (e4 _ _ (e3 _ _ (e2 _ _ (e _ _ h)))))) kit_tuple h3 H3 (Ex.refl H3) _ fun H4 e4 => q H4 ((e2.trans e3).trans e4)
theorem ev_andU {σ : L2.St} {ta tb : TE} {a b : Bool} (h1 : Ev ta σ H (.bl a)) (h2 : Ev tb σ H (.bl b)) : Ev (tAndV ta tb) σ H (.bl (a && b)) := Evl.ev_andV h1 fun _ => h2
theorem ev_orU {σ : L2.St} {ta tb : TE} {a b : Bool} (h1 : Ev ta σ H (.bl a)) (h2 : Ev tb σ H (.bl b)) : Ev (tOrV ta tb) σ H (.bl (a || b)) := Evl.ev_orV h1 fun _ => h2
theorem et_andU {σ : L2.St} {t u : TT} {a b : Bool} (h1 : EvT t σ H a) (h2 : EvT u σ H b) : EvT (tAnd t u) σ H (a && b) := Evl.et_and h1 fun _ => h2
theorem et_orU {σ : L2.St} {t u : TT} {a b : Bool} (h1 : EvT t σ H a) (h2 : EvT u σ H b) : EvT (tOr t u) σ H (a || b) := Evl.et_or h1 fun _ => h2
local macro_rules | `(tactic| walk_at "spv") => `(tactic| fail "no promise")
local macro_rules | `(tactic| walk_at "rv") => `(tactic| first
  | with_reducible exact Evl.rv_I0
  | ((with_reducible refine Evl.rv_eq ?_); rfl)
  | ((with_reducible refine Evl.rv_ne ?_); rfl)
  | ((with_reducible apply Evl.rv_ixT); (first | assumption | exact Evl.st_of (by assumption)); (first | rfl | assumption))
  | ((with_reducible apply Evl.rv_ixL); (first | assumption | exact Evl.sq_of (by assumption)); (first | rfl | assumption))
  | exact isi_int
  | exact isi_bool
  | exact isi_str
  | exact rc_max
  | exact rc_min
  | (apply rc_lenL; first | assumption | exact Evl.sq_of (by assumption))
  | (apply rc_lenT; first | assumption | exact Evl.st_of (by assumption))
  | walk_at "spv")
local macro_rules | `(tactic| walk_at "ev") => `(tactic| first
  | ((with_reducible apply Evl.ev_var); rfl)
  | with_reducible exact Evl.ev_c
  | with_reducible exact Evl.ea_nil
  | ((with_reducible apply Evl.ea_cons) <;> walk_at "ev")
  | ((with_reducible apply Evl.ev_op) <;> walk_at "ev")
  | ((with_reducible apply ev_chain) <;> walk_at "ev")
  | ((with_reducible apply Evl.ev_cb) <;> walk_at "ev")
  | ((with_reducible apply Evl.ev_call) <;> walk_at "ev")
  | ((with_reducible apply Evl.ev_notV) <;> walk_at "ev")
  | ((with_reducible apply ev_andU) <;> walk_at "ev")
  | ((with_reducible apply ev_orU) <;> walk_at "ev")
  | ((with_reducible apply Evl.et_B) <;> walk_at "ev")
  | ((with_reducible apply Evl.et_test) <;> walk_at "ev")
  | ((with_reducible apply Evl.et_not) <;> walk_at "ev")
  | ((with_reducible apply et_andU) <;> walk_at "ev")
  | ((with_reducible apply et_orU) <;> walk_at "ev")
  | walk_at "rv")
def sp_isInt : Sp := fun vs H Q _ => ∃ v lo hi : Int, vs = [.int v, .int lo, .int hi] ∧ ∀ H', Ex H H' → Q (.bl (decide (lo ≤ v) && decide (v ≤ hi))) H'
theorem v_isInt {v lo hi : Int} : Evl.SpV sp_isInt [.int v, .int lo, .int hi] H (.bl (decide (lo ≤ v) && decide (v ≤ hi))) := fun H1 e Q q E => ⟨v, lo, hi, rfl, q⟩
local macro_rules | `(tactic| walk_at "spv") => `(tactic| exact v_isInt)
theorem cl_isInt (T : Tx K mg) (A : At K mg "is_integer_facts" "is_integer" "is_integer" s_is_integer_facts []) : Cl P w K mg base 1 "is_integer_facts" sp_isInt := by
  refine cl_of A sc_is_integer_facts (fun _ _ _ _ _ _ us hl => match us, hl with | [_, _, _], _ => rfl) (fun vs H Q E h => ?_) (fun f cdv A outer s H vs Q E hr h => ?_)
  · obtain ⟨v, lo, hi, rfl, _⟩ := h
    rfl
  · obtain ⟨v, lo, hi, rfl, q⟩ := h
    refine ⟨_, (pss_one (ps_ret (pe_and (pe_callB call_isi rfl T.b_isinstance (by decide +kernel) (pa_cons (pv 0) (pa_cons (pe_bltn (v := .ty "int") rfl T.b_int (by decide +kernel) rfl) pa_nil))) (pe_and (pe_not (pe_callB call_isi rfl T.b_isinstance (by decide +kernel) (pa_cons (pv 0) (pa_cons (pe_bltn (v := .ty "bool") rfl T.b_bool (by decide +kernel) rfl) pa_nil)))) (pe_one (pe_chain op_le op_le (pv 1) (pv 0) (pv 2))))))), ?_⟩
    exact Go.here (go_ret (Evl.ev_is (by walk_at "ev") (by rfl)) q)
def sp_isSeq : Sp := fun vs H Q _ => ∃ v : V, vs = [v] ∧ IsSq H v ∧ ∀ H', Ex H H' → Q (.bl true) H'
theorem IsSq.mono {H H' : Hp} {v : V} (e : Ex H H') (h : IsSq H v) : IsSq H' v := by
  obtain ⟨p, rfl, h⟩ := h
  rcases h with ⟨xs, h⟩ | ⟨xs, h⟩
  · exact .l (e _ _ h)
  · exact .t (e _ _ h)
theorem v_isSeq {v : V} (h : IsSq H v) : Evl.SpV sp_isSeq [v] H (.bl true) := fun H1 e Q q E => ⟨v, rfl, h.mono e, q⟩
theorem cl_isSeqF (T : Tx K mg) (A : At K mg "is_sequence_facts" "is_sequence" "is_sequence" s_is_sequence_facts []) : Cl P w K mg base 1 "is_sequence_facts" sp_isSeq := by
  refine cl_of A sc_is_sequence_facts (fun _ _ _ _ _ _ us hl => match us, hl with | [_], _ => rfl) (fun vs H Q E h => ?_) (fun f cdv A outer s H vs Q E hr h => ?_)
  · obtain ⟨v, rfl, _⟩ := h
    rfl
  · obtain ⟨v, rfl, hs, q⟩ := h
    refine ⟨_, (pss_one (ps_ret (pe_callB call_isiT rfl T.b_isinstance (by decide +kernel) (pa_cons (pv 0) (pa_cons (pe_tup (pa_cons (pe_bltn (v := .ty "list") rfl T.b_list (by decide +kernel) rfl) (pa_cons (pe_bltn (v := .ty "tuple") rfl T.b_tuple (by decide +kernel) rfl) pa_nil))) pa_nil))))), ?_⟩
    exact Go.here (go_ret (ev_isiLT (ev_var rfl) hs) q)
theorem cl_isSeqD (T : Tx K mg) (A : At K mg "is_sequence_distances" "is_sequence" "is_sequence" s_is_sequence_distances []) : Cl P w K mg base 1 "is_sequence_distances" sp_isSeq := by
  refine cl_of A sc_is_sequence_distances (fun _ _ _ _ _ _ us hl => match us, hl with | [_], _ => rfl) (fun vs H Q E h => ?_) (fun f cdv A outer s H vs Q E hr h => ?_)
  · obtain ⟨v, rfl, _⟩ := h
    rfl
  · obtain ⟨v, rfl, hs, q⟩ := h
    refine ⟨_, (pss_one (ps_ret (pe_callB call_isiT rfl T.b_isinstance (by decide +kernel) (pa_cons (pv 0) (pa_cons (pe_tup (pa_cons (pe_bltn (v := .ty "list") rfl T.b_list (by decide +kernel) rfl) (pa_cons (pe_bltn (v := .ty "tuple") rfl T.b_tuple (by decide +kernel) rfl) pa_nil))) pa_nil))))), ?_⟩
    exact Go.here (go_ret (ev_isiLT (ev_var rfl) hs) q)
def sp_isIntD : Sp := fun vs H Q _ => ∃ v lo hi : Int, vs = [.int v, .int lo, .int hi] ∧ ∀ H', Ex H H' → Q (.bl (decide (lo ≤ v) && decide (v ≤ hi))) H'
theorem v_isIntD {v lo hi : Int} : Evl.SpV sp_isIntD [.int v, .int lo, .int hi] H (.bl (decide (lo ≤ v) && decide (v ≤ hi))) := fun H1 e Q q E => ⟨v, lo, hi, rfl, q⟩
theorem cl_isIntD (T : Tx K mg) (A : At K mg "is_integer_distances" "is_integer" "is_integer" s_is_integer_distances [V.non]) : Cl P w K mg base 1 "is_integer_distances" sp_isIntD := by
  obtain ⟨f, fd, F, hm⟩ := A
  have bnd : Binds K fd ["value", "lowest", "highest"] [] := by
    obtain ⟨ds, h1, h2⟩ := F.binds1 (ps := ["value", "lowest", "highest"]) 3 1 (by decide) rfl fun T kV doc pm an cdv ct us its hu hi => match us, hu, its, hi with | [_, _, _], _, [_], _ => ⟨_, rfl, rfl⟩
    cases h1
    exact h2
  refine ⟨f, fd, ["value", "lowest", "highest"], F.ok sc_is_integer_distances (fun vs H Q E h => ?_) (fun cdv A outer s H vs Q E hr h => ?_), hm, F.kp, bnd⟩
  · obtain ⟨v, lo, hi, rfl, _⟩ := h
    rfl
  · obtain ⟨v, lo, hi, rfl, q⟩ := h
    refine ⟨_, PSs.nox (pss_cons (ps_if (PW.pt (pw_or (pt_not (pt_val (pe_callB call_isi rfl T.b_isinstance (by decide +kernel) (pa_cons (pv 0) (pa_cons (pe_bltn (v := .ty "int") rfl T.b_int (by decide +kernel) rfl) pa_nil))))) (pw_or1 (pt_val (pe_callB call_isi rfl T.b_isinstance (by decide +kernel) (pa_cons (pv 0) (pa_cons (pe_bltn (v := .ty "bool") rfl T.b_bool (by decide +kernel) rfl) pa_nil))))))) (pss_one (ps_ret pe_bl)) pss_nil)
      (pss_one (ps_ret (pe_and (pe_cmpR op_ge (pv 0) (pv 1) (nomark _)) (pe_one (pe_or (pe_cmpR op_isN (pv 2) pe_non (nomark _)) (pe_one (pe_cmpR op_le (pv 0) (pv 2) (nomark _))))))))), ?_⟩
    refine Go.here (go_skip (by walk_at "ev") (by rfl) (go_ret (Evl.ev_is (Evl.ev_andV (by walk_at "ev") fun _ => Evl.ev_orV (a := false) ?_ fun _ => (by walk_at "ev")) (by rw [Bool.false_or])) q))
    exact ev_op (ev_var rfl) ev_c fun H1 e Q q => ⟨rfl, q H1 (Ex.refl H1)⟩
end
end Hfb
namespace Hfb
open PySem PySem.Spec PyProof.Rows L2
open Evl (Ex Ev EvT EvA EvL EvU ev_op ev_var ev_c ev_call ea_cons ea_nil)
section
variable {P : Program} {w : World} {K : PySem.W.Frag} {mg : Str → Option Value} {base : Heap} {H : Hp}
local macro_rules | `(tactic| walk_at "spv") => `(tactic| first | exact v_isInt | exact v_isIntD | exact v_twoPos | exact v_isSeq (.t (by assumption)) | exact v_isSeq (.l (by assumption)) | exact v_isDist (by assumption) (by omega))
local macro_rules | `(tactic| walk_at "rv") => `(tactic| first
  | with_reducible exact Evl.rv_I0
  | ((with_reducible refine Evl.rv_eq ?_); rfl)
  | ((with_reducible refine Evl.rv_ne ?_); rfl)
  | ((with_reducible apply Evl.rv_ixT); (first | assumption | exact Evl.st_of (by assumption)); (first | rfl | assumption))
  | ((with_reducible apply Evl.rv_ixL); (first | assumption | exact Evl.sq_of (by assumption)); (first | rfl | assumption))
  | exact isi_int
  | exact isi_bool
  | exact isi_str
  | exact rc_max
  | exact rc_min
  | (apply rc_lenL; first | assumption | exact Evl.sq_of (by assumption))
  | (apply rc_lenT; first | assumption | exact Evl.st_of (by assumption))
  | walk_at "spv")
local macro_rules | `(tactic| walk_at "ev") => `(tactic| first
  | ((with_reducible apply Evl.ev_var); rfl)
  | with_reducible exact Evl.ev_c
  | with_reducible exact Evl.ea_nil
  | ((with_reducible apply Evl.ea_cons) <;> walk_at "ev")
  | ((with_reducible apply Evl.ev_op) <;> walk_at "ev")
  | ((with_reducible apply ev_chain) <;> walk_at "ev")
  | ((with_reducible apply Evl.ev_cb) <;> walk_at "ev")
  | ((with_reducible apply Evl.ev_call) <;> walk_at "ev")
  | ((with_reducible apply Evl.ev_notV) <;> walk_at "ev")
  | ((with_reducible apply ev_andU) <;> walk_at "ev")
  | ((with_reducible apply ev_orU) <;> walk_at "ev")
  | ((with_reducible apply Evl.et_B) <;> walk_at "ev")
  | ((with_reducible apply Evl.et_test) <;> walk_at "ev")
  | ((with_reducible apply Evl.et_not) <;> walk_at "ev")
  | ((with_reducible apply et_andU) <;> walk_at "ev")
  | ((with_reducible apply et_orU) <;> walk_at "ev")
  | walk_at "rv")
/-! ### loops and comprehensions, whatever the elements are -/
theorem te_of {H H' : Hp} (e : Ex H H') : TEx H H' := fun a xs h => e a _ h
theorem hasU {H : Hp} {T : Addr} {xs : List V} (h : H T = none) : Ex H (upd H T (.tup xs)) := Ex.new h
section
variable {σ : L2.St} {a : Addr} {xs : List V} {ta : TA} {tl te : TE} {t : TT} {vs : List Nat} {j0 j1 j : Nat}
/-- one turn: the test, the element, the word behind -/
abbrev TurnC (t : TT) (te : TE) (G : Nat → List V → Hp → Prop) (i : Nat) (acc : List V) (σi : L2.St) (H' : Hp) : Prop :=
  ∃ b, EvT t σi H' b ∧ (b = false → G (i + 1) acc H') ∧ (b = true → ∃ R, Tk te σi H' R ∧ ∀ y H2, Ex H' H2 → R y H2 → G (i + 1) (acc ++ [y]) H2)
def CwG (H : Hp) (G : Nat → List V → Hp → Prop) (Dl : Addr) (i : Nat) (H' : Hp) : Prop := H Dl = none ∧ Ex H H' ∧ ∃ acc, H' Dl = some (.lst acc) ∧ acc.length ≤ i ∧ G i acc H'
theorem cwG_turn {H H' H'' : Hp} {G : Nat → List V → Hp → Prop} (hG : ∀ i acc H1 H2, TEx H1 H2 → G i acc H1 → G i acc H2) {Dl : Addr} {i : Nat} {acc : List V} {σ2 : L2.St} (p1 : H Dl = none) (p2 : Ex H H') (p3 : H' Dl = some (.lst acc)) (p4 : acc.length ≤ i) (hi : i < 50000)
    (e : Ex H' H'') (tc : TurnC t te G i acc σ2 H') : t σ2 H'' fun b H3 => if b = true then te σ2 H3 fun y H4 => ∃ acc, H4 Dl = some (.lst acc) ∧ acc.length < sizeLine ∧ CwG H G Dl (i + 1) (upd H4 Dl (.lst (acc ++ [y]))) else CwG H G Dl (i + 1) H3 := by
  obtain ⟨b, ht, h1, h2⟩ := tc
  refine ht H'' e _ fun H3 e3 => ?_
  cases hb : b with
  | true =>
    obtain ⟨R, hk, hr⟩ := h2 hb
    show te σ2 H3 fun y H4 => ∃ acc, H4 Dl = some (.lst acc) ∧ acc.length < sizeLine ∧ CwG H G Dl (i + 1) (upd H4 Dl (.lst (acc ++ [y])))
    refine hk H3 (e.trans e3) _ fun y H4 e4 r => ?_
    have hD : H4 Dl = some (.lst acc) := e4 _ _ (e3 _ _ (e _ _ p3))
    exact ⟨acc, hD, Evl.sz_lt (by omega), p1, Ex.mut (((p2.trans e).trans e3).trans e4) p1, acc ++ [y], upd_same, by rw [List.length_append, List.length_singleton]; omega, hG _ _ _ _ (te_mut hD) (hr y H4 ((e.trans e3).trans e4) r)⟩
  | false =>
    show CwG H G Dl (i + 1) H3
    exact ⟨p1, (p2.trans e).trans e3, acc, e3 _ _ (e _ _ p3), by omega, hG _ _ _ _ (te_of (e.trans e3)) (h1 hb)⟩
abbrev NewL (H : Hp) (n : Nat) (G : Nat → List V → Hp → Prop) (v : V) (H' : Hp) : Prop := ∃ p acc, v = .ref p ∧ H p = none ∧ H' p = some (.lst acc) ∧ G n acc H'
theorem tk_lcL (h : Ev tl σ H (.ref a)) (hx : SqL K H a xs) (hz : xs.length ≤ 40000) (G : Nat → List V → Hp → Prop) (hG : ∀ i acc H1 H2, TEx H1 H2 → G i acc H1 → G i acc H2) (hw : ∀ x, wipe ((wipe σ vs).set j (some x)) vs = wipe σ vs)
    (h0 : ∀ H', Ex H H' → G 0 [] H') (hs : ∀ i x acc H', Ex H H' → xs[i]? = some x → G i acc H' → TurnC t te G i acc ((wipe σ vs).set j (some x)) H') :
    Tk (tLc (iList K tl) (gName j) t te vs) σ H (NewL H xs.length G) := fun H0 e Q q => h H0 e _ fun H1 e1 => ⟨a, rfl, ⟨xs, Evl.ex_l (e.trans e1) hx⟩, fun Dl hD =>
  lc_list (xs := xs) (CwG H1 G Dl) ⟨hD, Ex.new hD, [], upd_same, Nat.le_refl _, h0 _ ((e.trans e1).trans (Ex.new hD))⟩ (fun i H' _ p => Evl.ex_l ((e.trans e1).trans p.2.1) hx) (fun i x H' hi p => ⟨hw x, by
    obtain ⟨p1, p2, acc, p3, p4, p5⟩ := p
    exact cwG_turn hG p1 p2 p3 p4 (by have := lt_of_get hi; omega) (Ex.refl H') (hs i x acc H' ((e.trans e1).trans p2) hi p5)⟩) (fun H' p => by
    obtain ⟨p1, p2, acc, p3, p4, p5⟩ := p
    exact q _ H' (e1.trans p2) ⟨Dl, acc, rfl, Evl.fresh_back (e.trans e1) p1, p3, p5⟩)⟩
theorem tk_lcR {n : Nat} (h : EvA ta σ H [.int (n : Int)]) (hz : n ≤ 40000) (G : Nat → List V → Hp → Prop) (hG : ∀ i acc H1 H2, TEx H1 H2 → G i acc H1 → G i acc H2) (hw : ∀ x, wipe ((wipe σ vs).set j (some x)) vs = wipe σ vs)
    (h0 : ∀ H', Ex H H' → G 0 [] H') (hs : ∀ i acc H', Ex H H' → i < n → G i acc H' → TurnC t te G i acc ((wipe σ vs).set j (some (nV i))) H') :
    Tk (tLc (iRng1 ta) (gName j) t te vs) σ H (NewL H n G) := fun H0 e Q q => h H0 e _ fun H1 e1 => ⟨n, rfl, by omega, by omega, fun Dl hD =>
  lc_range (lo := 0) (n := (n : Int).toNat) (CwG H1 G Dl) ⟨hD, Ex.new hD, [], upd_same, Nat.le_refl _, h0 _ ((e.trans e1).trans (Ex.new hD))⟩ (fun i H' hi p => by
    have e0 : (0 : Int) + (i : Int) = (i : Int) := Int.zero_add _
    have hi' : i < n := by omega
    obtain ⟨p1, p2, acc, p3, p4, p5⟩ := p
    rw [e0]
    exact ⟨hw _, cwG_turn hG p1 p2 p3 p4 (by omega) (Ex.refl H') (hs i acc H' ((e.trans e1).trans p2) hi' p5)⟩) (fun H' p => by
    obtain ⟨p1, p2, acc, p3, p4, p5⟩ := p
    have en : (n : Int).toNat = n := by omega
    rw [en] at p5
    exact q _ H' (e1.trans p2) ⟨Dl, acc, rfl, Evl.fresh_back (e.trans e1) p1, p3, p5⟩)⟩
theorem tk_lcR2 {lo n : Nat} (h : EvA ta σ H [.int (lo : Int), .int (n : Int)]) (hlo : lo ≤ 40000) (hz : n ≤ 40000) (G : Nat → List V → Hp → Prop) (hG : ∀ i acc H1 H2, TEx H1 H2 → G i acc H1 → G i acc H2) (hw : ∀ x, wipe ((wipe σ vs).set j (some x)) vs = wipe σ vs)
    (h0 : ∀ H', Ex H H' → G 0 [] H') (hs : ∀ i acc H', Ex H H' → lo + i < n → G i acc H' → TurnC t te G i acc ((wipe σ vs).set j (some (nV (lo + i)))) H') :
    Tk (tLc (iRng2 ta) (gName j) t te vs) σ H (NewL H (n - lo) G) := fun H0 e Q q => h H0 e _ fun H1 e1 => ⟨lo, n, rfl, ⟨by omega, by omega, by omega, by omega⟩, fun Dl hD =>
  lc_range (lo := (lo : Int)) (n := ((n : Int) - (lo : Int)).toNat) (CwG H1 G Dl) ⟨hD, Ex.new hD, [], upd_same, Nat.le_refl _, h0 _ ((e.trans e1).trans (Ex.new hD))⟩ (fun i H' hi p => by
    have e0 : (lo : Int) + (i : Int) = ((lo + i : Nat) : Int) := by omega
    have hi' : lo + i < n := by omega
    obtain ⟨p1, p2, acc, p3, p4, p5⟩ := p
    rw [e0]
    exact ⟨hw _, cwG_turn hG p1 p2 p3 p4 (by omega) (Ex.refl H') (hs i acc H' ((e.trans e1).trans p2) hi' p5)⟩) (fun H' p => by
    obtain ⟨p1, p2, acc, p3, p4, p5⟩ := p
    have en : ((n : Int) - (lo : Int)).toNat = n - lo := by omega
    rw [en] at p5
    exact q _ H' (e1.trans p2) ⟨Dl, acc, rfl, Evl.fresh_back (e.trans e1) p1, p3, p5⟩)⟩
/-- the target of enumerate -/
abbrev g2 (K : PySem.W.Frag) (j0 j1 : Nat) : TG := gTup K 2 (gCons (gName j0) (gCons (gName j1) gNil))
theorem g2_ok {x y : V} {T : Addr} {H : Hp} {Q : L2.St → Hp → Prop} (h : SqT K H T [x, y]) (q : Q ((σ.set j0 (some x)).set j1 (some y)) H) : g2 K j0 j1 (.ref T) σ H Q :=
  ⟨T, [x, y], rfl, h, rfl, x, [y], rfl, y, [], rfl, rfl, q⟩
theorem tk_lcE (h : EvA ta σ H [.ref a]) (hx : SqL K H a xs) (hz : xs.length ≤ 40000) (G : Nat → List V → Hp → Prop) (hG : ∀ i acc H1 H2, TEx H1 H2 → G i acc H1 → G i acc H2) (hw : ∀ x y, wipe (((wipe σ vs).set j0 (some x)).set j1 (some y)) vs = wipe σ vs)
    (h0 : ∀ H', Ex H H' → G 0 [] H') (hs : ∀ i x acc H', Ex H H' → xs[i]? = some x → G i acc H' → TurnC t te G i acc (((wipe σ vs).set j0 (some (nV i))).set j1 (some x)) H') :
    Tk (tLc (iEnum K ta) (g2 K j0 j1) t te vs) σ H (NewL H xs.length G) := fun H0 e Q q => h H0 e _ fun H1 e1 => ⟨a, xs, rfl, Evl.ex_l (e.trans e1) hx, fun Dl hD =>
  lc_it (walk_enum (K := K) (a := a) (xs := xs)) (CwG H1 G Dl) ⟨hD, Ex.new hD, [], upd_same, Nat.le_refl _, h0 _ ((e.trans e1).trans (Ex.new hD))⟩ (fun i H' _ p => Evl.ex_l ((e.trans e1).trans p.2.1) hx) (fun i x H' H'' hi p y => by
    obtain ⟨T, x1, y1, rfl, hT, rfl, f1, f2⟩ := y
    cases f1
    obtain ⟨p1, p2, acc, p3, p4, p5⟩ := p
    exact g2_ok (Evl.st_of upd_same) ⟨hw _ _, cwG_turn hG p1 p2 p3 p4 (by omega) (Ex.new hT) (hs i y1 acc H' ((e.trans e1).trans p2) f2 p5)⟩) (fun H' p => by
    obtain ⟨p1, p2, acc, p3, p4, p5⟩ := p
    exact q _ H' (e1.trans p2) ⟨Dl, acc, rfl, Evl.fresh_back (e.trans e1) p1, p3, p5⟩)⟩
/-- a call of one argument that is told by R -/
theorem ev_cbK {r : List V → Hp → VK → Prop} {z : V} {R : V → Hp → Prop} (h : Tk te σ H R) (hr : ∀ v H2, Ex H H2 → R v H2 → Evl.RC r [v] H2 z) : Ev (tCB r (tCons te tNil)) σ H z := fun H1 e Q q =>
  h H1 e _ fun v H2 e2 rr => hr v H2 (e.trans e2) rr H2 (Ex.refl H2) Q fun H3 e3 => q H3 (e2.trans e3)
theorem rc_all {p : Addr} {bs : List Bool} (h : SqL K H p (bs.map V.bl)) : Evl.RC (rAll K) [.ref p] H (.bl (bs.all id)) := fun H1 e Q q => ⟨p, bs, rfl, Evl.ex_l e h, q H1 (Ex.refl H1)⟩
theorem rc_any {p : Addr} {bs : List Bool} (h : SqL K H p (bs.map V.bl)) : Evl.RC (rAny K) [.ref p] H (.bl (bs.any id)) := fun H1 e Q q => ⟨p, bs, rfl, Evl.ex_l e h, q H1 (Ex.refl H1)⟩
/-- for a, b in enumerate(xs) -/
theorem s_forE {tu : TS} {D : Ends} (h : EvA ta σ H [.ref a]) (hx : SqL K H a xs) (Pv : Nat → L2.St → Hp → Prop) (h0 : ∀ H1, Ex H H1 → Pv 0 σ H1) (hl : ∀ i σ' H', i ≤ xs.length → Pv i σ' H' → SqL K H' a xs)
    (hs : ∀ i x σ' H' T, xs[i]? = some x → Pv i σ' H' → H' T = none → tu { D with nx := Pv (i + 1), ct := Pv (i + 1), bk := D.nx } ((σ'.set j0 (some (nV i))).set j1 (some x)) (upd H' T (.tup [nV i, x]))) (hd : ∀ σ' H', Pv xs.length σ' H' → D.nx σ' H') : tFor (iEnum K ta) (g2 K j0 j1) tu D σ H :=
  h H (Ex.refl H) _ fun H1 e => ⟨a, xs, rfl, Evl.ex_l e hx, for_it (walk_enum (K := K) (a := a) (xs := xs)) Pv (h0 H1 e) hl (fun i x σ' H' H'' hi p y => by
    obtain ⟨T, x1, y1, rfl, hT, rfl, f1, f2⟩ := y
    cases f1
    exact g2_ok (Evl.st_of upd_same) (hs i y1 σ' H' T f2 p hT)) hd⟩
end
end
end Hfb
namespace Hfb
open PySem PySem.Spec PyProof.Rows L2
open Evl (Ex Ev EvT EvA EvL EvU ev_op ev_var ev_c ev_call ea_cons ea_nil)
section
variable {P : Program} {w : World} {K : PySem.W.Frag} {mg : Str → Option Value} {base : Heap} {H : Hp}
local macro_rules | `(tactic| walk_at "spv") => `(tactic| first | exact v_isInt | exact v_isIntD | exact v_twoPos | exact v_isSeq (.t (by assumption)) | exact v_isSeq (.l (by assumption)) | exact v_isDist (by assumption) (by omega))
local macro_rules | `(tactic| walk_at "rv") => `(tactic| first
  | with_reducible exact Evl.rv_I0
  | ((with_reducible refine Evl.rv_eq ?_); rfl)
  | ((with_reducible refine Evl.rv_ne ?_); rfl)
  | ((with_reducible apply Evl.rv_ixT); (first | assumption | exact Evl.st_of (by assumption)); (first | rfl | assumption))
  | ((with_reducible apply Evl.rv_ixL); (first | assumption | exact Evl.sq_of (by assumption)); (first | rfl | assumption))
  | exact isi_int
  | exact isi_bool
  | exact isi_str
  | exact rc_max
  | exact rc_min
  | (apply rc_lenL; first | assumption | exact Evl.sq_of (by assumption))
  | (apply rc_lenT; first | assumption | exact Evl.st_of (by assumption))
  | walk_at "spv")
local macro_rules | `(tactic| walk_at "ev") => `(tactic| first
  | ((with_reducible apply Evl.ev_var); rfl)
  | with_reducible exact Evl.ev_c
  | with_reducible exact Evl.ea_nil
  | ((with_reducible apply Evl.ea_cons) <;> walk_at "ev")
  | ((with_reducible apply Evl.ev_op) <;> walk_at "ev")
  | ((with_reducible apply ev_chain) <;> walk_at "ev")
  | ((with_reducible apply Evl.ev_cb) <;> walk_at "ev")
  | ((with_reducible apply Evl.ev_call) <;> walk_at "ev")
  | ((with_reducible apply Evl.ev_notV) <;> walk_at "ev")
  | ((with_reducible apply ev_andU) <;> walk_at "ev")
  | ((with_reducible apply ev_orU) <;> walk_at "ev")
  | ((with_reducible apply Evl.et_B) <;> walk_at "ev")
  | ((with_reducible apply Evl.et_test) <;> walk_at "ev")
  | ((with_reducible apply Evl.et_not) <;> walk_at "ev")
  | ((with_reducible apply et_andU) <;> walk_at "ev")
  | ((with_reducible apply et_orU) <;> walk_at "ev")
  | walk_at "rv")
theorem go_next {D : Ends} {σ : L2.St} (k : ∀ H1, Ex H H1 → D.nx σ H1) : Go tNext D σ H := k
theorem go_no {b : Bool} {t : TT} {tu tw : TS} {D : Ends} {σ : L2.St} (h : EvT t σ H b) (hb : b = false) (h2 : Go tw D σ H) : Go (tIfS t tu tw) D σ H := go_if h (fun z => by rw [hb] at z; cases z) fun _ => h2
theorem go_yes {b : Bool} {t : TT} {tu tw : TS} {D : Ends} {σ : L2.St} (h : EvT t σ H b) (hb : b = true) (h2 : Go tu D σ H) : Go (tIfS t tu tw) D σ H := go_if h (fun _ => h2) fun z => by rw [hb] at z; cases z
/-- an if that is taken -/
theorem go_take {b : Bool} {t : TT} {tu tz : TS} {D : Ends} {σ : L2.St} (h : EvT t σ H b) (hb : b = true) (h2 : Go tu { D with nx := tz D } σ H) : Go (tSeq (tIfS t tu tNext) tz) D σ H := go_when h (fun _ => h2) fun z => by rw [hb] at z; cases z
/-- a loop over a new tuple that lays things besides, no more -/
theorem go_forNT {xs : List V} {tl : TE} {j : Nat} {tu : TS} {D : Ends} {σ : L2.St} (h : EvU tl σ H xs) (Pv : Nat → L2.St → Prop) (h0 : Pv 0 σ)
    (hs : ∀ H0, Ex H H0 → ∀ i x σ', xs[i]? = some x → Pv i σ' → Go tu { D with nx := fun σ2 H2 => Ex H0 H2 ∧ Pv (i + 1) σ2, ct := fun σ2 H2 => Ex H0 H2 ∧ Pv (i + 1) σ2, bk := D.nx } (σ'.set j (some x)) H0)
    (hd : ∀ σ' H', Ex H H' → Pv xs.length σ' → D.nx σ' H') : Go (tFor (iTup K tl) (gName j) tu) D σ H := fun H1 e => h H1 e _ fun p H2 n e2 h2 => ⟨p, rfl, ⟨xs, Evl.st_of h2⟩,
  for_tup (fun i σ' H' => Ex H2 H' ∧ Pv i σ') ⟨Ex.refl H2, h0⟩ (fun i σ' H' _ q => Evl.st_of (q.1 _ _ h2)) (fun i x σ' H' hi q => hs H2 (e.trans e2) i x σ' hi q.2 H' q.1) fun σ' H' q => hd σ' H' ((e.trans e2).trans q.1) q.2⟩

/-! ### sizes, positions -/
def sp_checkSize : Sp := fun vs H Q _ => ∃ n : Int, vs = [.int n] ∧ 1 ≤ n ∧ n ≤ 60 ∧ ∀ H', Ex H H' → Q .non H'
theorem v_checkSize {n : Int} (h1 : 1 ≤ n) (h2 : n ≤ 60) : Evl.SpV sp_checkSize [.int n] H .non := fun H1 e Q q E => ⟨n, rfl, h1, h2, q⟩
theorem cl_checkSize (T : Tx K mg) (c_is_integer_facts : Cl P w K mg base 1 "is_integer_facts" sp_isInt) (A : At K mg "check_size" "check_size" "check_size" s_check_size []) : Cl P w K mg base 2 "check_size" sp_checkSize := by
  refine cl_of A sc_check_size (fun _ _ _ _ _ _ us hl => match us, hl with | [_], _ => rfl) (fun vs H Q E h => ?_) (fun f cdv A outer s H vs Q E hr h => ?_)
  · obtain ⟨n, rfl, _⟩ := h
    rfl
  · obtain ⟨n, rfl, h1, h2, q⟩ := h
    refine ⟨_, (pss_one (ps_if (pt_not (pt_val (pcl c_is_integer_facts (hr.mono (by decide)) rfl (pa_cons (pv 0) (pa_cons pe_int (pa_cons (pk T.MAX_SIZE) pa_nil)))))) (pss_one ps_never) pss_nil)), ?_⟩
    exact Go.here (go_no (by walk_at "ev") (by simp; omega) (go_next q))
def sp_twoPos : Sp := fun vs H Q _ => ∃ n i j : Int, vs = [.int n, .int i, .int j] ∧ ∀ H', Ex H H' → Q (.bl (decide (0 ≤ i ∧ i < n ∧ 0 ≤ j ∧ j < n ∧ i ≠ j))) H'
theorem v_twoPos {n i j : Int} : Evl.SpV sp_twoPos [.int n, .int i, .int j] H (.bl (decide (0 ≤ i ∧ i < n ∧ 0 ≤ j ∧ j < n ∧ i ≠ j))) := fun H1 e Q q E => ⟨n, i, j, rfl, q⟩
theorem cl_twoPos (T : Tx K mg) (c_is_integer_facts : Cl P w K mg base 1 "is_integer_facts" sp_isInt) (A : At K mg "are_two_positions" "are_two_positions" "are_two_positions" s_are_two_positions []) : Cl P w K mg base 2 "are_two_positions" sp_twoPos := by
  refine cl_of A sc_are_two_positions (fun _ _ _ _ _ _ us hl => match us, hl with | [_, _, _], _ => rfl) (fun vs H Q E h => ?_) (fun f cdv A outer s H vs Q E hr h => ?_)
  · obtain ⟨n, i, j, rfl, _⟩ := h
    rfl
  · obtain ⟨n, i, j, rfl, q⟩ := h
    refine ⟨_, (pss_one (ps_ret (pe_and (pcl c_is_integer_facts (hr.mono (by decide)) rfl (pa_cons (pv 1) (pa_cons pe_int (pa_cons (pe_op op_sub (pv 0) pe_int) pa_nil)))) (pe_and (pcl c_is_integer_facts (hr.mono (by decide)) rfl (pa_cons (pv 2) (pa_cons pe_int (pa_cons (pe_op op_sub (pv 0) pe_int) pa_nil)))) (pe_one (pe_cmpR op_ne (pv 1) (pv 2) (nomark _))))))), ?_⟩
    refine Go.here (go_ret (Evl.ev_is (by walk_at "ev") ?_) q)
    congr 1
    rw [Bool.eq_iff_iff]
    simp
    omega
def sp_checkPos : Sp := fun vs H Q _ => ∃ n i j : Int, vs = [.int n, .int i, .int j] ∧ 0 ≤ i ∧ i < n ∧ 0 ≤ j ∧ j < n ∧ ∀ H', Ex H H' → Q .non H'
theorem v_checkPos {n i j : Int} (h1 : 0 ≤ i) (h2 : i < n) (h3 : 0 ≤ j) (h4 : j < n) : Evl.SpV sp_checkPos [.int n, .int i, .int j] H .non := fun H1 e Q q E => ⟨n, i, j, rfl, h1, h2, h3, h4, q⟩
theorem cl_checkPos (T : Tx K mg) (c_is_integer_facts : Cl P w K mg base 1 "is_integer_facts" sp_isInt) (A : At K mg "check_positions" "check_positions" "check_positions" s_check_positions []) : Cl P w K mg base 2 "check_positions" sp_checkPos := by
  refine cl_of A sc_check_positions (fun _ _ _ _ _ _ us hl => match us, hl with | [_, _, _], _ => rfl) (fun vs H Q E h => ?_) (fun f cdv A outer s H vs Q E hr h => ?_)
  · obtain ⟨n, i, j, rfl, _⟩ := h
    rfl
  · obtain ⟨n, i, j, rfl, h1, h2, h3, h4, q⟩ := h
    refine ⟨_, (pss_one (ps_for PassesOwn.never rfl (pi_tup (pe_tup (pa_cons (pv 1) (pa_cons (pv 2) pa_nil)))) (pg_name (i := 3) sc_check_positions.nd rfl (Or.inl rfl))
          (pss_one (ps_if (pt_not (pt_val (pcl c_is_integer_facts (hr.mono (by decide)) rfl (pa_cons (pv 3) (pa_cons pe_int (pa_cons (pe_op op_sub (pv 0) pe_int) pa_nil)))))) (pss_one ps_never) pss_nil)))), ?_⟩
    refine Go.here (go_forNT (xs := [.int i, .int j]) (Evl.eu_tup (by walk_at "ev") (by simp)) (fun k σ' => ∃ y, σ' = [some (.int n), some (.int i), some (.int j), y]) ⟨_, rfl⟩ (fun H0 e0 k x σ' hk hp => ?_) fun σ' H' e _ => q H' e)
    obtain ⟨y, rfl⟩ := hp
    have hx : ∃ u : Int, x = .int u ∧ 0 ≤ u ∧ u < n := by
      match k, hk with
      | 0, hk => exact ⟨i, (Option.some.inj hk).symm, h1, h2⟩
      | 1, hk => exact ⟨j, (Option.some.inj hk).symm, h3, h4⟩
    obtain ⟨u, rfl, h5, h6⟩ := hx
    exact go_no (by walk_at "ev") (by simp; omega) (go_next fun H2 e2 => ⟨e2, _, rfl⟩)

/-! ### distance lists, facts -/
def sp_isDist : Sp := fun vs H Q _ => ∃ (d : Addr) (W : List Nat), vs = [.ref d] ∧ H d = some (.lst (nL (distOf W))) ∧ W.length ≤ 60 ∧ ∀ H', Ex H H' → Q (.bl true) H'
theorem v_isDist {d : Addr} {W : List Nat} (h : H d = some (.lst (nL (distOf W)))) (hl : W.length ≤ 60) : Evl.SpV sp_isDist [.ref d] H (.bl true) := fun H1 e Q q E => ⟨d, W, rfl, e _ _ h, hl, q⟩
theorem rv_len {p : Addr} {ns : List Int} (h : SqL K H p (ns.map V.int)) (h64 : ns.length < 64) (nd : ns.Nodup) {σ : L2.St} {te : TE} (he : Ev te σ H (.ref p)) : Ev (RZ.tLenSetI K te) σ H (.int (ns.length : Nat)) := fun H1 e Q q =>
  he H1 e _ fun H2 e2 => ⟨p, ns, rfl, Evl.ex_l (e.trans e2) h, nd, by omega, q H2 e2⟩
theorem fm_succ {α : Type} (g : Nat → Option α) (i : Nat) : (List.range (i + 1)).filterMap g = (List.range i).filterMap g ++ (g i).toList := by
  rw [List.range_succ, List.filterMap_append]
  cases e : g i <;> simp [e]
theorem targG_at {W : List Nat} {i : Nat} (h : i < W.length) : targG (distOf W) i = if 0 < dAt W i then some (i - dAt W i) else none := by
  unfold targG
  rw [distOf_getD h]
theorem cl_isDist (T : Tx K mg) (c_is_sequence_distances : Cl P w K mg base 1 "is_sequence_distances" sp_isSeq) (c_is_integer_distances : Cl P w K mg base 1 "is_integer_distances" sp_isIntD) (A : At K mg "is_distances" "is_distances" "is_distances" s_is_distances []) : Cl P w K mg base 2 "is_distances" sp_isDist := by
  refine cl_of A sc_is_distances (fun _ _ _ _ _ _ us hl => match us, hl with | [_], _ => rfl) (fun vs H Q E h => ?_) (fun f cdv A outer s H vs Q E hr h => ?_)
  · obtain ⟨d, W, rfl, _⟩ := h
    rfl
  · obtain ⟨d, W, rfl, hd, hl, q⟩ := h
    refine ⟨_, (pss_cons (ps_if (PW.pt (pw_or (pt_not (pt_val (pcl c_is_sequence_distances (hr.mono (by decide)) rfl (pa_cons (pv 0) pa_nil)))) (pw_or1 (pt_cmpR op_gt (pe_callB call_len_seq rfl T.b_len (by decide +kernel) (pa_cons (pv 0) pa_nil)) (pk T.MAX_POSITIONS) (nomark _))))) (pss_one (ps_ret pe_bl)) pss_nil)
      (pss_cons (ps_if (pt_not (pt_val (pe_callB (cr_all rfl) rfl T.b_all (by decide +kernel) (pa_cons (pe_lc (own := [("position", 2), ("entry", 3)]) (g := gTup K 2 (gCons (gName 2) (gCons (gName 3) gNil))) (by rfl) sc_is_distances.nd (pi_enum rfl T.b_enumerate (pa_cons (pv 0) pa_nil)) (blkOk_by (own := [("position", 2), ("entry", 3)]) (N := N_is_distances) (sc := defScope s_is_distances) (by decide +kernel)) (fun _ _ _ _ _ => (pg_tup (by rfl) (pgs_cons (pg_name (i := 2) sc_is_distances.nd rfl (Or.inl rfl)) (pgs_cons (pg_name (i := 3) sc_is_distances.nd rfl (Or.inl rfl)) pgs_nil)))) (fun _ _ _ _ _ => pts_nil) (fun _ _ _ _ _ => (pcl c_is_integer_distances (hr.mono (by decide)) rfl (pa_cons (pv 3) (pa_cons pe_int (pa_cons (pv 2) pa_nil)))))) pa_nil)))) (pss_one (ps_ret pe_bl)) pss_nil)
      (pss_cons (ps_setLc (i := 1) (own := [("position", 2), ("entry", 3)]) (g := gTup K 2 (gCons (gName 2) (gCons (gName 3) gNil)))  (by rfl) sc_is_distances.nd rfl rfl (sw_true rfl rfl rfl (by decide +kernel)) (pi_enum rfl T.b_enumerate (pa_cons (pv 0) pa_nil)) (blkOk_by (own := [("position", 2), ("entry", 3)]) (N := N_is_distances) (sc := defScope s_is_distances) (by decide +kernel)) (fun _ _ _ _ _ => (pg_tup (by rfl) (pgs_cons (pg_name (i := 2) sc_is_distances.nd rfl (Or.inl rfl)) (pgs_cons (pg_name (i := 3) sc_is_distances.nd rfl (Or.inl rfl)) pgs_nil)))) (fun _ _ _ _ _ => (pts_one (pt_cmpR op_gt (pv 3) pe_int (nomark _)))) (fun _ _ _ _ _ => (pe_op op_sub (pv 2) (pv 3))))
      (pss_one (ps_ret (pe_cmpR op_eq (RZ.pe_lenSetI rfl T.b_len rfl T.b_set (pv 1)) (pe_callB call_len_seq rfl T.b_len (by decide +kernel) (pa_cons (pv 1) pa_nil)) (nomark _))))))), ?_⟩
    have hS : SqL K H d (nL (distOf W)) := Evl.sq_of hd
    have len : (nL (distOf W)).length = W.length := by rw [List.length_map, distOf_length]
    have geti : ∀ i x, (nL (distOf W))[i]? = some x → i < W.length ∧ x = nV (dAt W i) := fun i x hi => by
      have hi' := lt_of_get hi
      rw [len] at hi'
      rw [nL_get (distOf_get hi')] at hi
      exact ⟨hi', (Option.some.inj hi).symm⟩
    -- if not is_sequence(value) or len(value) > MAX_POSITIONS
    refine Go.here (go_skip (Evl.et_or (a := false) (Evl.et_is (Evl.et_not (Evl.et_B (ev_call (ea_cons (ev_var rfl) ea_nil) (v_isSeq (.l hd))))) rfl) fun _ => by walk_at "ev") (by rw [len]; simp; omega) ?_)
    -- if not all([..])
    refine go_skip (Evl.et_not (Evl.et_B (ev_cbK (tk_lcE (K := K) (by walk_at "ev") hS (by omega) (fun i acc _ => acc = (List.replicate i true).map V.bl) (fun _ _ _ _ _ h => h) (fun _ _ => rfl) (fun _ _ => rfl) (fun i x acc H' e hi hacc => ?_)) (z := .bl true) fun v H2 e r => ?_))) rfl ?_
    · obtain ⟨hi', rfl⟩ := geti i x hi
      have l := dAt_le W i
      refine ⟨true, fun H1 e1 Q' q' => q' H1 (Ex.refl H1), fun z => (nomatch z), fun _ => ⟨_, Tk.of (by walk_at "ev"), fun y H2 e2 r => ?_⟩⟩
      rw [r, hacc]
      show _ = (List.replicate (i + 1) true).map V.bl
      rw [List.replicate_succ', List.map_append]
      congr 3
      simp
      omega
    · obtain ⟨p, acc, rfl, hp, h2, rfl⟩ := r
      have ee : ((List.replicate (nL (distOf W)).length true).all id) = true := by simp
      rw [← ee]
      exact rc_all (Evl.sq_of h2)
    -- targets
    refine go_setP (tk_lcE (K := K) (by walk_at "ev") hS (by omega) (fun i acc _ => acc = ((List.range i).filterMap (targG (distOf W))).map nV) (fun _ _ _ _ _ h => h) (fun _ _ => rfl) (fun _ _ => rfl) (fun i x acc H' e hi hacc => ?_)) fun v H1 e1 r => ?_
    · obtain ⟨hi', rfl⟩ := geti i x hi
      have l := dAt_le W i
      refine ⟨decide (0 < dAt W i), ?_, fun hb => ?_, fun hb => ⟨_, Tk.of (by walk_at "ev"), fun y H2 e2 r => ?_⟩⟩
      · have hb : decide ((0 : Int) < ((dAt W i : Nat) : Int)) = decide (0 < dAt W i) := by rw [Bool.eq_iff_iff]; simp
        rw [← hb]
        walk_at "ev"
      · have hb := of_decide_eq_false hb
        dsimp only
        rw [fm_succ, targG_at hi', if_neg hb, hacc]
        simp
      · have hb := of_decide_eq_true hb
        dsimp only
        rw [fm_succ, targG_at hi', if_pos hb, hacc, r, List.map_append]
        congr 3
        omega
    · obtain ⟨p, acc, rfl, hp, h2, rfl⟩ := r
      rw [len] at h2
      have h2 : H1 p = some (.lst (((targets (distOf W)).map (fun n : Nat => (n : Int))).map V.int)) := by
        rw [h2, List.map_map]
        unfold targets
        rw [distOf_length]
        rfl
      have nd : ((targets (distOf W)).map (fun n : Nat => (n : Int))).Nodup := List.Pairwise.map _ (fun a b hab e => hab (by omega)) (targets_nodup W)
      have l64 : ((targets (distOf W)).map (fun n : Nat => (n : Int))).length < 64 := by
        rw [List.length_map]
        have := List.length_filterMap_le (targG (distOf W)) (List.range (distOf W).length)
        rw [List.length_range, distOf_length] at this
        unfold targets
        rw [distOf_length]
        omega
      refine go_ret (v := .bl true) (Evl.ev_is (ev_op (rv_len (Evl.sq_of h2) l64 nd (ev_var rfl)) (by walk_at "ev") (by walk_at "ev")) ?_) fun H3 e3 => q H3 (e1.trans e3)
      simp
end
end Hfb
namespace Hfb
open PySem PySem.Spec PyProof.Rows L2
open Evl (Ex Ev EvT EvA EvL EvU ev_op ev_var ev_c ev_call ea_cons ea_nil)
section
variable {P : Program} {w : World} {K : PySem.W.Frag} {mg : Str → Option Value} {base : Heap} {H : Hp}
local macro_rules | `(tactic| walk_at "spv") => `(tactic| first | exact v_isInt | exact v_isIntD | exact v_twoPos | exact v_isSeq (.t (by assumption)) | exact v_isSeq (.l (by assumption)) | exact v_isDist (by assumption) (by omega))
local macro_rules | `(tactic| walk_at "rv") => `(tactic| first
  | with_reducible exact Evl.rv_I0
  | ((with_reducible refine Evl.rv_eq ?_); rfl)
  | ((with_reducible refine Evl.rv_ne ?_); rfl)
  | ((with_reducible apply Evl.rv_ixT); (first | assumption | exact Evl.st_of (by assumption)); (first | rfl | assumption))
  | ((with_reducible apply Evl.rv_ixL); (first | assumption | exact Evl.sq_of (by assumption)); (first | rfl | assumption))
  | exact isi_int
  | exact isi_bool
  | exact isi_str
  | exact rc_max
  | exact rc_min
  | (apply rc_lenL; first | assumption | exact Evl.sq_of (by assumption))
  | (apply rc_lenT; first | assumption | exact Evl.st_of (by assumption))
  | walk_at "spv")
local macro_rules | `(tactic| walk_at "ev") => `(tactic| first
  | ((with_reducible apply Evl.ev_var); rfl)
  | with_reducible exact Evl.ev_c
  | with_reducible exact Evl.ea_nil
  | ((with_reducible apply Evl.ea_cons) <;> walk_at "ev")
  | ((with_reducible apply Evl.ev_op) <;> walk_at "ev")
  | ((with_reducible apply ev_chain) <;> walk_at "ev")
  | ((with_reducible apply Evl.ev_cb) <;> walk_at "ev")
  | ((with_reducible apply Evl.ev_call) <;> walk_at "ev")
  | ((with_reducible apply Evl.ev_notV) <;> walk_at "ev")
  | ((with_reducible apply ev_andU) <;> walk_at "ev")
  | ((with_reducible apply ev_orU) <;> walk_at "ev")
  | ((with_reducible apply Evl.et_B) <;> walk_at "ev")
  | ((with_reducible apply Evl.et_test) <;> walk_at "ev")
  | ((with_reducible apply Evl.et_not) <;> walk_at "ev")
  | ((with_reducible apply et_andU) <;> walk_at "ev")
  | ((with_reducible apply et_orU) <;> walk_at "ev")
  | walk_at "rv")
/-! ### facts in the heap -/
abbrev sSame : V := .str "same"
abbrev sDiff : V := .str "different"
abbrev sEqv : V := .str "equivalent"
abbrev sWin : V := .str "window"
def FactAt (H : Hp) (v : V) : Fact → Prop
  | .same i j => ∃ a, v = .ref a ∧ H a = some (.tup [sSame, nV i, nV j])
  | .diff i j => ∃ a, v = .ref a ∧ H a = some (.tup [sDiff, nV i, nV j])
  | .eqv i j l => ∃ a, v = .ref a ∧ H a = some (.tup [sEqv, nV i, nV j, nV l])
  | .win i W => ∃ a d, v = .ref a ∧ H a = some (.tup [sWin, nV i, .ref d]) ∧ H d = some (.lst (nL (distOf W)))
theorem FactAt.mono {H H' : Hp} {v : V} {f : Fact} (e : Ex H H') (h : FactAt H v f) : FactAt H' v f := by
  cases f with
  | same i j => obtain ⟨a, h1, h2⟩ := h; exact ⟨a, h1, e _ _ h2⟩
  | diff i j => obtain ⟨a, h1, h2⟩ := h; exact ⟨a, h1, e _ _ h2⟩
  | eqv i j l => obtain ⟨a, h1, h2⟩ := h; exact ⟨a, h1, e _ _ h2⟩
  | win i W => obtain ⟨a, d, h1, h2, h3⟩ := h; exact ⟨a, d, h1, e _ _ h2, e _ _ h3⟩
def FactsAt (H : Hp) (l : Addr) (fs : List Fact) : Prop := ∃ vs, H l = some (.lst vs) ∧ vs.length = fs.length ∧ ∀ (i : Nat) v f, vs[i]? = some v → fs[i]? = some f → FactAt H v f
theorem FactsAt.mono {H H' : Hp} {l : Addr} {fs : List Fact} (e : Ex H H') (h : FactsAt H l fs) : FactsAt H' l fs := by
  obtain ⟨vs, h1, h2, h3⟩ := h
  exact ⟨vs, e _ _ h1, h2, fun i v f a b => (h3 i v f a b).mono e⟩
theorem get_some {α : Type} {xs : List α} {i : Nat} (h : i < xs.length) : ∃ x, xs[i]? = some x := ⟨xs[i], List.getElem?_eq_getElem h⟩
def sp_isFact : Sp := fun vs H Q _ => ∃ (n : Nat) (v : V) (f : Fact), vs = [nV n, v] ∧ n ≤ 60 ∧ FactAt H v f ∧ f.Ok n ∧ ∀ H', Ex H H' → Q (.bl true) H'
theorem v_isFact {n : Nat} {v : V} {f : Fact} (hn : n ≤ 60) (h : FactAt H v f) (ok : f.Ok n) : Evl.SpV sp_isFact [nV n, v] H (.bl true) := fun H1 e Q q E => ⟨n, v, f, rfl, hn, h.mono e, ok, q⟩
theorem cl_isFact (T : Tx K mg) (c_is_sequence_facts : Cl P w K mg base 1 "is_sequence_facts" sp_isSeq) (c_is_integer_facts : Cl P w K mg base 1 "is_integer_facts" sp_isInt) (c_are_two_positions : Cl P w K mg base 2 "are_two_positions" sp_twoPos)
    (c_is_distances : Cl P w K mg base 2 "is_distances" sp_isDist) (A : At K mg "is_fact_of" "is_fact_of" "is_fact_of" s_is_fact_of []) : Cl P w K mg base 3 "is_fact_of" sp_isFact := by
  refine cl_of A sc_is_fact_of (fun _ _ _ _ _ _ us hl => match us, hl with | [_, _], _ => rfl) (fun vs H Q E h => ?_) (fun f cdv A outer s H vs Q E hr h => ?_)
  · obtain ⟨n, v, f, rfl, _⟩ := h
    rfl
  · obtain ⟨n, v, f, rfl, hn, hf, ok, q⟩ := h
    refine ⟨_, (pss_cons (ps_if (PW.pt (pw_or (pt_not (pt_val (pcl c_is_sequence_facts (hr.mono (by decide)) rfl (pa_cons (pv 1) pa_nil)))) (pw_or (pt_cmpR op_lt (pe_callB call_len_seq rfl T.b_len (by decide +kernel) (pa_cons (pv 1) pa_nil)) pe_int (nomark _)) (pw_or1 (pt_not (pt_val (pe_callB call_isi rfl T.b_isinstance (by decide +kernel) (pa_cons (pe_ix ix_tup (pv 1) pe_int (fun _ _ => rfl)) (pa_cons (pe_bltn (v := .ty "str") rfl T.b_str (by decide +kernel) rfl) pa_nil))))))))) (pss_one (ps_ret pe_bl)) pss_nil)
      (pss_cons (ps_if (pt_cmpR op_in_seq (pe_ix ix_tup (pv 1) pe_int (fun _ _ => rfl)) (pe_tup (pa_cons (pk T.SAME) (pa_cons (pk T.DIFFERENT) pa_nil))) (by rfl)) (pss_one (ps_ret (pe_and (pe_cmpR op_eq (pe_callB call_len_seq rfl T.b_len (by decide +kernel) (pa_cons (pv 1) pa_nil)) pe_int (nomark _)) (pe_one (pcl c_are_two_positions (hr.mono (by decide)) rfl (pa_cons (pv 0) (pa_cons (pe_ix ix_tup (pv 1) pe_int (fun _ _ => rfl)) (pa_cons (pe_ix ix_tup (pv 1) pe_int (fun _ _ => rfl)) pa_nil)))))))) pss_nil)
      (pss_cons (ps_if (pt_cmpR op_eq (pe_ix ix_tup (pv 1) pe_int (fun _ _ => rfl)) (pk T.EQUIVALENT) (nomark _)) (pss_cons (ps_if (PW.pt (pw_or (pt_cmpR op_ne (pe_callB call_len_seq rfl T.b_len (by decide +kernel) (pa_cons (pv 1) pa_nil)) pe_int (nomark _)) (pw_or1 (pt_not (pt_val (pcl c_are_two_positions (hr.mono (by decide)) rfl (pa_cons (pv 0) (pa_cons (pe_ix ix_tup (pv 1) pe_int (fun _ _ => rfl)) (pa_cons (pe_ix ix_tup (pv 1) pe_int (fun _ _ => rfl)) pa_nil))))))))) (pss_one (ps_ret pe_bl)) pss_nil)
        (pss_one (ps_ret (pcl c_is_integer_facts (hr.mono (by decide)) rfl (pa_cons (pe_ix ix_tup (pv 1) pe_int (fun _ _ => rfl)) (pa_cons pe_int (pa_cons (pe_op op_sub (pv 0) (pe_callB (call_max2 rfl) rfl T.b_max (by decide +kernel) (pa_cons (pe_ix ix_tup (pv 1) pe_int (fun _ _ => rfl)) (pa_cons (pe_ix ix_tup (pv 1) pe_int (fun _ _ => rfl)) pa_nil)))) pa_nil))))))) pss_nil)
      (pss_cons (ps_if (PW.pt (pw_or (pt_cmpR op_ne (pe_ix ix_tup (pv 1) pe_int (fun _ _ => rfl)) (pk T.WINDOW) (nomark _)) (pw_or (pt_cmpR op_ne (pe_callB call_len_seq rfl T.b_len (by decide +kernel) (pa_cons (pv 1) pa_nil)) pe_int (nomark _)) (pw_or1 (pt_not (pt_val (pcl c_is_integer_facts (hr.mono (by decide)) rfl (pa_cons (pe_ix ix_tup (pv 1) pe_int (fun _ _ => rfl)) (pa_cons pe_int (pa_cons (pe_op op_sub (pv 0) pe_int) pa_nil)))))))))) (pss_one (ps_ret pe_bl)) pss_nil)
      (pss_one (ps_ret (pe_and (pcl c_is_distances (hr.mono (by decide)) rfl (pa_cons (pe_ix ix_tup (pv 1) pe_int (fun _ _ => rfl)) pa_nil)) (pe_one (pe_chain op_le op_le pe_int (pe_callB call_len_seq rfl T.b_len (by decide +kernel) (pa_cons (pe_ix ix_tup (pv 1) pe_int (fun _ _ => rfl)) pa_nil)) (pe_op op_sub (pv 0) (pe_ix ix_tup (pv 1) pe_int (fun _ _ => rfl)))))))))))), ?_⟩
    have two : ∀ {i j : Nat}, i < n → j < n → i ≠ j → decide ((0 : Int) ≤ i ∧ (i : Int) < n ∧ (0 : Int) ≤ j ∧ (j : Int) < n ∧ (i : Int) ≠ j) = true := fun h1 h2 h3 => decide_eq_true (by omega)
    cases f with
    | same i j =>
      obtain ⟨a, rfl, ha⟩ := hf
      obtain ⟨o1, o2, o3⟩ := ok
      refine Go.here (go_skip (by walk_at "ev") (by rfl) (go_take (Evl.et_test (Evl.ev_inU (by walk_at "ev") (Evl.eu_tup (by walk_at "ev") (by simp)) rfl rfl)) (by decide +kernel) (go_ret (Evl.ev_is (by walk_at "ev") ?_) q)))
      rw [two o1 o2 o3]
      rfl
    | diff i j =>
      obtain ⟨a, rfl, ha⟩ := hf
      obtain ⟨o1, o2, o3⟩ := ok
      refine Go.here (go_skip (by walk_at "ev") (by rfl) (go_take (Evl.et_test (Evl.ev_inU (by walk_at "ev") (Evl.eu_tup (by walk_at "ev") (by simp)) rfl rfl)) (by decide +kernel) (go_ret (Evl.ev_is (by walk_at "ev") ?_) q)))
      rw [two o1 o2 o3]
      rfl
    | eqv i j l =>
      obtain ⟨a, rfl, ha⟩ := hf
      obtain ⟨o1, o2, o3, o4, o5, o6⟩ := ok
      refine Go.here (go_skip (by walk_at "ev") (by rfl) (go_skip (Evl.et_test (Evl.ev_inU (by walk_at "ev") (Evl.eu_tup (by walk_at "ev") (by simp)) rfl rfl)) (by decide +kernel) (go_take (by walk_at "ev") (by decide +kernel) (go_skip (by walk_at "ev") (by rw [two o1 o2 o3]; rfl) (go_ret (Evl.ev_is (by walk_at "ev") ?_) q)))))
      congr 1
      simp
      omega
    | win i W =>
      obtain ⟨a, d, rfl, ha, hd⟩ := hf
      obtain ⟨o1, o2⟩ := ok
      have hW : W.length ≤ 60 := by omega
      have ld : (nL (distOf W)).length = W.length := by rw [List.length_map, distOf_length]
      refine Go.here (go_skip (by walk_at "ev") (by rfl) (go_skip (Evl.et_test (Evl.ev_inU (by walk_at "ev") (Evl.eu_tup (by walk_at "ev") (by simp)) rfl rfl)) (by decide +kernel) (go_skip (by walk_at "ev") (by decide +kernel) (go_skip (by walk_at "ev") ?_ (go_ret (Evl.ev_is (by walk_at "ev") ?_) q)))))
      · have z : (decide ((0 : Int) ≤ (i : Nat)) && decide (((i : Nat) : Int) ≤ (n : Nat) - 1)) = true := by simp; omega
        rw [z]
        rfl
      · congr 1
        rw [ld]
        simp
        omega
end
end Hfb
namespace Hfb
open PySem PySem.Spec PyProof.Rows L2
open Evl (Ex Ev EvT EvA EvL EvU ev_op ev_var ev_c ev_call ea_cons ea_nil)
section
variable {P : Program} {w : World} {K : PySem.W.Frag} {mg : Str → Option Value} {base : Heap} {H : Hp}
local macro_rules | `(tactic| walk_at "spv") => `(tactic| first | exact v_isInt | exact v_isIntD | exact v_twoPos | exact v_isSeq (.t (by assumption)) | exact v_isSeq (.l (by assumption)) | exact v_isDist (by assumption) (by omega))
local macro_rules | `(tactic| walk_at "rv") => `(tactic| first
  | with_reducible exact Evl.rv_I0
  | ((with_reducible refine Evl.rv_eq ?_); rfl)
  | ((with_reducible refine Evl.rv_ne ?_); rfl)
  | ((with_reducible apply Evl.rv_ixT); (first | assumption | exact Evl.st_of (by assumption)); (first | rfl | assumption))
  | ((with_reducible apply Evl.rv_ixL); (first | assumption | exact Evl.sq_of (by assumption)); (first | rfl | assumption))
  | exact isi_int
  | exact isi_bool
  | exact isi_str
  | exact rc_max
  | exact rc_min
  | (apply rc_lenL; first | assumption | exact Evl.sq_of (by assumption))
  | (apply rc_lenT; first | assumption | exact Evl.st_of (by assumption))
  | walk_at "spv")
local macro_rules | `(tactic| walk_at "ev") => `(tactic| first
  | ((with_reducible apply Evl.ev_var); rfl)
  | with_reducible exact Evl.ev_c
  | with_reducible exact Evl.ea_nil
  | ((with_reducible apply Evl.ea_cons) <;> walk_at "ev")
  | ((with_reducible apply Evl.ev_op) <;> walk_at "ev")
  | ((with_reducible apply ev_chain) <;> walk_at "ev")
  | ((with_reducible apply Evl.ev_cb) <;> walk_at "ev")
  | ((with_reducible apply Evl.ev_call) <;> walk_at "ev")
  | ((with_reducible apply Evl.ev_notV) <;> walk_at "ev")
  | ((with_reducible apply ev_andU) <;> walk_at "ev")
  | ((with_reducible apply ev_orU) <;> walk_at "ev")
  | ((with_reducible apply Evl.et_B) <;> walk_at "ev")
  | ((with_reducible apply Evl.et_test) <;> walk_at "ev")
  | ((with_reducible apply Evl.et_not) <;> walk_at "ev")
  | ((with_reducible apply et_andU) <;> walk_at "ev")
  | ((with_reducible apply et_orU) <;> walk_at "ev")
  | walk_at "rv")
def sp_checked : Sp := fun vs H Q _ => ∃ (n : Nat) (l : Addr) (fs : List Fact), vs = [nV n, .ref l] ∧ 1 ≤ n ∧ n ≤ 60 ∧ FactsAt H l fs ∧ fs.length ≤ 40 ∧ (∀ f ∈ fs, f.Ok n) ∧
  ∀ p H', Ex H H' → H p = none → FactsAt H' p fs → Q (.ref p) H'
abbrev NewF (H : Hp) (fs : List Fact) (v : V) (H' : Hp) : Prop := ∃ p, v = .ref p ∧ H p = none ∧ FactsAt H' p fs
theorem v_checked {n : Nat} {l : Addr} {fs : List Fact} (h1 : 1 ≤ n) (h2 : n ≤ 60) (hf : FactsAt H l fs) (h40 : fs.length ≤ 40) (ok : ∀ f ∈ fs, f.Ok n) : SpK sp_checked [nV n, .ref l] H (NewF H fs) :=
  fun H1 e Q q E => ⟨n, l, fs, rfl, h1, h2, hf.mono e, h40, ok, fun p H' e2 hp h => q _ H' e2 ⟨p, rfl, Evl.fresh_back e hp, h⟩⟩
theorem tk_list {σ : L2.St} {ta : TE} {p : Addr} {xs : List V} (ha : Ev ta σ H (.ref p)) (h : SqL K H p xs) :
    Tk (tCB (fun xs H Q => ∃ p ys, xs = [.ref p] ∧ (SqL K H p ys ∨ SqT K H p ys) ∧ ∀ l, H l = none → Q (.ref l) (upd H l (.lst ys))) (tCons ta tNil)) σ H (fun v H2 => ∃ p, v = .ref p ∧ H p = none ∧ H2 p = some (.lst xs)) := fun H1 e Q q =>
  ha H1 e _ fun H2 e2 => ⟨p, xs, rfl, .inl (Evl.ex_l (e.trans e2) h), fun l hl => q _ _ (e2.trans (Ex.new hl)) ⟨l, rfl, Evl.fresh_back (e.trans e2) hl, upd_same⟩⟩
theorem cl_checked (T : Tx K mg) (c_check_size : Cl P w K mg base 2 "check_size" sp_checkSize) (c_is_sequence_facts : Cl P w K mg base 1 "is_sequence_facts" sp_isSeq) (c_is_fact_of : Cl P w K mg base 3 "is_fact_of" sp_isFact)
    (A : At K mg "checked_facts" "checked_facts" "checked_facts" s_checked_facts []) : Cl P w K mg base 4 "checked_facts" sp_checked := by
  refine cl_of A sc_checked_facts (fun _ _ _ _ _ _ us hl => match us, hl with | [_, _], _ => rfl) (fun vs H Q E h => ?_) (fun f cdv A outer s H vs Q E hr h => ?_)
  · obtain ⟨n, l, fs, rfl, _⟩ := h
    rfl
  · obtain ⟨n, l, fs, rfl, h1, h2, hf, h40, ok, q⟩ := h
    refine ⟨_, (pss_cons (ps_expr (pcl c_check_size (hr.mono (by decide)) rfl (pa_cons (pv 0) pa_nil)))
      (pss_cons (ps_if (PW.pt (pw_or (pt_not (pt_val (pcl c_is_sequence_facts (hr.mono (by decide)) rfl (pa_cons (pv 1) pa_nil)))) (pw_or1 (pt_cmpR op_gt (pe_callB call_len_seq rfl T.b_len (by decide +kernel) (pa_cons (pv 1) pa_nil)) (pk T.MAX_FACTS) (nomark _))))) (pss_one ps_never) pss_nil)
      (pss_cons (ps_if (pt_not (pt_val (pe_callB (cr_all rfl) rfl T.b_all (by decide +kernel) (pa_cons (pe_lc (own := [("fact", 2)]) (g := gName 2) (by rfl) sc_checked_facts.nd (pi_list (pv 1)) (blkOk_by (own := [("fact", 2)]) (N := N_checked_facts) (sc := defScope s_checked_facts) (by decide +kernel)) (fun _ _ _ _ _ => (pg_name (i := 2) sc_checked_facts.nd rfl (Or.inl rfl))) (fun _ _ _ _ _ => pts_nil) (fun _ _ _ _ _ => (pcl c_is_fact_of (hr.mono (by decide)) rfl (pa_cons (pv 0) (pa_cons (pv 2) pa_nil))))) pa_nil)))) (pss_one ps_never) pss_nil)
      (pss_one (ps_ret (pe_callTy call_list_of rfl T.b_list (by decide +kernel) (pa_cons (pv 1) pa_nil))))))), ?_⟩
    obtain ⟨us, hl, hlen, hat⟩ := id hf
    refine Go.here (go_drop (v := .non) (ev_call (by walk_at "ev") (v_checkSize (n := (n : Int)) (by omega) (by omega))) ?_)
    refine go_skip (by walk_at "ev") (by rw [hlen]; simp; omega) ?_
    refine go_skip (Evl.et_not (Evl.et_B (ev_cbK (tk_lcL (K := K) (ev_var rfl) (Evl.sq_of hl) (by omega) (fun i acc _ => acc = (List.replicate i true).map V.bl) (fun _ _ _ _ _ h => h) (fun _ => rfl) (fun _ _ => rfl) (fun i x acc H' e hi hacc => ?_)) (z := .bl true) fun v H2 e r => ?_))) rfl ?_
    · obtain ⟨g, hg⟩ := get_some (xs := fs) (i := i) (by rw [← hlen]; exact lt_of_get hi)
      refine ⟨true, fun H1 e1 Q' q' => q' H1 (Ex.refl H1), fun z => (nomatch z), fun _ => ⟨_, Tk.of (ev_call (by walk_at "ev") (v_isFact h2 ((hat i x g hi hg).mono e) (ok g (List.mem_of_getElem? hg)))), fun y H2 e2 r => ?_⟩⟩
      rw [r, hacc]
      show _ = (List.replicate (i + 1) true).map V.bl
      rw [List.replicate_succ', List.map_append]
      rfl
    · obtain ⟨p, acc, rfl, hp, h2, rfl⟩ := r
      have ee : ((List.replicate us.length true).all id) = true := by simp
      rw [← ee]
      exact rc_all (Evl.sq_of h2)
    refine go_retP (tk_list (ev_var rfl) (Evl.sq_of hl)) fun v H1 e r => ?_
    obtain ⟨p, rfl, hp, h⟩ := r
    exact q p H1 e hp ⟨us, h, hlen, fun i v f a b => (hat i v f a b).mono e⟩

end
end Hfb
namespace Hfb
open PySem PySem.Spec PyProof.Rows L2
open Evl (Ex Ev EvT EvA EvL EvU ev_op ev_var ev_c ev_call ea_cons ea_nil)
section
variable {P : Program} {w : World} {K : PySem.W.Frag} {mg : Str → Option Value} {base : Heap} {H : Hp}
local macro_rules | `(tactic| walk_at "spv") => `(tactic| first | exact v_isInt | exact v_isIntD | exact v_twoPos | exact v_isSeq (.t (by assumption)) | exact v_isSeq (.l (by assumption)) | exact v_isDist (by assumption) (by omega))
local macro_rules | `(tactic| walk_at "rv") => `(tactic| first
  | with_reducible exact Evl.rv_I0
  | ((with_reducible refine Evl.rv_eq ?_); rfl)
  | ((with_reducible refine Evl.rv_ne ?_); rfl)
  | ((with_reducible apply Evl.rv_ixT); (first | assumption | exact Evl.st_of (by assumption)); (first | rfl | assumption))
  | ((with_reducible apply Evl.rv_ixL); (first | assumption | exact Evl.sq_of (by assumption)); (first | rfl | assumption))
  | exact isi_int
  | exact isi_bool
  | exact isi_str
  | exact rc_max
  | exact rc_min
  | (apply rc_lenL; first | assumption | exact Evl.sq_of (by assumption))
  | (apply rc_lenT; first | assumption | exact Evl.st_of (by assumption))
  | walk_at "spv")
local macro_rules | `(tactic| walk_at "ev") => `(tactic| first
  | ((with_reducible apply Evl.ev_var); rfl)
  | with_reducible exact Evl.ev_c
  | with_reducible exact Evl.ea_nil
  | ((with_reducible apply Evl.ea_cons) <;> walk_at "ev")
  | ((with_reducible apply Evl.ev_op) <;> walk_at "ev")
  | ((with_reducible apply ev_chain) <;> walk_at "ev")
  | ((with_reducible apply Evl.ev_cb) <;> walk_at "ev")
  | ((with_reducible apply Evl.ev_call) <;> walk_at "ev")
  | ((with_reducible apply Evl.ev_notV) <;> walk_at "ev")
  | ((with_reducible apply ev_andU) <;> walk_at "ev")
  | ((with_reducible apply ev_orU) <;> walk_at "ev")
  | ((with_reducible apply Evl.et_B) <;> walk_at "ev")
  | ((with_reducible apply Evl.et_test) <;> walk_at "ev")
  | ((with_reducible apply Evl.et_not) <;> walk_at "ev")
  | ((with_reducible apply et_andU) <;> walk_at "ev")
  | ((with_reducible apply et_orU) <;> walk_at "ev")
  | walk_at "rv")
/-! ### dicts by ints -/
theorem ev_get2 {σ : L2.St} {td ty tx : TE} {d : Addr} {kvs : List (Key × V)} {k : Int} {z : V} (hd : H d = some (.dK kvs)) (h1 : Ev td σ H (.ref d)) (h2 : Ev ty σ H (.int k)) (h3 : Ev tx σ H z) :
    Ev (tDGet2 td ty tx) σ H ((valV kvs (Sum.inl k)).getD z) := fun H1 e Q q =>
  h1 H1 e _ fun H2 e2 => ⟨d, rfl, .inl ⟨kvs, .inl (e2 _ _ (e _ _ hd))⟩, h2 H2 (e.trans e2) _ fun H3 e3 => h3 H3 ((e.trans e2).trans e3) _ fun H4 e4 =>
    ⟨_, DGet.k (k := Sum.inl k) (e4 _ _ (e3 _ _ (e2 _ _ (e _ _ hd)))), q H4 ((e2.trans e3).trans e4)⟩⟩
theorem s_dputK {D : Ends} {σ : L2.St} {td ty tv : TE} {d : Addr} {kvs : List (Key × V)} {k : Int} {v : V} (hd : H d = some (.dK kvs)) (h1 : Ev tv σ H v) (h2 : Ev td σ H (.ref d)) (h3 : Ev ty σ H (.int k)) (hz : kvs.length < 100000)
    (q : ∀ H1, Ex H H1 → D.nx σ (upd H1 d (.dK (putK kvs (Sum.inl k) v)))) : sDPut td ty tv D σ H := h1 H (Ex.refl H) _ fun H1 e1 => h2 H1 e1 _ fun H2 e2 => h3 H2 (e1.trans e2) _ fun H3 e3 =>
  ⟨d, _, rfl, DPut.k (k := Sum.inl k) (((e1.trans e2).trans e3) _ _ hd) (Evl.sz_lt hz), q H3 ((e1.trans e2).trans e3)⟩
theorem putK_len {κ : Type} [DecidableEq κ] (kvs : List (κ × V)) (k : κ) (v : V) : (putK kvs k v).length ≤ kvs.length + 1 := by
  unfold putK
  split
  · rw [List.length_map]; omega
  · rw [List.length_append, List.length_singleton]; omega
/-- a new list of such ints -/
abbrev NewN (H : Hp) (ns : List Nat) (v : V) (H' : Hp) : Prop := ∃ p, v = .ref p ∧ H p = none ∧ H' p = some (.lst (nL ns))

theorem tk_dnewK {σ : L2.St} : Tk tDNewK σ H (fun v H2 => ∃ p, v = .ref p ∧ H p = none ∧ H2 p = some (.dK [])) := fun H1 e Q q p hp => q _ _ (Ex.new hp) ⟨p, rfl, Evl.fresh_back e hp, upd_same⟩
theorem tk_dnewT {σ : L2.St} : Tk tDNewT σ H (fun v H2 => ∃ p, v = .ref p ∧ H p = none ∧ H2 p = some (.dT [])) := fun H1 e Q q p hp => q _ _ (Ex.new hp) ⟨p, rfl, Evl.fresh_back e hp, upd_same⟩
theorem q_forE {σ : L2.St} {a : Addr} {xs : List V} {ta : TA} {j0 j1 : Nat} {tu tz : TS} {D : Ends} (h : EvA ta σ H [.ref a]) (hx : SqL K H a xs) (Pv : Nat → L2.St → Hp → Prop) (h0 : ∀ H1, Ex H H1 → Pv 0 σ H1) (hl : ∀ i σ' H', i ≤ xs.length → Pv i σ' H' → SqL K H' a xs)
    (hs : ∀ i x σ' H' T, xs[i]? = some x → Pv i σ' H' → H' T = none → tu { D with nx := Pv (i + 1), ct := Pv (i + 1), bk := tz D } ((σ'.set j0 (some (nV i))).set j1 (some x)) (upd H' T (.tup [nV i, x]))) (hd : ∀ σ' H', Pv xs.length σ' H' → tz D σ' H') : tSeq (tFor (iEnum K ta) (g2 K j0 j1) tu) tz D σ H :=
  s_forE (D := { D with nx := tz D }) h hx Pv h0 hl hs hd

/-! ### distances_by, linked_offsets, representatives -/
def sp_distBy : Sp := fun vs H Q _ => ∃ (a : Addr) (M : List Nat), vs = [.ref a] ∧ H a = some (.lst (nL M)) ∧ M.length ≤ 1000 ∧ ∀ p H', Ex H H' → H p = none → H' p = some (.lst (nL (distOf M))) → Q (.ref p) H'
theorem v_distBy {a : Addr} {M : List Nat} (h : H a = some (.lst (nL M))) (hl : M.length ≤ 1000) : SpK sp_distBy [.ref a] H (NewN H (distOf M)) := fun H1 e Q q E =>
  ⟨a, M, rfl, e _ _ h, hl, fun p H' e2 hp h2 => q _ H' e2 ⟨p, rfl, Evl.fresh_back e hp, h2⟩⟩
theorem take_snoc {α : Type} {xs : List α} {i : Nat} {x : α} (h : xs[i]? = some x) : xs.take (i + 1) = xs.take i ++ [x] := by
  rw [List.take_add_one, h]
  rfl
theorem cl_distBy (T : Tx K mg) (A : At K mg "distances_by" "distances_by" "distances_by" s_distances_by []) : Cl P w K mg base 1 "distances_by" sp_distBy := by
  refine cl_of A sc_distances_by (fun _ _ _ _ _ _ us hl => match us, hl with | [_], _ => rfl) (fun vs H Q E h => ?_) (fun f cdv A outer s H vs Q E hr h => ?_)
  · obtain ⟨a, M, rfl, _⟩ := h
    rfl
  · obtain ⟨a, M, rfl, hM, hlen, q⟩ := h
    refine ⟨_, (pss_cons (ps_set (i := 1) sc_distances_by.nd rfl (Or.inl rfl) pe_dnewK)
      (pss_cons (ps_set (i := 2) sc_distances_by.nd rfl (Or.inl rfl) (pe_lst pa_nil))
      (pss_cons (ps_for PassesOwn.never rfl (pi_enum rfl T.b_enumerate (pa_cons (pv 0) pa_nil)) (pg_tup rfl (pgs_cons (pg_name (i := 3) sc_distances_by.nd rfl (Or.inl rfl)) (pgs_cons (pg_name (i := 4) sc_distances_by.nd rfl (Or.inl rfl)) pgs_nil)))
          (pss_cons (ps_expr (pe_bm PySem.F.plainAttrs_list PySem.F.slot_list_append PySem.F.type_list_append mt_append (pv 2) (pa_cons (pe_op op_sub (pv 3) (pe_dget2 (hu_of hr) (pv 1) (pv 4) (pv 3) ⟨rfl, rfl, rfl, rfl⟩)) pa_nil)))
          (pss_one (ps_dput (hu_of hr) (pv 1) (pv 4) (pv 3) rfl))))
      (pss_one (ps_ret (pv 2)))))), ?_⟩
    refine Go.here (go_setP tk_dnewK fun v1 G1 g1 r1 => ?_)
    obtain ⟨d, rfl, hd, hd1⟩ := r1
    refine go_setP (tk_lst ea_nil (by simp)) fun v2 G2 g2' r2 => ?_
    obtain ⟨l, rfl, hl, hl1⟩ := r2
    have hl0 : H l = none := Evl.fresh_back g1 hl
    have hdl : d ≠ l := ne_of_none hd1 hl
    have hd2 := g2' _ _ hd1
    have hML : ∀ H' : Hp, Ex H H' → SqL K H' a (nL M) := fun H' e => Evl.sq_of (e _ _ hM)
    have e0 : Ex H G2 := g1.trans g2'
    intro G3 g3
    refine q_forE (K := K) (xs := nL M) (a := a) (by walk_at "ev") (hML _ (e0.trans g3)) (fun i σ' H' => ∃ y3 y4 kvs, σ' = [some (.ref a), some (.ref d), some (.ref l), y3, y4] ∧ Ex H H' ∧ H' d = some (.dK kvs) ∧ kvs.length ≤ i ∧
        (∀ x : Nat, valV kvs (Sum.inl (x : Int)) = (prevEq M x i).map nV) ∧ H' l = some (.lst (nL ((distOf M).take i)))) (fun H1 e1 => ⟨none, none, [], rfl, (e0.trans g3).trans e1, e1 _ _ (g3 _ _ hd2), Nat.le_refl _, fun _ => rfl, e1 _ _ (g3 _ _ hl1)⟩) (fun i σ' H' _ p => ?_) (fun i x σ' H' T' hi p hT => ?_) (fun σ' H' p => ?_)
    · obtain ⟨_, _, _, _, e, _⟩ := p
      exact hML _ e
    · obtain ⟨y3, y4, kvs, rfl, e, hd', hk, hv, hl'⟩ := p
      obtain ⟨m, hm, rfl⟩ := nL_get_of hi
      have him := lt_of_get hm
      have nTd : d ≠ T' := ne_of_none hd' hT
      have nTl : l ≠ T' := ne_of_none hl' hT
      have eT : Ex H (upd H' T' (.tup [nV i, nV m])) := e.trans (Ex.new hT)
      have hl2 : (upd H' T' (.tup [nV i, nV m])) l = some (.lst (nL ((distOf M).take i))) := by rw [upd_ne nTl]; exact hl'
      have hd2 : (upd H' T' (.tup [nV i, nV m])) d = some (.dK kvs) := by rw [upd_ne nTd]; exact hd'
      have eM : M.getD i 0 = m := by rw [List.getD_eq_getElem?_getD, hm]; rfl
      -- the element: position - last_at.get(symbol, position)
      have el : ∃ o : Nat, (valV kvs (Sum.inl (m : Int))).getD (nV i) = nV o ∧ (i : Int) - (o : Int) = ((dAt M i : Nat) : Int) := by
        rw [hv m]
        unfold dAt
        rw [eM]
        cases hp : prevEq M m i with
        | none => exact ⟨i, rfl, by simp⟩
        | some r =>
          have := (prevEq_some hp).1
          exact ⟨r, rfl, by show (i : Int) - (r : Int) = ((i - r : Nat) : Int); omega⟩
      obtain ⟨o, ho1, ho2⟩ := el
      refine Evl.q_app (K := K) hl2 (by walk_at "ev") (Evl.ev_is (ev_op (by walk_at "ev") (Evl.ev_is (ev_get2 hd2 (by walk_at "ev") (by walk_at "ev") (by walk_at "ev")) ho1) Evl.rv_I0) rfl) (by rw [List.length_map]; have := List.length_take_le i (distOf M); have := distOf_length M; rw [List.length_take]; omega) fun H1 e1 => ?_
      have nld : d ≠ l := hdl
      refine s_dputK (k := (m : Int)) (v := nV i) (d := d) (kvs := kvs) (by rw [upd_ne nld]; exact e1 _ _ hd2) (by walk_at "ev") (by walk_at "ev") (by walk_at "ev") (by omega) fun H2 e2 => ?_
      refine ⟨_, _, putK kvs (Sum.inl (m : Int)) (nV i), rfl, Ex.mut ((Ex.mut (eT.trans e1) hl0).trans e2) hd, upd_same, by have := putK_len kvs (Sum.inl (m : Int)) (nV i); omega, fun x => ?_, ?_⟩
      · rw [valV_put]
        by_cases hx : x = m
        · rw [if_pos (by rw [hx])]
          unfold prevEq
          rw [if_pos (by rw [hm, hx])]
          rfl
        · rw [if_neg (fun z => hx (by have := Sum.inl.inj z; omega)), hv x]
          show _ = (prevEq M x (i + 1)).map nV
          unfold prevEq
          rw [if_neg (fun z => hx (by rw [hm] at z; exact (Option.some.inj z).symm))]
          cases i <;> rfl
      · rw [upd_ne nld.symm]
        refine e2 _ _ ?_
        rw [upd_same, take_snoc (distOf_get him)]
        show some (HO.lst (nL ((distOf M).take i) ++ [V.int ((i : Int) - (o : Int))])) = some (HO.lst (nL ((distOf M).take i ++ [dAt M i])))
        rw [ho2]
        unfold nL
        rw [List.map_append]
        rfl
    · obtain ⟨y3, y4, kvs, rfl, e, hd', hk, hv, hl'⟩ := p
      rw [show (nL M).length = M.length from List.length_map _, List.take_of_length_le (by rw [distOf_length]; omega)] at hl'
      exact Go.here (go_ret (ev_var rfl) fun H1 e1 => q l H1 (e.trans e1) hl0 (e1 _ _ hl'))
end
end Hfb
namespace Hfb
open PySem PySem.Spec PyProof.Rows L2
open Evl (Ex Ev EvT EvA EvL EvU ev_op ev_var ev_c ev_call ea_cons ea_nil)
section
variable {P : Program} {w : World} {K : PySem.W.Frag} {mg : Str → Option Value} {base : Heap} {H : Hp}
local macro_rules | `(tactic| walk_at "spv") => `(tactic| first | exact v_isInt | exact v_isIntD | exact v_twoPos | exact v_isSeq (.t (by assumption)) | exact v_isSeq (.l (by assumption)) | exact v_isDist (by assumption) (by omega))
local macro_rules | `(tactic| walk_at "rv") => `(tactic| first
  | with_reducible exact Evl.rv_I0
  | ((with_reducible refine Evl.rv_eq ?_); rfl)
  | ((with_reducible refine Evl.rv_ne ?_); rfl)
  | ((with_reducible apply Evl.rv_ixT); (first | assumption | exact Evl.st_of (by assumption)); (first | rfl | assumption))
  | ((with_reducible apply Evl.rv_ixL); (first | assumption | exact Evl.sq_of (by assumption)); (first | rfl | assumption))
  | exact isi_int
  | exact isi_bool
  | exact isi_str
  | exact rc_max
  | exact rc_min
  | (apply rc_lenL; first | assumption | exact Evl.sq_of (by assumption))
  | (apply rc_lenT; first | assumption | exact Evl.st_of (by assumption))
  | walk_at "spv")
local macro_rules | `(tactic| walk_at "ev") => `(tactic| first
  | ((with_reducible apply Evl.ev_var); rfl)
  | with_reducible exact Evl.ev_c
  | with_reducible exact Evl.ea_nil
  | ((with_reducible apply Evl.ea_cons) <;> walk_at "ev")
  | ((with_reducible apply Evl.ev_op) <;> walk_at "ev")
  | ((with_reducible apply ev_chain) <;> walk_at "ev")
  | ((with_reducible apply Evl.ev_cb) <;> walk_at "ev")
  | ((with_reducible apply Evl.ev_call) <;> walk_at "ev")
  | ((with_reducible apply Evl.ev_notV) <;> walk_at "ev")
  | ((with_reducible apply ev_andU) <;> walk_at "ev")
  | ((with_reducible apply ev_orU) <;> walk_at "ev")
  | ((with_reducible apply Evl.et_B) <;> walk_at "ev")
  | ((with_reducible apply Evl.et_test) <;> walk_at "ev")
  | ((with_reducible apply Evl.et_not) <;> walk_at "ev")
  | ((with_reducible apply et_andU) <;> walk_at "ev")
  | ((with_reducible apply et_orU) <;> walk_at "ev")
  | walk_at "rv")
/-! ### pairs of places -/
def PairAt (H : Hp) (v : V) (xy : Nat × Nat) : Prop := ∃ a, v = .ref a ∧ H a = some (.tup [nV xy.1, nV xy.2])
def PairsAt (H : Hp) (vs : List V) (ps : List (Nat × Nat)) : Prop := vs.length = ps.length ∧ ∀ (i : Nat) v xy, vs[i]? = some v → ps[i]? = some xy → PairAt H v xy
theorem PairAt.te {H H' : Hp} {v : V} {xy : Nat × Nat} (e : TEx H H') (h : PairAt H v xy) : PairAt H' v xy := by
  obtain ⟨a, h1, h2⟩ := h
  exact ⟨a, h1, e _ _ h2⟩
theorem PairsAt.te {H H' : Hp} {vs : List V} {ps : List (Nat × Nat)} (e : TEx H H') (h : PairsAt H vs ps) : PairsAt H' vs ps := ⟨h.1, fun i v xy a b => (h.2 i v xy a b).te e⟩
theorem PairsAt.nil {H : Hp} : PairsAt H [] [] := ⟨rfl, fun i v xy h => by simp at h⟩
theorem PairsAt.snoc {H : Hp} {vs : List V} {ps : List (Nat × Nat)} {v : V} {xy : Nat × Nat} (h : PairsAt H vs ps) (h1 : PairAt H v xy) : PairsAt H (vs ++ [v]) (ps ++ [xy]) := by
  refine ⟨by rw [List.length_append, List.length_append, h.1]; rfl, fun i u z a b => ?_⟩
  by_cases hi : i < vs.length
  · rw [List.getElem?_append_left hi] at a
    rw [List.getElem?_append_left (by rw [← h.1]; exact hi)] at b
    exact h.2 i u z a b
  · have e1 := lt_of_get a
    rw [List.length_append, List.length_singleton] at e1
    have e2 : i = vs.length := by omega
    subst e2
    rw [List.getElem?_append_right (Nat.le_refl _), Nat.sub_self] at a
    rw [List.getElem?_append_right (by rw [h.1]; exact Nat.le_refl _), h.1, Nat.sub_self] at b
    cases a
    cases b
    exact h1
def sp_links : Sp := fun vs H Q _ => ∃ (d : Addr) (M : List Nat), vs = [.ref d] ∧ H d = some (.lst (nL (distOf M))) ∧ M.length ≤ 1000 ∧
  ∀ p us H', Ex H H' → H p = none → H' p = some (.lst us) → PairsAt H' us (linksD (distOf M)) → Q (.ref p) H'
abbrev NewP (H : Hp) (ps : List (Nat × Nat)) (v : V) (H' : Hp) : Prop := ∃ p us, v = .ref p ∧ H p = none ∧ H' p = some (.lst us) ∧ PairsAt H' us ps
theorem v_links {d : Addr} {M : List Nat} (h : H d = some (.lst (nL (distOf M)))) (hl : M.length ≤ 1000) : SpK sp_links [.ref d] H (NewP H (linksD (distOf M))) := fun H1 e Q q E =>
  ⟨d, M, rfl, e _ _ h, hl, fun p us H' e2 hp h2 h3 => q _ H' e2 ⟨p, us, rfl, Evl.fresh_back e hp, h2, h3⟩⟩
theorem linkG_at {W : List Nat} {i : Nat} (h : i < W.length) : linkG (distOf W) i = if 0 < dAt W i then some (i - dAt W i, i) else none := by
  unfold linkG
  rw [distOf_getD h]
theorem et_gt0 {σ : L2.St} {t : TE} {k : Nat} (h : Ev t σ H (nV k)) : EvT (tTest (tOp (rI0 fun i j => .bl (decide (j < i))) t (tC (.int 0)))) σ H (decide (0 < k)) := by
  have hb : decide ((0 : Int) < ((k : Nat) : Int)) = decide (0 < k) := by rw [Bool.eq_iff_iff]; simp
  rw [← hb]
  exact Evl.et_test (ev_op h ev_c Evl.rv_I0)
theorem dist_get {M : List Nat} {i : Nat} {x : V} (hi : (nL (distOf M))[i]? = some x) : i < M.length ∧ x = nV (dAt M i) := by
  have hi' := lt_of_get hi
  rw [List.length_map, distOf_length] at hi'
  rw [nL_get (distOf_get hi')] at hi
  exact ⟨hi', (Option.some.inj hi).symm⟩
theorem cl_links (T : Tx K mg) (A : At K mg "linked_offsets" "linked_offsets" "linked_offsets" s_linked_offsets []) : Cl P w K mg base 1 "linked_offsets" sp_links := by
  refine cl_of A sc_linked_offsets (fun _ _ _ _ _ _ us hl => match us, hl with | [_], _ => rfl) (fun vs H Q E h => ?_) (fun f cdv A outer s H vs Q E hr h => ?_)
  · obtain ⟨d, M, rfl, _⟩ := h
    rfl
  · obtain ⟨d, M, rfl, hd, hlen, q⟩ := h
    refine ⟨_, (pss_one (ps_ret (pe_lc (own := [("offset", 1), ("back", 2)]) (g := gTup K 2 (gCons (gName 1) (gCons (gName 2) gNil))) (by rfl) sc_linked_offsets.nd (pi_enum rfl T.b_enumerate (pa_cons (pv 0) pa_nil)) (blkOk_by (own := [("offset", 1), ("back", 2)]) (N := N_linked_offsets) (sc := defScope s_linked_offsets) (by decide +kernel)) (fun _ _ _ _ _ => (pg_tup (by rfl) (pgs_cons (pg_name (i := 1) sc_linked_offsets.nd rfl (Or.inl rfl)) (pgs_cons (pg_name (i := 2) sc_linked_offsets.nd rfl (Or.inl rfl)) pgs_nil)))) (fun _ _ _ _ _ => (pts_one (pt_cmpR op_gt (pv 2) pe_int (nomark _)))) (fun _ _ _ _ _ => (pe_tup (pa_cons (pe_op op_sub (pv 1) (pv 2)) (pa_cons (pv 1) pa_nil))))))), ?_⟩
    have len : (nL (distOf M)).length = M.length := by rw [List.length_map, distOf_length]
    refine Go.here (go_retP (tk_lcE (K := K) (by walk_at "ev") (Evl.sq_of hd) (by omega) (fun i acc H' => PairsAt H' acc ((List.range i).filterMap (linkG (distOf M)))) (fun _ _ _ _ e h => h.te e) (fun _ _ => rfl) (fun _ _ => PairsAt.nil) (fun i x acc H' e hi hacc => ?_)) fun v H1 e r => ?_)
    · obtain ⟨hi', rfl⟩ := dist_get hi
      have l := dAt_le M i
      refine ⟨decide (0 < dAt M i), et_gt0 (by walk_at "ev"), fun hb => ?_, fun hb => ⟨_, tk_tup (by walk_at "ev") (by simp), fun y H2 e2 r => ?_⟩⟩
      · have hb := of_decide_eq_false hb
        dsimp only
        rw [fm_succ, linkG_at hi', if_neg hb]
        simpa using hacc
      · have hb := of_decide_eq_true hb
        obtain ⟨p, rfl, hp, h2⟩ := r
        dsimp only
        rw [fm_succ, linkG_at hi', if_pos hb]
        refine (hacc.te (te_of e2)).snoc ⟨p, rfl, ?_⟩
        rw [h2]
        congr 4
        omega
    · obtain ⟨p, acc, rfl, hp, h2, h3⟩ := r
      rw [len, ← distOf_length M] at h3
      exact q p acc H1 e hp h2 h3
def sp_reps : Sp := fun vs H Q _ => ∃ (d : Addr) (M : List Nat), vs = [.ref d] ∧ H d = some (.lst (nL (distOf M))) ∧ M.length ≤ 1000 ∧
  ∀ p F H', Ex H H' → H p = none → Ker M F → H' p = some (.lst (nL F)) → Q (.ref p) H'
theorem v_reps {d : Addr} {M : List Nat} (h : H d = some (.lst (nL (distOf M)))) (hl : M.length ≤ 1000) : SpK sp_reps [.ref d] H (fun v H' => ∃ F p, v = .ref p ∧ Ker M F ∧ H p = none ∧ H' p = some (.lst (nL F))) := fun H1 e Q q E =>
  ⟨d, M, rfl, e _ _ h, hl, fun p F H' e2 hp hk h2 => q _ H' e2 ⟨F, p, rfl, hk, Evl.fresh_back e hp, h2⟩⟩
theorem nL_atI {ns : List Nat} {k : Int} {n a : Nat} (h : ns[n]? = some a) (hk : k = (n : Int)) : atI (nL ns) k = some (nV a) := by
  rw [hk]
  exact atI_nat (nL_get h)
theorem cl_reps (T : Tx K mg) (A : At K mg "representatives" "representatives" "representatives" s_representatives []) : Cl P w K mg base 1 "representatives" sp_reps := by
  refine cl_of A sc_representatives (fun _ _ _ _ _ _ us hl => match us, hl with | [_], _ => rfl) (fun vs H Q E h => ?_) (fun f cdv A outer s H vs Q E hr h => ?_)
  · obtain ⟨d, M, rfl, _⟩ := h
    rfl
  · obtain ⟨d, M, rfl, hd, hlen, q⟩ := h
    refine ⟨_, (pss_cons (ps_set (i := 1) sc_representatives.nd rfl (Or.inl rfl) (pe_lst pa_nil))
      (pss_cons (ps_for PassesOwn.never rfl (pi_enum rfl T.b_enumerate (pa_cons (pv 0) pa_nil)) (pg_tup rfl (pgs_cons (pg_name (i := 2) sc_representatives.nd rfl (Or.inl rfl)) (pgs_cons (pg_name (i := 3) sc_representatives.nd rfl (Or.inl rfl)) pgs_nil)))
          (pss_one (ps_expr (pe_bm PySem.F.plainAttrs_list PySem.F.slot_list_append PySem.F.type_list_append mt_append (pv 1) (pa_cons (pe_ifExp (pt_cmpR op_eq (pv 3) pe_int (nomark _)) (pv 2) (pe_ix ix_list (pv 1) (pe_op op_sub (pv 2) (pv 3)) (fun _ _ => rfl))) pa_nil)))))
      (pss_one (ps_ret (pv 1))))), ?_⟩
    have len : (nL (distOf M)).length = M.length := by rw [List.length_map, distOf_length]
    refine Go.here (go_setP (tk_lst ea_nil (by simp)) fun v1 G1 g1 r1 => ?_)
    obtain ⟨l, rfl, hl, hl1⟩ := r1
    intro G2 g2
    refine q_forE (K := K) (a := d) (xs := nL (distOf M)) (by walk_at "ev") (Evl.sq_of (g2 _ _ (g1 _ _ hd))) (fun i σ' H' => ∃ y2 y3, σ' = [some (.ref d), some (.ref l), y2, y3] ∧ Ex H H' ∧ H' l = some (.lst (nL (fillF id (distOf M) i))))
      (fun H1 e1 => ⟨none, none, rfl, (g1.trans g2).trans e1, e1 _ _ (g2 _ _ hl1)⟩) (fun i σ' H' _ p => Evl.sq_of (by obtain ⟨_, _, _, e, _⟩ := p; exact e _ _ hd)) (fun i x σ' H' T' hi p hT => ?_) (fun σ' H' p => ?_)
    · obtain ⟨y2, y3, rfl, e, hl'⟩ := p
      obtain ⟨hi', rfl⟩ := dist_get hi
      have nTl : l ≠ T' := ne_of_none hl' hT
      have hl2 : (upd H' T' (.tup [nV i, nV (dAt M i)])) l = some (.lst (nL (fillF id (distOf M) i))) := by rw [upd_ne nTl]; exact hl'
      have len2 : (nL (fillF id (distOf M) i)).length = i := by rw [List.length_map, fillF_len]
      have li := dAt_le M i
      refine Evl.s_app (K := K) (v := nV (if (distOf M).getD i 0 = 0 then id i else (fillF id (distOf M) i).getD (i - (distOf M).getD i 0) 0)) hl2 (by walk_at "ev") ?_ (by rw [len2]; omega) fun H1 e1 => ?_
      · rw [distOf_getD hi']
        refine Evl.ev_if (b := decide (V.int ((dAt M i : Nat) : Int) = V.int 0)) (by walk_at "ev") (fun hb => ?_) (fun hb => ?_)
        · have hb : dAt M i = 0 := by have := V.int.inj (of_decide_eq_true hb); omega
          rw [if_pos hb]
          walk_at "ev"
        · have hb : ¬ dAt M i = 0 := fun z => of_decide_eq_false hb (by rw [z]; rfl)
          rw [if_neg hb]
          refine ev_op (by walk_at "ev") (by walk_at "ev") (Evl.rv_ixL (Evl.sq_of hl2) (nL_atI (n := i - dAt M i) ?_ (by omega)))
          exact get_of_lt (by rw [fillF_len]; omega)
      · refine ⟨_, _, rfl, Ex.mut ((e.trans (Ex.new hT)).trans e1) (Evl.fresh_back (Ex.refl H) hl), ?_⟩
        rw [upd_same]
        unfold fillF nL
        rw [List.map_append]
        cases i <;> rfl
    · obtain ⟨y2, y3, rfl, e, hl'⟩ := p
      rw [show (nL (distOf M)).length = (distOf M).length from List.length_map _] at hl'
      exact Go.here (go_ret (ev_var rfl) fun H1 e1 => q l _ H1 (e.trans e1) hl (reps_follows M).ker (e1 _ _ hl'))
end
end Hfb
namespace Hfb
open PySem PySem.Spec PyProof.Rows L2
open Evl (Ex Ev EvT EvA EvL EvU ev_op ev_var ev_c ev_call ea_cons ea_nil)
section
variable {P : Program} {w : World} {K : PySem.W.Frag} {mg : Str → Option Value} {base : Heap} {H : Hp}
local macro_rules | `(tactic| walk_at "spv") => `(tactic| first | exact v_isInt | exact v_isIntD | exact v_twoPos | exact v_isSeq (.t (by assumption)) | exact v_isSeq (.l (by assumption)) | exact v_isDist (by assumption) (by omega))
local macro_rules | `(tactic| walk_at "rv") => `(tactic| first
  | with_reducible exact Evl.rv_I0
  | ((with_reducible refine Evl.rv_eq ?_); rfl)
  | ((with_reducible refine Evl.rv_ne ?_); rfl)
  | ((with_reducible apply Evl.rv_ixT); (first | assumption | exact Evl.st_of (by assumption)); (first | rfl | assumption))
  | ((with_reducible apply Evl.rv_ixL); (first | assumption | exact Evl.sq_of (by assumption)); (first | rfl | assumption))
  | exact isi_int
  | exact isi_bool
  | exact isi_str
  | exact rc_max
  | exact rc_min
  | (apply rc_lenL; first | assumption | exact Evl.sq_of (by assumption))
  | (apply rc_lenT; first | assumption | exact Evl.st_of (by assumption))
  | walk_at "spv")
local macro_rules | `(tactic| walk_at "ev") => `(tactic| first
  | ((with_reducible apply Evl.ev_var); rfl)
  | with_reducible exact Evl.ev_c
  | with_reducible exact Evl.ea_nil
  | ((with_reducible apply Evl.ea_cons) <;> walk_at "ev")
  | ((with_reducible apply Evl.ev_op) <;> walk_at "ev")
  | ((with_reducible apply ev_chain) <;> walk_at "ev")
  | ((with_reducible apply Evl.ev_cb) <;> walk_at "ev")
  | ((with_reducible apply Evl.ev_call) <;> walk_at "ev")
  | ((with_reducible apply Evl.ev_notV) <;> walk_at "ev")
  | ((with_reducible apply ev_andU) <;> walk_at "ev")
  | ((with_reducible apply ev_orU) <;> walk_at "ev")
  | ((with_reducible apply Evl.et_B) <;> walk_at "ev")
  | ((with_reducible apply Evl.et_test) <;> walk_at "ev")
  | ((with_reducible apply Evl.et_not) <;> walk_at "ev")
  | ((with_reducible apply et_andU) <;> walk_at "ev")
  | ((with_reducible apply et_orU) <;> walk_at "ev")
  | walk_at "rv")
/-! ### the partition's object -/
def FrP (p : Addr) (H H' : Hp) : Prop := ∀ b o, b ≠ p → H b = some o → H' b = some o
theorem FrP.refl (p : Addr) (H : Hp) : FrP p H H := fun _ _ _ h => h
theorem FrP.trans {p : Addr} {H H1 H2 : Hp} (a : FrP p H H1) (b : FrP p H1 H2) : FrP p H H2 := fun x o n h => b x o n (a x o n h)
theorem FrP.of {p : Addr} {H H' : Hp} (e : Ex H H') : FrP p H H' := fun b o _ h => e b o h
theorem FrP.put {p : Addr} {H H' : Hp} {o : HO} (e : Ex H H') : FrP p H (upd H' p o) := fun b u n h => by rw [upd_ne n]; exact e b u h
theorem FrP.te {p C dx : Addr} {fs : List (Str × V)} {H H' : Hp} (f : FrP p H H') (h : H p = some (.ins C dx fs)) : TEx H H' := fun a xs q => f a _ (fun z => by rw [z, h] at q; cases q) q
abbrev pF (l : Addr) : List (Str × V) := [("leaders", .ref l)]
def PartAt (K : PySem.W.Frag) (H : Hp) (p : Addr) (L : List Nat) : Prop := ∃ dx l, H p = some (.ins (CP K) dx (pF l)) ∧ H l = some (.lst (nL L))
theorem PartAt.mono {H H' : Hp} {p : Addr} {L : List Nat} (e : Ex H H') (h : PartAt K H p L) : PartAt K H' p L := by
  obtain ⟨dx, l, h1, h2⟩ := h
  exact ⟨dx, l, e _ _ h1, e _ _ h2⟩
theorem ev_leaders {σ : L2.St} {ta : TE} {p dx l : Addr} (T : Tx K mg) (h : Ev ta σ H (.ref p)) (hp : H p = some (.ins (CP K) dx (pF l))) : Ev (tFld K ta "leaders") σ H (.ref l) := fun H1 e Q q =>
  h H1 e _ fun H2 e2 => ⟨p, CP K, dx, pF l, .ref l, rfl, e2 _ _ (e _ _ hp), T.cP, T.nP, by simp [pF], q H2 e2⟩
theorem q_fldL {σ : L2.St} {ta tv : TE} {tz : TS} {D : Ends} {p dx l : Addr} {R : V → Hp → Prop} (T : Tx K mg) (hv : Tk tv σ H R) (h : Ev ta σ H (.ref p)) (hp : H p = some (.ins (CP K) dx (pF l)))
    (k : ∀ v H1 H2 m, Ex H H1 → R v H1 → Ex H1 H2 → v = .ref m → tz D σ (upd H2 p (.ins (CP K) dx (pF m)))) (hr : ∀ v H1, R v H1 → ∃ m, v = .ref m) : tSeq (sFld K ta tv "leaders") tz D σ H :=
  hv H (Ex.refl H) _ fun v H1 e1 r => h H1 e1 _ fun H2 e2 => by
    obtain ⟨m, rfl⟩ := hr v H1 r
    refine ⟨p, CP K, dx, pF l, rfl, e2 _ _ (e1 _ _ hp), T.cP, T.nP, (by show 1 < 1000; decide), ?_⟩
    have ee : putF "leaders" (.ref m) (pF l) = pF m := by
      show (if ("leaders" : Str) = "leaders" then [(("leaders" : Str), V.ref m)] else _) = pF m
      rw [if_pos rfl]
    rw [ee]
    exact k _ H1 H2 m e1 r e2 rfl
/-! sorted of two -/
theorem perm_two {a b : Int} {ns : List Int} (h : ns.Perm [a, b]) (s : ns.Pairwise (· ≤ ·)) : ns = [min a b, max a b] := by
  have hl := h.length_eq
  match ns, hl with
  | [x, y], _ =>
    have hxy : x ≤ y := by
      rw [List.pairwise_cons] at s
      exact s.1 y (by simp)
    have h1 : a ∈ [x, y] := h.symm.subset (by simp)
    have h2 : b ∈ [x, y] := h.symm.subset (by simp)
    have h3 : x ∈ [a, b] := h.subset (by simp)
    have h4 : y ∈ [a, b] := h.subset (by simp)
    simp only [List.mem_cons, List.not_mem_nil, or_false] at h1 h2 h3 h4
    have e1 : x = min a b := by omega
    have e2 : y = max a b := by omega
    rw [e1, e2]
def RCK (r : List V → Hp → VK → Prop) (vs : List V) (H : Hp) (R : V → Hp → Prop) : Prop := ∀ H1, Ex H H1 → ∀ Q : VK, (∀ v H2, Ex H1 H2 → R v H2 → Q v H2) → r vs H1 Q
theorem tk_cbK {σ : L2.St} {te : TE} {r : List V → Hp → VK → Prop} {R R' : V → Hp → Prop} (h : Tk te σ H R) (hr : ∀ v H2, Ex H H2 → R v H2 → RCK r [v] H2 R') : Tk (tCB r (tCons te tNil)) σ H R' := fun H1 e Q q =>
  h H1 e _ fun v H2 e2 rr => hr v H2 (e.trans e2) rr H2 (Ex.refl H2) Q fun v H3 e3 r3 => q v H3 (e2.trans e3) r3
theorem rc_sorted2 {G : Hp} {l : Addr} {a b : Int} (h : H l = some (.lst [.int a, .int b])) (hG : Ex G H) : RCK (rSorted K) [.ref l] H (fun v H2 => ∃ p, v = .ref p ∧ G p = none ∧ H2 p = some (.lst [.int (min a b), .int (max a b)])) := fun H1 e Q q => by
  refine ⟨l, [a, b], rfl, Evl.sq_of (e _ _ h), by simp, fun ns p hp hs hn => ?_⟩
  rw [perm_two hp hs]
  exact q _ _ (Ex.new hn) ⟨p, rfl, Evl.fresh_back (hG.trans e) hn, upd_same⟩
theorem tk_sorted2 {σ : L2.St} {ta tb : TE} {a b : Int} (ha : Ev ta σ H (.int a)) (hb : Ev tb σ H (.int b)) :
    Tk (tCB (rSorted K) (tCons (tLst (tCons ta (tCons tb tNil))) tNil)) σ H (fun v H2 => ∃ p, v = .ref p ∧ H p = none ∧ H2 p = some (.lst [.int (min a b), .int (max a b)])) :=
  tk_cbK (tk_lst (ea_cons ha (ea_cons hb ea_nil)) (by simp)) fun v H2 e r => by
    obtain ⟨l, rfl, hl, h2⟩ := r
    exact rc_sorted2 h2 e
theorem go_unl2 {σ : L2.St} {te : TE} {tz : TS} {D : Ends} {i j : Nat} {x y : V} (h : Tk te σ H (fun v H2 => ∃ p, v = .ref p ∧ H p = none ∧ H2 p = some (.lst [x, y]))) (k : Go tz D ((σ.set i (some x)).set j (some y)) H) :
    Go (tSeq (tAsg te (gUnl K 2 (gCons (gName i) (gCons (gName j) gNil)))) tz) D σ H := fun H1 e => h H1 e _ fun v H2 e2 r => by
  obtain ⟨p, rfl, _, h2⟩ := r
  exact ⟨p, [x, y], rfl, Evl.sq_of h2, rfl, x, [y], rfl, y, [], rfl, rfl, k H2 (e.trans e2)⟩
local macro_rules | `(tactic| walk_at "spv") => `(tactic| (refine ev_leaders (by assumption) ?_ (by assumption); walk_at "ev"))

def sp_merge (K : PySem.W.Frag) : Sp := fun vs H Q _ => ∃ (p : Addr) (L : List Nat) (a b : Nat), vs = [.ref p, nV a, nV b] ∧ PartAt K H p L ∧ L.length ≤ 1000 ∧ a < L.length ∧ b < L.length ∧
  ∀ H', FrP p H H' → PartAt K H' p (mergeF L a b).1 → Q (.bl (mergeF L a b).2) H'
theorem nmin (a b : Nat) : min (a : Int) (b : Int) = ((min a b : Nat) : Int) := by omega
theorem nmax (a b : Nat) : max (a : Int) (b : Int) = ((max a b : Nat) : Int) := by omega
theorem mt_merge (T : Tx K mg) (A : AtM K (CP K) "merge" "Partition.merge" s_Partition_merge) : Mt P w K mg base 1 (CP K) "merge" (sp_merge K) := by
  refine mt_of A T.cP sc_Partition_merge (fun _ _ _ _ _ _ us hl => match us, hl with | [_, _, _], _ => rfl) (fun vs H Q E h => ?_) (fun f cdv A outer s H vs Q E hr h => ?_)
  · obtain ⟨p, L, a, b, rfl, _⟩ := h
    rfl
  · obtain ⟨p, L, a, b, rfl, ⟨dx, l, hp, hl⟩, hlen, ha, hb, q⟩ := h
    refine ⟨_, (pss_cons (ps_asg (pe_callB cr_sorted rfl T.b_sorted (by decide +kernel) (pa_cons (pe_lst (pa_cons (pe_ix ix_list (pe_fld (pv 0) rfl) (pv 1) (fun _ _ => rfl)) (pa_cons (pe_ix ix_list (pe_fld (pv 0) rfl) (pv 2) (fun _ _ => rfl)) pa_nil))) pa_nil)) (pg_unl rfl (pgs_cons (pg_name (i := 3) sc_Partition_merge.nd rfl (Or.inr rfl)) (pgs_cons (pg_name (i := 4) sc_Partition_merge.nd rfl (Or.inr rfl)) pgs_nil))))
      (pss_cons (ps_if (pt_cmpR op_eq (pv 3) (pv 4) (nomark _)) (pss_one (ps_ret pe_bl)) pss_nil)
      (pss_cons (ps_fld (pv 0) (pe_lc (own := [("leader", 5)]) (g := gName 5) (by rfl) sc_Partition_merge.nd (pi_list (pe_fld (pv 0) rfl)) (blkOk_by (own := [("leader", 5)]) (N := N_Partition_merge) (sc := defScope s_Partition_merge) (by decide +kernel)) (fun _ _ _ _ _ => (pg_name (i := 5) sc_Partition_merge.nd rfl (Or.inl rfl))) (fun _ _ _ _ _ => pts_nil) (fun _ _ _ _ _ => (pe_ifExp (pt_cmpR op_eq (pv 5) (pv 4) (nomark _)) (pv 3) (pv 5)))) rfl)
      (pss_one (ps_ret pe_bl))))), ?_⟩
    have la := nL_get (get_of_lt ha)
    have lb := nL_get (get_of_lt hb)
    have hS : SqL K H l (nL L) := Evl.sq_of hl
    refine Go.here (go_unl2 (tk_sorted2 (a := ((L.getD a 0 : Nat) : Int)) (b := ((L.getD b 0 : Nat) : Int)) (ev_op (ev_leaders T (ev_var rfl) hp) (ev_var rfl) (Evl.rv_ixL hS (atI_nat la))) (ev_op (ev_leaders T (ev_var rfl) hp) (ev_var rfl) (Evl.rv_ixL hS (atI_nat lb)))) ?_)
    rw [nmin, nmax]
    refine go_when (by walk_at "ev") (fun hb => ?_) (fun hb => ?_)
    · have hb := V.int.inj (of_decide_eq_true hb)
      have e1 : mergeF L a b = (L, false) := by unfold mergeF; rw [if_pos (by omega)]
      rw [e1] at q
      exact go_ret ev_c fun H1 e => q H1 (FrP.of e) ⟨dx, l, e _ _ hp, e _ _ hl⟩
    · have hb : ¬ (min (L.getD a 0) (L.getD b 0) = max (L.getD a 0) (L.getD b 0)) := fun z => of_decide_eq_false hb (by rw [z])
      have e1 : mergeF L a b = (mrg L (min (L.getD a 0) (L.getD b 0)) (max (L.getD a 0) (L.getD b 0)), true) := by unfold mergeF; rw [if_neg hb]
      rw [e1] at q
      generalize hk : min (L.getD a 0) (L.getD b 0) = kk at q ⊢
      generalize hm : max (L.getD a 0) (L.getD b 0) = mm at q ⊢
      intro H1 e
      refine q_fldL (R := NewL H1 (nL L).length fun i acc _ => acc = nL ((mrg L kk mm).take i)) T (tk_lcL (K := K) (ev_leaders T (ev_var rfl) (e _ _ hp)) (Evl.sq_of (e _ _ hl)) (by rw [List.length_map]; omega) _ (fun _ _ _ _ _ h => h) (fun _ => rfl) (fun _ _ => rfl) (fun i x acc H' e' hi hacc => ?_)) (ev_var rfl) (e _ _ hp) (fun v H2 H3 m e2 r e3 hv => ?_) (fun v H2 r => ?_)
      · obtain ⟨y, hy, rfl⟩ := nL_get_of hi
        refine ⟨true, fun H1 e1 Q' q' => q' H1 (Ex.refl H1), fun z => (nomatch z), fun _ => ⟨_, Tk.of (v := nV (if y = mm then kk else y)) (Evl.ev_if (by walk_at "ev") (fun hb => ?_) (fun hb => ?_)), fun z H2 e2 r => ?_⟩⟩
        · have hb := V.int.inj (of_decide_eq_true hb)
          rw [if_pos (by omega)]
          walk_at "ev"
        · have hb : ¬ y = mm := fun z => of_decide_eq_false hb (by rw [z])
          rw [if_neg hb]
          walk_at "ev"
        · dsimp only
          rw [r, hacc, take_snoc (show (mrg L kk mm)[i]? = some (if y = mm then kk else y) by rw [mrg_get, hy]; rfl)]
          unfold nL
          rw [List.map_append]
          rfl
      · obtain ⟨l', acc, rfl, hl', h2, h3⟩ := r
        cases hv
        rw [List.length_map, List.take_of_length_le (by rw [mrg_length]; exact Nat.le_refl _)] at h3
        subst h3
        refine Go.here (go_ret ev_c fun H4 e4 => q H4 ((FrP.put ((e.trans e2).trans e3)).trans (FrP.of e4)) ⟨dx, m, e4 _ _ upd_same, ?_⟩)
        have nm : m ≠ p := fun z => by
          have := e _ _ hp
          rw [z, this] at hl'
          cases hl'
        refine e4 _ _ ?_
        rw [upd_ne nm]
        exact e3 _ _ h2
      · obtain ⟨l', acc, h, _⟩ := r
        exact ⟨l', h⟩
end
end Hfb
namespace Hfb
open PySem PySem.Spec PyProof.Rows L2
open Evl (Ex Ev EvT EvA EvL EvU ev_op ev_var ev_c ev_call ea_cons ea_nil)
section
variable {P : Program} {w : World} {K : PySem.W.Frag} {mg : Str → Option Value} {base : Heap} {H : Hp}
local macro_rules | `(tactic| walk_at "spv") => `(tactic| first | exact v_isInt | exact v_isIntD | exact v_twoPos | exact v_isSeq (.t (by assumption)) | exact v_isSeq (.l (by assumption)) | exact v_isDist (by assumption) (by omega))
local macro_rules | `(tactic| walk_at "rv") => `(tactic| first
  | with_reducible exact Evl.rv_I0
  | ((with_reducible refine Evl.rv_eq ?_); rfl)
  | ((with_reducible refine Evl.rv_ne ?_); rfl)
  | ((with_reducible apply Evl.rv_ixT); (first | assumption | exact Evl.st_of (by assumption)); (first | rfl | assumption))
  | ((with_reducible apply Evl.rv_ixL); (first | assumption | exact Evl.sq_of (by assumption)); (first | rfl | assumption))
  | exact isi_int
  | exact isi_bool
  | exact isi_str
  | exact rc_max
  | exact rc_min
  | (apply rc_lenL; first | assumption | exact Evl.sq_of (by assumption))
  | (apply rc_lenT; first | assumption | exact Evl.st_of (by assumption))
  | walk_at "fld"
  | walk_at "spv")
local macro_rules | `(tactic| walk_at "ev") => `(tactic| first
  | ((with_reducible apply Evl.ev_var); rfl)
  | with_reducible exact Evl.ev_c
  | with_reducible exact Evl.ea_nil
  | ((with_reducible apply Evl.ea_cons) <;> walk_at "ev")
  | ((with_reducible apply Evl.ev_op) <;> walk_at "ev")
  | ((with_reducible apply ev_chain) <;> walk_at "ev")
  | ((with_reducible apply Evl.ev_cb) <;> walk_at "ev")
  | ((with_reducible apply Evl.ev_call) <;> walk_at "ev")
  | ((with_reducible apply Evl.ev_notV) <;> walk_at "ev")
  | ((with_reducible apply ev_andU) <;> walk_at "ev")
  | ((with_reducible apply ev_orU) <;> walk_at "ev")
  | ((with_reducible apply Evl.et_B) <;> walk_at "ev")
  | ((with_reducible apply Evl.et_test) <;> walk_at "ev")
  | ((with_reducible apply Evl.et_not) <;> walk_at "ev")
  | ((with_reducible apply et_andU) <;> walk_at "ev")
  | ((with_reducible apply et_orU) <;> walk_at "ev")
  | walk_at "rv")
/-! ### calls that change their object -/
section
variable {σ : L2.St} {C p dx : Addr} {fs : List (Str × V)} {m : Str} {sp : Sp} {ta tl : TE} {t : TA} {vs : List V} {E : XK} {Q : VK}
theorem me_call (h : Ev ta σ H (.ref p)) (ho : H p = some (.ins C dx fs)) (hm : fs.lookup m = none) (ha : EvA t σ H vs) (k : ∀ H1, Ex H H1 → sp (.ref p :: (vs ++ [])) H1 Q E) : tMeth C m sp [] E ta t σ H Q :=
  h H (Ex.refl H) _ fun H1 e1 => ⟨p, dx, fs, rfl, e1 _ _ ho, hm, ha H1 e1 _ fun H2 e2 => k H2 (e1.trans e2)⟩
theorem q_forK {g : TG} {tu tz : TS} {D : Ends} {R : V → Hp → Prop} (h : Tk tl σ H R) (k : ∀ v H1, Ex H H1 → R v H1 → ∃ (p : Addr) (xs : List V) (Pv : Nat → L2.St → Hp → Prop), v = .ref p ∧ SqL K H1 p xs ∧ Pv 0 σ H1 ∧
    (∀ i σ' H', i ≤ xs.length → Pv i σ' H' → SqL K H' p xs) ∧ (∀ i x σ' H', xs[i]? = some x → Pv i σ' H' → g x σ' H' fun σ2 H2 => tu { D with nx := Pv (i + 1), ct := Pv (i + 1), bk := tz D } σ2 H2) ∧ (∀ σ' H', Pv xs.length σ' H' → tz D σ' H')) :
    tSeq (tFor (iList K tl) g tu) tz D σ H := h H (Ex.refl H) _ fun v H1 e r => by
  obtain ⟨p, xs, Pv, rfl, h1, h2, h3, h4, h5⟩ := k v H1 e r
  exact ⟨p, rfl, ⟨xs, h1⟩, for_list Pv h2 h3 h4 h5⟩
theorem tk_call1 {te : TE} {R R' : V → Hp → Prop} (h : Tk te σ H R) (hs : ∀ v H2, Ex H H2 → R v H2 → SpK sp [v] H2 R') : Tk (tCall sp [] E (tCons te tNil)) σ H R' := fun H1 e Q q =>
  h H1 e _ fun v H2 e2 r => hs v H2 (e.trans e2) r H2 (Ex.refl H2) Q (fun u H3 e3 r3 => q u H3 (e2.trans e3) r3) E
end
theorem no_leaders {l : Addr} {m : Str} (h : ¬ m = "leaders") : (pF l).lookup m = none := by
  show (match m == ("leaders" : Str) with | true => some (V.ref l) | false => none) = none
  rw [show (m == ("leaders" : Str)) = false from beq_eq_false_iff_ne.mpr h]
theorem cut_nL (L : List Nat) (s l : Nat) (h : s + l ≤ L.length) : cutV (nL L) (some (s : Int)) (some ((s : Int) + (l : Int))) = nL ((L.drop s).take l) := by
  unfold cutV
  have e : ((s : Int) + (l : Int)) = ((s + l : Nat) : Int) := by omega
  rw [e, HT.sIx_nat, HT.sIx_nat, List.length_map]
  have e1 : min s L.length = s := by omega
  have e2 : min (s + l) L.length = s + l := by omega
  rw [e1, e2, Nat.add_sub_cancel_left]
  unfold nL
  rw [← List.map_drop, ← List.map_take]
def sp_copyLinks (K : PySem.W.Frag) : Sp := fun vs H Q _ => ∃ (p : Addr) (L : List Nat) (s t l : Nat), vs = [.ref p, nV s, nV t, nV l] ∧ PartAt K H p L ∧ L.length ≤ 1000 ∧ s + l ≤ L.length ∧ t + l ≤ L.length ∧
  ∀ H', FrP p H H' → PartAt K H' p (copyF L s t l).1 → Q (.bl (copyF L s t l).2) H'
theorem foldl_snoc {α β : Type} (f : β → α → β) (b : β) {xs : List α} {i : Nat} {x : α} (h : xs[i]? = some x) : (xs.take (i + 1)).foldl f b = f ((xs.take i).foldl f b) x := by
  rw [take_snoc h, List.foldl_append]
  rfl
theorem copyStep_len (t : Nat) (st : List Nat × Bool) (xy : Nat × Nat) : (copyStep t st xy).1.length = st.1.length := mergeF_length _ _ _
theorem copyFold_len (t : Nat) : ∀ (xs : List (Nat × Nat)) (st : List Nat × Bool), (xs.foldl (copyStep t) st).1.length = st.1.length
  | [], _ => rfl
  | x :: r, st => (copyFold_len t r (copyStep t st x)).trans (copyStep_len t st x)
theorem copyF_len (L : List Nat) (s t l : Nat) : (copyF L s t l).1.length = L.length := copyFold_len t _ (L, false)
theorem mt_copyLinks (T : Tx K mg) (c_merge : Mt P w K mg base 1 (CP K) "merge" (sp_merge K)) (c_linked_offsets : Cl P w K mg base 1 "linked_offsets" sp_links) (c_distances_by : Cl P w K mg base 1 "distances_by" sp_distBy)
    (A : AtM K (CP K) "copy_links" "Partition.copy_links" s_Partition_copy_links) : Mt P w K mg base 2 (CP K) "copy_links" (sp_copyLinks K) := by
  refine mt_of A T.cP sc_Partition_copy_links (fun _ _ _ _ _ _ us hl => match us, hl with | [_, _, _, _], _ => rfl) (fun vs H Q E h => ?_) (fun f cdv A outer s H vs Q E hr h => ?_)
  · obtain ⟨p, L, s, t, l, rfl, _⟩ := h
    rfl
  · obtain ⟨p, L, s, t, l, rfl, hP, hlen, hs, ht, q⟩ := h
    refine ⟨_, (pss_cons (ps_set (i := 4) sc_Partition_copy_links.nd rfl (Or.inl rfl) pe_bl)
      (pss_cons (ps_for PassesOwn.never rfl (pi_list (pcl c_linked_offsets (hr.mono (by decide)) rfl (pa_cons (pcl c_distances_by (hr.mono (by decide)) rfl (pa_cons (pe_slice sl_list (pe_fld (pv 0) rfl) (po_some (pv 1)) (po_some (pe_op op_add (pv 1) (pv 3)))) pa_nil)) pa_nil))) (pg_tup rfl (pgs_cons (pg_name (i := 5) sc_Partition_copy_links.nd rfl (Or.inl rfl)) (pgs_cons (pg_name (i := 6) sc_Partition_copy_links.nd rfl (Or.inl rfl)) pgs_nil)))
          (pss_one (ps_set (i := 4) sc_Partition_copy_links.nd rfl (Or.inl rfl) (pe_or (pmt c_merge (hr.mono (by decide)) (pv 0) (pa_cons (pe_op op_add (pv 2) (pv 5)) (pa_cons (pe_op op_add (pv 2) (pv 6)) pa_nil))) (pe_one (pv 4))))))
      (pss_one (ps_ret (pv 4))))), ?_⟩
    obtain ⟨dx, ld, hp, hl⟩ := id hP
    refine Go.here (go_set ev_c ?_)
    intro H0 e0
    have lenM : ((L.drop s).take l).length = l := cut_len hs
    refine q_forK (R := NewP H0 (linksD (distOf ((L.drop s).take l)))) (K := K) (tk_call1 (R := NewN H0 (distOf ((L.drop s).take l))) (tk_call1 (R := NewN H0 ((L.drop s).take l)) (Tk.imp (tk_L (Evl.el_sl (ev_leaders T (ev_var rfl) (e0 _ _ hp)) (Evl.eo_some (ev_var rfl)) (Evl.eo_some (ev_op (ev_var rfl) (ev_var rfl) Evl.rv_I0)) (Evl.sq_of (e0 _ _ hl)))) fun v H2 e r => ?_) fun v H2 e r => ?_) fun v H2 e r => ?_) fun v H1 e1 r => ?_
    · obtain ⟨a, rfl, ha, h2⟩ := r
      rw [cut_nL L s l hs] at h2
      exact ⟨a, rfl, ha, h2⟩
    · obtain ⟨a, rfl, ha, h2⟩ := r
      intro H3 e3 Q' q' E'
      exact v_distBy h2 (by omega) H3 e3 Q' (fun v H4 e4 r4 => q' v H4 e4 (by obtain ⟨b, rfl, hb, h4⟩ := r4; exact ⟨b, rfl, Evl.fresh_back e hb, h4⟩)) E'
    · obtain ⟨a, rfl, ha, h2⟩ := r
      intro H3 e3 Q' q' E'
      exact v_links h2 (by omega) H3 e3 Q' (fun v H4 e4 r4 => q' v H4 e4 (by obtain ⟨b, us, rfl, hb, h4, h5⟩ := r4; exact ⟨b, us, rfl, Evl.fresh_back e hb, h4, h5⟩)) E'
    · obtain ⟨a, us, rfl, ha, h1, hus⟩ := r
      have nap : a ≠ p := fun z => by
        have := e0 _ _ hp
        rw [← z, ha] at this
        cases this
      refine ⟨a, us, fun i σ' H' => ∃ y5 y6, σ' = [some (.ref p), some (nV s), some (nV t), some (nV l), some (.bl (((linksD (distOf ((L.drop s).take l))).take i).foldl (copyStep t) (L, false)).2), y5, y6] ∧ FrP p H1 H' ∧
        PartAt K H' p (((linksD (distOf ((L.drop s).take l))).take i).foldl (copyStep t) (L, false)).1, rfl, Evl.sq_of h1, ⟨none, none, rfl, FrP.refl _ _, (hP.mono e0).mono e1⟩, fun i σ' H' _ hPv => ?_, fun i x σ' H' hi hPv => ?_, fun σ' H' hPv => ?_⟩
      · obtain ⟨_, _, _, fr, _⟩ := hPv
        exact Evl.sq_of (fr _ _ nap h1)
      · obtain ⟨y5, y6, rfl, fr, dx', ld', hp', hl'⟩ := hPv
        obtain ⟨xy, hxy⟩ := get_some (xs := linksD (distOf ((L.drop s).take l))) (i := i) (by rw [← hus.1]; exact lt_of_get hi)
        obtain ⟨c, rfl, hc⟩ := (hus.te (FrP.te fr (e1 _ _ (e0 _ _ hp)))).2 i x xy hi hxy
        obtain ⟨m1, m2, m3⟩ := mem_links (List.mem_of_getElem? hxy)
        rw [lenM] at m2
        refine g2_ok (Evl.st_of hc) ?_
        generalize hst : ((linksD (distOf ((L.drop s).take l))).take i).foldl (copyStep t) (L, false) = st at hl' ⊢
        have lst : st.1.length = L.length := by rw [← hst]; exact copyFold_len t _ (L, false)
        have nxt : ((linksD (distOf ((L.drop s).take l))).take (i + 1)).foldl (copyStep t) (L, false) = copyStep t st xy := by rw [foldl_snoc _ _ hxy, hst]
        refine me_call (m := "merge") (ev_var rfl) hp' (no_leaders (by decide +kernel)) (by walk_at "ev") fun H2 e2 => ?_
        refine ⟨p, st.1, t + xy.1, t + xy.2, by simp, ⟨dx', ld', e2 _ _ hp', e2 _ _ hl'⟩, by omega, by omega, by omega, fun H3 fr3 hP3 => ⟨_, rfl, ?_⟩⟩
        cases hm : (mergeF st.1 (t + xy.1) (t + xy.2)).2 with
        | true =>
          rw [if_pos rfl]
          have e3 : (copyStep t st xy).2 = true := by show ((mergeF st.1 (t + xy.1) (t + xy.2)).2 || st.2) = true; rw [hm]; rfl
          exact ⟨_, _, by rw [nxt, e3]; rfl, (fr.trans (FrP.of e2)).trans fr3, by rw [nxt]; exact hP3⟩
        | false =>
          rw [if_neg Bool.false_ne_true]
          have e3 : (copyStep t st xy).2 = st.2 := by show ((mergeF st.1 (t + xy.1) (t + xy.2)).2 || st.2) = st.2; rw [hm]; rfl
          exact ⟨_, rfl, _, _, by rw [nxt, e3]; rfl, (fr.trans (FrP.of e2)).trans fr3, by rw [nxt]; exact hP3⟩
      · obtain ⟨y5, y6, rfl, fr, hP'⟩ := hPv
        rw [hus.1, List.take_length] at hP' ⊢
        exact Go.here (go_ret (ev_var rfl) fun H2 e2 => q H2 (((FrP.of (e0.trans e1)).trans fr).trans (FrP.of e2)) (hP'.mono e2))

def sp_copyBoth (K : PySem.W.Frag) : Sp := fun vs H Q _ => ∃ (p : Addr) (L : List Nat) (v : V) (s t l : Nat), vs = [.ref p, v] ∧ FactAt H v (.eqv s t l) ∧ PartAt K H p L ∧ L.length ≤ 1000 ∧ s + l ≤ L.length ∧ t + l ≤ L.length ∧
  ∀ H', FrP p H H' → PartAt K H' p (bothF L s t l).1 → Q (.bl (bothF L s t l).2) H'
theorem mt_copyBoth (T : Tx K mg) (c_copy_links : Mt P w K mg base 2 (CP K) "copy_links" (sp_copyLinks K)) (A : AtM K (CP K) "copy_both_ways" "Partition.copy_both_ways" s_Partition_copy_both_ways) : Mt P w K mg base 3 (CP K) "copy_both_ways" (sp_copyBoth K) := by
  refine mt_of A T.cP sc_Partition_copy_both_ways (fun _ _ _ _ _ _ us hl => match us, hl with | [_, _], _ => rfl) (fun vs H Q E h => ?_) (fun f cdv A outer s H vs Q E hr h => ?_)
  · obtain ⟨p, L, v, s, t, l, rfl, _⟩ := h
    rfl
  · obtain ⟨p, L, v, s, t, l, rfl, ⟨a, rfl, ha⟩, ⟨dx, ld, hp, hl⟩, hlen, hs, ht, q⟩ := h
    refine ⟨_, (pss_cons (ps_set (i := 2) sc_Partition_copy_both_ways.nd rfl (Or.inl rfl) (pmt c_copy_links (hr.mono (by decide)) (pv 0) (pa_cons (pe_ix ix_tup (pv 1) pe_int (fun _ _ => rfl)) (pa_cons (pe_ix ix_tup (pv 1) pe_int (fun _ _ => rfl)) (pa_cons (pe_ix ix_tup (pv 1) pe_int (fun _ _ => rfl)) pa_nil)))))
      (pss_one (ps_ret (pe_or (pmt c_copy_links (hr.mono (by decide)) (pv 0) (pa_cons (pe_ix ix_tup (pv 1) pe_int (fun _ _ => rfl)) (pa_cons (pe_ix ix_tup (pv 1) pe_int (fun _ _ => rfl)) (pa_cons (pe_ix ix_tup (pv 1) pe_int (fun _ _ => rfl)) pa_nil)))) (pe_one (pv 2)))))), ?_⟩
    refine me_call (m := "copy_links") (ev_var rfl) hp (no_leaders (by decide +kernel)) (by walk_at "ev") fun H2 e2 => ?_
    refine ⟨p, L, s, t, l, by simp, ⟨dx, ld, e2 _ _ hp, e2 _ _ hl⟩, hlen, hs, ht, fun H3 fr3 hP3 => ?_⟩
    obtain ⟨dx3, ld3, hp3, hl3⟩ := hP3
    have nap : a ≠ p := fun z => by rw [z, hp] at ha; cases ha
    have ha3 : H3 a = _ := fr3 _ _ nap (e2 _ _ ha)
    refine me_call (m := "copy_links") (ev_var rfl) hp3 (no_leaders (by decide +kernel)) (by walk_at "ev") fun H4 e4 => ?_
    have l3 := copyF_len L s t l
    refine ⟨p, (copyF L s t l).1, t, s, l, by simp, ⟨dx3, ld3, e4 _ _ hp3, e4 _ _ hl3⟩, by omega, by omega, by omega, fun H5 fr5 hP5 => ⟨_, rfl, ?_⟩⟩
    have fr : FrP p H H5 := (((FrP.of e2).trans fr3).trans (FrP.of e4)).trans fr5
    have z := q H5 fr hP5
    have ez : (bothF L s t l).2 = ((copyF (copyF L s t l).1 t s l).2 || (copyF L s t l).2) := rfl
    rw [ez] at z
    cases hm : (copyF (copyF L s t l).1 t s l).2 with
    | true =>
      rw [if_pos rfl]
      rw [hm] at z
      exact z
    | false =>
      rw [if_neg Bool.false_ne_true]
      rw [hm] at z
      exact ⟨_, rfl, z⟩
def sp_areEqual (K : PySem.W.Frag) : Sp := fun vs H Q _ => ∃ (p : Addr) (L : List Nat) (a b : Nat), vs = [.ref p, nV a, nV b] ∧ PartAt K H p L ∧ a < L.length ∧ b < L.length ∧ ∀ H', Ex H H' → Q (.bl (decide (L[a]? = L[b]?))) H'
theorem mt_areEqual (T : Tx K mg) (A : AtM K (CP K) "are_equal" "Partition.are_equal" s_Partition_are_equal) : Mt P w K mg base 1 (CP K) "are_equal" (sp_areEqual K) := by
  refine mt_of A T.cP sc_Partition_are_equal (fun _ _ _ _ _ _ us hl => match us, hl with | [_, _, _], _ => rfl) (fun vs H Q E h => ?_) (fun f cdv A outer s H vs Q E hr h => ?_)
  · obtain ⟨p, L, a, b, rfl, _⟩ := h
    rfl
  · obtain ⟨p, L, a, b, rfl, ⟨dx, l, hp, hl⟩, ha, hb, q⟩ := h
    refine ⟨_, (pss_one (ps_ret (pe_cmpR op_eq (pe_ix ix_list (pe_fld (pv 0) rfl) (pv 1) (fun _ _ => rfl)) (pe_ix ix_list (pe_fld (pv 0) rfl) (pv 2) (fun _ _ => rfl)) (nomark _)))), ?_⟩
    have la := nL_get (get_of_lt ha)
    have lb := nL_get (get_of_lt hb)
    have hS : SqL K H l (nL L) := Evl.sq_of hl
    refine Go.here (go_ret (Evl.ev_is (ev_op (ev_op (ev_leaders T (ev_var rfl) hp) (ev_var rfl) (Evl.rv_ixL hS (atI_nat la))) (ev_op (ev_leaders T (ev_var rfl) hp) (ev_var rfl) (Evl.rv_ixL hS (atI_nat lb))) (Evl.rv_eq rfl)) ?_) q)
    rw [get_of_lt ha, get_of_lt hb]
    congr 1
    rw [Bool.eq_iff_iff]
    simp
    omega
def sp_distances (K : PySem.W.Frag) : Sp := fun vs H Q _ => ∃ (p : Addr) (L : List Nat), vs = [.ref p] ∧ PartAt K H p L ∧ L.length ≤ 1000 ∧ ∀ a H', Ex H H' → H a = none → H' a = some (.lst (nL (distOf L))) → Q (.ref a) H'
theorem mt_distances (T : Tx K mg) (c_distances_by : Cl P w K mg base 1 "distances_by" sp_distBy) (A : AtM K (CP K) "distances" "Partition.distances" s_Partition_distances) : Mt P w K mg base 2 (CP K) "distances" (sp_distances K) := by
  refine mt_of A T.cP sc_Partition_distances (fun _ _ _ _ _ _ us hl => match us, hl with | [_], _ => rfl) (fun vs H Q E h => ?_) (fun f cdv A outer s H vs Q E hr h => ?_)
  · obtain ⟨p, L, rfl, _⟩ := h
    rfl
  · obtain ⟨p, L, rfl, ⟨dx, l, hp, hl⟩, hlen, q⟩ := h
    refine ⟨_, (pss_one (ps_ret (pcl c_distances_by (hr.mono (by decide)) rfl (pa_cons (pe_fld (pv 0) rfl) pa_nil)))), ?_⟩
    refine Go.here (go_retP (tk_call (ea_cons (ev_leaders T (ev_var rfl) hp) ea_nil) (v_distBy hl hlen)) fun v H1 e r => ?_)
    obtain ⟨a, rfl, ha, h1⟩ := r
    exact q a H1 e ha h1
end
end Hfb
namespace Hfb
open PySem PySem.Spec PyProof.Rows L2
open Evl (Ex Ev EvT EvA EvL EvU ev_op ev_var ev_c ev_call ea_cons ea_nil)
section
variable {P : Program} {w : World} {K : PySem.W.Frag} {mg : Str → Option Value} {base : Heap} {H : Hp}
local macro_rules | `(tactic| walk_at "spv") => `(tactic| first | exact v_isInt | exact v_isIntD | exact v_twoPos | exact v_isSeq (.t (by assumption)) | exact v_isSeq (.l (by assumption)) | exact v_isDist (by assumption) (by omega))
local macro_rules | `(tactic| walk_at "rv") => `(tactic| first
  | with_reducible exact Evl.rv_I0
  | ((with_reducible refine Evl.rv_eq ?_); rfl)
  | ((with_reducible refine Evl.rv_ne ?_); rfl)
  | ((with_reducible apply Evl.rv_ixT); (first | assumption | exact Evl.st_of (by assumption)); (first | rfl | assumption))
  | ((with_reducible apply Evl.rv_ixL); (first | assumption | exact Evl.sq_of (by assumption)); (first | rfl | assumption))
  | exact isi_int
  | exact isi_bool
  | exact isi_str
  | exact rc_max
  | exact rc_min
  | (apply rc_lenL; first | assumption | exact Evl.sq_of (by assumption))
  | (apply rc_lenT; first | assumption | exact Evl.st_of (by assumption))
  | walk_at "fld"
  | walk_at "spv")
local macro_rules | `(tactic| walk_at "ev") => `(tactic| first
  | ((with_reducible apply Evl.ev_var); rfl)
  | with_reducible exact Evl.ev_c
  | with_reducible exact Evl.ea_nil
  | ((with_reducible apply Evl.ea_cons) <;> walk_at "ev")
  | ((with_reducible apply Evl.ev_op) <;> walk_at "ev")
  | ((with_reducible apply ev_chain) <;> walk_at "ev")
  | ((with_reducible apply Evl.ev_cb) <;> walk_at "ev")
  | ((with_reducible apply Evl.ev_call) <;> walk_at "ev")
  | ((with_reducible apply Evl.ev_notV) <;> walk_at "ev")
  | ((with_reducible apply ev_andU) <;> walk_at "ev")
  | ((with_reducible apply ev_orU) <;> walk_at "ev")
  | ((with_reducible apply Evl.et_B) <;> walk_at "ev")
  | ((with_reducible apply Evl.et_test) <;> walk_at "ev")
  | ((with_reducible apply Evl.et_not) <;> walk_at "ev")
  | ((with_reducible apply et_andU) <;> walk_at "ev")
  | ((with_reducible apply et_orU) <;> walk_at "ev")
  | walk_at "rv")
theorem FactAt.fr {p C dx : Addr} {fs : List (Str × V)} {H H' : Hp} {v : V} {f : Fact} (fr : FrP p H H') (hp : H p = some (.ins C dx fs)) (h : FactAt H v f) : FactAt H' v f := by
  have nt : ∀ a xs, H a = some (.tup xs) → H' a = some (.tup xs) := fun a xs q => fr a _ (fun z => by rw [z, hp] at q; cases q) q
  have nl : ∀ a xs, H a = some (.lst xs) → H' a = some (.lst xs) := fun a xs q => fr a _ (fun z => by rw [z, hp] at q; cases q) q
  cases f with
  | same i j => obtain ⟨a, h1, h2⟩ := h; exact ⟨a, h1, nt _ _ h2⟩
  | diff i j => obtain ⟨a, h1, h2⟩ := h; exact ⟨a, h1, nt _ _ h2⟩
  | eqv i j l => obtain ⟨a, h1, h2⟩ := h; exact ⟨a, h1, nt _ _ h2⟩
  | win i W => obtain ⟨a, d, h1, h2, h3⟩ := h; exact ⟨a, d, h1, nt _ _ h2, nl _ _ h3⟩
/-- the first place of a fact, as a text -/
def kindV : Fact → V
  | .same _ _ => sSame
  | .diff _ _ => sDiff
  | .eqv _ _ _ => sEqv
  | .win _ _ => sWin
theorem FactAt.tup {v : V} {f : Fact} (h : FactAt H v f) : ∃ a r, v = .ref a ∧ H a = some (.tup (kindV f :: r)) := by
  cases f with
  | same i j => obtain ⟨a, h1, h2⟩ := h; exact ⟨a, _, h1, h2⟩
  | diff i j => obtain ⟨a, h1, h2⟩ := h; exact ⟨a, _, h1, h2⟩
  | eqv i j l => obtain ⟨a, h1, h2⟩ := h; exact ⟨a, _, h1, h2⟩
  | win i W => obtain ⟨a, d, h1, h2, h3⟩ := h; exact ⟨a, _, h1, h2⟩
/-- fact[0] == KIND -/
theorem et_kind {σ : L2.St} {te : TE} {v : V} {f : Fact} {x : Str} (h : FactAt H v f) (he : Ev te σ H v) (hx : ∃ y, kindV f = .str y) : EvT (tTest (tOp rEq (tOp (rIxT K) te (tC (.int 0))) (tC (.str x)))) σ H (decide (kindV f = .str x)) := by
  obtain ⟨a, r, rfl, h2⟩ := h.tup
  obtain ⟨y, hy⟩ := hx
  exact Evl.et_test (ev_op (ev_op he ev_c (Evl.rv_ixT (Evl.st_of h2) (v := kindV f) (atI_nat (j := 0) rfl))) ev_c (Evl.rv_eq (by rw [hy]; rfl)))
theorem kind_str (f : Fact) : ∃ y, kindV f = .str y := by cases f <;> exact ⟨_, rfl⟩
theorem kd_same_same : decide (sSame = V.str "same") = true := by decide +kernel
theorem kd_same_diff : decide (sSame = V.str "different") = false := by decide +kernel
theorem kd_same_eqv : decide (sSame = V.str "equivalent") = false := by decide +kernel
theorem kd_same_win : decide (sSame = V.str "window") = false := by decide +kernel
theorem kd_diff_same : decide (sDiff = V.str "same") = false := by decide +kernel
theorem kd_diff_diff : decide (sDiff = V.str "different") = true := by decide +kernel
theorem kd_diff_eqv : decide (sDiff = V.str "equivalent") = false := by decide +kernel
theorem kd_diff_win : decide (sDiff = V.str "window") = false := by decide +kernel
theorem kd_eqv_same : decide (sEqv = V.str "same") = false := by decide +kernel
theorem kd_eqv_diff : decide (sEqv = V.str "different") = false := by decide +kernel
theorem kd_eqv_eqv : decide (sEqv = V.str "equivalent") = true := by decide +kernel
theorem kd_eqv_win : decide (sEqv = V.str "window") = false := by decide +kernel
theorem kd_win_same : decide (sWin = V.str "same") = false := by decide +kernel
theorem kd_win_diff : decide (sWin = V.str "different") = false := by decide +kernel
theorem kd_win_eqv : decide (sWin = V.str "equivalent") = false := by decide +kernel
theorem kd_win_win : decide (sWin = V.str "window") = true := by decide +kernel
def isEqv : Fact → Bool
  | .eqv _ _ _ => true
  | _ => false
theorem kind_eqv (f : Fact) : decide (kindV f = .str "equivalent") = isEqv f := by
  cases f with
  | same i j => show decide (sSame = .str "equivalent") = false; decide +kernel
  | diff i j => show decide (sDiff = .str "equivalent") = false; decide +kernel
  | eqv i j l => show decide (sEqv = .str "equivalent") = true; decide +kernel
  | win i W => show decide (sWin = .str "equivalent") = false; decide +kernel
def FPair (H : Hp) (vs : List V) (fs : List Fact) : Prop := vs.length = fs.length ∧ ∀ (i : Nat) v f, vs[i]? = some v → fs[i]? = some f → FactAt H v f
theorem FPair.nil : FPair H [] [] := ⟨rfl, fun i v xy h => by simp at h⟩
theorem FPair.snoc {vs : List V} {fs : List Fact} {v : V} {f : Fact} (h : FPair H vs fs) (h1 : FactAt H v f) : FPair H (vs ++ [v]) (fs ++ [f]) := by
  refine ⟨by rw [List.length_append, List.length_append, h.1]; rfl, fun i u z a b => ?_⟩
  by_cases hi : i < vs.length
  · rw [List.getElem?_append_left hi] at a
    rw [List.getElem?_append_left (by rw [← h.1]; exact hi)] at b
    exact h.2 i u z a b
  · have e1 := lt_of_get a
    rw [List.length_append, List.length_singleton] at e1
    have e2 : i = vs.length := by omega
    subst e2
    rw [List.getElem?_append_right (Nat.le_refl _), Nat.sub_self] at a
    rw [List.getElem?_append_right (by rw [h.1]; exact Nat.le_refl _), h.1, Nat.sub_self] at b
    cases a
    cases b
    exact h1
theorem q_fldL0 {σ : L2.St} {ta tv : TE} {tz : TS} {D : Ends} {p dx : Addr} {R : V → Hp → Prop} (T : Tx K mg) (hv : Tk tv σ H R) (h : Ev ta σ H (.ref p)) (hp : H p = some (.ins (CP K) dx []))
    (k : ∀ v H1 H2 m, Ex H H1 → R v H1 → Ex H1 H2 → v = .ref m → tz D σ (upd H2 p (.ins (CP K) dx (pF m)))) (hr : ∀ v H1, R v H1 → ∃ m, v = .ref m) : tSeq (sFld K ta tv "leaders") tz D σ H :=
  hv H (Ex.refl H) _ fun v H1 e1 r => h H1 e1 _ fun H2 e2 => by
    obtain ⟨m, rfl⟩ := hr v H1 r
    refine ⟨p, CP K, dx, [], rfl, e2 _ _ (e1 _ _ hp), T.cP, T.nP, (by show 0 < 1000; decide), ?_⟩
    exact k _ H1 H2 m e1 r e2 rfl
theorem rgV_nat (n : Nat) : rgV 0 (n : Int) = nL (List.range n) := by
  unfold rgV nL
  simp [List.map_map]
theorem tk_range {σ : L2.St} {ta : TE} {n : Nat} (h : Ev ta σ H (nV n)) (hn : n ≤ 1000) : Tk (tLstRg (tRg1 ta)) σ H (fun v H2 => ∃ p, v = .ref p ∧ H p = none ∧ H2 p = some (.lst (nL (List.range n)))) := fun H1 e Q q =>
  h H1 e _ fun H2 e2 => ⟨n, rfl, ⟨by omega, by omega⟩, fun l hl => q _ _ (e2.trans (Ex.new hl)) ⟨l, rfl, Evl.fresh_back (e.trans e2) hl, by rw [upd_same, rgV_nat]⟩⟩

/-! ### the partition is made -/
theorem PartAt.put {p D : Addr} {L : List Nat} {bs : List Bool} {o : HO} (h : PartAt K H p L) (hD : H D = some (.lst (bs.map V.bl))) (h1 : 1 ≤ L.length) : PartAt K (upd H D o) p L := by
  obtain ⟨dx, l, hp, hl⟩ := h
  have n1 : p ≠ D := fun z => by rw [z, hD] at hp; cases hp
  have n2 : l ≠ D := fun z => by
    rw [z, hD] at hl
    have e := HO.lst.inj (Option.some.inj hl)
    cases L with
    | nil => exact absurd h1 (by decide)
    | cons x r =>
      cases bs with
      | nil => cases e
      | cons b s => injection e with e1 e2; cases e1
  exact ⟨dx, l, by rw [upd_ne n1]; exact hp, by rw [upd_ne n2]; exact hl⟩
theorem FrP.mut {p D : Addr} {H H' : Hp} {o : HO} (f : FrP p H H') (h : H D = none) : FrP p H (upd H' D o) := fun b u n q => by
  rw [upd_ne (ne_of_none q h)]
  exact f b u n q
structure Pst (fs : List Fact) (n : Nat) (L : List Nat) : Prop where
  len : L.length = n
  sound : Sound fs L
def sp_pinit (K : PySem.W.Frag) : Sp := fun vs H Q _ => ∃ (p dx lf : Addr) (n : Nat) (fs : List Fact), vs = [.ref p, nV n, .ref lf] ∧ H p = some (.ins (CP K) dx []) ∧ 1 ≤ n ∧ n ≤ 60 ∧ FactsAt H lf fs ∧ fs.length ≤ 50 ∧ (∀ f ∈ fs, f.Ok n) ∧
  ∀ H' L, FrP p H H' → PartAt K H' p L → Part fs n L → Q .non H'
theorem sound_range (fs : List Fact) (n : Nat) : Sound fs (List.range n) := fun i j hi hj e => by
  rw [List.length_range] at hi hj
  rw [List.getElem?_range hi, List.getElem?_range hj] at e
  cases e
  exact .refl i
end
end Hfb
namespace Hfb
open PySem PySem.Spec PyProof.Rows L2
open Evl (Ex Ev EvT EvA EvL EvU ev_op ev_var ev_c ev_call ea_cons ea_nil)
section
variable {P : Program} {w : World} {K : PySem.W.Frag} {mg : Str → Option Value} {base : Heap} {H : Hp}
local macro_rules | `(tactic| walk_at "spv") => `(tactic| first | exact v_isInt | exact v_isIntD | exact v_twoPos | exact v_isSeq (.t (by assumption)) | exact v_isSeq (.l (by assumption)) | exact v_isDist (by assumption) (by omega))
local macro_rules | `(tactic| walk_at "rv") => `(tactic| first
  | with_reducible exact Evl.rv_I0
  | ((with_reducible refine Evl.rv_eq ?_); rfl)
  | ((with_reducible refine Evl.rv_ne ?_); rfl)
  | ((with_reducible apply Evl.rv_ixT); (first | assumption | exact Evl.st_of (by assumption)); (first | rfl | assumption))
  | ((with_reducible apply Evl.rv_ixL); (first | assumption | exact Evl.sq_of (by assumption)); (first | rfl | assumption))
  | exact isi_int
  | exact isi_bool
  | exact isi_str
  | exact rc_max
  | exact rc_min
  | (apply rc_lenL; first | assumption | exact Evl.sq_of (by assumption))
  | (apply rc_lenT; first | assumption | exact Evl.st_of (by assumption))
  | walk_at "fld"
  | walk_at "spv")
local macro_rules | `(tactic| walk_at "ev") => `(tactic| first
  | ((with_reducible apply Evl.ev_var); rfl)
  | with_reducible exact Evl.ev_c
  | with_reducible exact Evl.ea_nil
  | ((with_reducible apply Evl.ea_cons) <;> walk_at "ev")
  | ((with_reducible apply Evl.ev_op) <;> walk_at "ev")
  | ((with_reducible apply ev_chain) <;> walk_at "ev")
  | ((with_reducible apply Evl.ev_cb) <;> walk_at "ev")
  | ((with_reducible apply Evl.ev_call) <;> walk_at "ev")
  | ((with_reducible apply Evl.ev_notV) <;> walk_at "ev")
  | ((with_reducible apply ev_andU) <;> walk_at "ev")
  | ((with_reducible apply ev_orU) <;> walk_at "ev")
  | ((with_reducible apply Evl.et_B) <;> walk_at "ev")
  | ((with_reducible apply Evl.et_test) <;> walk_at "ev")
  | ((with_reducible apply Evl.et_not) <;> walk_at "ev")
  | ((with_reducible apply et_andU) <;> walk_at "ev")
  | ((with_reducible apply et_orU) <;> walk_at "ev")
  | walk_at "rv")
section
variable {σ : L2.St} {t : TT} {tu tw tz : TS} {D : Ends} {tl : TE}
theorem s_yes {b : Bool} (h : EvT t σ H b) (hb : b = true) (k : ∀ H1, Ex H H1 → tu D σ H1) : tIfS t tu tw D σ H := Evl.s_if h (fun _ => k) fun z => by rw [hb] at z; cases z
theorem s_no {b : Bool} (h : EvT t σ H b) (hb : b = false) (k : ∀ H1, Ex H H1 → tw D σ H1) : tIfS t tu tw D σ H := Evl.s_if h (fun z => by rw [hb] at z; cases z) fun _ => k
theorem s_forK {g : TG} {R : V → Hp → Prop} (h : Tk tl σ H R) (k : ∀ v H1, Ex H H1 → R v H1 → ∃ (p : Addr) (xs : List V) (Pv : Nat → L2.St → Hp → Prop), v = .ref p ∧ SqL K H1 p xs ∧ Pv 0 σ H1 ∧
    (∀ i σ' H', i ≤ xs.length → Pv i σ' H' → SqL K H' p xs) ∧ (∀ i x σ' H', xs[i]? = some x → Pv i σ' H' → g x σ' H' fun σ2 H2 => tu { D with nx := Pv (i + 1), ct := Pv (i + 1), bk := D.nx } σ2 H2) ∧ (∀ σ' H', Pv xs.length σ' H' → D.nx σ' H')) :
    tFor (iList K tl) g tu D σ H := h H (Ex.refl H) _ fun v H1 e r => by
  obtain ⟨p, xs, Pv, rfl, h1, h2, h3, h4, h5⟩ := k v H1 e r
  exact ⟨p, rfl, ⟨xs, h1⟩, for_list Pv h2 h3 h4 h5⟩
end
theorem part_start {fs : List Fact} {n : Nat} {L : List Nat} {p : Nat} (h : Pst fs n L) {a b : Nat} (ha : a < n) (hb : b < n) (d : Der fs a b) : Pst fs n (mergeF L a b).1 :=
  ⟨by rw [mergeF_length]; exact h.len, mergeF_sound h.sound (by rw [h.len]; exact ha) (by rw [h.len]; exact hb) d⟩
/-- what a round of copies comes to -/
structure Rnd (fs : List Fact) (n : Nat) (L : List Nat) (es : List Fact) (i : Nat) (Li : List Nat) (bs : List Bool) : Prop where
  pst : Pst fs n Li
  coarser : Coarser L Li
  blen : bs.length = i
  off : bs.any id = false → Li = L ∧ ∀ j s t l, j < i → es[j]? = some (.eqv s t l) → ∀ x y, x < l → y < l → (L[s + x]? = L[s + y]? ↔ L[t + x]? = L[t + y]?)
  on : bs.any id = true → Li.sum < L.sum
theorem Rnd.step {fs : List Fact} {n : Nat} {L : List Nat} {es : List Fact} {i : Nat} {Li : List Nat} {bs : List Bool} (r : Rnd fs n L es i Li bs) {s t l : Nat} (he : es[i]? = some (.eqv s t l)) (hf : Fact.eqv s t l ∈ fs) (hs : s + l ≤ n) (ht : t + l ≤ n) :
    Rnd fs n L es (i + 1) (bothF Li s t l).1 (bs ++ [(bothF Li s t l).2]) := by
  have B := both (L := Li) r.pst.sound (by rw [r.pst.len]; exact hs) (by rw [r.pst.len]; exact ht) hf
  refine ⟨⟨by rw [← B.coarser.1]; exact r.pst.len, B.sound⟩, r.coarser.trans B.coarser, by rw [List.length_append, r.blen]; rfl, fun h => ?_, fun h => ?_⟩
  · rw [List.any_append, Bool.or_eq_false_iff] at h
    obtain ⟨o1, o2⟩ := r.off h.1
    have hb : (bothF Li s t l).2 = false := by have := h.2; simpa using this
    obtain ⟨b1, b2⟩ := B.off hb
    refine ⟨b1.trans o1, fun j s' t' l' hj hq x y hx hy => ?_⟩
    by_cases e : j = i
    · subst e
      rw [he] at hq
      cases hq
      rw [o1] at b2
      exact b2 x y hx hy
    · exact o2 j s' t' l' (by omega) hq x y hx hy
  · have le : Li.sum ≤ L.sum := by
      cases q : bs.any id with
      | false => rw [(r.off q).1]; exact Nat.le_refl _
      | true => exact Nat.le_of_lt (r.on q)
    cases q : (bothF Li s t l).2 with
    | true => exact Nat.lt_of_lt_of_le (B.on q) le
    | false =>
      rw [List.any_append, q] at h
      have h : bs.any id = true := by simpa using h
      rw [(B.off q).1]
      exact r.on h
theorem mem_filter_get {fs : List Fact} {j : Nat} {f : Fact} (h : (fs.filter isEqv)[j]? = some f) : f ∈ fs ∧ isEqv f = true := List.mem_filter.mp (List.mem_of_getElem? h)
theorem filter_snoc {fs : List Fact} {i : Nat} {f : Fact} (h : fs[i]? = some f) : (fs.take (i + 1)).filter isEqv = (fs.take i).filter isEqv ++ if isEqv f = true then [f] else [] := by
  rw [take_snoc h, List.filter_append]
  cases e : isEqv f <;> simp [e]
set_option maxHeartbeats 8000000 in
theorem mz_pinit (T : Tx K mg) (c_merge : Mt P w K mg base 1 (CP K) "merge" (sp_merge K)) (c_linked_offsets : Cl P w K mg base 1 "linked_offsets" sp_links) (c_copy_both_ways : Mt P w K mg base 3 (CP K) "copy_both_ways" (sp_copyBoth K))
    (A : AtI K (CP K) "Partition.__init__" s_Partition___init__) : Mz P w K mg base 4 "Partition" (CP K) (sp_pinit K) := by
  refine mz_of A T.mP sc_Partition___init__ (fun _ _ _ _ _ _ us hl => match us, hl with | [_, _, _], _ => rfl) (fun vs H Q E h => ?_) (fun f cdv A outer s H vs Q E hr h => ?_)
  · obtain ⟨p, dx, lf, n, fs, rfl, _⟩ := h
    rfl
  · obtain ⟨p, dx, lf, n, fs, rfl, hp, hn1, hn, hF, hfl, ok, q⟩ := h
    refine ⟨_, (pss_cons (ps_fld (pv 0) (pe_listRg rfl rfl T.b_list (prg_1 rfl T.b_range (pv 1))) rfl)
      (pss_cons (ps_for PassesOwn.never rfl (pi_list (pv 2)) (pg_name (i := 3) sc_Partition___init__.nd rfl (Or.inl rfl))
          (pss_one (ps_if (pt_cmpR op_eq (pe_ix ix_tup (pv 3) pe_int (fun _ _ => rfl)) (pk T.SAME) (nomark _)) (pss_one (ps_expr (pmt c_merge (hr.mono (by decide)) (pv 0) (pa_cons (pe_ix ix_tup (pv 3) pe_int (fun _ _ => rfl)) (pa_cons (pe_ix ix_tup (pv 3) pe_int (fun _ _ => rfl)) pa_nil))))) (pss_one (ps_if (pt_cmpR op_eq (pe_ix ix_tup (pv 3) pe_int (fun _ _ => rfl)) (pk T.WINDOW) (nomark _)) (pss_one (ps_for PassesOwn.never rfl (pi_list (pcl c_linked_offsets (hr.mono (by decide)) rfl (pa_cons (pe_ix ix_tup (pv 3) pe_int (fun _ _ => rfl)) pa_nil))) (pg_tup rfl (pgs_cons (pg_name (i := 4) sc_Partition___init__.nd rfl (Or.inl rfl)) (pgs_cons (pg_name (i := 5) sc_Partition___init__.nd rfl (Or.inl rfl)) pgs_nil)))
                  (pss_one (ps_expr (pmt c_merge (hr.mono (by decide)) (pv 0) (pa_cons (pe_op op_add (pe_ix ix_tup (pv 3) pe_int (fun _ _ => rfl)) (pv 4)) (pa_cons (pe_op op_add (pe_ix ix_tup (pv 3) pe_int (fun _ _ => rfl)) (pv 5)) pa_nil))))))) pss_nil)))))
      (pss_cons (ps_setLc (i := 6) (own := [("fact", 3)]) (g := gName 3)  (by rfl) sc_Partition___init__.nd rfl rfl (sw_true rfl rfl rfl (by decide +kernel)) (pi_list (pv 2)) (blkOk_by (own := [("fact", 3)]) (N := N_Partition___init__) (sc := defScope s_Partition___init__) (by decide +kernel)) (fun _ _ _ _ _ => (pg_name (i := 3) sc_Partition___init__.nd rfl (Or.inl rfl))) (fun _ _ _ _ _ => (pts_one (pt_cmpR op_eq (pe_ix (r := rIxT K) ix_tup (pv 3) pe_int (fun _ _ => rfl)) (pk T.EQUIVALENT) (nomark _)))) (fun _ _ _ _ _ => (pv 3)))
      (pss_one (ps_while PassesOwn.never (pt_val (pe_callB (cr_any rfl) rfl T.b_any (by decide +kernel) (pa_cons (pe_lc (own := [("fact", 3)]) (g := gName 3) (by rfl) sc_Partition___init__.nd (pi_list (pv 6)) (blkOk_by (own := [("fact", 3)]) (N := N_Partition___init__) (sc := defScope s_Partition___init__) (by decide +kernel)) (fun _ _ _ _ _ => (pg_name (i := 3) sc_Partition___init__.nd rfl (Or.inl rfl))) (fun _ _ _ _ _ => pts_nil) (fun _ _ _ _ _ => (pmt c_copy_both_ways (hr.mono (by decide)) (pv 0) (pa_cons (pv 3) pa_nil)))) pa_nil))) (pss_one ps_pass)))))), ?_⟩
    obtain ⟨us, hlf, hul, hat⟩ := id hF
    have nlf : lf ≠ p := fun z => by rw [z, hp] at hlf; cases hlf
    -- self.leaders = list(range(size))
    refine q_fldL0 T (tk_range (ev_var rfl) (by omega)) (ev_var rfl) hp (fun v H1 H2 m e1 r e2 hv => ?_) (fun v H1 r => by obtain ⟨m, h, _⟩ := r; exact ⟨m, h⟩)
    obtain ⟨m', rfl, hm, hm1⟩ := r
    cases hv
    have nmp : m ≠ p := fun z => by rw [z, hp] at hm; cases hm
    have fr0 : FrP p H (upd H2 p (.ins (CP K) dx (pF m))) := FrP.put (e1.trans e2)
    have P0 : PartAt K (upd H2 p (.ins (CP K) dx (pF m))) p (List.range n) := ⟨dx, m, upd_same, by rw [upd_ne nmp]; exact e2 _ _ hm1⟩
    -- for fact in facts
    refine Evl.q_forLn (K := K) (a := lf) (xs := us) (ev_var rfl) (Evl.sq_of (fr0 _ _ nlf hlf)) (fun i σ' H' => ∃ y3 y4 y5 L, σ' = [some (.ref p), some (nV n), some (.ref lf), y3, y4, y5, none] ∧ FrP p H H' ∧ PartAt K H' p L ∧ Pst fs n L ∧
      ∀ j f, j < i → fs[j]? = some f → ∀ a b, SSame f a b → L[a]? = L[b]?) (fun H3 e3 => ⟨none, none, none, _, rfl, fr0.trans (FrP.of e3), P0.mono e3, ⟨List.length_range, sound_range fs n⟩, fun j f hj => by omega⟩) (fun i σ' H' _ hPv => ?_) (fun i x σ' H' hi hPv => ?_) (fun σ' H' hPv => ?_)
    · obtain ⟨_, _, _, _, _, fr, _⟩ := hPv
      exact Evl.sq_of (fr _ _ nlf hlf)
    · obtain ⟨y3, y4, y5, L, rfl, fr, hP, hL, hdone⟩ := hPv
      obtain ⟨g, hg⟩ := get_some (xs := fs) (i := i) (by rw [← hul]; exact lt_of_get hi)
      have gm := List.mem_of_getElem? hg
      have og := ok g gm
      have fa : FactAt H' x g := (hat i x g hi hg).fr fr hp
      cases g with
      | same a b =>
        refine s_yes (et_kind (K := K) (f := .same a b) fa (ev_var rfl) (kind_str _)) kd_same_same fun H4 e4 => ?_
        obtain ⟨c, rfl, hc⟩ := fa.mono e4
        obtain ⟨dx4, l4, hp4, hl4⟩ := hP.mono e4
        refine me_call (m := "merge") (ev_var rfl) hp4 (no_leaders (by decide +kernel)) (by walk_at "ev") fun H5 e5 => ?_
        refine ⟨p, L, a, b, rfl, ⟨dx4, l4, e5 _ _ hp4, e5 _ _ hl4⟩, by rw [hL.len]; omega, by rw [hL.len]; exact og.1, by rw [hL.len]; exact og.2.1, fun H6 fr6 hP6 => ?_⟩
        refine ⟨_, _, _, _, rfl, (fr.trans (FrP.of (e4.trans e5))).trans fr6, hP6, part_start (p := p) hL og.1 og.2.1 (.same gm), fun j f hj hf x y hs => ?_⟩
        by_cases e : j = i
        · subst e
          rw [hg] at hf
          cases hf
          have eq := mergeF_eq (L := L) (a := a) (b := b) (by rw [hL.len]; exact og.1) (by rw [hL.len]; exact og.2.1)
          rcases hs with ⟨h1, h2⟩ | ⟨h1, h2⟩
          · rw [h1, h2]; exact eq
          · rw [h1, h2]; exact eq.symm
        · exact (mergeF_coarser L a b).2 _ _ (hdone j f (by omega) hf x y hs)
      | diff a b =>
        refine s_no (et_kind (K := K) (f := .diff a b) fa (ev_var rfl) (kind_str _)) kd_diff_same fun H4 e4 => ?_
        refine s_no (et_kind (K := K) (f := .diff a b) (fa.mono e4) (ev_var rfl) (kind_str _)) kd_diff_win fun H5 e5 => ?_
        refine ⟨_, _, _, L, rfl, fr.trans (FrP.of (e4.trans e5)), hP.mono (e4.trans e5), hL, fun j f hj hf x y hs => ?_⟩
        by_cases e : j = i
        · subst e
          rw [hg] at hf
          cases hf
          exact hs.elim
        · exact hdone j f (by omega) hf x y hs
      | eqv a b l =>
        refine s_no (et_kind (K := K) (f := .eqv a b l) fa (ev_var rfl) (kind_str _)) kd_eqv_same fun H4 e4 => ?_
        refine s_no (et_kind (K := K) (f := .eqv a b l) (fa.mono e4) (ev_var rfl) (kind_str _)) kd_eqv_win fun H5 e5 => ?_
        refine ⟨_, _, _, L, rfl, fr.trans (FrP.of (e4.trans e5)), hP.mono (e4.trans e5), hL, fun j f hj hf x y hs => ?_⟩
        by_cases e : j = i
        · subst e
          rw [hg] at hf
          cases hf
          exact hs.elim
        · exact hdone j f (by omega) hf x y hs
      | win a W =>
        refine s_no (et_kind (K := K) (f := .win a W) fa (ev_var rfl) (kind_str _)) kd_win_same fun H4 e4 => ?_
        refine s_yes (et_kind (K := K) (f := .win a W) (fa.mono e4) (ev_var rfl) (kind_str _)) kd_win_win fun H5 e5 => ?_
        obtain ⟨c, d, rfl, hc, hd⟩ := (fa.mono e4).mono e5
        obtain ⟨og1, og2⟩ := og
        refine s_forK (K := K) (tk_call (by walk_at "ev") (v_links hd (by omega))) fun v H6 e6 r => ?_
        obtain ⟨b, ps, rfl, hb, hb6, hps⟩ := r
        have hp5 : ∃ dx5 l5, H5 p = some (.ins (CP K) dx5 (pF l5)) := by obtain ⟨dx5, l5, h, _⟩ := hP.mono (e4.trans e5); exact ⟨dx5, l5, h⟩
        obtain ⟨dx5, l5, hp5⟩ := hp5
        have nbp : b ≠ p := fun z => by rw [z, hp5] at hb; cases hb
        have ncp : c ≠ p := fun z => by rw [z, hp5] at hc; cases hc
        refine ⟨b, ps, fun j σ' H' => ∃ y4 y5 L', σ' = [some (.ref p), some (nV n), some (.ref lf), some (.ref c), y4, y5, none] ∧ FrP p H6 H' ∧ PartAt K H' p L' ∧ Pst fs n L' ∧ Coarser L L' ∧
          ∀ x y, (x, y) ∈ (linksD (distOf W)).take j → L'[a + x]? = L'[a + y]?, rfl, Evl.sq_of hb6, ⟨_, _, L, rfl, FrP.refl _ _, ((hP.mono e4).mono e5).mono e6, hL, Coarser.refl L, fun x y h => (by simp at h)⟩, fun j σ' H' _ hPv => ?_, fun j x σ' H' hj hPv => ?_, fun σ' H' hPv => ?_⟩
        · obtain ⟨_, _, _, _, fr', _⟩ := hPv
          exact Evl.sq_of (fr' _ _ nbp hb6)
        · obtain ⟨z4, z5, L', rfl, fr', hP', hL', co, dn⟩ := hPv
          obtain ⟨xy, hxy⟩ := get_some (xs := linksD (distOf W)) (i := j) (by rw [← hps.1]; exact lt_of_get hj)
          obtain ⟨u, rfl, hu⟩ := (hps.te (FrP.te fr' (e6 _ _ hp5))).2 j x xy hj hxy
          obtain ⟨m1, m2, m3⟩ := mem_links (List.mem_of_getElem? hxy)
          refine g2_ok (Evl.st_of hu) ?_
          obtain ⟨dx', ld', hp', hl'⟩ := hP'
          have hc' : H' c = some (.tup [sWin, nV a, .ref d]) := fr' _ _ ncp (e6 _ _ hc)
          refine me_call (m := "merge") (ev_var rfl) hp' (no_leaders (by decide +kernel)) (by walk_at "ev") fun H7 e7 => ?_
          have la : a + xy.1 < n := by omega
          have lb : a + xy.2 < n := by omega
          refine ⟨p, L', a + xy.1, a + xy.2, by simp, ⟨dx', ld', e7 _ _ hp', e7 _ _ hl'⟩, by rw [hL'.len]; omega, by rw [hL'.len]; exact la, by rw [hL'.len]; exact lb, fun H8 fr8 hP8 => ?_⟩
          refine ⟨_, _, _, rfl, (fr'.trans (FrP.of e7)).trans fr8, hP8, part_start (p := p) hL' la lb (.win gm (by omega) m2 m3), co.trans (mergeF_coarser _ _ _), fun x y hm => ?_⟩
          rw [take_snoc hxy] at hm
          rcases List.mem_append.mp hm with h | h
          · exact (mergeF_coarser L' _ _).2 _ _ (dn x y h)
          · have h := List.mem_singleton.mp h
            rw [← h]
            exact mergeF_eq (by rw [hL'.len, h]; exact la) (by rw [hL'.len, h]; exact lb)
        · obtain ⟨z4, z5, L', rfl, fr', hP', hL', co, dn⟩ := hPv
          rw [hps.1, List.take_length] at dn
          refine ⟨_, _, _, L', rfl, (fr.trans (FrP.of ((e4.trans e5).trans e6))).trans fr', hP', hL', fun j f hj hf x y hs => ?_⟩
          by_cases e : j = i
          · subst e
            rw [hg] at hf
            cases hf
            obtain ⟨x', y', rfl, rfl, k1, k2, k3⟩ := hs
            exact links_gen (M := W) (R := fun x y => L'[a + x]? = L'[a + y]?) (fun _ _ => rfl) (fun _ _ h => h.symm) (fun _ _ _ h1 h2 => h1.trans h2) dn x' y' k1 k2 k3
          · exact co.2 _ _ (hdone j f (by omega) hf x y hs)
    · obtain ⟨y3, y4, y5, L, rfl, fr, hP, hL, hdone⟩ := hPv
      have hst : Stated fs L := fun f hf a b hs => by
        obtain ⟨j, hj⟩ := List.getElem?_of_mem hf
        exact hdone j f (by rw [hul]; exact lt_of_get hj) hj a b hs
      clear hdone
      -- equivalences
      refine Go.here (go_setP (tk_lcL (K := K) (ev_var rfl) (Evl.sq_of (fr _ _ nlf hlf)) (by omega) (fun i acc _ => FPair H acc ((fs.take i).filter isEqv)) (fun _ _ _ _ _ h => h) (fun _ => rfl) (fun _ _ => FPair.nil) (fun i x acc H1 e hi hacc => ?_)) fun v H1 e r => ?_)
      · obtain ⟨g, hg⟩ := get_some (xs := fs) (i := i) (by rw [← hul]; exact lt_of_get hi)
        have fa : FactAt H1 x g := ((hat i x g hi hg).fr fr hp).mono e
        refine ⟨isEqv g, ?_, fun hb => ?_, fun hb => ⟨_, Tk.of (ev_var rfl), fun y H2 e2 r => ?_⟩⟩
        · rw [← kind_eqv]
          exact et_kind (K := K) fa (ev_var rfl) (kind_str _)
        · dsimp only
          rw [filter_snoc hg, hb]
          simpa using hacc
        · dsimp only
          rw [filter_snoc hg, hb, r]
          exact hacc.snoc (hat i x g hi hg)
      · obtain ⟨le, es, rfl, hle, hle1, hes⟩ := r
        rw [hul, List.take_length] at hes
        intro H2 e2
        have nlep : le ≠ p := fun z => by
          obtain ⟨dx', ld', hp', _⟩ := hP
          rw [z, hp'] at hle
          cases hle
        -- while any([..])
        refine ⟨fun m σ' H' => ∃ z3 L, σ' = [some (.ref p), some (nV n), some (.ref lf), z3, y4, y5, some (.ref le)] ∧ FrP p H H' ∧ H' le = some (.lst es) ∧ PartAt K H' p L ∧ Pst fs n L ∧ Stated fs L ∧ m = L.sum, ⟨_, y3, L, rfl, fr.trans (FrP.of (e.trans e2)), e2 _ _ hle1, hP.mono (e.trans e2), hL, hst, rfl⟩, fun m σ' H' hW => ?_⟩
        obtain ⟨z3, L, rfl, fr', hle', hP', hL', hst', rfl⟩ := hW
        refine ⟨_, rfl, le, rfl, ⟨es, Evl.sq_of hle'⟩, fun Dl hD => lc_list (K := K) (xs := es) (fun i H'' => ∃ Li bs, H'' Dl = some (.lst (bs.map V.bl)) ∧ FrP p H' H'' ∧ PartAt K H'' p Li ∧ Rnd fs n L (fs.filter isEqv) i Li bs) ?_ (fun i H'' _ hPv => ?_) (fun i x H'' hi hPv => ?_) (fun H'' hPv => ?_)⟩
        · exact ⟨L, [], upd_same, (FrP.refl p H').mut hD, hP'.mono (Ex.new hD), hL', Coarser.refl L, rfl, fun _ => ⟨rfl, fun j s t l hj => by omega⟩, fun z => by cases z⟩
        · obtain ⟨_, _, _, fr'', _⟩ := hPv
          exact Evl.sq_of (fr'' _ _ nlep hle')
        · obtain ⟨Li, bs, hDl, fr'', hP'', hR⟩ := hPv
          obtain ⟨g, hg⟩ := get_some (xs := fs.filter isEqv) (i := i) (by rw [← hes.1]; exact lt_of_get hi)
          obtain ⟨gm, ge⟩ := mem_filter_get hg
          have og := ok g gm
          cases g with
          | eqv s t l =>
            obtain ⟨o1, o2, o3, o4, o5, o6⟩ := og
            have hpH' : ∃ dx' ld', H' p = some (.ins (CP K) dx' (pF ld')) := by obtain ⟨a, b, h, _⟩ := hP'; exact ⟨a, b, h⟩
            have fa : FactAt H'' x (.eqv s t l) := by
              obtain ⟨dx', ld', hp'⟩ := hpH'
              exact ((hes.2 i x _ hi hg).fr fr' hp).fr fr'' hp'
            obtain ⟨dx'', ld'', hp'', hl''⟩ := id hP''
            refine ⟨rfl, ?_⟩
            show (tMeth (CP K) "copy_both_ways" (sp_copyBoth K) [] E0 (tVar 0) (tCons (tVar 3) tNil)) _ H'' _
            refine me_call (m := "copy_both_ways") (ev_var rfl) hp'' (no_leaders (by decide +kernel)) (by walk_at "ev") fun H5 e5 => ?_
            refine ⟨p, Li, x, s, t, l, rfl, fa.mono e5, hP''.mono e5, by rw [hR.pst.len]; omega, by rw [hR.pst.len]; exact o5, by rw [hR.pst.len]; exact o6, fun H6 fr6 hP6 => ?_⟩
            have nDp : Dl ≠ p := fun z => by
              obtain ⟨dx', ld', hp'⟩ := hpH'
              rw [z, hp'] at hD
              cases hD
            have hD6 : H6 Dl = some (.lst (bs.map V.bl)) := fr6 _ _ nDp (e5 _ _ hDl)
            have R' := hR.step hg gm o5 o6
            refine ⟨_, hD6, Evl.sz_lt (by rw [List.length_map, hR.blen]; have := lt_of_get hg; have := List.length_filter_le isEqv fs; omega), (bothF Li s t l).1, bs ++ [(bothF Li s t l).2], ?_, ((fr''.trans (FrP.of e5)).trans fr6).mut hD, hP6.put hD6 (by rw [R'.pst.len]; exact hn1), R'⟩
            rw [upd_same, List.map_append]
            rfl
          | same a b => cases ge
          | diff a b => cases ge
          | win a b => cases ge
        · obtain ⟨Li, bs, hDl, fr'', hP'', hR⟩ := hPv
          rw [hes.1] at hR
          refine ⟨Dl, bs, rfl, Evl.sq_of hDl, bs.any id, rfl, ?_⟩
          cases hb : bs.any id with
          | true =>
            rw [if_pos rfl]
            refine ⟨fun σ2 H2 => ∃ m', m' < L.sum ∧ _, fun σ2 H2 h => h, Li.sum, hR.on hb, z3, Li, rfl, fr'.trans fr'', fr'' _ _ nlep hle', hP'', hR.pst, hst'.coarser hR.coarser, rfl⟩
          | false =>
            rw [if_neg Bool.false_ne_true]
            obtain ⟨e1, e2⟩ := hR.off hb
            subst e1
            refine q _ Li (fr'.trans fr'') hP'' (part_of hL'.len hL'.sound hst' fun s t l hm => ?_)
            obtain ⟨j, hj⟩ := List.getElem?_of_mem (List.mem_filter.mpr ⟨hm, rfl⟩ : Fact.eqv s t l ∈ fs.filter isEqv)
            exact e2 j s t l (lt_of_get hj) hj
end
end Hfb
namespace Hfb
open PySem PySem.Spec PyProof.Rows L2
open Evl (Ex Ev EvT EvA EvL EvU ev_op ev_var ev_c ev_call ea_cons ea_nil)
section
variable {P : Program} {w : World} {K : PySem.W.Frag} {mg : Str → Option Value} {base : Heap} {H : Hp}
local macro_rules | `(tactic| walk_at "spv") => `(tactic| first | exact v_isInt | exact v_isIntD | exact v_twoPos | exact v_isSeq (.t (by assumption)) | exact v_isSeq (.l (by assumption)) | exact v_isDist (by assumption) (by omega))
local macro_rules | `(tactic| walk_at "rv") => `(tactic| first
  | with_reducible exact Evl.rv_I0
  | ((with_reducible refine Evl.rv_eq ?_); rfl)
  | ((with_reducible refine Evl.rv_ne ?_); rfl)
  | ((with_reducible apply Evl.rv_ixT); (first | assumption | exact Evl.st_of (by assumption)); (first | rfl | assumption))
  | ((with_reducible apply Evl.rv_ixL); (first | assumption | exact Evl.sq_of (by assumption)); (first | rfl | assumption))
  | exact isi_int
  | exact isi_bool
  | exact isi_str
  | exact rc_max
  | exact rc_min
  | (apply rc_lenL; first | assumption | exact Evl.sq_of (by assumption))
  | (apply rc_lenT; first | assumption | exact Evl.st_of (by assumption))
  | walk_at "fld"
  | walk_at "spv")
local macro_rules | `(tactic| walk_at "ev") => `(tactic| first
  | ((with_reducible apply Evl.ev_var); rfl)
  | with_reducible exact Evl.ev_c
  | with_reducible exact Evl.ea_nil
  | ((with_reducible apply Evl.ea_cons) <;> walk_at "ev")
  | ((with_reducible apply Evl.ev_op) <;> walk_at "ev")
  | ((with_reducible apply ev_chain) <;> walk_at "ev")
  | ((with_reducible apply Evl.ev_cb) <;> walk_at "ev")
  | ((with_reducible apply Evl.ev_call) <;> walk_at "ev")
  | ((with_reducible apply Evl.ev_notV) <;> walk_at "ev")
  | ((with_reducible apply ev_andU) <;> walk_at "ev")
  | ((with_reducible apply ev_orU) <;> walk_at "ev")
  | ((with_reducible apply Evl.et_B) <;> walk_at "ev")
  | ((with_reducible apply Evl.et_test) <;> walk_at "ev")
  | ((with_reducible apply Evl.et_not) <;> walk_at "ev")
  | ((with_reducible apply et_andU) <;> walk_at "ev")
  | ((with_reducible apply et_orU) <;> walk_at "ev")
  | walk_at "rv")
/-! ### sorted of a tuple of ints -/
def rSortedTu (K : PySem.W.Frag) : List V → Hp → VK → Prop := fun vs H Q => ∃ (a : Addr) (ns : List Int), vs = [V.ref a] ∧ SqT K H a (ns.map V.int) ∧ ns.length < 64 ∧
  ∀ (ms : List Int) (p : Addr), ms.Perm ns → ms.Pairwise (· ≤ ·) → H p = none → Q (.ref p) (upd H p (.lst (ms.map V.int)))
theorem cr_sortedTu {X : Cx} : CallR X (.builtin "sorted") (rSortedTu X.K) := by
  intro pins s σ H xs us Q I r h
  obtain ⟨a, ns, rfl, hs, h64, q⟩ := h
  obtain ⟨its, rv, ⟨o, ho, hc, n, hd⟩, hz⟩ := I.tuple hs
  rw [Vals.ref1 r]
  have hi := rv.ints
  have il : its.length = ns.length := by have := rv.length; rw [List.length_map] at this; exact this.symm
  refine PySem.Calls.call_function_entry PyProof.Rows.kind_sorted PyProof.Rows.plain_sorted PyProof.Rows.entry_sorted (PyProof.Rows.args_sorted1 _) ?_
  unfold Builtin.«sorted»
  refine wpAny_bind (m := checkCount "sorted" 1 1 _) (wpAny_pure ?_)
  have szl : its.toArray.size ≤ sizeLine := by rw [List.size_toArray, il]; exact small64 h64
  refine wpAny_bind (wpAny_collect_seq a (.inr rfl) ho hc hd (fun h' hk => ?_) szl)
  have ea : its.toArray.toList = its := by simp
  rw [ea]
  refine wpAny_bind (wpAny_newList ?_ (by rw [il]; exact small64 h64))
  have hoL : (h'.push (PyProof.Rows.seqObj "list" its.toArray 0)).get? h'.objs.size = some (PyProof.Rows.seqObj "list" its.toArray 0) := Heap.get?_push_size _ rfl
  refine wpAny_bind (wpAny_holding (wpAny_call_entry PyProof.Rows.slot_list_sort ⟨_, hoL, rfl⟩ PyProof.Rows.entry_list_sort (PyProof.Rows.list_sort_tree hoL hi (by rw [il]; exact h64) fun out ms a1 a2 a3 => ⟨_, rfl, ?_⟩) (PyProof.Rows.args_list_sort _)))
  refine wpAny_pure ⟨_, rfl, ?_⟩
  obtain ⟨ep, he'⟩ := PyProof.Rows.sortedHeap_at (vs := its) (out := out) hoL
  have I1 := I.kept (t' := s.toks) hk
  have hlen : (ms.map V.int).length ≤ sizeLine := by rw [List.length_map, a2.length_eq]; exact small64 h64
  refine ⟨.ref _, upd H h'.objs.size (.lst (ms.map V.int)), I1.laid (t' := s.toks) (fun b u hb => ?_) (Nat.le_refl _) ⟨hlen, out.toList, ep, vals_of_ints a1, he'⟩, rfl, q ms _ a2 a3 (I1.hok.fresh (Nat.le_refl _))⟩
  have lt := Heap.lt_size hb
  rw [PyProof.Rows.sortedHeap_old (Nat.ne_of_lt lt) (by rw [PyProof.Rows.size_push']; exact Nat.lt_succ_of_lt lt), Heap.get?_push_ne _ _ _ (Nat.ne_of_lt lt)]
  exact hb
end
end Hfb
namespace Hfb
open PySem PySem.Spec PyProof.Rows L2
open Evl (Ex Ev EvT EvA EvL EvU ev_op ev_var ev_c ev_call ea_cons ea_nil)
section
variable {P : Program} {w : World} {K : PySem.W.Frag} {mg : Str → Option Value} {base : Heap} {H : Hp}
local macro_rules | `(tactic| walk_at "spv") => `(tactic| first | exact v_isInt | exact v_isIntD | exact v_twoPos | exact v_isSeq (.t (by assumption)) | exact v_isSeq (.l (by assumption)) | exact v_isDist (by assumption) (by omega))
local macro_rules | `(tactic| walk_at "rv") => `(tactic| first
  | with_reducible exact Evl.rv_I0
  | ((with_reducible refine Evl.rv_eq ?_); rfl)
  | ((with_reducible refine Evl.rv_ne ?_); rfl)
  | ((with_reducible apply Evl.rv_ixT); (first | assumption | exact Evl.st_of (by assumption)); (first | rfl | assumption))
  | ((with_reducible apply Evl.rv_ixL); (first | assumption | exact Evl.sq_of (by assumption)); (first | rfl | assumption))
  | exact isi_int
  | exact isi_bool
  | exact isi_str
  | exact rc_max
  | exact rc_min
  | (apply rc_lenL; first | assumption | exact Evl.sq_of (by assumption))
  | (apply rc_lenT; first | assumption | exact Evl.st_of (by assumption))
  | walk_at "fld"
  | walk_at "spv")
local macro_rules | `(tactic| walk_at "ev") => `(tactic| first
  | ((with_reducible apply Evl.ev_var); rfl)
  | with_reducible exact Evl.ev_c
  | with_reducible exact Evl.ea_nil
  | ((with_reducible apply Evl.ea_cons) <;> walk_at "ev")
  | ((with_reducible apply Evl.ev_op) <;> walk_at "ev")
  | ((with_reducible apply ev_chain) <;> walk_at "ev")
  | ((with_reducible apply Evl.ev_cb) <;> walk_at "ev")
  | ((with_reducible apply Evl.ev_call) <;> walk_at "ev")
  | ((with_reducible apply Evl.ev_notV) <;> walk_at "ev")
  | ((with_reducible apply ev_andU) <;> walk_at "ev")
  | ((with_reducible apply ev_orU) <;> walk_at "ev")
  | ((with_reducible apply Evl.et_B) <;> walk_at "ev")
  | ((with_reducible apply Evl.et_test) <;> walk_at "ev")
  | ((with_reducible apply Evl.et_not) <;> walk_at "ev")
  | ((with_reducible apply et_andU) <;> walk_at "ev")
  | ((with_reducible apply et_orU) <;> walk_at "ev")
  | walk_at "rv")
/-! ### equal data -/
abbrev dI (ns : List Int) : List PyData := ns.map PyData.int
theorem can_ints : ∀ ns : List Int, PyData.canLayAll0 (dI ns) = true
  | [] => rfl
  | x :: r => by show (PyData.canLay0 (.int x) && PyData.canLayAll0 (dI r)) = true; rw [can_ints r]; rfl
theorem depth_ints : ∀ ns : List Int, PyData.depthAll (dI ns) = 0
  | [] => by simp [PyData.depthAll]
  | x :: r => by show PyData.depthAll (PyData.int x :: dI r) = 0; simp only [PyData.depthAll, PyData.depth, depth_ints r]; rfl
theorem shaped_L (ns : List Int) : SeqAt.shaped (.list (dI ns)) = true := by
  unfold SeqAt.shaped
  rw [Bool.and_eq_true]
  refine ⟨?_, decide_eq_true ?_⟩
  · show PyData.canLayAll0 (dI ns) = true
    exact can_ints ns
  · simp only [PyData.depth, depth_ints]; decide
theorem shaped_T (ns : List Int) : SeqAt.shaped (.tuple (dI ns)) = true := by
  unfold SeqAt.shaped
  rw [Bool.and_eq_true]
  refine ⟨?_, decide_eq_true ?_⟩
  · show PyData.canLayAll0 (dI ns) = true
    exact can_ints ns
  · simp only [PyData.depth, depth_ints]; decide
theorem eqv_ints : ∀ ns ms : List Int, PyData.eqvAll (dI ns) (dI ms) = decide (ns = ms)
  | [], [] => by simp [PyData.eqvAll]
  | [], _ :: _ => by simp [PyData.eqvAll]
  | _ :: _, [] => by simp [PyData.eqvAll]
  | x :: r, y :: s => by
    show PyData.eqvAll (PyData.int x :: dI r) (PyData.int y :: dI s) = _
    simp only [PyData.eqvAll, PyData.eqv, eqv_ints r s]
    rw [Bool.eq_iff_iff]
    simp
theorem dp_ints {H : Hp} : ∀ ns : List Int, DpAll K H (ns.map V.int) (dI ns)
  | [] => .nil
  | x :: r => .cons (.int x) (dp_ints r)
theorem dp_L {p : Addr} {ns : List Int} (h : H p = some (.lst (ns.map V.int))) : Dp K H (.ref p) (.list (dI ns)) := .lst (Evl.sq_of h) (dp_ints ns)
theorem dp_T {p : Addr} {ns : List Int} (h : H p = some (.tup (ns.map V.int))) : Dp K H (.ref p) (.tuple (dI ns)) := .tup (Evl.st_of h) (dp_ints ns)
abbrev IsIL (ns : List Int) (v : V) (H' : Hp) : Prop := ∃ p, v = .ref p ∧ H' p = some (.lst (ns.map V.int))
theorem ev_eqLL {σ : L2.St} {t1 t2 : TE} {ns ms : List Int} (h1 : Tk t1 σ H (IsIL ns)) (h2 : Tk t2 σ H (IsIL ms)) : Ev (tOp (rEqD K) t1 t2) σ H (.bl (decide (ns = ms))) := fun H1 e Q q =>
  h1 H1 e _ fun v1 H2 e2 r1 => h2 H2 (e.trans e2) _ fun v2 H3 e3 r2 => by
    obtain ⟨p1, rfl, k1⟩ := r1
    obtain ⟨p2, rfl, k2⟩ := r2
    refine ⟨_, _, dp_L (e3 _ _ k1), dp_L k2, shaped_L ns, shaped_L ms, ?_⟩
    have ee : PyData.eqv (.list (dI ns)) (.list (dI ms)) = decide (ns = ms) := by
      show PyData.eqvAll (dI ns) (dI ms) = _
      exact eqv_ints ns ms
    rw [ee]
    exact q H3 (e2.trans e3)
theorem ev_neLL {σ : L2.St} {t1 t2 : TE} {ns ms : List Int} (h1 : Tk t1 σ H (IsIL ns)) (h2 : Tk t2 σ H (IsIL ms)) : Ev (tOp (rNeD K) t1 t2) σ H (.bl (!decide (ns = ms))) := fun H1 e Q q =>
  h1 H1 e _ fun v1 H2 e2 r1 => h2 H2 (e.trans e2) _ fun v2 H3 e3 r2 => by
    obtain ⟨p1, rfl, k1⟩ := r1
    obtain ⟨p2, rfl, k2⟩ := r2
    refine ⟨_, _, dp_L (e3 _ _ k1), dp_L k2, shaped_L ns, shaped_L ms, ?_⟩
    have ee : PyData.eqv (.list (dI ns)) (.list (dI ms)) = decide (ns = ms) := by
      show PyData.eqvAll (dI ns) (dI ms) = _
      exact eqv_ints ns ms
    rw [ee]
    exact q H3 (e2.trans e3)
/-- sorted of fact[1:], a pair -/
theorem tk_sortedTu2 {σ : L2.St} {te : TE} {p : Addr} {x : V} {a b : Int} (he : Ev te σ H (.ref p)) (h : H p = some (.tup [x, .int a, .int b])) :
    Tk (tCB (rSortedTu K) (tCons (tSl (rSlT K) te (tPart (tC (.int 1))) tNoPart) tNil)) σ H (IsIL [min a b, max a b]) :=
  tk_cbK (R := fun v H2 => ∃ q, v = .ref q ∧ H2 q = some (.tup [.int a, .int b])) (fun H1 e Q q => he H1 e _ fun H2 e2 => ⟨1, rfl, p, _, rfl, Evl.st_of (e2 _ _ (e _ _ h)), (by show ¬ (HT.sIx 3 0 (some 1) = 0 ∧ HT.sIx 3 3 none = 3); decide), fun m hm => q _ _ (e2.trans (Ex.new hm)) ⟨m, rfl, upd_same⟩⟩) fun v H2 e r => by
    obtain ⟨q, rfl, h2⟩ := r
    intro H3 e3 Q k
    refine ⟨q, [a, b], rfl, Evl.st_of (e3 _ _ h2), by simp, fun ns l hp hs hn => ?_⟩
    rw [perm_two hp hs]
    exact k _ _ (Ex.new hn) ⟨l, rfl, upd_same⟩

/-! ### window_symbols -/
def InW (s : Nat) (W : List Nat) (a b : Nat) : Prop := s ≤ a ∧ a < s + W.length ∧ s ≤ b ∧ b < s + W.length
instance (s : Nat) (W : List Nat) (a b : Nat) : Decidable (InW s W a b) := by unfold InW; infer_instance
def WinR (s : Nat) (W : List Nat) (a b : Nat) (v : V) (H' : Hp) : Prop :=
  (InW s W a b ∧ ∃ p F x y, v = .ref p ∧ Ker W F ∧ F[a - s]? = some x ∧ F[b - s]? = some y ∧ H' p = some (.tup [nV x, nV y])) ∨ (¬ InW s W a b ∧ v = .non)
def sp_winSym : Sp := fun vs H Q _ => ∃ (v : V) (s : Nat) (W : List Nat) (a b : Nat), vs = [v, nV a, nV b] ∧ FactAt H v (.win s W) ∧ W.length ≤ 60 ∧ ∀ u H', Ex H H' → WinR s W a b u H' → Q u H'
theorem v_winSym {v : V} {s : Nat} {W : List Nat} {a b : Nat} (h : FactAt H v (.win s W)) (hl : W.length ≤ 60) : SpK sp_winSym [v, nV a, nV b] H (WinR s W a b) := fun H1 e Q q E => ⟨v, s, W, a, b, rfl, h.mono e, hl, q⟩
theorem cl_winSym (T : Tx K mg) (c_representatives : Cl P w K mg base 1 "representatives" sp_reps) (A : At K mg "window_symbols" "window_symbols" "window_symbols" s_window_symbols []) : Cl P w K mg base 2 "window_symbols" sp_winSym := by
  refine cl_of A sc_window_symbols (fun _ _ _ _ _ _ us hl => match us, hl with | [_, _, _], _ => rfl) (fun vs H Q E h => ?_) (fun f cdv A outer s H vs Q E hr h => ?_)
  · obtain ⟨v, s, W, a, b, rfl, _⟩ := h
    rfl
  · obtain ⟨v, s, W, a, b, rfl, ⟨c, d, rfl, hc, hd⟩, hl, q⟩ := h
    refine ⟨_, (pss_cons (ps_set (i := 3) sc_window_symbols.nd rfl (Or.inr rfl) (pcl c_representatives (hr.mono (by decide)) rfl (pa_cons (pe_ix ix_tup (pv 0) pe_int (fun _ _ => rfl)) pa_nil)))
      (pss_cons (ps_set (i := 4) sc_window_symbols.nd rfl (Or.inl rfl) (pe_lst (pa_cons (pe_op op_sub (pv 1) (pe_ix ix_tup (pv 0) pe_int (fun _ _ => rfl))) (pa_cons (pe_op op_sub (pv 2) (pe_ix ix_tup (pv 0) pe_int (fun _ _ => rfl))) pa_nil))))
      (pss_cons (ps_if (pt_not (pt_val (pe_callB (cr_all rfl) rfl T.b_all (by decide +kernel) (pa_cons (pe_lc (own := [("offset", 5)]) (g := gName 5) (by rfl) sc_window_symbols.nd (pi_list (pv 4)) (blkOk_by (own := [("offset", 5)]) (N := N_window_symbols) (sc := defScope s_window_symbols) (by decide +kernel)) (fun _ _ _ _ _ => (pg_name (i := 5) sc_window_symbols.nd rfl (Or.inl rfl))) (fun _ _ _ _ _ => pts_nil) (fun _ _ _ _ _ => (pe_chain op_le op_lt pe_int (pv 5) (pe_callB (r := Evl.rLenS K) call_len_seq rfl T.b_len (by decide +kernel) (pa_cons (pv 3) pa_nil))))) pa_nil)))) (pss_one (ps_ret pe_non)) pss_nil)
      (pss_one (ps_ret (pe_tup (pa_cons (pe_ix ix_list (pv 3) (pe_ix ix_list (pv 4) pe_int (fun _ _ => rfl)) (fun _ _ => rfl)) (pa_cons (pe_ix ix_list (pv 3) (pe_ix ix_list (pv 4) pe_int (fun _ _ => rfl)) (fun _ _ => rfl)) pa_nil)))))))), ?_⟩
    refine Go.here (go_setP (tk_call (by walk_at "ev") (v_reps hd (by omega))) fun v1 H1 e1 r1 => ?_)
    obtain ⟨F, pf, rfl, hk, hpf, hpf1⟩ := r1
    have hc1 := e1 _ _ hc
    refine go_setP (tk_lst (vs := [.int ((a : Int) - (s : Int)), .int ((b : Int) - (s : Int))]) (by walk_at "ev") (by simp)) fun v2 H2 e2 r2 => ?_
    obtain ⟨po, rfl, hpo, hpo2⟩ := r2
    have hpf2 := e2 _ _ hpf1
    have lF : F.length = W.length := hk.1.symm
    have lnF : (nL F).length = W.length := by rw [List.length_map, lF]
    refine go_when (b := !decide (InW s W a b)) (Evl.et_not (Evl.et_B (ev_cbK (tk_lcL (K := K) (ev_var rfl) (Evl.sq_of hpo2) (by simp) (fun i acc _ => acc = (([decide ((0 : Int) ≤ (a : Int) - (s : Int)) && decide ((a : Int) - (s : Int) < (W.length : Nat)), decide ((0 : Int) ≤ (b : Int) - (s : Int)) && decide ((b : Int) - (s : Int) < (W.length : Nat))] : List Bool).take i).map V.bl) (fun _ _ _ _ _ h => h) (fun _ => rfl) (fun _ _ => rfl) (fun i x acc H' e hi hacc => ?_)) fun v H3 e3 r3 => ?_))) (fun hb => ?_) (fun hb => ?_)
    · have hpf3 := e _ _ hpf2
      match i, hi with
      | 0, hi =>
        cases hi
        refine ⟨true, fun H1 e1 Q' q' => q' H1 (Ex.refl H1), fun z => (nomatch z), fun _ => ⟨_, Tk.of (by walk_at "ev"), fun y H2 e2 r => ?_⟩⟩
        rw [r, hacc, lnF]
        rfl
      | 1, hi =>
        cases hi
        refine ⟨true, fun H1 e1 Q' q' => q' H1 (Ex.refl H1), fun z => (nomatch z), fun _ => ⟨_, Tk.of (by walk_at "ev"), fun y H2 e2 r => ?_⟩⟩
        rw [r, hacc, lnF]
        rfl
    · obtain ⟨p, acc, rfl, hp, h3, rfl⟩ := r3
      have ee : decide (InW s W a b) = ([decide ((0 : Int) ≤ (a : Int) - (s : Int)) && decide ((a : Int) - (s : Int) < (W.length : Nat)), decide ((0 : Int) ≤ (b : Int) - (s : Int)) && decide ((b : Int) - (s : Int) < (W.length : Nat))] : List Bool).all id := by
        rw [Bool.eq_iff_iff, decide_eq_true_iff]
        show (s ≤ a ∧ a < s + W.length ∧ s ≤ b ∧ b < s + W.length) ↔ _
        simp
        omega
      rw [ee]
      exact rc_all (Evl.sq_of h3)
    · have hb : ¬ InW s W a b := by simpa using hb
      exact go_ret ev_c fun H3 e3 => q _ H3 ((e1.trans e2).trans e3) (.inr ⟨hb, rfl⟩)
    · have hb : InW s W a b := by simpa using hb
      obtain ⟨b1, b2, b3, b4⟩ := id hb
      obtain ⟨x, hx⟩ := get_some (xs := F) (i := a - s) (by omega)
      obtain ⟨y, hy⟩ := get_some (xs := F) (i := b - s) (by omega)
      refine go_retP (tk_tup (vs := [nV x, nV y]) (ea_cons (ev_op (ev_var rfl) (ev_op (ev_var rfl) ev_c (Evl.rv_ixL (Evl.sq_of hpo2) rfl)) (Evl.rv_ixL (Evl.sq_of hpf2) (nL_atI hx (by omega)))) (ea_cons (ev_op (ev_var rfl) (ev_op (ev_var rfl) ev_c (Evl.rv_ixL (Evl.sq_of hpo2) rfl)) (Evl.rv_ixL (Evl.sq_of hpf2) (nL_atI hy (by omega)))) ea_nil)) (by simp)) fun v H3 e3 r3 => ?_
      obtain ⟨p, rfl, hp, h3⟩ := r3
      exact q _ H3 ((e1.trans e2).trans e3) (.inl ⟨hb, p, F, x, y, rfl, hk, hx, hy, h3⟩)
end
end Hfb
namespace Hfb
open PySem PySem.Spec PyProof.Rows L2
open Evl (Ex Ev EvT EvA EvL EvU ev_op ev_var ev_c ev_call ea_cons ea_nil)
section
variable {P : Program} {w : World} {K : PySem.W.Frag} {mg : Str → Option Value} {base : Heap} {H : Hp}
local macro_rules | `(tactic| walk_at "spv") => `(tactic| first | exact v_isInt | exact v_isIntD | exact v_twoPos | exact v_isSeq (.t (by assumption)) | exact v_isSeq (.l (by assumption)) | exact v_isDist (by assumption) (by omega))
local macro_rules | `(tactic| walk_at "rv") => `(tactic| first
  | with_reducible exact Evl.rv_I0
  | ((with_reducible refine Evl.rv_eq ?_); rfl)
  | ((with_reducible refine Evl.rv_ne ?_); rfl)
  | ((with_reducible apply Evl.rv_ixT); (first | assumption | exact Evl.st_of (by assumption)); (first | rfl | assumption))
  | ((with_reducible apply Evl.rv_ixL); (first | assumption | exact Evl.sq_of (by assumption)); (first | rfl | assumption))
  | exact isi_int
  | exact isi_bool
  | exact isi_str
  | exact rc_max
  | exact rc_min
  | (apply rc_lenL; first | assumption | exact Evl.sq_of (by assumption))
  | (apply rc_lenT; first | assumption | exact Evl.st_of (by assumption))
  | walk_at "fld"
  | walk_at "spv")
local macro_rules | `(tactic| walk_at "ev") => `(tactic| first
  | ((with_reducible apply Evl.ev_var); rfl)
  | with_reducible exact Evl.ev_c
  | with_reducible exact Evl.ea_nil
  | ((with_reducible apply Evl.ea_cons) <;> walk_at "ev")
  | ((with_reducible apply Evl.ev_op) <;> walk_at "ev")
  | ((with_reducible apply ev_chain) <;> walk_at "ev")
  | ((with_reducible apply Evl.ev_cb) <;> walk_at "ev")
  | ((with_reducible apply Evl.ev_call) <;> walk_at "ev")
  | ((with_reducible apply Evl.ev_notV) <;> walk_at "ev")
  | ((with_reducible apply ev_andU) <;> walk_at "ev")
  | ((with_reducible apply ev_orU) <;> walk_at "ev")
  | ((with_reducible apply Evl.et_B) <;> walk_at "ev")
  | ((with_reducible apply Evl.et_test) <;> walk_at "ev")
  | ((with_reducible apply Evl.et_not) <;> walk_at "ev")
  | ((with_reducible apply et_andU) <;> walk_at "ev")
  | ((with_reducible apply et_orU) <;> walk_at "ev")
  | walk_at "rv")
noncomputable def bP (p : Prop) : Bool := @decide p (Classical.propDecidable p)
theorem bP_iff {p : Prop} : bP p = true ↔ p := by unfold bP; exact @decide_eq_true_iff p (Classical.propDecidable p)
theorem bP_true {p : Prop} (h : p) : bP p = true := bP_iff.mpr h
theorem bP_false {p : Prop} (h : ¬ p) : bP p = false := by
  cases e : bP p with
  | false => rfl
  | true => exact absurd (bP_iff.mp e) h
theorem bP_of {p : Prop} {b : Bool} (h : b = true ↔ p) : b = bP p := by
  rw [Bool.eq_iff_iff, h, bP_iff]
theorem rv_isN {x : V} : Evl.RV (fun x y H Q => y = .non ∧ Q (.bl (decide (x = .non))) H) x .non H (.bl (decide (x = .non))) := fun H1 e Q q => ⟨rfl, q H1 (Ex.refl H1)⟩
theorem rv_notN {x : V} : Evl.RV (fun x y H Q => y = .non ∧ Q (.bl (!decide (x = .non))) H) x .non H (.bl (!decide (x = .non))) := fun H1 e Q q => ⟨rfl, q H1 (Ex.refl H1)⟩
theorem ker_iff {W F : List Nat} {i j x y : Nat} (k : Ker W F) (hi : i < W.length) (hj : j < W.length) (hx : F[i]? = some x) (hy : F[j]? = some y) : W[i]? = W[j]? ↔ x = y := by
  rw [k.2 i j hi hj, hx, hy]
  exact ⟨fun e => Option.some.inj e, fun e => by rw [e]⟩
theorem sortedPair {a b i j : Nat} : ([min (a : Int) b, max (a : Int) b] = [min (i : Int) j, max (i : Int) j]) ↔ ((a = i ∧ b = j) ∨ (a = j ∧ b = i)) := by
  simp
  omega
theorem not_kind {σ : L2.St} {te : TE} {v : V} {f : Fact} {x : Str} {c : Bool} (h : FactAt H v f) (he : Ev te σ H v) (hk : decide (kindV f = .str x) = c) : EvT (tTest (tOp rEq (tOp (rIxT K) te (tC (.int 0))) (tC (.str x)))) σ H c := by
  rw [← hk]
  exact et_kind h he (kind_str f)
def sp_sDiff : Sp := fun vs H Q _ => ∃ (v : V) (f : Fact) (n a b : Nat), vs = [v, nV a, nV b] ∧ FactAt H v f ∧ f.Ok n ∧ n ≤ 60 ∧ ∀ H', Ex H H' → Q (.bl (bP (SDiff f a b))) H'
theorem v_sDiff {v : V} {f : Fact} {n a b : Nat} (h : FactAt H v f) (ok : f.Ok n) (hn : n ≤ 60) : Evl.SpV sp_sDiff [v, nV a, nV b] H (.bl (bP (SDiff f a b))) := fun H1 e Q q E => ⟨v, f, n, a, b, rfl, h.mono e, ok, hn, q⟩
theorem cl_sDiff (T : Tx K mg) (c_window_symbols : Cl P w K mg base 2 "window_symbols" sp_winSym) (A : At K mg "states_different" "states_different" "states_different" s_states_different []) : Cl P w K mg base 3 "states_different" sp_sDiff := by
  refine cl_of A sc_states_different (fun _ _ _ _ _ _ us hl => match us, hl with | [_, _, _], _ => rfl) (fun vs H Q E h => ?_) (fun f cdv A outer s H vs Q E hr h => ?_)
  · obtain ⟨v, f, n, a, b, rfl, _⟩ := h
    rfl
  · obtain ⟨v, f, n, a, b, rfl, hf, ok, hn, q⟩ := h
    refine ⟨_, (pss_cons (ps_if (pt_cmpR op_eq (pe_ix ix_tup (pv 0) pe_int (fun _ _ => rfl)) (pk T.DIFFERENT) (nomark _)) (pss_one (ps_ret (pe_cmpR (op_eqD hr.units) (pe_callB cr_sorted rfl T.b_sorted (by decide +kernel) (pa_cons (pe_lst (pa_cons (pv 1) (pa_cons (pv 2) pa_nil))) pa_nil)) (pe_callB cr_sortedTu rfl T.b_sorted (by decide +kernel) (pa_cons (pe_slice sl_tup (pv 0) (po_some pe_int) po_none) pa_nil)) (nomark _)))) pss_nil)
      (pss_cons (ps_set (i := 3) sc_states_different.nd rfl (Or.inl rfl) (pe_ifExp (pt_cmpR op_eq (pe_ix ix_tup (pv 0) pe_int (fun _ _ => rfl)) (pk T.WINDOW) (nomark _)) (pcl c_window_symbols (hr.mono (by decide)) rfl (pa_cons (pv 0) (pa_cons (pv 1) (pa_cons (pv 2) pa_nil)))) pe_non))
      (pss_one (ps_ret (pe_and (pe_cmpR op_notN (pv 3) pe_non (nomark _)) (pe_one (pe_cmpR op_ne (pe_ix ix_tup (pv 3) pe_int (fun _ _ => rfl)) (pe_ix ix_tup (pv 3) pe_int (fun _ _ => rfl)) (nomark _)))))))), ?_⟩
    cases f with
    | same i j =>
      refine Go.here (go_skip (not_kind (K := K) hf (ev_var rfl) kd_same_diff) rfl (go_set (v := .non) (Evl.ev_if (not_kind (K := K) hf (ev_var rfl) kd_same_win) (fun z => nomatch z) fun _ => ev_c) (go_ret (Evl.ev_is (Evl.ev_andV (a := false) (b := false) (ev_op (ev_var rfl) ev_c rv_notN) (fun z => nomatch z)) ?_) q)))
      exact congrArg V.bl (bP_false (fun z => z)).symm
    | eqv i j l =>
      refine Go.here (go_skip (not_kind (K := K) hf (ev_var rfl) kd_eqv_diff) rfl (go_set (v := .non) (Evl.ev_if (not_kind (K := K) hf (ev_var rfl) kd_eqv_win) (fun z => nomatch z) fun _ => ev_c) (go_ret (Evl.ev_is (Evl.ev_andV (a := false) (b := false) (ev_op (ev_var rfl) ev_c rv_notN) (fun z => nomatch z)) ?_) q)))
      exact congrArg V.bl (bP_false (fun z => z)).symm
    | diff i j =>
      obtain ⟨c, rfl, hc⟩ := id hf
      refine Go.here (go_take (not_kind (K := K) hf (ev_var rfl) kd_diff_diff) rfl (go_ret (Evl.ev_is (ev_eqLL (ns := [min (a : Int) b, max (a : Int) b]) (ms := [min (i : Int) j, max (i : Int) j]) (Tk.imp (tk_sorted2 (ev_var rfl) (ev_var rfl)) fun v H2 e r => ?_) (tk_sortedTu2 (ev_var rfl) hc)) ?_) q))
      · obtain ⟨p, rfl, _, h2⟩ := r
        exact ⟨p, rfl, h2⟩
      · congr 1
        refine bP_of ?_
        rw [decide_eq_true_iff]
        exact sortedPair
    | win s W =>
      obtain ⟨ok1, ok2⟩ := ok
      refine Go.here (go_skip (not_kind (K := K) hf (ev_var rfl) kd_win_diff) rfl (go_setP (tk_if (not_kind (K := K) hf (ev_var rfl) kd_win_win) (fun _ => tk_call (by walk_at "ev") (v_winSym hf (by omega))) (fun z => nomatch z)) fun v1 H1 e1 r1 => ?_))
      rcases r1 with ⟨⟨b1, b2, b3, b4⟩, p, F, x, y, rfl, hk, hx, hy, hp⟩ | ⟨hb, rfl⟩
      · refine go_ret (Evl.ev_is (Evl.ev_andV (a := true) (ev_op (ev_var rfl) ev_c rv_notN) fun _ => by walk_at "ev") ?_) fun H2 e2 => q H2 (e1.trans e2)
        congr 1
        rw [Bool.true_and]
        refine bP_of ?_
        have kk := ker_iff hk (by omega) (by omega) hx hy
        have : (!decide (nV x = nV y)) = true ↔ ¬ W[a - s]? = W[b - s]? := by
          rw [kk]
          simp
          omega
        rw [this]
        exact ⟨fun z => ⟨a - s, b - s, by omega, by omega, by omega, by omega, z⟩, fun ⟨x', y', k1, k2, k3, k4, k5⟩ => by
          have e1 : a - s = x' := by omega
          have e2 : b - s = y' := by omega
          rw [e1, e2]
          exact k5⟩
      · refine go_ret (Evl.ev_is (Evl.ev_andV (a := false) (b := false) (ev_op (ev_var rfl) ev_c rv_notN) (fun z => nomatch z)) ?_) fun H2 e2 => q H2 (e1.trans e2)
        exact congrArg V.bl (bP_false (fun ⟨x', y', k1, k2, k3, k4, k5⟩ => hb ⟨by omega, by omega, by omega, by omega⟩)).symm
def sp_sSame : Sp := fun vs H Q _ => ∃ (v : V) (f : Fact) (n a b : Nat), vs = [v, nV a, nV b] ∧ FactAt H v f ∧ f.Ok n ∧ n ≤ 60 ∧ ∀ H', Ex H H' → Q (.bl (bP (SSame f a b))) H'
theorem v_sSame {v : V} {f : Fact} {n a b : Nat} (h : FactAt H v f) (ok : f.Ok n) (hn : n ≤ 60) : Evl.SpV sp_sSame [v, nV a, nV b] H (.bl (bP (SSame f a b))) := fun H1 e Q q E => ⟨v, f, n, a, b, rfl, h.mono e, ok, hn, q⟩
theorem cl_sSame (T : Tx K mg) (c_window_symbols : Cl P w K mg base 2 "window_symbols" sp_winSym) (A : At K mg "states_same" "states_same" "states_same" s_states_same []) : Cl P w K mg base 3 "states_same" sp_sSame := by
  refine cl_of A sc_states_same (fun _ _ _ _ _ _ us hl => match us, hl with | [_, _, _], _ => rfl) (fun vs H Q E h => ?_) (fun f cdv A outer s H vs Q E hr h => ?_)
  · obtain ⟨v, f, n, a, b, rfl, _⟩ := h
    rfl
  · obtain ⟨v, f, n, a, b, rfl, hf, ok, hn, q⟩ := h
    refine ⟨_, (pss_cons (ps_if (pt_cmpR op_eq (pe_ix ix_tup (pv 0) pe_int (fun _ _ => rfl)) (pk T.SAME) (nomark _)) (pss_one (ps_ret (pe_cmpR (op_eqD hr.units) (pe_callB cr_sorted rfl T.b_sorted (by decide +kernel) (pa_cons (pe_lst (pa_cons (pv 1) (pa_cons (pv 2) pa_nil))) pa_nil)) (pe_callB cr_sortedTu rfl T.b_sorted (by decide +kernel) (pa_cons (pe_slice sl_tup (pv 0) (po_some pe_int) po_none) pa_nil)) (nomark _)))) pss_nil)
      (pss_cons (ps_set (i := 3) sc_states_same.nd rfl (Or.inl rfl) (pe_ifExp (pt_cmpR op_eq (pe_ix ix_tup (pv 0) pe_int (fun _ _ => rfl)) (pk T.WINDOW) (nomark _)) (pcl c_window_symbols (hr.mono (by decide)) rfl (pa_cons (pv 0) (pa_cons (pv 1) (pa_cons (pv 2) pa_nil)))) pe_non))
      (pss_one (ps_ret (pe_and (pe_cmpR op_notN (pv 3) pe_non (nomark _)) (pe_one (pe_cmpR op_eq (pe_ix ix_tup (pv 3) pe_int (fun _ _ => rfl)) (pe_ix ix_tup (pv 3) pe_int (fun _ _ => rfl)) (nomark _)))))))), ?_⟩
    cases f with
    | diff i j =>
      refine Go.here (go_skip (not_kind (K := K) hf (ev_var rfl) kd_diff_same) rfl (go_set (v := .non) (Evl.ev_if (not_kind (K := K) hf (ev_var rfl) kd_diff_win) (fun z => nomatch z) fun _ => ev_c) (go_ret (Evl.ev_is (Evl.ev_andV (a := false) (b := false) (ev_op (ev_var rfl) ev_c rv_notN) (fun z => nomatch z)) ?_) q)))
      exact congrArg V.bl (bP_false (fun z => z)).symm
    | eqv i j l =>
      refine Go.here (go_skip (not_kind (K := K) hf (ev_var rfl) kd_eqv_same) rfl (go_set (v := .non) (Evl.ev_if (not_kind (K := K) hf (ev_var rfl) kd_eqv_win) (fun z => nomatch z) fun _ => ev_c) (go_ret (Evl.ev_is (Evl.ev_andV (a := false) (b := false) (ev_op (ev_var rfl) ev_c rv_notN) (fun z => nomatch z)) ?_) q)))
      exact congrArg V.bl (bP_false (fun z => z)).symm
    | same i j =>
      obtain ⟨c, rfl, hc⟩ := id hf
      refine Go.here (go_take (not_kind (K := K) hf (ev_var rfl) kd_same_same) rfl (go_ret (Evl.ev_is (ev_eqLL (ns := [min (a : Int) b, max (a : Int) b]) (ms := [min (i : Int) j, max (i : Int) j]) (Tk.imp (tk_sorted2 (ev_var rfl) (ev_var rfl)) fun v H2 e r => ?_) (tk_sortedTu2 (ev_var rfl) hc)) ?_) q))
      · obtain ⟨p, rfl, _, h2⟩ := r
        exact ⟨p, rfl, h2⟩
      · congr 1
        refine bP_of ?_
        rw [decide_eq_true_iff]
        exact sortedPair
    | win s W =>
      obtain ⟨ok1, ok2⟩ := ok
      refine Go.here (go_skip (not_kind (K := K) hf (ev_var rfl) kd_win_same) rfl (go_setP (tk_if (not_kind (K := K) hf (ev_var rfl) kd_win_win) (fun _ => tk_call (by walk_at "ev") (v_winSym hf (by omega))) (fun z => nomatch z)) fun v1 H1 e1 r1 => ?_))
      rcases r1 with ⟨⟨b1, b2, b3, b4⟩, p, F, x, y, rfl, hk, hx, hy, hp⟩ | ⟨hb, rfl⟩
      · refine go_ret (Evl.ev_is (Evl.ev_andV (a := true) (ev_op (ev_var rfl) ev_c rv_notN) fun _ => by walk_at "ev") ?_) fun H2 e2 => q H2 (e1.trans e2)
        congr 1
        rw [Bool.true_and]
        refine bP_of ?_
        have kk := ker_iff hk (by omega) (by omega) hx hy
        have : (decide (nV x = nV y)) = true ↔ W[a - s]? = W[b - s]? := by
          rw [kk]
          simp
          omega
        rw [this]
        exact ⟨fun z => ⟨a - s, b - s, by omega, by omega, by omega, by omega, z⟩, fun ⟨x', y', k1, k2, k3, k4, k5⟩ => by
          have e1 : a - s = x' := by omega
          have e2 : b - s = y' := by omega
          rw [e1, e2]
          exact k5⟩
      · refine go_ret (Evl.ev_is (Evl.ev_andV (a := false) (b := false) (ev_op (ev_var rfl) ev_c rv_notN) (fun z => nomatch z)) ?_) fun H2 e2 => q H2 (e1.trans e2)
        exact congrArg V.bl (bP_false (fun ⟨x', y', k1, k2, k3, k4, k5⟩ => hb ⟨by omega, by omega, by omega, by omega⟩)).symm
end
end Hfb
namespace Hfb
open PySem PySem.Spec PyProof.Rows L2
open Evl (Ex Ev EvT EvA EvL EvU ev_op ev_var ev_c ev_call ea_cons ea_nil)
section
variable {P : Program} {w : World} {K : PySem.W.Frag} {mg : Str → Option Value} {base : Heap} {H : Hp}
local macro_rules | `(tactic| walk_at "spv") => `(tactic| first | exact v_isInt | exact v_isIntD | exact v_twoPos | exact v_isSeq (.t (by assumption)) | exact v_isSeq (.l (by assumption)) | exact v_isDist (by assumption) (by omega))
local macro_rules | `(tactic| walk_at "rv") => `(tactic| first
  | with_reducible exact Evl.rv_I0
  | ((with_reducible refine Evl.rv_eq ?_); rfl)
  | ((with_reducible refine Evl.rv_ne ?_); rfl)
  | ((with_reducible apply Evl.rv_ixT); (first | assumption | exact Evl.st_of (by assumption)); (first | rfl | assumption))
  | ((with_reducible apply Evl.rv_ixL); (first | assumption | exact Evl.sq_of (by assumption)); (first | rfl | assumption))
  | exact isi_int
  | exact isi_bool
  | exact isi_str
  | exact rc_max
  | exact rc_min
  | (apply rc_lenL; first | assumption | exact Evl.sq_of (by assumption))
  | (apply rc_lenT; first | assumption | exact Evl.st_of (by assumption))
  | walk_at "fld"
  | walk_at "spv")
local macro_rules | `(tactic| walk_at "ev") => `(tactic| first
  | ((with_reducible apply Evl.ev_var); rfl)
  | with_reducible exact Evl.ev_c
  | with_reducible exact Evl.ea_nil
  | ((with_reducible apply Evl.ea_cons) <;> walk_at "ev")
  | ((with_reducible apply Evl.ev_op) <;> walk_at "ev")
  | ((with_reducible apply ev_chain) <;> walk_at "ev")
  | ((with_reducible apply Evl.ev_cb) <;> walk_at "ev")
  | ((with_reducible apply Evl.ev_call) <;> walk_at "ev")
  | ((with_reducible apply Evl.ev_notV) <;> walk_at "ev")
  | ((with_reducible apply ev_andU) <;> walk_at "ev")
  | ((with_reducible apply ev_orU) <;> walk_at "ev")
  | ((with_reducible apply Evl.et_B) <;> walk_at "ev")
  | ((with_reducible apply Evl.et_test) <;> walk_at "ev")
  | ((with_reducible apply Evl.et_not) <;> walk_at "ev")
  | ((with_reducible apply et_andU) <;> walk_at "ev")
  | ((with_reducible apply et_orU) <;> walk_at "ev")
  | walk_at "rv")
/-! ### violated_pair -/
def ViolR (f : Fact) (L : List Nat) (u : V) (H' : Hp) : Prop :=
  (u = .non ∧ ∀ a b, SDiff f a b → L[a]? ≠ L[b]?) ∨ ∃ r a b, u = .ref r ∧ H' r = some (.tup [nV a, nV b]) ∧ SDiff f a b ∧ L[a]? = L[b]?
def sp_viol (K : PySem.W.Frag) : Sp := fun vs H Q _ => ∃ (p : Addr) (v : V) (f : Fact) (n : Nat) (L : List Nat), vs = [.ref p, v] ∧ PartAt K H p L ∧ FactAt H v f ∧ f.Ok n ∧ L.length = n ∧ n ≤ 60 ∧ ∀ u H', Ex H H' → ViolR f L u H' → Q u H'
theorem v_viol {p : Addr} {v : V} {f : Fact} {n : Nat} {L : List Nat} (hP : PartAt K H p L) (h : FactAt H v f) (ok : f.Ok n) (hl : L.length = n) (hn : n ≤ 60) : SpK (sp_viol K) [.ref p, v] H (ViolR f L) :=
  fun H1 e Q q E => ⟨p, v, f, n, L, rfl, hP.mono e, h.mono e, ok, hl, hn, q⟩
/-- a method that lays things, no more -/
theorem ev_meth {σ : L2.St} {C p dx : Addr} {fs : List (Str × V)} {m : Str} {sp : Sp} {ta : TE} {t : TA} {vs : List V} {E : XK} {z : V} (h : Ev ta σ H (.ref p)) (ho : H p = some (.ins C dx fs)) (hm : fs.lookup m = none) (ha : EvA t σ H vs)
    (hs : Evl.SpV sp (.ref p :: (vs ++ [])) H z) : Ev (tMeth C m sp [] E ta t) σ H z := fun H1 e Q q =>
  h H1 e _ fun H2 e2 => ⟨p, dx, fs, rfl, e2 _ _ (e _ _ ho), hm, ha H2 (e.trans e2) _ fun H3 e3 => hs H3 ((e.trans e2).trans e3) Q (fun H4 e4 => q H4 ((e2.trans e3).trans e4)) E⟩
theorem tk_meth {σ : L2.St} {C p dx : Addr} {fs : List (Str × V)} {m : Str} {sp : Sp} {ta : TE} {t : TA} {vs : List V} {E : XK} {R : V → Hp → Prop} (h : Ev ta σ H (.ref p)) (ho : H p = some (.ins C dx fs)) (hm : fs.lookup m = none) (ha : EvA t σ H vs)
    (hs : SpK sp (.ref p :: (vs ++ [])) H R) : Tk (tMeth C m sp [] E ta t) σ H R := fun H1 e Q q =>
  h H1 e _ fun H2 e2 => ⟨p, dx, fs, rfl, e2 _ _ (e _ _ ho), hm, ha H2 (e.trans e2) _ fun H3 e3 => hs H3 ((e.trans e2).trans e3) Q (fun v H4 e4 r => q v H4 ((e2.trans e3).trans e4) r) E⟩
theorem v_areEqual {p : Addr} {L : List Nat} {a b : Nat} (hP : PartAt K H p L) (ha : a < L.length) (hb : b < L.length) : Evl.SpV (sp_areEqual K) [.ref p, nV a, nV b] H (.bl (decide (L[a]? = L[b]?))) := fun H1 e Q q E => ⟨p, L, a, b, rfl, hP.mono e, ha, hb, q⟩
/-- pairs that are to be looked at -/
structure Prs (f : Fact) (n : Nat) (ps : List (Nat × Nat)) : Prop where
  lt : ∀ x y, (x, y) ∈ ps → x < n ∧ y < n
  all : ∀ a b, SDiff f a b → (a, b) ∈ ps ∨ (b, a) ∈ ps
theorem s_app2 {σ : L2.St} {D : Ends} {ta te : TE} {l : Addr} {xs : List V} {R : V → Hp → Prop} (hl : H l = some (.lst xs)) (ha : Ev ta σ H (.ref l)) (h : Tk te σ H R) (hz : xs.length < 100000) (k : ∀ v H1, Ex H H1 → R v H1 → D.nx σ (upd H1 l (.lst (xs ++ [v])))) :
    tDrop (tBM K "list" rAppend ta (tCons te tNil)) D σ H := ha H (Ex.refl H) _ fun H1 e1 =>
  ⟨Or.inl ⟨rfl, xs, Evl.sq_of (e1 l _ hl)⟩, h H1 e1 _ fun v H2 e2 r => ⟨l, xs, v, rfl, rfl, e2 l _ (e1 l _ hl), Evl.sz_lt hz, k v H2 (e1.trans e2) r⟩⟩
theorem s_ext {σ : L2.St} {D : Ends} {ta te : TE} {l : Addr} {xs : List V} {R : V → Hp → Prop} (hl : H l = some (.lst xs)) (ha : Ev ta σ H (.ref l)) (h : Tk te σ H R) (hr : ∀ v H1, R v H1 → ∃ b zs, v = .ref b ∧ H1 b = some (.lst zs) ∧ xs.length + zs.length ≤ 100000)
    (k : ∀ v H1 b zs, Ex H H1 → R v H1 → v = .ref b → H1 b = some (.lst zs) → D.nx σ (upd H1 l (.lst (xs ++ zs)))) :
    tDrop (tBM K "list" rExtend ta (tCons te tNil)) D σ H := ha H (Ex.refl H) _ fun H1 e1 =>
  ⟨Or.inl ⟨rfl, xs, Evl.sq_of (e1 l _ hl)⟩, h H1 e1 _ fun v H2 e2 r => by
    obtain ⟨b, zs, rfl, hb, hz⟩ := hr v H2 r
    exact ⟨l, b, xs, zs, rfl, rfl, e2 l _ (e1 l _ hl), hb, Evl.sz_of hz, k _ H2 b zs (e1.trans e2) r rfl hb⟩⟩
theorem PairsAt.append {vs us : List V} {ps qs : List (Nat × Nat)} (h : PairsAt H vs ps) (h2 : PairsAt H us qs) : PairsAt H (vs ++ us) (ps ++ qs) := by
  refine ⟨by rw [List.length_append, List.length_append, h.1, h2.1], fun i v xy a b => ?_⟩
  by_cases hi : i < vs.length
  · rw [List.getElem?_append_left hi] at a
    rw [List.getElem?_append_left (by rw [← h.1]; exact hi)] at b
    exact h.2 i v xy a b
  · rw [List.getElem?_append_right (by omega)] at a
    rw [List.getElem?_append_right (by rw [← h.1]; omega), ← h.1] at b
    exact h2.2 _ v xy a b
theorem cl_viol (T : Tx K mg) (c_are_equal : Mt P w K mg base 1 (CP K) "are_equal" (sp_areEqual K)) (c_states_different : Cl P w K mg base 3 "states_different" sp_sDiff) (A : At K mg "violated_pair" "violated_pair" "violated_pair" s_violated_pair []) :
    Cl P w K mg base 4 "violated_pair" (sp_viol K) := by
  refine cl_of A sc_violated_pair (fun _ _ _ _ _ _ us hl => match us, hl with | [_, _], _ => rfl) (fun vs H Q E h => ?_) (fun f cdv A outer s H vs Q E hr h => ?_)
  · obtain ⟨p, v, f, n, L, rfl, _⟩ := h
    rfl
  · obtain ⟨p, v, f, n, L, rfl, hP, hf, ok, hLn, hn, q⟩ := h
    refine ⟨_, (pss_cons (ps_set (i := 2) sc_violated_pair.nd rfl (Or.inl rfl) (pe_lst pa_nil))
      (Evl.pss_cut (ps_if (pt_cmpR op_eq (pe_ix ix_tup (pv 1) pe_int (fun _ _ => rfl)) (pk T.DIFFERENT) (nomark _)) (pss_one (ps_expr (pe_bm PySem.F.plainAttrs_list PySem.F.slot_list_append PySem.F.type_list_append mt_append (pv 2) (pa_cons (pe_tup (pa_cons (pe_ix ix_tup (pv 1) pe_int (fun _ _ => rfl)) (pa_cons (pe_ix ix_tup (pv 1) pe_int (fun _ _ => rfl)) pa_nil))) pa_nil)))) (pss_one (ps_if (pt_cmpR op_eq (pe_ix ix_tup (pv 1) pe_int (fun _ _ => rfl)) (pk T.WINDOW) (nomark _)) (pss_cons (ps_set (i := 3) sc_violated_pair.nd rfl (Or.inl rfl) (pe_op op_add (pe_ix ix_tup (pv 1) pe_int (fun _ _ => rfl)) (pe_callB call_len_seq rfl T.b_len (by decide +kernel) (pa_cons (pe_ix ix_tup (pv 1) pe_int (fun _ _ => rfl)) pa_nil))))
          (pss_one (ps_for PassesOwn.never rfl (pi_range2 rfl T.b_range (pa_cons (pe_ix ix_tup (pv 1) pe_int (fun _ _ => rfl)) (pa_cons (pv 3) pa_nil))) (pg_name (i := 4) sc_violated_pair.nd rfl (Or.inr rfl))
              (pss_one (ps_expr (pe_bm PySem.F.plainAttrs_list PySem.F.slot_list_extend PySem.F.type_list_extend mt_extend (pv 2) (pa_cons (pe_lc (own := [("other", 5)]) (g := gName 5) (by rfl) sc_violated_pair.nd (pi_range2 rfl T.b_range (pa_cons (pe_op op_add (pv 4) pe_int) (pa_cons (pv 3) pa_nil))) (blkOk_by (own := [("other", 5)]) (N := N_violated_pair) (sc := defScope s_violated_pair) (by decide +kernel)) (fun _ _ _ _ _ => (pg_name (i := 5) sc_violated_pair.nd rfl (Or.inl rfl))) (fun _ _ _ _ _ => pts_nil) (fun _ _ _ _ _ => (pe_tup (pa_cons (pv 4) (pa_cons (pv 5) pa_nil))))) pa_nil))))))) pss_nil)))
      (pss_cons (ps_for PassesOwn.never rfl (pi_list (pv 2)) (pg_tup rfl (pgs_cons (pg_name (i := 4) sc_violated_pair.nd rfl (Or.inr rfl)) (pgs_cons (pg_name (i := 5) sc_violated_pair.nd rfl (Or.inl rfl)) pgs_nil)))
          (pss_one (ps_if (PW.pt (pw_and (pt_val (pmt c_are_equal (hr.mono (by decide)) (pv 0) (pa_cons (pv 4) (pa_cons (pv 5) pa_nil)))) (pw_and1 (pt_val (pcl c_states_different (hr.mono (by decide)) rfl (pa_cons (pv 1) (pa_cons (pv 4) (pa_cons (pv 5) pa_nil)))))))) (pss_one (ps_ret (pe_tup (pa_cons (pv 4) (pa_cons (pv 5) pa_nil))))) pss_nil)))
      (pss_one (ps_ret pe_non))))), ?_⟩
    refine Go.here (go_setP (tk_lst ea_nil (by simp)) fun v1 H1 e1 r1 => ?_)
    obtain ⟨pl, rfl, hpl, hpl1⟩ := r1
    intro H2 e2
    have hpl2 := e2 _ _ hpl1
    have hf2 := (hf.mono e1).mono e2
    have e02 : Ex H H2 := e1.trans e2
    refine ⟨fun σ' H' => ∃ y3 y4 y5 us ps, σ' = [some (.ref p), some v, some (.ref pl), y3, y4, y5] ∧ Ex H H' ∧ H' pl = some (.lst us) ∧ PairsAt H' us ps ∧ Prs f n ps, ?_, fun σ' H' hM => ?_⟩
    · -- the pairs
      cases f with
      | same i j =>
        refine s_no (not_kind (K := K) hf2 (ev_var rfl) kd_same_diff) rfl fun H3 e3 => s_no (not_kind (K := K) (hf2.mono e3) (ev_var rfl) kd_same_win) rfl fun H4 e4 => ?_
        exact ⟨_, _, _, [], [], rfl, (e02.trans e3).trans e4, e4 _ _ (e3 _ _ hpl2), PairsAt.nil, fun x y h => (by simp at h), fun a b h => h.elim⟩
      | eqv i j l =>
        refine s_no (not_kind (K := K) hf2 (ev_var rfl) kd_eqv_diff) rfl fun H3 e3 => s_no (not_kind (K := K) (hf2.mono e3) (ev_var rfl) kd_eqv_win) rfl fun H4 e4 => ?_
        exact ⟨_, _, _, [], [], rfl, (e02.trans e3).trans e4, e4 _ _ (e3 _ _ hpl2), PairsAt.nil, fun x y h => (by simp at h), fun a b h => h.elim⟩
      | diff i j =>
        refine s_yes (not_kind (K := K) hf2 (ev_var rfl) kd_diff_diff) rfl fun H3 e3 => ?_
        obtain ⟨c, rfl, hc⟩ := hf2.mono e3
        refine s_app2 (K := K) (e3 _ _ hpl2) (ev_var rfl) (tk_tup (by walk_at "ev") (by simp)) (by simp) fun u H4 e4 r => ?_
        obtain ⟨t, rfl, ht, ht4⟩ := r
        have nt : t ≠ pl := fun z => by rw [z, e3 _ _ hpl2] at ht; cases ht
        refine ⟨_, _, _, [.ref t], [(i, j)], rfl, Ex.mut ((e02.trans e3).trans e4) (Evl.fresh_back (Ex.refl H) hpl), upd_same, ⟨rfl, fun k u xy a b => ?_⟩, fun x y h => ?_, fun a b h => ?_⟩
        · match k, a, b with
          | 0, a, b =>
            cases a
            cases b
            exact ⟨t, rfl, by rw [upd_ne nt]; exact ht4⟩
        · have h := List.mem_singleton.mp h
          cases h
          exact ⟨ok.1, ok.2.1⟩
        · rcases h with ⟨h1, h2⟩ | ⟨h1, h2⟩
          · subst h1; subst h2; exact .inl (by simp)
          · subst h1; subst h2; exact .inr (by simp)
      | win s W =>
        obtain ⟨ok1, ok2⟩ := ok
        refine s_no (not_kind (K := K) hf2 (ev_var rfl) kd_win_diff) rfl fun H3 e3 => s_yes (not_kind (K := K) (hf2.mono e3) (ev_var rfl) kd_win_win) rfl fun H4 e4 => ?_
        obtain ⟨c, d, rfl, hc, hd⟩ := (hf2.mono e3).mono e4
        have ld : (nL (distOf W)).length = W.length := by rw [List.length_map, distOf_length]
        have hpl4 := e4 _ _ (e3 _ _ hpl2)
        have e04 := (e02.trans e3).trans e4
        refine Go.here (go_set (v := nV (s + W.length)) (Evl.ev_is (by walk_at "ev") (by rw [ld]; simp)) ?_)
        intro H5 e5
        refine Evl.s_forR2 (lo := (s : Int)) (n := ((s + W.length : Nat) : Int)) (ea_cons (ev_op (ev_var rfl) ev_c (Evl.rv_ixT (Evl.st_of (e5 _ _ hc)) rfl)) (ea_cons (ev_var rfl) ea_nil)) (by omega) (fun i σ' H' => ∃ y4 y5 us ps, σ' = [some (.ref p), some (.ref c), some (.ref pl), some (nV (s + W.length)), y4, y5] ∧ Ex H H' ∧ H' c = some (.tup [sWin, nV s, .ref d]) ∧ H' pl = some (.lst us) ∧ PairsAt H' us ps ∧ ps.length ≤ i * 60 ∧
            ∀ x y, (x, y) ∈ ps ↔ s ≤ x ∧ x < s + i ∧ x < y ∧ y < s + W.length) (fun H6 e6 => ⟨_, _, [], [], rfl, (e04.trans e5).trans e6, e6 _ _ (e5 _ _ hc), e6 _ _ (e5 _ _ hpl4), PairsAt.nil, by simp, fun x y => by simp; omega⟩) (fun i σ' H' hi hPv => ?_) (fun σ' H' hPv => ?_)
        · obtain ⟨y4, y5, us, ps, rfl, e', hc', hpl', hps, hlen, hmem⟩ := hPv
          have hi : s + i < s + W.length := by omega
          have lus : us.length ≤ i * 60 := by rw [hps.1]; exact hlen
          refine s_ext (K := K) hpl' (ev_var rfl) (tk_lcR2 (lo := s + i + 1) (n := s + W.length) (ea_cons (Evl.ev_is (ev_op (ev_var rfl) ev_c Evl.rv_I0) (by simp)) (ea_cons (ev_var rfl) ea_nil)) (by omega) (by omega) (fun j acc H' => ∃ qs, PairsAt H' acc qs ∧ qs.length = j ∧ ∀ x y, (x, y) ∈ qs ↔ x = s + i ∧ x < y ∧ y < s + i + 1 + j) (fun _ _ _ _ e ⟨qs, a, b⟩ => ⟨qs, a.te e, b⟩) (fun _ => rfl) (fun _ _ => ⟨[], PairsAt.nil, rfl, fun x y => by simp; omega⟩) (fun j acc H6 e6 hj hG => ?_)) (fun v H6 r => ?_) (fun v H6 b zs e6 r hv hb => ?_)
          · obtain ⟨qs, hq, hql, hqm⟩ := hG
            refine ⟨true, fun H1 e1 Q' q' => q' H1 (Ex.refl H1), fun z => (nomatch z), fun _ => ⟨_, tk_tup (vs := [nV (s + i), nV (s + i + 1 + j)]) (ea_cons (Evl.ev_is (ev_var rfl) (by simp)) (ea_cons (ev_var rfl) ea_nil)) (by simp), fun y H7 e7 r => ?_⟩⟩
            obtain ⟨t, rfl, ht, ht7⟩ := r
            refine ⟨qs ++ [(s + i, s + i + 1 + j)], (hq.te (te_of e7)).snoc ⟨t, rfl, ht7⟩, by rw [List.length_append, hql]; rfl, fun x y => ?_⟩
            rw [List.mem_append, hqm]
            simp
            omega
          · obtain ⟨b, acc, rfl, hb, hb6, qs, hq, hql, hqm⟩ := r
            refine ⟨b, acc, rfl, hb6, ?_⟩
            rw [hq.1, hql]
            have : i * 60 ≤ 60 * 60 := Nat.mul_le_mul_right 60 (by omega)
            omega
          · obtain ⟨b', acc, rfl, hb', hb6, qs, hq, hql, hqm⟩ := r
            cases hv
            rw [hb6] at hb
            have ez : acc = zs := HO.lst.inj (Option.some.inj hb)
            subst ez
            have npl : H6 pl = some (.lst us) := e6 _ _ hpl'
            refine ⟨_, _, us ++ acc, ps ++ qs, rfl, Ex.mut (e'.trans e6) (Evl.fresh_back (Ex.refl H) hpl), ?_, upd_same, ((hps.te (te_of e6)).append hq).te (te_mut npl), ?_, fun x y => ?_⟩
            · rw [upd_ne (ne_of (e6 _ _ hc') npl (by intro z; cases z))]
              exact e6 _ _ hc'
            · rw [List.length_append, hql, Nat.add_mul]
              omega
            · rw [List.mem_append, hmem, hqm]
              omega
        · obtain ⟨y4, y5, us, ps, rfl, e', hc', hpl', hps, hlen, hmem⟩ := hPv
          have ez : (((s + W.length : Nat) : Int) - (s : Int)).toNat = W.length := by omega
          rw [ez] at hmem
          refine ⟨_, _, _, us, ps, rfl, e', hpl', hps, fun x y h => ?_, fun a b h => ?_⟩
          · have := (hmem x y).mp h
            omega
          · obtain ⟨x, y, h1, h2, h3, h4, h5⟩ := h
            rw [hmem, hmem]
            have : x ≠ y := fun z => h5 (by rw [z])
            omega
    · -- the look
      obtain ⟨y3, y4, y5, us, ps, rfl, e', hpl', hps, hpr⟩ := hM
      refine Evl.q_forL (K := K) (a := pl) (xs := us) (ev_var rfl) (Evl.sq_of hpl') (fun i σ' H'' => ∃ y4 y5, σ' = [some (.ref p), some v, some (.ref pl), y3, y4, y5] ∧ Ex H' H'' ∧ ∀ x y, (x, y) ∈ ps.take i → ¬ (L[x]? = L[y]? ∧ SDiff f x y)) (fun H3 e3 => ⟨_, _, rfl, e3, fun x y h => (by simp at h)⟩) (fun i σ' H'' _ hPv => ?_) (fun i x σ' H'' hi hPv => ?_) (fun σ' H'' hPv => ?_)
      · obtain ⟨_, _, _, e'', _⟩ := hPv
        exact Evl.sq_of (e'' _ _ hpl')
      · obtain ⟨y4, y5, rfl, e'', hno⟩ := hPv
        obtain ⟨xy, hxy⟩ := get_some (xs := ps) (i := i) (by rw [← hps.1]; exact lt_of_get hi)
        obtain ⟨u, rfl, hu⟩ := hps.2 i x xy hi hxy
        obtain ⟨l1, l2⟩ := hpr.lt xy.1 xy.2 (List.mem_of_getElem? hxy)
        obtain ⟨dx, ld, hp'', hl''⟩ := (hP.mono e').mono e''
        refine g2_ok (Evl.st_of (e'' _ _ hu)) ?_
        refine Evl.s_when (b := decide (L[xy.1]? = L[xy.2]?) && bP (SDiff f xy.1 xy.2)) (et_andU (Evl.et_B (ev_meth (m := "are_equal") (ev_var rfl) hp'' (no_leaders (by decide +kernel)) (by walk_at "ev") (v_areEqual (L := L) (a := xy.1) (b := xy.2) ⟨dx, ld, hp'', hl''⟩ (by omega) (by omega)))) (Evl.et_B (ev_call (by walk_at "ev") (v_sDiff ((hf.mono e').mono e'') ok hn)))) (fun hb H3 e3 => ?_) (fun hb H3 e3 => ?_)
        · rw [Bool.and_eq_true, decide_eq_true_iff, bP_iff] at hb
          refine Go.here (go_retP (tk_tup (by walk_at "ev") (by simp)) fun u H4 e4 r => ?_)
          obtain ⟨t, rfl, ht, ht4⟩ := r
          exact q _ H4 (((e'.trans e'').trans e3).trans e4) (.inr ⟨t, xy.1, xy.2, rfl, ht4, hb.2, hb.1⟩)
        · refine ⟨_, _, rfl, e''.trans e3, fun a b hm => ?_⟩
          rw [take_snoc hxy] at hm
          rcases List.mem_append.mp hm with h | h
          · exact hno a b h
          · have h := List.mem_singleton.mp h
            rintro ⟨h1, h2⟩
            have e1 : xy.1 = a := by rw [← h]
            have e2 : xy.2 = b := by rw [← h]
            rw [e1, e2, decide_eq_true h1, bP_true h2] at hb
            cases hb
      · obtain ⟨y4, y5, rfl, e'', hno⟩ := hPv
        rw [hps.1, List.take_length] at hno
        refine Go.here (go_ret ev_c fun H3 e3 => q _ H3 ((e'.trans e'').trans e3) (.inl ⟨rfl, fun a b hs he => ?_⟩))
        rcases hpr.all a b hs with h | h
        · exact hno a b h ⟨he, hs⟩
        · exact hno b a h ⟨he.symm, hs.symm⟩
end
end Hfb
namespace Hfb
open PySem PySem.Spec PyProof.Rows L2
open Evl (Ex Ev EvT EvA EvL EvU ev_op ev_var ev_c ev_call ea_cons ea_nil)
section
variable {P : Program} {w : World} {K : PySem.W.Frag} {mg : Str → Option Value} {base : Heap} {H : Hp}
local macro_rules | `(tactic| walk_at "spv") => `(tactic| first | exact v_isInt | exact v_isIntD | exact v_twoPos | exact v_isSeq (.t (by assumption)) | exact v_isSeq (.l (by assumption)) | exact v_isDist (by assumption) (by omega))
local macro_rules | `(tactic| walk_at "rv") => `(tactic| first
  | with_reducible exact Evl.rv_I0
  | ((with_reducible refine Evl.rv_eq ?_); rfl)
  | ((with_reducible refine Evl.rv_ne ?_); rfl)
  | ((with_reducible apply Evl.rv_ixT); (first | assumption | exact Evl.st_of (by assumption)); (first | rfl | assumption))
  | ((with_reducible apply Evl.rv_ixL); (first | assumption | exact Evl.sq_of (by assumption)); (first | rfl | assumption))
  | exact isi_int
  | exact isi_bool
  | exact isi_str
  | exact rc_max
  | exact rc_min
  | (apply rc_lenL; first | assumption | exact Evl.sq_of (by assumption))
  | (apply rc_lenT; first | assumption | exact Evl.st_of (by assumption))
  | walk_at "fld"
  | walk_at "spv")
local macro_rules | `(tactic| walk_at "ev") => `(tactic| first
  | ((with_reducible apply Evl.ev_var); rfl)
  | with_reducible exact Evl.ev_c
  | with_reducible exact Evl.ea_nil
  | ((with_reducible apply Evl.ea_cons) <;> walk_at "ev")
  | ((with_reducible apply Evl.ev_op) <;> walk_at "ev")
  | ((with_reducible apply ev_chain) <;> walk_at "ev")
  | ((with_reducible apply Evl.ev_cb) <;> walk_at "ev")
  | ((with_reducible apply Evl.ev_call) <;> walk_at "ev")
  | ((with_reducible apply Evl.ev_notV) <;> walk_at "ev")
  | ((with_reducible apply ev_andU) <;> walk_at "ev")
  | ((with_reducible apply ev_orU) <;> walk_at "ev")
  | ((with_reducible apply Evl.et_B) <;> walk_at "ev")
  | ((with_reducible apply Evl.et_test) <;> walk_at "ev")
  | ((with_reducible apply Evl.et_not) <;> walk_at "ev")
  | ((with_reducible apply et_andU) <;> walk_at "ev")
  | ((with_reducible apply et_orU) <;> walk_at "ev")
  | walk_at "rv")
theorem ex_made {H1 H2 : Hp} {x dx C : Addr} (nx : H1 x = none) (nd : H1 dx = none) (fr : FrP x (upd (upd H1 dx (.own x)) x (.ins C dx [])) H2) : Ex H1 H2 := fun b o h => by
  have n1 : b ≠ x := ne_of_none h nx
  have n2 : b ≠ dx := ne_of_none h nd
  exact fr b o n1 (by rw [upd_ne n1, upd_ne n2]; exact h)
abbrev NewPart (K : PySem.W.Frag) (H : Hp) (fs : List Fact) (n : Nat) (v : V) (H2 : Hp) : Prop := ∃ p L, v = .ref p ∧ H p = none ∧ PartAt K H2 p L ∧ Part fs n L
theorem FactsAt.fr0 {H1 : Hp} {x dx C l : Addr} {fs : List Fact} (nx : H1 x = none) (nd : H1 dx = none) (h : FactsAt H1 l fs) : FactsAt (upd (upd H1 dx (.own x)) x (.ins C dx [])) l fs :=
  h.mono fun b o hb => by rw [upd_ne (ne_of_none hb nx), upd_ne (ne_of_none hb nd)]; exact hb
theorem tk_Partition {σ : L2.St} {t : TA} {n : Nat} {l : Addr} {fs : List Fact} (ha : EvA t σ H [nV n, .ref l]) (hF : FactsAt H l fs) (h1 : 1 ≤ n) (hn : n ≤ 60) (hfl : fs.length ≤ 50) (ok : ∀ f ∈ fs, f.Ok n) : Tk (tMake (CP K) (sp_pinit K) [] E0 t) σ H (NewPart K H fs n) := fun H1 e Q q =>
  ha H1 e _ fun H2 e2 => fun x dx nx nd ne => ⟨x, dx, l, n, fs, rfl, upd_same, h1, hn, ((hF.mono e).mono e2).fr0 nx nd, hfl, ok, fun H3 L fr hP hp => ⟨rfl, q _ H3 (e2.trans (ex_made nx nd fr)) ⟨x, L, rfl, Evl.fresh_back (e.trans e2) nx, hP, hp⟩⟩⟩
theorem tk_notN {σ : L2.St} {ta : TE} {R : V → Hp → Prop} (h : Tk ta σ H R) : Tk (tOp (fun x y H Q => y = .non ∧ Q (.bl (!decide (x = .non))) H) ta (tC .non)) σ H (fun y H2 => ∃ u H1, Ex H H1 ∧ Ex H1 H2 ∧ R u H1 ∧ y = .bl (!decide (u = .non))) := fun H1 e Q q =>
  h H1 e _ fun u H2 e2 r => ⟨rfl, q _ H2 e2 ⟨u, H2, e.trans e2, Ex.refl H2, r, rfl⟩⟩
def Viol (L : List Nat) (f : Fact) : Prop := ∃ a b, SDiff f a b ∧ L[a]? = L[b]?
theorem viol_iff {fs : List Fact} {n : Nat} {L : List Nat} (p : Part fs n L) (ok : ∀ f ∈ fs, f.Ok n) : (∃ f, f ∈ fs ∧ Viol L f) ↔ ¬ Cons fs := by
  constructor
  · rintro ⟨f, hf, a, b, hs, he⟩ c
    obtain ⟨l1, l2⟩ := hs.lt (ok f hf)
    exact c f hf a b hs ((p.2 a b l1 l2).mp he)
  · intro h
    refine Classical.byContradiction fun hn => h fun f hf a b hs d => hn ⟨f, hf, a, b, hs, ?_⟩
    obtain ⟨l1, l2⟩ := hs.lt (ok f hf)
    exact (p.2 a b l1 l2).mpr d
def ConsR (K : PySem.W.Frag) (H : Hp) (fs : List Fact) (n : Nat) (u : V) (H' : Hp) : Prop := (Cons fs ∧ NewPart K H fs n u H') ∨ (¬ Cons fs ∧ u = .non)
theorem ConsR.back {H0 : Hp} {fs : List Fact} {n : Nat} {u : V} {H' : Hp} (e : Ex H0 H) (r : ConsR K H fs n u H') : ConsR K H0 fs n u H' := by
  rcases r with ⟨c, p, L, h1, h2, h3⟩ | r
  · exact .inl ⟨c, p, L, h1, Evl.fresh_back e h2, h3⟩
  · exact .inr r
def sp_consPart (K : PySem.W.Frag) : Sp := fun vs H Q _ => ∃ (n : Nat) (l : Addr) (fs : List Fact), vs = [nV n, .ref l] ∧ 1 ≤ n ∧ n ≤ 60 ∧ FactsAt H l fs ∧ fs.length ≤ 50 ∧ (∀ f ∈ fs, f.Ok n) ∧ ∀ u H', Ex H H' → ConsR K H fs n u H' → Q u H'
theorem v_consPart {n : Nat} {l : Addr} {fs : List Fact} (h1 : 1 ≤ n) (hn : n ≤ 60) (hF : FactsAt H l fs) (hfl : fs.length ≤ 50) (ok : ∀ f ∈ fs, f.Ok n) : SpK (sp_consPart K) [nV n, .ref l] H (ConsR K H fs n) := fun H1 e Q q E =>
  ⟨n, l, fs, rfl, h1, hn, hF.mono e, hfl, ok, fun u H' e' r => q u H' e' (r.back e)⟩
theorem any_snoc (bs : List Bool) (b : Bool) : (bs ++ [b]).any id = (bs.any id || b) := by simp
theorem cl_consPart (T : Tx K mg) (c_Partition : Mz P w K mg base 4 "Partition" (CP K) (sp_pinit K)) (c_violated_pair : Cl P w K mg base 4 "violated_pair" (sp_viol K)) (A : At K mg "consistent_partition" "consistent_partition" "consistent_partition" s_consistent_partition []) :
    Cl P w K mg base 6 "consistent_partition" (sp_consPart K) := by
  refine cl_of A sc_consistent_partition (fun _ _ _ _ _ _ us hl => match us, hl with | [_, _], _ => rfl) (fun vs H Q E h => ?_) (fun f cdv A outer s H vs Q E hr h => ?_)
  · obtain ⟨n, l, fs, rfl, _⟩ := h
    rfl
  · obtain ⟨n, l, fs, rfl, h1, hn, hF, hfl, ok, q⟩ := h
    refine ⟨_, (pss_cons (ps_set (i := 2) sc_consistent_partition.nd rfl (Or.inr rfl) (pmkC c_Partition (hr.mono (by decide)) rfl (pa_cons (pv 0) (pa_cons (pv 1) pa_nil))))
      (pss_cons (ps_if (pt_val (pe_callB (cr_any rfl) rfl T.b_any (by decide +kernel) (pa_cons (pe_lc (own := [("fact", 3)]) (g := gName 3) (by rfl) sc_consistent_partition.nd (pi_list (pv 1)) (blkOk_by (own := [("fact", 3)]) (N := N_consistent_partition) (sc := defScope s_consistent_partition) (by decide +kernel)) (fun _ _ _ _ _ => (pg_name (i := 3) sc_consistent_partition.nd rfl (Or.inl rfl))) (fun _ _ _ _ _ => pts_nil) (fun _ _ _ _ _ => (pe_cmpR op_notN (pcl c_violated_pair (hr.mono (by decide)) rfl (pa_cons (pv 2) (pa_cons (pv 3) pa_nil))) pe_non (nomark _)))) pa_nil))) (pss_one (ps_ret pe_non)) pss_nil)
      (pss_one (ps_ret (pv 2))))), ?_⟩
    refine Go.here (go_setP (tk_Partition (by walk_at "ev") hF h1 hn hfl ok) fun v1 H1 e1 r1 => ?_)
    obtain ⟨p, L, rfl, hp, hP, hL⟩ := r1
    obtain ⟨us, hl, hul, hat⟩ := hF.mono e1
    refine go_when (b := bP (∃ f, f ∈ fs ∧ Viol L f)) (Evl.et_B (ev_cbK (tk_lcL (K := K) (ev_var rfl) (Evl.sq_of hl) (by omega) (fun i acc _ => ∃ bs : List Bool, acc = bs.map V.bl ∧ (bs.any id = true ↔ ∃ j f, j < i ∧ fs[j]? = some f ∧ Viol L f)) (fun _ _ _ _ _ h => h) (fun _ => rfl) (fun _ _ => ⟨[], rfl, by simp⟩) (fun i x acc H' e hi hacc => ?_)) fun v H2 e2 r2 => ?_)) (fun hb => ?_) (fun hb => ?_)
    · obtain ⟨g, hg⟩ := get_some (xs := fs) (i := i) (by rw [← hul]; exact lt_of_get hi)
      obtain ⟨bs, rfl, hbs⟩ := hacc
      refine ⟨true, fun H1 e1 Q' q' => q' H1 (Ex.refl H1), fun z => (nomatch z), fun _ => ⟨_, tk_notN (tk_call (by walk_at "ev") (v_viol (hP.mono e) ((hat i x g hi hg).mono e) (ok g (List.mem_of_getElem? hg)) hL.1 hn)), fun y H2 e2 r => ?_⟩⟩
      obtain ⟨u, H3, _, _, hu, rfl⟩ := r
      refine ⟨bs ++ [!decide (u = .non)], by rw [List.map_append]; rfl, ?_⟩
      rw [any_snoc, Bool.or_eq_true, hbs]
      have key : (!decide (u = .non)) = true ↔ Viol L g := by
        rcases hu with ⟨rfl, hno⟩ | ⟨r, a, b, rfl, _, hs, he⟩
        · simp
          rintro ⟨a, b, hs, he⟩
          exact hno a b hs he
        · simp
          exact ⟨a, b, hs, he⟩
      rw [key]
      constructor
      · rintro (⟨j, f, hj, hf, hv⟩ | hv)
        · exact ⟨j, f, by omega, hf, hv⟩
        · exact ⟨i, g, by omega, hg, hv⟩
      · rintro ⟨j, f, hj, hf, hv⟩
        by_cases z : j = i
        · subst z
          rw [hg] at hf
          cases hf
          exact .inr hv
        · exact .inl ⟨j, f, by omega, hf, hv⟩
    · obtain ⟨pb, acc, rfl, hpb, h2, bs, rfl, hbs⟩ := r2
      have ee : bP (∃ f, f ∈ fs ∧ Viol L f) = bs.any id := by
        symm
        refine bP_of (hbs.trans ⟨?_, ?_⟩)
        · rintro ⟨j, f, _, hf, hv⟩
          exact ⟨f, List.mem_of_getElem? hf, hv⟩
        · rintro ⟨f, hf, hv⟩
          obtain ⟨j, hj⟩ := List.getElem?_of_mem hf
          exact ⟨j, f, by rw [hul]; exact lt_of_get hj, hj, hv⟩
      rw [ee]
      exact rc_any (Evl.sq_of h2)
    · have hb := (viol_iff hL ok).mp (bP_iff.mp hb)
      exact go_ret ev_c fun H2 e2 => q _ H2 (e1.trans e2) (.inr ⟨hb, rfl⟩)
    · have hb : Cons fs := Classical.byContradiction fun z => by
        rw [bP_true ((viol_iff hL ok).mpr z)] at hb
        cases hb
      exact go_ret (ev_var rfl) fun H2 e2 => q _ H2 (e1.trans e2) (.inl ⟨hb, p, L, rfl, hp, hP.mono e2, hL⟩)

/-! ### is_consistent, finest_list, relation -/
def sp_isCons : Sp := fun vs H Q _ => ∃ (n : Nat) (l : Addr) (fs : List Fact), vs = [nV n, .ref l] ∧ 1 ≤ n ∧ n ≤ 60 ∧ FactsAt H l fs ∧ fs.length ≤ 40 ∧ (∀ f ∈ fs, f.Ok n) ∧ ∀ H', Ex H H' → Q (.bl (bP (Cons fs))) H'
theorem v_isCons {n : Nat} {l : Addr} {fs : List Fact} (h1 : 1 ≤ n) (hn : n ≤ 60) (hF : FactsAt H l fs) (hfl : fs.length ≤ 40) (ok : ∀ f ∈ fs, f.Ok n) : Evl.SpV sp_isCons [nV n, .ref l] H (.bl (bP (Cons fs))) := fun H1 e Q q E => ⟨n, l, fs, rfl, h1, hn, hF.mono e, hfl, ok, q⟩
/-- the arguments: a value, then a call -/
theorem tk_callA {σ : L2.St} {ta te : TE} {sp : Sp} {x : V} {E : XK} {R R' : V → Hp → Prop} (ha : Ev ta σ H x) (h : Tk te σ H R) (hs : ∀ v H2, Ex H H2 → R v H2 → SpK sp [x, v] H2 R') : Tk (tCall sp [] E (tCons ta (tCons te tNil))) σ H R' := fun H1 e Q q =>
  ha H1 e _ fun H2 e2 => h H2 (e.trans e2) _ fun v H3 e3 r => hs v H3 ((e.trans e2).trans e3) r H3 (Ex.refl H3) Q (fun u H4 e4 r4 => q u H4 ((e2.trans e3).trans e4) r4) E
theorem SpK.imp {sp : Sp} {vs : List V} {R R' : V → Hp → Prop} (h : SpK sp vs H R) (f : ∀ v H2, Ex H H2 → R v H2 → R' v H2) : SpK sp vs H R' := fun H1 e Q q E => h H1 e Q (fun v H2 e2 r => q v H2 e2 (f v H2 (e.trans e2) r)) E
theorem tk_consOf {σ : L2.St} {ta tb tc : TE} {n : Nat} {l : Addr} {fs : List Fact} (h0 : Ev ta σ H (nV n)) (h1' : Ev tb σ H (nV n)) (h2 : Ev tc σ H (.ref l)) (h1 : 1 ≤ n) (hn : n ≤ 60) (hF : FactsAt H l fs) (hfl : fs.length ≤ 40) (ok : ∀ f ∈ fs, f.Ok n) :
    Tk (tCall (sp_consPart K) [] E0 (tCons ta (tCons (tCall sp_checked [] E0 (tCons tb (tCons tc tNil))) tNil))) σ H (ConsR K H fs n) :=
  tk_callA h0 (tk_call (ea_cons h1' (ea_cons h2 ea_nil)) (v_checked h1 hn hF hfl ok)) fun v H2 e2 r => by
    obtain ⟨p, rfl, hp, hF2⟩ := r
    exact (v_consPart (K := K) h1 hn hF2 (by omega) ok).imp fun u H3 e3 r3 => r3.back e2
theorem cl_isCons (T : Tx K mg) (c_consistent_partition : Cl P w K mg base 6 "consistent_partition" (sp_consPart K)) (c_checked_facts : Cl P w K mg base 4 "checked_facts" sp_checked) (A : At K mg "is_consistent" "is_consistent" "is_consistent" s_is_consistent []) :
    Cl P w K mg base 7 "is_consistent" sp_isCons := by
  refine cl_of A sc_is_consistent (fun _ _ _ _ _ _ us hl => match us, hl with | [_, _], _ => rfl) (fun vs H Q E h => ?_) (fun f cdv A outer s H vs Q E hr h => ?_)
  · obtain ⟨n, l, fs, rfl, _⟩ := h
    rfl
  · obtain ⟨n, l, fs, rfl, h1, hn, hF, hfl, ok, q⟩ := h
    refine ⟨_, (pss_one (ps_ret (pe_cmpR op_notN (pcl c_consistent_partition (hr.mono (by decide)) rfl (pa_cons (pv 0) (pa_cons (pcl c_checked_facts (hr.mono (by decide)) rfl (pa_cons (pv 0) (pa_cons (pv 1) pa_nil))) pa_nil))) pe_non (nomark _)))), ?_⟩
    refine Go.here (go_retP (tk_notN (tk_consOf (K := K) (ev_var rfl) (ev_var rfl) (ev_var rfl) h1 hn hF hfl ok)) fun v H1 e r => ?_)
    obtain ⟨u, H2, _, _, hr, rfl⟩ := r
    rcases hr with ⟨c, p, L, rfl, _⟩ | ⟨c, rfl⟩
    · have z := q H1 e
      rw [bP_true c] at z
      exact z
    · have z := q H1 e
      rw [bP_false c] at z
      exact z
def FinR (H : Hp) (fs : List Fact) (n : Nat) (u : V) (H' : Hp) : Prop := (Cons fs ∧ ∃ p L, u = .ref p ∧ H p = none ∧ Part fs n L ∧ H' p = some (.lst (nL (distOf L)))) ∨ (¬ Cons fs ∧ u = .non)
def sp_finest : Sp := fun vs H Q _ => ∃ (n : Nat) (l : Addr) (fs : List Fact), vs = [nV n, .ref l] ∧ 1 ≤ n ∧ n ≤ 60 ∧ FactsAt H l fs ∧ fs.length ≤ 40 ∧ (∀ f ∈ fs, f.Ok n) ∧ ∀ u H', Ex H H' → FinR H fs n u H' → Q u H'
theorem FinR.back {H0 : Hp} {fs : List Fact} {n : Nat} {u : V} {H' : Hp} (e : Ex H0 H) (r : FinR H fs n u H') : FinR H0 fs n u H' := by
  rcases r with ⟨c, p, L, h1, h2, h3⟩ | r
  · exact .inl ⟨c, p, L, h1, Evl.fresh_back e h2, h3⟩
  · exact .inr r
theorem v_finest {n : Nat} {l : Addr} {fs : List Fact} (h1 : 1 ≤ n) (hn : n ≤ 60) (hF : FactsAt H l fs) (hfl : fs.length ≤ 40) (ok : ∀ f ∈ fs, f.Ok n) : SpK sp_finest [nV n, .ref l] H (FinR H fs n) := fun H1 e Q q E =>
  ⟨n, l, fs, rfl, h1, hn, hF.mono e, hfl, ok, fun u H' e' r => q u H' e' (r.back e)⟩
theorem v_distances {p : Addr} {L : List Nat} (hP : PartAt K H p L) (hl : L.length ≤ 1000) : SpK (sp_distances K) [.ref p] H (NewN H (distOf L)) := fun H1 e Q q E => ⟨p, L, rfl, hP.mono e, hl, fun a H' e' ha h => q _ H' e' ⟨a, rfl, Evl.fresh_back e ha, h⟩⟩
theorem cl_finest (T : Tx K mg) (c_consistent_partition : Cl P w K mg base 6 "consistent_partition" (sp_consPart K)) (c_checked_facts : Cl P w K mg base 4 "checked_facts" sp_checked) (c_distances : Mt P w K mg base 2 (CP K) "distances" (sp_distances K)) (A : At K mg "finest_list" "finest_list" "finest_list" s_finest_list []) :
    Cl P w K mg base 7 "finest_list" sp_finest := by
  refine cl_of A sc_finest_list (fun _ _ _ _ _ _ us hl => match us, hl with | [_, _], _ => rfl) (fun vs H Q E h => ?_) (fun f cdv A outer s H vs Q E hr h => ?_)
  · obtain ⟨n, l, fs, rfl, _⟩ := h
    rfl
  · obtain ⟨n, l, fs, rfl, h1, hn, hF, hfl, ok, q⟩ := h
    refine ⟨_, (pss_cons (ps_set (i := 2) sc_finest_list.nd rfl (Or.inl rfl) (pcl c_consistent_partition (hr.mono (by decide)) rfl (pa_cons (pv 0) (pa_cons (pcl c_checked_facts (hr.mono (by decide)) rfl (pa_cons (pv 0) (pa_cons (pv 1) pa_nil))) pa_nil))))
      (pss_one (ps_ret (pe_ifExp (pt_cmpR op_isN (pv 2) pe_non (nomark _)) pe_non (pmt0 c_distances (hr.mono (by decide)) (pv 2)))))), ?_⟩
    refine Go.here (go_setP (tk_consOf (K := K) (ev_var rfl) (ev_var rfl) (ev_var rfl) h1 hn hF hfl ok) fun v H1 e r => ?_)
    rcases r with ⟨c, p, L, rfl, hp, ⟨dx, ld, hpp, hld⟩, hL⟩ | ⟨c, rfl⟩
    · refine go_retP (tk_if (b := false) (Evl.et_test (ev_op (ev_var rfl) ev_c rv_isN)) (fun z => nomatch z) fun _ => tk_meth (m := "distances") (ev_var rfl) hpp (no_leaders (by decide +kernel)) ea_nil (v_distances ⟨dx, ld, hpp, hld⟩ (by rw [hL.1]; omega))) fun u H2 e2 r => ?_
      obtain ⟨a, rfl, ha, h2⟩ := r
      exact q _ H2 (e.trans e2) (.inl ⟨c, a, L, rfl, Evl.fresh_back e ha, hL, h2⟩)
    · exact go_ret (v := .non) (Evl.ev_if (b := true) (Evl.et_test (ev_op (ev_var rfl) ev_c rv_isN)) (fun _ => ev_c) fun z => nomatch z) fun H2 e2 => q _ H2 (e.trans e2) (.inr ⟨c, rfl⟩)
noncomputable def relV (fs : List Fact) (a b : Nat) : V := if bP (Der fs a b) = true then .str "same" else if bP (Cons (fs ++ [.same a b])) = true then .str "unknown" else .str "different"
def sp_relation : Sp := fun vs H Q _ => ∃ (n : Nat) (l : Addr) (fs : List Fact) (a b : Nat), vs = [nV n, .ref l, nV a, nV b] ∧ 1 ≤ n ∧ n ≤ 60 ∧ FactsAt H l fs ∧ fs.length ≤ 39 ∧ (∀ f ∈ fs, f.Ok n) ∧ a < n ∧ b < n ∧ Cons fs ∧ ∀ H', Ex H H' → Q (relV fs a b) H'
theorem v_relation {n : Nat} {l : Addr} {fs : List Fact} {a b : Nat} (h1 : 1 ≤ n) (hn : n ≤ 60) (hF : FactsAt H l fs) (hfl : fs.length ≤ 39) (ok : ∀ f ∈ fs, f.Ok n) (ha : a < n) (hb : b < n) (c : Cons fs) : Evl.SpV sp_relation [nV n, .ref l, nV a, nV b] H (relV fs a b) :=
  fun H1 e Q q E => ⟨n, l, fs, a, b, rfl, h1, hn, hF.mono e, hfl, ok, ha, hb, c, q⟩
theorem FactsAt.snoc {G : Hp} {us : List V} {fs : List Fact} {v : V} {f : Fact} {p : Addr} (hlen : us.length = fs.length) (hat : ∀ (i : Nat) v f, us[i]? = some v → fs[i]? = some f → FactAt H v f) (h1 : FactAt H v f) (hp : H p = some (.lst (us ++ [v]))) : FactsAt H p (fs ++ [f]) :=
  ⟨us ++ [v], hp, by rw [List.length_append, List.length_append, hlen]; rfl, (FPair.snoc ⟨hlen, hat⟩ h1).2⟩
theorem tk_lst1 {σ : L2.St} {te : TE} {R : V → Hp → Prop} (h : Tk te σ H R) : Tk (tLst (tCons te tNil)) σ H (fun v H2 => ∃ p u H1, v = .ref p ∧ H p = none ∧ H2 p = some (.lst [u]) ∧ Ex H H1 ∧ Ex H1 H2 ∧ R u H1) := fun H1 e Q q =>
  h H1 e _ fun u H2 e2 r => ⟨by show 1 ≤ sizeLine; decide, fun p hp => q _ _ (e2.trans (Ex.new hp)) ⟨p, u, H2, rfl, Evl.fresh_back (e.trans e2) hp, upd_same, e.trans e2, Ex.new hp, r⟩⟩
/-- a known list and a new list of one -/
theorem tk_cat1 {σ : L2.St} {ta tb : TE} {l : Addr} {us : List V} {R : V → Hp → Prop} (h0 : Ev ta σ H (.ref l)) (hl : H l = some (.lst us)) (hlen : us.length ≤ 1000) (h : Tk tb σ H (fun v H2 => ∃ p u H1, v = .ref p ∧ H p = none ∧ H2 p = some (.lst [u]) ∧ Ex H H1 ∧ Ex H1 H2 ∧ R u H1)) :
    Tk (tOp rCat ta tb) σ H (fun v H2 => ∃ p u H1, v = .ref p ∧ H p = none ∧ H2 p = some (.lst (us ++ [u])) ∧ Ex H H1 ∧ Ex H1 H2 ∧ R u H1) := fun H1 e Q q =>
  h0 H1 e _ fun H2 e2 => h H2 (e.trans e2) _ fun v H3 e3 r => by
    obtain ⟨p, u, G, rfl, hp, h3, g1, g2, hr⟩ := r
    refine ⟨l, p, us, [u], rfl, rfl, e3 _ _ (e2 _ _ (e _ _ hl)), h3, Evl.sz_of (by simp; omega), fun m hm => ?_⟩
    exact q _ _ ((e2.trans e3).trans (Ex.new hm)) ⟨m, u, G, rfl, Evl.fresh_back ((e.trans e2).trans e3) hm, upd_same, g1, g2.trans (Ex.new hm), hr⟩
theorem tk_catF {σ : L2.St} {ta t1 t2 t3 : TE} {l : Addr} {fs : List Fact} {a b : Nat} (hF : FactsAt H l fs) (hfl : fs.length ≤ 40) (h0 : Ev ta σ H (.ref l)) (h1 : Ev t1 σ H sSame) (h2 : Ev t2 σ H (nV a)) (h3 : Ev t3 σ H (nV b)) :
    Tk (tOp rCat ta (tLst (tCons (tTup (tCons t1 (tCons t2 (tCons t3 tNil)))) tNil))) σ H (fun v H2 => ∃ p, v = .ref p ∧ H p = none ∧ FactsAt H2 p (fs ++ [.same a b])) := by
  obtain ⟨us, hl, hlen, hat⟩ := hF
  refine (tk_cat1 h0 hl (by omega) (tk_lst1 (tk_tup (vs := [sSame, nV a, nV b]) (ea_cons h1 (ea_cons h2 (ea_cons h3 ea_nil))) (by simp)))).imp fun v H2 e r => ?_
  obtain ⟨p, u, G, rfl, hp, hc, g1, g2, t, rfl, ht, ht2⟩ := r
  exact ⟨p, rfl, hp, FactsAt.snoc (G := H) hlen (fun i v f x y => (hat i v f x y).mono e) ⟨t, rfl, g2 _ _ ht2⟩ hc⟩
theorem cl_relation (T : Tx K mg) (c_consistent_partition : Cl P w K mg base 6 "consistent_partition" (sp_consPart K)) (c_checked_facts : Cl P w K mg base 4 "checked_facts" sp_checked) (c_check_positions : Cl P w K mg base 2 "check_positions" sp_checkPos)
    (c_are_equal : Mt P w K mg base 1 (CP K) "are_equal" (sp_areEqual K)) (A : At K mg "relation" "relation" "relation" s_relation []) : Cl P w K mg base 7 "relation" sp_relation := by
  refine cl_of A sc_relation (fun _ _ _ _ _ _ us hl => match us, hl with | [_, _, _, _], _ => rfl) (fun vs H Q E h => ?_) (fun f cdv A outer s H vs Q E hr h => ?_)
  · obtain ⟨n, l, fs, a, b, rfl, _⟩ := h
    rfl
  · obtain ⟨n, l, fs, a, b, rfl, h1, hn, hF, hfl, ok, ha, hb, hc, q⟩ := h
    refine ⟨_, (pss_cons (ps_set (i := 4) sc_relation.nd rfl (Or.inl rfl) (pcl c_checked_facts (hr.mono (by decide)) rfl (pa_cons (pv 0) (pa_cons (pv 1) pa_nil))))
      (pss_cons (ps_expr (pcl c_check_positions (hr.mono (by decide)) rfl (pa_cons (pv 0) (pa_cons (pv 2) (pa_cons (pv 3) pa_nil)))))
      (pss_cons (ps_set (i := 5) sc_relation.nd rfl (Or.inl rfl) (pcl c_consistent_partition (hr.mono (by decide)) rfl (pa_cons (pv 0) (pa_cons (pv 4) pa_nil))))
      (pss_cons (ps_if (pt_cmpR op_isN (pv 5) pe_non (nomark _)) (pss_one ps_never) pss_nil)
      (pss_cons (ps_if (pt_val (pmt c_are_equal (hr.mono (by decide)) (pv 5) (pa_cons (pv 2) (pa_cons (pv 3) pa_nil)))) (pss_one (ps_ret (pk T.SAME))) pss_nil)
      (pss_one (ps_ret (pe_ifExp (pt_cmpR op_isN (pcl c_consistent_partition (hr.mono (by decide)) rfl (pa_cons (pv 0) (pa_cons (pe_op op_cat (pv 4) (pe_lst (pa_cons (pe_tup (pa_cons (pk T.SAME) (pa_cons (pv 2) (pa_cons (pv 3) pa_nil)))) pa_nil))) pa_nil))) pe_non (nomark _)) (pk T.DIFFERENT) (pk T.UNKNOWN))))))))), ?_⟩
    refine Go.here (go_setP (tk_call (by walk_at "ev") (v_checked h1 hn hF (by omega) ok)) fun v1 H1 e1 r1 => ?_)
    obtain ⟨lk, rfl, hlk, hK⟩ := r1
    refine go_drop (v := .non) (ev_call (by walk_at "ev") (v_checkPos (n := (n : Int)) (i := (a : Int)) (j := (b : Int)) (by omega) (by omega) (by omega) (by omega))) ?_
    refine go_setP (tk_call (by walk_at "ev") (v_consPart (K := K) h1 hn hK (by omega) ok)) fun v2 H2 e2 r2 => ?_
    rcases r2 with ⟨c, p, L, rfl, hp, ⟨dx, ld, hpp, hld⟩, hL⟩ | ⟨c, rfl⟩
    · have K2 := hK.mono e2
      refine go_skip (b := false) (Evl.et_test (ev_op (ev_var rfl) ev_c rv_isN)) rfl ?_
      refine go_when (Evl.et_B (ev_meth (m := "are_equal") (ev_var rfl) hpp (no_leaders (by decide +kernel)) (by walk_at "ev") (v_areEqual (L := L) (a := a) (b := b) ⟨dx, ld, hpp, hld⟩ (by rw [hL.1]; exact ha) (by rw [hL.1]; exact hb)))) (fun hd => ?_) (fun hd => ?_)
      · have d : Der fs a b := (hL.2 a b ha hb).mp (of_decide_eq_true hd)
        have er : relV fs a b = .str "same" := by unfold relV; rw [if_pos (bP_true d)]
        rw [er] at q
        exact go_ret ev_c fun H3 e3 => q H3 ((e1.trans e2).trans e3)
      · have d : ¬ Der fs a b := fun z => of_decide_eq_false hd ((hL.2 a b ha hb).mpr z)
        have nab : a ≠ b := fun z => d (by rw [z]; exact .refl b)
        have okm : ∀ f ∈ fs ++ [Fact.same a b], f.Ok n := fun f hf => by
          rcases List.mem_append.mp hf with h | h
          · exact ok f h
          · have h := List.mem_singleton.mp h
            rw [h]
            exact ⟨ha, hb, nab⟩
        have er : relV fs a b = if bP (Cons (fs ++ [.same a b])) = true then .str "unknown" else .str "different" := by unfold relV; rw [if_neg (fun z => d (bP_iff.mp z))]
        rw [er] at q
        have hcp := tk_callA (sp := sp_consPart K) (E := E0) (R' := ConsR K H2 (fs ++ [.same a b]) n) (ta := tVar 0) (σ := [some (nV n), some (.ref l), some (nV a), some (nV b), some (.ref lk), some (.ref p)]) (ev_var rfl) (tk_catF (a := a) (b := b) K2 (by omega) (ev_var (i := 4) rfl) ev_c (ev_var (i := 2) rfl) (ev_var (i := 3) rfl)) fun v H3 e3 r => by
          obtain ⟨pl, rfl, _, hF3⟩ := r
          exact (v_consPart (K := K) (fs := fs ++ [.same a b]) h1 hn hF3 (by rw [List.length_append, List.length_singleton]; omega) okm).imp fun u H4 e4 r4 => r4.back e3
        refine go_ret (Evl.ev_if (b := !bP (Cons (fs ++ [.same a b]))) (Evl.et_test (fun H3 e3 Q' q' => hcp H3 e3 _ fun u H4 e4 r => ⟨rfl, ?_⟩)) (fun hx => ?_) (fun hx => ?_)) fun H3 e3 => q H3 ((e1.trans e2).trans e3)
        · have z := q' H4 e4
          rcases r with ⟨cc, p', L', rfl, _⟩ | ⟨cc, rfl⟩
          · rw [bP_true cc] at z
            exact z
          · rw [bP_false cc] at z
            exact z
        · rw [if_neg (by simpa using hx)]
          exact ev_c
        · rw [if_pos (by simpa using hx)]
          exact ev_c
    · exact absurd hc c
end
end Hfb
namespace Hfb
open PySem PySem.Spec PyProof.Rows L2
open Evl (Ex Ev EvT EvA EvL EvU ev_op ev_var ev_c ev_call ea_cons ea_nil)
section
variable {P : Program} {w : World} {K : PySem.W.Frag} {mg : Str → Option Value} {base : Heap} {H : Hp}
local macro_rules | `(tactic| walk_at "spv") => `(tactic| first | exact v_isInt | exact v_isIntD | exact v_twoPos | exact v_isSeq (.t (by assumption)) | exact v_isSeq (.l (by assumption)) | exact v_isDist (by assumption) (by omega))
local macro_rules | `(tactic| walk_at "rv") => `(tactic| first
  | with_reducible exact Evl.rv_I0
  | ((with_reducible refine Evl.rv_eq ?_); rfl)
  | ((with_reducible refine Evl.rv_ne ?_); rfl)
  | ((with_reducible apply Evl.rv_ixT); (first | assumption | exact Evl.st_of (by assumption)); (first | rfl | assumption))
  | ((with_reducible apply Evl.rv_ixL); (first | assumption | exact Evl.sq_of (by assumption)); (first | rfl | assumption))
  | exact isi_int
  | exact isi_bool
  | exact isi_str
  | exact rc_max
  | exact rc_min
  | (apply rc_lenL; first | assumption | exact Evl.sq_of (by assumption))
  | (apply rc_lenT; first | assumption | exact Evl.st_of (by assumption))
  | walk_at "fld"
  | walk_at "spv")
local macro_rules | `(tactic| walk_at "ev") => `(tactic| first
  | ((with_reducible apply Evl.ev_var); rfl)
  | with_reducible exact Evl.ev_c
  | with_reducible exact Evl.ea_nil
  | ((with_reducible apply Evl.ea_cons) <;> walk_at "ev")
  | ((with_reducible apply Evl.ev_op) <;> walk_at "ev")
  | ((with_reducible apply ev_chain) <;> walk_at "ev")
  | ((with_reducible apply Evl.ev_cb) <;> walk_at "ev")
  | ((with_reducible apply Evl.ev_call) <;> walk_at "ev")
  | ((with_reducible apply Evl.ev_notV) <;> walk_at "ev")
  | ((with_reducible apply ev_andU) <;> walk_at "ev")
  | ((with_reducible apply ev_orU) <;> walk_at "ev")
  | ((with_reducible apply Evl.et_B) <;> walk_at "ev")
  | ((with_reducible apply Evl.et_test) <;> walk_at "ev")
  | ((with_reducible apply Evl.et_not) <;> walk_at "ev")
  | ((with_reducible apply et_andU) <;> walk_at "ev")
  | ((with_reducible apply et_orU) <;> walk_at "ev")
  | walk_at "rv")
theorem hu65 {A : Around} {k : Nat} (hr : Room k A) : A.units + 65 < cLine := by have := hr.un; omega
/-! ### arguments that are told -/
def TkA (ta : TA) (σ : L2.St) (H : Hp) (R : List V → Hp → Prop) : Prop := ∀ H1, Ex H H1 → ∀ Q : List V → Hp → Prop, (∀ vs H2, Ex H1 H2 → R vs H2 → Q vs H2) → ta σ H1 Q
section
variable {σ : L2.St} {te tl : TE} {ta : TA} {R1 R' : V → Hp → Prop} {R R2 : List V → Hp → Prop} {sp : Sp} {E : XK}
theorem tka_nil : TkA tNil σ H (fun vs _ => vs = []) := fun H1 e Q q => q [] H1 (Ex.refl H1) rfl
theorem tka_cons (h : Tk te σ H R1) (h2 : TkA ta σ H R2) : TkA (tCons te ta) σ H (fun vs H2 => ∃ u us H1, vs = u :: us ∧ Ex H H1 ∧ Ex H1 H2 ∧ R1 u H1 ∧ R2 us H2) := fun H1 e Q q =>
  h H1 e _ fun u H2 e2 r => h2 H2 (e.trans e2) _ fun us H3 e3 r3 => q _ H3 (e2.trans e3) ⟨u, us, H2, rfl, e.trans e2, e3, r, r3⟩
theorem tka_ev (h : EvA ta σ H vs') : TkA ta σ H (fun vs _ => vs = vs') := fun H1 e Q q => h H1 e Q fun H2 e2 => q _ H2 e2 rfl
theorem tk_tupA (h : TkA ta σ H R) (hl : ∀ vs H2, R vs H2 → vs.length ≤ 100000) : Tk (tTup ta) σ H (fun v H2 => ∃ p vs H1, v = .ref p ∧ H p = none ∧ H2 p = some (.tup vs) ∧ Ex H H1 ∧ Ex H1 H2 ∧ R vs H1) := fun H1 e Q q =>
  h H1 e _ fun vs H2 e2 r => ⟨Evl.sz_of (hl vs H2 r), fun p hp => q _ _ (e2.trans (Ex.new hp)) ⟨p, vs, H2, rfl, Evl.fresh_back (e.trans e2) hp, upd_same, e.trans e2, Ex.new hp, r⟩⟩
theorem tk_lstA (h : TkA ta σ H R) (hl : ∀ vs H2, R vs H2 → vs.length ≤ 100000) : Tk (tLst ta) σ H (fun v H2 => ∃ p vs H1, v = .ref p ∧ H p = none ∧ H2 p = some (.lst vs) ∧ Ex H H1 ∧ Ex H1 H2 ∧ R vs H1) := fun H1 e Q q =>
  h H1 e _ fun vs H2 e2 r => ⟨Evl.sz_of (hl vs H2 r), fun p hp => q _ _ (e2.trans (Ex.new hp)) ⟨p, vs, H2, rfl, Evl.fresh_back (e.trans e2) hp, upd_same, e.trans e2, Ex.new hp, r⟩⟩
theorem tk_callR (h : TkA ta σ H R) (hs : ∀ vs H2, Ex H H2 → R vs H2 → SpK sp (vs ++ []) H2 R') : Tk (tCall sp [] E ta) σ H R' := fun H1 e Q q =>
  h H1 e _ fun vs H2 e2 r => hs vs H2 (e.trans e2) r H2 (Ex.refl H2) Q (fun u H3 e3 r3 => q u H3 (e2.trans e3) r3) E
end
theorem q_forTK {σ : L2.St} {tl : TE} {g : TG} {tu tz : TS} {D : Ends} {R : V → Hp → Prop} (h : Tk tl σ H R) (k : ∀ v H1, Ex H H1 → R v H1 → ∃ (p : Addr) (xs : List V) (Pv : Nat → L2.St → Hp → Prop), v = .ref p ∧ SqT K H1 p xs ∧ Pv 0 σ H1 ∧
    (∀ i σ' H', i ≤ xs.length → Pv i σ' H' → SqT K H' p xs) ∧ (∀ i x σ' H', xs[i]? = some x → Pv i σ' H' → g x σ' H' fun σ2 H2 => tu { D with nx := Pv (i + 1), ct := Pv (i + 1), bk := tz D } σ2 H2) ∧ (∀ σ' H', Pv xs.length σ' H' → tz D σ' H')) :
    tSeq (tFor (iTup K tl) g tu) tz D σ H := h H (Ex.refl H) _ fun v H1 e r => by
  obtain ⟨p, xs, Pv, rfl, h1, h2, h3, h4, h5⟩ := k v H1 e r
  exact ⟨p, rfl, ⟨xs, h1⟩, for_tup Pv h2 h3 h4 h5⟩
/-! ### pair_key, copies -/
def sp_pairKey : Sp := fun vs H Q _ => ∃ a b : Nat, vs = [nV a, nV b] ∧ ∀ v H', Ex H H' → PairAt H' v (keyP a b) → Q v H'
theorem v_pairKey {a b : Nat} : SpK sp_pairKey [nV a, nV b] H (fun v H' => PairAt H' v (keyP a b)) := fun H1 e Q q E => ⟨a, b, rfl, q⟩
theorem cl_pairKey (T : Tx K mg) (A : At K mg "pair_key" "pair_key" "pair_key" s_pair_key []) : Cl P w K mg base 1 "pair_key" sp_pairKey := by
  refine cl_of A sc_pair_key (fun _ _ _ _ _ _ us hl => match us, hl with | [_, _], _ => rfl) (fun vs H Q E h => ?_) (fun f cdv A outer s H vs Q E hr h => ?_)
  · obtain ⟨a, b, rfl, _⟩ := h
    rfl
  · obtain ⟨a, b, rfl, q⟩ := h
    refine ⟨_, (pss_one (ps_ret (pe_tup (pa_cons (pe_callB (call_min2 rfl) rfl T.b_min (by decide +kernel) (pa_cons (pv 0) (pa_cons (pv 1) pa_nil))) (pa_cons (pe_callB (call_max2 rfl) rfl T.b_max (by decide +kernel) (pa_cons (pv 0) (pa_cons (pv 1) pa_nil))) pa_nil))))), ?_⟩
    refine Go.here (go_retP (tk_tup (by walk_at "ev") (by simp)) fun v H1 e r => ?_)
    obtain ⟨p, rfl, _, h1⟩ := r
    rw [nmin, nmax] at h1
    exact q _ H1 e ⟨p, rfl, h1⟩
def sp_copies : Sp := fun vs H Q _ => ∃ (v : V) (s t l a b : Nat), vs = [v, nV a, nV b] ∧ FactAt H v (.eqv s t l) ∧ l ≤ 1000 ∧ ∀ u H', Ex H H' → NewP H (copiesL s t l a b) u H' → Q u H'
theorem v_copies {v : V} {s t l a b : Nat} (h : FactAt H v (.eqv s t l)) (hl : l ≤ 1000) : SpK sp_copies [v, nV a, nV b] H (NewP H (copiesL s t l a b)) := fun H1 e Q q E =>
  ⟨v, s, t, l, a, b, rfl, h.mono e, hl, fun u H' e2 r => q u H' e2 (by obtain ⟨p, us, h1, h2, h3⟩ := r; exact ⟨p, us, h1, Evl.fresh_back e h2, h3⟩)⟩
def cpHalf (s t l a b : Nat) : List Pr := if s ≤ a ∧ a < s + l ∧ s ≤ b ∧ b < s + l then [(t + a - s, t + b - s)] else []
theorem copies_half (s t l a b : Nat) : copiesL s t l a b = cpHalf s t l a b ++ cpHalf t s l a b := rfl
theorem cl_copies (T : Tx K mg) (A : At K mg "copies" "copies" "copies" s_copies []) : Cl P w K mg base 1 "copies" sp_copies := by
  refine cl_of A sc_copies (fun _ _ _ _ _ _ us hl => match us, hl with | [_, _, _], _ => rfl) (fun vs H Q E h => ?_) (fun f cdv A outer s H vs Q E hr h => ?_)
  · obtain ⟨v, s, t, l, a, b, rfl, _⟩ := h
    rfl
  · obtain ⟨v, s, t, l, a, b, rfl, ⟨c, rfl, hc⟩, hl, q⟩ := h
    refine ⟨_, (pss_cons (ps_set (i := 3) sc_copies.nd rfl (Or.inl rfl) (pe_lst pa_nil))
      (pss_cons (ps_set (i := 4) sc_copies.nd rfl (Or.inl rfl) (pe_ix ix_tup (pv 0) pe_int (fun _ _ => rfl)))
      (pss_cons (ps_for PassesOwn.never rfl (pi_tup (pe_tup (pa_cons (pe_tup (pa_cons (pe_ix ix_tup (pv 0) pe_int (fun _ _ => rfl)) (pa_cons (pe_ix ix_tup (pv 0) pe_int (fun _ _ => rfl)) pa_nil))) (pa_cons (pe_tup (pa_cons (pe_ix ix_tup (pv 0) pe_int (fun _ _ => rfl)) (pa_cons (pe_ix ix_tup (pv 0) pe_int (fun _ _ => rfl)) pa_nil))) pa_nil)))) (pg_tup rfl (pgs_cons (pg_name (i := 5) sc_copies.nd rfl (Or.inl rfl)) (pgs_cons (pg_name (i := 6) sc_copies.nd rfl (Or.inl rfl)) pgs_nil)))
          (pss_one (ps_if (PW.pt (pw_and (pt_chain op_le op_lt (pv 5) (pv 1) (pe_op op_add (pv 5) (pv 4))) (pw_and1 (pt_chain op_le op_lt (pv 5) (pv 2) (pe_op op_add (pv 5) (pv 4)))))) (pss_one (ps_expr (pe_bm PySem.F.plainAttrs_list PySem.F.slot_list_append PySem.F.type_list_append mt_append (pv 3) (pa_cons (pe_tup (pa_cons (pe_op op_sub (pe_op op_add (pv 6) (pv 1)) (pv 5)) (pa_cons (pe_op op_sub (pe_op op_add (pv 6) (pv 2)) (pv 5)) pa_nil))) pa_nil)))) pss_nil)))
      (pss_one (ps_ret (pv 3)))))), ?_⟩
    refine Go.here (go_setP (tk_lst ea_nil (by simp)) fun v1 H1 e1 r1 => ?_)
    obtain ⟨pl, rfl, hpl, hpl1⟩ := r1
    have hc1 := e1 _ _ hc
    refine go_set (by walk_at "ev") ?_
    intro H2 e2
    have hc2 := e2 _ _ hc1
    have hpl2 := e2 _ _ hpl1
    refine q_forTK (K := K) (tk_tupA (tka_cons (tk_tup (vs := [nV s, nV t]) (by walk_at "ev") (by simp)) (tka_cons (tk_tup (vs := [nV t, nV s]) (by walk_at "ev") (by simp)) tka_nil)) (fun vs H3 r => by obtain ⟨_, _, _, rfl, _, _, _, _, _, _, rfl, _, _, _, rfl⟩ := r; simp)) fun v3 H3 e3 r3 => ?_
    obtain ⟨pt, vs3, G, rfl, hpt, hpt3, g1, g2, u1, us1, G1, rfl, _, g3, ⟨t1, rfl, ht1, ht1'⟩, u2, us2, G2, rfl, _, g4, ⟨t2, rfl, ht2, ht2'⟩, rfl⟩ := r3
    have k1 : H3 t1 = some (.tup [nV s, nV t]) := g2 _ _ (g3 _ _ ht1')
    have k2 : H3 t2 = some (.tup [nV t, nV s]) := g2 _ _ (g4 _ _ ht2')
    have e03 : Ex H H3 := (e1.trans e2).trans e3
    have hpl3 := e3 _ _ hpl2
    refine ⟨pt, [.ref t1, .ref t2], fun i σ' H' => ∃ y5 y6 us, σ' = [some (.ref c), some (nV a), some (nV b), some (.ref pl), some (nV l), y5, y6] ∧ Ex H H' ∧ H' pt = some (.tup [.ref t1, .ref t2]) ∧ H' t1 = some (.tup [nV s, nV t]) ∧ H' t2 = some (.tup [nV t, nV s]) ∧ H' pl = some (.lst us) ∧
      PairsAt H' us (if i = 0 then [] else if i = 1 then cpHalf s t l a b else copiesL s t l a b), rfl, Evl.st_of hpt3, ?_, fun i σ' H' _ hPv => ?_, fun i x σ' H' hi hPv => ?_, fun σ' H' hPv => ?_⟩
    · exact ⟨_, _, [], rfl, e03, hpt3, k1, k2, hpl3, PairsAt.nil⟩
    · obtain ⟨_, _, _, _, _, h, _⟩ := hPv
      exact Evl.st_of h
    · obtain ⟨y5, y6, us, rfl, e', h1, h2, h3, h4, h5⟩ := hPv
      -- one direction
      have turn : ∀ (s' t' : Nat) (ps : List Pr), PairsAt H' us ps → ps.length ≤ 5 → ∀ (D : Ends), (∀ us' H'', Ex H H'' → H'' pt = some (.tup [.ref t1, .ref t2]) → H'' t1 = some (.tup [nV s, nV t]) → H'' t2 = some (.tup [nV t, nV s]) → H'' pl = some (.lst us') → PairsAt H'' us' (ps ++ cpHalf s' t' l a b) →
          D.nx [some (.ref c), some (nV a), some (nV b), some (.ref pl), some (nV l), some (nV s'), some (nV t')] H'') →
          (tIfS (tAnd (tTest (tChain (rI0 fun i j => .bl (decide (i ≤ j))) (rI0 fun i j => .bl (decide (i < j))) (tVar 5) (tVar 1) (tOp (rI0 fun i j => .int (i + j)) (tVar 5) (tVar 4)))) (tTest (tChain (rI0 fun i j => .bl (decide (i ≤ j))) (rI0 fun i j => .bl (decide (i < j))) (tVar 5) (tVar 2) (tOp (rI0 fun i j => .int (i + j)) (tVar 5) (tVar 4)))))
            (tDrop (tBM K "list" rAppend (tVar 3) (tCons (tTup (tCons (tOp (rI0 fun i j => .int (i - j)) (tOp (rI0 fun i j => .int (i + j)) (tVar 6) (tVar 1)) (tVar 5)) (tCons (tOp (rI0 fun i j => .int (i - j)) (tOp (rI0 fun i j => .int (i + j)) (tVar 6) (tVar 2)) (tVar 5)) tNil))) tNil))) tNext) D
            [some (.ref c), some (nV a), some (nV b), some (.ref pl), some (nV l), some (nV s'), some (nV t')] H' := by
        intro s' t' ps hps hpl5 D hN
        refine Evl.s_when (by walk_at "ev") (fun hb H4 e4 => ?_) (fun hb H4 e4 => ?_)
        · have hb : s' ≤ a ∧ a < s' + l ∧ s' ≤ b ∧ b < s' + l := by simp at hb; omega
          refine s_app2 (K := K) (e4 _ _ h4) (ev_var rfl) (tk_tup (vs := [nV (t' + a - s'), nV (t' + b - s')]) (ea_cons (Evl.ev_is (by walk_at "ev") (by congr 1; omega)) (ea_cons (Evl.ev_is (by walk_at "ev") (by congr 1; omega)) ea_nil)) (by simp)) (by rw [hps.1]; omega) fun u H5 e5 r => ?_
          obtain ⟨m, rfl, hm, hm5⟩ := r
          have e45 := e4.trans e5
          have hplH := e45 _ _ h4
          refine hN (us ++ [.ref m]) _ (Ex.mut (e'.trans e45) hpl) ?_ ?_ ?_ upd_same ?_
          · rw [upd_ne (ne_of (e45 _ _ h1) hplH (by intro z; cases z))]; exact e45 _ _ h1
          · rw [upd_ne (ne_of (e45 _ _ h2) hplH (by intro z; cases z))]; exact e45 _ _ h2
          · rw [upd_ne (ne_of (e45 _ _ h3) hplH (by intro z; cases z))]; exact e45 _ _ h3
          · unfold cpHalf
            rw [if_pos hb]
            exact ((hps.te (te_of e45)).snoc ⟨m, rfl, hm5⟩).te (te_mut hplH)
        · have hb : ¬ (s' ≤ a ∧ a < s' + l ∧ s' ≤ b ∧ b < s' + l) := by simp at hb; omega
          refine hN us H4 (e'.trans e4) (e4 _ _ h1) (e4 _ _ h2) (e4 _ _ h3) (e4 _ _ h4) ?_
          unfold cpHalf
          rw [if_neg hb, List.append_nil]
          exact hps.te (te_of e4)
      match i, hi with
      | 0, hi =>
        cases hi
        refine g2_ok (Evl.st_of h2) ?_
        refine turn s t [] h5 (by simp) _ (fun us' H'' a1 a2 a3 a4 a5 a6 => ⟨_, _, us', rfl, a1, a2, a3, a4, a5, ?_⟩)
        simpa using a6
      | 1, hi =>
        cases hi
        refine g2_ok (Evl.st_of h3) ?_
        refine turn t s (cpHalf s t l a b) h5 (by unfold cpHalf; split <;> simp) _ (fun us' H'' a1 a2 a3 a4 a5 a6 => ⟨_, _, us', rfl, a1, a2, a3, a4, a5, ?_⟩)
        rw [copies_half]
        simpa using a6
    · obtain ⟨y5, y6, us, rfl, e', h1, h2, h3, h4, h5⟩ := hPv
      exact Go.here (go_ret (ev_var rfl) fun H4 e4 => q _ H4 (e'.trans e4) ⟨pl, us, rfl, hpl, e4 _ _ h4, PairsAt.te (te_of e4) (by simpa using h5)⟩)
end
end Hfb
namespace Hfb
open PySem PySem.Spec PyProof.Rows L2
open Evl (Ex Ev EvT EvA EvL EvU ev_op ev_var ev_c ev_call ea_cons ea_nil)
section
variable {P : Program} {w : World} {K : PySem.W.Frag} {mg : Str → Option Value} {base : Heap} {H : Hp}
local macro_rules | `(tactic| walk_at "spv") => `(tactic| first | exact v_isInt | exact v_isIntD | exact v_twoPos | exact v_isSeq (.t (by assumption)) | exact v_isSeq (.l (by assumption)) | exact v_isDist (by assumption) (by omega))
local macro_rules | `(tactic| walk_at "rv") => `(tactic| first
  | with_reducible exact Evl.rv_I0
  | ((with_reducible refine Evl.rv_eq ?_); rfl)
  | ((with_reducible refine Evl.rv_ne ?_); rfl)
  | ((with_reducible apply Evl.rv_ixT); (first | assumption | exact Evl.st_of (by assumption)); (first | rfl | assumption))
  | ((with_reducible apply Evl.rv_ixL); (first | assumption | exact Evl.sq_of (by assumption)); (first | rfl | assumption))
  | exact isi_int
  | exact isi_bool
  | exact isi_str
  | exact rc_max
  | exact rc_min
  | (apply rc_lenL; first | assumption | exact Evl.sq_of (by assumption))
  | (apply rc_lenT; first | assumption | exact Evl.st_of (by assumption))
  | walk_at "fld"
  | walk_at "spv")
local macro_rules | `(tactic| walk_at "ev") => `(tactic| first
  | ((with_reducible apply Evl.ev_var); rfl)
  | with_reducible exact Evl.ev_c
  | with_reducible exact Evl.ea_nil
  | ((with_reducible apply Evl.ea_cons) <;> walk_at "ev")
  | ((with_reducible apply Evl.ev_op) <;> walk_at "ev")
  | ((with_reducible apply ev_chain) <;> walk_at "ev")
  | ((with_reducible apply Evl.ev_cb) <;> walk_at "ev")
  | ((with_reducible apply Evl.ev_call) <;> walk_at "ev")
  | ((with_reducible apply Evl.ev_notV) <;> walk_at "ev")
  | ((with_reducible apply ev_andU) <;> walk_at "ev")
  | ((with_reducible apply ev_orU) <;> walk_at "ev")
  | ((with_reducible apply Evl.et_B) <;> walk_at "ev")
  | ((with_reducible apply Evl.et_test) <;> walk_at "ev")
  | ((with_reducible apply Evl.et_not) <;> walk_at "ev")
  | ((with_reducible apply et_andU) <;> walk_at "ev")
  | ((with_reducible apply et_orU) <;> walk_at "ev")
  | walk_at "rv")
/-! ### reasons, steps, what is known -/
def RsAt (H : Hp) (v : V) : Reason → Prop
  | .fact m => ∃ a, v = .ref a ∧ H a = some (.tup [.str "fact", nV m])
  | .chain r => ∃ a, v = .ref a ∧ H a = some (.tup [.str "chain", nV r])
  | .copy m x y => ∃ a, v = .ref a ∧ H a = some (.tup [.str "copy", nV m, nV x, nV y])
theorem RsAt.te {H H' : Hp} {v : V} {r : Reason} (e : TEx H H') (h : RsAt H v r) : RsAt H' v r := by
  cases r with
  | fact m => obtain ⟨a, h1, h2⟩ := h; exact ⟨a, h1, e _ _ h2⟩
  | chain m => obtain ⟨a, h1, h2⟩ := h; exact ⟨a, h1, e _ _ h2⟩
  | copy m x y => obtain ⟨a, h1, h2⟩ := h; exact ⟨a, h1, e _ _ h2⟩
def StepAt (H : Hp) (v : V) (s : Step) : Prop := ∃ a u, v = .ref a ∧ H a = some (.tup [nV s.p, nV s.q, u]) ∧ RsAt H u s.reason
theorem StepAt.te {H H' : Hp} {v : V} {s : Step} (e : TEx H H') (h : StepAt H v s) : StepAt H' v s := by
  obtain ⟨a, u, h1, h2, h3⟩ := h
  exact ⟨a, u, h1, e _ _ h2, h3.te e⟩
abbrev kK (k : Pr) : List Key := [Sum.inl (k.1 : Int), Sum.inl (k.2 : Int)]
def KnAt (H : Hp) (d : Addr) (Kn : List Pr) : Prop := ∃ kvs : List (List Key × V), H d = some (.dT kvs) ∧ kvs.length ≤ Kn.length ∧ ∀ k : Pr, (valV kvs (kK k)).isSome = true ↔ k ∈ Kn
theorem KnAt.mono {H H' : Hp} {d : Addr} {Kn : List Pr} (e : Ex H H') (h : KnAt H d Kn) : KnAt H' d Kn := by
  obtain ⟨kvs, h1, h2⟩ := h
  exact ⟨kvs, e _ _ h1, h2⟩
theorem kK_eq {k l : Pr} : kK k = kK l ↔ k = l := by
  constructor
  · intro h
    injection h with h1 h2
    injection h2 with h2 _
    have h1 := Sum.inl.inj h1
    have h2 := Sum.inl.inj h2
    exact Prod.ext (by omega) (by omega)
  · intro h; rw [h]
section
variable {σ : L2.St} {ty td te : TE} {d : Addr} {Kn : List Pr} {k : Pr}
theorem ev_dinT (hk : KnAt H d Kn) (h : Tk ty σ H (fun v H' => PairAt H' v k)) (hd : Ev td σ H (.ref d)) : Ev (tDIn ty td) σ H (.bl (bP (k ∈ Kn))) := fun H1 e Q q =>
  h H1 e _ fun v H2 e2 r => hd H2 (e.trans e2) _ fun H3 e3 => by
    obtain ⟨b, rfl, hb⟩ := r
    obtain ⟨kvs, h1, _, h3⟩ := hk
    refine ⟨d, _, rfl, DGet.t (k := kK k) (e3 _ _ (e2 _ _ (e _ _ h1))) (e3 _ _ hb), ?_⟩
    have ee : bP (k ∈ Kn) = (valV kvs (kK k)).isSome := (bP_of (h3 k)).symm
    rw [← ee]
    exact q H3 (e2.trans e3)
theorem ev_dnotinT (hk : KnAt H d Kn) (h : Tk ty σ H (fun v H' => PairAt H' v k)) (hd : Ev td σ H (.ref d)) : Ev (tDNotIn ty td) σ H (.bl (!bP (k ∈ Kn))) := fun H1 e Q q =>
  h H1 e _ fun v H2 e2 r => hd H2 (e.trans e2) _ fun H3 e3 => by
    obtain ⟨b, rfl, hb⟩ := r
    obtain ⟨kvs, h1, _, h3⟩ := hk
    refine ⟨d, _, rfl, DGet.t (k := kK k) (e3 _ _ (e2 _ _ (e _ _ h1))) (e3 _ _ hb), ?_⟩
    have ee : bP (k ∈ Kn) = (valV kvs (kK k)).isSome := (bP_of (h3 k)).symm
    rw [← ee]
    exact q H3 (e2.trans e3)
theorem go_tup3 {tz : TS} {D : Ends} {a : Addr} {i j l : Nat} {x y z : V} (h : Ev te σ H (.ref a)) (ha : H a = some (.tup [x, y, z])) (k : Go tz D (((σ.set i (some x)).set j (some y)).set l (some z)) H) :
    Go (tSeq (tAsg te (gTup K 3 (gCons (gName i) (gCons (gName j) (gCons (gName l) gNil))))) tz) D σ H := fun H1 e => h H1 e _ fun H2 e2 =>
  ⟨a, _, rfl, Evl.st_of (e2 _ _ (e _ _ ha)), rfl, x, _, rfl, y, _, rfl, z, _, rfl, rfl, k H2 (e.trans e2)⟩
end
/-! (a, b) in a list of pairs -/
abbrev dP (k : Pr) : PyData := .tuple (dI [(k.1 : Int), (k.2 : Int)])
theorem can_pairs : ∀ ps : List Pr, PyData.canLayAll0 (ps.map dP) = true
  | [] => rfl
  | x :: r => by show (PyData.canLayAll0 (dI [(x.1 : Int), (x.2 : Int)]) && PyData.canLayAll0 (r.map dP)) = true; rw [can_pairs r, can_ints]; rfl
theorem depth_pairs : ∀ ps : List Pr, PyData.depthAll (ps.map dP) ≤ 1
  | [] => by simp [PyData.depthAll]
  | x :: r => by
    have ih := depth_pairs r
    show PyData.depthAll (dP x :: r.map dP) ≤ 1
    simp only [PyData.depthAll, PyData.depth, depth_ints]
    omega
theorem shaped_pairs (ps : List Pr) : SeqAt.shaped (.list (ps.map dP)) = true := by
  unfold SeqAt.shaped
  rw [Bool.and_eq_true]
  refine ⟨?_, decide_eq_true ?_⟩
  · show PyData.canLayAll0 (ps.map dP) = true
    exact can_pairs ps
  · have := depth_pairs ps
    simp only [PyData.depth]
    omega
theorem dp_pairs : ∀ {us : List V} {ps : List Pr}, PairsAt H us ps → DpAll K H us (ps.map dP)
  | [], [], _ => .nil
  | [], _ :: _, h => by have := h.1; simp at this
  | _ :: _, [], h => by have := h.1; simp at this
  | u :: us, p :: ps, h => by
    obtain ⟨a, rfl, ha⟩ := h.2 0 u p rfl rfl
    exact .cons (dp_T (ns := [(p.1 : Int), (p.2 : Int)]) ha) (dp_pairs ⟨by have := h.1; simpa using this, fun i v xy x y => h.2 (i + 1) v xy x y⟩)
theorem eqv_pair (k l : Pr) : PyData.eqv (dP k) (dP l) = decide (k = l) := by
  show PyData.eqvAll (dI [(k.1 : Int), (k.2 : Int)]) (dI [(l.1 : Int), (l.2 : Int)]) = _
  rw [eqv_ints, Bool.eq_iff_iff]
  simp
  constructor
  · rintro ⟨h1, h2⟩
    exact Prod.ext (by omega) (by omega)
  · intro h
    rw [h]
    exact ⟨rfl, rfl⟩
theorem ev_inPairs {σ : L2.St} {t1 t2 tc : TE} {a b : Nat} {ps : List Pr} {G : Hp} (h1 : Ev t1 σ H (nV a)) (h2 : Ev t2 σ H (nV b)) (h : Tk tc σ H (NewP G ps)) : Ev (tOp (rInD K) (tTup (tCons t1 (tCons t2 tNil))) tc) σ H (.bl (bP ((a, b) ∈ ps))) := by
  have hu := Evl.eu_tup (vs := [nV a, nV b]) (ea_cons h1 (ea_cons h2 ea_nil)) (by simp)
  generalize tTup (tCons t1 (tCons t2 tNil)) = tt at hu
  exact fun H1 e Q q => hu H1 e _ fun p H2 _ e2 hp => h H2 (e.trans e2) _ fun v H3 e3 r => by
    obtain ⟨c, us, rfl, _, hc, hps⟩ := r
    refine ⟨dP (a, b), ps.map dP, dp_T (ns := [(a : Int), (b : Int)]) (e3 _ _ hp), .lst (Evl.sq_of hc) (dp_pairs hps), shaped_T _, shaped_pairs ps, ?_⟩
    have ee : bP ((a, b) ∈ ps) = ((ps.map dP).any fun z => PyData.eqv z (dP (a, b))) := by
      symm
      refine bP_of ?_
      rw [List.any_eq_true]
      constructor
      · rintro ⟨z, hz, he⟩
        obtain ⟨k, hk, rfl⟩ := List.mem_map.mp hz
        rw [eqv_pair, decide_eq_true_iff] at he
        rw [← he]
        exact hk
      · intro hk
        exact ⟨_, List.mem_map.mpr ⟨_, hk, rfl⟩, by rw [eqv_pair]; exact decide_eq_true rfl⟩
    rw [← ee]
    exact q H3 (e2.trans e3)
theorem tk_key {σ : L2.St} {t1 t2 : TE} {a b : Nat} (h1 : Ev t1 σ H (nV a)) (h2 : Ev t2 σ H (nV b)) : Tk (tCall sp_pairKey [] E0 (tCons t1 (tCons t2 tNil))) σ H (fun v H' => PairAt H' v (keyP a b)) := tk_call (ea_cons h1 (ea_cons h2 ea_nil)) v_pairKey
theorem kc_chain : decide (V.str "chain" = V.str "chain") = true := by decide +kernel
theorem kf_chain : decide (V.str "fact" = V.str "chain") = false := by decide +kernel
theorem ky_chain : decide (V.str "copy" = V.str "chain") = false := by decide +kernel
theorem kf_fact : decide (V.str "fact" = V.str "fact") = true := by decide +kernel
theorem ky_fact : decide (V.str "copy" = V.str "fact") = false := by decide +kernel
theorem ky_copy : decide (V.str "copy" = V.str "copy") = true := by decide +kernel
def sp_validStep : Sp := fun vs H Q _ => ∃ (n : Nat) (l d : Addr) (v : V) (fs : List Fact) (Kn : List Pr) (s : Step), vs = [nV n, .ref l, .ref d, v] ∧ n ≤ 60 ∧ FactsAt H l fs ∧ fs.length ≤ 1000 ∧ (∀ f ∈ fs, f.Ok n) ∧ KnAt H d Kn ∧ StepAt H v s ∧
  ∀ H', Ex H H' → Q (.bl (bP (VStep n fs (· ∈ Kn) s))) H'
theorem v_validStep {n : Nat} {l d : Addr} {v : V} {fs : List Fact} {Kn : List Pr} {s : Step} (hn : n ≤ 60) (hF : FactsAt H l fs) (hfl : fs.length ≤ 1000) (ok : ∀ f ∈ fs, f.Ok n) (hk : KnAt H d Kn) (hs : StepAt H v s) :
    Evl.SpV sp_validStep [nV n, .ref l, .ref d, v] H (.bl (bP (VStep n fs (· ∈ Kn) s))) := fun H1 e Q q E => ⟨n, l, d, v, fs, Kn, s, rfl, hn, hF.mono e, hfl, ok, hk.mono e, hs.te (te_of e), q⟩
theorem kind_of_eqv {f : Fact} (h : kindV f = sEqv) : ∃ s t l, f = .eqv s t l := by
  cases f with
  | eqv s t l => exact ⟨s, t, l, rfl⟩
  | same i j => exact absurd h (by show ¬ sSame = sEqv; decide +kernel)
  | diff i j => exact absurd h (by show ¬ sDiff = sEqv; decide +kernel)
  | win i W => exact absurd h (by show ¬ sWin = sEqv; decide +kernel)
theorem cl_validStep (T : Tx K mg) (c_is_sequence_facts : Cl P w K mg base 1 "is_sequence_facts" sp_isSeq) (c_is_integer_facts : Cl P w K mg base 1 "is_integer_facts" sp_isInt) (c_are_two_positions : Cl P w K mg base 2 "are_two_positions" sp_twoPos)
    (c_pair_key : Cl P w K mg base 1 "pair_key" sp_pairKey) (c_states_same : Cl P w K mg base 3 "states_same" sp_sSame) (c_copies : Cl P w K mg base 1 "copies" sp_copies) (A : At K mg "is_valid_step" "is_valid_step" "is_valid_step" s_is_valid_step []) :
    Cl P w K mg base 4 "is_valid_step" sp_validStep := by
  refine cl_of A sc_is_valid_step (fun _ _ _ _ _ _ us hl => match us, hl with | [_, _, _, _], _ => rfl) (fun vs H Q E h => ?_) (fun f cdv A outer s H vs Q E hr h => ?_)
  · obtain ⟨n, l, d, v, fs, Kn, s, rfl, _⟩ := h
    rfl
  · obtain ⟨n, l, d, v, fs, Kn, ⟨p, q', r⟩, rfl, hn, hF, hfl, ok, hk, ⟨a, u, rfl, ha, hu⟩, q⟩ := h
    refine ⟨_, (pss_cons (ps_asg (pv 3) (pg_tup rfl (pgs_cons (pg_name (i := 4) sc_is_valid_step.nd rfl (Or.inl rfl)) (pgs_cons (pg_name (i := 5) sc_is_valid_step.nd rfl (Or.inl rfl)) (pgs_cons (pg_name (i := 6) sc_is_valid_step.nd rfl (Or.inl rfl)) pgs_nil)))))
      (pss_cons (ps_if (PW.pt (pw_or (pt_not (pt_val (pcl c_is_sequence_facts (hr.mono (by decide)) rfl (pa_cons (pv 6) pa_nil)))) (pw_or (pt_cmpR op_lt (pe_callB call_len_seq rfl T.b_len (by decide +kernel) (pa_cons (pv 6) pa_nil)) pe_int (nomark _)) (pw_or1 (pt_not (pt_val (pe_callB call_isi rfl T.b_isinstance (by decide +kernel) (pa_cons (pe_ix ix_tup (pv 6) pe_int (fun _ _ => rfl)) (pa_cons (pe_bltn (v := .ty "str") rfl T.b_str (by decide +kernel) rfl) pa_nil))))))))) (pss_one (ps_ret pe_bl)) pss_nil)
      (pss_cons (ps_if (pt_cmpR op_eq (pe_ix ix_tup (pv 6) pe_int (fun _ _ => rfl)) (pk T.CHAIN) (nomark _)) (pss_cons (ps_if (PW.pt (pw_or (pt_cmpR op_ne (pe_callB call_len_seq rfl T.b_len (by decide +kernel) (pa_cons (pv 6) pa_nil)) pe_int (nomark _)) (pw_or1 (pt_not (pt_val (pcl c_is_integer_facts (hr.mono (by decide)) rfl (pa_cons (pe_ix ix_tup (pv 6) pe_int (fun _ _ => rfl)) (pa_cons pe_int (pa_cons (pe_op op_sub (pv 0) pe_int) pa_nil))))))))) (pss_one (ps_ret pe_bl)) pss_nil)
        (pss_one (ps_ret (pe_and (pe_cmp (pc_din (hu_of hr) (pcl c_pair_key (hr.mono (by decide)) rfl (pa_cons (pv 4) (pa_cons (pe_ix ix_tup (pv 6) pe_int (fun _ _ => rfl)) pa_nil))) (pv 2))) (pe_one (pe_cmp (pc_din (hu_of hr) (pcl c_pair_key (hr.mono (by decide)) rfl (pa_cons (pe_ix ix_tup (pv 6) pe_int (fun _ _ => rfl)) (pa_cons (pv 5) pa_nil))) (pv 2)))))))) pss_nil)
      (pss_cons (ps_if (pt_not (pt_val (pcl c_is_integer_facts (hr.mono (by decide)) rfl (pa_cons (pe_ix ix_tup (pv 6) pe_int (fun _ _ => rfl)) (pa_cons pe_int (pa_cons (pe_op op_sub (pe_callB call_len_seq rfl T.b_len (by decide +kernel) (pa_cons (pv 1) pa_nil)) pe_int) pa_nil)))))) (pss_one (ps_ret pe_bl)) pss_nil)
      (pss_cons (ps_set (i := 7) sc_is_valid_step.nd rfl (Or.inl rfl) (pe_ix ix_list (pv 1) (pe_ix ix_tup (pv 6) pe_int (fun _ _ => rfl)) (fun _ _ => rfl)))
      (pss_cons (ps_if (pt_cmpR op_eq (pe_ix ix_tup (pv 6) pe_int (fun _ _ => rfl)) (pk T.FACT) (nomark _)) (pss_one (ps_ret (pe_and (pe_cmpR op_eq (pe_callB call_len_seq rfl T.b_len (by decide +kernel) (pa_cons (pv 6) pa_nil)) pe_int (nomark _)) (pe_one (pcl c_states_same (hr.mono (by decide)) rfl (pa_cons (pv 7) (pa_cons (pv 4) (pa_cons (pv 5) pa_nil)))))))) pss_nil)
      (pss_cons (ps_if (PW.pt (pw_or (pt_cmpR op_ne (pe_ix ix_tup (pv 6) pe_int (fun _ _ => rfl)) (pk T.COPY) (nomark _)) (pw_or (pt_cmpR op_ne (pe_callB call_len_seq rfl T.b_len (by decide +kernel) (pa_cons (pv 6) pa_nil)) pe_int (nomark _)) (pw_or1 (pt_cmpR op_ne (pe_ix ix_tup (pv 7) pe_int (fun _ _ => rfl)) (pk T.EQUIVALENT) (nomark _)))))) (pss_one (ps_ret pe_bl)) pss_nil)
      (pss_cons (ps_if (PW.pt (pw_or (pt_not (pt_val (pcl c_are_two_positions (hr.mono (by decide)) rfl (pa_cons (pv 0) (pa_cons (pe_ix ix_tup (pv 6) pe_int (fun _ _ => rfl)) (pa_cons (pe_ix ix_tup (pv 6) pe_int (fun _ _ => rfl)) pa_nil)))))) (pw_or1 (pt_cmp (pc_dnotin (hu_of hr) (pcl c_pair_key (hr.mono (by decide)) rfl (pa_cons (pe_ix ix_tup (pv 6) pe_int (fun _ _ => rfl)) (pa_cons (pe_ix ix_tup (pv 6) pe_int (fun _ _ => rfl)) pa_nil))) (pv 2)))))) (pss_one (ps_ret pe_bl)) pss_nil)
      (pss_one (ps_ret (pe_cmpR (op_inD (hu65 hr)) (pe_tup (pa_cons (pv 4) (pa_cons (pv 5) pa_nil))) (pcl c_copies (hr.mono (by decide)) rfl (pa_cons (pv 7) (pa_cons (pe_ix ix_tup (pv 6) pe_int (fun _ _ => rfl)) (pa_cons (pe_ix ix_tup (pv 6) pe_int (fun _ _ => rfl)) pa_nil)))) (by rfl)))))))))))), ?_⟩
    refine Go.here (go_tup3 (ev_var rfl) ha ?_)
    obtain ⟨us, hl, hul, hat⟩ := id hF
    cases r with
    | chain r =>
      obtain ⟨c, rfl, hc⟩ := hu
      refine go_skip (by walk_at "ev") (by rfl) (go_take (by walk_at "ev") kc_chain (go_when (by walk_at "ev") (fun hb => ?_) (fun hb => ?_)))
      · have hb : ¬ r < n := by simp at hb; omega
        refine go_ret ev_c fun H1 e => ?_
        have z := q H1 e
        rw [bP_false (fun z => hb z.1)] at z
        exact z
      · have hb : r < n := by simp at hb; omega
        refine go_ret (Evl.ev_is (ev_andU (ev_dinT hk (tk_key (ev_var rfl) (by walk_at "ev")) (ev_var rfl)) (ev_dinT hk (tk_key (by walk_at "ev") (ev_var rfl)) (ev_var rfl))) ?_) q
        congr 1
        refine bP_of ?_
        rw [Bool.and_eq_true, bP_iff, bP_iff]
        exact ⟨fun h => ⟨hb, h⟩, fun h => h.2⟩
    | fact m =>
      obtain ⟨c, rfl, hc⟩ := hu
      refine go_skip (by walk_at "ev") (by rfl) (go_skip (by walk_at "ev") kf_chain (go_when (by walk_at "ev") (fun hb => ?_) (fun hb => ?_)))
      · have hb : ¬ m < fs.length := by rw [hul] at hb; simp at hb; omega
        refine go_ret ev_c fun H1 e => ?_
        have z := q H1 e
        rw [bP_false (fun ⟨f, h, _⟩ => hb (lt_of_get h))] at z
        exact z
      · have hb : m < fs.length := by rw [hul] at hb; simp at hb; omega
        obtain ⟨g, hg⟩ := get_some hb
        obtain ⟨x, hx⟩ := get_some (xs := us) (i := m) (by omega)
        have fa := hat m x g hx hg
        refine go_set (ev_op (ev_var rfl) (by walk_at "ev") (Evl.rv_ixL (Evl.sq_of hl) (atI_nat hx))) (go_take (by walk_at "ev") kf_fact (go_ret (Evl.ev_is (ev_andU (a := true) (Evl.ev_is (by walk_at "ev") (by rfl)) (ev_call (by walk_at "ev") (v_sSame fa (ok g (List.mem_of_getElem? hg)) hn))) ?_) q))
        congr 1
        rw [Bool.true_and]
        refine bP_of ?_
        rw [bP_iff]
        exact ⟨fun h => ⟨g, hg, h⟩, fun ⟨f, h1, h2⟩ => by
          have h1 : fs[m]? = some f := h1
          rw [hg] at h1
          cases h1
          exact h2⟩
    | copy m x y =>
      obtain ⟨c, rfl, hc⟩ := hu
      refine go_skip (by walk_at "ev") (by rfl) (go_skip (by walk_at "ev") ky_chain (go_when (by walk_at "ev") (fun hb => ?_) (fun hb => ?_)))
      · have hb : ¬ m < fs.length := by rw [hul] at hb; simp at hb; omega
        refine go_ret ev_c fun H1 e => ?_
        have z := q H1 e
        rw [bP_false (fun ⟨s, t, l, h, _⟩ => hb (lt_of_get h))] at z
        exact z
      · have hb : m < fs.length := by rw [hul] at hb; simp at hb; omega
        obtain ⟨g, hg⟩ := get_some hb
        obtain ⟨xv, hx⟩ := get_some (xs := us) (i := m) (by omega)
        have fa := hat m xv g hx hg
        have og := ok g (List.mem_of_getElem? hg)
        obtain ⟨ta, tr, hxe, hta⟩ := fa.tup
        have ek : Ev (tOp (rIxT K) (tVar 7) (tC (.int 0))) [some (nV n), some (.ref l), some (.ref d), some (.ref a), some (nV p), some (nV q'), some (.ref c), some xv] H (kindV g) := by
          subst hxe
          exact ev_op (ev_var rfl) ev_c (Evl.rv_ixT (Evl.st_of hta) (v := kindV g) (atI_nat (j := 0) rfl))
        refine go_set (ev_op (ev_var rfl) (by walk_at "ev") (Evl.rv_ixL (Evl.sq_of hl) (atI_nat hx))) (go_skip (by walk_at "ev") ky_fact ?_)
        refine go_when (b := !decide (kindV g = sEqv)) (Evl.et_is (et_orU (a := false) (Evl.et_is (by walk_at "ev") (by rw [ky_copy]; rfl)) (et_orU (a := false) (Evl.et_is (by walk_at "ev") (by rfl)) (Evl.et_test (ev_op ek ev_c (Evl.rv_ne (by obtain ⟨y, hy⟩ := kind_str g; rw [hy]; rfl)))))) (by rfl)) (fun hk' => ?_) (fun hk' => ?_)
        · have hk' : ¬ kindV g = sEqv := by simpa using hk'
          refine go_ret ev_c fun H1 e => ?_
          have z := q H1 e
          rw [bP_false (fun ⟨s, t, l, h, _⟩ => hk' (by
            have h : fs[m]? = some (.eqv s t l) := h
            rw [hg] at h
            cases h
            rfl))] at z
          exact z
        · have hk' : kindV g = sEqv := by simpa using hk'
          obtain ⟨s', t', l', rfl⟩ := kind_of_eqv hk'
          obtain ⟨o1, o2, o3, o4, o5, o6⟩ := og
          refine go_when (et_orU (Evl.et_not (Evl.et_B (by walk_at "ev"))) (Evl.et_B (ev_dnotinT hk (tk_key (by walk_at "ev") (by walk_at "ev")) (ev_var rfl)))) (fun hc2 => ?_) (fun hc2 => ?_)
          · refine go_ret ev_c fun H1 e => ?_
            have z := q H1 e
            rw [bP_false (fun ⟨s, t, l, h, h1, h2, h3, h4, h5⟩ => by
              rw [bP_true (show keyP x y ∈ Kn from h4), decide_eq_true (by omega)] at hc2
              cases hc2)] at z
            exact z
          · rw [Bool.or_eq_false_iff] at hc2
            have c1 : x < n ∧ y < n ∧ x ≠ y := by
              have := hc2.1
              simp at this
              omega
            have c2 : keyP x y ∈ Kn := bP_iff.mp (by have := hc2.2; simpa using this)
            refine go_ret (Evl.ev_is (ev_inPairs (ev_var rfl) (ev_var rfl) (tk_call (ea_cons (ev_var rfl) (ea_cons (by walk_at "ev") (ea_cons (by walk_at "ev") ea_nil))) (v_copies (s := s') (t := t') (l := l') (a := x) (b := y) fa (by omega)))) ?_) q
            congr 1
            refine bP_of ?_
            rw [bP_iff]
            exact ⟨fun h => ⟨s', t', l', hg, c1.1, c1.2.1, c1.2.2, c2, h⟩, fun ⟨s, t, l, h, _, _, _, _, h5⟩ => by
              have h : fs[m]? = some (.eqv s t l) := h
              rw [hg] at h
              cases h
              exact h5⟩
end
end Hfb
namespace Hfb
open PySem PySem.Spec PyProof.Rows L2
open Evl (Ex Ev EvT EvA EvL EvU ev_op ev_var ev_c ev_call ea_cons ea_nil)
section
variable {P : Program} {w : World} {K : PySem.W.Frag} {mg : Str → Option Value} {base : Heap} {H : Hp}
local macro_rules | `(tactic| walk_at "spv") => `(tactic| first | exact v_isInt | exact v_isIntD | exact v_twoPos | exact v_isSeq (.t (by assumption)) | exact v_isSeq (.l (by assumption)) | exact v_isDist (by assumption) (by omega))
local macro_rules | `(tactic| walk_at "rv") => `(tactic| first
  | with_reducible exact Evl.rv_I0
  | ((with_reducible refine Evl.rv_eq ?_); rfl)
  | ((with_reducible refine Evl.rv_ne ?_); rfl)
  | ((with_reducible apply Evl.rv_ixT); (first | assumption | exact Evl.st_of (by assumption)); (first | rfl | assumption))
  | ((with_reducible apply Evl.rv_ixL); (first | assumption | exact Evl.sq_of (by assumption)); (first | rfl | assumption))
  | exact isi_int
  | exact isi_bool
  | exact isi_str
  | exact rc_max
  | exact rc_min
  | (apply rc_lenL; first | assumption | exact Evl.sq_of (by assumption))
  | (apply rc_lenT; first | assumption | exact Evl.st_of (by assumption))
  | walk_at "fld"
  | walk_at "spv")
local macro_rules | `(tactic| walk_at "ev") => `(tactic| first
  | ((with_reducible apply Evl.ev_var); rfl)
  | with_reducible exact Evl.ev_c
  | with_reducible exact Evl.ea_nil
  | ((with_reducible apply Evl.ea_cons) <;> walk_at "ev")
  | ((with_reducible apply Evl.ev_op) <;> walk_at "ev")
  | ((with_reducible apply ev_chain) <;> walk_at "ev")
  | ((with_reducible apply Evl.ev_cb) <;> walk_at "ev")
  | ((with_reducible apply Evl.ev_call) <;> walk_at "ev")
  | ((with_reducible apply Evl.ev_notV) <;> walk_at "ev")
  | ((with_reducible apply ev_andU) <;> walk_at "ev")
  | ((with_reducible apply ev_orU) <;> walk_at "ev")
  | ((with_reducible apply Evl.et_B) <;> walk_at "ev")
  | ((with_reducible apply Evl.et_test) <;> walk_at "ev")
  | ((with_reducible apply Evl.et_not) <;> walk_at "ev")
  | ((with_reducible apply et_andU) <;> walk_at "ev")
  | ((with_reducible apply et_orU) <;> walk_at "ev")
  | walk_at "rv")
theorem te_mutN {d : Addr} {o : HO} (h : ∀ ys, H d ≠ some (.tup ys)) : TEx H (upd H d o) := fun a ys e => by
  rw [upd_ne (fun z => h ys (by rw [← z]; exact e))]
  exact e
/-! ### shown_pair, is_derivation -/
def StepsAt (H : Hp) (us : List V) (ss : List Step) : Prop := us.length = ss.length ∧ ∀ (i : Nat) (v : V) (s : Step), us[i]? = some v → ss[i]? = some s → StepAt H v s
theorem StepsAt.te {H H' : Hp} {us : List V} {ss : List Step} (e : TEx H H') (h : StepsAt H us ss) : StepsAt H' us ss := ⟨h.1, fun i v s a b => (h.2 i v s a b).te e⟩
theorem StepsAt.nil : StepsAt H [] [] := ⟨rfl, fun i v s a => by simp at a⟩
theorem StepsAt.snoc {us : List V} {ss : List Step} {v : V} {s : Step} (h : StepsAt H us ss) (hv : StepAt H v s) : StepsAt H (us ++ [v]) (ss ++ [s]) := by
  refine ⟨by rw [List.length_append, List.length_append, h.1]; rfl, fun i u t a b => ?_⟩
  by_cases hi : i < us.length
  · rw [List.getElem?_append_left hi] at a
    rw [List.getElem?_append_left (by rw [← h.1]; exact hi)] at b
    exact h.2 i u t a b
  · have e : i - us.length = 0 := by
      have := lt_of_get a
      rw [List.length_append, List.length_singleton] at this
      omega
    rw [List.getElem?_append_right (by omega), e] at a
    rw [List.getElem?_append_right (by rw [← h.1]; omega), ← h.1, e] at b
    cases a
    cases b
    exact hv
def OptP (H : Hp) (v : V) : Option Pr → Prop
  | none => v = .non
  | some k => PairAt H v k
theorem OptP.te {H H' : Hp} {v : V} {o : Option Pr} (e : TEx H H') (h : OptP H v o) : OptP H' v o := by
  cases o with
  | none => exact h
  | some k => obtain ⟨a, h1, h2⟩ := h; exact ⟨a, h1, e _ _ h2⟩
def ShownR (n : Nat) (fs : List Fact) (ss : List Step) (v : V) (H : Hp) : Prop := (VAll n fs [] ss ∧ OptP H v (lastKey ss)) ∨ (¬ VAll n fs [] ss ∧ v = .non)
theorem vAll_left {n : Nat} {fs : List Fact} : ∀ {xs ys : List Step} {Kn : List Pr}, VAll n fs Kn (xs ++ ys) → VAll n fs Kn xs
  | [], _, _, _ => trivial
  | x :: r, ys, Kn, h => ⟨h.1, vAll_left (xs := r) h.2⟩
theorem lastKey_snoc {xs : List Step} {s : Step} : lastKey (xs ++ [s]) = some s.key := by
  unfold lastKey
  rw [List.getLast?_concat]
  rfl
/-- what a step not to be kept means for the whole -/
theorem not_vAll {n : Nat} {fs : List Fact} {ss : List Step} {i : Nat} {s : Step} (hi : ss[i]? = some s) (hn : ¬ VOk n fs (· ∈ (ss.take i).map Step.key) s) : ¬ VAll n fs [] ss := fun h => by
  have e : ss = ss.take (i + 1) ++ ss.drop (i + 1) := (List.take_append_drop _ _).symm
  rw [e] at h
  have h1 := vAll_left h
  rw [take_snoc hi, vAll_snoc] at h1
  exact hn h1.2
def KnAt2 (H : Hp) (d : Addr) (Kn : List Pr) : Prop := ∃ kvs : List (List Key × V), H d = some (.dT kvs) ∧ kvs.length ≤ Kn.length ∧ ∀ k : Pr, (valV kvs (kK k)).isSome = true ↔ k ∈ Kn
theorem kn_put {Kn : List Pr} {d : Addr} {k : Pr} {kvs : List (List Key × V)} {u : V} (h1 : kvs.length ≤ Kn.length) (h2 : ∀ k : Pr, (valV kvs (kK k)).isSome = true ↔ k ∈ Kn) : KnAt (upd H d (.dT (putK kvs (kK k) u))) d (Kn ++ [k]) := by
  refine ⟨_, upd_same, ?_, fun l => ?_⟩
  · have := putK_len kvs (kK k) u
    rw [List.length_append, List.length_singleton]
    omega
  · rw [valV_put, List.mem_append, List.mem_singleton]
    by_cases e : l = k
    · subst e
      rw [if_pos rfl]
      simp
    · rw [if_neg (fun z => e (kK_eq.mp z)), h2]
      simp [e]
def sp_shown (K : PySem.W.Frag) : Sp := fun vs H Q _ => ∃ (n : Nat) (l d : Addr) (fs : List Fact) (us : List V) (ss : List Step), vs = [nV n, .ref l, .ref d] ∧ n ≤ 60 ∧ FactsAt H l fs ∧ fs.length ≤ 1000 ∧ (∀ f ∈ fs, f.Ok n) ∧ H d = some (.lst us) ∧ StepsAt H us ss ∧ ss.length ≤ 5000 ∧
  ∀ v H', Ex H H' → ShownR n fs ss v H' → Q v H'
theorem v_shown {n : Nat} {l d : Addr} {fs : List Fact} {us : List V} {ss : List Step} (hn : n ≤ 60) (hF : FactsAt H l fs) (hfl : fs.length ≤ 1000) (ok : ∀ f ∈ fs, f.Ok n) (hd : H d = some (.lst us)) (hs : StepsAt H us ss) (hz : ss.length ≤ 5000) :
    SpK (sp_shown K) [nV n, .ref l, .ref d] H (ShownR n fs ss) := fun H1 e Q q E => ⟨n, l, d, fs, us, ss, rfl, hn, hF.mono e, hfl, ok, e _ _ hd, hs.te (te_of e), hz, q⟩
theorem cl_shown (T : Tx K mg) (c_is_sequence_facts : Cl P w K mg base 1 "is_sequence_facts" sp_isSeq) (c_are_two_positions : Cl P w K mg base 2 "are_two_positions" sp_twoPos) (c_is_valid_step : Cl P w K mg base 4 "is_valid_step" sp_validStep)
    (c_pair_key : Cl P w K mg base 1 "pair_key" sp_pairKey) (A : At K mg "shown_pair" "shown_pair" "shown_pair" s_shown_pair []) : Cl P w K mg base 5 "shown_pair" (sp_shown K) := by
  refine cl_of A sc_shown_pair (fun _ _ _ _ _ _ us hl => match us, hl with | [_, _, _], _ => rfl) (fun vs H Q E h => ?_) (fun f cdv A outer s H vs Q E hr h => ?_)
  · obtain ⟨n, l, d, fs, us, ss, rfl, _⟩ := h
    rfl
  · obtain ⟨n, l, d, fs, us, ss, rfl, hn, hF, hfl, ok, hd, hs, hz, q⟩ := h
    refine ⟨_, (pss_cons (ps_if (pt_not (pt_val (pcl c_is_sequence_facts (hr.mono (by decide)) rfl (pa_cons (pv 2) pa_nil)))) (pss_one (ps_ret pe_non)) pss_nil)
      (pss_cons (ps_set (i := 3) sc_shown_pair.nd rfl (Or.inl rfl) pe_dnewT)
      (pss_cons (ps_set (i := 4) sc_shown_pair.nd rfl (Or.inl rfl) pe_non)
      (pss_cons (ps_for PassesOwn.never rfl (pi_list (pv 2)) (pg_name (i := 5) sc_shown_pair.nd rfl (Or.inl rfl))
          (pss_cons (ps_if (PW.pt (pw_or (pt_not (pt_val (pcl c_is_sequence_facts (hr.mono (by decide)) rfl (pa_cons (pv 5) pa_nil)))) (pw_or (pt_cmpR op_ne (pe_callB call_len_seq rfl T.b_len (by decide +kernel) (pa_cons (pv 5) pa_nil)) pe_int (nomark _)) (pw_or1 (pt_not (pt_val (pcl c_are_two_positions (hr.mono (by decide)) rfl (pa_cons (pv 0) (pa_cons (pe_ix ix_tup (pv 5) pe_int (fun _ _ => rfl)) (pa_cons (pe_ix ix_tup (pv 5) pe_int (fun _ _ => rfl)) pa_nil)))))))))) (pss_one (ps_ret pe_non)) pss_nil)
          (pss_cons (ps_if (pt_not (pt_val (pcl c_is_valid_step (hr.mono (by decide)) rfl (pa_cons (pv 0) (pa_cons (pv 1) (pa_cons (pv 3) (pa_cons (pv 5) pa_nil))))))) (pss_one (ps_ret pe_non)) pss_nil)
          (pss_cons (ps_set (i := 4) sc_shown_pair.nd rfl (Or.inl rfl) (pcl c_pair_key (hr.mono (by decide)) rfl (pa_cons (pe_ix ix_tup (pv 5) pe_int (fun _ _ => rfl)) (pa_cons (pe_ix ix_tup (pv 5) pe_int (fun _ _ => rfl)) pa_nil))))
          (pss_one (ps_dput (hu_of hr) (pv 3) (pv 4) pe_bl rfl))))))
      (pss_one (ps_ret (pv 4))))))), ?_⟩
    refine Go.here (go_skip (Evl.et_not (Evl.et_B (ev_call (by walk_at "ev") (v_isSeq (.l hd))))) (by rfl) (go_setP tk_dnewT fun v1 H1 e1 r1 => ?_))
    obtain ⟨p, rfl, hp, hp1⟩ := r1
    refine go_set (by walk_at "ev") ?_
    intro H2 e2
    have hd2 := e2 _ _ (e1 _ _ hd)
    refine Evl.q_forLn (K := K) (xs := us) (by walk_at "ev") (Evl.sq_of hd2) (fun i σ' H' => ∃ v y5, σ' = [some (nV n), some (.ref l), some (.ref d), some (.ref p), some v, y5] ∧ Ex H H' ∧ H' d = some (.lst us) ∧
      KnAt H' p ((ss.take i).map Step.key) ∧ VAll n fs [] (ss.take i) ∧ OptP H' v (lastKey (ss.take i)))
      (fun H3 e3 => ⟨_, _, rfl, (e1.trans e2).trans e3, e3 _ _ hd2, ⟨[], e3 _ _ (e2 _ _ hp1), by simp, fun k => by simp [valV_nil]⟩, trivial, rfl⟩) (fun i σ' H' _ hPv => ?_) (fun i x σ' H' hi hPv => ?_) (fun σ' H' hPv => ?_)
    · obtain ⟨_, _, _, _, h, _⟩ := hPv
      exact Evl.sq_of h
    · obtain ⟨v, y5, rfl, e', hd', ⟨kvs, hk1, hk2, hk3⟩, hv, ho⟩ := hPv
      obtain ⟨st, hst⟩ := get_some (xs := ss) (i := i) (by rw [← hs.1]; exact lt_of_get hi)
      have sa := (hs.te (te_of e')).2 i x st hi hst
      have hKn : KnAt H' p ((ss.take i).map Step.key) := ⟨kvs, hk1, hk2, hk3⟩
      obtain ⟨c, u, rfl, hc, hu⟩ := id sa
      have leni : i < ss.length := lt_of_get hst
      refine Go.here (go_when (b := !decide (st.p < n ∧ st.q < n ∧ st.p ≠ st.q)) (Evl.et_is (et_orU (a := false) (Evl.et_is (Evl.et_not (Evl.et_B (ev_call (by walk_at "ev") (v_isSeq (.t hc))))) (by rfl)) (et_orU (a := false) (Evl.et_is (by walk_at "ev") (by rfl)) (Evl.et_not (Evl.et_B (ev_call (by walk_at "ev") v_twoPos))))) ?_) (fun hb => ?_) (fun hb => ?_))
      · rw [Bool.false_or, Bool.false_or]
        congr 1
        exact decide_eq_decide.mpr (by omega)
      · have hb : ¬ (st.p < n ∧ st.q < n ∧ st.p ≠ st.q) := by
          rw [Bool.not_eq_true'] at hb
          exact of_decide_eq_false hb
        exact go_ret ev_c fun H3 e3 => q _ H3 (e'.trans e3) (.inr ⟨not_vAll hst fun z => hb ⟨z.1, z.2.1, z.2.2.1⟩, rfl⟩)
      · have hb : st.p < n ∧ st.q < n ∧ st.p ≠ st.q := by simpa using hb
        refine go_when (Evl.et_not (Evl.et_B (ev_call (by walk_at "ev") (v_validStep (s := st) hn (hF.mono e') hfl ok hKn sa)))) (fun hb2 => ?_) (fun hb2 => ?_)
        · have hb2 : ¬ VStep n fs (· ∈ (ss.take i).map Step.key) st := fun z => by rw [bP_true z] at hb2; cases hb2
          exact go_ret ev_c fun H3 e3 => q _ H3 (e'.trans e3) (.inr ⟨not_vAll hst fun z => hb2 z.2.2.2, rfl⟩)
        · have hb2 : VStep n fs (· ∈ (ss.take i).map Step.key) st := bP_iff.mp (by simpa using hb2)
          refine go_setP (tk_key (a := st.p) (b := st.q) (by walk_at "ev") (by walk_at "ev")) fun v3 H3 e3 r3 => ?_
          obtain ⟨m, rfl, hm⟩ := id r3
          intro H4 e4
          refine ev_c H4 (Ex.refl _) _ fun H5 e5 => ev_var (i := 3) rfl H5 (Ex.refl _) _ fun H6 e6 => ev_var (i := 4) rfl H6 (Ex.refl _) _ fun H7 e7 => ?_
          have e37 := ((e4.trans e5).trans e6).trans e7
          have kp := (e3.trans e37) _ _ hk1
          refine ⟨p, _, rfl, DPut.t (k := kK (keyP st.p st.q)) kp (e37 _ _ hm) (Evl.sz_lt ?_), ?_⟩
          · rw [List.length_map, List.length_take] at hk2
            omega
          · refine ⟨_, _, rfl, Ex.mut (e'.trans (e3.trans e37)) (Evl.fresh_back (Ex.refl H) hp), ?_, ?_, ?_, ?_⟩
            · rw [upd_ne (ne_of ((e3.trans e37) _ _ hd') kp (by intro z; cases z))]
              exact (e3.trans e37) _ _ hd'
            · rw [take_snoc hst, List.map_append]
              exact kn_put hk2 hk3
            · rw [take_snoc hst, vAll_snoc]
              exact ⟨hv, hb.1, hb.2.1, hb.2.2, hb2⟩
            · rw [take_snoc hst, lastKey_snoc]
              exact OptP.te (o := some st.key) ((te_of e37).trans (te_mutN (fun ys z => by rw [kp] at z; cases z))) r3
    · obtain ⟨v, y5, rfl, e', hd', hKn, hv, ho⟩ := hPv
      rw [hs.1, List.take_length] at hv ho
      exact Go.here (go_ret (ev_var rfl) fun H3 e3 => q _ H3 (e'.trans e3) (.inl ⟨hv, ho.te (te_of e3)⟩))
def sp_isDer (K : PySem.W.Frag) : Sp := fun vs H Q _ => ∃ (n : Nat) (l d : Addr) (a b : Nat) (fs : List Fact) (us : List V) (ss : List Step), vs = [nV n, .ref l, nV a, nV b, .ref d] ∧ 1 ≤ n ∧ n ≤ 60 ∧ FactsAt H l fs ∧ fs.length ≤ 40 ∧ (∀ f ∈ fs, f.Ok n) ∧ a < n ∧ b < n ∧ H d = some (.lst us) ∧ StepsAt H us ss ∧ ss.length ≤ 5000 ∧
  ∀ H', Ex H H' → Q (.bl (bP (a ≠ b ∧ VAll n fs [] ss ∧ lastKey ss = some (keyP a b)))) H'
theorem v_isDer {n a b : Nat} {l d : Addr} {fs : List Fact} {us : List V} {ss : List Step} (h1 : 1 ≤ n) (hn : n ≤ 60) (hF : FactsAt H l fs) (hfl : fs.length ≤ 40) (ok : ∀ f ∈ fs, f.Ok n) (ha : a < n) (hb : b < n) (hd : H d = some (.lst us)) (hs : StepsAt H us ss) (hz : ss.length ≤ 5000) :
    Evl.SpV (sp_isDer K) [nV n, .ref l, nV a, nV b, .ref d] H (.bl (bP (a ≠ b ∧ VAll n fs [] ss ∧ lastKey ss = some (keyP a b)))) := fun H1 e Q q E => ⟨n, l, d, a, b, fs, us, ss, rfl, h1, hn, hF.mono e, hfl, ok, ha, hb, e _ _ hd, hs.te (te_of e), hz, q⟩

theorem shaped_non : SeqAt.shaped .none = true := by decide +kernel
theorem eqv_nonT (ds : List PyData) : PyData.eqv .none (.tuple ds) = false := rfl
theorem dp_opt {v : V} : ∀ {o : Option Pr}, OptP H v o → Dp K H v (match o with | none => .none | some k => dP k)
  | none, h => by
    have h : v = .non := h
    subst h
    exact .non
  | some k, ⟨a, h1, h2⟩ => by
    subst h1
    exact dp_T (ns := [(k.1 : Int), (k.2 : Int)]) h2
theorem shaped_opt : ∀ o : Option Pr, SeqAt.shaped (match o with | none => .none | some k => dP k) = true
  | none => shaped_non
  | some k => shaped_T _
theorem eqv_opt (k : Pr) : ∀ o : Option Pr, PyData.eqv (match o with | none => .none | some k => dP k) (dP k) = decide (o = some k)
  | none => by
    show PyData.eqv .none (.tuple (dI [(k.1 : Int), (k.2 : Int)])) = _
    rw [eqv_nonT]
    exact (decide_eq_false (by intro z; cases z)).symm
  | some l => by
    show PyData.eqv (dP l) (dP k) = _
    rw [eqv_pair]
    exact decide_eq_decide.mpr ⟨fun h => by rw [h], fun h => Option.some.inj h⟩
theorem ev_eqOpt {σ : L2.St} {t1 t2 : TE} {k : Pr} {n : Nat} {fs : List Fact} {ss : List Step} (h1 : Tk t1 σ H (ShownR n fs ss)) (h2 : Tk t2 σ H (fun v H' => PairAt H' v k)) : Ev (tOp (rEqD K) t1 t2) σ H (.bl (bP (VAll n fs [] ss ∧ lastKey ss = some k))) := fun H1 e Q q =>
  h1 H1 e _ fun v1 H2 e2 r1 => h2 H2 (e.trans e2) _ fun v2 H3 e3 r2 => by
    have main : ∀ o : Option Pr, OptP H3 v1 o → bP (VAll n fs [] ss ∧ lastKey ss = some k) = decide (o = some k) → rEqD K v1 v2 H3 Q := fun o ho hb => by
      refine ⟨_, _, dp_opt ho, dp_opt (o := some k) r2, shaped_opt o, shaped_T _, ?_⟩
      show Q (.bl (PyData.eqv _ (dP k))) H3
      rw [eqv_opt, ← hb]
      exact q H3 (e2.trans e3)
    rcases r1 with ⟨a, b⟩ | ⟨a, b⟩
    · refine main (lastKey ss) (b.te (te_of e3)) (bP_of ?_).symm
      rw [decide_eq_true_iff]
      exact ⟨fun h => ⟨a, h⟩, fun h => h.2⟩
    · refine main none b ?_
      rw [bP_false (fun z => a z.1)]
      rfl
theorem cl_isDer (T : Tx K mg) (c_checked_facts : Cl P w K mg base 4 "checked_facts" sp_checked) (c_check_positions : Cl P w K mg base 2 "check_positions" sp_checkPos) (c_shown_pair : Cl P w K mg base 5 "shown_pair" (sp_shown K))
    (c_pair_key : Cl P w K mg base 1 "pair_key" sp_pairKey) (A : At K mg "is_derivation" "is_derivation" "is_derivation" s_is_derivation []) : Cl P w K mg base 6 "is_derivation" (sp_isDer K) := by
  refine cl_of A sc_is_derivation (fun _ _ _ _ _ _ us hl => match us, hl with | [_, _, _, _, _], _ => rfl) (fun vs H Q E h => ?_) (fun f cdv A outer s H vs Q E hr h => ?_)
  · obtain ⟨n, l, d, a, b, fs, us, ss, rfl, _⟩ := h
    rfl
  · obtain ⟨n, l, d, a, b, fs, us, ss, rfl, h1, hn, hF, hfl, ok, ha, hb, hd, hs, hz, q⟩ := h
    refine ⟨_, (pss_cons (ps_set (i := 5) sc_is_derivation.nd rfl (Or.inl rfl) (pcl c_checked_facts (hr.mono (by decide)) rfl (pa_cons (pv 0) (pa_cons (pv 1) pa_nil))))
      (pss_cons (ps_expr (pcl c_check_positions (hr.mono (by decide)) rfl (pa_cons (pv 0) (pa_cons (pv 2) (pa_cons (pv 3) pa_nil)))))
      (pss_one (ps_ret (pe_and (pe_cmpR op_ne (pv 2) (pv 3) (nomark _)) (pe_one (pe_cmpR (op_eqD hr.units) (pcl c_shown_pair (hr.mono (by decide)) rfl (pa_cons (pv 0) (pa_cons (pv 5) (pa_cons (pv 4) pa_nil)))) (pcl c_pair_key (hr.mono (by decide)) rfl (pa_cons (pv 2) (pa_cons (pv 3) pa_nil))) (nomark _)))))))), ?_⟩
    refine Go.here (go_setP (tk_call (by walk_at "ev") (v_checked h1 hn hF hfl ok)) fun v1 H1 e1 r1 => ?_)
    obtain ⟨p, rfl, hp, hF1⟩ := r1
    refine go_drop (ev_call (by walk_at "ev") (v_checkPos (n := n) (i := a) (j := b) (by omega) (by omega) (by omega) (by omega))) ?_
    refine go_ret (Evl.ev_is (ev_andU (a := !decide (a = b)) (Evl.ev_is (by walk_at "ev") ?_) (ev_eqOpt (tk_call (by walk_at "ev") (v_shown hn hF1 (by omega) ok (e1 _ _ hd) (hs.te (te_of e1)) hz)) (tk_key (by walk_at "ev") (by walk_at "ev")))) ?_) fun H2 e2 => q H2 (e1.trans e2)
    · congr 2
      exact decide_eq_decide.mpr ⟨fun h => by injection h with h; omega, fun h => by rw [h]⟩
    · congr 1
      refine bP_of ?_
      rw [Bool.and_eq_true, bP_iff, ← decide_not, decide_eq_true_iff]
end
end Hfb
/-! Dicts whose keys are tuples: a display of one pair, a comprehension over a list, update. -/
namespace Hfb
open PySem PySem.Spec PyProof.Rows L2
section
variable {X : Cx}
abbrev foldT (kvs : List (List Key × V)) (more : List (List Key × V)) : List (List Key × V) := more.foldl (fun acc kv => putK acc kv.1 kv.2) kvs
theorem foldT_len : ∀ (more kvs : List (List Key × V)), (foldT kvs more).length ≤ kvs.length + more.length
  | [], kvs => Nat.le_refl _
  | x :: r, kvs => by
    have h1 := foldT_len r (putK kvs x.1 x.2)
    have h2 := length_putK kvs x.1 x.2
    show (foldT (putK kvs x.1 x.2) r).length ≤ kvs.length + (x :: r).length
    rw [List.length_cons]
    omega
theorem kt_fold {H : Hp} : ∀ {more : List (List Key × V)} {ys : List (List Key × Addr × Value)} {kvs : List (List Key × V)} {xs : List (List Key × Addr × Value)}, KT H more ys → KT H kvs xs → KT H (foldT kvs more) (storedAllH xs ys)
  | _, _, _, _, .nil, h => h
  | _, _, kvs, xs, .cons (a := p) (b := q) h t, h2 => by
    obtain ⟨q1, q2, q3⟩ := q
    obtain ⟨e1, e2, e3⟩ := h
    obtain rfl : p.1 = q1 := e1
    show KT H (foldT (putK kvs p.1 p.2) _) (storedAllH (storedH xs p.1 q2 q3) _)
    exact kt_fold t (h2.put p.1 e2 e3)
/-- what a dict with tuple keys owes -/
theorem dt_new {H : Hp} {h : Heap} {a : Addr} {kvs : List (List Key × V)} {xs : List (List Key × Addr × Value)} (z : kvs.length ≤ sizeLine) (hd : (a == sysModules) = false) (rel : KT H kvs xs) (dd : h.DictOfH (tupleKind (mixKind X.prog X.w)) a xs) : ObjOk X.prog X.w H h a (.dT kvs) := by
  obtain ⟨q, es, ep, hq, h2, h3, h4, _, h5⟩ := dd
  exact ⟨z, hd, _, rel, q, es, ep, hq, h2, h3, h4, h5⟩
theorem kt_upd {H : Hp} {a : Addr} {o o' : HO} {kvs : List (List Key × V)} {xs : List (List Key × Addr × Value)} (rel : KT H kvs xs) (e : H a = some o) (ho : ∀ ys, o ≠ .tup ys) : KT (upd H a o') kvs xs :=
  rel.keeps fun c ys ec => by
    rw [upd_ne (fun z => by rw [z, e] at ec; exact ho ys (Option.some.inj ec))]
    exact ec
/-- d.update(e), both with tuple keys -/
def rUpdT : V → List V → Hp → VK → Prop := fun x xs H Q => ∃ (a b : Addr) (kvs more : List (List Key × V)), x = .ref a ∧ xs = [.ref b] ∧ a ≠ b ∧ H a = some (.dT kvs) ∧ H b = some (.dT more) ∧ kvs ≠ [] ∧ kvs.length + more.length ≤ sizeLine ∧ Q .non (upd H a (.dT (foldT kvs more)))
theorem mt_updT (hu : X.A.units + 1 < cLine) : MtR X "dict.update" rUpdT := by
  intro pins s σ H x xs v us Q I rx rxs h
  obtain ⟨a, b, kvs, more, rfl, rfl, hab, ha, hb, hne, hz, q⟩ := h
  cases rx
  obtain ⟨u1, rfl, r1⟩ := vals1 rxs
  cases r1
  obtain ⟨z1, hd1, xs1, rel1, dd1⟩ := dt_of I.hok ha
  obtain ⟨z2, hd2, xs2, rel2, dd2⟩ := dt_of I.hok hb
  have l1 := Paired.length rel1
  have l2 := Paired.length rel2
  refine call_update_dictH (knd := tupleKind (mixKind X.prog X.w)) (tupleKind_room_in1 hu) hab hd2 dd1 dd2 (.inl fun e => hne ?_) (by omega) fun h' dd' _ hs => ?_
  · subst e
    exact List.length_eq_zero_iff.mp l1
  · have l3 := foldT_len more kvs
    have rel3 := kt_upd (o' := .dT (foldT kvs more)) (kt_fold rel2 rel1) ha (fun ys z => by cases z)
    have ok := dt_new (X := X) (a := a) (by omega) hd1 rel3 dd'
    obtain ⟨o, _, _, hq, _⟩ := dd'
    exact ⟨.non, _, d_write (t' := s.toks) I (by rw [ha]; exact True.intro) hs ⟨o, hq⟩ ok, rfl, q⟩
/-- {k: v}, k a tuple -/
def tDispT (tk tv : TE) : TE := fun σ H Q => ∀ p, H p = none → tPairs [(tk, tv)] σ (upd H p (.dT [])) fun ps H2 => H2 p = some (.dT []) ∧ ∃ (b : Addr) (k : List Key) (v : V), ps = [(.ref b, v)] ∧ H2 b = some (.tup (k.map kV)) ∧ Q (.ref p) (upd H2 p (.dT [(k, v)]))
theorem pe_dispT {k v : Expr} {tk tv : TE} {pos : Pos} (hu : X.A.units + 1 < cLine) (hk : PE X k tk) (hv : PE X v tv) : PE X (.Dict [some k] [v] pos) (tDispT tk tv) := by
  refine ⟨fun pins s σ H Q I q => ?_⟩
  have fresh := I.hok.fresh (Nat.le_refl s.heap.objs.size)
  have I1 := I.laid (o := .dT []) (t' := s.toks) (fun _ _ z => Heap.get?_push_of_some _ z) (Nat.le_refl s.heap.objs.size) (dt_empty s.heap I.big)
  have shape := zip_pairTrees [some k] [v] X.env pos rfl rfl
  have long := pairTrees_length [some k] [v] X.env pos rfl rfl
  have some1 : pairTrees [some k] [v] X.env pos ≠ [] := fun z => by rw [z] at long; cases long
  have short : (pairTrees [some k] [v] X.env pos).length ≤ 15 := by
    rw [long]
    show 1 ≤ 15
    decide
  rw [arm_eval_Dict, shape, dictDisplay_pairs _ some1 (by omega)]
  refine wpAny_bind (wpAny_standAt (wpAny_bind (wpAny_subDictH (knd := tupleKind (mixKind X.prog X.w)) (by show X.A.units < cLine; omega) short (thn ((pps_cons hk hv pps_nil).run pins _ σ _ _ I1 (q _ fresh)) fun ws s2 h2 => ?_))))
  obtain ⟨ps, H2, I2, rel, e, b, kk, vv, rfl, eb, q2⟩ := h2
  cases rel with
  | @cons _ y _ ys h t =>
    cases t
    obtain ⟨y1, y2⟩ := y
    obtain ⟨r1, r2⟩ := h
    cases (show y1 = Value.ref b from r1)
    obtain ⟨z, hd, xs, r0, dd⟩ := dt_of I2.hok e
    cases r0
    refine ⟨[(kk, b, y2)], ⟨rfl, rfl, key_of I2.hok eb, trivial⟩, dd, fun h' tk dd' hs => wpAny_pure ?_⟩
    have rel1 : KT H2 [(kk, vv)] (storedAllH [] [(kk, b, y2)]) := .cons ⟨rfl, eb, r2⟩ .nil
    have ok := dt_new (X := X) (a := s.heap.objs.size) (by rw [sizeLine_eq]; show 1 ≤ 16777216; decide) hd (kt_upd (o' := .dT [(kk, vv)]) rel1 e (fun ys z => by cases z)) dd'
    obtain ⟨o, _, _, hq, _⟩ := dd'
    exact ⟨.ref s.heap.objs.size, _, d_write (t' := tk) I2 (by rw [e]; exact True.intro) hs ⟨o, hq⟩ ok, rfl, q2⟩
/-- {x: True for x in e}: e a list of tuples -/
def tDcT (te : TE) : TE := fun σ H Q => te σ H fun x H1 => ∃ (a : Addr) (zs : List (List Key × Addr)), x = .ref a ∧ H1 a = some (.lst ((zs.map (·.2)).map V.ref)) ∧ (∀ z ∈ zs, H1 z.2 = some (.tup (z.1.map kV))) ∧
  ∀ D, H1 D = none → Q (.ref D) (upd H1 D (.dT (foldT [] (zs.map fun z => (z.1, V.bl true)))))
theorem kt_of {H : Hp} : ∀ {zs : List (List Key × Addr)}, (∀ z ∈ zs, H z.2 = some (.tup (z.1.map kV))) → KT H (zs.map fun z => (z.1, V.bl true)) (zs.map fun z => (z.1, z.2, Value.bool true))
  | [], _ => .nil
  | z :: r, h => .cons ⟨rfl, h z (by simp), rfl⟩ (kt_of fun y hy => h y (by simp [hy]))
theorem pe_dcT {iter : Expr} {te : TE} {x : Str} {scope : Scope} {p1 p2 p3 pos : Pos} {j : Nat} (hc : X.calm = true) (hu : X.A.units + 1 < cLine) (hk : scope.kind = .function) (hn : ∀ y ∈ scope.names, y.2 = .local) (hl : scope.names.lookup x = some .local)
    (hns : ∀ y ∈ scope.names, y.2 = .local → scope.names.lookup y.1 = some .local) (hd : (x == ("__debug__" : Str)) = false) (he : PE X iter te) (hs : ∀ x, foldedSetIterable iter X.env x = pure x := by intro _; rfl) :
    PE X (.DictComp (.Name x p1) (.Constant (.bool true) j p2) [⟨.Name x p3, iter, [], 0⟩] scope pos) (tDcT te) := by
  refine ⟨fun pins s σ H Q I h => ?_⟩
  refine DictComp_goes (closure_ok fun y hy e => by rw [hn y hy] at e; cases e) (fun y hy e => by rw [hn y hy] at e; cases e) hk hns (thn (he.run pins s σ H _ I h) fun xv s1 h1 => ?_) hs
  obtain ⟨xx, H1, I1, r1, a, zs, rfl, ha, hz, q⟩ := h1
  cases r1
  obtain ⟨zl, us, c, rv, ho⟩ := (show ObjOk X.prog X.w H1 s1.heap a (.lst ((zs.map (·.2)).map V.ref)) from I1.hok a _ ha)
  have eu := refs_at rv
  have isl : s1.heap.IsList a us.toArray := ⟨_, ho, rfl, c, rfl⟩
  have alt : a < s1.heap.objs.size := Heap.lt_size ho
  have aneI : a ≠ s1.heap.objs.size := Nat.ne_of_lt alt
  have lz : us.toArray.size = zs.length := by rw [List.size_toArray, eu, List.length_map, List.length_map]
  rw [List.length_map, List.length_map] at zl
  have keyAll : ∀ (h : Heap) (i : Nat), (∀ b o, s1.heap.get? b = some o → h.get? b = some o) → ∀ y ∈ storedAllH [] ((zs.map fun z => (z.1, z.2, Value.bool true)).take i), (tupleKind (mixKind X.prog X.w)).is h y.1 y.2.1 := fun h i k =>
    storedAllH_keys (P := fun ks b => (tupleKind (mixKind X.prog X.w)).is h ks b) (fun y hy => by cases hy) (fun y hy => by
      obtain ⟨z, hz', rfl⟩ := List.mem_map.mp (List.mem_of_mem_take hy)
      obtain ⟨o, its, n, e1, e2, e3, e4⟩ := key_of I1.hok (hz z hz')
      exact ⟨o, its, n, k _ _ e1, e2, e3, e4⟩)
  refine wpAny_pyIter_list isl ⟨s1.heap.objs.size, [s1.heap.objs.size, a], [s1.heap.objs.size], us.toArray.size, _, _, rfl, Goes.list (I1.ok.hd hc) s1.heap.objs.size a aneI us.toArray, ⟨⟨_, Heap.get?_push_size _ rfl, rfl, rfl⟩, isl.at fun _ e => Heap.get?_push_of_some _ e⟩, fun D C s3 hb hD => ?_⟩
  have newD : s1.heap.objs.size < D := by have := hb.newD; rw [Heap.size_push] at this; exact this
  have newC : s1.heap.objs.size < C := by have := hb.newC; rw [Heap.size_push] at this; exact this
  have reb : ∀ (h h' : Heap) (i : Nat), (∀ o, h.get? D = some o → h'.get? D = some o) → (∀ b o, s1.heap.get? b = some o → h'.get? b = some o) →
      h.DictOfH (tupleKind (mixKind X.prog X.w)) D (storedAllH [] ((zs.map fun z => (z.1, z.2, Value.bool true)).take i)) → h'.DictOfH (tupleKind (mixKind X.prog X.w)) D (storedAllH [] ((zs.map fun z => (z.1, z.2, Value.bool true)).take i)) := fun h h' i k1 k2 dd => by
    obtain ⟨o, es, ep, q1, q2, q3, q4, _, q5⟩ := dd
    exact ⟨o, es, ep, k1 _ q1, q2, q3, q4, keyAll h' i k2, q5⟩
  refine ⟨fun i s' => (∃ h tk, s' = { s1 with heap := h, toks := tk }) ∧ (∀ b o, s1.heap.get? b = some o → s'.heap.get? b = some o) ∧
    s'.heap.DictOfH (tupleKind (mixKind X.prog X.w)) D (storedAllH [] ((zs.map fun z => (z.1, z.2, Value.bool true)).take i)) ∧ ∃ m, s'.heap.Ns C m, ?_, ?_, ?_, ?_⟩
  · obtain ⟨h3, t3, e3⟩ := hb.only
    refine ⟨⟨h3, t3, e3⟩, fun b o e => hb.old b o (Heap.get?_push_of_some _ e), ⟨_, #[], _, hD, ⟨rfl, rfl, rfl⟩, rfl, rfl, fun y hy => (by cases hy), List.nodup_nil⟩, _, hb.names⟩
  · rintro i s' h' tk ⟨⟨h0, t0, rfl⟩, old, dd, m, hm⟩ hkp -
    have out : ∀ b, b ≠ s1.heap.objs.size → b ∉ [s1.heap.objs.size] := fun b hb z => hb (List.mem_singleton.mp z)
    have old' : ∀ b o, s1.heap.get? b = some o → h'.get? b = some o := fun b o e => hkp b o (out b (Nat.ne_of_lt (Heap.lt_size e))) (old b o e)
    exact ⟨⟨_, _, rfl⟩, old', reb _ _ i (fun o e => hkp D o (out D (Nat.ne_of_gt newD)) e) old' dd, m, hm.at fun o e => hkp C o (out C (Nat.ne_of_gt newC)) e⟩
  · rintro i v s' hi hy st ⟨⟨h0, t0, rfl⟩, old, dd, m, hm⟩
    have hkind : (compEnvC scope (cloFrom X.env.cells scope.names []) C X.env).kindOf x = some .local := lookup_relabel_local hl
    refine wpAny_assign_Name (wpAny_storeName_local hkind hm (fun h1 hn1 hs1 => ?_) (by show (scope.kind == _ || (scope.kind == _ && _)) = false; rw [hk]; rfl))
    rw [show testsOf [] (compEnvC scope (cloFrom X.env.cells scope.names []) C X.env) = pure true from List.forIn_nil]
    refine wpAny_pure ?_
    rw [if_pos rfl]
    refine wpAny_Name (wpAny_loadName_local (by exact hk) hkind hn1 (if_pos rfl) (Constant_bool ?_)) hd
    have hiz : i < zs.length := by rw [← lz]; exact hi
    have ev : v = .ref zs[i].2 := by
      have h2 : us.toArray[i]? = some v := hy
      rw [List.getElem?_toArray, eu] at h2
      simp [hiz] at h2
      exact h2.symm
    subst ev
    have old1 : ∀ b o, s1.heap.get? b = some o → h1.get? b = some o := fun b o e => (hs1.2 b (Nat.ne_of_lt (Nat.lt_trans (Heap.lt_size e) newC))).trans (old b o e)
    have dd1 := reb h0 h1 i (fun o e => (hs1.2 D hb.ne).trans e) old1 dd
    have key1 := key_of I1.hok (hz zs[i] (List.getElem_mem hiz))
    obtain ⟨o, its, n, e1, e2, e3, e4⟩ := key1
    have len := storedAllH_length ((zs.map fun z => (z.1, z.2, Value.bool true)).take i) []
    rw [List.length_take, List.length_map, List.length_nil] at len
    refine wpAny_dictSet_heap (knd := tupleKind (mixKind X.prog X.w)) (k := zs[i].1) (hsz := by omega) (by show X.A.units < cLine; omega) ⟨o, its, n, old1 _ _ e1, e2, e3, e4⟩ dd1 fun h2 dd2 hs2 => ?_
    have ez : (zs.map fun z => (z.1, z.2, Value.bool true))[i]? = some (zs[i].1, zs[i].2, Value.bool true) := by simp [hiz]
    have I2 : ∀ b, b ≠ D → b ≠ C → h2.get? b = h0.get? b := fun b d1 d2 => (hs2.2 b d1).trans (hs1.2 b d2)
    refine ⟨⟨⟨_, _, rfl⟩, fun b o e => ?_, by rw [storedAllH_take_succ _ _ _ _ ez]; exact dd2, _, hn1.sameBut hs2 (Ne.symm hb.ne)⟩, ?_, ?_⟩
    · have bl := Heap.lt_size e
      exact (I2 b (Nat.ne_of_lt (Nat.lt_trans bl newD)) (Nat.ne_of_lt (Nat.lt_trans bl newC))).trans (old b o e)
    · exact st.1.at fun o e => (I2 _ (Nat.ne_of_lt newD) (Nat.ne_of_lt newC)).trans e
    · exact st.2.at fun o e => (I2 _ (Nat.ne_of_lt (Nat.lt_trans alt newD)) (Nat.ne_of_lt (Nat.lt_trans alt newC))).trans e
  · rintro s' ⟨⟨h0, t0, rfl⟩, old, dd, m, hm⟩
    refine ⟨m, hm, fun h' hs' => ?_⟩
    have old' : ∀ b o, s1.heap.get? b = some o → h'.get? b = some o := fun b o e => (hs'.2 b (Nat.ne_of_lt (Nat.lt_trans (Heap.lt_size e) newC))).trans (old b o e)
    have dd' := reb h0 h' _ (fun o e => (hs'.2 D hb.ne).trans e) old' dd
    rw [lz, show zs.length = (zs.map fun z => (z.1, z.2, Value.bool true)).length from (List.length_map _).symm, List.take_length] at dd'
    have fresh := I1.hok.fresh (Nat.le_of_lt newD)
    have rel := kt_fold (kt_of hz) (Paired.nil : KT H1 [] [])
    have len := foldT_len (zs.map fun z => (z.1, V.bl true)) []
    rw [List.length_map, List.length_nil] at len
    have ok := dt_new (X := X) (H := upd H1 D (.dT (foldT [] (zs.map fun z => (z.1, V.bl true))))) (by omega) (beq_eq_false_iff_ne.mpr (Nat.ne_of_gt (Nat.lt_trans I1.big newD))) (rel.keeps fun b ys e => by rw [upd_ne (fun z => by rw [z, fresh] at e; cases e)]; exact e) dd'
    exact ⟨.ref D, _, I1.laid (t' := t0) old' (Nat.le_of_lt newD) ok, rfl, q D fresh⟩
end
end Hfb
namespace Hfb
open PySem PySem.Spec PyProof.Rows L2
open Evl (Ex Ev EvT EvA EvL EvU ev_op ev_var ev_c ev_call ea_cons ea_nil)
section
variable {P : Program} {w : World} {K : PySem.W.Frag} {mg : Str → Option Value} {base : Heap} {H : Hp}
local macro_rules | `(tactic| walk_at "spv") => `(tactic| first | exact v_isInt | exact v_isIntD | exact v_twoPos | exact v_isSeq (.t (by assumption)) | exact v_isSeq (.l (by assumption)) | exact v_isDist (by assumption) (by omega))
local macro_rules | `(tactic| walk_at "rv") => `(tactic| first
  | with_reducible exact Evl.rv_I0
  | ((with_reducible refine Evl.rv_eq ?_); rfl)
  | ((with_reducible refine Evl.rv_ne ?_); rfl)
  | ((with_reducible apply Evl.rv_ixT); (first | assumption | exact Evl.st_of (by assumption)); (first | rfl | assumption))
  | ((with_reducible apply Evl.rv_ixL); (first | assumption | exact Evl.sq_of (by assumption)); (first | rfl | assumption))
  | exact isi_int
  | exact isi_bool
  | exact isi_str
  | exact rc_max
  | exact rc_min
  | (apply rc_lenL; first | assumption | exact Evl.sq_of (by assumption))
  | (apply rc_lenT; first | assumption | exact Evl.st_of (by assumption))
  | walk_at "fld"
  | walk_at "spv")
local macro_rules | `(tactic| walk_at "ev") => `(tactic| first
  | ((with_reducible apply Evl.ev_var); rfl)
  | with_reducible exact Evl.ev_c
  | with_reducible exact Evl.ea_nil
  | ((with_reducible apply Evl.ea_cons) <;> walk_at "ev")
  | ((with_reducible apply Evl.ev_op) <;> walk_at "ev")
  | ((with_reducible apply ev_chain) <;> walk_at "ev")
  | ((with_reducible apply Evl.ev_cb) <;> walk_at "ev")
  | ((with_reducible apply Evl.ev_call) <;> walk_at "ev")
  | ((with_reducible apply Evl.ev_notV) <;> walk_at "ev")
  | ((with_reducible apply ev_andU) <;> walk_at "ev")
  | ((with_reducible apply ev_orU) <;> walk_at "ev")
  | ((with_reducible apply Evl.et_B) <;> walk_at "ev")
  | ((with_reducible apply Evl.et_test) <;> walk_at "ev")
  | ((with_reducible apply Evl.et_not) <;> walk_at "ev")
  | ((with_reducible apply et_andU) <;> walk_at "ev")
  | ((with_reducible apply et_orU) <;> walk_at "ev")
  | walk_at "rv")
/-! ### stated_pairs -/
section
variable {σ : L2.St} {tl te : TE} {t : TT} {vs : List Nat} {j0 j1 : Nat}
/-- [.. for x, y in e]: e a list of pairs that is told -/
theorem tk_lcPT {ps : List Pr} {R : V → Hp → Prop} (h : Tk tl σ H R) (hR : ∀ v H1, R v H1 → ∃ a us, v = .ref a ∧ H1 a = some (.lst us) ∧ PairsAt H1 us ps) (hz : ps.length ≤ 40000) (G : Nat → List V → Hp → Prop) (hG : ∀ i acc H1 H2, TEx H1 H2 → G i acc H1 → G i acc H2)
    (hw : ∀ x y, wipe (((wipe σ vs).set j0 (some x)).set j1 (some y)) vs = wipe σ vs) (h0 : ∀ H', Ex H H' → G 0 [] H')
    (hs : ∀ i (x : Pr) acc H', Ex H H' → ps[i]? = some x → G i acc H' → TurnC t te G i acc (((wipe σ vs).set j0 (some (nV x.1))).set j1 (some (nV x.2))) H') :
    Tk (tLc (iList K tl) (g2 K j0 j1) t te vs) σ H (NewL H ps.length G) := fun H0 e Q q => h H0 e _ fun v H1 e1 r => by
  obtain ⟨a, us, rfl, ha, hp⟩ := hR v H1 r
  refine ⟨a, rfl, ⟨us, Evl.sq_of ha⟩, fun Dl hD => ?_⟩
  refine lc_list (xs := us) (CwG H1 G Dl) ⟨hD, Ex.new hD, [], upd_same, Nat.le_refl _, h0 _ ((e.trans e1).trans (Ex.new hD))⟩ (fun i H' _ p => Evl.sq_of (p.2.1 _ _ ha)) (fun i x H' hi p => ?_) (fun H' p => ?_)
  · obtain ⟨p1, p2, acc, p3, p4, p5⟩ := p
    have hl := lt_of_get hi
    obtain ⟨xy, hxy⟩ := get_some (xs := ps) (i := i) (by rw [← hp.1]; exact hl)
    obtain ⟨b, rfl, hb⟩ := hp.2 i x xy hi hxy
    exact g2_ok (Evl.st_of (p2 _ _ hb)) ⟨hw _ _, cwG_turn hG p1 p2 p3 p4 (by have := lt_of_get hxy; omega) (Ex.refl H') (hs i xy acc H' ((e.trans e1).trans p2) hxy p5)⟩
  · obtain ⟨p1, p2, acc, p3, p4, p5⟩ := p
    rw [hp.1] at p5
    exact q _ H' (e1.trans p2) ⟨Dl, acc, rfl, Evl.fresh_back (e.trans e1) p1, p3, p5⟩
end
def sp_stated : Sp := fun vs H Q _ => ∃ (v : V) (f : Fact) (n : Nat), vs = [v] ∧ FactAt H v f ∧ f.Ok n ∧ n ≤ 60 ∧ ∀ u H', Ex H H' → NewP H (statedP f) u H' → Q u H'
theorem v_stated {v : V} {f : Fact} {n : Nat} (h : FactAt H v f) (ok : f.Ok n) (hn : n ≤ 60) : SpK sp_stated [v] H (NewP H (statedP f)) := fun H1 e Q q E =>
  ⟨v, f, n, rfl, h.mono e, ok, hn, fun u H' e2 r => q u H' e2 (by obtain ⟨p, us, h1, h2, h3⟩ := r; exact ⟨p, us, h1, Evl.fresh_back e h2, h3⟩)⟩
theorem links_len (M : List Nat) : (linksD (distOf M)).length ≤ M.length := by
  unfold linksD
  refine Nat.le_trans (List.length_filterMap_le _ _) ?_
  rw [List.length_range, distOf_length]
  exact Nat.le_refl _
theorem stated_len {f : Fact} {n : Nat} (ok : f.Ok n) : (statedP f).length ≤ n + 1 := by
  cases f with
  | same i j => show 1 ≤ n + 1; omega
  | diff i j => exact Nat.zero_le _
  | eqv i j l => exact Nat.zero_le _
  | win s W =>
    obtain ⟨o1, o2⟩ := ok
    have := links_len W
    show (List.map _ _).length ≤ n + 1
    rw [List.length_map]
    omega
theorem cl_stated (T : Tx K mg) (c_linked_offsets : Cl P w K mg base 1 "linked_offsets" sp_links) (A : At K mg "stated_pairs" "stated_pairs" "stated_pairs" s_stated_pairs []) : Cl P w K mg base 2 "stated_pairs" sp_stated := by
  refine cl_of A sc_stated_pairs (fun _ _ _ _ _ _ us hl => match us, hl with | [_], _ => rfl) (fun vs H Q E h => ?_) (fun f cdv A outer s H vs Q E hr h => ?_)
  · obtain ⟨v, f, n, rfl, _⟩ := h
    rfl
  · obtain ⟨v, f, n, rfl, hf, ok, hn, q⟩ := h
    refine ⟨_, (pss_cons (ps_if (pt_cmpR op_eq (pe_ix ix_tup (pv 0) pe_int (fun _ _ => rfl)) (pk T.SAME) (nomark _)) (pss_one (ps_ret (pe_lst (pa_cons (pe_tup (pa_cons (pe_ix ix_tup (pv 0) pe_int (fun _ _ => rfl)) (pa_cons (pe_ix ix_tup (pv 0) pe_int (fun _ _ => rfl)) pa_nil))) pa_nil)))) pss_nil)
      (pss_cons (ps_if (pt_cmpR op_eq (pe_ix ix_tup (pv 0) pe_int (fun _ _ => rfl)) (pk T.WINDOW) (nomark _)) (pss_one (ps_ret (pe_lc (own := [("one", 1), ("other", 2)]) (g := gTup K 2 (gCons (gName 1) (gCons (gName 2) gNil))) (by rfl) sc_stated_pairs.nd (pi_list (pcl c_linked_offsets (hr.mono (by decide)) rfl (pa_cons (pe_ix ix_tup (pv 0) pe_int (fun _ _ => rfl)) pa_nil))) (blkOk_by (own := [("one", 1), ("other", 2)]) (N := N_stated_pairs) (sc := defScope s_stated_pairs) (by decide +kernel)) (fun _ _ _ _ _ => (pg_tup (by rfl) (pgs_cons (pg_name (i := 1) sc_stated_pairs.nd rfl (Or.inl rfl)) (pgs_cons (pg_name (i := 2) sc_stated_pairs.nd rfl (Or.inl rfl)) pgs_nil)))) (fun _ _ _ _ _ => pts_nil) (fun _ _ _ _ _ => (pe_tup (pa_cons (pe_op op_add (pe_ix (r := rIxT K) ix_tup (pv 0) pe_int (fun _ _ => rfl)) (pv 1)) (pa_cons (pe_op op_add (pe_ix (r := rIxT K) ix_tup (pv 0) pe_int (fun _ _ => rfl)) (pv 2)) pa_nil))))))) pss_nil)
      (pss_one (ps_ret (pe_lst pa_nil))))), ?_⟩
    cases f with
    | diff i j =>
      refine Go.here (go_skip (not_kind (K := K) hf (ev_var rfl) kd_diff_same) rfl (go_skip (not_kind (K := K) hf (ev_var rfl) kd_diff_win) rfl (go_retP (tk_lst ea_nil (by simp)) fun v1 H1 e1 r1 => ?_)))
      obtain ⟨p, rfl, hp, h1⟩ := r1
      exact q _ H1 e1 ⟨p, [], rfl, hp, h1, PairsAt.nil⟩
    | eqv i j l =>
      refine Go.here (go_skip (not_kind (K := K) hf (ev_var rfl) kd_eqv_same) rfl (go_skip (not_kind (K := K) hf (ev_var rfl) kd_eqv_win) rfl (go_retP (tk_lst ea_nil (by simp)) fun v1 H1 e1 r1 => ?_)))
      obtain ⟨p, rfl, hp, h1⟩ := r1
      exact q _ H1 e1 ⟨p, [], rfl, hp, h1, PairsAt.nil⟩
    | same i j =>
      obtain ⟨c, rfl, hc⟩ := id hf
      refine Go.here (go_take (not_kind (K := K) hf (ev_var rfl) kd_same_same) rfl (go_retP (tk_lst1 (tk_tup (vs := [nV i, nV j]) (by walk_at "ev") (by simp))) fun v1 H1 e1 r1 => ?_))
      obtain ⟨p, u, G, rfl, hp, h1, g1, g2, t, rfl, ht, ht2⟩ := r1
      exact q _ H1 e1 ⟨p, [.ref t], rfl, hp, h1, PairsAt.snoc (vs := []) (ps := []) PairsAt.nil ⟨t, rfl, g2 _ _ ht2⟩⟩
    | win s W =>
      obtain ⟨c, d, rfl, hc, hd⟩ := id hf
      obtain ⟨o1, o2⟩ := ok
      refine Go.here (go_skip (not_kind (K := K) hf (ev_var rfl) kd_win_same) rfl (go_take (not_kind (K := K) hf (ev_var rfl) kd_win_win) rfl (go_retP (tk_lcPT (K := K) (ps := linksD (distOf W)) (tk_call (by walk_at "ev") (v_links hd (by omega))) (fun v1 H1 r => ?_) (by have := links_len W; omega)
        (fun i acc H' => PairsAt H' acc (((linksD (distOf W)).take i).map fun xy => (s + xy.1, s + xy.2))) (fun _ _ _ _ e h => h.te e) (fun _ _ => rfl) (fun _ _ => PairsAt.nil) (fun i x acc H' e hi hacc => ?_)) fun v1 H1 e1 r1 => ?_)))
      · obtain ⟨a, us, h1, _, h2, h3⟩ := r
        exact ⟨a, us, h1, h2, h3⟩
      · have hc' := e _ _ hc
        refine ⟨true, fun H1 e1 Q' q' => q' H1 (Ex.refl H1), fun z => (nomatch z), fun _ => ⟨_, tk_tup (vs := [nV (s + x.1), nV (s + x.2)]) (ea_cons (Evl.ev_is (by walk_at "ev") (by simp)) (ea_cons (Evl.ev_is (by walk_at "ev") (by simp)) ea_nil)) (by simp), fun y H7 e7 r => ?_⟩⟩
        obtain ⟨t, rfl, ht, ht7⟩ := r
        rw [take_snoc hi, List.map_append]
        exact (hacc.te (te_of e7)).snoc ⟨t, rfl, ht7⟩
      · obtain ⟨p, acc, rfl, hp, h1, h2⟩ := r1
        rw [List.take_length] at h2
        exact q _ H1 e1 ⟨p, acc, rfl, hp, h1, h2⟩
end
end Hfb
namespace Hfb
open PySem PySem.Spec PyProof.Rows L2
open Evl (Ex Ev EvT EvA EvL EvU ev_op ev_var ev_c ev_call ea_cons ea_nil)
section
variable {P : Program} {w : World} {K : PySem.W.Frag} {mg : Str → Option Value} {base : Heap} {H : Hp}
local macro_rules | `(tactic| walk_at "spv") => `(tactic| first | exact v_isInt | exact v_isIntD | exact v_twoPos | exact v_isSeq (.t (by assumption)) | exact v_isSeq (.l (by assumption)) | exact v_isDist (by assumption) (by omega))
local macro_rules | `(tactic| walk_at "rv") => `(tactic| first
  | with_reducible exact Evl.rv_I0
  | ((with_reducible refine Evl.rv_eq ?_); rfl)
  | ((with_reducible refine Evl.rv_ne ?_); rfl)
  | ((with_reducible apply Evl.rv_ixT); (first | assumption | exact Evl.st_of (by assumption)); (first | rfl | assumption))
  | ((with_reducible apply Evl.rv_ixL); (first | assumption | exact Evl.sq_of (by assumption)); (first | rfl | assumption))
  | exact isi_int
  | exact isi_bool
  | exact isi_str
  | exact rc_max
  | exact rc_min
  | (apply rc_lenL; first | assumption | exact Evl.sq_of (by assumption))
  | (apply rc_lenT; first | assumption | exact Evl.st_of (by assumption))
  | walk_at "fld"
  | walk_at "spv")
local macro_rules | `(tactic| walk_at "ev") => `(tactic| first
  | ((with_reducible apply Evl.ev_var); rfl)
  | with_reducible exact Evl.ev_c
  | with_reducible exact Evl.ea_nil
  | ((with_reducible apply Evl.ea_cons) <;> walk_at "ev")
  | ((with_reducible apply Evl.ev_op) <;> walk_at "ev")
  | ((with_reducible apply ev_chain) <;> walk_at "ev")
  | ((with_reducible apply Evl.ev_cb) <;> walk_at "ev")
  | ((with_reducible apply Evl.ev_call) <;> walk_at "ev")
  | ((with_reducible apply Evl.ev_notV) <;> walk_at "ev")
  | ((with_reducible apply ev_andU) <;> walk_at "ev")
  | ((with_reducible apply ev_orU) <;> walk_at "ev")
  | ((with_reducible apply Evl.et_B) <;> walk_at "ev")
  | ((with_reducible apply Evl.et_test) <;> walk_at "ev")
  | ((with_reducible apply Evl.et_not) <;> walk_at "ev")
  | ((with_reducible apply et_andU) <;> walk_at "ev")
  | ((with_reducible apply et_orU) <;> walk_at "ev")
  | walk_at "rv")
/-! ### the store of a derivation -/
structure DS where
  s : Addr
  u : Addr
  qa : Addr
  pa : Addr
  pl : List (Nat × Addr × List Nat)
abbrev adr (pl : List (Nat × Addr × List Nat)) : List Addr := pl.map fun x => x.2.1
abbrev DS.ow (D : DS) (p : Addr) : List Addr := p :: D.s :: D.u :: D.qa :: D.pa :: adr D.pl
abbrev dF (D : DS) : List (Str × V) := [("steps", .ref D.s), ("uses", .ref D.u), ("queue", .ref D.qa), ("partners", .ref D.pa)]
abbrev plV (pl : List (Nat × Addr × List Nat)) : List (Key × V) := pl.map fun x => (Sum.inl (x.1 : Int), V.ref x.2.1)
/-- what a call that owns may do -/
def DF (ow ow' : List Addr) (H H' : Hp) : Prop := (∀ b o, b ∉ ow → H b = some o → H' b = some o) ∧ ∀ x ∈ ow', x ∈ ow ∨ H x = none
theorem DF.of {ow : List Addr} {H H' : Hp} (e : Ex H H') : DF ow ow H H' := ⟨fun b o _ h => e b o h, fun x h => .inl h⟩
theorem DF.put {ow : List Addr} {H H' : Hp} {x : Addr} {o : HO} (e : Ex H H') (hx : x ∈ ow) : DF ow ow H (upd H' x o) := ⟨fun b u nb h => by rw [upd_ne (fun z => nb (by rw [z]; exact hx))]; exact e b u h, fun x h => .inl h⟩
theorem DF.trans {a b c : List Addr} {H H1 H2 : Hp} (f : DF a b H H1) (g : DF b c H1 H2) : DF a c H H2 := by
  refine ⟨fun x o nx h => ?_, fun x hx => ?_⟩
  · have h1 := f.1 x o nx h
    refine g.1 x o (fun z => ?_) h1
    rcases f.2 x z with y | y
    · exact nx y
    · rw [h] at y; cases y
  · rcases g.2 x hx with y | y
    · exact f.2 x y
    · by_cases hx : x ∈ a
      · exact .inl hx
      · cases e : H x with
        | none => exact .inr rfl
        | some o =>
          have := f.1 x o hx e
          rw [this] at y
          cases y
theorem nodup_inj {α β : Type} {f : α → β} : ∀ {l : List α}, (l.map f).Nodup → ∀ {x y : α}, x ∈ l → y ∈ l → f x = f y → x = y
  | [], _, x, y, hx, _, _ => by cases hx
  | z :: r, h, x, y, hx, hy, e => by
    rw [List.map_cons, List.nodup_cons] at h
    rcases List.mem_cons.mp hx with h1 | h1
    · rcases List.mem_cons.mp hy with h2 | h2
      · rw [h1, h2]
      · exact absurd (List.mem_map.mpr ⟨y, h2, by rw [← e, h1]⟩) h.1
    · rcases List.mem_cons.mp hy with h2 | h2
      · exact absurd (List.mem_map.mpr ⟨x, h1, by rw [e, h2]⟩) h.1
      · exact nodup_inj h.2 h1 h2 e
theorem plV_some {v : V} {a : Nat} : ∀ {pl : List (Nat × Addr × List Nat)}, valV (plV pl) (Sum.inl (a : Int)) = some v → ∃ z ∈ pl, z.1 = a ∧ v = .ref z.2.1
  | [], h => by cases h
  | x :: r, h => by
    by_cases e : x.1 = a
    · rw [show plV (x :: r) = (Sum.inl (x.1 : Int), V.ref x.2.1) :: plV r from rfl, valV_pos (by rw [e])] at h
      exact ⟨x, by simp, e, (Option.some.inj h).symm⟩
    · rw [show plV (x :: r) = (Sum.inl (x.1 : Int), V.ref x.2.1) :: plV r from rfl, valV_neg (fun z => e (by have z := Sum.inl.inj z; omega))] at h
      obtain ⟨z, h1, h2, h3⟩ := plV_some (pl := r) h
      exact ⟨z, by simp [h1], h2, h3⟩
theorem plV_none {a : Nat} : ∀ {pl : List (Nat × Addr × List Nat)}, valV (plV pl) (Sum.inl (a : Int)) = none → ∀ z ∈ pl, z.1 ≠ a
  | [], h, z, hz => by cases hz
  | x :: r, h, z, hz => by
    by_cases e : x.1 = a
    · rw [show plV (x :: r) = (Sum.inl (x.1 : Int), V.ref x.2.1) :: plV r from rfl, valV_pos (by rw [e])] at h
      cases h
    · rw [show plV (x :: r) = (Sum.inl (x.1 : Int), V.ref x.2.1) :: plV r from rfl, valV_neg (fun z => e (by have z := Sum.inl.inj z; omega))] at h
      rcases List.mem_cons.mp hz with h1 | h1
      · rw [h1]; exact e
      · exact plV_none (pl := r) h z h1
/-- what a turn makes of the partners -/
structure PNew (H : Hp) (pa : Addr) (pl : List (Nat × Addr × List Nat)) (a b : Nat) (pl' : List (Nat × Addr × List Nat)) (H' : Hp) : Prop where
  df : DF (pa :: adr pl) (pa :: adr pl') H H'
  dk : H' pa = some (.dK (plV pl'))
  ls : ∀ x ∈ pl', H' x.2.1 = some (.lst (nL x.2.2))
  nd : (pa :: adr pl').Nodup
  nk : (pl'.map (·.1)).Nodup
  sem : ∀ x y, (∃ z ∈ pl', z.1 = x ∧ y ∈ z.2.2) ↔ (∃ z ∈ pl, z.1 = x ∧ y ∈ z.2.2) ∨ (x = a ∧ y = b)
  s1 : pl'.length ≤ pl.length + 1
  s2 : ∀ N, (∀ x ∈ pl, x.2.2.length ≤ N) → ∀ x ∈ pl', x.2.2.length ≤ N + 1
def addB (a b : Nat) (y : Nat × Addr × List Nat) : Nat × Addr × List Nat := if y.1 = a then (y.1, y.2.1, y.2.2 ++ [b]) else y
theorem addB_1 (a b : Nat) (y : Nat × Addr × List Nat) : (addB a b y).1 = y.1 := by unfold addB; split <;> rfl
theorem addB_2 (a b : Nat) (y : Nat × Addr × List Nat) : (addB a b y).2.1 = y.2.1 := by unfold addB; split <;> rfl
theorem addB_adr (a b : Nat) (pl : List (Nat × Addr × List Nat)) : adr (pl.map (addB a b)) = adr pl := by
  unfold adr
  rw [List.map_map]
  exact List.map_congr_left fun x _ => addB_2 a b x
theorem addB_plV (a b : Nat) (pl : List (Nat × Addr × List Nat)) : plV (pl.map (addB a b)) = plV pl := by
  unfold plV
  rw [List.map_map]
  refine List.map_congr_left fun x _ => ?_
  show (Sum.inl ((addB a b x).1 : Int), V.ref (addB a b x).2.1) = _
  rw [addB_1, addB_2]
theorem pnew_old {H H4 : Hp} {pa : Addr} {pl : List (Nat × Addr × List Nat)} {a b : Nat} {z : Nat × Addr × List Nat} (e : Ex H H4) (hpa : H pa = some (.dK (plV pl))) (hl : ∀ x ∈ pl, H x.2.1 = some (.lst (nL x.2.2))) (nd : (pa :: adr pl).Nodup) (nk : (pl.map (·.1)).Nodup)
    (hz : z ∈ pl) (ha : z.1 = a) : PNew H pa pl a b (pl.map (addB a b)) (upd H4 z.2.1 (.lst (nL z.2.2 ++ [nV b]))) := by
  have nd2 := List.nodup_cons.mp nd
  have zin : z.2.1 ∈ adr pl := List.mem_map.mpr ⟨z, hz, rfl⟩
  refine ⟨?_, ?_, fun x hx => ?_, by rw [addB_adr]; exact nd, ?_, fun x y => ?_, by rw [List.length_map]; omega, fun N hN x hx => ?_⟩
  · rw [addB_adr]
    exact DF.put e (List.mem_cons_of_mem _ zin)
  · rw [addB_plV, upd_ne (fun q => nd2.1 (by rw [q]; exact zin))]
    exact e _ _ hpa
  · obtain ⟨y, hy, rfl⟩ := List.mem_map.mp hx
    rw [addB_2]
    by_cases c : y.1 = a
    · have ey : y = z := nodup_inj nk hy hz (c.trans ha.symm)
      subst ey
      rw [upd_same]
      unfold addB
      rw [if_pos c]
      simp [nL]
    · rw [upd_ne (fun q => c (by rw [nodup_inj nd2.2 hy hz q]; exact ha))]
      unfold addB
      rw [if_neg c]
      exact e _ _ (hl y hy)
  · rw [List.map_map]
    rw [show pl.map ((fun x => x.1) ∘ addB a b) = pl.map (fun x => x.1) from List.map_congr_left fun x _ => addB_1 a b x]
    exact nk
  · constructor
    · rintro ⟨w, hw, h1, h2⟩
      obtain ⟨v, hv, rfl⟩ := List.mem_map.mp hw
      rw [addB_1] at h1
      unfold addB at h2
      by_cases c : v.1 = a
      · rw [if_pos c] at h2
        rcases List.mem_append.mp h2 with h3 | h3
        · exact .inl ⟨v, hv, h1, h3⟩
        · exact .inr ⟨by rw [← h1, c], List.mem_singleton.mp h3⟩
      · rw [if_neg c] at h2
        exact .inl ⟨v, hv, h1, h2⟩
    · rintro (⟨v, hv, h1, h2⟩ | ⟨h1, h2⟩)
      · refine ⟨addB a b v, List.mem_map.mpr ⟨v, hv, rfl⟩, by rw [addB_1]; exact h1, ?_⟩
        unfold addB
        split
        · exact List.mem_append.mpr (.inl h2)
        · exact h2
      · refine ⟨addB a b z, List.mem_map.mpr ⟨z, hz, rfl⟩, by rw [addB_1, ha, h1], ?_⟩
        unfold addB
        rw [if_pos ha, h2]
        exact List.mem_append.mpr (.inr (by simp))
  · obtain ⟨y, hy, rfl⟩ := List.mem_map.mp hx
    have := hN y hy
    unfold addB
    split
    · show (y.2.2 ++ [b]).length ≤ N + 1
      rw [List.length_append, List.length_singleton]
      omega
    · omega
theorem pnew_new {H H4 : Hp} {pa c : Addr} {pl : List (Nat × Addr × List Nat)} {a b : Nat} (hpa : H pa = some (.dK (plV pl))) (hl : ∀ x ∈ pl, H x.2.1 = some (.lst (nL x.2.2))) (nd : (pa :: adr pl).Nodup) (nk : (pl.map (·.1)).Nodup)
    (hc : H c = none) (hn : ∀ z ∈ pl, z.1 ≠ a) (e : ∀ b o, b ≠ pa → H b = some o → H4 b = some o) (h4 : H4 pa = some (.dK (plV (pl ++ [(a, c, [b])])))) : PNew H pa pl a b (pl ++ [(a, c, [b])]) (upd H4 c (.lst [nV b])) := by
  have nd2 := List.nodup_cons.mp nd
  have cpa : c ≠ pa := fun q => by rw [q, hpa] at hc; cases hc
  have cin : c ∉ adr pl := fun q => by
    obtain ⟨y, hy, h⟩ := List.mem_map.mp q
    have h5 := hl y hy
    rw [h, hc] at h5
    cases h5
  have eadr : adr (pl ++ [(a, c, [b])]) = adr pl ++ [c] := by unfold adr; rw [List.map_append]; rfl
  refine ⟨⟨fun x o nx h => ?_, fun x hx => ?_⟩, ?_, fun x hx => ?_, ?_, ?_, fun x y => ?_, by simp, fun N hN x hx => ?_⟩
  · rw [upd_ne (fun q => by rw [q, hc] at h; cases h)]
    exact e x o (fun q => nx (by rw [q]; simp)) h
  · rw [eadr] at hx
    rcases List.mem_cons.mp hx with h | h
    · exact .inl (by rw [h]; simp)
    · rcases List.mem_append.mp h with h | h
      · exact .inl (List.mem_cons_of_mem _ h)
      · rw [List.mem_singleton.mp h]
        exact .inr hc
  · rw [upd_ne (Ne.symm cpa)]
    exact h4
  · rcases List.mem_append.mp hx with h | h
    · have hx1 : x.2.1 ∈ adr pl := List.mem_map.mpr ⟨x, h, rfl⟩
      rw [upd_ne (fun q => cin (by rw [← q]; exact hx1))]
      exact e _ _ (fun q => nd2.1 (by rw [← q]; exact hx1)) (hl x h)
    · rw [List.mem_singleton.mp h]
      exact upd_same
  · rw [eadr, List.nodup_cons]
    refine ⟨fun q => ?_, ?_⟩
    · rcases List.mem_append.mp q with h | h
      · exact nd2.1 h
      · exact cpa (List.mem_singleton.mp h).symm
    · rw [List.nodup_append]
      exact ⟨nd2.2, by simp, fun x hx y hy q => cin (by rw [List.mem_singleton.mp hy] at q; rw [← q]; exact hx)⟩
  · rw [List.map_append, List.nodup_append]
    refine ⟨nk, by simp, fun x hx y hy q => ?_⟩
    obtain ⟨w, hw, h⟩ := List.mem_map.mp hx
    have hy := List.mem_singleton.mp hy
    exact hn w hw (by rw [h, q, hy])
  · constructor
    · rintro ⟨w, hw, h1, h2⟩
      rcases List.mem_append.mp hw with h | h
      · exact .inl ⟨w, h, h1, h2⟩
      · rw [List.mem_singleton.mp h] at h1 h2
        exact .inr ⟨h1.symm, List.mem_singleton.mp h2⟩
    · rintro (⟨v, hv, h1, h2⟩ | ⟨h1, h2⟩)
      · exact ⟨v, List.mem_append.mpr (.inl hv), h1, h2⟩
      · exact ⟨(a, c, [b]), List.mem_append.mpr (.inr (by simp)), h1.symm, by rw [h2]; simp⟩
  · rcases List.mem_append.mp hx with h | h
    · have := hN x h
      omega
    · rw [List.mem_singleton.mp h]
      show 1 ≤ N + 1
      omega
theorem s_part {σ : L2.St} {Dd : Ends} {ta t1 t2 : TE} {pa : Addr} {pl : List (Nat × Addr × List Nat)} {a b : Nat} (hpa : H pa = some (.dK (plV pl))) (hl : ∀ x ∈ pl, H x.2.1 = some (.lst (nL x.2.2))) (nd : (pa :: adr pl).Nodup) (nk : (pl.map (·.1)).Nodup)
    (hz : pl.length < 50000) (hz2 : ∀ x ∈ pl, x.2.2.length < 50000) (ha : Ev ta σ H (.ref pa)) (h1 : Ev t1 σ H (nV a)) (h2 : ∀ G : Hp, Ev t2 σ G (nV b)) (k : ∀ pl' H', PNew H pa pl a b pl' H' → Dd.nx σ H') :
    tDrop (tBM K "list" rAppend (tDSetd ta t1 (tLst tNil)) (tCons t2 tNil)) Dd σ H := by
  refine ha H (Ex.refl H) _ fun H1 e1 => ⟨pa, rfl, Or.inl ⟨_, Or.inl (e1 _ _ hpa)⟩, h1 H1 e1 _ fun H2 e2 => ⟨by show 0 ≤ sizeLine; decide, fun c hc => ?_⟩⟩
  have e02 := e1.trans e2
  have hc0 := Evl.fresh_back e02 hc
  have e03 : Ex H (upd H2 c (.lst [])) := e02.trans (Ex.new hc)
  refine ⟨plV pl, Sum.inl (a : Int), e03 _ _ hpa, rfl, Evl.sz_lt (by rw [List.length_map]; omega), fun v hv => ?_, fun hv => ?_⟩
  · obtain ⟨z, hz, e, rfl⟩ := plV_some hv
    refine ⟨Or.inl ⟨rfl, nL z.2.2, Evl.sq_of (e03 _ _ (hl z hz))⟩, h2 _ _ (Ex.refl _) _ fun H4 e4 => ⟨z.2.1, nL z.2.2, nV b, rfl, rfl, e4 _ _ (e03 _ _ (hl z hz)), Evl.sz_lt (by have := hz2 z hz; rw [List.length_map]; omega), ?_⟩⟩
    exact k _ _ (pnew_old (e03.trans e4) hpa hl nd nk hz e)
  · have cpa : c ≠ pa := fun q => by rw [q, hpa] at hc0; cases hc0
    have n0 := plV_none hv
    rw [putK_new _ hv]
    have hcl : (upd (upd H2 c (.lst [])) pa (.dK (plV pl ++ [(Sum.inl (a : Int), V.ref c)]))) c = some (.lst []) := by rw [upd_ne cpa]; exact upd_same
    refine ⟨Or.inl ⟨rfl, [], Evl.sq_of hcl⟩, h2 _ _ (Ex.refl _) _ fun H4 e4 => ⟨c, [], nV b, rfl, rfl, e4 _ _ hcl, Evl.sz_lt (by simp), ?_⟩⟩
    refine k _ _ (pnew_new hpa hl nd nk hc0 n0 (fun x o nx h => e4 _ _ ?_) ?_)
    · rw [upd_ne nx]
      exact e03 _ _ h
    · rw [show plV (pl ++ [(a, c, [b])]) = plV pl ++ [(Sum.inl (a : Int), V.ref c)] from by unfold plV; rw [List.map_append]; rfl]
      exact e4 _ _ upd_same
end
end Hfb
namespace Hfb
open PySem PySem.Spec PyProof.Rows L2
open Evl (Ex Ev EvT EvA EvL EvU ev_op ev_var ev_c ev_call ea_cons ea_nil)
section
variable {P : Program} {w : World} {K : PySem.W.Frag} {mg : Str → Option Value} {base : Heap} {H : Hp}
local macro_rules | `(tactic| walk_at "spv") => `(tactic| first | exact v_isInt | exact v_isIntD | exact v_twoPos | exact v_isSeq (.t (by assumption)) | exact v_isSeq (.l (by assumption)) | exact v_isDist (by assumption) (by omega))
local macro_rules | `(tactic| walk_at "rv") => `(tactic| first
  | with_reducible exact Evl.rv_I0
  | ((with_reducible refine Evl.rv_eq ?_); rfl)
  | ((with_reducible refine Evl.rv_ne ?_); rfl)
  | ((with_reducible apply Evl.rv_ixT); (first | assumption | exact Evl.st_of (by assumption)); (first | rfl | assumption))
  | ((with_reducible apply Evl.rv_ixL); (first | assumption | exact Evl.sq_of (by assumption)); (first | rfl | assumption))
  | exact isi_int
  | exact isi_bool
  | exact isi_str
  | exact rc_max
  | exact rc_min
  | (apply rc_lenL; first | assumption | exact Evl.sq_of (by assumption))
  | (apply rc_lenT; first | assumption | exact Evl.st_of (by assumption))
  | walk_at "fld"
  | walk_at "spv")
local macro_rules | `(tactic| walk_at "ev") => `(tactic| first
  | ((with_reducible apply Evl.ev_var); rfl)
  | with_reducible exact Evl.ev_c
  | with_reducible exact Evl.ea_nil
  | ((with_reducible apply Evl.ea_cons) <;> walk_at "ev")
  | ((with_reducible apply Evl.ev_op) <;> walk_at "ev")
  | ((with_reducible apply ev_chain) <;> walk_at "ev")
  | ((with_reducible apply Evl.ev_cb) <;> walk_at "ev")
  | ((with_reducible apply Evl.ev_call) <;> walk_at "ev")
  | ((with_reducible apply Evl.ev_notV) <;> walk_at "ev")
  | ((with_reducible apply ev_andU) <;> walk_at "ev")
  | ((with_reducible apply ev_orU) <;> walk_at "ev")
  | ((with_reducible apply Evl.et_B) <;> walk_at "ev")
  | ((with_reducible apply Evl.et_test) <;> walk_at "ev")
  | ((with_reducible apply Evl.et_not) <;> walk_at "ev")
  | ((with_reducible apply et_andU) <;> walk_at "ev")
  | ((with_reducible apply et_orU) <;> walk_at "ev")
  | walk_at "rv")
/-! ### what stands in the store -/
def UsedAt (H : Hp) (ow : List Addr) (v : V) (us : List Pr) : Prop := ∃ a vs, v = .ref a ∧ a ∉ ow ∧ H a = some (.lst vs) ∧ PairsAt H vs us
structure DerAt (K : PySem.W.Frag) (H : Hp) (p : Addr) (D : DS) (es : List Ent) (q : List Pr) : Prop where
  obj : ∃ dx, H p = some (.ins (CD K) dx (dF D))
  st : ∃ kS, H D.s = some (.dT kS) ∧ kS.length = es.length ∧ ∀ (i : Nat) kv e, kS[i]? = some kv → es[i]? = some e → kv.1 = kK e.key ∧ StepAt H kv.2 e.step
  us : ∃ kU, H D.u = some (.dT kU) ∧ kU.length = es.length ∧ ∀ (i : Nat) kv e, kU[i]? = some kv → es[i]? = some e → kv.1 = kK e.key ∧ UsedAt H (D.ow p) kv.2 e.used
  qu : ∃ vs, H D.qa = some (.lst vs) ∧ PairsAt H vs q
  pt : H D.pa = some (.dK (plV D.pl))
  ls : ∀ x ∈ D.pl, H x.2.1 = some (.lst (nL x.2.2))
  nd : (D.ow p).Nodup
  nk : (D.pl.map (·.1)).Nodup
  sem : ∀ a b, keyP a b ∈ keysE es ↔ ∃ x ∈ D.pl, x.1 = a ∧ b ∈ x.2.2
  s1 : D.pl.length ≤ 2 * es.length
  s2 : ∀ x ∈ D.pl, x.2.2.length ≤ 2 * es.length
theorem UsedAt.mono {H H' : Hp} {ow : List Addr} {v : V} {us : List Pr} (e : Ex H H') (h : UsedAt H ow v us) : UsedAt H' ow v us := by
  obtain ⟨a, vs, h1, h2, h3, h4⟩ := h
  exact ⟨a, vs, h1, h2, e _ _ h3, h4.te (te_of e)⟩
theorem DerAt.mono {H H' : Hp} {p : Addr} {D : DS} {es : List Ent} {q : List Pr} (e : Ex H H') (h : DerAt K H p D es q) : DerAt K H' p D es q := by
  obtain ⟨⟨dx, h1⟩, ⟨kS, a1, a2, a3⟩, ⟨kU, b1, b2, b3⟩, ⟨vs, c1, c2⟩, h5, h6, h7, h8, h9, h10, h11⟩ := h
  exact ⟨⟨dx, e _ _ h1⟩, ⟨kS, e _ _ a1, a2, fun i kv x y z => ⟨(a3 i kv x y z).1, (a3 i kv x y z).2.te (te_of e)⟩⟩, ⟨kU, e _ _ b1, b2, fun i kv x y z => ⟨(b3 i kv x y z).1, (b3 i kv x y z).2.mono e⟩⟩, ⟨vs, e _ _ c1, c2.te (te_of e)⟩, e _ _ h5, fun x hx => e _ _ (h6 x hx), h7, h8, h9, h10, h11⟩
theorem DerAt.te {H H' : Hp} {p : Addr} {D : DS} {es : List Ent} {q : List Pr} {ow' : List Addr} (h : DerAt K H p D es q) (f : DF (D.ow p) ow' H H') : TEx H H' := fun b ys hb => by
  refine f.1 b _ (fun z => ?_) hb
  obtain ⟨⟨dx, h1⟩, ⟨kS, a1, _⟩, ⟨kU, b1, _⟩, ⟨vs, c1, _⟩, h5, h6, _⟩ := h
  rcases List.mem_cons.mp z with z | z
  · rw [z, h1] at hb; cases hb
  rcases List.mem_cons.mp z with z | z
  · rw [z, a1] at hb; cases hb
  rcases List.mem_cons.mp z with z | z
  · rw [z, b1] at hb; cases hb
  rcases List.mem_cons.mp z with z | z
  · rw [z, c1] at hb; cases hb
  rcases List.mem_cons.mp z with z | z
  · rw [z, h5] at hb; cases hb
  · obtain ⟨x, hx, hz⟩ := List.mem_map.mp z
    rw [← hz, h6 x hx] at hb
    cases hb
def addE (es : List Ent) (q : List Pr) (e : Ent) : List Ent × List Pr := if e.key ∈ keysE es then (es, q) else (es ++ [e], q ++ [e.key])
theorem keysE_valV {kS : List (List Key × V)} : ∀ {es : List Ent}, kS.length = es.length → (∀ (i : Nat) kv e, kS[i]? = some kv → es[i]? = some e → kv.1 = kK e.key) → ∀ k : Pr, (valV kS (kK k)).isSome = true ↔ k ∈ keysE es := by
  induction kS with
  | nil =>
    intro es hl _ k
    have : es = [] := List.length_eq_zero_iff.mp hl.symm
    subst this
    simp [valV_nil, keysE]
  | cons kv r ih =>
    intro es hl h k
    match es, hl with
    | e :: es, hl =>
      have h0 := h 0 kv e rfl rfl
      have ih := ih (es := es) (by simpa using hl) (fun i x y a b => h (i + 1) x y a b) k
      show (valV (kv :: r) (kK k)).isSome = true ↔ k ∈ e.key :: keysE es
      by_cases c : k = e.key
      · subst c
        rw [valV_pos h0]
        simp
      · rw [valV_neg (fun z => c (kK_eq.mp (z.symm.trans h0))), ih]
        simp [c]
theorem get_snoc {α : Type} {xs : List α} {x y : α} {i : Nat} (h : (xs ++ [x])[i]? = some y) : (i < xs.length ∧ xs[i]? = some y) ∨ (i = xs.length ∧ y = x) := by
  by_cases hi : i < xs.length
  · rw [List.getElem?_append_left hi] at h
    exact .inl ⟨hi, h⟩
  · have hl := lt_of_get h
    rw [List.length_append, List.length_singleton] at hl
    have e : i = xs.length := by omega
    subst e
    rw [List.getElem?_concat_length] at h
    exact .inr ⟨rfl, (Option.some.inj h).symm⟩
theorem s_dputT {σ : L2.St} {Dd : Ends} {td ty tv : TE} {d b : Addr} {kvs : List (List Key × V)} {k : List Key} {R : V → Hp → Prop} (hd : H d = some (.dT kvs)) (hv : Tk tv σ H R) (h2 : ∀ G, Ex H G → Ev td σ G (.ref d)) (h3 : ∀ G : Hp, Ev ty σ G (.ref b)) (hb : H b = some (.tup (k.map kV))) (hz : kvs.length < 100000)
    (q : ∀ v H1 H3, Ex H H1 → R v H1 → Ex H1 H3 → Dd.nx σ (upd H3 d (.dT (putK kvs k v)))) : sDPut td ty tv Dd σ H :=
  hv H (Ex.refl H) _ fun v H1 e1 r => h2 H1 e1 H1 (Ex.refl _) _ fun H2 e2 => h3 H2 H2 (Ex.refl _) _ fun H3 e3 =>
    ⟨d, _, rfl, DPut.t (k := k) ((e1.trans (e2.trans e3)) _ _ hd) ((e1.trans (e2.trans e3)) _ _ hb) (Evl.sz_lt hz), q v H1 H3 e1 r (e2.trans e3)⟩
section
variable {σ : L2.St} {ta : TE} {p dx : Addr} {D : DS}
theorem ev_fD (T : Tx K mg) (f : Str) (n : NoAttr K (CD K) f) (v : V) (hl : (dF D).lookup f = some v) (h : Ev ta σ H (.ref p)) (hp : H p = some (.ins (CD K) dx (dF D))) : Ev (tFld K ta f) σ H v := fun H1 e Q q =>
  h H1 e _ fun H2 e2 => ⟨p, CD K, dx, dF D, v, rfl, e2 _ _ (e _ _ hp), T.cD, n, hl, q H2 e2⟩
theorem ev_fS (T : Tx K mg) (h : Ev ta σ H (.ref p)) (hp : H p = some (.ins (CD K) dx (dF D))) : Ev (tFld K ta "steps") σ H (.ref D.s) := ev_fD T "steps" T.n1 _ (by simp [dF]) h hp
theorem ev_fU (T : Tx K mg) (h : Ev ta σ H (.ref p)) (hp : H p = some (.ins (CD K) dx (dF D))) : Ev (tFld K ta "uses") σ H (.ref D.u) := ev_fD T "uses" T.n2 _ (by kernel_rfl) h hp
theorem ev_fQ (T : Tx K mg) (h : Ev ta σ H (.ref p)) (hp : H p = some (.ins (CD K) dx (dF D))) : Ev (tFld K ta "queue") σ H (.ref D.qa) := ev_fD T "queue" T.n3 _ (by kernel_rfl) h hp
theorem ev_fP (T : Tx K mg) (h : Ev ta σ H (.ref p)) (hp : H p = some (.ins (CD K) dx (dF D))) : Ev (tFld K ta "partners") σ H (.ref D.pa) := ev_fD T "partners" T.n4 _ (by kernel_rfl) h hp
end
end
end Hfb
namespace Hfb
open PySem PySem.Spec PyProof.Rows L2
open Evl (Ex Ev EvT EvA EvL EvU ev_op ev_var ev_c ev_call ea_cons ea_nil)
section
variable {P : Program} {w : World} {K : PySem.W.Frag} {mg : Str → Option Value} {base : Heap} {H : Hp}
local macro_rules | `(tactic| walk_at "spv") => `(tactic| first | exact v_isInt | exact v_isIntD | exact v_twoPos | exact v_isSeq (.t (by assumption)) | exact v_isSeq (.l (by assumption)) | exact v_isDist (by assumption) (by omega))
local macro_rules | `(tactic| walk_at "rv") => `(tactic| first
  | with_reducible exact Evl.rv_I0
  | ((with_reducible refine Evl.rv_eq ?_); rfl)
  | ((with_reducible refine Evl.rv_ne ?_); rfl)
  | ((with_reducible apply Evl.rv_ixT); (first | assumption | exact Evl.st_of (by assumption)); (first | rfl | assumption))
  | ((with_reducible apply Evl.rv_ixL); (first | assumption | exact Evl.sq_of (by assumption)); (first | rfl | assumption))
  | exact isi_int
  | exact isi_bool
  | exact isi_str
  | exact rc_max
  | exact rc_min
  | (apply rc_lenL; first | assumption | exact Evl.sq_of (by assumption))
  | (apply rc_lenT; first | assumption | exact Evl.st_of (by assumption))
  | walk_at "fld"
  | walk_at "spv")
local macro_rules | `(tactic| walk_at "ev") => `(tactic| first
  | ((with_reducible apply Evl.ev_var); rfl)
  | with_reducible exact Evl.ev_c
  | with_reducible exact Evl.ea_nil
  | ((with_reducible apply Evl.ea_cons) <;> walk_at "ev")
  | ((with_reducible apply Evl.ev_op) <;> walk_at "ev")
  | ((with_reducible apply ev_chain) <;> walk_at "ev")
  | ((with_reducible apply Evl.ev_cb) <;> walk_at "ev")
  | ((with_reducible apply Evl.ev_call) <;> walk_at "ev")
  | ((with_reducible apply Evl.ev_notV) <;> walk_at "ev")
  | ((with_reducible apply ev_andU) <;> walk_at "ev")
  | ((with_reducible apply ev_orU) <;> walk_at "ev")
  | ((with_reducible apply Evl.et_B) <;> walk_at "ev")
  | ((with_reducible apply Evl.et_test) <;> walk_at "ev")
  | ((with_reducible apply Evl.et_not) <;> walk_at "ev")
  | ((with_reducible apply et_andU) <;> walk_at "ev")
  | ((with_reducible apply et_orU) <;> walk_at "ev")
  | walk_at "rv")
/-! ### Derivation.add -/
theorem q_seq {tu tz : TS} {D : Ends} {σ : L2.St} (h : tu { D with nx := tz D } σ H) : tSeq tu tz D σ H := h
def sp_add (K : PySem.W.Frag) : Sp := fun vs H Q _ => ∃ (p : Addr) (D : DS) (es : List Ent) (q : List Pr) (e : Ent) (r u : V), vs = [.ref p, nV e.step.p, nV e.step.q, r, u] ∧ DerAt K H p D es q ∧ es.length ≤ 10000 ∧ q.length ≤ 20000 ∧ RsAt H r e.step.reason ∧ UsedAt H (D.ow p) u e.used ∧
  ∀ D' H', DF (D.ow p) (D'.ow p) H H' → DerAt K H' p D' (addE es q e).1 (addE es q e).2 → Q .non H'
theorem DF.keep {ow ow' : List Addr} {H H' : Hp} {x : Addr} {o : HO} (f : DF ow ow' H H') (hn : x ∉ ow) (h : H x = some o) : H' x = some o := f.1 x o hn h
theorem UsedAt.df {H H' : Hp} {ow ow' : List Addr} {v : V} {us : List Pr} (t : TEx H H') (f : DF ow ow' H H') (h : UsedAt H ow v us) : UsedAt H' ow' v us := by
  obtain ⟨a, vs, h1, h2, h3, h4⟩ := h
  refine ⟨a, vs, h1, fun z => ?_, f.1 a _ h2 h3, h4.te t⟩
  rcases f.2 a z with y | y
  · exact h2 y
  · rw [h3] at y; cases y
theorem sem_add {es : List Ent} {e : Ent} {pl pl1 pl2 : List (Nat × Addr × List Nat)} (h0 : ∀ a b, keyP a b ∈ keysE es ↔ ∃ x ∈ pl, x.1 = a ∧ b ∈ x.2.2)
    (h1 : ∀ x y, (∃ z ∈ pl1, z.1 = x ∧ y ∈ z.2.2) ↔ (∃ z ∈ pl, z.1 = x ∧ y ∈ z.2.2) ∨ (x = e.step.p ∧ y = e.step.q)) (h2 : ∀ x y, (∃ z ∈ pl2, z.1 = x ∧ y ∈ z.2.2) ↔ (∃ z ∈ pl1, z.1 = x ∧ y ∈ z.2.2) ∨ (x = e.step.q ∧ y = e.step.p)) (a b : Nat) :
    keyP a b ∈ keysE (es ++ [e]) ↔ ∃ x ∈ pl2, x.1 = a ∧ b ∈ x.2.2 := by
  rw [h2, h1, ← h0, keysE_append, List.mem_append]
  have ek : keysE [e] = [keyP e.step.p e.step.q] := rfl
  rw [ek, List.mem_singleton, or_assoc]
  constructor
  · rintro (h | h)
    · exact .inl h
    · rcases keyP_inj h with h | h
      · exact .inr (.inl h)
      · exact .inr (.inr h)
  · rintro (h | ⟨h, k⟩ | ⟨h, k⟩)
    · exact .inl h
    · rw [h, k]; exact .inr rfl
    · rw [h, k]; exact .inr (keyP_symm _ _)
theorem mt_add (T : Tx K mg) (c_pair_key : Cl P w K mg base 1 "pair_key" sp_pairKey) (A : AtM K (CD K) "add" "Derivation.add" s_Derivation_add) : Mt P w K mg base 2 (CD K) "add" (sp_add K) := by
  refine mt_of A T.cD sc_Derivation_add (fun _ _ _ _ _ _ us hl => match us, hl with | [_, _, _, _, _], _ => rfl) (fun vs H Q E h => ?_) (fun f cdv A outer s H vs Q E hr h => ?_)
  · obtain ⟨p, D, es, q, e, r, u, rfl, _⟩ := h
    rfl
  · obtain ⟨p, D, es, q, e, r, u, rfl, hD, hz1, hz2, hr', hu, k⟩ := h
    refine ⟨_, (pss_cons (ps_set (i := 5) sc_Derivation_add.nd rfl (Or.inl rfl) (pcl c_pair_key (hr.mono (by decide)) rfl (pa_cons (pv 1) (pa_cons (pv 2) pa_nil))))
      (pss_cons (ps_if (pt_cmp (pc_din (hu_of hr) (pv 5) (pe_fld (pv 0) rfl))) (pss_one ps_retN) pss_nil)
      (pss_cons (ps_dput (hu_of hr) (pe_fld (pv 0) rfl) (pv 5) (pe_tup (pa_cons (pv 1) (pa_cons (pv 2) (pa_cons (pv 3) pa_nil)))) rfl)
      (pss_cons (ps_dput (hu_of hr) (pe_fld (pv 0) rfl) (pv 5) (pv 4) rfl)
      (pss_cons (ps_expr (pe_bm PySem.F.plainAttrs_list PySem.F.slot_list_append PySem.F.type_list_append mt_append (pe_fld (pv 0) rfl) (pa_cons (pv 5) pa_nil)))
      (pss_cons (ps_expr (pe_bm PySem.F.plainAttrs_list PySem.F.slot_list_append PySem.F.type_list_append mt_append (pe_dsetd (pe_fld (pv 0) rfl) (pv 1) (pe_lst pa_nil) ⟨rfl, rfl, rfl, rfl⟩) (pa_cons (pv 2) pa_nil)))
      (pss_one (ps_expr (pe_bm PySem.F.plainAttrs_list PySem.F.slot_list_append PySem.F.type_list_append mt_append (pe_dsetd (pe_fld (pv 0) rfl) (pv 2) (pe_lst pa_nil) ⟨rfl, rfl, rfl, rfl⟩) (pa_cons (pv 1) pa_nil)))))))))), ?_⟩
    refine Go.here (go_setP (tk_key (ev_var rfl) (ev_var rfl)) fun v1 H1 e1 r1 => ?_)
    obtain ⟨m, rfl, hm⟩ := r1
    have hD1 := hD.mono e1
    obtain ⟨dx, ho⟩ := hD1.obj
    obtain ⟨kS, hS, lS, aS⟩ := hD1.st
    obtain ⟨kU, hU, lU, aU⟩ := hD1.us
    have vS := keysE_valV lS (fun i kv x y z => (aS i kv x y z).1)
    have vU := keysE_valV lU (fun i kv x y z => (aU i kv x y z).1)
    have hKn : KnAt H1 D.s (keysE es) := ⟨kS, hS, by rw [lS]; simp [keysE], vS⟩
    refine go_when (Evl.et_B (ev_dinT (k := e.key) hKn (Tk.imp (Tk.of (ev_var rfl)) fun v H2 e2 r => ?_) (ev_fS T (ev_var rfl) ho))) (fun hb => ?_) (fun hb => ?_)
    · obtain rfl := r
      exact ⟨m, rfl, e2 _ _ hm⟩
    · have hb := bP_iff.mp hb
      have ea : addE es q e = (es, q) := if_pos hb
      rw [ea] at k
      exact fun H2 e2 => k D H2 (DF.of (e1.trans e2)) (hD1.mono e2)
    · have hb : e.key ∉ keysE es := fun z => by rw [bP_true z] at hb; cases hb
      have ea : addE es q e = (es ++ [e], q ++ [e.key]) := if_neg hb
      rw [ea] at k
      intro H2 e2
      have e02 := e1.trans e2
      have hD2 := hD1.mono e2
      have hm2 := e2 _ _ hm
      have nd := hD.nd
      have nS : valV kS (kK e.key) = none := by
        cases hv : valV kS (kK e.key) with
        | none => rfl
        | some v => exact absurd ((vS e.key).mp (by rw [hv]; rfl)) hb
      have nU : valV kU (kK e.key) = none := by
        cases hv : valV kU (kK e.key) with
        | none => rfl
        | some v => exact absurd ((vU e.key).mp (by rw [hv]; rfl)) hb
      -- the addresses are unlike each other
      obtain ⟨n1, nd1⟩ := List.nodup_cons.mp nd
      obtain ⟨n2, nd2⟩ := List.nodup_cons.mp nd1
      obtain ⟨n3, nd3⟩ := List.nodup_cons.mp nd2
      obtain ⟨n4, nd4⟩ := List.nodup_cons.mp nd3
      have m1 : p ≠ D.s ∧ p ≠ D.u ∧ p ≠ D.qa ∧ p ∉ D.pa :: adr D.pl := ⟨fun z => n1 (by simp [z]), fun z => n1 (by simp [z]), fun z => n1 (by simp [z]), fun z => n1 (List.mem_cons_of_mem _ (List.mem_cons_of_mem _ (List.mem_cons_of_mem _ z)))⟩
      have m2 : D.s ≠ D.u ∧ D.s ≠ D.qa ∧ D.s ∉ D.pa :: adr D.pl := ⟨fun z => n2 (by simp [z]), fun z => n2 (by simp [z]), fun z => n2 (List.mem_cons_of_mem _ (List.mem_cons_of_mem _ z))⟩
      have m3 : D.u ≠ D.qa ∧ D.u ∉ D.pa :: adr D.pl := ⟨fun z => n3 (by simp [z]), fun z => n3 (List.mem_cons_of_mem _ z)⟩
      have iS : D.s ∈ D.ow p := by simp
      have iU : D.u ∈ D.ow p := by simp
      have iQ : D.qa ∈ D.ow p := by simp
      have iP : ∀ x ∈ D.pa :: adr D.pl, x ∈ D.ow p := fun x hx => List.mem_cons_of_mem _ (List.mem_cons_of_mem _ (List.mem_cons_of_mem _ (List.mem_cons_of_mem _ hx)))
      -- self.steps[pair] = (one, other, reason)
      refine q_seq (s_dputT (k := kK e.key) (kvs := kS) (d := D.s) (b := m) (e2 _ _ hS) (tk_tup (vs := [nV e.step.p, nV e.step.q, r]) (by walk_at "ev") (by simp)) (fun G g => ev_fS T (ev_var rfl) (g _ _ (e2 _ _ ho))) (fun G => ev_var rfl) hm2 (by omega) fun v H3 H4 e3 r3 e4 => ?_)
      obtain ⟨t, rfl, ht, ht3⟩ := r3
      have f4 : DF (D.ow p) (D.ow p) H2 (upd H4 D.s (.dT (putK kS (kK e.key) (.ref t)))) := DF.put (e3.trans e4) iS
      have kp4 : ∀ x o, x ≠ D.s → H2 x = some o → (upd H4 D.s (.dT (putK kS (kK e.key) (.ref t)))) x = some o := fun x o n h => by rw [upd_ne n]; exact (e3.trans e4) _ _ h
      have hS4 : (upd H4 D.s (.dT (putK kS (kK e.key) (.ref t)))) D.s = some (.dT (putK kS (kK e.key) (.ref t))) := upd_same
      have ht4 : (upd H4 D.s (.dT (putK kS (kK e.key) (.ref t)))) t = some (.tup [nV e.step.p, nV e.step.q, r]) := by
        rw [upd_ne (fun z => by have := (e3.trans e4) _ _ (e2 _ _ hS); rw [← z, e4 _ _ ht3] at this; cases this)]
        exact e4 _ _ ht3
      generalize upd H4 D.s (.dT (putK kS (kK e.key) (.ref t))) = G4 at f4 kp4 hS4 ht4
      have ho4 := kp4 _ _ m1.1 (e2 _ _ ho)
      have hU4 := kp4 _ _ (Ne.symm m2.1) (e2 _ _ hU)
      have hm4 : G4 m = some (.tup ((kK e.key).map kV)) := hD2.te f4 _ _ hm2
      -- self.uses[pair] = used
      refine q_seq (s_dputT (k := kK e.key) (kvs := kU) (d := D.u) (b := m) (R := fun v H' => v = u) hU4 (Tk.imp (Tk.of (ev_var rfl)) fun v H2 e2 r => r) (fun G g => ev_fU T (ev_var rfl) (g _ _ ho4)) (fun G => ev_var rfl) hm4 (by omega) fun v H5 H6 e5 r5 e6 => ?_)
      obtain rfl := r5
      have f6 : DF (D.ow p) (D.ow p) H2 (upd H6 D.u (.dT (putK kU (kK e.key) v))) := f4.trans (DF.put (e5.trans e6) iU)
      have kp6 : ∀ x o, x ≠ D.u → G4 x = some o → (upd H6 D.u (.dT (putK kU (kK e.key) v))) x = some o := fun x o n h => by rw [upd_ne n]; exact (e5.trans e6) _ _ h
      have hU6 : (upd H6 D.u (.dT (putK kU (kK e.key) v))) D.u = some (.dT (putK kU (kK e.key) v)) := upd_same
      generalize upd H6 D.u (.dT (putK kU (kK e.key) v)) = G6 at f6 kp6 hU6
      have ho6 := kp6 _ _ m1.2.1 ho4
      have hS6 := kp6 _ _ m2.1 hS4
      obtain ⟨vq, hq, hqp⟩ := hD2.qu
      have hq6 := kp6 _ _ (Ne.symm m3.1) (kp4 _ _ (Ne.symm m2.2.1) hq)
      have ht6 : G6 t = some (.tup [nV e.step.p, nV e.step.q, r]) := kp6 _ _ (fun z => by rw [← z, ht4] at hU4; cases hU4) ht4
      -- self.queue.append(pair)
      refine q_seq (s_app2 (K := K) (R := fun v H' => v = .ref m) hq6 (ev_fQ T (ev_var rfl) ho6) (Tk.of (ev_var rfl)) (by rw [hqp.1]; omega) fun w H7 e7 r7 => ?_)
      obtain rfl := r7
      have f8 : DF (D.ow p) (D.ow p) H2 (upd H7 D.qa (.lst (vq ++ [.ref m]))) := f6.trans (DF.put e7 iQ)
      have kp8 : ∀ x o, x ≠ D.qa → G6 x = some o → (upd H7 D.qa (.lst (vq ++ [.ref m]))) x = some o := fun x o n h => by rw [upd_ne n]; exact e7 _ _ h
      have hq8 : (upd H7 D.qa (.lst (vq ++ [.ref m]))) D.qa = some (.lst (vq ++ [.ref m])) := upd_same
      generalize upd H7 D.qa (.lst (vq ++ [.ref m])) = G8 at f8 kp8 hq8
      have ho8 := kp8 _ _ m1.2.2.1 ho6
      have hS8 := kp8 _ _ m2.2.1 hS6
      have hU8 := kp8 _ _ m3.1 hU6
      have ht8 : G8 t = some (.tup [nV e.step.p, nV e.step.q, r]) := kp8 _ _ (fun z => by rw [← z, ht6] at hq6; cases hq6) ht6
      have kp28 : ∀ x ∈ D.pa :: adr D.pl, ∀ o, H2 x = some o → G8 x = some o := fun x hx o h => kp8 _ _ (fun z => n4 (by rw [← z]; exact hx)) (kp6 _ _ (fun z => m3.2 (by rw [← z]; exact hx)) (kp4 _ _ (fun z => m2.2.2 (by rw [← z]; exact hx)) h))
      have hP8 := kp28 _ (by simp) _ hD2.pt
      have hL8 : ∀ x ∈ D.pl, G8 x.2.1 = some (.lst (nL x.2.2)) := fun x hx => kp28 _ (List.mem_cons_of_mem _ (List.mem_map.mpr ⟨x, hx, rfl⟩)) _ (hD2.ls x hx)
      have z1 := hD.s1
      have z2 := hD.s2
      -- the partners
      refine q_seq (s_part (K := K) hP8 hL8 nd4 hD.nk (by omega) (fun x hx => by have := z2 x hx; omega) (ev_fP T (ev_var rfl) ho8) (ev_var rfl) (fun G => ev_var rfl) fun pl1 G9 N1 => ?_)
      have out9 : ∀ x, x ∉ D.pa :: adr D.pl → (∃ o, G8 x = some o) → x ∉ D.pa :: adr pl1 := fun x hx ⟨o, ho⟩ z => by
        rcases N1.df.2 x z with y | y
        · exact hx y
        · rw [ho] at y; cases y
      have ho9 := N1.df.keep m1.2.2.2 ho8
      have z3 := N1.s1
      have z4 := N1.s2 _ z2
      refine s_part (K := K) N1.dk N1.ls N1.nd N1.nk (by omega) (fun x hx => by have := z4 x hx; omega) (ev_fP (D := D) T (ev_var rfl) ho9) (ev_var rfl) (fun G => ev_var rfl) fun pl2 G10 N2 => ?_
      have z5 := N2.s1
      have z6 := N2.s2 _ z4
      have ff : DF (D.pa :: adr D.pl) (D.pa :: adr pl2) G8 G10 := N1.df.trans N2.df
      have out10 : ∀ x, x ∉ D.pa :: adr D.pl → (∃ o, G8 x = some o) → x ∉ D.pa :: adr pl2 := fun x hx ⟨o, ho⟩ z => by
        rcases ff.2 x z with y | y
        · exact hx y
        · rw [ho] at y; cases y
      have f10 : DF (D.ow p) (DS.ow ⟨D.s, D.u, D.qa, D.pa, pl2⟩ p) H2 G10 := by
        refine f8.trans ⟨fun x o nx hx => ff.1 x o (fun z => nx (iP x z)) hx, fun x hx => ?_⟩
        rcases List.mem_cons.mp hx with z | hx
        · exact .inl (by rw [z]; simp)
        rcases List.mem_cons.mp hx with z | hx
        · exact .inl (by rw [z]; simp)
        rcases List.mem_cons.mp hx with z | hx
        · exact .inl (by rw [z]; simp)
        rcases List.mem_cons.mp hx with z | hx
        · exact .inl (by rw [z]; simp)
        rcases ff.2 x hx with y | y
        · exact .inl (iP x y)
        · exact .inr y
      have t2 : TEx H2 G10 := hD2.te f10
      have fH : DF (D.ow p) (DS.ow ⟨D.s, D.u, D.qa, D.pa, pl2⟩ p) H G10 := (DF.of e02).trans f10
      have tH : TEx H G10 := (te_of e02).trans t2
      refine k ⟨D.s, D.u, D.qa, D.pa, pl2⟩ G10 fH ?_
      have k10 : ∀ x o, x ∉ D.pa :: adr D.pl → G8 x = some o → G10 x = some o := fun x o hx h => ff.1 x o hx h
      refine ⟨⟨dx, k10 _ _ m1.2.2.2 ho8⟩, ⟨kS ++ [(kK e.key, .ref t)], ?_, by simp [lS], fun i kv e' x y => ?_⟩, ⟨kU ++ [(kK e.key, v)], ?_, by simp [lU], fun i kv e' x y => ?_⟩, ⟨vq ++ [.ref m], k10 _ _ n4 hq8, ?_⟩, N2.dk, N2.ls, ?_, N2.nk, sem_add hD.sem N1.sem N2.sem, ?_, ?_⟩
      · rw [← putK_new _ nS]
        exact k10 _ _ m2.2.2 hS8
      · rcases get_snoc x with ⟨i1, x1⟩ | ⟨i1, x1⟩
        · rcases get_snoc y with ⟨i2, y1⟩ | ⟨i2, y1⟩
          · exact ⟨(aS i kv e' x1 y1).1, (aS i kv e' x1 y1).2.te ((te_of e2).trans t2)⟩
          · omega
        · rcases get_snoc y with ⟨i2, y1⟩ | ⟨i2, y1⟩
          · omega
          · rw [x1, y1]
            exact ⟨rfl, t, r, rfl, k10 _ _ (fun z => by
              rcases List.mem_cons.mp z with z | z
              · rw [z, hP8] at ht8; cases ht8
              · obtain ⟨w, hw, hz⟩ := List.mem_map.mp z
                rw [← hz, hL8 w hw] at ht8; cases ht8) ht8, hr'.te tH⟩
      · rw [← putK_new _ nU]
        exact k10 _ _ m3.2 hU8
      · rcases get_snoc x with ⟨i1, x1⟩ | ⟨i1, x1⟩
        · rcases get_snoc y with ⟨i2, y1⟩ | ⟨i2, y1⟩
          · exact ⟨(aU i kv e' x1 y1).1, ((aU i kv e' x1 y1).2.mono e2).df t2 f10⟩
          · omega
        · rcases get_snoc y with ⟨i2, y1⟩ | ⟨i2, y1⟩
          · omega
          · rw [x1, y1]
            exact ⟨rfl, hu.df tH fH⟩
      · exact (hqp.te t2).snoc ⟨m, rfl, t2 _ _ hm2⟩
      · refine List.nodup_cons.mpr ⟨fun z => ?_, List.nodup_cons.mpr ⟨fun z => ?_, List.nodup_cons.mpr ⟨fun z => ?_, List.nodup_cons.mpr ⟨out10 _ n4 ⟨_, hq8⟩, N2.nd⟩⟩⟩⟩
        · rcases List.mem_cons.mp z with z | z
          · exact m1.1 z
          rcases List.mem_cons.mp z with z | z
          · exact m1.2.1 z
          rcases List.mem_cons.mp z with z | z
          · exact m1.2.2.1 z
          · exact out10 _ m1.2.2.2 ⟨_, ho8⟩ z
        · rcases List.mem_cons.mp z with z | z
          · exact m2.1 z
          rcases List.mem_cons.mp z with z | z
          · exact m2.2.1 z
          · exact out10 _ m2.2.2 ⟨_, hS8⟩ z
        · rcases List.mem_cons.mp z with z | z
          · exact m3.1 z
          · exact out10 _ m3.2 ⟨_, hU8⟩ z
      · rw [List.length_append, List.length_singleton]
        show pl2.length ≤ _
        omega
      · intro x hx
        have := z6 x hx
        rw [List.length_append, List.length_singleton]
        omega
end
end Hfb
namespace Hfb
open PySem PySem.Spec PyProof.Rows L2
open Evl (Ex Ev EvT EvA EvL EvU ev_op ev_var ev_c ev_call ea_cons ea_nil)
section
variable {P : Program} {w : World} {K : PySem.W.Frag} {mg : Str → Option Value} {base : Heap} {H : Hp}
local macro_rules | `(tactic| walk_at "spv") => `(tactic| first | exact v_isInt | exact v_isIntD | exact v_twoPos | exact v_isSeq (.t (by assumption)) | exact v_isSeq (.l (by assumption)) | exact v_isDist (by assumption) (by omega))
local macro_rules | `(tactic| walk_at "rv") => `(tactic| first
  | with_reducible exact Evl.rv_I0
  | ((with_reducible refine Evl.rv_eq ?_); rfl)
  | ((with_reducible refine Evl.rv_ne ?_); rfl)
  | ((with_reducible apply Evl.rv_ixT); (first | assumption | exact Evl.st_of (by assumption)); (first | rfl | assumption))
  | ((with_reducible apply Evl.rv_ixL); (first | assumption | exact Evl.sq_of (by assumption)); (first | rfl | assumption))
  | exact isi_int
  | exact isi_bool
  | exact isi_str
  | exact rc_max
  | exact rc_min
  | (apply rc_lenL; first | assumption | exact Evl.sq_of (by assumption))
  | (apply rc_lenT; first | assumption | exact Evl.st_of (by assumption))
  | walk_at "fld"
  | walk_at "spv")
local macro_rules | `(tactic| walk_at "ev") => `(tactic| first
  | ((with_reducible apply Evl.ev_var); rfl)
  | with_reducible exact Evl.ev_c
  | with_reducible exact Evl.ea_nil
  | ((with_reducible apply Evl.ea_cons) <;> walk_at "ev")
  | ((with_reducible apply Evl.ev_op) <;> walk_at "ev")
  | ((with_reducible apply ev_chain) <;> walk_at "ev")
  | ((with_reducible apply Evl.ev_cb) <;> walk_at "ev")
  | ((with_reducible apply Evl.ev_call) <;> walk_at "ev")
  | ((with_reducible apply Evl.ev_notV) <;> walk_at "ev")
  | ((with_reducible apply ev_andU) <;> walk_at "ev")
  | ((with_reducible apply ev_orU) <;> walk_at "ev")
  | ((with_reducible apply Evl.et_B) <;> walk_at "ev")
  | ((with_reducible apply Evl.et_test) <;> walk_at "ev")
  | ((with_reducible apply Evl.et_not) <;> walk_at "ev")
  | ((with_reducible apply et_andU) <;> walk_at "ev")
  | ((with_reducible apply et_orU) <;> walk_at "ev")
  | walk_at "rv")
/-! ### Derivation.extend -/
theorem add_ok {n : Nat} {fs : List Fact} {es new : List Ent} {q : List Pr} {e : Ent} (ok : EntsOk n fs (es ++ new)) (v : VOk n fs (· ∈ e.used) e.step) (hu : ∀ u ∈ e.used, u ∈ keysE (es ++ new)) :
    ∃ new', addE (es ++ new) (q ++ keysE new) e = (es ++ new', q ++ keysE new') ∧ EntsOk n fs (es ++ new') ∧ e.key ∈ keysE (es ++ new') ∧ ∀ k ∈ keysE (es ++ new), k ∈ keysE (es ++ new') := by
  by_cases h : e.key ∈ keysE (es ++ new)
  · exact ⟨new, if_pos h, ok, h, fun k hk => hk⟩
  · refine ⟨new ++ [e], ?_, ?_, ?_, fun k hk => ?_⟩
    · unfold addE
      rw [if_neg h, keysE_append, List.append_assoc, List.append_assoc]
      rfl
    · rw [← List.append_assoc]
      exact .snoc ok v hu h
    · rw [← List.append_assoc, keysE_append]
      exact List.mem_append.mpr (.inr (by simp [keysE]))
    · rw [← List.append_assoc, keysE_append]
      exact List.mem_append.mpr (.inl hk)
theorem DerAt.own {p : Addr} {D : DS} {es : List Ent} {q : List Pr} (h : DerAt K H p D es q) {x : Addr} (hx : x ∈ D.ow p) : ∃ o, H x = some o := by
  obtain ⟨⟨dx, h1⟩, ⟨kS, a1, _⟩, ⟨kU, b1, _⟩, ⟨vs, c1, _⟩, h5, h6, _⟩ := h
  rcases List.mem_cons.mp hx with z | hx
  · exact ⟨_, by rw [z]; exact h1⟩
  rcases List.mem_cons.mp hx with z | hx
  · exact ⟨_, by rw [z]; exact a1⟩
  rcases List.mem_cons.mp hx with z | hx
  · exact ⟨_, by rw [z]; exact b1⟩
  rcases List.mem_cons.mp hx with z | hx
  · exact ⟨_, by rw [z]; exact c1⟩
  rcases List.mem_cons.mp hx with z | hx
  · exact ⟨_, by rw [z]; exact h5⟩
  · obtain ⟨w, hw, hz⟩ := List.mem_map.mp hx
    exact ⟨_, by rw [← hz]; exact h6 w hw⟩
def NewU (H : Hp) (us : List Pr) (v : V) (H' : Hp) : Prop := ∃ a vs, v = .ref a ∧ H a = none ∧ H' a = some (.lst vs) ∧ PairsAt H' vs us
theorem noF {D : DS} {m : Str} (h : (dF D).lookup m = none) : (dF D).lookup m = none := h
section
variable {σ : L2.St} {ta t1 t2 t3 t4 : TE} {p : Addr} {D : DS} {es : List Ent} {q : List Pr}
theorem me_callA {C dx : Addr} {fs : List (Str × V)} {m : Str} {sp : Sp} {t : TA} {E : XK} {Q : VK} {R : List V → Hp → Prop} (h : Ev ta σ H (.ref p)) (ho : H p = some (.ins C dx fs)) (hm : fs.lookup m = none) (ha : TkA t σ H R) (k : ∀ vs H1, Ex H H1 → R vs H1 → sp (.ref p :: (vs ++ [])) H1 Q E) :
    tMeth C m sp [] E ta t σ H Q := h H (Ex.refl H) _ fun H1 e1 => ⟨p, dx, fs, rfl, e1 _ _ ho, hm, ha H1 e1 _ fun vs H2 e2 r => k vs H2 (e1.trans e2) r⟩
theorem lk_add (D : DS) : (dF D).lookup ("add" : Str) = none := by kernel_rfl
theorem lk_extend (D : DS) : (dF D).lookup ("extend" : Str) = none := by kernel_rfl
theorem lk_stepsFor (D : DS) : (dF D).lookup ("steps_for" : Str) = none := by kernel_rfl
theorem s_add {Dd : Ends} {a b : Nat} {rs : Reason} {us : List Pr} (hD : DerAt K H p D es q) (hz : es.length ≤ 10000) (hq : q.length ≤ 20000) (h0 : Ev ta σ H (.ref p)) (h1 : Ev t1 σ H (nV a)) (h2 : Ev t2 σ H (nV b)) (h3 : Tk t3 σ H (fun v H' => RsAt H' v rs)) (h4 : Tk t4 σ H (NewU H us))
    (k : ∀ D' H', DF (D.ow p) (D'.ow p) H H' → DerAt K H' p D' (addE es q ⟨⟨a, b, rs⟩, us⟩).1 (addE es q ⟨⟨a, b, rs⟩, us⟩).2 → Dd.nx σ H') :
    tDrop (tMeth (CD K) "add" (sp_add K) [] E0 ta (tCons t1 (tCons t2 (tCons t3 (tCons t4 tNil))))) Dd σ H := by
  obtain ⟨dx, ho⟩ := hD.obj
  refine me_callA (R := fun vs H' => ∃ r u, vs = [nV a, nV b, r, u] ∧ RsAt H' r rs ∧ UsedAt H' (D.ow p) u us) h0 ho (lk_add D) (fun H1 e1 Q qq => ?_) fun vs H1 e1 r => ?_
  · refine h1 H1 e1 _ fun H2 e2 => h2 H2 (e1.trans e2) _ fun H3 e3 => h3 H3 ((e1.trans e2).trans e3) _ fun r H4 e4 r4 => h4 H4 (((e1.trans e2).trans e3).trans e4) _ fun u H5 e5 r5 => ?_
    obtain ⟨c, vs, rfl, hc, h6, h7⟩ := r5
    exact qq _ H5 (((e2.trans e3).trans e4).trans e5) ⟨r, .ref c, rfl, r4.te (te_of e5), c, vs, rfl, (fun z => by
      obtain ⟨o, ho⟩ := hD.own z
      rw [hc] at ho
      cases ho), h6, h7⟩
  · obtain ⟨r, u, rfl, hr, hu⟩ := r
    exact ⟨p, D, es, q, ⟨⟨a, b, rs⟩, us⟩, r, u, rfl, hD.mono e1, hz, hq, hr, hu, fun D' H' f d => k D' H' ((DF.of e1).trans f) d⟩
theorem ev_dgetK {td ty : TE} {d : Addr} {kvs : List (Key × V)} {i : Int} {v : V} (hd : H d = some (.dK kvs)) (hv : valV kvs (Sum.inl i) = some v) (h1 : Ev td σ H (.ref d)) (h2 : Ev ty σ H (.int i)) : Ev (tDGet td ty) σ H v := fun H1 e Q qq =>
  h1 H1 e _ fun H2 e2 => h2 H2 (e.trans e2) _ fun H3 e3 => ⟨d, v, rfl, hv ▸ DGet.k (k := Sum.inl i) (e3 _ _ (e2 _ _ (e _ _ hd))), qq H3 (e2.trans e3)⟩
end
theorem plV_get {a : Nat} {z : Nat × Addr × List Nat} : ∀ {pl : List (Nat × Addr × List Nat)}, (pl.map (·.1)).Nodup → z ∈ pl → z.1 = a → valV (plV pl) (Sum.inl (a : Int)) = some (.ref z.2.1)
  | [], _, h, _ => by cases h
  | x :: r, nk, h, e => by
    rw [List.map_cons, List.nodup_cons] at nk
    show valV ((Sum.inl (x.1 : Int), V.ref x.2.1) :: plV r) _ = _
    rcases List.mem_cons.mp h with h1 | h1
    · rw [valV_pos (by rw [← h1, e]), h1]
    · rw [valV_neg (fun y => nk.1 (List.mem_map.mpr ⟨z, h1, by have y := Sum.inl.inj y; omega⟩))]
      exact plV_get (pl := r) nk.2 h1 e
def sp_extend (K : PySem.W.Frag) : Sp := fun vs H Q _ => ∃ (p : Addr) (D : DS) (es : List Ent) (q : List Pr) (n : Nat) (fs : List Fact) (a m : Nat), vs = [.ref p, nV a, nV m] ∧ DerAt K H p D es q ∧ n ≤ 60 ∧ EntsOk n fs es ∧ q.length ≤ es.length ∧ keyP a m ∈ keysE es ∧
  ∀ D' H' new, DF (D.ow p) (D'.ow p) H H' → DerAt K H' p D' (es ++ new) (q ++ keysE new) → EntsOk n fs (es ++ new) → (∀ c, c ≠ a → keyP m c ∈ keysE es → keyP a c ∈ keysE (es ++ new)) → Q .non H'
theorem ents_small {n : Nat} {fs : List Fact} {es : List Ent} (ok : EntsOk n fs es) (hn : n ≤ 60) : es.length ≤ 3600 := Nat.le_trans ok.len (Nat.mul_le_mul hn hn)
theorem mt_extend (T : Tx K mg) (c_pair_key : Cl P w K mg base 1 "pair_key" sp_pairKey) (c_add : Mt P w K mg base 2 (CD K) "add" (sp_add K)) (A : AtM K (CD K) "extend" "Derivation.extend" s_Derivation_extend) : Mt P w K mg base 3 (CD K) "extend" (sp_extend K) := by
  refine mt_of A T.cD sc_Derivation_extend (fun _ _ _ _ _ _ us hl => match us, hl with | [_, _, _], _ => rfl) (fun vs H Q E h => ?_) (fun f cdv A outer s H vs Q E hr h => ?_)
  · obtain ⟨p, D, es, q, n, fs, a, m, rfl, _⟩ := h
    rfl
  · obtain ⟨p, D, es, q, n, fs, a, m, rfl, hD, hn, ok, hq, hk, k⟩ := h
    refine ⟨_, (pss_one (ps_for PassesOwn.never rfl (pi_list (pe_callTy call_list_of rfl T.b_list (by decide +kernel) (pa_cons (pe_dget (hu_of hr) (pe_fld (pv 0) rfl) (pv 2) (fun _ _ => rfl)) pa_nil))) (pg_name (i := 3) sc_Derivation_extend.nd rfl (Or.inl rfl))
          (pss_one (ps_if (pt_cmpR op_ne (pv 3) (pv 1) (nomark _)) (pss_one (ps_expr (pmt c_add (hr.mono (by decide)) (pv 0) (pa_cons (pv 1) (pa_cons (pv 3) (pa_cons (pe_tup (pa_cons (pk T.CHAIN) (pa_cons (pv 2) pa_nil))) (pa_cons (pe_lst (pa_cons (pcl c_pair_key (hr.mono (by decide)) rfl (pa_cons (pv 1) (pa_cons (pv 2) pa_nil))) (pa_cons (pcl c_pair_key (hr.mono (by decide)) rfl (pa_cons (pv 2) (pa_cons (pv 3) pa_nil))) pa_nil))) pa_nil))))))) pss_nil)))), ?_⟩
    obtain ⟨dx, ho⟩ := hD.obj
    obtain ⟨z, hz, ez, _⟩ := (hD.sem m a).mp (by rw [keyP_symm]; exact hk)
    have hv := plV_get hD.nk hz ez
    have hl := hD.ls z hz
    have lz := hD.s2 z hz
    have l0 := ents_small ok hn
    obtain ⟨am, la, lm⟩ := (ok.der a m hk).2
    refine s_forK (K := K) (R := fun v H' => ∃ c, v = .ref c ∧ H c = none ∧ H' c = some (.lst (nL z.2.2))) (tk_list (ev_dgetK hD.pt hv (ev_fP T (ev_var rfl) ho) (ev_var rfl)) (Evl.sq_of hl)) fun v H1 e1 r1 => ?_
    obtain ⟨c, rfl, hc, hc1⟩ := r1
    have nc : c ∉ D.ow p := fun z => by
      obtain ⟨o, ho⟩ := hD.own z
      rw [hc] at ho
      cases ho
    refine ⟨c, nL z.2.2, fun i σ' H' => ∃ y3 D' new, σ' = [some (.ref p), some (nV a), some (nV m), y3] ∧ DF (D.ow p) (D'.ow p) H1 H' ∧ DerAt K H' p D' (es ++ new) (q ++ keysE new) ∧ EntsOk n fs (es ++ new) ∧ (∀ k ∈ keysE es, k ∈ keysE (es ++ new)) ∧
      ∀ j x, j < i → z.2.2[j]? = some x → x ≠ a → keyP a x ∈ keysE (es ++ new), rfl, Evl.sq_of hc1, ?_, fun i σ' H' _ hPv => ?_, fun i x σ' H' hi hPv => ?_, fun σ' H' hPv => ?_⟩
    · have hD1 := hD.mono e1
      rw [← List.append_nil es, ← List.append_nil q] at hD1
      rw [← List.append_nil es] at ok
      exact ⟨none, D, [], rfl, DF.of (Ex.refl _), hD1, ok, fun k hk => by rw [List.append_nil]; exact hk, fun j x hj => by omega⟩
    · obtain ⟨_, _, _, _, ff, _⟩ := hPv
      exact Evl.sq_of (ff.keep nc hc1)
    · obtain ⟨y3, D', new, rfl, ff, hD', ok', up, done⟩ := hPv
      obtain ⟨x, hx, rfl⟩ := nL_get_of hi
      have lnew := ents_small ok' hn
      rw [List.length_append] at lnew
      have lk : (keysE new).length = new.length := by unfold keysE; rw [List.length_map]
      -- the pair that led here
      have kx : keyP m x ∈ keysE es := (hD.sem m x).mpr ⟨z, hz, ez, List.mem_of_getElem? hx⟩
      obtain ⟨dx', ho'⟩ := hD'.obj
      refine Evl.s_if (b := !decide (nV x = nV a)) (by walk_at "ev") (fun hb H2 e2 => ?_) (fun hb H2 e2 => ?_)
      · have hb : x ≠ a := fun q => by rw [q] at hb; simp at hb
        have hD2 := hD'.mono e2
        have dm := (ok.der m x kx).2
        obtain ⟨new', h1, h2, h3, h4⟩ := add_ok (q := q) (e := ⟨⟨a, x, .chain m⟩, [keyP a m, keyP m x]⟩) ok' ⟨la, dm.2.2, Ne.symm hb, lm, by simp, by simp⟩ (fun u hu => by
          rcases List.mem_cons.mp hu with h | h
          · rw [h]; exact up _ hk
          · rw [List.mem_singleton.mp h]; exact up _ kx)
        refine s_add (K := K) (rs := .chain m) (us := [keyP a m, keyP m x]) hD2 (by rw [List.length_append]; omega) (by rw [List.length_append]; omega) (ev_var rfl) (ev_var rfl) (ev_var rfl) (Tk.imp (tk_tup (vs := [.str "chain", nV m]) (by walk_at "ev") (by simp)) fun v H3 e3 r => ?_) (Tk.imp (tk_lstA (tka_cons (tk_key (a := a) (b := m) (ev_var rfl) (ev_var rfl)) (tka_cons (tk_key (a := m) (b := x) (ev_var rfl) (ev_var rfl)) tka_nil)) (fun vs H3 r => by obtain ⟨_, _, _, rfl, _, _, _, _, _, _, rfl, _, _, _, rfl⟩ := r; simp)) fun v H3 e3 r => ?_) fun D3 H3 f3 d3 => ?_
        · obtain ⟨t, rfl, _, ht⟩ := r
          exact ⟨t, rfl, ht⟩
        · obtain ⟨t, vs3, G, rfl, ht, ht3, g1, g2, u1, us1, G1, rfl, _, g3, r1, u2, us2, G2, rfl, _, g4, r2, rfl⟩ := r
          exact ⟨t, _, rfl, ht, ht3, ((PairsAt.snoc (vs := []) (ps := []) PairsAt.nil ((PairAt.te (te_of g3) r1).te (te_of g2))).snoc ((PairAt.te (te_of g4) r2).te (te_of g2)))⟩
        · rw [h1] at d3
          refine ⟨_, D3, new', rfl, (ff.trans (DF.of e2)).trans f3, d3, h2, fun k hk => h4 k (up k hk), fun j y hj hy hya => ?_⟩
          by_cases e : j = i
          · subst e
            rw [hx] at hy
            cases hy
            exact h3
          · exact h4 _ (done j y (by omega) hy hya)
      · have hb : x = a := by simp at hb; omega
        refine ⟨_, D', new, rfl, ff.trans (DF.of e2), hD'.mono e2, ok', up, fun j y hj hy hya => ?_⟩
        by_cases e : j = i
        · subst e
          rw [hx] at hy
          cases hy
          exact absurd hb hya
        · exact done j y (by omega) hy hya
    · obtain ⟨y3, D', new, rfl, ff, hD', ok', up, done⟩ := hPv
      refine k D' H' new ((DF.of e1).trans ff) hD' ok' fun x hx hk' => ?_
      obtain ⟨w, hw, ew, hm⟩ := (hD.sem m x).mp hk'
      have : w = z := nodup_inj hD.nk hw hz (ew.trans ez.symm)
      subst this
      obtain ⟨j, hj, hjx⟩ := List.getElem_of_mem hm
      exact done j x (by rw [List.length_map]; exact hj) (by rw [List.getElem?_eq_getElem hj, hjx]) hx
end
end Hfb
namespace Hfb
open PySem PySem.Spec PyProof.Rows L2
open Evl (Ex Ev EvT EvA EvL EvU ev_op ev_var ev_c ev_call ea_cons ea_nil)
section
variable {P : Program} {w : World} {K : PySem.W.Frag} {mg : Str → Option Value} {base : Heap} {H : Hp}
local macro_rules | `(tactic| walk_at "spv") => `(tactic| first | exact v_isInt | exact v_isIntD | exact v_twoPos | exact v_isSeq (.t (by assumption)) | exact v_isSeq (.l (by assumption)) | exact v_isDist (by assumption) (by omega))
local macro_rules | `(tactic| walk_at "rv") => `(tactic| first
  | with_reducible exact Evl.rv_I0
  | ((with_reducible refine Evl.rv_eq ?_); rfl)
  | ((with_reducible refine Evl.rv_ne ?_); rfl)
  | ((with_reducible apply Evl.rv_ixT); (first | assumption | exact Evl.st_of (by assumption)); (first | rfl | assumption))
  | ((with_reducible apply Evl.rv_ixL); (first | assumption | exact Evl.sq_of (by assumption)); (first | rfl | assumption))
  | exact isi_int
  | exact isi_bool
  | exact isi_str
  | exact rc_max
  | exact rc_min
  | (apply rc_lenL; first | assumption | exact Evl.sq_of (by assumption))
  | (apply rc_lenT; first | assumption | exact Evl.st_of (by assumption))
  | walk_at "fld"
  | walk_at "spv")
local macro_rules | `(tactic| walk_at "ev") => `(tactic| first
  | ((with_reducible apply Evl.ev_var); rfl)
  | with_reducible exact Evl.ev_c
  | with_reducible exact Evl.ea_nil
  | ((with_reducible apply Evl.ea_cons) <;> walk_at "ev")
  | ((with_reducible apply Evl.ev_op) <;> walk_at "ev")
  | ((with_reducible apply ev_chain) <;> walk_at "ev")
  | ((with_reducible apply Evl.ev_cb) <;> walk_at "ev")
  | ((with_reducible apply Evl.ev_call) <;> walk_at "ev")
  | ((with_reducible apply Evl.ev_notV) <;> walk_at "ev")
  | ((with_reducible apply ev_andU) <;> walk_at "ev")
  | ((with_reducible apply ev_orU) <;> walk_at "ev")
  | ((with_reducible apply Evl.et_B) <;> walk_at "ev")
  | ((with_reducible apply Evl.et_test) <;> walk_at "ev")
  | ((with_reducible apply Evl.et_not) <;> walk_at "ev")
  | ((with_reducible apply et_andU) <;> walk_at "ev")
  | ((with_reducible apply et_orU) <;> walk_at "ev")
  | walk_at "rv")
/-! ### Derivation.__init__ -/
theorem q_fldP {σ : L2.St} {ta tv : TE} {tz : TS} {Dd : Ends} {p dx C : Addr} {fs : List (Str × V)} {f : Str} {R : V → Hp → Prop} (c : Cls K C) (n : NoAttr K C f) (hl : fs.length < 1000) (hv : Tk tv σ H R) (h : ∀ G : Hp, Ev ta σ G (.ref p)) (hp : H p = some (.ins C dx fs))
    (k : ∀ v H1 H2, Ex H H1 → R v H1 → Ex H1 H2 → tz Dd σ (upd H2 p (.ins C dx (putF f v fs)))) : tSeq (sFld K ta tv f) tz Dd σ H :=
  hv H (Ex.refl H) _ fun v H1 e1 r => h H1 H1 (Ex.refl _) _ fun H2 e2 => ⟨p, C, dx, fs, rfl, (e1.trans e2) _ _ hp, c, n, hl, k v H1 H2 e1 r e2⟩
theorem tk_dnewK' {σ : L2.St} : Tk tDNewK σ H (fun v H2 => ∃ p, v = .ref p ∧ H p = none ∧ H2 p = some (.dK [])) := fun H1 e Q q p hp => q _ _ (Ex.new hp) ⟨p, rfl, Evl.fresh_back e hp, upd_same⟩
theorem der_start {σ : L2.St} {tz : TS} {Dd : Ends} {p dx : Addr} {ta : TE} (T : Tx K mg) (hp : H p = some (.ins (CD K) dx [])) (h : ∀ G : Hp, Ev ta σ G (.ref p)) (k : ∀ D H', DF [p] (D.ow p) H H' → DerAt K H' p D [] [] → tz Dd σ H') :
    tSeq (sFld K ta tDNewT "steps") (tSeq (sFld K ta tDNewT "uses") (tSeq (sFld K ta (tLst tNil) "queue") (tSeq (sFld K ta tDNewK "partners") tz))) Dd σ H := by
  refine q_fldP T.cD T.n1 (by simp) tk_dnewT h hp fun v1 H1 H2 e1 r1 e2 => ?_
  obtain ⟨s, rfl, hs, hs1⟩ := r1
  have ns : s ≠ p := fun z => by rw [z, hp] at hs; cases hs
  have kp : ∀ x o, x ≠ p → H x = some o → (upd H2 p (.ins (CD K) dx (putF "steps" (.ref s) []))) x = some o := fun x o nx h => by rw [upd_ne nx]; exact (e1.trans e2) _ _ h
  have p2 : (upd H2 p (.ins (CD K) dx (putF "steps" (.ref s) []))) p = some (.ins (CD K) dx (putF "steps" (.ref s) [])) := upd_same
  have s2 : (upd H2 p (.ins (CD K) dx (putF "steps" (.ref s) []))) s = some (.dT []) := by rw [upd_ne ns]; exact e2 _ _ hs1
  generalize upd H2 p (.ins (CD K) dx (putF "steps" (.ref s) [])) = G2 at kp p2 s2
  refine q_fldP T.cD T.n2 (by show 1 < 1000; decide) tk_dnewT h p2 fun v3 H3 H4 e3 r3 e4 => ?_
  obtain ⟨u, rfl, hu, hu3⟩ := r3
  have nu : u ≠ p := fun z => by rw [z, p2] at hu; cases hu
  have nus : u ≠ s := fun z => by rw [z, s2] at hu; cases hu
  have kp4 : ∀ x o, x ≠ p → H x = some o → (upd H4 p (.ins (CD K) dx (putF "uses" (.ref u) (putF "steps" (.ref s) [])))) x = some o := fun x o nx h => by rw [upd_ne nx]; exact (e3.trans e4) _ _ (kp x o nx h)
  have p4 : (upd H4 p (.ins (CD K) dx (putF "uses" (.ref u) (putF "steps" (.ref s) [])))) p = some (.ins (CD K) dx (putF "uses" (.ref u) (putF "steps" (.ref s) []))) := upd_same
  have s4 : (upd H4 p (.ins (CD K) dx (putF "uses" (.ref u) (putF "steps" (.ref s) [])))) s = some (.dT []) := by rw [upd_ne ns]; exact (e3.trans e4) _ _ s2
  have u4 : (upd H4 p (.ins (CD K) dx (putF "uses" (.ref u) (putF "steps" (.ref s) [])))) u = some (.dT []) := by rw [upd_ne nu]; exact e4 _ _ hu3
  generalize upd H4 p (.ins (CD K) dx (putF "uses" (.ref u) (putF "steps" (.ref s) []))) = G4 at kp4 p4 s4 u4
  refine q_fldP T.cD T.n3 (by show 2 < 1000; decide) (tk_lst ea_nil (by simp)) h p4 fun v5 H5 H6 e5 r5 e6 => ?_
  obtain ⟨qa, rfl, hq, hq5⟩ := r5
  have nq : qa ≠ p := fun z => by rw [z, p4] at hq; cases hq
  have nqs : qa ≠ s := fun z => by rw [z, s4] at hq; cases hq
  have nqu : qa ≠ u := fun z => by rw [z, u4] at hq; cases hq
  have kp6 : ∀ x o, x ≠ p → H x = some o → (upd H6 p (.ins (CD K) dx (putF "queue" (.ref qa) (putF "uses" (.ref u) (putF "steps" (.ref s) []))))) x = some o := fun x o nx h => by rw [upd_ne nx]; exact (e5.trans e6) _ _ (kp4 x o nx h)
  have p6 : (upd H6 p (.ins (CD K) dx (putF "queue" (.ref qa) (putF "uses" (.ref u) (putF "steps" (.ref s) []))))) p = some (.ins (CD K) dx (putF "queue" (.ref qa) (putF "uses" (.ref u) (putF "steps" (.ref s) [])))) := upd_same
  have s6 : (upd H6 p (.ins (CD K) dx (putF "queue" (.ref qa) (putF "uses" (.ref u) (putF "steps" (.ref s) []))))) s = some (.dT []) := by rw [upd_ne ns]; exact (e5.trans e6) _ _ s4
  have u6 : (upd H6 p (.ins (CD K) dx (putF "queue" (.ref qa) (putF "uses" (.ref u) (putF "steps" (.ref s) []))))) u = some (.dT []) := by rw [upd_ne nu]; exact (e5.trans e6) _ _ u4
  have q6 : (upd H6 p (.ins (CD K) dx (putF "queue" (.ref qa) (putF "uses" (.ref u) (putF "steps" (.ref s) []))))) qa = some (.lst []) := by rw [upd_ne nq]; exact e6 _ _ hq5
  generalize upd H6 p (.ins (CD K) dx (putF "queue" (.ref qa) (putF "uses" (.ref u) (putF "steps" (.ref s) [])))) = G6 at kp6 p6 s6 u6 q6
  refine q_fldP T.cD T.n4 (by show 3 < 1000; decide) tk_dnewK' h p6 fun v7 H7 H8 e7 r7 e8 => ?_
  obtain ⟨pa, rfl, ha, ha7⟩ := r7
  have na : pa ≠ p := fun z => by rw [z, p6] at ha; cases ha
  have nas : pa ≠ s := fun z => by rw [z, s6] at ha; cases ha
  have nau : pa ≠ u := fun z => by rw [z, u6] at ha; cases ha
  have naq : pa ≠ qa := fun z => by rw [z, q6] at ha; cases ha
  have e78 := e7.trans e8
  have back : ∀ x, x ≠ p → G6 x = none → H x = none := fun x nx hx => by
    cases hh : H x with
    | none => rfl
    | some o => rw [kp6 x o nx hh] at hx; cases hx
  have back4 : ∀ x, x ≠ p → G4 x = none → H x = none := fun x nx hx => by
    cases hh : H x with
    | none => rfl
    | some o => rw [kp4 x o nx hh] at hx; cases hx
  have back2 : ∀ x, x ≠ p → G2 x = none → H x = none := fun x nx hx => by
    cases hh : H x with
    | none => rfl
    | some o => rw [kp x o nx hh] at hx; cases hx
  have eF : putF "partners" (.ref pa) (putF "queue" (.ref qa) (putF "uses" (.ref u) (putF "steps" (.ref s) []))) = dF ⟨s, u, qa, pa, []⟩ := by kernel_rfl
  rw [eF]
  refine k ⟨s, u, qa, pa, []⟩ _ ⟨fun x o nx hx => ?_, fun x hx => ?_⟩ ⟨⟨dx, upd_same⟩, ⟨[], by rw [upd_ne ns]; exact e78 _ _ s6, rfl, fun i kv e x => by simp at x⟩, ⟨[], by rw [upd_ne nu]; exact e78 _ _ u6, rfl, fun i kv e x => by simp at x⟩, ⟨[], by rw [upd_ne nq]; exact e78 _ _ q6, PairsAt.nil⟩, by rw [upd_ne na]; exact e8 _ _ ha7, fun x hx => (by cases hx), ?_, List.nodup_nil, fun a b => (by simp [keysE]), Nat.le_refl _, fun x hx => (by cases hx)⟩
  · have nx : x ≠ p := fun z => nx (by rw [z]; simp)
    rw [upd_ne nx]
    exact e78 _ _ (kp6 x o nx hx)
  · simp [DS.ow, adr] at hx
    rcases hx with z | z | z | z | z
    · exact .inl (by rw [z]; simp)
    · rw [z]; exact .inr hs
    · rw [z]; exact .inr (back2 u nu hu)
    · rw [z]; exact .inr (back4 qa nq hq)
    · rw [z]; exact .inr (back pa na ha)
  · simp [DS.ow, adr, ns, nu, nq, na, nus, nqs, nqu, nas, nau, naq, Ne.symm ns, Ne.symm nu, Ne.symm nq, Ne.symm na, Ne.symm nus, Ne.symm nqs, Ne.symm nqu, Ne.symm nas, Ne.symm nau, Ne.symm naq]
end
end Hfb
namespace Hfb
open PySem PySem.Spec PyProof.Rows L2
open Evl (Ex Ev EvT EvA EvL EvU ev_op ev_var ev_c ev_call ea_cons ea_nil)
section
variable {P : Program} {w : World} {K : PySem.W.Frag} {mg : Str → Option Value} {base : Heap} {H : Hp}
local macro_rules | `(tactic| walk_at "spv") => `(tactic| first | exact v_isInt | exact v_isIntD | exact v_twoPos | exact v_isSeq (.t (by assumption)) | exact v_isSeq (.l (by assumption)) | exact v_isDist (by assumption) (by omega))
local macro_rules | `(tactic| walk_at "rv") => `(tactic| first
  | with_reducible exact Evl.rv_I0
  | ((with_reducible refine Evl.rv_eq ?_); rfl)
  | ((with_reducible refine Evl.rv_ne ?_); rfl)
  | ((with_reducible apply Evl.rv_ixT); (first | assumption | exact Evl.st_of (by assumption)); (first | rfl | assumption))
  | ((with_reducible apply Evl.rv_ixL); (first | assumption | exact Evl.sq_of (by assumption)); (first | rfl | assumption))
  | exact isi_int
  | exact isi_bool
  | exact isi_str
  | exact rc_max
  | exact rc_min
  | (apply rc_lenL; first | assumption | exact Evl.sq_of (by assumption))
  | (apply rc_lenT; first | assumption | exact Evl.st_of (by assumption))
  | walk_at "fld"
  | walk_at "spv")
local macro_rules | `(tactic| walk_at "ev") => `(tactic| first
  | ((with_reducible apply Evl.ev_var); rfl)
  | with_reducible exact Evl.ev_c
  | with_reducible exact Evl.ea_nil
  | ((with_reducible apply Evl.ea_cons) <;> walk_at "ev")
  | ((with_reducible apply Evl.ev_op) <;> walk_at "ev")
  | ((with_reducible apply ev_chain) <;> walk_at "ev")
  | ((with_reducible apply Evl.ev_cb) <;> walk_at "ev")
  | ((with_reducible apply Evl.ev_call) <;> walk_at "ev")
  | ((with_reducible apply Evl.ev_notV) <;> walk_at "ev")
  | ((with_reducible apply ev_andU) <;> walk_at "ev")
  | ((with_reducible apply ev_orU) <;> walk_at "ev")
  | ((with_reducible apply Evl.et_B) <;> walk_at "ev")
  | ((with_reducible apply Evl.et_test) <;> walk_at "ev")
  | ((with_reducible apply Evl.et_not) <;> walk_at "ev")
  | ((with_reducible apply et_andU) <;> walk_at "ev")
  | ((with_reducible apply et_orU) <;> walk_at "ev")
  | walk_at "rv")
theorem df_fr {p : Addr} {ow' : List Addr} {H H' : Hp} (f : DF [p] ow' H H') : FrP p H H' := fun b o nb h => f.1 b o (by simpa using nb) h
theorem pair_get {us : List V} {ps : List Pr} {i : Nat} {x : V} (h : PairsAt H us ps) (hi : us[i]? = some x) : ∃ (k : Pr) (t : Addr), ps[i]? = some k ∧ x = .ref t ∧ H t = some (.tup [nV k.1, nV k.2]) := by
  obtain ⟨k, hk⟩ := get_some (xs := ps) (i := i) (by rw [← h.1]; exact lt_of_get hi)
  obtain ⟨t, h1, h2⟩ := h.2 i x k hi hk
  exact ⟨k, t, hk, h1, h2⟩
theorem DerAt.out {p c : Addr} {D : DS} {es : List Ent} {q : List Pr} (h : DerAt K H p D es q) (hc : H c = none) : c ∉ D.ow p := fun z => by
  obtain ⟨o, ho⟩ := h.own z
  rw [hc] at ho
  cases ho
/-- the pairs that the facts state -/
theorem der_stated {tz : TS} {Dd : Ends} {p lf dx0 : Addr} {fs : List Fact} {n : Nat} {D0 : DS} {H1 : Hp} (hp : H p = some (.ins (CD K) dx0 [])) (hn : n ≤ 60) (hF : FactsAt H lf fs) (hfl : fs.length ≤ 50) (ok : ∀ f ∈ fs, f.Ok n) (f1 : DF [p] (D0.ow p) H H1) (hD0 : DerAt K H1 p D0 [] [])
    (k : ∀ y2 y3 y4 y5 D es H', DF [p] (D.ow p) H H' → DerAt K H' p D es (keysE es) → EntsOk n fs es → (∀ f ∈ fs, ∀ a b, (a, b) ∈ statedP f → keyP a b ∈ keysE es) → tz Dd [some (.ref p), some (.ref lf), y2, y3, y4, y5, none, none, none] H') :
    tSeq (tFor (iEnum K (tCons (tVar 1) tNil)) (g2 K 2 3) (tFor (iList K (tCall sp_stated [] E0 (tCons (tVar 3) tNil))) (g2 K 4 5)
      (tDrop (tMeth (CD K) "add" (sp_add K) [] E0 (tVar 0) (tCons (tVar 4) (tCons (tVar 5) (tCons (tTup (tCons (tC (.str "fact")) (tCons (tVar 2) tNil))) (tCons (tLst tNil) tNil)))))))) tz Dd [some (.ref p), some (.ref lf), none, none, none, none, none, none, none] H1 := by
  obtain ⟨us, hlf, hul, hat⟩ := id hF
  have nlf : lf ≠ p := fun z => by rw [z, hp] at hlf; cases hlf
  refine q_forE (K := K) (a := lf) (xs := us) (ea_cons (ev_var rfl) ea_nil) (Evl.sq_of (df_fr f1 _ _ nlf hlf)) (fun i σ' H' => ∃ y2 y3 y4 y5 D es, σ' = [some (.ref p), some (.ref lf), y2, y3, y4, y5, none, none, none] ∧ DF [p] (D.ow p) H H' ∧ DerAt K H' p D es (keysE es) ∧ EntsOk n fs es ∧
    ∀ j f, j < i → fs[j]? = some f → ∀ a b, (a, b) ∈ statedP f → keyP a b ∈ keysE es) (fun H2 e2 => ⟨none, none, none, none, D0, [], rfl, f1.trans (DF.of e2), hD0.mono e2, .nil, fun j f hj => by omega⟩) (fun i σ' H' _ hPv => ?_) (fun i x σ' H' t hi hPv ht => ?_) (fun σ' H' hPv => ?_)
  · obtain ⟨_, _, _, _, _, _, _, ff, _⟩ := hPv
    exact Evl.sq_of (df_fr ff _ _ nlf hlf)
  · obtain ⟨y2, y3, y4, y5, D, es, rfl, ff, hD, oke, done⟩ := hPv
    obtain ⟨g, hg⟩ := get_some (xs := fs) (i := i) (by rw [← hul]; exact lt_of_get hi)
    have og := ok g (List.mem_of_getElem? hg)
    have e2 : Ex H' (upd H' t (.tup [nV i, x])) := Ex.new ht
    generalize upd H' t (.tup [nV i, x]) = H2 at e2
    have fa : FactAt H2 x g := ((hat i x g hi hg).fr (df_fr ff) hp).mono e2
    have hD2 := hD.mono e2
    refine s_forK (K := K) (R := NewP H2 (statedP g)) (tk_call (by walk_at "ev") (v_stated fa og hn)) fun v H3 e3 r3 => ?_
    obtain ⟨c, vs, rfl, hc, hc3, hps⟩ := r3
    have nc := hD2.out hc
    refine ⟨c, vs, fun j σ' H' => ∃ y4 y5 D' es', σ' = [some (.ref p), some (.ref lf), some (nV i), some x, y4, y5, none, none, none] ∧ DF (D.ow p) (D'.ow p) H3 H' ∧ DerAt K H' p D' es' (keysE es') ∧ EntsOk n fs es' ∧ (∀ k ∈ keysE es, k ∈ keysE es') ∧
      ∀ m (z : Pr), m < j → (statedP g)[m]? = some z → keyP z.1 z.2 ∈ keysE es', rfl, Evl.sq_of hc3, ⟨y4, y5, D, es, rfl, DF.of (Ex.refl _), hD2.mono e3, oke, fun k hk => hk, fun m z hm => by omega⟩, fun j σ' H' _ hPv => ?_, fun j z σ' H' hj hPv => ?_, fun σ' H' hPv => ?_⟩
    · obtain ⟨_, _, _, _, _, f3, _⟩ := hPv
      exact Evl.sq_of (f3.keep nc hc3)
    · obtain ⟨y4, y5, D', es', rfl, f3, hD', oke', up, done'⟩ := hPv
      obtain ⟨⟨a, b⟩, u, hab, rfl, hu⟩ := pair_get hps hj
      have hu' := (hD2.mono e3).te f3 _ _ hu
      have st := statedP_sound (fs := fs) (List.mem_of_getElem? hg) og (List.mem_of_getElem? hab)
      have l0 := ents_small oke' hn
      have lk : (keysE es').length = es'.length := by unfold keysE; rw [List.length_map]
      obtain ⟨new', h1, h2, h3, h4⟩ := add_ok (es := []) (q := []) (new := es') (e := ⟨⟨a, b, .fact i⟩, []⟩) oke' ⟨st.1, st.2.1, st.2.2.1, g, hg, st.2.2.2⟩ (fun u hu => by cases hu)
      refine g2_ok (Evl.st_of hu') ?_
      refine s_add (K := K) (rs := .fact i) (us := []) hD' (by omega) (by omega) (ev_var rfl) (ev_var rfl) (ev_var rfl) (Tk.imp (tk_tup (vs := [.str "fact", nV i]) (by walk_at "ev") (by simp)) fun v H4 e4 r => ?_) (Tk.imp (tk_lst ea_nil (by simp)) fun v H4 e4 r => ?_) fun D4 H4 f4 d4 => ?_
      · obtain ⟨t, rfl, _, ht⟩ := r
        exact ⟨t, rfl, ht⟩
      · obtain ⟨t, rfl, ht, ht4⟩ := r
        exact ⟨t, [], rfl, ht, ht4, PairsAt.nil⟩
      · rw [show addE es' (keysE es') ⟨⟨a, b, .fact i⟩, []⟩ = (new', keysE new') from h1] at d4
        refine ⟨_, _, D4, new', rfl, f3.trans f4, d4, h2, fun k hk => h4 k (up k hk), fun m z hm hz => ?_⟩
        by_cases e : m = j
        · subst e
          rw [hab] at hz
          cases hz
          exact h3
        · exact h4 _ (done' m z (by omega) hz)
    · obtain ⟨y4, y5, D', es', rfl, f3, hD', oke', up, done'⟩ := hPv
      refine ⟨_, _, _, _, D', es', rfl, (ff.trans (DF.of (e2.trans e3))).trans f3, hD', oke', fun m f hm hf a b hab => ?_⟩
      by_cases e : m = i
      · subst e
        rw [hg] at hf
        cases hf
        obtain ⟨j, hj, hjx⟩ := List.getElem_of_mem hab
        exact done' j (a, b) (by rw [hps.1]; exact hj) (by rw [List.getElem?_eq_getElem hj, hjx])
      · exact up _ (done m f (by omega) hf a b hab)
  · obtain ⟨y2, y3, y4, y5, D, es, rfl, ff, hD, oke, done⟩ := hPv
    refine k y2 y3 y4 y5 D es H' ff hD oke fun f hf a b hab => ?_
    obtain ⟨j, hj, hjx⟩ := List.getElem_of_mem hf
    exact done j f (by rw [hul]; exact hj) (by rw [List.getElem?_eq_getElem hj, hjx]) a b hab
end
end Hfb
namespace Hfb
open PySem PySem.Spec PyProof.Rows L2
open Evl (Ex Ev EvT EvA EvL EvU ev_op ev_var ev_c ev_call ea_cons ea_nil)
section
variable {P : Program} {w : World} {K : PySem.W.Frag} {mg : Str → Option Value} {base : Heap} {H : Hp}
local macro_rules | `(tactic| walk_at "spv") => `(tactic| first | exact v_isInt | exact v_isIntD | exact v_twoPos | exact v_isSeq (.t (by assumption)) | exact v_isSeq (.l (by assumption)) | exact v_isDist (by assumption) (by omega))
local macro_rules | `(tactic| walk_at "rv") => `(tactic| first
  | with_reducible exact Evl.rv_I0
  | ((with_reducible refine Evl.rv_eq ?_); rfl)
  | ((with_reducible refine Evl.rv_ne ?_); rfl)
  | ((with_reducible apply Evl.rv_ixT); (first | assumption | exact Evl.st_of (by assumption)); (first | rfl | assumption))
  | ((with_reducible apply Evl.rv_ixL); (first | assumption | exact Evl.sq_of (by assumption)); (first | rfl | assumption))
  | exact isi_int
  | exact isi_bool
  | exact isi_str
  | exact rc_max
  | exact rc_min
  | (apply rc_lenL; first | assumption | exact Evl.sq_of (by assumption))
  | (apply rc_lenT; first | assumption | exact Evl.st_of (by assumption))
  | walk_at "fld"
  | walk_at "spv")
local macro_rules | `(tactic| walk_at "ev") => `(tactic| first
  | ((with_reducible apply Evl.ev_var); rfl)
  | with_reducible exact Evl.ev_c
  | with_reducible exact Evl.ea_nil
  | ((with_reducible apply Evl.ea_cons) <;> walk_at "ev")
  | ((with_reducible apply Evl.ev_op) <;> walk_at "ev")
  | ((with_reducible apply ev_chain) <;> walk_at "ev")
  | ((with_reducible apply Evl.ev_cb) <;> walk_at "ev")
  | ((with_reducible apply Evl.ev_call) <;> walk_at "ev")
  | ((with_reducible apply Evl.ev_notV) <;> walk_at "ev")
  | ((with_reducible apply ev_andU) <;> walk_at "ev")
  | ((with_reducible apply ev_orU) <;> walk_at "ev")
  | ((with_reducible apply Evl.et_B) <;> walk_at "ev")
  | ((with_reducible apply Evl.et_test) <;> walk_at "ev")
  | ((with_reducible apply Evl.et_not) <;> walk_at "ev")
  | ((with_reducible apply et_andU) <;> walk_at "ev")
  | ((with_reducible apply et_orU) <;> walk_at "ev")
  | walk_at "rv")
/-! ### one turn of the work -/
def EqAt (H : Hp) (us acc : List V) (js : List Nat) : Prop := acc.length = js.length ∧ ∀ (i : Nat) v j, acc[i]? = some v → js[i]? = some j → ∃ t x, v = .ref t ∧ H t = some (.tup [nV j, x]) ∧ us[j]? = some x
theorem EqAt.te {H H' : Hp} {us acc : List V} {js : List Nat} (e : TEx H H') (h : EqAt H us acc js) : EqAt H' us acc js := ⟨h.1, fun i v j a b => by
  obtain ⟨t, x, h1, h2, h3⟩ := h.2 i v j a b
  exact ⟨t, x, h1, e _ _ h2, h3⟩⟩
def EqJ (fs : List Fact) (i : Nat) (js : List Nat) : Prop := js.length ≤ i ∧ ∀ j, j ∈ js ↔ j < i ∧ ∃ s t l, fs[j]? = some (.eqv s t l)
theorem DerAt.setQ {p : Addr} {D : DS} {es : List Ent} {q q' : List Pr} {vs : List V} (h : DerAt K H p D es q) (hv : PairsAt H vs q') : DerAt K (upd H D.qa (.lst vs)) p D es q' := by
  have f : DF (D.ow p) (D.ow p) H (upd H D.qa (.lst vs)) := DF.put (Ex.refl _) (by simp)
  have t := h.te f
  have nd := h.nd
  obtain ⟨⟨dx, h1⟩, ⟨kS, a1, a2, a3⟩, ⟨kU, b1, b2, b3⟩, ⟨vs', c1, c2⟩, h5, h6, h7, h8, h9, h10, h11⟩ := h
  obtain ⟨n1, nd1⟩ := List.nodup_cons.mp nd
  obtain ⟨n2, nd2⟩ := List.nodup_cons.mp nd1
  obtain ⟨n3, nd3⟩ := List.nodup_cons.mp nd2
  obtain ⟨n4, nd4⟩ := List.nodup_cons.mp nd3
  refine ⟨⟨dx, ?_⟩, ⟨kS, ?_, a2, fun i kv x y z => ⟨(a3 i kv x y z).1, (a3 i kv x y z).2.te t⟩⟩, ⟨kU, ?_, b2, fun i kv x y z => ⟨(b3 i kv x y z).1, (b3 i kv x y z).2.df t f⟩⟩, ⟨vs, upd_same, hv.te t⟩, ?_, fun x hx => ?_, h7, h8, h9, h10, h11⟩
  · rw [upd_ne (fun z => n1 (by simp [z]))]; exact h1
  · rw [upd_ne (fun z => n2 (by simp [z]))]; exact a1
  · rw [upd_ne (fun z => n3 (by simp [z]))]; exact b1
  · rw [upd_ne (fun z => n4 (by simp [← z]))]; exact h5
  · rw [upd_ne (fun z => n4 (by rw [← z]; exact List.mem_cons_of_mem _ (List.mem_map.mpr ⟨x, hx, rfl⟩)))]; exact h6 x hx
theorem copies_ok {n s t l a b x y : Nat} (ok : Fact.Ok n (.eqv s t l)) (hab : a ≠ b) (h : (x, y) ∈ copiesL s t l a b) : x < n ∧ y < n ∧ x ≠ y := by
  obtain ⟨o1, o2, o3, o4, o5, o6⟩ := ok
  rcases mem_copies h with ⟨u, v, h1, h2, h3, h4, h5, h6⟩ | ⟨u, v, h1, h2, h3, h4, h5, h6⟩ <;> omega
abbrev tAddC (K : PySem.W.Frag) : TS := tDrop (tMeth (CD K) "add" (sp_add K) [] E0 (tVar 0) (tCons (tVar 7) (tCons (tVar 8) (tCons (tTup (tCons (tC (.str "copy")) (tCons (tVar 2) (tCons (tVar 4) (tCons (tVar 5) tNil))))) (tCons (tLst (tCons (tTup (tCons (tVar 4) (tCons (tVar 5) tNil))) tNil)) tNil)))))
/-- the copies that one equivalence gives -/
theorem der_copies {Dd : Ends} {p lf le : Addr} {fs : List Fact} {n a b j s t l : Nat} {x : V} {D : DS} {es new : List Ent} {q : List Pr} {y7 y8 : Option V} (hn : n ≤ 60) (hab : a < b) (hb : b < n) (hj : fs[j]? = some (.eqv s t l)) (of : Fact.Ok n (.eqv s t l)) (fa : FactAt H x (.eqv s t l))
    (hD : DerAt K H p D (es ++ new) (q ++ keysE new)) (ok : EntsOk n fs (es ++ new)) (hk : (a, b) ∈ keysE (es ++ new)) (hq : q.length ≤ es.length)
    (k : ∀ y7 y8 D' new' H', DF (D.ow p) (D'.ow p) H H' → DerAt K H' p D' (es ++ new') (q ++ keysE new') → EntsOk n fs (es ++ new') → (∀ k ∈ keysE (es ++ new), k ∈ keysE (es ++ new')) → (∀ z ∈ copiesL s t l a b, keyP z.1 z.2 ∈ keysE (es ++ new')) →
      Dd.nx [some (.ref p), some (.ref lf), some (nV j), some x, some (nV a), some (nV b), some (.ref le), y7, y8] H') :
    tFor (iList K (tCall sp_copies [] E0 (tCons (tVar 3) (tCons (tVar 4) (tCons (tVar 5) tNil))))) (g2 K 7 8) (tAddC K) Dd [some (.ref p), some (.ref lf), some (nV j), some x, some (nV a), some (nV b), some (.ref le), y7, y8] H := by
  obtain ⟨o1, o2, o3, o4, o5, o6⟩ := id of
  refine s_forK (K := K) (R := NewP H (copiesL s t l a b)) (tk_call (by walk_at "ev") (v_copies fa (by omega))) fun v H3 e3 r3 => ?_
  obtain ⟨c, vs, rfl, hc, hc3, hps⟩ := r3
  have nc := hD.out hc
  refine ⟨c, vs, fun i σ' H' => ∃ y7 y8 D' new', σ' = [some (.ref p), some (.ref lf), some (nV j), some x, some (nV a), some (nV b), some (.ref le), y7, y8] ∧ DF (D.ow p) (D'.ow p) H3 H' ∧ DerAt K H' p D' (es ++ new') (q ++ keysE new') ∧ EntsOk n fs (es ++ new') ∧
    (∀ k ∈ keysE (es ++ new), k ∈ keysE (es ++ new')) ∧ ∀ m (z : Pr), m < i → (copiesL s t l a b)[m]? = some z → keyP z.1 z.2 ∈ keysE (es ++ new'), rfl, Evl.sq_of hc3, ⟨_, _, D, new, rfl, DF.of (Ex.refl _), hD.mono e3, ok, fun k hk => hk, fun m z hm => by omega⟩, fun i σ' H' _ hPv => ?_, fun i z σ' H' hi hPv => ?_, fun σ' H' hPv => ?_⟩
  · obtain ⟨_, _, _, _, _, f3, _⟩ := hPv
    exact Evl.sq_of (f3.keep nc hc3)
  · obtain ⟨y7, y8, D', new', rfl, f3, hD', ok', up, done⟩ := hPv
    obtain ⟨⟨u, v⟩, w, huv, rfl, hw⟩ := pair_get hps hi
    have hw' := (hD.mono e3).te f3 _ _ hw
    have c3 := copies_ok of (by omega) (List.mem_of_getElem? huv)
    have l0 := ents_small ok' hn
    have lk : (keysE new').length = new'.length := by unfold keysE; rw [List.length_map]
    rw [List.length_append] at l0
    obtain ⟨new2, h1, h2, h3, h4⟩ := add_ok (q := q) (e := ⟨⟨u, v, .copy j a b⟩, [(a, b)]⟩) ok' ⟨c3.1, c3.2.1, c3.2.2, s, t, l, hj, by omega, by omega, by omega, by rw [keyP_of_lt hab]; simp, List.mem_of_getElem? huv⟩ (fun r hr => by
      rw [List.mem_singleton.mp hr]
      exact up _ hk)
    refine g2_ok (Evl.st_of hw') ?_
    refine s_add (K := K) (rs := .copy j a b) (us := [(a, b)]) hD' (by rw [List.length_append]; omega) (by rw [List.length_append]; omega) (ev_var rfl) (ev_var rfl) (ev_var rfl) (Tk.imp (tk_tup (vs := [.str "copy", nV j, nV a, nV b]) (by walk_at "ev") (by simp)) fun v H4 e4 r => ?_) (Tk.imp (tk_lst1 (tk_tup (vs := [nV a, nV b]) (by walk_at "ev") (by simp))) fun v H4 e4 r => ?_) fun D4 H4 f4 d4 => ?_
    · obtain ⟨t, rfl, _, ht⟩ := r
      exact ⟨t, rfl, ht⟩
    · obtain ⟨t, u, G, rfl, ht, h4, g1, g2, m, rfl, hm, hm2⟩ := r
      exact ⟨t, _, rfl, ht, h4, PairsAt.snoc (vs := []) (ps := []) PairsAt.nil ⟨m, rfl, g2 _ _ hm2⟩⟩
    · rw [h1] at d4
      refine ⟨_, _, D4, new2, rfl, f3.trans f4, d4, h2, fun k hk => h4 k (up k hk), fun m z hm hz => ?_⟩
      by_cases e : m = i
      · subst e
        rw [huv] at hz
        cases hz
        exact h3
      · exact h4 _ (done m z (by omega) hz)
  · obtain ⟨y7, y8, D', new', rfl, f3, hD', ok', up, done⟩ := hPv
    refine k y7 y8 D' new' H' ((DF.of e3).trans f3) hD' ok' up fun z hz => ?_
    obtain ⟨m, hm, hmz⟩ := List.getElem_of_mem hz
    exact done m z (by rw [hps.1]; exact hm) (by rw [List.getElem?_eq_getElem hm, hmz])
end
end Hfb
namespace Hfb
open PySem PySem.Spec PyProof.Rows L2
open Evl (Ex Ev EvT EvA EvL EvU ev_op ev_var ev_c ev_call ea_cons ea_nil)
section
variable {P : Program} {w : World} {K : PySem.W.Frag} {mg : Str → Option Value} {base : Heap} {H : Hp}
local macro_rules | `(tactic| walk_at "spv") => `(tactic| first | exact v_isInt | exact v_isIntD | exact v_twoPos | exact v_isSeq (.t (by assumption)) | exact v_isSeq (.l (by assumption)) | exact v_isDist (by assumption) (by omega))
local macro_rules | `(tactic| walk_at "rv") => `(tactic| first
  | with_reducible exact Evl.rv_I0
  | ((with_reducible refine Evl.rv_eq ?_); rfl)
  | ((with_reducible refine Evl.rv_ne ?_); rfl)
  | ((with_reducible apply Evl.rv_ixT); (first | assumption | exact Evl.st_of (by assumption)); (first | rfl | assumption))
  | ((with_reducible apply Evl.rv_ixL); (first | assumption | exact Evl.sq_of (by assumption)); (first | rfl | assumption))
  | exact isi_int
  | exact isi_bool
  | exact isi_str
  | exact rc_max
  | exact rc_min
  | (apply rc_lenL; first | assumption | exact Evl.sq_of (by assumption))
  | (apply rc_lenT; first | assumption | exact Evl.st_of (by assumption))
  | walk_at "fld"
  | walk_at "spv")
local macro_rules | `(tactic| walk_at "ev") => `(tactic| first
  | ((with_reducible apply Evl.ev_var); rfl)
  | with_reducible exact Evl.ev_c
  | with_reducible exact Evl.ea_nil
  | ((with_reducible apply Evl.ea_cons) <;> walk_at "ev")
  | ((with_reducible apply Evl.ev_op) <;> walk_at "ev")
  | ((with_reducible apply ev_chain) <;> walk_at "ev")
  | ((with_reducible apply Evl.ev_cb) <;> walk_at "ev")
  | ((with_reducible apply Evl.ev_call) <;> walk_at "ev")
  | ((with_reducible apply Evl.ev_notV) <;> walk_at "ev")
  | ((with_reducible apply ev_andU) <;> walk_at "ev")
  | ((with_reducible apply ev_orU) <;> walk_at "ev")
  | ((with_reducible apply Evl.et_B) <;> walk_at "ev")
  | ((with_reducible apply Evl.et_test) <;> walk_at "ev")
  | ((with_reducible apply Evl.et_not) <;> walk_at "ev")
  | ((with_reducible apply et_andU) <;> walk_at "ev")
  | ((with_reducible apply et_orU) <;> walk_at "ev")
  | walk_at "rv")
abbrev tExt (K : PySem.W.Frag) (i j : Nat) : TS := tDrop (tMeth (CD K) "extend" (sp_extend K) [] E0 (tVar 0) (tCons (tVar i) (tCons (tVar j) tNil)))
theorem s_extend {σ : L2.St} {Dd : Ends} {ta t1 t2 : TE} {p a m n : Nat} {D : DS} {es : List Ent} {q : List Pr} {fs : List Fact} (hn : n ≤ 60) (hD : DerAt K H p D es q) (ok : EntsOk n fs es) (hq : q.length ≤ es.length) (hk : keyP a m ∈ keysE es) (h0 : Ev ta σ H (.ref p)) (h1 : Ev t1 σ H (nV a)) (h2 : Ev t2 σ H (nV m))
    (k : ∀ D' H' new, DF (D.ow p) (D'.ow p) H H' → DerAt K H' p D' (es ++ new) (q ++ keysE new) → EntsOk n fs (es ++ new) → (∀ c, c ≠ a → keyP m c ∈ keysE es → keyP a c ∈ keysE (es ++ new)) → Dd.nx σ H') :
    tDrop (tMeth (CD K) "extend" (sp_extend K) [] E0 ta (tCons t1 (tCons t2 tNil))) Dd σ H := by
  obtain ⟨dx, ho⟩ := hD.obj
  exact me_call (vs := [nV a, nV m]) h0 ho (lk_extend D) (ea_cons h1 (ea_cons h2 ea_nil)) fun H1 e1 => ⟨p, D, es, q, n, fs, a, m, rfl, hD.mono e1, hn, ok, hq, hk, fun D' H' new f d o c => k D' H' new ((DF.of e1).trans f) d o c⟩
theorem q_pop0 {σ : L2.St} {Dd : Ends} {tz : TS} {ta : TE} {g : TG} {l : Addr} {v : V} {vs : List V} (ha : Ev ta σ H (.ref l)) (hl : H l = some (.lst (v :: vs))) (k : ∀ H1, Ex H H1 → g v σ (upd H1 l (.lst vs)) fun σ2 H2 => tz Dd σ2 H2) :
    tSeq (tAsg (tBM K "list" rPopAt ta (tCons (tC (.int 0)) tNil)) g) tz Dd σ H := by
  refine ha H (Ex.refl _) _ fun H2 e2 => ⟨Or.inl ⟨rfl, _, Evl.sq_of (e2 _ _ hl)⟩, ea_cons (x := V.int 0) ev_c ea_nil H2 (Ex.refl _) _ fun H3 e3 => ⟨l, v :: vs, 0, 0, v, rfl, rfl, (e2.trans e3) _ _ hl, by decide, by decide, ?_, rfl, k H3 (e2.trans e3)⟩⟩
  simp [seqIndex?]
theorem keysE_len (es : List Ent) : (keysE es).length = es.length := by unfold keysE; rw [List.length_map]
theorem der_turn {Dd : Ends} {p lf le dx0 : Addr} {fs : List Fact} {n : Nat} {us acc : List V} {js : List Nat} {k0 : Pr} {D : DS} {es : List Ent} {q : List Pr} {H1 : Hp} {y2 y3 y4 y5 y7 y8 : Option V} (hp : H p = some (.ins (CD K) dx0 [])) (hn : n ≤ 60) (hul : us.length = fs.length) (hat : ∀ (i : Nat) v f, us[i]? = some v → fs[i]? = some f → FactAt H v f) (okf : ∀ f ∈ fs, f.Ok n)
    (f1 : DF [p] (D.ow p) H H1) (hD : DerAt K H1 p D es (k0 :: q)) (ok : EntsOk n fs es) (hw : Work fs es (k0 :: q)) (hq : (k0 :: q).length ≤ es.length) (hle : H1 le = some (.lst acc)) (nle : le ∉ D.ow p) (hE : EqAt H1 us acc js) (hJ : EqJ fs fs.length js)
    (k : ∀ y2 y3 y4 y5 y7 y8 D' new H', DF (D.ow p) (D'.ow p) H1 H' → DerAt K H' p D' (es ++ new) (q ++ keysE new) → EntsOk n fs (es ++ new) → Work fs (es ++ new) (q ++ keysE new) → Dd.nx [some (.ref p), some (.ref lf), y2, y3, y4, y5, some (.ref le), y7, y8] H') (T : Tx K mg) :
    tSeq (tAsg (tBM K "list" rPopAt (tFld K (tVar 0) "queue") (tCons (tC (.int 0)) tNil)) (g2 K 4 5)) (tSeq (tFor (iList K (tVar 6)) (g2 K 2 3) (tFor (iList K (tCall sp_copies [] E0 (tCons (tVar 3) (tCons (tVar 4) (tCons (tVar 5) tNil))))) (g2 K 7 8) (tAddC K)))
      (tSeq (tExt K 4 5) (tExt K 5 4))) Dd [some (.ref p), some (.ref lf), y2, y3, y4, y5, some (.ref le), y7, y8] H1 := by
  obtain ⟨dx, ho⟩ := hD.obj
  obtain ⟨vq, hvq, hqp⟩ := hD.qu
  match vq, hvq, hqp with
  | [], hvq, hqp => exact absurd hqp.1 (by simp)
  | v :: vs, hvq, hqp =>
    obtain ⟨t, rfl, ht⟩ := hqp.2 0 v k0 rfl rfl
    have hqp' : PairsAt H1 vs q := ⟨by have := hqp.1; simpa using this, fun i v xy x y => hqp.2 (i + 1) v xy x y⟩
    refine q_pop0 (K := K) (ev_fQ T (ev_var rfl) ho) hvq fun H3 e13 => ?_
    · have hD3 := (hD.mono e13).setQ (hqp'.te (te_of e13))
      have f3 : DF (D.ow p) (D.ow p) H1 (upd H3 D.qa (.lst vs)) := DF.put e13 (by simp)
      have ht3 := hD.te f3 _ _ ht
      have hE3 := hE.te (hD.te f3)
      have hle3 := f3.keep nle hle
      generalize upd H3 D.qa (.lst vs) = G at hD3 f3 ht3 hE3 hle3
      obtain ⟨a, b⟩ := k0
      refine g2_ok (Evl.st_of ht3) ?_
      -- (a, b) is a key
      have kab : (a, b) ∈ keysE es := hw.sub _ (by simp)
      obtain ⟨e0, he0, hek⟩ := List.mem_map.mp kab
      have ekey : keyP e0.step.p e0.step.q = (a, b) := hek
      have dd := ok.der e0.step.p e0.step.q (by rw [ekey]; exact kab)
      have hab : a < b ∧ b < n := by
        unfold keyP at ekey
        have h1 := congrArg Prod.fst ekey
        have h2 := congrArg Prod.snd ekey
        dsimp only at h1 h2
        omega
      have kk := keyP_of_lt hab.1
      have hq' : q.length + 1 ≤ es.length := by simpa using hq
      -- the equivalences
      refine q_forK (K := K) (R := fun v H' => v = .ref le) (Tk.of (ev_var rfl)) fun v H4 e4 r4 => ?_
      obtain rfl := r4
      refine ⟨le, acc, fun i σ' H' => ∃ y2 y3 y7 y8 D' new, σ' = [some (.ref p), some (.ref lf), y2, y3, some (nV a), some (nV b), some (.ref le), y7, y8] ∧ DF (D.ow p) (D'.ow p) H4 H' ∧ DerAt K H' p D' (es ++ new) (q ++ keysE new) ∧ EntsOk n fs (es ++ new) ∧ (∀ k ∈ keysE es, k ∈ keysE (es ++ new)) ∧
        ∀ m j s t l, m < i → js[m]? = some j → fs[j]? = some (.eqv s t l) → ∀ z ∈ copiesL s t l a b, keyP z.1 z.2 ∈ keysE (es ++ new), rfl, Evl.sq_of (e4 _ _ hle3), ?_, fun i σ' H' _ hPv => ?_, fun i x σ' H' hi hPv => ?_, fun σ' H' hPv => ?_⟩
      · have hD4 := hD3.mono e4
        rw [← List.append_nil es, ← List.append_nil q] at hD4
        exact ⟨_, _, _, _, D, [], rfl, DF.of (Ex.refl _), hD4, by rw [List.append_nil]; exact ok, fun k hk => by rw [List.append_nil]; exact hk, fun m j s t l hm => by omega⟩
      · obtain ⟨_, _, _, _, _, _, _, f5, _⟩ := hPv
        exact Evl.sq_of (f5.keep nle (e4 _ _ hle3))
      · obtain ⟨y2, y3, y7, y8, D', new, rfl, f5, hD', ok', up, done⟩ := hPv
        obtain ⟨j, hj⟩ := get_some (xs := js) (i := i) (by rw [← hE3.1]; exact lt_of_get hi)
        obtain ⟨u, w, rfl, hu, hw'⟩ := hE3.2 i x j hi hj
        have hu' := (hD3.mono e4).te f5 _ _ (e4 _ _ hu)
        obtain ⟨_, s, t, l, hfj⟩ := (hJ.2 j).mp (List.mem_of_getElem? hj)
        have f15 : DF [p] (D'.ow p) H H' := (f1.trans (f3.trans (DF.of e4))).trans f5
        have fa : FactAt H' w (.eqv s t l) := (hat j w _ hw' hfj).fr (df_fr f15) hp
        refine g2_ok (Evl.st_of hu') ?_
        refine der_copies (K := K) hn hab.1 hab.2 hfj (okf _ (List.mem_of_getElem? hfj)) fa hD' ok' (up _ kab) (by omega) fun y7 y8 D2 new2 H2 f2 d2 ok2 up2 all2 => ?_
        refine ⟨_, _, y7, y8, D2, new2, rfl, f5.trans f2, d2, ok2, fun k hk => up2 k (up k hk), fun m j' s' t' l' hm hj' hf' z hz => ?_⟩
        by_cases e : m = i
        · subst e
          rw [hj] at hj'
          cases hj'
          rw [hfj] at hf'
          cases hf'
          exact all2 z hz
        · exact up2 _ (done m j' s' t' l' (by omega) hj' hf' z hz)
      · obtain ⟨y2, y3, y7, y8, D', new, rfl, f5, hD', ok', up, done⟩ := hPv
        have c1 : ∀ s t l, Fact.eqv s t l ∈ fs → ∀ i j, (i, j) ∈ copiesL s t l a b → keyP i j ∈ keysE (es ++ new) := fun s t l hf i j hc => by
          obtain ⟨m, hm⟩ := List.getElem?_of_mem hf
          have hmj := (hJ.2 m).mpr ⟨lt_of_get hm, s, t, l, hm⟩
          obtain ⟨r, hr⟩ := List.getElem?_of_mem hmj
          exact done r m s t l (by rw [hE3.1]; exact lt_of_get hr) hr hm (i, j) hc
        have l5 : (q ++ keysE new).length ≤ (es ++ new).length := by rw [List.length_append, List.length_append, keysE_len]; omega
        refine q_seq (s_extend (K := K) (a := a) (m := b) hn hD' ok' l5 (by rw [kk]; exact up _ kab) (ev_var rfl) (ev_var rfl) (ev_var rfl) fun D6 H6 new6 f6 d6 ok6 c6 => ?_)
        rw [List.append_assoc es, List.append_assoc q, ← keysE_append] at d6
        rw [List.append_assoc es] at ok6 c6
        have up6 : ∀ k ∈ keysE (es ++ new), k ∈ keysE (es ++ (new ++ new6)) := fun k hk => by
          rw [← List.append_assoc, keysE_append]
          exact List.mem_append.mpr (.inl hk)
        have l6 : (q ++ keysE (new ++ new6)).length ≤ (es ++ (new ++ new6)).length := by rw [List.length_append, List.length_append, keysE_len]; omega
        refine s_extend (K := K) (a := b) (m := a) hn d6 ok6 l6 (by rw [keyP_symm, kk]; exact up6 _ (up _ kab)) (ev_var rfl) (ev_var rfl) (ev_var rfl) fun D7 H7 new7 f7 d7 ok7 c7 => ?_
        rw [List.append_assoc es, List.append_assoc q, ← keysE_append] at d7
        rw [List.append_assoc es] at ok7 c7
        have up7 : ∀ k ∈ keysE (es ++ (new ++ new6)), k ∈ keysE (es ++ (new ++ new6 ++ new7)) := fun k hk => by
          rw [← List.append_assoc, keysE_append]
          exact List.mem_append.mpr (.inl hk)
        refine k _ _ _ _ _ _ D7 _ H7 (((f3.trans (DF.of e4)).trans f5).trans (f6.trans f7)) d7 ok7 (hw.pop hab.1 (fun s t l hf i j hc => up7 _ (up6 _ (c1 s t l hf i j hc))) (fun c hc hk => up7 _ (c6 c hc (up _ hk))) (fun c hc hk => c7 c hc (up6 _ (up _ hk))))
end
end Hfb
namespace Hfb
open PySem PySem.Spec PyProof.Rows L2
open Evl (Ex Ev EvT EvA EvL EvU ev_op ev_var ev_c ev_call ea_cons ea_nil)
section
variable {P : Program} {w : World} {K : PySem.W.Frag} {mg : Str → Option Value} {base : Heap} {H : Hp}
local macro_rules | `(tactic| walk_at "spv") => `(tactic| first | exact v_isInt | exact v_isIntD | exact v_twoPos | exact v_isSeq (.t (by assumption)) | exact v_isSeq (.l (by assumption)) | exact v_isDist (by assumption) (by omega))
local macro_rules | `(tactic| walk_at "rv") => `(tactic| first
  | with_reducible exact Evl.rv_I0
  | ((with_reducible refine Evl.rv_eq ?_); rfl)
  | ((with_reducible refine Evl.rv_ne ?_); rfl)
  | ((with_reducible apply Evl.rv_ixT); (first | assumption | exact Evl.st_of (by assumption)); (first | rfl | assumption))
  | ((with_reducible apply Evl.rv_ixL); (first | assumption | exact Evl.sq_of (by assumption)); (first | rfl | assumption))
  | exact isi_int
  | exact isi_bool
  | exact isi_str
  | exact rc_max
  | exact rc_min
  | (apply rc_lenL; first | assumption | exact Evl.sq_of (by assumption))
  | (apply rc_lenT; first | assumption | exact Evl.st_of (by assumption))
  | walk_at "fld"
  | walk_at "spv")
local macro_rules | `(tactic| walk_at "ev") => `(tactic| first
  | ((with_reducible apply Evl.ev_var); rfl)
  | with_reducible exact Evl.ev_c
  | with_reducible exact Evl.ea_nil
  | ((with_reducible apply Evl.ea_cons) <;> walk_at "ev")
  | ((with_reducible apply Evl.ev_op) <;> walk_at "ev")
  | ((with_reducible apply ev_chain) <;> walk_at "ev")
  | ((with_reducible apply Evl.ev_cb) <;> walk_at "ev")
  | ((with_reducible apply Evl.ev_call) <;> walk_at "ev")
  | ((with_reducible apply Evl.ev_notV) <;> walk_at "ev")
  | ((with_reducible apply ev_andU) <;> walk_at "ev")
  | ((with_reducible apply ev_orU) <;> walk_at "ev")
  | ((with_reducible apply Evl.et_B) <;> walk_at "ev")
  | ((with_reducible apply Evl.et_test) <;> walk_at "ev")
  | ((with_reducible apply Evl.et_not) <;> walk_at "ev")
  | ((with_reducible apply et_andU) <;> walk_at "ev")
  | ((with_reducible apply et_orU) <;> walk_at "ev")
  | walk_at "rv")
theorem ev_neQ {σ : L2.St} {t1 : TE} {l : Addr} {vs : List V} {q : List Pr} (h1 : Ev t1 σ H (.ref l)) (hl : H l = some (.lst vs)) (hp : PairsAt H vs q) : Ev (tOp (rNeD K) t1 (tLst tNil)) σ H (.bl (!decide (q = []))) := by
  have h2 : Tk (tLst tNil) σ H (fun v H' => ∃ c, v = .ref c ∧ H c = none ∧ H' c = some (.lst ([] : List V))) := tk_lst ea_nil (by simp)
  generalize tLst tNil = t2 at h2
  exact fun H1 e Q k => h1 H1 e _ fun H2 e2 => h2 H2 (e.trans e2) _ fun v H3 e3 r => by
    obtain ⟨c, rfl, _, hc⟩ := r
    have e03 := (e.trans e2).trans e3
    refine ⟨.list (q.map dP), .list [], .lst (Evl.sq_of (e03 _ _ hl)) (dp_pairs (hp.te (te_of e03))), .lst (Evl.sq_of hc) .nil, shaped_pairs q, shaped_pairs [], ?_⟩
    have ee : PyData.eqv (.list (q.map dP)) (.list []) = decide (q = []) := by
      show PyData.eqvAll (q.map dP) [] = _
      cases q with
      | nil => rfl
      | cons a b => rfl
    rw [ee]
    exact k H3 (e2.trans e3)
theorem EqAt.snoc {us acc : List V} {js : List Nat} {v : V} {j : Nat} (h : EqAt H us acc js) (hv : ∃ t x, v = .ref t ∧ H t = some (.tup [nV j, x]) ∧ us[j]? = some x) : EqAt H us (acc ++ [v]) (js ++ [j]) := by
  refine ⟨by rw [List.length_append, List.length_append, h.1]; rfl, fun i w k a b => ?_⟩
  rcases get_snoc a with ⟨i1, a1⟩ | ⟨i1, a1⟩
  · rcases get_snoc b with ⟨i2, b1⟩ | ⟨i2, b1⟩
    · exact h.2 i w k a1 b1
    · have := h.1
      omega
  · rcases get_snoc b with ⟨i2, b1⟩ | ⟨i2, b1⟩
    · have := h.1
      omega
    · rw [a1, b1]
      exact hv
theorem isEqv_iff {f : Fact} : isEqv f = true ↔ ∃ s t l, f = .eqv s t l := by
  cases f <;> simp [isEqv]
theorem tk_eqs {σ : L2.St} {lf : Addr} {us : List V} {fs : List Fact} (h2 : σ.length = 9) (hv : σ[1]? = some (some (.ref lf))) (hlf : H lf = some (.lst us)) (hul : us.length = fs.length) (hfl : fs.length ≤ 50) (hat : ∀ (i : Nat) v f, us[i]? = some v → fs[i]? = some f → FactAt H v f)
    (hset : ∀ x y : V, (((wipe σ [2, 3]).set 2 (some x)).set 3 (some y))[2]? = some (some x) ∧ (((wipe σ [2, 3]).set 2 (some x)).set 3 (some y))[3]? = some (some y) ∧ wipe (((wipe σ [2, 3]).set 2 (some x)).set 3 (some y)) [2, 3] = wipe σ [2, 3]) :
    Tk (tLc (iEnum K (tCons (tVar 1) tNil)) (g2 K 2 3) (tTest (tOp rEq (tOp (rIxT K) (tVar 3) (tC (.int 0))) (tC (.str "equivalent")))) (tTup (tCons (tVar 2) (tCons (tVar 3) tNil))) [2, 3]) σ H
      (NewL H us.length fun i acc H' => ∃ js, EqAt H' us acc js ∧ EqJ fs i js) := by
  refine tk_lcE (K := K) (ea_cons (ev_var hv) ea_nil) (Evl.sq_of hlf) (by omega) _ (fun i acc H1 H2 e h => by obtain ⟨js, a, b⟩ := h; exact ⟨js, a.te e, b⟩) (fun x y => (hset x y).2.2) (fun H' e => ⟨[], ⟨rfl, fun i v j a => by simp at a⟩, Nat.le_refl _, fun j => by simp⟩) (fun i x acc H' e hi hG => ?_)
  obtain ⟨js, hE, hJ1, hJ2⟩ := hG
  obtain ⟨g, hg⟩ := get_some (xs := fs) (i := i) (by rw [← hul]; exact lt_of_get hi)
  have fa := (hat i x g hi hg).mono e
  refine ⟨isEqv g, ?_, fun hb => ⟨js, hE, by omega, fun j => ?_⟩, fun hb => ⟨_, tk_tup (vs := [nV i, x]) (ea_cons (ev_var (hset _ _).1) (ea_cons (ev_var (hset _ _).2.1) ea_nil)) (by simp), fun y H2 e2 r => ?_⟩⟩
  · rw [← kind_eqv]
    exact et_kind (K := K) fa (ev_var (hset _ _).2.1) (kind_str _)
  · rw [hJ2]
    constructor
    · rintro ⟨h1, h2⟩
      exact ⟨by omega, h2⟩
    · rintro ⟨h1, h2⟩
      refine ⟨?_, h2⟩
      rcases Nat.lt_succ_iff_lt_or_eq.mp h1 with h | h
      · exact h
      · subst h
        obtain ⟨s, t, l, h3⟩ := h2
        rw [hg] at h3
        have := isEqv_iff.mpr ⟨s, t, l, Option.some.inj h3⟩
        rw [hb] at this
        cases this
  · obtain ⟨t, rfl, _, ht⟩ := r
    obtain ⟨s', t', l', rfl⟩ := isEqv_iff.mp hb
    refine ⟨js ++ [i], (hE.te (te_of e2)).snoc ⟨t, x, rfl, ht, hi⟩, by rw [List.length_append]; show js.length + 1 ≤ i + 1; omega, fun j => ?_⟩
    rw [List.mem_append, hJ2, List.mem_singleton]
    constructor
    · rintro (⟨h1, h2⟩ | h)
      · exact ⟨by omega, h2⟩
      · exact ⟨by omega, s', t', l', by rw [h]; exact hg⟩
    · rintro ⟨h1, h2⟩
      rcases Nat.lt_succ_iff_lt_or_eq.mp h1 with h | h
      · exact .inl ⟨h, h2⟩
      · exact .inr h
theorem work_start {fs : List Fact} {es : List Ent} : Work fs es (keysE es) := ⟨fun k hk => hk, fun a b c _ h _ => .inr (.inl h), fun s t l _ x y h1 h2 => absurd h1 h2⟩
def sp_dinit (K : PySem.W.Frag) : Sp := fun vs H Q _ => ∃ (p dx lf : Addr) (n : Nat) (fs : List Fact), vs = [.ref p, .ref lf] ∧ H p = some (.ins (CD K) dx []) ∧ n ≤ 60 ∧ FactsAt H lf fs ∧ fs.length ≤ 50 ∧ (∀ f ∈ fs, f.Ok n) ∧
  ∀ H' D es, FrP p H H' → DerAt K H' p D es [] → EntsOk n fs es → (∀ a b, a ≠ b → (keyP a b ∈ keysE es ↔ Der fs a b)) → Q .non H'
theorem mz_dinit (T : Tx K mg) (c_stated_pairs : Cl P w K mg base 2 "stated_pairs" sp_stated) (c_copies : Cl P w K mg base 1 "copies" sp_copies) (c_add : Mt P w K mg base 2 (CD K) "add" (sp_add K)) (c_extend : Mt P w K mg base 3 (CD K) "extend" (sp_extend K))
    (A : AtI K (CD K) "Derivation.__init__" s_Derivation___init__) : Mz P w K mg base 4 "Derivation" (CD K) (sp_dinit K) := by
  refine mz_of A T.mD sc_Derivation___init__ (fun _ _ _ _ _ _ us hl => match us, hl with | [_, _], _ => rfl) (fun vs H Q E h => ?_) (fun f cdv A outer s H vs Q E hr h => ?_)
  · obtain ⟨p, dx, lf, n, fs, rfl, _⟩ := h
    rfl
  · obtain ⟨p, dx, lf, n, fs, rfl, hp, hn, hF, hfl, ok, k⟩ := h
    refine ⟨_, (pss_cons (ps_fld (pv 0) pe_dnewT rfl)
      (pss_cons (ps_fld (pv 0) pe_dnewT rfl)
      (pss_cons (ps_fld (pv 0) (pe_lst pa_nil) rfl)
      (pss_cons (ps_fld (pv 0) pe_dnewK rfl)
      (pss_cons (ps_for PassesOwn.never rfl (pi_enum rfl T.b_enumerate (pa_cons (pv 1) pa_nil)) (pg_tup rfl (pgs_cons (pg_name (i := 2) sc_Derivation___init__.nd rfl (Or.inl rfl)) (pgs_cons (pg_name (i := 3) sc_Derivation___init__.nd rfl (Or.inl rfl)) pgs_nil)))
          (pss_one (ps_for PassesOwn.never rfl (pi_list (pcl c_stated_pairs (hr.mono (by decide)) rfl (pa_cons (pv 3) pa_nil))) (pg_tup rfl (pgs_cons (pg_name (i := 4) sc_Derivation___init__.nd rfl (Or.inl rfl)) (pgs_cons (pg_name (i := 5) sc_Derivation___init__.nd rfl (Or.inl rfl)) pgs_nil)))
              (pss_one (ps_expr (pmt c_add (hr.mono (by decide)) (pv 0) (pa_cons (pv 4) (pa_cons (pv 5) (pa_cons (pe_tup (pa_cons (pk T.FACT) (pa_cons (pv 2) pa_nil))) (pa_cons (pe_lst pa_nil) pa_nil))))))))))
      (pss_cons (ps_setLc (i := 6) (own := [("number", 2), ("fact", 3)]) (g := gTup K 2 (gCons (gName 2) (gCons (gName 3) gNil)))  (by rfl) sc_Derivation___init__.nd rfl rfl (sw_true rfl rfl rfl (by decide +kernel)) (pi_enum rfl T.b_enumerate (pa_cons (pv 1) pa_nil)) (blkOk_by (own := [("number", 2), ("fact", 3)]) (N := N_Derivation___init__) (sc := defScope s_Derivation___init__) (by decide +kernel)) (fun _ _ _ _ _ => (pg_tup (by rfl) (pgs_cons (pg_name (i := 2) sc_Derivation___init__.nd rfl (Or.inl rfl)) (pgs_cons (pg_name (i := 3) sc_Derivation___init__.nd rfl (Or.inl rfl)) pgs_nil)))) (fun _ _ _ _ _ => (pts_one (pt_cmpR op_eq (pe_ix (r := rIxT K) ix_tup (pv 3) pe_int (fun _ _ => rfl)) (pk T.EQUIVALENT) (nomark _)))) (fun _ _ _ _ _ => (pe_tup (pa_cons (pv 2) (pa_cons (pv 3) pa_nil)))))
      (pss_one (ps_while PassesOwn.never (pt_cmpR (op_neD hr.units) (pe_fld (pv 0) rfl) (pe_lst pa_nil) (nomark _)) (pss_cons (ps_asg (pe_bm PySem.F.plainAttrs_list PySem.F.slot_list_pop PySem.F.type_list_pop mt_popAt (pe_fld (pv 0) rfl) (pa_cons pe_int pa_nil)) (pg_tup rfl (pgs_cons (pg_name (i := 4) sc_Derivation___init__.nd rfl (Or.inl rfl)) (pgs_cons (pg_name (i := 5) sc_Derivation___init__.nd rfl (Or.inl rfl)) pgs_nil))))
          (pss_cons (ps_for PassesOwn.never rfl (pi_list (pv 6)) (pg_tup rfl (pgs_cons (pg_name (i := 2) sc_Derivation___init__.nd rfl (Or.inl rfl)) (pgs_cons (pg_name (i := 3) sc_Derivation___init__.nd rfl (Or.inl rfl)) pgs_nil)))
              (pss_one (ps_for PassesOwn.never rfl (pi_list (pcl c_copies (hr.mono (by decide)) rfl (pa_cons (pv 3) (pa_cons (pv 4) (pa_cons (pv 5) pa_nil))))) (pg_tup rfl (pgs_cons (pg_name (i := 7) sc_Derivation___init__.nd rfl (Or.inl rfl)) (pgs_cons (pg_name (i := 8) sc_Derivation___init__.nd rfl (Or.inl rfl)) pgs_nil)))
                  (pss_one (ps_expr (pmt c_add (hr.mono (by decide)) (pv 0) (pa_cons (pv 7) (pa_cons (pv 8) (pa_cons (pe_tup (pa_cons (pk T.COPY) (pa_cons (pv 2) (pa_cons (pv 4) (pa_cons (pv 5) pa_nil))))) (pa_cons (pe_lst (pa_cons (pe_tup (pa_cons (pv 4) (pa_cons (pv 5) pa_nil))) pa_nil)) pa_nil))))))))))
          (pss_cons (ps_expr (pmt c_extend (hr.mono (by decide)) (pv 0) (pa_cons (pv 4) (pa_cons (pv 5) pa_nil))))
          (pss_one (ps_expr (pmt c_extend (hr.mono (by decide)) (pv 0) (pa_cons (pv 5) (pa_cons (pv 4) pa_nil)))))))))))))))), ?_⟩
    refine der_start T hp (fun G => ev_var rfl) fun D0 H1 f1 hD0 => ?_
    obtain ⟨us, hlf, hul, hat⟩ := id hF
    have nlf : lf ≠ p := fun z => by rw [z, hp] at hlf; cases hlf
    refine der_stated (K := K) hp hn hF hfl ok f1 hD0 fun y2 y3 y4 y5 D es H2 f2 hD oke st => ?_
    have lf2 := df_fr f2 _ _ nlf hlf
    refine Go.here (go_setP (tk_eqs (K := K) (fs := fs) (us := us) rfl rfl lf2 hul hfl (fun i v f a b => (hat i v f a b).fr (df_fr f2) hp) (fun x y => ⟨rfl, rfl, rfl⟩)) fun v3 H3 e3 r3 => ?_)
    obtain ⟨le, acc, rfl, hle, hle3, js, hE, hJ⟩ := r3
    rw [hul] at hJ
    intro H4 e4
    have e24 := e3.trans e4
    refine Evl.s_while (fun m σ' H' => ∃ y2 y3 y4 y5 y7 y8 D es q, σ' = [some (.ref p), some (.ref lf), y2, y3, y4, y5, some (.ref le), y7, y8] ∧ DF [p] (D.ow p) H H' ∧ DerAt K H' p D es q ∧ EntsOk n fs es ∧ Work fs es q ∧ q.length ≤ es.length ∧ (∀ f ∈ fs, ∀ a b, (a, b) ∈ statedP f → keyP a b ∈ keysE es) ∧
      H' le = some (.lst acc) ∧ le ∉ D.ow p ∧ EqAt H' us acc js ∧ m = 2 * (n * n - es.length) + q.length) _ ⟨_, _, _, _, _, _, D, es, keysE es, rfl, f2.trans (DF.of e24), hD.mono e24, oke, work_start, by rw [keysE_len]; exact Nat.le_refl _, st, e4 _ _ hle3, hD.out hle, hE.te (te_of e4), rfl⟩ (fun m σ' H' hM => ?_)
    obtain ⟨y2, y3, y4, y5, y7, y8, D, es, q, rfl, f5, hD, oke, hw, hq, st, hle5, nle, hE5, rfl⟩ := hM
    obtain ⟨dx', ho⟩ := hD.obj
    obtain ⟨vq, hvq, hqp⟩ := hD.qu
    refine ⟨!decide (q = []), Evl.et_test (ev_neQ (ev_fQ T (ev_var rfl) ho) hvq hqp), fun hb H6 e6 => ?_, fun hb H6 e6 => ?_⟩
    · match q, hb with
      | k0 :: q, hb =>
        refine ⟨fun σ' H' => ∃ m', m' < _ ∧ _, fun _ _ h => h, ?_⟩
        refine der_turn (K := K) hp hn hul hat ok (f5.trans (DF.of e6)) (hD.mono e6) oke hw hq (e6 _ _ hle5) nle (hE5.te (te_of e6)) hJ (fun y2 y3 y4 y5 y7 y8 D' new H' f7 d7 ok7 w7 => ?_) T
        have l7 := ok7.len
        have lk := keysE_len new
        rw [List.length_append] at l7
        rw [List.length_cons] at hq
        refine ⟨2 * (n * n - (es ++ new).length) + (q ++ keysE new).length, ?_, _, _, _, _, _, _, D', es ++ new, q ++ keysE new, rfl, (f5.trans (DF.of e6)).trans f7, d7, ok7, w7, ?_, fun f hf a b hab => ?_, f7.keep nle (e6 _ _ hle5), ?_, hE5.te ((te_of e6).trans ((hD.mono e6).te f7)), rfl⟩
        · rw [List.length_append, List.length_append, List.length_cons, lk]
          omega
        · rw [List.length_append, List.length_append, lk]
          omega
        · rw [keysE_append]
          exact List.mem_append.mpr (.inl (st f hf a b hab))
        · intro z
          rcases f7.2 le z with y | y
          · exact nle y
          · rw [e6 _ _ hle5] at y; cases y
    · have hb : q = [] := by simpa using hb
      subst hb
      exact k H6 D es ((df_fr f5).trans (FrP.of e6)) (hD.mono e6) oke fun a b hab => work_done oke hw ok st hab
end
end Hfb
namespace Hfb
open PySem PySem.Spec PyProof.Rows L2
open Evl (Ex Ev EvT EvA EvL EvU ev_op ev_var ev_c ev_call ea_cons ea_nil)
section
variable {P : Program} {w : World} {K : PySem.W.Frag} {mg : Str → Option Value} {base : Heap} {H : Hp}
local macro_rules | `(tactic| walk_at "spv") => `(tactic| first | exact v_isInt | exact v_isIntD | exact v_twoPos | exact v_isSeq (.t (by assumption)) | exact v_isSeq (.l (by assumption)) | exact v_isDist (by assumption) (by omega))
local macro_rules | `(tactic| walk_at "rv") => `(tactic| first
  | with_reducible exact Evl.rv_I0
  | ((with_reducible refine Evl.rv_eq ?_); rfl)
  | ((with_reducible refine Evl.rv_ne ?_); rfl)
  | ((with_reducible apply Evl.rv_ixT); (first | assumption | exact Evl.st_of (by assumption)); (first | rfl | assumption))
  | ((with_reducible apply Evl.rv_ixL); (first | assumption | exact Evl.sq_of (by assumption)); (first | rfl | assumption))
  | exact isi_int
  | exact isi_bool
  | exact isi_str
  | exact rc_max
  | exact rc_min
  | (apply rc_lenL; first | assumption | exact Evl.sq_of (by assumption))
  | (apply rc_lenT; first | assumption | exact Evl.st_of (by assumption))
  | walk_at "fld"
  | walk_at "spv")
local macro_rules | `(tactic| walk_at "ev") => `(tactic| first
  | ((with_reducible apply Evl.ev_var); rfl)
  | with_reducible exact Evl.ev_c
  | with_reducible exact Evl.ea_nil
  | ((with_reducible apply Evl.ea_cons) <;> walk_at "ev")
  | ((with_reducible apply Evl.ev_op) <;> walk_at "ev")
  | ((with_reducible apply ev_chain) <;> walk_at "ev")
  | ((with_reducible apply Evl.ev_cb) <;> walk_at "ev")
  | ((with_reducible apply Evl.ev_call) <;> walk_at "ev")
  | ((with_reducible apply Evl.ev_notV) <;> walk_at "ev")
  | ((with_reducible apply ev_andU) <;> walk_at "ev")
  | ((with_reducible apply ev_orU) <;> walk_at "ev")
  | ((with_reducible apply Evl.et_B) <;> walk_at "ev")
  | ((with_reducible apply Evl.et_test) <;> walk_at "ev")
  | ((with_reducible apply Evl.et_not) <;> walk_at "ev")
  | ((with_reducible apply et_andU) <;> walk_at "ev")
  | ((with_reducible apply et_orU) <;> walk_at "ev")
  | walk_at "rv")
/-! ### dicts by their keys -/
theorem sub_len {α : Type} [DecidableEq α] : ∀ {l m : List α}, l.Nodup → (∀ x ∈ l, x ∈ m) → l.length ≤ m.length
  | [], m, _, _ => Nat.zero_le _
  | x :: r, m, h, hs => by
    obtain ⟨h1, h2⟩ := List.nodup_cons.mp h
    have hx := hs x (by simp)
    have := sub_len (l := r) (m := m.erase x) h2 fun y hy => (List.mem_erase_of_ne (fun z => h1 (by rw [← z]; exact hy))).mpr (hs y (by simp [hy]))
    rw [List.length_erase_of_mem hx] at this
    have : 0 < m.length := List.length_pos_of_mem hx
    rw [List.length_cons]
    omega
section
variable {κ : Type} [DecidableEq κ]
theorem val_mem {k : κ} : ∀ {kvs : List (κ × V)}, (valV kvs k).isSome = true ↔ k ∈ kvs.map (·.1)
  | [] => by simp [valV_nil]
  | p :: r => by
    by_cases e : p.1 = k
    · rw [valV_pos e]
      simp [e]
    · rw [valV_neg e, val_mem (kvs := r)]
      simp [Ne.symm e]
theorem keys_put {kvs : List (κ × V)} {k : κ} {v : V} (h : (kvs.map (·.1)).Nodup) : ((putK kvs k v).map (·.1)).Nodup := by
  unfold putK
  split
  · rw [List.map_map]
    rw [show kvs.map ((fun x => x.1) ∘ fun kv => if kv.1 = k then (kv.1, v) else kv) = kvs.map (·.1) from List.map_congr_left fun x _ => by show (if x.1 = k then (x.1, v) else x).1 = x.1; split <;> rfl]
    exact h
  · rename_i hn
    rw [List.map_append, List.nodup_append]
    refine ⟨h, by simp, fun x hx y hy z => hn ?_⟩
    have hy := List.mem_singleton.mp hy
    obtain ⟨w, hw, e⟩ := List.mem_map.mp hx
    rw [List.any_eq_true]
    exact ⟨w, hw, decide_eq_true (e.trans (z.trans hy))⟩
theorem val_at {kv : κ × V} : ∀ {kvs : List (κ × V)} {i : Nat}, (kvs.map (·.1)).Nodup → kvs[i]? = some kv → valV kvs kv.1 = some kv.2
  | [], _, _, h => by simp at h
  | p :: r, 0, _, h => by
    cases h
    exact valV_pos rfl
  | p :: r, i + 1, nd, h => by
    rw [List.map_cons, List.nodup_cons] at nd
    have hm : kv ∈ r := List.mem_of_getElem? (show r[i]? = some kv by simpa using h)
    rw [valV_neg (fun e => nd.1 (List.mem_map.mpr ⟨kv, hm, e.symm⟩))]
    exact val_at (i := i) (kvs := r) nd.2 (by simpa using h)
end
theorem fold_val {k : List Key} : ∀ {more kvs : List (List Key × V)}, (valV (foldT kvs more) k).isSome = true ↔ (valV kvs k).isSome = true ∨ k ∈ more.map (·.1)
  | [], kvs => by simp [foldT]
  | x :: r, kvs => by
    show (valV (foldT (putK kvs x.1 x.2) r) k).isSome = true ↔ _
    rw [fold_val (more := r), valV_put]
    by_cases e : k = x.1
    · rw [if_pos e]
      simp [e]
    · rw [if_neg e]
      simp [e]
theorem fold_keys : ∀ {more kvs : List (List Key × V)}, (kvs.map (·.1)).Nodup → ((foldT kvs more).map (·.1)).Nodup
  | [], kvs, h => h
  | x :: r, kvs, h => fold_keys (more := r) (kvs := putK kvs x.1 x.2) (keys_put h)
theorem fold_ne : ∀ {more kvs : List (List Key × V)}, kvs ≠ [] → foldT kvs more ≠ []
  | [], kvs, h => h
  | x :: r, kvs, h => fold_ne (more := r) (kvs := putK kvs x.1 x.2) (fun z => by
    have : (valV (putK kvs x.1 x.2) x.1).isSome = true := by rw [valV_put, if_pos rfl]; rfl
    rw [z] at this
    cases this)
/-- the pairs of a list, by their tuples -/
theorem zs_of : ∀ {vs : List V} {us : List Pr}, PairsAt H vs us → ∃ zs : List (List Key × Addr), vs = (zs.map (·.2)).map V.ref ∧ zs.map (·.1) = us.map kK ∧ ∀ z ∈ zs, H z.2 = some (.tup (z.1.map kV))
  | [], [], _ => ⟨[], rfl, rfl, fun z hz => by cases hz⟩
  | [], _ :: _, h => by have := h.1; simp at this
  | _ :: _, [], h => by have := h.1; simp at this
  | v :: vs, u :: us, h => by
    obtain ⟨t, rfl, ht⟩ := h.2 0 v u rfl rfl
    obtain ⟨zs, h1, h2, h3⟩ := zs_of (vs := vs) (us := us) ⟨by have := h.1; simpa using this, fun i v xy a b => h.2 (i + 1) v xy a b⟩
    refine ⟨(kK u, t) :: zs, by rw [h1]; rfl, by rw [List.map_cons, List.map_cons, h2], fun z hz => ?_⟩
    rcases List.mem_cons.mp hz with e | e
    · rw [e]; exact ht
    · exact h3 z e
theorem kK_mem {k : Pr} {l : List Pr} : kK k ∈ l.map kK ↔ k ∈ l := by
  rw [List.mem_map]
  constructor
  · rintro ⟨x, hx, e⟩
    rw [← kK_eq.mp e]
    exact hx
  · intro h
    exact ⟨k, h, rfl⟩
theorem steps_rev {us : List V} {ss : List Step} (h : StepsAt H us ss) : StepsAt H us.reverse ss.reverse := by
  refine ⟨by rw [List.length_reverse, List.length_reverse, h.1], fun i v s a b => ?_⟩
  have hi := lt_of_get a
  rw [List.length_reverse] at hi
  rw [List.getElem?_reverse hi] at a
  rw [List.getElem?_reverse (by rw [← h.1]; exact hi), ← h.1] at b
  exact h.2 _ v s a b
theorem keys_mono {H H' : Hp} (e : TEx H H') {kvs : List (List Key × V)} {bs : List Addr} (h : IsKeys H kvs bs) : IsKeys H' kvs bs := by
  unfold IsKeys at h ⊢
  induction h with
  | nil => exact .nil
  | cons h1 h2 ih => exact .cons (e _ _ h1) ih
theorem keys_at {kvs : List (List Key × V)} {bs : List Addr} (h : IsKeys H kvs bs) : kvs.length = bs.length ∧ ∀ (i : Nat) kv b, kvs[i]? = some kv → bs[i]? = some b → H b = some (.tup (kv.1.map kV)) := by
  unfold IsKeys at h
  induction h with
  | nil => exact ⟨rfl, fun i kv b x => by simp at x⟩
  | cons h1 h2 ih =>
    refine ⟨by rw [List.length_cons, List.length_cons, ih.1], fun i kv b x y => ?_⟩
    match i with
    | 0 =>
      cases x
      cases y
      exact h1
    | i + 1 => exact ih.2 i kv b (by simpa using x) (by simpa using y)
section
variable {σ : L2.St} {ta te : TE}
theorem tk_keysL {d : Addr} {kvs : List (List Key × V)} (h : Ev ta σ H (.ref d)) (hd : H d = some (.dT kvs)) :
    Tk (tCB (fun xs H Q => ∃ d kvs, xs = [V.ref d] ∧ Rd H d (.dT kvs) ∧ ∀ p bs, H p = none → IsKeys H kvs bs → Q (.ref p) (upd H p (.lst (bs.map V.ref)))) (tCons ta tNil)) σ H (fun v H' => ∃ c bs, v = .ref c ∧ H c = none ∧ H' c = some (.lst (bs.map V.ref)) ∧ IsKeys H' kvs bs) := fun H1 e Q q =>
  h H1 e _ fun H2 e2 => ⟨d, kvs, rfl, .inl ((e.trans e2) _ _ hd), fun c bs hc hk => q _ _ (e2.trans (Ex.new hc)) ⟨c, bs, rfl, Evl.fresh_back (e.trans e2) hc, upd_same, by
    exact keys_mono (te_of (Ex.new hc)) hk⟩⟩
theorem tk_revL {R : V → Hp → Prop} (h : Tk te σ H R) (hR : ∀ v H1, R v H1 → ∃ a xs, v = .ref a ∧ H1 a = some (.lst xs)) : Tk (tRevL K te) σ H (fun v H' => ∃ a xs c H1, R (.ref a) H1 ∧ H1 a = some (.lst xs) ∧ v = .ref c ∧ H c = none ∧ H1 c = none ∧ Ex H1 H' ∧ H' c = some (.lst xs.reverse)) := fun H1 e Q q =>
  h H1 e _ fun v H2 e2 r => by
    obtain ⟨a, xs, rfl, ha⟩ := hR v H2 r
    exact ⟨a, xs, rfl, Evl.sq_of ha, fun c hc => q _ _ (e2.trans (Ex.new hc)) ⟨a, xs, c, H2, r, ha, rfl, Evl.fresh_back (e.trans e2) hc, hc, Ex.new hc, upd_same⟩⟩
theorem tk_dcT {a : Addr} {zs : List (List Key × Addr)} (h : Ev te σ H (.ref a)) (ha : H a = some (.lst ((zs.map (·.2)).map V.ref))) (hz : ∀ z ∈ zs, H z.2 = some (.tup (z.1.map kV))) :
    Tk (tDcT te) σ H (fun v H' => ∃ c, v = .ref c ∧ H c = none ∧ H' c = some (.dT (foldT [] (zs.map fun z => (z.1, V.bl true))))) := fun H1 e Q q =>
  h H1 e _ fun H2 e2 => ⟨a, zs, rfl, (e.trans e2) _ _ ha, fun z hz' => (e.trans e2) _ _ (hz z hz'), fun c hc => q _ _ (e2.trans (Ex.new hc)) ⟨c, rfl, Evl.fresh_back (e.trans e2) hc, upd_same⟩⟩
theorem tk_dispT {tk tv : TE} {k : Pr} {u v : V} (hk : Ev tk σ H u) (hp : PairAt H u k) (hv : Ev tv σ H v) : Tk (tDispT tk tv) σ H (fun w H' => ∃ c, w = .ref c ∧ H c = none ∧ H' c = some (.dT [(kK k, v)])) := fun H1 e Q q => fun c hc => by
  obtain ⟨b, rfl, hb⟩ := hp
  have e1 : Ex H (upd H1 c (.dT [])) := e.trans (Ex.new hc)
  refine hk _ e1 _ fun H2 e2 => hv _ (e1.trans e2) _ fun H3 e3 => ?_
  refine ⟨(e2.trans e3) _ _ upd_same, b, kK k, v, rfl, ((e1.trans e2).trans e3) _ _ hb, ?_⟩
  exact q _ _ (Ex.mut ((Ex.new hc).trans (e2.trans e3)) hc) ⟨c, rfl, Evl.fresh_back e hc, upd_same⟩
end
end
end Hfb
namespace Hfb
open PySem PySem.Spec PyProof.Rows L2
open Evl (Ex Ev EvT EvA EvL EvU ev_op ev_var ev_c ev_call ea_cons ea_nil)
section
variable {P : Program} {w : World} {K : PySem.W.Frag} {mg : Str → Option Value} {base : Heap} {H : Hp}
local macro_rules | `(tactic| walk_at "spv") => `(tactic| first | exact v_isInt | exact v_isIntD | exact v_twoPos | exact v_isSeq (.t (by assumption)) | exact v_isSeq (.l (by assumption)) | exact v_isDist (by assumption) (by omega))
local macro_rules | `(tactic| walk_at "rv") => `(tactic| first
  | with_reducible exact Evl.rv_I0
  | ((with_reducible refine Evl.rv_eq ?_); rfl)
  | ((with_reducible refine Evl.rv_ne ?_); rfl)
  | ((with_reducible apply Evl.rv_ixT); (first | assumption | exact Evl.st_of (by assumption)); (first | rfl | assumption))
  | ((with_reducible apply Evl.rv_ixL); (first | assumption | exact Evl.sq_of (by assumption)); (first | rfl | assumption))
  | exact isi_int
  | exact isi_bool
  | exact isi_str
  | exact rc_max
  | exact rc_min
  | (apply rc_lenL; first | assumption | exact Evl.sq_of (by assumption))
  | (apply rc_lenT; first | assumption | exact Evl.st_of (by assumption))
  | walk_at "fld"
  | walk_at "spv")
local macro_rules | `(tactic| walk_at "ev") => `(tactic| first
  | ((with_reducible apply Evl.ev_var); rfl)
  | with_reducible exact Evl.ev_c
  | with_reducible exact Evl.ea_nil
  | ((with_reducible apply Evl.ea_cons) <;> walk_at "ev")
  | ((with_reducible apply Evl.ev_op) <;> walk_at "ev")
  | ((with_reducible apply ev_chain) <;> walk_at "ev")
  | ((with_reducible apply Evl.ev_cb) <;> walk_at "ev")
  | ((with_reducible apply Evl.ev_call) <;> walk_at "ev")
  | ((with_reducible apply Evl.ev_notV) <;> walk_at "ev")
  | ((with_reducible apply ev_andU) <;> walk_at "ev")
  | ((with_reducible apply ev_orU) <;> walk_at "ev")
  | ((with_reducible apply Evl.et_B) <;> walk_at "ev")
  | ((with_reducible apply Evl.et_test) <;> walk_at "ev")
  | ((with_reducible apply Evl.et_not) <;> walk_at "ev")
  | ((with_reducible apply et_andU) <;> walk_at "ev")
  | ((with_reducible apply et_orU) <;> walk_at "ev")
  | walk_at "rv")
/-! ### Derivation.steps_for -/
theorem EntsOk.used {n : Nat} {fs : List Fact} {es : List Ent} (ok : EntsOk n fs es) : ∀ e ∈ es, ∀ u ∈ e.used, u ∈ keysE es := by
  induction ok with
  | nil => intro e he; cases he
  | snoc h v hu hn ih =>
    intro e he u hm
    rw [keysE_append, List.mem_append]
    rcases List.mem_append.mp he with h1 | h1
    · exact .inl (ih e h1 u hm)
    · rw [List.mem_singleton.mp h1] at hm
      exact .inl (hu u hm)
section
variable {σ : L2.St} {td ty te ta : TE} {d b : Addr} {kvs more : List (List Key × V)} {k : List Key}
theorem ev_dinV (hd : H d = some (.dT kvs)) (hb : H b = some (.tup (k.map kV))) (h : Ev ty σ H (.ref b)) (h2 : Ev td σ H (.ref d)) : Ev (tDIn ty td) σ H (.bl (valV kvs k).isSome) := fun H1 e Q q =>
  h H1 e _ fun H2 e2 => h2 H2 (e.trans e2) _ fun H3 e3 => ⟨d, _, rfl, DGet.t (k := k) (((e.trans e2).trans e3) _ _ hd) (((e.trans e2).trans e3) _ _ hb), q H3 (e2.trans e3)⟩
theorem ev_dgetT {v : V} (hd : H d = some (.dT kvs)) (hb : H b = some (.tup (k.map kV))) (hv : valV kvs k = some v) (h1 : Ev td σ H (.ref d)) (h2 : Ev ty σ H (.ref b)) : Ev (tDGet td ty) σ H v := fun H1 e Q q =>
  h1 H1 e _ fun H2 e2 => h2 H2 (e.trans e2) _ fun H3 e3 => ⟨d, v, rfl, hv ▸ DGet.t (k := k) (((e.trans e2).trans e3) _ _ hd) (((e.trans e2).trans e3) _ _ hb), q H3 (e2.trans e3)⟩
theorem s_upd {Dd : Ends} (hd : H d = some (.dT kvs)) (hne : kvs ≠ []) (ha : Ev ta σ H (.ref d)) (h : Tk te σ H (fun v H' => ∃ c, v = .ref c ∧ H c = none ∧ H' c = some (.dT more))) (hz : kvs.length + more.length ≤ 100000) (q : ∀ H1, Ex H H1 → Dd.nx σ (upd H1 d (.dT (foldT kvs more)))) :
    tDrop (tBM K "dict" rUpdT ta (tCons te tNil)) Dd σ H := ha H (Ex.refl H) _ fun H1 e1 => ⟨Or.inr (Or.inr (Or.inl ⟨rfl, Or.inr ⟨_, e1 _ _ hd⟩⟩)), h H1 e1 _ fun v H2 e2 r => by
    obtain ⟨c, rfl, hc, h2⟩ := r
    exact ⟨d, c, kvs, more, rfl, rfl, (fun z => by rw [← z, hd] at hc; cases hc), (e1.trans e2) _ _ hd, h2, hne, Evl.sz_of hz, q H2 (e1.trans e2)⟩⟩
end
abbrev trM (zs : List (List Key × Addr)) : List (List Key × V) := zs.map fun z => (z.1, V.bl true)
def NewSt (H : Hp) (ss : List Step) (v : V) (H' : Hp) : Prop := ∃ a us, v = .ref a ∧ H a = none ∧ H' a = some (.lst us) ∧ StepsAt H' us ss
abbrev pickE (es : List Ent) (k : Pr) : List Step := (pick es.reverse [k]).reverse
def sp_stepsFor (K : PySem.W.Frag) : Sp := fun vs H Q _ => ∃ (p : Addr) (D : DS) (es : List Ent) (q : List Pr) (n : Nat) (fs : List Fact) (u : V) (kk : Pr), vs = [.ref p, u] ∧ DerAt K H p D es q ∧ n ≤ 60 ∧ EntsOk n fs es ∧ PairAt H u kk ∧
  ∀ v H', Ex H H' → NewSt H (pickE es kk) v H' → Q v H'
theorem v_stepsFor {p : Addr} {D : DS} {es : List Ent} {q : List Pr} {n : Nat} {fs : List Fact} {u : V} {kk : Pr} (hD : DerAt K H p D es q) (hn : n ≤ 60) (ok : EntsOk n fs es) (hu : PairAt H u kk) : SpK (sp_stepsFor K) [.ref p, u] H (NewSt H (pickE es kk)) := fun H1 e Q k E =>
  ⟨p, D, es, q, n, fs, u, kk, rfl, hD.mono e, hn, ok, hu.te (te_of e), fun v H' e' r => k v H' e' (by obtain ⟨a, us, h1, h2, h3⟩ := r; exact ⟨a, us, h1, Evl.fresh_back e h2, h3⟩)⟩
theorem mt_stepsFor (T : Tx K mg) (A : AtM K (CD K) "steps_for" "Derivation.steps_for" s_Derivation_steps_for) : Mt P w K mg base 1 (CD K) "steps_for" (sp_stepsFor K) := by
  refine mt_of A T.cD sc_Derivation_steps_for (fun _ _ _ _ _ _ us hl => match us, hl with | [_, _], _ => rfl) (fun vs H Q E h => ?_) (fun f cdv A outer s H vs Q E hr h => ?_)
  · obtain ⟨p, D, es, q, n, fs, u, kk, rfl, _⟩ := h
    rfl
  · obtain ⟨p, D, es, q, n, fs, u, kk, rfl, hD, hn, ok, hu, k⟩ := h
    refine ⟨_, (pss_cons (ps_set (i := 2) sc_Derivation_steps_for.nd rfl (Or.inl rfl) (pe_dispT (hu_of hr) (pv 1) pe_bl))
      (pss_cons (ps_set (i := 3) sc_Derivation_steps_for.nd rfl (Or.inl rfl) (pe_lst pa_nil))
      (pss_cons (ps_for PassesOwn.never rfl (pi_list (pe_revL (pe_callTy (call_list_dT rfl) rfl T.b_list (by decide +kernel) (pa_cons (pe_fld (pv 0) rfl) pa_nil)))) (pg_name (i := 4) sc_Derivation_steps_for.nd rfl (Or.inl rfl))
          (pss_one (ps_if (pt_cmp (pc_din (hu_of hr) (pv 4) (pv 2))) (pss_cons (ps_expr (pe_bm PySem.F.plainAttrs_dict PySem.F.slot_dict_update PySem.F.type_dict_update (mt_updT (hu_of hr)) (pv 2) (pa_cons (pe_dcT rfl (hu_of hr) rfl (by decide +kernel) (by decide +kernel) (by decide +kernel) (by decide) (pe_dget (hu_of hr) (pe_fld (pv 0) rfl) (pv 4) (fun _ _ => rfl))) pa_nil)))
            (pss_one (ps_expr (pe_bm PySem.F.plainAttrs_list PySem.F.slot_list_append PySem.F.type_list_append mt_append (pv 3) (pa_cons (pe_dget (hu_of hr) (pe_fld (pv 0) rfl) (pv 4) (fun _ _ => rfl)) pa_nil))))) pss_nil)))
      (pss_one (ps_ret (pe_revL (pv 3))))))), ?_⟩
    refine Go.here (go_setP (tk_dispT (ev_var rfl) hu ev_c) fun v1 H1 e1 r1 => ?_)
    obtain ⟨nd, rfl, hnd, hnd1⟩ := r1
    refine go_setP (tk_lst ea_nil (by simp)) fun v2 H2 e2 r2 => ?_
    obtain ⟨fl, rfl, hfl, hfl2⟩ := r2
    intro H3 e3
    have e03 := (e1.trans e2).trans e3
    have hD3 := hD.mono e03
    obtain ⟨dx, ho⟩ := hD3.obj
    obtain ⟨kS, hS0, lS, aS⟩ := hD.st
    obtain ⟨kU, hU0, lU, aU⟩ := hD.us
    have hS := e03 _ _ hS0
    have lE := ents_small ok hn
    have nfl : fl ≠ nd := fun z => by rw [z, hnd1] at hfl; cases hfl
    have hfl0 := Evl.fresh_back e1 hfl
    have hnd3 := (e2.trans e3) _ _ hnd1
    have hfl3 := e3 _ _ hfl2
    have mapS : kS.map (·.1) = (keysE es).map kK := by
      apply List.ext_getElem?
      intro i
      rw [List.getElem?_map, List.getElem?_map]
      unfold keysE
      rw [List.getElem?_map]
      cases hk : kS[i]? with
      | none =>
        rw [List.getElem?_eq_none (by rw [← lS]; exact List.getElem?_eq_none_iff.mp hk)]
        rfl
      | some kv =>
        obtain ⟨e, he⟩ := get_some (xs := es) (i := i) (by rw [← lS]; exact lt_of_get hk)
        rw [he]
        exact congrArg some (aS i kv e hk he).1
    have mapU : kU.map (·.1) = (keysE es).map kK := by
      apply List.ext_getElem?
      intro i
      rw [List.getElem?_map, List.getElem?_map]
      unfold keysE
      rw [List.getElem?_map]
      cases hk : kU[i]? with
      | none =>
        rw [List.getElem?_eq_none (by rw [← lU]; exact List.getElem?_eq_none_iff.mp hk)]
        rfl
      | some kv =>
        obtain ⟨e, he⟩ := get_some (xs := es) (i := i) (by rw [← lU]; exact lt_of_get hk)
        rw [he]
        exact congrArg some (aU i kv e hk he).1
    have ndK : ((keysE es).map kK).Nodup := by
      refine List.Pairwise.map _ (R := fun a b => a ≠ b) (fun a b h z => h (kK_eq.mp z)) ok.nodup
    refine q_forK (K := K) (tk_revL (K := K) (tk_keysL (ev_fS T (ev_var rfl) ho) hS) (fun v H r => by obtain ⟨c, bs, h1, _, h2, _⟩ := r; exact ⟨c, _, h1, h2⟩)) fun v H4 e4 r4 => ?_
    obtain ⟨c0, xs, c, G, ⟨c0', bs, hc0, hc0f, hbs, hks⟩, hc0x, rfl, hc, _, g4, hc4⟩ := r4
    cases hc0
    rw [hbs] at hc0x
    have exs : bs.map V.ref = xs := HO.lst.inj (Option.some.inj hc0x)
    subst exs
    obtain ⟨lb, ab⟩ := keys_at (keys_mono (te_of g4) hks)
    have lbs : bs.length = es.length := by rw [← lb]; exact lS
    have ncn : c ≠ nd := fun z => by rw [z, hnd3] at hc; cases hc
    have ncf : c ≠ fl := fun z => by rw [z, hfl3] at hc; cases hc
    refine ⟨c, (bs.map V.ref).reverse, fun i σ' H' => ∃ y4 N kN us found, σ' = [some (.ref p), some u, some (.ref nd), some (.ref fl), y4, none] ∧ Ex H H' ∧ TEx H4 H' ∧ H' c = some (.lst (bs.map V.ref).reverse) ∧ H' nd = some (.dT kN) ∧ kN ≠ [] ∧ (kN.map (·.1)).Nodup ∧ (∀ x ∈ kN.map (·.1), x ∈ (kk :: keysE es).map kK) ∧
      (∀ k : Pr, (valV kN (kK k)).isSome = true ↔ k ∈ N) ∧ H' fl = some (.lst us) ∧ StepsAt H' us found ∧ found.length ≤ i ∧ found ++ pick (es.reverse.drop i) N = pick es.reverse [kk], rfl, Evl.sq_of hc4, ?_, fun i σ' H' _ hPv => ?_, fun i x σ' H' hi hPv => ?_, fun σ' H' hPv => ?_⟩
    · refine ⟨none, [kk], _, [], [], rfl, e03.trans e4, fun _ _ h => h, hc4, e4 _ _ hnd3, by simp, by simp, fun x hx => by simpa using .inl (by simpa using hx), fun l => ?_, e4 _ _ hfl3, StepsAt.nil, Nat.le_refl _, rfl⟩
      rw [val_mem]
      show kK l ∈ [kK kk] ↔ l ∈ [kk]
      rw [List.mem_singleton, List.mem_singleton, kK_eq]
    · obtain ⟨_, _, _, _, _, _, _, _, h, _⟩ := hPv
      exact Evl.sq_of h
    · obtain ⟨y4, N, kN, us, found, rfl, e', t', hc', hnd', hne, hnk, hsub, hN, hfl', hst, hfi, hpick⟩ := hPv
      have hil := lt_of_get hi
      rw [List.length_reverse, List.length_map] at hil
      rw [List.getElem?_reverse (by rw [List.length_map]; exact hil), List.length_map, List.getElem?_map] at hi
      obtain ⟨b, hb, rfl⟩ := Option.map_eq_some_iff.mp hi
      obtain ⟨e, he⟩ := get_some (xs := es) (i := bs.length - 1 - i) (by omega)
      obtain ⟨kv, hkv⟩ := get_some (xs := kS) (i := bs.length - 1 - i) (by omega)
      obtain ⟨kw, hkw⟩ := get_some (xs := kU) (i := bs.length - 1 - i) (by omega)
      have hbt := t' _ _ (ab _ kv b hkv hb)
      obtain ⟨k1, sS⟩ := aS _ kv e hkv he
      obtain ⟨k2, sU⟩ := aU _ kw e hkw he
      rw [k1] at hbt
      have hD' := hD.mono e'
      obtain ⟨dx', ho'⟩ := hD'.obj
      have e34 : Ex H3 H4 := e4
      have erev : es.reverse.drop i = e :: es.reverse.drop (i + 1) := by
        rw [List.drop_eq_getElem_cons (by rw [List.length_reverse]; omega)]
        congr 1
        have : es.reverse[i]? = some e := by rw [List.getElem?_reverse (by omega), ← lbs]; exact he
        rw [List.getElem?_eq_getElem (by rw [List.length_reverse]; omega)] at this
        exact Option.some.inj this
      rw [erev] at hpick
      have lkN := sub_len hnk hsub
      rw [List.length_map, List.length_map, List.length_cons, keysE_len] at lkN
      refine Evl.s_if (Evl.et_B (ev_dinV (k := kK e.key) hnd' hbt (ev_var rfl) (ev_var rfl))) (fun hin H5 e5 => ?_) (fun hin H5 e5 => ?_)
      · have hin := (hN e.key).mp hin
        have hpick' : (found ++ [e.step]) ++ pick (es.reverse.drop (i + 1)) (N ++ e.used) = pick es.reverse [kk] := by
          rw [← hpick]
          show _ = found ++ (if e.key ∈ N then e.step :: pick (es.reverse.drop (i + 1)) (N ++ e.used) else _)
          rw [if_pos hin, List.append_assoc]
          rfl
        -- self.uses[own]
        have hD5 := hD'.mono e5
        obtain ⟨dx5, ho5⟩ := hD5.obj
        have e05 := e'.trans e5
        have hbt5 := e5 _ _ hbt
        obtain ⟨ua, uvs, hkw2, _, hua, hup⟩ := sU
        obtain ⟨zs, hz1, hz2, hz3⟩ := zs_of (hup.te (te_of e05))
        have vU : valV kU (kK e.key) = some (.ref ua) := by rw [← k2, ← hkw2]; exact val_at (by rw [mapU]; exact ndK) hkw
        have vS : valV kS (kK e.key) = some kv.2 := by rw [← k1]; exact val_at (by rw [mapS]; exact ndK) hkv
        have memM : ∀ k, k ∈ (foldT [] (trM zs)).map (·.1) ↔ k ∈ e.used.map kK := fun k => by
          rw [← val_mem, fold_val, List.map_map, ← hz2]
          simp [valV_nil]
        have usub := ok.used e (List.mem_of_getElem? he)
        have lM := sub_len (m := (keysE es).map kK) (fold_keys (more := trM zs) (kvs := []) List.nodup_nil) (fun x hx => by
          obtain ⟨y, hy, rfl⟩ := List.mem_map.mp ((memM x).mp hx)
          exact kK_mem.mpr (usub y hy))
        rw [List.length_map, List.length_map, keysE_len] at lM
        refine q_seq (s_upd (K := K) (more := foldT [] (trM zs)) (e5 _ _ hnd') hne (ev_var rfl) (tk_dcT (a := ua) (zs := zs) (ev_dgetT (e05 _ _ hU0) hbt5 vU (ev_fU T (ev_var rfl) ho5) (ev_var rfl)) (by rw [← hz1]; exact e05 _ _ hua) hz3) (by omega) fun H6 e6 => ?_)
        have hnd6 := e6 _ _ (e5 _ _ hnd')
        have eG : Ex H (upd H6 nd (.dT (foldT kN (foldT [] (trM zs))))) := Ex.mut (e05.trans e6) hnd
        have tG : TEx H5 (upd H6 nd (.dT (foldT kN (foldT [] (trM zs))))) := (te_of e6).trans (te_mutN (fun ys z => by rw [hnd6] at z; cases z))
        have hflG : (upd H6 nd (.dT (foldT kN (foldT [] (trM zs))))) fl = some (.lst us) := by rw [upd_ne nfl]; exact e6 _ _ (e5 _ _ hfl')
        have hcG : (upd H6 nd (.dT (foldT kN (foldT [] (trM zs))))) c = some (.lst (bs.map V.ref).reverse) := by rw [upd_ne ncn]; exact e6 _ _ (e5 _ _ hc')
        have hndG : (upd H6 nd (.dT (foldT kN (foldT [] (trM zs))))) nd = some (.dT (foldT kN (foldT [] (trM zs)))) := upd_same
        generalize upd H6 nd (.dT (foldT kN (foldT [] (trM zs)))) = G6 at eG tG hflG hcG hndG
        obtain ⟨dx6, ho6⟩ := (hD.mono eG).obj
        refine s_app2 (K := K) (R := fun v H' => v = kv.2) hflG (ev_var rfl) (Tk.of (ev_dgetT (eG _ _ hS0) (tG _ _ hbt5) vS (ev_fS T (ev_var rfl) ho6) (ev_var rfl))) (by rw [hst.1]; omega) fun v H7 e7 r7 => ?_
        obtain rfl := r7
        have tF : TEx H5 (upd H7 fl (.lst (us ++ [kv.2]))) := (tG.trans (te_of e7)).trans (te_mut (e7 _ _ hflG))
        have eF : Ex H (upd H7 fl (.lst (us ++ [kv.2]))) := Ex.mut (eG.trans e7) hfl0
        refine ⟨_, N ++ e.used, foldT kN (foldT [] (trM zs)), us ++ [kv.2], found ++ [e.step], rfl, eF, (t'.trans (te_of e5)).trans tF, ?_, ?_, fold_ne hne, fold_keys hnk, fun x hx => ?_, fun l => ?_, upd_same, ((hst.te (te_of e5)).te tF).snoc (sS.te (te_of eF)), by rw [List.length_append, List.length_singleton]; omega, hpick'⟩
        · rw [upd_ne ncf]; exact e7 _ _ hcG
        · rw [upd_ne (Ne.symm nfl)]; exact e7 _ _ hndG
        · rcases fold_val.mp (val_mem.mpr hx) with h | h
          · exact hsub x (val_mem.mp h)
          · obtain ⟨y, hy, rfl⟩ := List.mem_map.mp ((memM x).mp h)
            exact kK_mem.mpr (List.mem_cons_of_mem _ (usub y hy))
        · rw [fold_val, hN, memM, kK_mem, List.mem_append]
      · have hin : e.key ∉ N := fun z => by rw [(hN e.key).mpr z] at hin; cases hin
        refine ⟨_, N, kN, us, found, rfl, e'.trans e5, t'.trans (te_of e5), e5 _ _ hc', e5 _ _ hnd', hne, hnk, hsub, hN, e5 _ _ hfl', hst.te (te_of e5), by omega, ?_⟩
        rw [← hpick]
        show _ = found ++ (if e.key ∈ N then _ else pick (es.reverse.drop (i + 1)) N)
        rw [if_neg hin]
    · obtain ⟨y4, N, kN, us, found, rfl, e', t', hc', hnd', hne, hnk, hsub, hN, hfl', hst, hfi, hpick⟩ := hPv
      rw [List.length_reverse, List.length_map, lbs, show es.reverse.drop es.length = [] from by rw [List.drop_eq_nil_iff, List.length_reverse]; exact Nat.le_refl _] at hpick
      have hpick : found = pick es.reverse [kk] := by rw [← hpick]; show found = found ++ []; rw [List.append_nil]
      refine Go.here (go_retP (tk_revL (K := K) (R := fun v H' => v = .ref fl ∧ H' fl = some (.lst us) ∧ StepsAt H' us found) (Tk.imp (Tk.of (ev_var rfl)) fun v H6 e6 r => ⟨r, e6 _ _ hfl', hst.te (te_of e6)⟩) fun v H r => ⟨fl, us, r.1, r.2.1⟩) fun v H6 e6 r6 => ?_)
      obtain ⟨a, ys, c2, G2, ⟨r1, r2, r3⟩, ha, rfl, hc2, _, g6, hc6⟩ := r6
      cases r1
      rw [ha] at r2
      have ey : ys = us := HO.lst.inj (Option.some.inj r2)
      subst ey
      refine k _ H6 (e'.trans e6) ⟨c2, ys.reverse, rfl, Evl.fresh_back e' hc2, hc6, ?_⟩
      rw [pickE, ← hpick]
      exact steps_rev (r3.te (te_of g6))
end
end Hfb
namespace Hfb
open PySem PySem.Spec PyProof.Rows L2
open Evl (Ex Ev EvT EvA EvL EvU ev_op ev_var ev_c ev_call ea_cons ea_nil)
section
variable {P : Program} {w : World} {K : PySem.W.Frag} {mg : Str → Option Value} {base : Heap} {H : Hp}
local macro_rules | `(tactic| walk_at "spv") => `(tactic| first | exact v_isInt | exact v_isIntD | exact v_twoPos | exact v_isSeq (.t (by assumption)) | exact v_isSeq (.l (by assumption)) | exact v_isDist (by assumption) (by omega))
local macro_rules | `(tactic| walk_at "rv") => `(tactic| first
  | with_reducible exact Evl.rv_I0
  | ((with_reducible refine Evl.rv_eq ?_); rfl)
  | ((with_reducible refine Evl.rv_ne ?_); rfl)
  | ((with_reducible apply Evl.rv_ixT); (first | assumption | exact Evl.st_of (by assumption)); (first | rfl | assumption))
  | ((with_reducible apply Evl.rv_ixL); (first | assumption | exact Evl.sq_of (by assumption)); (first | rfl | assumption))
  | exact isi_int
  | exact isi_bool
  | exact isi_str
  | exact rc_max
  | exact rc_min
  | (apply rc_lenL; first | assumption | exact Evl.sq_of (by assumption))
  | (apply rc_lenT; first | assumption | exact Evl.st_of (by assumption))
  | walk_at "fld"
  | walk_at "spv")
local macro_rules | `(tactic| walk_at "ev") => `(tactic| first
  | ((with_reducible apply Evl.ev_var); rfl)
  | with_reducible exact Evl.ev_c
  | with_reducible exact Evl.ea_nil
  | ((with_reducible apply Evl.ea_cons) <;> walk_at "ev")
  | ((with_reducible apply Evl.ev_op) <;> walk_at "ev")
  | ((with_reducible apply ev_chain) <;> walk_at "ev")
  | ((with_reducible apply Evl.ev_cb) <;> walk_at "ev")
  | ((with_reducible apply Evl.ev_call) <;> walk_at "ev")
  | ((with_reducible apply Evl.ev_notV) <;> walk_at "ev")
  | ((with_reducible apply ev_andU) <;> walk_at "ev")
  | ((with_reducible apply ev_orU) <;> walk_at "ev")
  | ((with_reducible apply Evl.et_B) <;> walk_at "ev")
  | ((with_reducible apply Evl.et_test) <;> walk_at "ev")
  | ((with_reducible apply Evl.et_not) <;> walk_at "ev")
  | ((with_reducible apply et_andU) <;> walk_at "ev")
  | ((with_reducible apply et_orU) <;> walk_at "ev")
  | walk_at "rv")
/-! ### find_derivation, find_conflict, is_conflict -/
def NewDer (K : PySem.W.Frag) (H : Hp) (n : Nat) (fs : List Fact) (v : V) (H2 : Hp) : Prop := ∃ p D es, v = .ref p ∧ H p = none ∧ DerAt K H2 p D es [] ∧ EntsOk n fs es ∧ ∀ a b, a ≠ b → (keyP a b ∈ keysE es ↔ Der fs a b)
theorem tk_Derivation {σ : L2.St} {t : TA} {n : Nat} {l : Addr} {fs : List Fact} (ha : EvA t σ H [.ref l]) (hF : FactsAt H l fs) (hn : n ≤ 60) (hfl : fs.length ≤ 50) (ok : ∀ f ∈ fs, f.Ok n) : Tk (tMake (CD K) (sp_dinit K) [] E0 t) σ H (NewDer K H n fs) := fun H1 e Q q =>
  ha H1 e _ fun H2 e2 => fun x dx nx nd ne => ⟨x, dx, l, n, fs, rfl, upd_same, hn, ((hF.mono e).mono e2).fr0 nx nd, hfl, ok, fun H3 D es fr hD oke hk => ⟨rfl, q _ H3 (e2.trans (ex_made nx nd fr)) ⟨x, D, es, rfl, Evl.fresh_back (e.trans e2) nx, hD, oke, hk⟩⟩⟩
theorem tk_if2 {σ : L2.St} {t : TT} {ta tb : TE} {b : Bool} {R1 R2 : V → Hp → Prop} (h : EvT t σ H b) (h1 : b = true → Tk ta σ H R1) (h2 : b = false → Tk tb σ H R2) : Tk (tIf t ta tb) σ H (fun v H' => (b = true ∧ R1 v H') ∨ (b = false ∧ R2 v H')) :=
  tk_if h (fun hb => (h1 hb).imp fun v H' e r => .inl ⟨hb, r⟩) fun hb => (h2 hb).imp fun v H' e r => .inr ⟨hb, r⟩
theorem pick_len : ∀ {es : List Ent} {N : List Pr}, (pick es N).length ≤ es.length
  | [], _ => Nat.le_refl _
  | e :: r, N => by
    show (if e.key ∈ N then e.step :: pick r (N ++ e.used) else pick r N).length ≤ (e :: r).length
    rw [List.length_cons]
    split
    · rw [List.length_cons]
      have := pick_len (es := r) (N := N ++ e.used)
      omega
    · have := pick_len (es := r) (N := N)
      omega
theorem pickE_len {es : List Ent} {k : Pr} : (pickE es k).length ≤ es.length := by
  unfold pickE
  rw [List.length_reverse]
  refine Nat.le_trans pick_len ?_
  rw [List.length_reverse]
  exact Nat.le_refl _
/-- steps that show a pair -/
def ShowsAt (n : Nat) (fs : List Fact) (H : Hp) (k : Pr) (l : Addr) (H' : Hp) : Prop := ∃ us ss, H l = none ∧ H' l = some (.lst us) ∧ StepsAt H' us ss ∧ VAll n fs [] ss ∧ lastKey ss = some k ∧ ss.length ≤ 5000
theorem shows_of {n : Nat} {fs : List Fact} {es : List Ent} {k : Pr} {v : V} {H' : Hp} (hn : n ≤ 60) (ok : EntsOk n fs es) (hk : k ∈ keysE es) (r : NewSt H (pickE es k) v H') : ∃ l, v = .ref l ∧ ShowsAt n fs H k l H' := by
  obtain ⟨a, us, rfl, ha, h1, h2⟩ := r
  have ps := pick_shows ok hk
  have := ents_small ok hn
  exact ⟨a, rfl, us, _, ha, h1, h2, ps.1, ps.2, Nat.le_trans pickE_len (by omega)⟩
def FDR (n : Nat) (fs : List Fact) (a b : Nat) (H : Hp) (v : V) (H' : Hp) : Prop := (a ≠ b ∧ Der fs a b ∧ ∃ l, v = .ref l ∧ ShowsAt n fs H (keyP a b) l H') ∨ (¬ (a ≠ b ∧ Der fs a b) ∧ v = .non)
theorem ShowsAt.back {n : Nat} {fs : List Fact} {k : Pr} {H0 H' : Hp} {l : Addr} (e : Ex H0 H) (h : ShowsAt n fs H k l H') : ShowsAt n fs H0 k l H' := by
  obtain ⟨us, ss, h1, h2⟩ := h
  exact ⟨us, ss, Evl.fresh_back e h1, h2⟩
theorem FDR.back {n : Nat} {fs : List Fact} {a b : Nat} {H0 H' : Hp} {v : V} (e : Ex H0 H) (h : FDR n fs a b H v H') : FDR n fs a b H0 v H' := by
  rcases h with ⟨h1, h2, l, h3, h4⟩ | h
  · exact .inl ⟨h1, h2, l, h3, h4.back e⟩
  · exact .inr h
def sp_findDer : Sp := fun vs H Q _ => ∃ (n : Nat) (l : Addr) (a b : Nat) (fs : List Fact), vs = [nV n, .ref l, nV a, nV b] ∧ 1 ≤ n ∧ n ≤ 60 ∧ FactsAt H l fs ∧ fs.length ≤ 40 ∧ (∀ f ∈ fs, f.Ok n) ∧ a < n ∧ b < n ∧ ∀ v H', Ex H H' → FDR n fs a b H v H' → Q v H'
theorem v_findDer {n a b : Nat} {l : Addr} {fs : List Fact} (h1 : 1 ≤ n) (hn : n ≤ 60) (hF : FactsAt H l fs) (hfl : fs.length ≤ 40) (ok : ∀ f ∈ fs, f.Ok n) (ha : a < n) (hb : b < n) : SpK sp_findDer [nV n, .ref l, nV a, nV b] H (FDR n fs a b H) := fun H1 e Q q E =>
  ⟨n, l, a, b, fs, rfl, h1, hn, hF.mono e, hfl, ok, ha, hb, fun v H' e' r => q v H' e' (r.back e)⟩
theorem cl_findDer (T : Tx K mg) (c_checked_facts : Cl P w K mg base 4 "checked_facts" sp_checked) (c_check_positions : Cl P w K mg base 2 "check_positions" sp_checkPos) (c_pair_key : Cl P w K mg base 1 "pair_key" sp_pairKey)
    (c_Derivation : Mz P w K mg base 4 "Derivation" (CD K) (sp_dinit K)) (c_steps_for : Mt P w K mg base 1 (CD K) "steps_for" (sp_stepsFor K)) (A : At K mg "find_derivation" "find_derivation" "find_derivation" s_find_derivation []) : Cl P w K mg base 6 "find_derivation" sp_findDer := by
  refine cl_of A sc_find_derivation (fun _ _ _ _ _ _ us hl => match us, hl with | [_, _, _, _], _ => rfl) (fun vs H Q E h => ?_) (fun f cdv A outer s H vs Q E hr h => ?_)
  · obtain ⟨n, l, a, b, fs, rfl, _⟩ := h
    rfl
  · obtain ⟨n, l, a, b, fs, rfl, h1, hn, hF, hfl, ok, ha, hb, q⟩ := h
    refine ⟨_, (pss_cons (ps_set (i := 4) sc_find_derivation.nd rfl (Or.inl rfl) (pcl c_checked_facts (hr.mono (by decide)) rfl (pa_cons (pv 0) (pa_cons (pv 1) pa_nil))))
      (pss_cons (ps_expr (pcl c_check_positions (hr.mono (by decide)) rfl (pa_cons (pv 0) (pa_cons (pv 2) (pa_cons (pv 3) pa_nil)))))
      (pss_cons (ps_set (i := 5) sc_find_derivation.nd rfl (Or.inl rfl) (pmkC c_Derivation (hr.mono (by decide)) rfl (pa_cons (pv 4) pa_nil)))
      (pss_cons (ps_set (i := 6) sc_find_derivation.nd rfl (Or.inl rfl) (pcl c_pair_key (hr.mono (by decide)) rfl (pa_cons (pv 2) (pa_cons (pv 3) pa_nil))))
      (pss_one (ps_ret (pe_ifExp (pt_cmp (pc_din (hu_of hr) (pv 6) (pe_fld (pv 5) rfl))) (pmt c_steps_for (hr.mono (by decide)) (pv 5) (pa_cons (pv 6) pa_nil)) pe_non))))))), ?_⟩
    refine Go.here (go_setP (tk_call (by walk_at "ev") (v_checked h1 hn hF hfl ok)) fun v1 H1 e1 r1 => ?_)
    obtain ⟨p, rfl, hp, hF1⟩ := r1
    refine go_drop (ev_call (by walk_at "ev") (v_checkPos (n := n) (i := a) (j := b) (by omega) (by omega) (by omega) (by omega))) ?_
    refine go_setP (tk_Derivation (ea_cons (ev_var rfl) ea_nil) hF1 hn (by omega) ok) fun v2 H2 e2 r2 => ?_
    obtain ⟨d, D, es, rfl, hd, hD, oke, hk⟩ := r2
    refine go_setP (tk_key (a := a) (b := b) (ev_var rfl) (ev_var rfl)) fun v3 H3 e3 r3 => ?_
    obtain ⟨m, rfl, hm⟩ := id r3
    have hD3 := hD.mono e3
    obtain ⟨dx, ho⟩ := hD3.obj
    obtain ⟨kS, hS, lS, aS⟩ := hD3.st
    have vS := keysE_valV lS (fun i kv x y z => (aS i kv x y z).1)
    have key : keyP a b ∈ keysE es ↔ (a ≠ b ∧ Der fs a b) := ⟨fun h => ⟨(oke.der a b h).2.1, (oke.der a b h).1⟩, fun h => (hk a b h.1).mpr h.2⟩
    refine go_retP (tk_if2 (Evl.et_B (ev_dinV (k := kK (keyP a b)) hS hm (ev_var rfl) (ev_fS T (ev_var rfl) ho))) (fun _ => tk_meth (ev_var rfl) ho (lk_stepsFor D) (ea_cons (ev_var rfl) ea_nil) (v_stepsFor hD3 hn oke r3)) (fun _ => Tk.of ev_c)) fun v4 H4 e4 r4 => ?_
    have e03 := (e1.trans e2).trans e3
    refine q _ H4 (e03.trans e4) ?_
    rcases r4 with ⟨hb, r⟩ | ⟨hb, r⟩
    · have hb := (vS _).mp hb
      obtain ⟨l, rfl, sh⟩ := shows_of hn oke hb r
      exact .inl ⟨(key.mp hb).1, (key.mp hb).2, l, rfl, sh.back e03⟩
    · exact .inr ⟨(fun z => by rw [(vS _).mpr (key.mpr z)] at hb; cases hb), r⟩

def ConfAt (n : Nat) (fs : List Fact) (H : Hp) (v : V) (H' : Hp) : Prop := ∃ t l j a b f, v = .ref t ∧ H t = none ∧ H' t = some (.tup [.ref l, nV j]) ∧ fs[j]? = some f ∧ SDiff f a b ∧ ShowsAt n fs H (keyP a b) l H'
def FCR (n : Nat) (fs : List Fact) (H : Hp) (v : V) (H' : Hp) : Prop := (Cons fs ∧ v = .non) ∨ (¬ Cons fs ∧ ConfAt n fs H v H')
theorem FCR.back {n : Nat} {fs : List Fact} {H0 H' : Hp} {v : V} (e : Ex H0 H) (h : FCR n fs H v H') : FCR n fs H0 v H' := by
  rcases h with h | ⟨h, t, l, j, a, b, f, h1, h2, h3, h4, h5, h6⟩
  · exact .inl h
  · exact .inr ⟨h, t, l, j, a, b, f, h1, Evl.fresh_back e h2, h3, h4, h5, h6.back e⟩
def sp_findConf : Sp := fun vs H Q _ => ∃ (n : Nat) (l : Addr) (fs : List Fact), vs = [nV n, .ref l] ∧ 1 ≤ n ∧ n ≤ 60 ∧ FactsAt H l fs ∧ fs.length ≤ 40 ∧ (∀ f ∈ fs, f.Ok n) ∧ ∀ v H', Ex H H' → FCR n fs H v H' → Q v H'
theorem v_findConf {n : Nat} {l : Addr} {fs : List Fact} (h1 : 1 ≤ n) (hn : n ≤ 60) (hF : FactsAt H l fs) (hfl : fs.length ≤ 40) (ok : ∀ f ∈ fs, f.Ok n) : SpK sp_findConf [nV n, .ref l] H (FCR n fs H) := fun H1 e Q q E =>
  ⟨n, l, fs, rfl, h1, hn, hF.mono e, hfl, ok, fun v H' e' r => q v H' e' (r.back e)⟩
theorem lk_dm : ∀ D : DS, (dF D).lookup ("steps_for" : Str) = none := lk_stepsFor
/-- a method of an object that is made where it is called -/
theorem tk_methNew {σ : L2.St} {C : Addr} {m : Str} {sp : Sp} {ta : TE} {t : TA} {E : XK} {R : V → Hp → Prop} {R1 : V → Hp → Prop} {RA : List V → Hp → Prop} (h : Tk ta σ H R1) (ho : ∀ v H1, R1 v H1 → ∃ p dx fs, v = .ref p ∧ H1 p = some (.ins C dx fs) ∧ fs.lookup m = none) (ha : TkA t σ H RA)
    (hs : ∀ v H1 vs H2, Ex H H1 → R1 v H1 → Ex H1 H2 → RA vs H2 → SpK sp (v :: (vs ++ [])) H2 R) : Tk (tMeth C m sp [] E ta t) σ H R := fun H1 e Q q =>
  h H1 e _ fun v H2 e2 r => by
    obtain ⟨p, dx, fs, rfl, h1, h2⟩ := ho v H2 r
    exact ⟨p, dx, fs, rfl, h1, h2, ha H2 (e.trans e2) _ fun vs H3 e3 r3 => hs _ H2 vs H3 (e.trans e2) r e3 r3 H3 (Ex.refl _) Q (fun v H4 e4 r4 => q v H4 ((e2.trans e3).trans e4) r4) E⟩
theorem cl_findConf (T : Tx K mg) (c_checked_facts : Cl P w K mg base 4 "checked_facts" sp_checked) (c_Partition : Mz P w K mg base 4 "Partition" (CP K) (sp_pinit K)) (c_violated_pair : Cl P w K mg base 4 "violated_pair" (sp_viol K)) (c_pair_key : Cl P w K mg base 1 "pair_key" sp_pairKey)
    (c_Derivation : Mz P w K mg base 4 "Derivation" (CD K) (sp_dinit K)) (c_steps_for : Mt P w K mg base 1 (CD K) "steps_for" (sp_stepsFor K)) (A : At K mg "find_conflict" "find_conflict" "find_conflict" s_find_conflict []) : Cl P w K mg base 6 "find_conflict" sp_findConf := by
  refine cl_of A sc_find_conflict (fun _ _ _ _ _ _ us hl => match us, hl with | [_, _], _ => rfl) (fun vs H Q E h => ?_) (fun f cdv A outer s H vs Q E hr h => ?_)
  · obtain ⟨n, l, fs, rfl, _⟩ := h
    rfl
  · obtain ⟨n, l, fs, rfl, h1, hn, hF, hfl, ok, q⟩ := h
    refine ⟨_, (pss_cons (ps_set (i := 2) sc_find_conflict.nd rfl (Or.inl rfl) (pcl c_checked_facts (hr.mono (by decide)) rfl (pa_cons (pv 0) (pa_cons (pv 1) pa_nil))))
      (pss_cons (ps_set (i := 3) sc_find_conflict.nd rfl (Or.inl rfl) (pmkC c_Partition (hr.mono (by decide)) rfl (pa_cons (pv 0) (pa_cons (pv 2) pa_nil))))
      (pss_cons (ps_for PassesOwn.never rfl (pi_enum rfl T.b_enumerate (pa_cons (pv 2) pa_nil)) (pg_tup rfl (pgs_cons (pg_name (i := 4) sc_find_conflict.nd rfl (Or.inl rfl)) (pgs_cons (pg_name (i := 5) sc_find_conflict.nd rfl (Or.inl rfl)) pgs_nil)))
          (pss_cons (ps_set (i := 6) sc_find_conflict.nd rfl (Or.inl rfl) (pcl c_violated_pair (hr.mono (by decide)) rfl (pa_cons (pv 3) (pa_cons (pv 5) pa_nil))))
          (pss_one (ps_if (pt_cmpR op_notN (pv 6) pe_non (nomark _)) (pss_one (ps_ret (pe_tup (pa_cons (pmt c_steps_for (hr.mono (by decide)) (pmkC c_Derivation (hr.mono (by decide)) rfl (pa_cons (pv 2) pa_nil)) (pa_cons (pcl c_pair_key (hr.mono (by decide)) rfl (pa_cons (pe_ix ix_tup (pv 6) pe_int (fun _ _ => rfl)) (pa_cons (pe_ix ix_tup (pv 6) pe_int (fun _ _ => rfl)) pa_nil))) pa_nil)) (pa_cons (pv 4) pa_nil))))) pss_nil))))
      (pss_one (ps_ret pe_non))))), ?_⟩
    refine Go.here (go_setP (tk_call (by walk_at "ev") (v_checked h1 hn hF hfl ok)) fun v1 H1 e1 r1 => ?_)
    obtain ⟨c, rfl, hc, hF1⟩ := r1
    refine go_setP (tk_Partition (by walk_at "ev") hF1 h1 hn (by omega) ok) fun v2 H2 e2 r2 => ?_
    obtain ⟨p, L, rfl, hp, hP, hL⟩ := r2
    intro H3 e3
    have hF3 := (hF1.mono e2).mono e3
    have hP3 := hP.mono e3
    obtain ⟨us, hl, hul, hat⟩ := id hF3
    have e03 := (e1.trans e2).trans e3
    refine q_forE (K := K) (a := c) (xs := us) (ea_cons (ev_var rfl) ea_nil) (Evl.sq_of hl) (fun i σ' H' => ∃ y4 y5 y6, σ' = [some (nV n), some (.ref l), some (.ref c), some (.ref p), y4, y5, y6] ∧ Ex H3 H' ∧ ∀ j f, j < i → fs[j]? = some f → ∀ a b, SDiff f a b → L[a]? ≠ L[b]?)
      (fun H4 e4 => ⟨none, none, none, rfl, e4, fun j f hj => by omega⟩) (fun i σ' H' _ hPv => ?_) (fun i x σ' H' t hi hPv ht => ?_) (fun σ' H' hPv => ?_)
    · obtain ⟨_, _, _, _, e', _⟩ := hPv
      exact Evl.sq_of (e' _ _ hl)
    · obtain ⟨y4, y5, y6, rfl, e', done⟩ := hPv
      obtain ⟨g, hg⟩ := get_some (xs := fs) (i := i) (by rw [← hul]; exact lt_of_get hi)
      have og := ok g (List.mem_of_getElem? hg)
      have e2' : Ex H3 (upd H' t (.tup [nV i, x])) := e'.trans (Ex.new ht)
      generalize upd H' t (.tup [nV i, x]) = H4 at e2'
      refine Go.here (go_setP (tk_call (by walk_at "ev") (v_viol (hP3.mono e2') ((hat i x g hi hg).mono e2') og hL.1 hn)) fun v5 H5 e5 r5 => ?_)
      have e35 := e2'.trans e5
      rcases r5 with ⟨rfl, hno⟩ | ⟨r, a, b, rfl, hr5, hsd, hab⟩
      · refine go_no (b := false) (Evl.et_is (Evl.et_test (ev_op (ev_var rfl) ev_c rv_notN)) rfl) rfl (go_next fun H6 e6 => ?_)
        refine ⟨_, _, _, rfl, e35.trans e6, fun j f hj hf => ?_⟩
        by_cases e : j = i
        · subst e
          rw [hg] at hf
          cases hf
          exact hno
        · exact done j f (by omega) hf
      · have lt := hsd.lt og
        have der : Der fs a b := (hL.2 a b lt.1 lt.2).mp hab
        have ne := hsd.ne og
        have nc : ¬ Cons fs := fun z => z g (List.mem_of_getElem? hg) a b hsd der
        refine go_yes (b := true) (Evl.et_is (Evl.et_test (ev_op (ev_var rfl) ev_c rv_notN)) rfl) rfl ?_
        refine go_retP (tk_tupA (tka_cons (tk_methNew (m := "steps_for") (RA := fun vs H' => ∃ u, vs = [u] ∧ PairAt H' u (keyP a b)) (R := fun v H' => ∃ l, v = .ref l ∧ ShowsAt n fs H5 (keyP a b) l H') (tk_Derivation (ea_cons (ev_var rfl) ea_nil) (hF3.mono e35) hn (by omega) ok) (fun v H6 r => ?_) (fun H6 e6 Q' q' => ?_) (fun v H6 vs H7 e6 r6 e67 r7 => ?_)) (tka_cons (Tk.of (ev_var rfl)) tka_nil)) (fun vs H2 r => ?_)) fun v8 H8 e8 r8 => ?_
        · obtain ⟨d, D, es, rfl, _, hD, _⟩ := r
          obtain ⟨dx, ho⟩ := hD.obj
          exact ⟨d, dx, _, rfl, ho, lk_stepsFor D⟩
        · refine tk_key (a := a) (b := b) (ev_op (ev_var rfl) ev_c (Evl.rv_ixT (Evl.st_of hr5) rfl)) (ev_op (ev_var rfl) ev_c (Evl.rv_ixT (Evl.st_of hr5) rfl)) H6 e6 _ fun u H7 e7 r7 => q' _ H7 e7 ⟨u, rfl, r7⟩
        · obtain ⟨d, D, es, rfl, _, hD, oke, hk⟩ := r6
          obtain ⟨u, rfl, hu⟩ := r7
          exact (v_stepsFor (hD.mono e67) hn oke hu).imp fun w H9 e9 r9 => by
            obtain ⟨l, rfl, sh⟩ := shows_of hn oke ((hk a b ne).mpr der) r9
            exact ⟨l, rfl, sh.back (e6.trans e67)⟩
        · obtain ⟨_, _, _, rfl, _, _, _, _, _, _, rfl, _, _, _, rfl⟩ := r
          simp
        · obtain ⟨t8, vs, G, rfl, ht8, ht8', g1, g2, u, us', G1, rfl, _, g3, ⟨l8, rfl, us8, ss8, sh1, sh2, sh3, sh4⟩, u2, us2, G2, rfl, _, g4, rfl, rfl⟩ := r8
          have e05 := e03.trans e35
          refine q _ H8 (e05.trans e8) (.inr ⟨nc, t8, l8, i, a, b, g, rfl, Evl.fresh_back e05 ht8, ht8', hg, hsd, us8, ss8, Evl.fresh_back e05 sh1, g2 _ _ (g3 _ _ sh2), (sh3.te (te_of g3)).te (te_of g2), sh4⟩)
    · obtain ⟨y4, y5, y6, rfl, e', done⟩ := hPv
      have c : Cons fs := fun f hf a b hsd hd => by
        obtain ⟨j, hj⟩ := List.getElem?_of_mem hf
        have lt := hsd.lt (ok f hf)
        exact done j f (by rw [hul]; exact lt_of_get hj) hj a b hsd ((hL.2 a b lt.1 lt.2).mpr hd)
      exact Go.here (go_ret ev_c fun H6 e6 => q _ H6 ((e03.trans e').trans e6) (.inl ⟨c, rfl⟩))
end
end Hfb
namespace Hfb
open PySem PySem.Spec PyProof.Rows L2
open Evl (Ex Ev EvT EvA EvL EvU ev_op ev_var ev_c ev_call ea_cons ea_nil)
section
variable {P : Program} {w : World} {K : PySem.W.Frag} {mg : Str → Option Value} {base : Heap} {H : Hp}
local macro_rules | `(tactic| walk_at "spv") => `(tactic| first | exact v_isInt | exact v_isIntD | exact v_twoPos | exact v_isSeq (.t (by assumption)) | exact v_isSeq (.l (by assumption)) | exact v_isDist (by assumption) (by omega))
local macro_rules | `(tactic| walk_at "rv") => `(tactic| first
  | with_reducible exact Evl.rv_I0
  | ((with_reducible refine Evl.rv_eq ?_); rfl)
  | ((with_reducible refine Evl.rv_ne ?_); rfl)
  | ((with_reducible apply Evl.rv_ixT); (first | assumption | exact Evl.st_of (by assumption)); (first | rfl | assumption))
  | ((with_reducible apply Evl.rv_ixL); (first | assumption | exact Evl.sq_of (by assumption)); (first | rfl | assumption))
  | exact isi_int
  | exact isi_bool
  | exact isi_str
  | exact rc_max
  | exact rc_min
  | (apply rc_lenL; first | assumption | exact Evl.sq_of (by assumption))
  | (apply rc_lenT; first | assumption | exact Evl.st_of (by assumption))
  | walk_at "fld"
  | walk_at "spv")
local macro_rules | `(tactic| walk_at "ev") => `(tactic| first
  | ((with_reducible apply Evl.ev_var); rfl)
  | with_reducible exact Evl.ev_c
  | with_reducible exact Evl.ea_nil
  | ((with_reducible apply Evl.ea_cons) <;> walk_at "ev")
  | ((with_reducible apply Evl.ev_op) <;> walk_at "ev")
  | ((with_reducible apply ev_chain) <;> walk_at "ev")
  | ((with_reducible apply Evl.ev_cb) <;> walk_at "ev")
  | ((with_reducible apply Evl.ev_call) <;> walk_at "ev")
  | ((with_reducible apply Evl.ev_notV) <;> walk_at "ev")
  | ((with_reducible apply ev_andU) <;> walk_at "ev")
  | ((with_reducible apply ev_orU) <;> walk_at "ev")
  | ((with_reducible apply Evl.et_B) <;> walk_at "ev")
  | ((with_reducible apply Evl.et_test) <;> walk_at "ev")
  | ((with_reducible apply Evl.et_not) <;> walk_at "ev")
  | ((with_reducible apply et_andU) <;> walk_at "ev")
  | ((with_reducible apply et_orU) <;> walk_at "ev")
  | walk_at "rv")
/-! ### is_conflict -/
def ConfR (n : Nat) (fs : List Fact) (ss : List Step) (j : Nat) : Prop := j < fs.length ∧ VAll n fs [] ss ∧ ∃ k f, lastKey ss = some k ∧ fs[j]? = some f ∧ SDiff f k.1 k.2
def sp_isConf : Sp := fun vs H Q _ => ∃ (n j : Nat) (l t d : Addr) (fs : List Fact) (us : List V) (ss : List Step), vs = [nV n, .ref l, .ref t] ∧ 1 ≤ n ∧ n ≤ 60 ∧ FactsAt H l fs ∧ fs.length ≤ 40 ∧ (∀ f ∈ fs, f.Ok n) ∧ H t = some (.tup [.ref d, nV j]) ∧ H d = some (.lst us) ∧ StepsAt H us ss ∧ ss.length ≤ 5000 ∧
  ∀ H', Ex H H' → Q (.bl (bP (ConfR n fs ss j))) H'
theorem v_isConf {n j : Nat} {l t d : Addr} {fs : List Fact} {us : List V} {ss : List Step} (h1 : 1 ≤ n) (hn : n ≤ 60) (hF : FactsAt H l fs) (hfl : fs.length ≤ 40) (ok : ∀ f ∈ fs, f.Ok n) (ht : H t = some (.tup [.ref d, nV j])) (hd : H d = some (.lst us)) (hs : StepsAt H us ss) (hz : ss.length ≤ 5000) :
    Evl.SpV sp_isConf [nV n, .ref l, .ref t] H (.bl (bP (ConfR n fs ss j))) := fun H1 e Q q E => ⟨n, j, l, t, d, fs, us, ss, rfl, h1, hn, hF.mono e, hfl, ok, e _ _ ht, e _ _ hd, hs.te (te_of e), hz, q⟩
theorem cl_isConf (T : Tx K mg) (c_checked_facts : Cl P w K mg base 4 "checked_facts" sp_checked) (c_is_sequence_facts : Cl P w K mg base 1 "is_sequence_facts" sp_isSeq) (c_is_integer_facts : Cl P w K mg base 1 "is_integer_facts" sp_isInt) (c_shown_pair : Cl P w K mg base 5 "shown_pair" (sp_shown K))
    (c_states_different : Cl P w K mg base 3 "states_different" sp_sDiff) (A : At K mg "is_conflict" "is_conflict" "is_conflict" s_is_conflict []) : Cl P w K mg base 6 "is_conflict" sp_isConf := by
  refine cl_of A sc_is_conflict (fun _ _ _ _ _ _ us hl => match us, hl with | [_, _, _], _ => rfl) (fun vs H Q E h => ?_) (fun f cdv A outer s H vs Q E hr h => ?_)
  · obtain ⟨n, j, l, t, d, fs, us, ss, rfl, _⟩ := h
    rfl
  · obtain ⟨n, j, l, t, d, fs, us, ss, rfl, h1, hn, hF, hfl, ok, ht, hd, hs, hz, q⟩ := h
    refine ⟨_, (pss_cons (ps_set (i := 3) sc_is_conflict.nd rfl (Or.inl rfl) (pcl c_checked_facts (hr.mono (by decide)) rfl (pa_cons (pv 0) (pa_cons (pv 1) pa_nil))))
      (pss_cons (ps_if (PW.pt (pw_or (pt_not (pt_val (pcl c_is_sequence_facts (hr.mono (by decide)) rfl (pa_cons (pv 2) pa_nil)))) (pw_or (pt_cmpR op_ne (pe_callB call_len_seq rfl T.b_len (by decide +kernel) (pa_cons (pv 2) pa_nil)) pe_int (nomark _)) (pw_or1 (pt_not (pt_val (pcl c_is_integer_facts (hr.mono (by decide)) rfl (pa_cons (pe_ix ix_tup (pv 2) pe_int (fun _ _ => rfl)) (pa_cons pe_int (pa_cons (pe_op op_sub (pe_callB call_len_seq rfl T.b_len (by decide +kernel) (pa_cons (pv 3) pa_nil)) pe_int) pa_nil)))))))))) (pss_one (ps_ret pe_bl)) pss_nil)
      (pss_cons (ps_set (i := 4) sc_is_conflict.nd rfl (Or.inl rfl) (pcl c_shown_pair (hr.mono (by decide)) rfl (pa_cons (pv 0) (pa_cons (pv 3) (pa_cons (pe_ix ix_tup (pv 2) pe_int (fun _ _ => rfl)) pa_nil)))))
      (pss_one (ps_ret (pe_and (pe_cmpR op_notN (pv 4) pe_non (nomark _)) (pe_one (pcl c_states_different (hr.mono (by decide)) rfl (pa_cons (pe_ix ix_list (pv 3) (pe_ix ix_tup (pv 2) pe_int (fun _ _ => rfl)) (fun _ _ => rfl)) (pa_cons (pe_ix ix_tup (pv 4) pe_int (fun _ _ => rfl)) (pa_cons (pe_ix ix_tup (pv 4) pe_int (fun _ _ => rfl)) pa_nil))))))))))), ?_⟩
    refine Go.here (go_setP (tk_call (by walk_at "ev") (v_checked h1 hn hF hfl ok)) fun v1 H1 e1 r1 => ?_)
    obtain ⟨c, rfl, hc, hF1⟩ := r1
    obtain ⟨gs, hg, hgl, hat⟩ := id hF1
    have ht1 := e1 _ _ ht
    refine go_when (b := !decide (j < fs.length)) (Evl.et_is (et_orU (a := false) (Evl.et_is (Evl.et_not (Evl.et_B (ev_call (by walk_at "ev") (v_isSeq (.t ht1))))) (by rfl)) (et_orU (a := false) (Evl.et_is (by walk_at "ev") (by rfl)) (Evl.et_not (Evl.et_B (ev_call (by walk_at "ev") (v_isInt (v := (j : Int)) (lo := 0) (hi := (gs.length : Int) - 1))))))) ?_) (fun hb => ?_) (fun hb => ?_)
    · rw [Bool.false_or, Bool.false_or, ← Bool.decide_and]
      congr 1
      exact decide_eq_decide.mpr (by omega)
    · have hb : ¬ j < fs.length := by simpa using hb
      refine go_ret ev_c fun H2 e2 => ?_
      have z := q H2 (e1.trans e2)
      rw [bP_false (fun z => hb z.1)] at z
      exact z
    · have hb : j < fs.length := by simpa using hb
      obtain ⟨g, hgj⟩ := get_some hb
      obtain ⟨x, hx⟩ := get_some (xs := gs) (i := j) (by omega)
      refine go_setP (tk_call (ea_cons (ev_var rfl) (ea_cons (ev_var rfl) (ea_cons (ev_op (ev_var rfl) ev_c (Evl.rv_ixT (Evl.st_of ht1) rfl)) ea_nil))) (v_shown hn hF1 (by omega) ok (e1 _ _ hd) (hs.te (te_of e1)) hz)) fun v2 H2 e2 r2 => ?_
      have none' : lastKey ss = none → ¬ ConfR n fs ss j := fun h z => by
        obtain ⟨_, _, k, f, h2, _⟩ := z
        rw [h] at h2
        cases h2
      have go0 : v2 = .non → ¬ ConfR n fs ss j → ∀ (t2 : TE) (Dd : Ends), (∀ H', Ex H H' → Dd.rt (.bl (bP (ConfR n fs ss j))) H') → Go (tRet (tAndV (tOp (fun x y H Q => y = .non ∧ Q (.bl (!decide (x = .non))) H) (tVar 4) (tC .non)) t2)) Dd [some (nV n), some (.ref l), some (.ref t), some (.ref c), some v2] H2 := fun hv hc t2 Dd hq => by
        subst hv
        refine go_ret (v := .bl false) (Evl.ev_andV (a := false) (b := false) (Evl.ev_is (ev_op (ev_var rfl) ev_c rv_notN) rfl) (fun z => nomatch z)) fun H3 e3 => ?_
        have z := hq H3 ((e1.trans e2).trans e3)
        rw [bP_false hc] at z
        exact z
      rcases r2 with ⟨hv, ho⟩ | ⟨hv, hv2⟩
      · cases hlk : lastKey ss with
        | none =>
          rw [hlk] at ho
          exact go0 ho (none' hlk) _ _ q
        | some k =>
          rw [hlk] at ho
          obtain ⟨m, rfl, hm⟩ := ho
          have ht2 := e2 _ _ ht1
          have fa : FactAt H2 x g := (hat j x g hx hgj).mono e2
          refine go_ret (Evl.ev_is (ev_andU (a := true) (Evl.ev_is (ev_op (ev_var rfl) ev_c rv_notN) rfl) (ev_call (ea_cons (ev_op (ev_var rfl) (ev_op (ev_var rfl) ev_c (Evl.rv_ixT (Evl.st_of ht2) rfl)) (Evl.rv_ixL (Evl.sq_of (e2 _ _ hg)) (atI_nat hx))) (ea_cons (ev_op (ev_var rfl) ev_c (Evl.rv_ixT (Evl.st_of hm) rfl)) (ea_cons (ev_op (ev_var rfl) ev_c (Evl.rv_ixT (Evl.st_of hm) rfl)) ea_nil))) (v_sDiff (a := k.1) (b := k.2) fa (ok g (List.mem_of_getElem? hgj)) hn))) ?_) fun H3 e3 => q H3 ((e1.trans e2).trans e3)
          congr 1
          rw [Bool.true_and]
          refine bP_of ?_
          rw [bP_iff]
          constructor
          · intro h
            exact ⟨hb, hv, k, g, hlk, hgj, h⟩
          · rintro ⟨_, _, k', f, h1, h2, h3⟩
            rw [hlk] at h1
            rw [hgj] at h2
            cases h1
            cases h2
            exact h3
      · exact go0 hv2 (fun z => hv z.2.1) _ _ q
end
end Hfb
namespace Hfb
open PySem PySem.Spec PyProof.Rows L2
open Evl (Ex Ev EvT EvA EvL EvU ev_op ev_var ev_c ev_call ea_cons ea_nil)
section
variable {P : Program} {w : World} {K : PySem.W.Frag} {mg : Str → Option Value} {base : Heap} {H : Hp}
local macro_rules | `(tactic| walk_at "spv") => `(tactic| first | exact v_isInt | exact v_isIntD | exact v_twoPos | exact v_isSeq (.t (by assumption)) | exact v_isSeq (.l (by assumption)) | exact v_isDist (by assumption) (by omega))
local macro_rules | `(tactic| walk_at "rv") => `(tactic| first
  | with_reducible exact Evl.rv_I0
  | ((with_reducible refine Evl.rv_eq ?_); rfl)
  | ((with_reducible refine Evl.rv_ne ?_); rfl)
  | ((with_reducible apply Evl.rv_ixT); (first | assumption | exact Evl.st_of (by assumption)); (first | rfl | assumption))
  | ((with_reducible apply Evl.rv_ixL); (first | assumption | exact Evl.sq_of (by assumption)); (first | rfl | assumption))
  | exact isi_int
  | exact isi_bool
  | exact isi_str
  | exact rc_max
  | exact rc_min
  | (apply rc_lenL; first | assumption | exact Evl.sq_of (by assumption))
  | (apply rc_lenT; first | assumption | exact Evl.st_of (by assumption))
  | walk_at "fld"
  | walk_at "spv")
local macro_rules | `(tactic| walk_at "ev") => `(tactic| first
  | ((with_reducible apply Evl.ev_var); rfl)
  | with_reducible exact Evl.ev_c
  | with_reducible exact Evl.ea_nil
  | ((with_reducible apply Evl.ea_cons) <;> walk_at "ev")
  | ((with_reducible apply Evl.ev_op) <;> walk_at "ev")
  | ((with_reducible apply ev_chain) <;> walk_at "ev")
  | ((with_reducible apply Evl.ev_cb) <;> walk_at "ev")
  | ((with_reducible apply Evl.ev_call) <;> walk_at "ev")
  | ((with_reducible apply Evl.ev_notV) <;> walk_at "ev")
  | ((with_reducible apply ev_andU) <;> walk_at "ev")
  | ((with_reducible apply ev_orU) <;> walk_at "ev")
  | ((with_reducible apply Evl.et_B) <;> walk_at "ev")
  | ((with_reducible apply Evl.et_test) <;> walk_at "ev")
  | ((with_reducible apply Evl.et_not) <;> walk_at "ev")
  | ((with_reducible apply et_andU) <;> walk_at "ev")
  | ((with_reducible apply et_orU) <;> walk_at "ev")
  | walk_at "rv")
/-! ### the law's stream -/
def StrAt (H : Hp) (a : Addr) : Prop := ∃ x y : Int, H a = some (.lst [.int x, .int y])
theorem StrAt.mono {H H' : Hp} {a : Addr} (e : Ex H H') (h : StrAt H a) : StrAt H' a := by
  obtain ⟨x, y, h⟩ := h
  exact ⟨x, y, e _ _ h⟩
theorem rv_IC {C : Int → Int → Prop} {g : Int → Int → V} {i j : Int} (c : C i j) : Evl.RV (rI C g) (.int i) (.int j) H (g i j) := fun H1 e Q q => ⟨i, j, rfl, rfl, c, q H1 (Ex.refl H1)⟩
def sp_draw : Sp := fun vs H Q _ => ∃ (a : Addr) (m : Nat), vs = [.ref a, nV m] ∧ 1 ≤ m ∧ m ≤ 1000000 ∧ StrAt H a ∧ ∀ r H', r < m → FrP a H H' → StrAt H' a → Q (nV r) H'
theorem cl_draw (T : Tx K mg) (A : At K mg "_law_draw" "_law_draw" "_law_draw" s__law_draw []) : Cl P w K mg base 1 "_law_draw" sp_draw := by
  refine cl_of A sc__law_draw (fun _ _ _ _ _ _ us hl => match us, hl with | [_, _], _ => rfl) (fun vs H Q E h => ?_) (fun f cdv A outer s H vs Q E hr h => ?_)
  · obtain ⟨a, m, rfl, _⟩ := h
    rfl
  · obtain ⟨a, m, rfl, h1, h2, ⟨x, y, ha⟩, q⟩ := h
    refine ⟨_, (pss_cons (ps_if (pt_cmpR op_ge (pe_ix ix_list (pv 0) pe_int (fun _ _ => rfl)) (pe_op op_pow pe_int pe_int) (nomark _)) (pss_cons (ps_set (i := 2) sc__law_draw.nd rfl (Or.inl rfl) (pe_op op_mod (pe_ix ix_list (pv 0) pe_int (fun _ _ => rfl)) (pv 1)))
        (pss_cons (ps_asg (pe_op op_fdivN (pe_ix ix_list (pv 0) pe_int (fun _ _ => rfl)) (pv 1)) (pg_sub (pv 0) pe_int set_list))
        (pss_one (ps_ret (pv 2))))) pss_nil)
      (pss_cons (ps_asg (pe_op op_mod (pe_op op_mul (pe_op op_add (pe_ix ix_list (pv 0) pe_int (fun _ _ => rfl)) pe_int) pe_int) pe_int) (pg_sub (pv 0) pe_int set_list))
      (pss_cons (ps_set (i := 3) sc__law_draw.nd rfl (Or.inl rfl) (pe_op op_mod (pe_op op_mul (pe_ix ix_list (pv 0) pe_int (fun _ _ => rfl)) (pe_ix ix_list (pv 0) pe_int (fun _ _ => rfl))) pe_int))
      (pss_one (ps_ret (pe_op op_mod (pe_op op_fdivN (pe_op op_mod (pe_op op_mul (pv 3) pe_int) pe_int) pe_int) (pv 1))))))), ?_⟩
    have modlt : ∀ z : Int, ∃ r : Nat, r < m ∧ z % (m : Int) = (r : Int) := fun z => ⟨(z % (m : Int)).toNat, by have := Int.emod_nonneg z (b := (m : Int)) (by omega); have := Int.emod_lt_of_pos z (b := (m : Int)) (by omega); omega, by have := Int.emod_nonneg z (b := (m : Int)) (by omega); omega⟩
    have ix0 : ∀ {G : Hp} {u v : V}, G a = some (.lst [u, v]) → ∀ {σ : L2.St}, σ[0]? = some (some (.ref a)) → Ev (tOp (rIxL K) (tVar 0) (tC (.int 0))) σ G u := fun {G u v} hg {σ} hσ => ev_op (ev_var hσ) ev_c (Evl.rv_ixL (Evl.sq_of hg) (atI_nat (j := 0) rfl))
    have ix1 : ∀ {G : Hp} {u v : V}, G a = some (.lst [u, v]) → ∀ {σ : L2.St}, σ[0]? = some (some (.ref a)) → Ev (tOp (rIxL K) (tVar 0) (tC (.int 1))) σ G v := fun {G u v} hg {σ} hσ => ev_op (ev_var hσ) ev_c (Evl.rv_ixL (Evl.sq_of hg) (atI_nat (j := 1) rfl))
    refine Go.here (go_when (b := decide (x ≥ (10 : Int) ^ (18 : Int).toNat)) (Evl.et_test (ev_op (ix0 ha rfl) (ev_op ev_c ev_c (rv_IC (by unfold CPow; decide))) (Evl.rv_I0))) (fun hb => ?_) (fun hb => ?_))
    · obtain ⟨r, hr, er⟩ := modlt x
      refine go_set (ev_op (ix0 ha rfl) (ev_var rfl) (rv_IC (by show 0 < (m : Int); omega))) ?_
      intro H2 e2
      have ha2 := e2 _ _ ha
      refine Evl.q_setL (j := 0) ha2 (ev_op (ix0 ha2 rfl) (ev_var rfl) (rv_IC (by show (m : Int) ≠ 0 ∧ (m : Int).natAbs < 1073741824; omega))) (ev_var rfl) ev_c (by simp) fun H3 e3 => ?_
      refine Go.here (go_ret (ev_var rfl) fun H4 e4 => ?_)
      rw [er]
      exact q r H4 hr ((FrP.put (e2.trans e3)).trans (FrP.of e4)) ⟨_, _, e4 _ _ upd_same⟩
    · intro H2 e2
      have ha2 := e2 _ _ ha
      refine Evl.q_setL (j := 1) ha2 (ev_op (ev_op (ev_op (ix1 ha2 rfl) ev_c Evl.rv_I0) ev_c (rv_IC (by unfold CMul; omega))) ev_c (rv_IC (by decide))) (ev_var rfl) ev_c (by simp) fun H3 e3 => ?_
      have hb3 : (upd H3 a (.lst ([V.int x, V.int y].set 1 (.int ((y + 1) * 48271 % 2147483647))))) a = some (.lst [.int x, .int ((y + 1) * 48271 % 2147483647)]) := upd_same
      have fr : FrP a H (upd H3 a (.lst ([V.int x, V.int y].set 1 (.int ((y + 1) * 48271 % 2147483647))))) := FrP.put (e2.trans e3)
      generalize upd H3 a (.lst ([V.int x, V.int y].set 1 (.int ((y + 1) * 48271 % 2147483647)))) = G at hb3 fr
      have zb := Int.emod_nonneg ((y + 1) * 48271) (b := 2147483647) (by decide)
      have zc := Int.emod_lt_of_pos ((y + 1) * 48271) (b := 2147483647) (by decide)
      generalize (y + 1) * 48271 % 2147483647 = z at hb3 zb zc
      refine Go.here (go_set (ev_op (ev_op (ix1 hb3 rfl) (ix1 hb3 rfl) (rv_IC (by unfold CMul; omega))) ev_c (rv_IC (by decide))) ?_)
      refine go_ret (ev_op (ev_op (ev_op (ev_op (ev_var rfl) ev_c (rv_IC (by unfold CMul; omega))) ev_c (rv_IC (by decide))) ev_c (rv_IC (by show (8 : Int) ≠ 0 ∧ _; decide))) (ev_var rfl) (rv_IC (by show 0 < (m : Int); omega))) fun H4 e4 => ?_
      obtain ⟨r, hr, er⟩ := modlt ((z * z % 2147483629 * 69621 % 2147483587).fdiv 8)
      rw [er]
      exact q r H4 hr (fr.trans (FrP.of e4)) ⟨_, _, e4 _ _ hb3⟩
/-! ### what is told of a value, the stream going on -/
def TD (a : Addr) (te : TE) (σ : L2.St) (H : Hp) (R : V → Hp → Prop) : Prop := ∀ Q : V → Hp → Prop, (∀ v H2, FrP a H H2 → StrAt H2 a → R v H2 → Q v H2) → te σ H Q
def TDA (a : Addr) (ta : TA) (σ : L2.St) (H : Hp) (R : List V → Hp → Prop) : Prop := ∀ Q : List V → Hp → Prop, (∀ vs H2, FrP a H H2 → StrAt H2 a → R vs H2 → Q vs H2) → ta σ H Q
section
variable {a : Addr} {te tm t1 t2 : TE} {ta : TA} {σ : L2.St} {R R' : V → Hp → Prop} {RA RB : List V → Hp → Prop} {tz : TS} {Dd : Ends} {m i j : Nat}
theorem td_of (hs : StrAt H a) (h : Tk te σ H R) : TD a te σ H R := fun Q q => h H (Ex.refl H) Q fun v H2 e r => q v H2 (FrP.of e) (hs.mono e) r
theorem td_ev {x : V} (hs : StrAt H a) (h : Ev te σ H x) : TD a te σ H (fun v _ => v = x) := td_of hs (Tk.of h)
theorem td_imp (h : TD a te σ H R) (f : ∀ v H2, FrP a H H2 → StrAt H2 a → R v H2 → R' v H2) : TD a te σ H R' := fun Q q => h Q fun v H2 e s r => q v H2 e s (f v H2 e s r)
abbrev Dr (m : Nat) (v : V) (_ : Hp) : Prop := ∃ r : Nat, v = nV r ∧ r < m
theorem td_draw {t0 : TE} (hs : StrAt H a) (h0 : Ev t0 σ H (.ref a)) (h1 : Ev tm σ H (nV m)) (l1 : 1 ≤ m) (l2 : m ≤ 1000000) : TD a (tCall sp_draw [] E0 (tCons t0 (tCons tm tNil))) σ H (Dr m) := fun Q q =>
  ea_cons h0 (ea_cons h1 ea_nil) H (Ex.refl H) _ fun H2 e2 => ⟨a, m, rfl, l1, l2, hs.mono e2, fun r H' hr f s => q _ H' ((FrP.of e2).trans f) s ⟨r, rfl, hr⟩⟩
theorem td_inc (h : TD a te σ H (Dr m)) : TD a (tOp (rI0 fun i j => .int (i + j)) (tC (.int 1)) te) σ H (fun v _ => ∃ r : Nat, v = nV (r + 1) ∧ r < m) := fun Q q => h _ fun v H2 f s r => by
  obtain ⟨r, rfl, hr⟩ := r
  refine ⟨1, r, rfl, rfl, ?_⟩
  show Q (V.int (1 + (r : Int))) H2
  rw [show (1 : Int) + (r : Int) = ((r + 1 : Nat) : Int) by omega]
  exact q _ H2 f s ⟨r, rfl, hr⟩
theorem tda_nil (hs : StrAt H a) : TDA a tNil σ H (fun vs H2 => vs = []) := fun Q q => q [] H (FrP.refl _ _) hs rfl
theorem tda_cons {R2 : V → Hp → List V → Hp → Prop} (h : TD a te σ H R) (h2 : ∀ v H1, FrP a H H1 → StrAt H1 a → R v H1 → TDA a ta σ H1 (R2 v H1)) : TDA a (tCons te ta) σ H (fun vs H2 => ∃ v us H1, vs = v :: us ∧ FrP a H H1 ∧ FrP a H1 H2 ∧ R v H1 ∧ R2 v H1 us H2) := fun Q q =>
  h _ fun v H1 f1 s1 r1 => h2 v H1 f1 s1 r1 _ fun us H2 f2 s2 r2 => q _ H2 (f1.trans f2) s2 ⟨v, us, H1, rfl, f1, f2, r1, r2⟩
theorem q_td {g : TG} (h : TD a te σ H R) (k : ∀ v H1, FrP a H H1 → StrAt H1 a → R v H1 → g v σ H1 fun σ2 H2 => tz Dd σ2 H2) : tSeq (tAsg te g) tz Dd σ H := h _ k
theorem q_tdret (h : TD a te σ H R) (k : ∀ v H1, FrP a H H1 → StrAt H1 a → R v H1 → Dd.rt v H1) : tRet te Dd σ H := h _ k
theorem q_par2 {tn tk : TE} {l m : Nat} {t0 t0' : TE} (hs : StrAt H a) (h0 : ∀ G : Hp, Ev t0 σ G (.ref a)) (h0' : ∀ G : Hp, Ev t0' σ G (.ref a)) (h1 : ∀ G : Hp, Ev tn σ G (nV l)) (h2 : ∀ G : Hp, Ev tk σ G (nV m)) (l1 : 1 ≤ l ∧ l ≤ 1000000) (l2 : 1 ≤ m ∧ m ≤ 1000000)
    (k : ∀ x y H1, FrP a H H1 → StrAt H1 a → x < l → y < m → tz Dd ((σ.set i (some (nV x))).set j (some (nV y))) H1) : tSeq (tPar i j (tCons (tCall sp_draw [] E0 (tCons t0 (tCons tn tNil))) (tCons (tCall sp_draw [] E0 (tCons t0' (tCons tk tNil))) tNil))) tz Dd σ H :=
  td_draw hs (h0 H) (h1 H) l1.1 l1.2 _ fun v H1 f1 s1 r1 => td_draw s1 (h0' H1) (h2 H1) l2.1 l2.2 _ fun u H2 f2 s2 r2 => by
    obtain ⟨x, rfl, hx⟩ := r1
    obtain ⟨y, rfl, hy⟩ := r2
    exact ⟨nV x, nV y, rfl, k x y H2 (f1.trans f2) s2 hx hy⟩
end
end
end Hfb
namespace Hfb
open PySem PySem.Spec PyProof.Rows L2
open Evl (Ex Ev EvT EvA EvL EvU ev_op ev_var ev_c ev_call ea_cons ea_nil)
section
variable {P : Program} {w : World} {K : PySem.W.Frag} {mg : Str → Option Value} {base : Heap} {H : Hp}
local macro_rules | `(tactic| walk_at "spv") => `(tactic| first | exact v_isInt | exact v_isIntD | exact v_twoPos | exact v_isSeq (.t (by assumption)) | exact v_isSeq (.l (by assumption)) | exact v_isDist (by assumption) (by omega))
local macro_rules | `(tactic| walk_at "rv") => `(tactic| first
  | with_reducible exact Evl.rv_I0
  | ((with_reducible refine Evl.rv_eq ?_); rfl)
  | ((with_reducible refine Evl.rv_ne ?_); rfl)
  | ((with_reducible apply Evl.rv_ixT); (first | assumption | exact Evl.st_of (by assumption)); (first | rfl | assumption))
  | ((with_reducible apply Evl.rv_ixL); (first | assumption | exact Evl.sq_of (by assumption)); (first | rfl | assumption))
  | exact isi_int
  | exact isi_bool
  | exact isi_str
  | exact rc_max
  | exact rc_min
  | (apply rc_lenL; first | assumption | exact Evl.sq_of (by assumption))
  | (apply rc_lenT; first | assumption | exact Evl.st_of (by assumption))
  | walk_at "fld"
  | walk_at "spv")
local macro_rules | `(tactic| walk_at "ev") => `(tactic| first
  | ((with_reducible apply Evl.ev_var); rfl)
  | with_reducible exact Evl.ev_c
  | with_reducible exact Evl.ea_nil
  | ((with_reducible apply Evl.ea_cons) <;> walk_at "ev")
  | ((with_reducible apply Evl.ev_op) <;> walk_at "ev")
  | ((with_reducible apply ev_chain) <;> walk_at "ev")
  | ((with_reducible apply Evl.ev_cb) <;> walk_at "ev")
  | ((with_reducible apply Evl.ev_call) <;> walk_at "ev")
  | ((with_reducible apply Evl.ev_notV) <;> walk_at "ev")
  | ((with_reducible apply ev_andU) <;> walk_at "ev")
  | ((with_reducible apply ev_orU) <;> walk_at "ev")
  | ((with_reducible apply Evl.et_B) <;> walk_at "ev")
  | ((with_reducible apply Evl.et_test) <;> walk_at "ev")
  | ((with_reducible apply Evl.et_not) <;> walk_at "ev")
  | ((with_reducible apply et_andU) <;> walk_at "ev")
  | ((with_reducible apply et_orU) <;> walk_at "ev")
  | walk_at "rv")
/-! ### the law's distances, ids, windows -/
theorem prev_filter (S : List Nat) (x : Nat) : ∀ n, ((List.range n).filter (fun t => decide (S[t]? = some x)) = [] ∧ prevEq S x n = none) ∨ ∃ l q, (List.range n).filter (fun t => decide (S[t]? = some x)) = l ++ [q] ∧ prevEq S x n = some q
  | 0 => .inl ⟨rfl, rfl⟩
  | n + 1 => by
    rw [List.range_succ, List.filter_append]
    unfold prevEq
    by_cases e : S[n]? = some x
    · refine .inr ⟨(List.range n).filter (fun t => decide (S[t]? = some x)), n, ?_, ?_⟩
      · simp [e]
      · rw [if_pos e]
    · rw [if_neg e]
      have e1 : [n].filter (fun t => decide (S[t]? = some x)) = [] := by simp [e]
      rw [e1, List.append_nil]
      exact prev_filter S x n
def sp_lawDist : Sp := fun vs H Q _ => ∃ (s : Addr) (S : List Nat), vs = [.ref s] ∧ H s = some (.lst (nL S)) ∧ S.length ≤ 1000 ∧ ∀ v H', Ex H H' → NewN H (distOf S) v H' → Q v H'
theorem NewN.back {S : List Nat} {H0 H' : Hp} {v : V} (e : Ex H0 H) (r : NewN H S v H') : NewN H0 S v H' := by
  obtain ⟨p, h1, h2, h3⟩ := r
  exact ⟨p, h1, Evl.fresh_back e h2, h3⟩
theorem v_lawDist {s : Addr} {S : List Nat} (h : H s = some (.lst (nL S))) (hl : S.length ≤ 1000) : SpK sp_lawDist [.ref s] H (NewN H (distOf S)) := fun H1 e Q q E => ⟨s, S, rfl, e _ _ h, hl, fun v H' e' r => q v H' e' (r.back e)⟩
theorem filter_step {S : List Nat} {x j : Nat} : (List.range (j + 1)).filter (fun t => decide (S[t]? = some x)) = (List.range j).filter (fun t => decide (S[t]? = some x)) ++ if S[j]? = some x then [j] else [] := by
  rw [List.range_succ, List.filter_append]
  congr 1
  by_cases e : S[j]? = some x <;> simp [e]
theorem cl_lawDist (T : Tx K mg) (A : At K mg "_law_distances" "_law_distances" "_law_distances" s__law_distances []) : Cl P w K mg base 1 "_law_distances" sp_lawDist := by
  refine cl_of A sc__law_distances (fun _ _ _ _ _ _ us hl => match us, hl with | [_], _ => rfl) (fun vs H Q E h => ?_) (fun f cdv A outer s H vs Q E hr h => ?_)
  · obtain ⟨a, S, rfl, _⟩ := h
    rfl
  · obtain ⟨a, S, rfl, ha, hlen, q⟩ := h
    refine ⟨_, (pss_cons (ps_set (i := 1) sc__law_distances.nd rfl (Or.inl rfl) (pe_lst pa_nil))
      (pss_cons (ps_for PassesOwn.never rfl (pi_enum rfl T.b_enumerate (pa_cons (pv 0) pa_nil)) (pg_tup rfl (pgs_cons (pg_name (i := 2) sc__law_distances.nd rfl (Or.inl rfl)) (pgs_cons (pg_name (i := 3) sc__law_distances.nd rfl (Or.inr rfl)) pgs_nil)))
          (pss_cons (ps_setLc (i := 4) (own := [("_law_at", 5)]) (g := gName 5)  (by rfl) sc__law_distances.nd rfl rfl (sw_true rfl rfl rfl (by decide +kernel)) (pi_range1 rfl T.b_range (pa_cons (pv 2) pa_nil)) (blkOk_by (own := [("_law_at", 5)]) (N := N__law_distances) (sc := defScope s__law_distances) (by decide +kernel)) (fun _ _ _ _ _ => (pg_name (i := 5) sc__law_distances.nd rfl (Or.inl rfl))) (fun _ _ _ _ _ => (pts_one (pt_cmpR op_eq (pe_ix (r := rIxL K) ix_list (pv 0) (pv 5) (fun _ _ => rfl)) (pv 3) (nomark _)))) (fun _ _ _ _ _ => (pv 5)))
          (pss_one (ps_expr (pe_bm PySem.F.plainAttrs_list PySem.F.slot_list_append PySem.F.type_list_append mt_append (pv 1) (pa_cons (pe_ifExp (pt_cmpR (op_neD hr.units) (pv 4) (pe_lst pa_nil) (nomark _)) (pe_op op_sub (pv 2) (pe_ix ix_list (pv 4) (pe_un un_neg pe_int) (fun _ _ => rfl))) pe_int) pa_nil))))))
      (pss_one (ps_ret (pv 1))))), ?_⟩
    refine Go.here (go_setP (tk_lst ea_nil (by simp)) fun v1 G1 g1 r1 => ?_)
    obtain ⟨l, rfl, hl, hl1⟩ := r1
    intro G2 g2
    refine q_forE (K := K) (a := a) (xs := nL S) (by walk_at "ev") (Evl.sq_of (g2 _ _ (g1 _ _ ha))) (fun i σ' H' => ∃ y2 y3 y4, σ' = [some (.ref a), some (.ref l), y2, y3, y4, none] ∧ Ex H H' ∧ H' l = some (.lst (nL ((distOf S).take i))))
      (fun H1 e1 => ⟨none, none, none, rfl, (g1.trans g2).trans e1, e1 _ _ (g2 _ _ hl1)⟩) (fun i σ' H' _ p => Evl.sq_of (by obtain ⟨_, _, _, _, e, _⟩ := p; exact e _ _ ha)) (fun i x σ' H' t hi p ht => ?_) (fun σ' H' p => ?_)
    · obtain ⟨y2, y3, y4, rfl, e, hl'⟩ := p
      obtain ⟨x, hx, rfl⟩ := nL_get_of hi
      have hiS := lt_of_get hx
      have e2 : Ex H' (upd H' t (.tup [nV i, nV x])) := Ex.new ht
      generalize upd H' t (.tup [nV i, nV x]) = H2 at e2
      have ha2 := (e.trans e2) _ _ ha
      refine Go.here (go_setP (tk_lcR (n := i) (ea_cons (ev_var rfl) ea_nil) (by omega) (fun j acc _ => acc = nL ((List.range j).filter (fun t => decide (S[t]? = some x)))) (fun _ _ _ _ _ h => h) (fun _ => rfl) (fun _ _ => rfl) (fun j acc H3 e3 hj hG => ?_)) fun v H3 e3 r3 => ?_)
      · have hjS : j < S.length := by omega
        have hgj := get_of_lt hjS
        refine ⟨decide (S[j]? = some x), Evl.et_is (Evl.et_test (ev_op (ev_op (ev_var rfl) (ev_var rfl) (Evl.rv_ixL (Evl.sq_of (e3 _ _ ha2)) (nL_atI hgj (by omega)))) (ev_var rfl) (Evl.rv_eq rfl))) ?_, fun hb => ?_, fun hb => ⟨_, Tk.of (ev_var rfl), fun y H4 e4 r => ?_⟩⟩
        · rw [hgj]
          exact decide_eq_decide.mpr ⟨fun h => by injection h with h; congr 1; omega, fun h => by rw [Option.some.inj h]⟩
        · have hb := of_decide_eq_false hb
          subst hG
          dsimp only
          rw [filter_step, if_neg hb, List.append_nil]
        · have hb := of_decide_eq_true hb
          subst hG
          dsimp only
          rw [filter_step, if_pos hb, r]
          unfold nL
          rw [List.map_append]
          rfl
      · obtain ⟨c, acc, rfl, hc, hc3, rfl⟩ := r3
        intro H4 e4
        have hl4 := e4 _ _ (e3 _ _ (e2 _ _ hl'))
        have hc4 := e4 _ _ hc3
        have e04 := ((e.trans e2).trans e3).trans e4
        have lt1 : ((distOf S).take i).length ≤ i := by rw [List.length_take]; omega
        refine Evl.s_app (K := K) (v := nV (dAt S i)) hl4 (ev_var rfl) ?_ (by rw [List.length_map]; omega) fun H5 e5 => ?_
        · have hgx : S.getD i 0 = x := by
            rw [List.getD_eq_getElem?_getD, hx]
            rfl
          have ne := ev_neLL (K := K) (H := H4) (σ := [some (.ref a), some (.ref l), some (nV i), some (nV x), some (.ref c), none]) (t1 := tVar 4) (t2 := tLst tNil) (ns := ((List.range i).filter (fun t => decide (S[t]? = some x))).map fun n : Nat => (n : Int)) (ms := []) (Tk.imp (Tk.of (ev_var rfl)) fun v H6 e6 r => ⟨c, r, by rw [e6 _ _ hc4, List.map_map]; rfl⟩) (Tk.imp (tk_lst ea_nil (by simp)) fun v H6 e6 r => by obtain ⟨d, h1, _, h2⟩ := r; exact ⟨d, h1, h2⟩)
          rcases prev_filter S x i with ⟨f1, f2⟩ | ⟨l', q', f1, f2⟩
          · refine Evl.ev_if (b := false) (Evl.et_is (Evl.et_test ne) (by rw [f1]; rfl)) (fun z => nomatch z) fun _ => ?_
            have : dAt S i = 0 := by unfold dAt; rw [hgx, f2]
            rw [this]
            exact ev_c
          · have : dAt S i = i - q' := by unfold dAt; rw [hgx, f2]
            have lq := (prevEq_some f2).1
            rw [f1] at hc4
            refine Evl.ev_if (b := true) (Evl.et_is (Evl.et_test ne) (by rw [f1]; simp)) (fun _ => ?_) (fun z => nomatch z)
            refine Evl.ev_is (ev_op (ev_var rfl) (ev_op (z := nV q') (ev_var rfl) (Evl.ev_un ev_c Evl.ru_neg) (Evl.rv_ixL (Evl.sq_of hc4) ?_)) Evl.rv_I0) ?_
            · unfold nL
              rw [List.map_append]
              exact atI_last _ _
            · rw [this]
              congr 1
              omega
        · refine ⟨_, _, _, rfl, Ex.mut (e04.trans e5) (Evl.fresh_back (Ex.refl H) hl), ?_⟩
          rw [upd_same, take_snoc (distOf_get hiS)]
          unfold nL
          rw [List.map_append]
          rfl
    · obtain ⟨y2, y3, y4, rfl, e, hl'⟩ := p
      rw [show (nL S).length = (distOf S).length by rw [List.length_map, distOf_length], List.take_length] at hl'
      exact Go.here (go_ret (ev_var rfl) fun H1 e1 => q _ H1 (e.trans e1) ⟨l, rfl, hl, e1 _ _ hl'⟩)
end
end Hfb
namespace Hfb
open PySem PySem.Spec PyProof.Rows L2
open Evl (Ex Ev EvT EvA EvL EvU ev_op ev_var ev_c ev_call ea_cons ea_nil)
section
variable {P : Program} {w : World} {K : PySem.W.Frag} {mg : Str → Option Value} {base : Heap} {H : Hp}
local macro_rules | `(tactic| walk_at "spv") => `(tactic| first | exact v_isInt | exact v_isIntD | exact v_twoPos | exact v_isSeq (.t (by assumption)) | exact v_isSeq (.l (by assumption)) | exact v_isDist (by assumption) (by omega))
local macro_rules | `(tactic| walk_at "rv") => `(tactic| first
  | with_reducible exact Evl.rv_I0
  | ((with_reducible refine Evl.rv_eq ?_); rfl)
  | ((with_reducible refine Evl.rv_ne ?_); rfl)
  | ((with_reducible apply Evl.rv_ixT); (first | assumption | exact Evl.st_of (by assumption)); (first | rfl | assumption))
  | ((with_reducible apply Evl.rv_ixL); (first | assumption | exact Evl.sq_of (by assumption)); (first | rfl | assumption))
  | exact isi_int
  | exact isi_bool
  | exact isi_str
  | exact rc_max
  | exact rc_min
  | (apply rc_lenL; first | assumption | exact Evl.sq_of (by assumption))
  | (apply rc_lenT; first | assumption | exact Evl.st_of (by assumption))
  | walk_at "fld"
  | walk_at "spv")
local macro_rules | `(tactic| walk_at "ev") => `(tactic| first
  | ((with_reducible apply Evl.ev_var); rfl)
  | with_reducible exact Evl.ev_c
  | with_reducible exact Evl.ea_nil
  | ((with_reducible apply Evl.ea_cons) <;> walk_at "ev")
  | ((with_reducible apply Evl.ev_op) <;> walk_at "ev")
  | ((with_reducible apply ev_chain) <;> walk_at "ev")
  | ((with_reducible apply Evl.ev_cb) <;> walk_at "ev")
  | ((with_reducible apply Evl.ev_call) <;> walk_at "ev")
  | ((with_reducible apply Evl.ev_notV) <;> walk_at "ev")
  | ((with_reducible apply ev_andU) <;> walk_at "ev")
  | ((with_reducible apply ev_orU) <;> walk_at "ev")
  | ((with_reducible apply Evl.et_B) <;> walk_at "ev")
  | ((with_reducible apply Evl.et_test) <;> walk_at "ev")
  | ((with_reducible apply Evl.et_not) <;> walk_at "ev")
  | ((with_reducible apply et_andU) <;> walk_at "ev")
  | ((with_reducible apply et_orU) <;> walk_at "ev")
  | walk_at "rv")
/-! ### ids, windows -/
abbrev idsOf (M : List Nat) : List Nat := fillF (zeros (distOf M)) (distOf M) (distOf M).length
theorem idsOf_len (M : List Nat) : (idsOf M).length = M.length := by rw [idsOf, fillF_len, distOf_length]
def sp_lawIds : Sp := fun vs H Q _ => ∃ (d : Addr) (M : List Nat), vs = [.ref d] ∧ H d = some (.lst (nL (distOf M))) ∧ M.length ≤ 1000 ∧ ∀ v H', Ex H H' → NewN H (idsOf M) v H' → Q v H'
theorem v_lawIds {d : Addr} {M : List Nat} (h : H d = some (.lst (nL (distOf M)))) (hl : M.length ≤ 1000) : SpK sp_lawIds [.ref d] H (NewN H (idsOf M)) := fun H1 e Q q E => ⟨d, M, rfl, e _ _ h, hl, fun v H' e' r => q v H' e' (r.back e)⟩
theorem cl_lawIds (T : Tx K mg) (A : At K mg "_law_ids" "_law_ids" "_law_ids" s__law_ids []) : Cl P w K mg base 1 "_law_ids" sp_lawIds := by
  refine cl_of A sc__law_ids (fun _ _ _ _ _ _ us hl => match us, hl with | [_], _ => rfl) (fun vs H Q E h => ?_) (fun f cdv A outer s H vs Q E hr h => ?_)
  · obtain ⟨d, M, rfl, _⟩ := h
    rfl
  · obtain ⟨d, M, rfl, hd, hlen, q⟩ := h
    refine ⟨_, (pss_cons (ps_set (i := 1) sc__law_ids.nd rfl (Or.inl rfl) (pe_lst pa_nil))
      (pss_cons (ps_set (i := 2) sc__law_ids.nd rfl (Or.inl rfl) pe_int)
      (pss_cons (ps_for PassesOwn.never rfl (pi_enum rfl T.b_enumerate (pa_cons (pv 0) pa_nil)) (pg_tup rfl (pgs_cons (pg_name (i := 3) sc__law_ids.nd rfl (Or.inl rfl)) (pgs_cons (pg_name (i := 4) sc__law_ids.nd rfl (Or.inl rfl)) pgs_nil)))
          (pss_one (ps_if (pt_cmpR op_eq (pv 4) pe_int (nomark _)) (pss_cons (ps_expr (pe_bm PySem.F.plainAttrs_list PySem.F.slot_list_append PySem.F.type_list_append mt_append (pv 1) (pa_cons (pv 2) pa_nil)))
            (pss_one (ps_set (i := 2) sc__law_ids.nd rfl (Or.inl rfl) (pe_op op_add (pv 2) pe_int)))) (pss_one (ps_expr (pe_bm PySem.F.plainAttrs_list PySem.F.slot_list_append PySem.F.type_list_append mt_append (pv 1) (pa_cons (pe_ix ix_list (pv 1) (pe_op op_sub (pv 3) (pv 4)) (fun _ _ => rfl)) pa_nil)))))))
      (pss_one (ps_ret (pv 1)))))), ?_⟩
    have len : (nL (distOf M)).length = M.length := by rw [List.length_map, distOf_length]
    refine Go.here (go_setP (tk_lst ea_nil (by simp)) fun v1 G1 g1 r1 => ?_)
    obtain ⟨l, rfl, hl, hl1⟩ := r1
    refine go_set ev_c ?_
    intro G2 g2
    refine q_forE (K := K) (a := d) (xs := nL (distOf M)) (by walk_at "ev") (Evl.sq_of (g2 _ _ (g1 _ _ hd))) (fun i σ' H' => ∃ y3 y4, σ' = [some (.ref d), some (.ref l), some (nV (zeros (distOf M) i)), y3, y4] ∧ Ex H H' ∧ H' l = some (.lst (nL (fillF (zeros (distOf M)) (distOf M) i))))
      (fun H1 e1 => ⟨none, none, rfl, (g1.trans g2).trans e1, e1 _ _ (g2 _ _ hl1)⟩) (fun i σ' H' _ p => Evl.sq_of (by obtain ⟨_, _, _, e, _⟩ := p; exact e _ _ hd)) (fun i x σ' H' T' hi p hT => ?_) (fun σ' H' p => ?_)
    · obtain ⟨y3, y4, rfl, e, hl'⟩ := p
      obtain ⟨hi', rfl⟩ := dist_get hi
      have nTl : l ≠ T' := ne_of_none hl' hT
      have e2 : Ex H' (upd H' T' (.tup [nV i, nV (dAt M i)])) := Ex.new hT
      have hl2 := e2 _ _ hl'
      generalize upd H' T' (.tup [nV i, nV (dAt M i)]) = H2 at e2 hl2
      have len2 : (nL (fillF (zeros (distOf M)) (distOf M) i)).length = i := by rw [List.length_map, fillF_len]
      have li := dAt_le M i
      refine Evl.s_if (b := decide (V.int ((dAt M i : Nat) : Int) = V.int 0)) (by walk_at "ev") (fun hb H3 e3 => ?_) (fun hb H3 e3 => ?_)
      · have hb : dAt M i = 0 := by have := V.int.inj (of_decide_eq_true hb); omega
        have hl3 := e3 _ _ hl2
        refine q_seq (Evl.s_app (K := K) (v := nV (zeros (distOf M) i)) hl3 (by walk_at "ev") (ev_var rfl) (by rw [len2]; omega) fun H4 e4 => ?_)
        refine Evl.s_asg (v := nV (zeros (distOf M) (i + 1))) (Evl.ev_is (ev_op (ev_var rfl) ev_c Evl.rv_I0) ?_) fun H5 e5 => ?_
        · have : zeros (distOf M) (i + 1) = zeros (distOf M) i + 1 := by
            show zeros (distOf M) i + (if (distOf M).getD i 0 = 0 then 1 else 0) = _
            rw [distOf_getD hi', if_pos hb]
          rw [this]
          rfl
        · refine ⟨_, _, rfl, (Ex.mut (((e.trans e2).trans e3).trans e4) (Evl.fresh_back (Ex.refl H) hl)).trans e5, e5 _ _ ?_⟩
          rw [upd_same]
          show _ = some (HO.lst (nL (fillF (zeros (distOf M)) (distOf M) i ++ [if (distOf M).getD i 0 = 0 then _ else _])))
          rw [distOf_getD hi', if_pos hb]
          unfold nL
          rw [List.map_append]
          rfl
      · have hb : ¬ dAt M i = 0 := fun z => of_decide_eq_false hb (by rw [z]; rfl)
        have hl3 := e3 _ _ hl2
        refine Evl.s_app (K := K) (v := nV ((fillF (zeros (distOf M)) (distOf M) i).getD (i - dAt M i) 0)) hl3 (by walk_at "ev") (ev_op (by walk_at "ev") (by walk_at "ev") (Evl.rv_ixL (Evl.sq_of hl3) (nL_atI (n := i - dAt M i) (get_of_lt (by rw [fillF_len]; omega)) (by omega)))) (by rw [len2]; omega) fun H4 e4 => ?_
        have ez : zeros (distOf M) (i + 1) = zeros (distOf M) i := by
          show zeros (distOf M) i + (if (distOf M).getD i 0 = 0 then 1 else 0) = _
          rw [distOf_getD hi', if_neg hb]
          rfl
        refine ⟨_, _, by rw [ez]; rfl, Ex.mut (((e.trans e2).trans e3).trans e4) (Evl.fresh_back (Ex.refl H) hl), ?_⟩
        rw [upd_same]
        show _ = some (HO.lst (nL (fillF (zeros (distOf M)) (distOf M) i ++ [if (distOf M).getD i 0 = 0 then _ else (fillF (zeros (distOf M)) (distOf M) i).getD (i - (distOf M).getD i 0) 0])))
        rw [distOf_getD hi', if_neg hb]
        unfold nL
        rw [List.map_append]
        rfl
    · obtain ⟨y3, y4, rfl, e, hl'⟩ := p
      rw [show (nL (distOf M)).length = (distOf M).length from List.length_map _] at hl'
      exact Go.here (go_ret (ev_var rfl) fun H1 e1 => q _ H1 (e.trans e1) ⟨l, rfl, hl, e1 _ _ hl'⟩)
abbrev cutN (S : List Nat) (p m : Nat) : List Nat := (S.drop p).take m
def sp_lawWin : Sp := fun vs H Q _ => ∃ (s : Addr) (S : List Nat) (p m : Nat), vs = [.ref s, nV p, nV m] ∧ H s = some (.lst (nL S)) ∧ S.length ≤ 1000 ∧ p + m ≤ S.length ∧ ∀ v H', Ex H H' → NewN H (distOf (cutN S p m)) v H' → Q v H'
theorem v_lawWin {s : Addr} {S : List Nat} {p m : Nat} (h : H s = some (.lst (nL S))) (hl : S.length ≤ 1000) (hm : p + m ≤ S.length) : SpK sp_lawWin [.ref s, nV p, nV m] H (NewN H (distOf (cutN S p m))) := fun H1 e Q q E => ⟨s, S, p, m, rfl, e _ _ h, hl, hm, fun v H' e' r => q v H' e' (r.back e)⟩
theorem cl_lawWin (T : Tx K mg) (c__law_distances : Cl P w K mg base 1 "_law_distances" sp_lawDist) (A : At K mg "_law_window" "_law_window" "_law_window" s__law_window []) : Cl P w K mg base 2 "_law_window" sp_lawWin := by
  refine cl_of A sc__law_window (fun _ _ _ _ _ _ us hl => match us, hl with | [_, _, _], _ => rfl) (fun vs H Q E h => ?_) (fun f cdv A outer s H vs Q E hr h => ?_)
  · obtain ⟨s, S, p, m, rfl, _⟩ := h
    rfl
  · obtain ⟨a, S, p, m, rfl, ha, hlen, hm, q⟩ := h
    refine ⟨_, (pss_one (ps_ret (pcl c__law_distances (hr.mono (by decide)) rfl (pa_cons (pe_slice sl_list (pv 0) (po_some (pv 1)) (po_some (pe_op op_add (pv 1) (pv 2)))) pa_nil)))), ?_⟩
    refine Go.here (go_retP (tk_call1 (R := NewN H (cutN S p m)) (Tk.imp (tk_L (Evl.el_sl (ev_var rfl) (Evl.eo_some (ev_var rfl)) (Evl.eo_some (ev_op (ev_var rfl) (ev_var rfl) Evl.rv_I0)) (Evl.sq_of ha))) fun v H2 e r => ?_) fun v H2 e r => ?_) fun v H1 e1 r => q v H1 e1 r)
    · obtain ⟨c, rfl, hc, h2⟩ := r
      rw [cut_nL S p m hm] at h2
      exact ⟨c, rfl, hc, h2⟩
    · obtain ⟨c, rfl, hc, h2⟩ := r
      exact (v_lawDist h2 (by rw [List.length_take, List.length_drop]; omega)).imp fun u H3 e3 r3 => r3.back e
end
end Hfb
namespace Hfb
open PySem PySem.Spec PyProof.Rows L2
open Evl (Ex Ev EvT EvA EvL EvU ev_op ev_var ev_c ev_call ea_cons ea_nil)
section
variable {P : Program} {w : World} {K : PySem.W.Frag} {mg : Str → Option Value} {base : Heap} {H : Hp}
local macro_rules | `(tactic| walk_at "spv") => `(tactic| first | exact v_isInt | exact v_isIntD | exact v_twoPos | exact v_isSeq (.t (by assumption)) | exact v_isSeq (.l (by assumption)) | exact v_isDist (by assumption) (by omega))
local macro_rules | `(tactic| walk_at "rv") => `(tactic| first
  | with_reducible exact Evl.rv_I0
  | ((with_reducible refine Evl.rv_eq ?_); rfl)
  | ((with_reducible refine Evl.rv_ne ?_); rfl)
  | ((with_reducible apply Evl.rv_ixT); (first | assumption | exact Evl.st_of (by assumption)); (first | rfl | assumption))
  | ((with_reducible apply Evl.rv_ixL); (first | assumption | exact Evl.sq_of (by assumption)); (first | rfl | assumption))
  | exact isi_int
  | exact isi_bool
  | exact isi_str
  | exact rc_max
  | exact rc_min
  | (apply rc_lenL; first | assumption | exact Evl.sq_of (by assumption))
  | (apply rc_lenT; first | assumption | exact Evl.st_of (by assumption))
  | walk_at "fld"
  | walk_at "spv")
local macro_rules | `(tactic| walk_at "ev") => `(tactic| first
  | ((with_reducible apply Evl.ev_var); rfl)
  | with_reducible exact Evl.ev_c
  | with_reducible exact Evl.ea_nil
  | ((with_reducible apply Evl.ea_cons) <;> walk_at "ev")
  | ((with_reducible apply Evl.ev_op) <;> walk_at "ev")
  | ((with_reducible apply ev_chain) <;> walk_at "ev")
  | ((with_reducible apply Evl.ev_cb) <;> walk_at "ev")
  | ((with_reducible apply Evl.ev_call) <;> walk_at "ev")
  | ((with_reducible apply Evl.ev_notV) <;> walk_at "ev")
  | ((with_reducible apply ev_andU) <;> walk_at "ev")
  | ((with_reducible apply ev_orU) <;> walk_at "ev")
  | ((with_reducible apply Evl.et_B) <;> walk_at "ev")
  | ((with_reducible apply Evl.et_test) <;> walk_at "ev")
  | ((with_reducible apply Evl.et_not) <;> walk_at "ev")
  | ((with_reducible apply et_andU) <;> walk_at "ev")
  | ((with_reducible apply et_orU) <;> walk_at "ev")
  | walk_at "rv")
/-! ### does a list of signs keep a fact -/
theorem tk_IL {σ : L2.St} {te : TE} {A : List Nat} {G : Hp} (h : Tk te σ H (NewN G A)) : Tk te σ H (IsIL (A.map fun n : Nat => (n : Int))) := h.imp fun v H2 e r => by
  obtain ⟨p, h1, _, h2⟩ := r
  exact ⟨p, h1, by rw [List.map_map]; exact h2⟩
theorem ev_eqN {σ : L2.St} {t1 t2 : TE} {A B : List Nat} {G1 G2 : Hp} (h1 : Tk t1 σ H (NewN G1 A)) (h2 : Tk t2 σ H (NewN G2 B)) : Ev (tOp (rEqD K) t1 t2) σ H (.bl (decide (A = B))) := by
  refine Evl.ev_is (ev_eqLL (K := K) (tk_IL h1) (tk_IL h2)) ?_
  congr 1
  exact decide_eq_decide.mpr ints_inj
def sp_lawSat : Sp := fun vs H Q _ => ∃ (s : Addr) (S : List Nat) (v : V) (f : Fact), vs = [.ref s, v] ∧ H s = some (.lst (nL S)) ∧ S.length ≤ 60 ∧ FactAt H v f ∧ f.Ok S.length ∧ ∀ H', Ex H H' → Q (.bl (bP (Sat S f))) H'
theorem v_lawSat {s : Addr} {S : List Nat} {v : V} {f : Fact} (hs : H s = some (.lst (nL S))) (hl : S.length ≤ 60) (hf : FactAt H v f) (ok : f.Ok S.length) : Evl.SpV sp_lawSat [.ref s, v] H (.bl (bP (Sat S f))) := fun H1 e Q q E => ⟨s, S, v, f, rfl, e _ _ hs, hl, hf.mono e, ok, q⟩
theorem nV_eq {a b : Nat} : decide (nV a = nV b) = decide (a = b) := decide_eq_decide.mpr ⟨fun h => by injection h with h; omega, fun h => by rw [h]⟩
theorem cl_lawSat (T : Tx K mg) (c__law_window : Cl P w K mg base 2 "_law_window" sp_lawWin) (A : At K mg "_law_satisfied" "_law_satisfied" "_law_satisfied" s__law_satisfied []) : Cl P w K mg base 3 "_law_satisfied" sp_lawSat := by
  refine cl_of A sc__law_satisfied (fun _ _ _ _ _ _ us hl => match us, hl with | [_, _], _ => rfl) (fun vs H Q E h => ?_) (fun f cdv A outer s H vs Q E hr h => ?_)
  · obtain ⟨s, S, v, f, rfl, _⟩ := h
    rfl
  · obtain ⟨a, S, v, f, rfl, ha, hl, hf, ok, q⟩ := h
    refine ⟨_, (pss_cons (ps_if (pt_cmpR op_eq (pe_ix ix_tup (pv 1) pe_int (fun _ _ => rfl)) pe_str (nomark _)) (pss_one (ps_ret (pe_cmpR op_eq (pe_ix ix_list (pv 0) (pe_ix ix_tup (pv 1) pe_int (fun _ _ => rfl)) (fun _ _ => rfl)) (pe_ix ix_list (pv 0) (pe_ix ix_tup (pv 1) pe_int (fun _ _ => rfl)) (fun _ _ => rfl)) (nomark _)))) pss_nil)
      (pss_cons (ps_if (pt_cmpR op_eq (pe_ix ix_tup (pv 1) pe_int (fun _ _ => rfl)) pe_str (nomark _)) (pss_one (ps_ret (pe_cmpR op_ne (pe_ix ix_list (pv 0) (pe_ix ix_tup (pv 1) pe_int (fun _ _ => rfl)) (fun _ _ => rfl)) (pe_ix ix_list (pv 0) (pe_ix ix_tup (pv 1) pe_int (fun _ _ => rfl)) (fun _ _ => rfl)) (nomark _)))) pss_nil)
      (pss_cons (ps_if (pt_cmpR op_eq (pe_ix ix_tup (pv 1) pe_int (fun _ _ => rfl)) pe_str (nomark _)) (pss_one (ps_ret (pe_cmpR (op_eqD hr.units) (pcl c__law_window (hr.mono (by decide)) rfl (pa_cons (pv 0) (pa_cons (pe_ix ix_tup (pv 1) pe_int (fun _ _ => rfl)) (pa_cons (pe_callB call_len_seq rfl T.b_len (by decide +kernel) (pa_cons (pe_ix ix_tup (pv 1) pe_int (fun _ _ => rfl)) pa_nil)) pa_nil)))) (pe_callTy call_list_of rfl T.b_list (by decide +kernel) (pa_cons (pe_ix ix_tup (pv 1) pe_int (fun _ _ => rfl)) pa_nil)) (nomark _)))) pss_nil)
      (pss_one (ps_ret (pe_cmpR (op_eqD hr.units) (pcl c__law_window (hr.mono (by decide)) rfl (pa_cons (pv 0) (pa_cons (pe_ix ix_tup (pv 1) pe_int (fun _ _ => rfl)) (pa_cons (pe_ix ix_tup (pv 1) pe_int (fun _ _ => rfl)) pa_nil)))) (pcl c__law_window (hr.mono (by decide)) rfl (pa_cons (pv 0) (pa_cons (pe_ix ix_tup (pv 1) pe_int (fun _ _ => rfl)) (pa_cons (pe_ix ix_tup (pv 1) pe_int (fun _ _ => rfl)) pa_nil)))) (nomark _))))))), ?_⟩
    have ix : ∀ {i : Nat} {t : TE} {σ : L2.St}, i < S.length → σ[0]? = some (some (.ref a)) → Ev t σ H (nV i) → Ev (tOp (rIxL K) (tVar 0) t) σ H (nV (S.getD i 0)) := fun {i t σ} hi h0 h1 => ev_op (ev_var h0) h1 (Evl.rv_ixL (Evl.sq_of ha) (nL_atI (get_of_lt hi) rfl))
    have eqS : ∀ {i j : Nat}, i < S.length → j < S.length → ((S.getD i 0 = S.getD j 0) ↔ S[i]? = S[j]?) := fun {i j} hi hj => by
      rw [get_of_lt hi, get_of_lt hj]
      exact ⟨fun h => by rw [h], fun h => Option.some.inj h⟩
    cases f with
    | same i j =>
      obtain ⟨c, rfl, hc⟩ := id hf
      refine Go.here (go_take (not_kind (K := K) hf (ev_var rfl) kd_same_same) rfl (go_ret (Evl.ev_is (ev_op (ix ok.1 rfl (ev_op (ev_var rfl) ev_c (Evl.rv_ixT (Evl.st_of hc) rfl))) (ix ok.2.1 rfl (ev_op (ev_var rfl) ev_c (Evl.rv_ixT (Evl.st_of hc) rfl))) (Evl.rv_eq rfl)) ?_) q))
      congr 1
      rw [nV_eq]
      refine bP_of ?_
      rw [decide_eq_true_iff]
      exact eqS ok.1 ok.2.1
    | diff i j =>
      obtain ⟨c, rfl, hc⟩ := id hf
      refine Go.here (go_skip (not_kind (K := K) hf (ev_var rfl) kd_diff_same) rfl (go_take (not_kind (K := K) hf (ev_var rfl) kd_diff_diff) rfl (go_ret (Evl.ev_is (ev_op (ix ok.1 rfl (ev_op (ev_var rfl) ev_c (Evl.rv_ixT (Evl.st_of hc) rfl))) (ix ok.2.1 rfl (ev_op (ev_var rfl) ev_c (Evl.rv_ixT (Evl.st_of hc) rfl))) (Evl.rv_ne rfl)) ?_) q)))
      congr 1
      rw [nV_eq]
      refine bP_of ?_
      rw [Bool.not_eq_true', decide_eq_false_iff_not]
      exact not_congr (eqS ok.1 ok.2.1)
    | win s W =>
      obtain ⟨c, d, rfl, hc, hd⟩ := id hf
      obtain ⟨o1, o2⟩ := ok
      refine Go.here (go_skip (not_kind (K := K) hf (ev_var rfl) kd_win_same) rfl (go_skip (not_kind (K := K) hf (ev_var rfl) kd_win_diff) rfl (go_take (not_kind (K := K) hf (ev_var rfl) kd_win_win) rfl (go_ret (Evl.ev_is (ev_eqN (K := K) (A := distOf (cutN S s W.length)) (B := distOf W) (tk_call (ea_cons (ev_var rfl) (ea_cons (ev_op (ev_var rfl) ev_c (Evl.rv_ixT (Evl.st_of hc) rfl)) (ea_cons (Evl.ev_is (by walk_at "ev") ?_) ea_nil))) (v_lawWin (m := W.length) ha (by omega) o2)) (tk_list (ev_op (ev_var rfl) ev_c (Evl.rv_ixT (Evl.st_of hc) rfl)) (Evl.sq_of hd))) ?_) q))))
      · rw [List.length_map, distOf_length]
      · congr 1
        refine bP_of ?_
        rw [decide_eq_true_iff]
        exact (sat_win o2).symm
    | eqv s t l =>
      obtain ⟨c, rfl, hc⟩ := id hf
      obtain ⟨o1, o2, o3, o4, o5, o6⟩ := ok
      refine Go.here (go_skip (not_kind (K := K) hf (ev_var rfl) kd_eqv_same) rfl (go_skip (not_kind (K := K) hf (ev_var rfl) kd_eqv_diff) rfl (go_skip (not_kind (K := K) hf (ev_var rfl) kd_eqv_win) rfl (go_ret (Evl.ev_is (ev_eqN (K := K) (A := distOf (cutN S s l)) (B := distOf (cutN S t l)) (tk_call (by walk_at "ev") (v_lawWin (p := s) (m := l) ha (by omega) o5)) (tk_call (by walk_at "ev") (v_lawWin (p := t) (m := l) ha (by omega) o6))) ?_) q))))
      congr 1
      refine bP_of ?_
      rw [decide_eq_true_iff]
      exact (sat_eqv o5 o6).symm
end
end Hfb
namespace Hfb
open PySem PySem.Spec PyProof.Rows L2
open Evl (Ex Ev EvT EvA EvL EvU ev_op ev_var ev_c ev_call ea_cons ea_nil)
section
variable {P : Program} {w : World} {K : PySem.W.Frag} {mg : Str → Option Value} {base : Heap} {H : Hp}
local macro_rules | `(tactic| walk_at "spv") => `(tactic| first | exact v_isInt | exact v_isIntD | exact v_twoPos | exact v_isSeq (.t (by assumption)) | exact v_isSeq (.l (by assumption)) | exact v_isDist (by assumption) (by omega))
local macro_rules | `(tactic| walk_at "rv") => `(tactic| first
  | with_reducible exact Evl.rv_I0
  | ((with_reducible refine Evl.rv_eq ?_); rfl)
  | ((with_reducible refine Evl.rv_ne ?_); rfl)
  | ((with_reducible apply Evl.rv_ixT); (first | assumption | exact Evl.st_of (by assumption)); (first | rfl | assumption))
  | ((with_reducible apply Evl.rv_ixL); (first | assumption | exact Evl.sq_of (by assumption)); (first | rfl | assumption))
  | exact isi_int
  | exact isi_bool
  | exact isi_str
  | exact rc_max
  | exact rc_min
  | (apply rc_lenL; first | assumption | exact Evl.sq_of (by assumption))
  | (apply rc_lenT; first | assumption | exact Evl.st_of (by assumption))
  | walk_at "fld"
  | walk_at "spv")
local macro_rules | `(tactic| walk_at "ev") => `(tactic| first
  | ((with_reducible apply Evl.ev_var); rfl)
  | with_reducible exact Evl.ev_c
  | with_reducible exact Evl.ea_nil
  | ((with_reducible apply Evl.ea_cons) <;> walk_at "ev")
  | ((with_reducible apply Evl.ev_op) <;> walk_at "ev")
  | ((with_reducible apply ev_chain) <;> walk_at "ev")
  | ((with_reducible apply Evl.ev_cb) <;> walk_at "ev")
  | ((with_reducible apply Evl.ev_call) <;> walk_at "ev")
  | ((with_reducible apply Evl.ev_notV) <;> walk_at "ev")
  | ((with_reducible apply ev_andU) <;> walk_at "ev")
  | ((with_reducible apply ev_orU) <;> walk_at "ev")
  | ((with_reducible apply Evl.et_B) <;> walk_at "ev")
  | ((with_reducible apply Evl.et_test) <;> walk_at "ev")
  | ((with_reducible apply Evl.et_not) <;> walk_at "ev")
  | ((with_reducible apply et_andU) <;> walk_at "ev")
  | ((with_reducible apply et_orU) <;> walk_at "ev")
  | walk_at "rv")
def sp_lawAll : Sp := fun vs H Q _ => ∃ (d l : Addr) (M : List Nat) (fs : List Fact), vs = [.ref d, .ref l] ∧ H d = some (.lst (nL (distOf M))) ∧ M.length ≤ 60 ∧ FactsAt H l fs ∧ fs.length ≤ 1000 ∧ (∀ f ∈ fs, f.Ok M.length) ∧ (∀ f ∈ fs, Sat M f) ∧ ∀ H', Ex H H' → Q (.bl true) H'
theorem v_lawAll {d l : Addr} {M : List Nat} {fs : List Fact} (hd : H d = some (.lst (nL (distOf M)))) (hl : M.length ≤ 60) (hF : FactsAt H l fs) (hfl : fs.length ≤ 1000) (ok : ∀ f ∈ fs, f.Ok M.length) (sat : ∀ f ∈ fs, Sat M f) : Evl.SpV sp_lawAll [.ref d, .ref l] H (.bl true) := fun H1 e Q q E => ⟨d, l, M, fs, rfl, e _ _ hd, hl, hF.mono e, hfl, ok, sat, q⟩
theorem cl_lawAll (T : Tx K mg) (c__law_ids : Cl P w K mg base 1 "_law_ids" sp_lawIds) (c__law_satisfied : Cl P w K mg base 3 "_law_satisfied" sp_lawSat) (A : At K mg "_law_all_satisfied" "_law_all_satisfied" "_law_all_satisfied" s__law_all_satisfied []) : Cl P w K mg base 4 "_law_all_satisfied" sp_lawAll := by
  refine cl_of A sc__law_all_satisfied (fun _ _ _ _ _ _ us hl => match us, hl with | [_, _], _ => rfl) (fun vs H Q E h => ?_) (fun f cdv A outer s H vs Q E hr h => ?_)
  · obtain ⟨d, l, M, fs, rfl, _⟩ := h
    rfl
  · obtain ⟨d, l, M, fs, rfl, hd, hl, hF, hfl, ok, sat, q⟩ := h
    refine ⟨_, (pss_cons (ps_set (i := 2) sc__law_all_satisfied.nd rfl (Or.inr rfl) (pcl c__law_ids (hr.mono (by decide)) rfl (pa_cons (pv 0) pa_nil)))
      (pss_one (ps_ret (pe_cmpR (op_eqD hr.units) (pe_lc (own := [("_law_fact", 3)]) (g := gName 3) (by rfl) sc__law_all_satisfied.nd (pi_list (pv 1)) (blkOk_by (own := [("_law_fact", 3)]) (N := N__law_all_satisfied) (sc := defScope s__law_all_satisfied) (by decide +kernel)) (fun _ _ _ _ _ => (pg_name (i := 3) sc__law_all_satisfied.nd rfl (Or.inl rfl))) (fun _ _ _ _ _ => (pts_one (pt_not (pt_val (pcl c__law_satisfied (hr.mono (by decide)) rfl (pa_cons (pv 2) (pa_cons (pv 3) pa_nil))))))) (fun _ _ _ _ _ => (pv 3))) (pe_lst pa_nil) (nomark _))))), ?_⟩
    refine Go.here (go_setP (tk_call (by walk_at "ev") (v_lawIds hd (by omega))) fun v1 H1 e1 r1 => ?_)
    obtain ⟨c, rfl, hc, hc1⟩ := r1
    obtain ⟨us, hu, hul, hat⟩ := hF.mono e1
    have kr := (ids_follows M).ker
    have il := idsOf_len M
    refine go_ret (Evl.ev_is (ev_eqLL (K := K) (ns := []) (ms := []) (Tk.imp (tk_lcL (K := K) (ev_var rfl) (Evl.sq_of hu) (by omega) (fun i acc _ => acc = []) (fun _ _ _ _ _ h => h) (fun _ => rfl) (fun _ _ => rfl) (fun i x acc H2 e2 hi hG => ?_)) fun v H2 e2 r => ?_) (Tk.imp (tk_lst ea_nil (by simp)) fun v H2 e2 r => ?_)) (by rfl)) fun H2 e2 => q H2 (e1.trans e2)
    · obtain ⟨g, hg⟩ := get_some (xs := fs) (i := i) (by rw [← hul]; exact lt_of_get hi)
      have gm := List.mem_of_getElem? hg
      refine ⟨false, Evl.et_is (Evl.et_not (Evl.et_B (ev_call (ea_cons (ev_var rfl) (ea_cons (ev_var rfl) ea_nil)) (v_lawSat (e2 _ _ hc1) (by rw [il]; exact hl) ((hat i x g hi hg).mono e2) (by rw [il]; exact ok g gm))))) ?_, fun _ => hG, fun z => nomatch z⟩
      rw [bP_true ((sat_ker kr rfl (ok g gm)).mp (sat g gm))]
      rfl
    · obtain ⟨p, acc, rfl, _, h1, rfl⟩ := r
      exact ⟨p, rfl, h1⟩
    · obtain ⟨p, rfl, _, h1⟩ := r
      exact ⟨p, rfl, h1⟩
/-! ### facts that the stream may not touch -/
def FactO (X : Addr → Prop) (H : Hp) (v : V) : Fact → Prop
  | .win i W => ∃ a d, v = .ref a ∧ H a = some (.tup [sWin, nV i, .ref d]) ∧ H d = some (.lst (nL (distOf W))) ∧ ¬ X d
  | f => FactAt H v f
theorem FactO.at {X : Addr → Prop} {v : V} {f : Fact} (h : FactO X H v f) : FactAt H v f := by
  cases f with
  | same i j => exact h
  | diff i j => exact h
  | eqv i j l => exact h
  | win i W => obtain ⟨a, d, h1, h2, h3, _⟩ := h; exact ⟨a, d, h1, h2, h3⟩
theorem FactO.keep {X : Addr → Prop} {H H' : Hp} {v : V} {f : Fact} (t : TEx H H') (k : ∀ b o, ¬ X b → H b = some o → H' b = some o) (h : FactO X H v f) : FactO X H' v f := by
  cases f with
  | same i j => obtain ⟨a, h1, h2⟩ := h; exact ⟨a, h1, t _ _ h2⟩
  | diff i j => obtain ⟨a, h1, h2⟩ := h; exact ⟨a, h1, t _ _ h2⟩
  | eqv i j l => obtain ⟨a, h1, h2⟩ := h; exact ⟨a, h1, t _ _ h2⟩
  | win i W => obtain ⟨a, d, h1, h2, h3, h4⟩ := h; exact ⟨a, d, h1, t _ _ h2, k _ _ h4 h3, h4⟩
theorem FactO.weak {X Y : Addr → Prop} {v : V} {f : Fact} (hx : ∀ b, Y b → X b) (h : FactO X H v f) : FactO Y H v f := by
  cases f with
  | same i j => exact h
  | diff i j => exact h
  | eqv i j l => exact h
  | win i W => obtain ⟨a, d, h1, h2, h3, h4⟩ := h; exact ⟨a, d, h1, h2, h3, fun z => h4 (hx d z)⟩
theorem te_str {a : Addr} {H H' : Hp} (f : FrP a H H') (s : StrAt H a) : TEx H H' := fun b ys hb => f b _ (fun z => by
  obtain ⟨x, y, hs⟩ := s
  rw [z, hs] at hb
  cases hb) hb
/-- a list of facts, out of the stream's way -/
def FactsO (a : Addr) (H : Hp) (l : Addr) (fs : List Fact) : Prop := l ≠ a ∧ ∃ us : List V, H l = some (.lst us) ∧ us.length = fs.length ∧ ∀ (i : Nat) v f, us[i]? = some v → fs[i]? = some f → FactO (· = a) H v f
theorem FactsO.at {a l : Addr} {fs : List Fact} (h : FactsO a H l fs) : FactsAt H l fs := by
  obtain ⟨_, us, h1, h2, h3⟩ := h
  exact ⟨us, h1, h2, fun i v f x y => (h3 i v f x y).at⟩
theorem FactsO.fr {a l : Addr} {fs : List Fact} {H H' : Hp} (f : FrP a H H') (s : StrAt H a) (h : FactsO a H l fs) : FactsO a H' l fs := by
  obtain ⟨h0, us, h1, h2, h3⟩ := h
  exact ⟨h0, us, f _ _ h0 h1, h2, fun i v g x y => (h3 i v g x y).keep (te_str f s) fun b o nb hb => f b o nb hb⟩
end
end Hfb
namespace Hfb
open PySem PySem.Spec PyProof.Rows L2
open Evl (Ex Ev EvT EvA EvL EvU ev_op ev_var ev_c ev_call ea_cons ea_nil)
section
variable {P : Program} {w : World} {K : PySem.W.Frag} {mg : Str → Option Value} {base : Heap} {H : Hp}
local macro_rules | `(tactic| walk_at "spv") => `(tactic| first | exact v_isInt | exact v_isIntD | exact v_twoPos | exact v_isSeq (.t (by assumption)) | exact v_isSeq (.l (by assumption)) | exact v_isDist (by assumption) (by omega))
local macro_rules | `(tactic| walk_at "rv") => `(tactic| first
  | with_reducible exact Evl.rv_I0
  | ((with_reducible refine Evl.rv_eq ?_); rfl)
  | ((with_reducible refine Evl.rv_ne ?_); rfl)
  | ((with_reducible apply Evl.rv_ixT); (first | assumption | exact Evl.st_of (by assumption)); (first | rfl | assumption))
  | ((with_reducible apply Evl.rv_ixL); (first | assumption | exact Evl.sq_of (by assumption)); (first | rfl | assumption))
  | exact isi_int
  | exact isi_bool
  | exact isi_str
  | exact rc_max
  | exact rc_min
  | (apply rc_lenL; first | assumption | exact Evl.sq_of (by assumption))
  | (apply rc_lenT; first | assumption | exact Evl.st_of (by assumption))
  | walk_at "fld"
  | walk_at "spv")
local macro_rules | `(tactic| walk_at "ev") => `(tactic| first
  | ((with_reducible apply Evl.ev_var); rfl)
  | with_reducible exact Evl.ev_c
  | with_reducible exact Evl.ea_nil
  | ((with_reducible apply Evl.ea_cons) <;> walk_at "ev")
  | ((with_reducible apply Evl.ev_op) <;> walk_at "ev")
  | ((with_reducible apply ev_chain) <;> walk_at "ev")
  | ((with_reducible apply Evl.ev_cb) <;> walk_at "ev")
  | ((with_reducible apply Evl.ev_call) <;> walk_at "ev")
  | ((with_reducible apply Evl.ev_notV) <;> walk_at "ev")
  | ((with_reducible apply ev_andU) <;> walk_at "ev")
  | ((with_reducible apply ev_orU) <;> walk_at "ev")
  | ((with_reducible apply Evl.et_B) <;> walk_at "ev")
  | ((with_reducible apply Evl.et_test) <;> walk_at "ev")
  | ((with_reducible apply Evl.et_not) <;> walk_at "ev")
  | ((with_reducible apply et_andU) <;> walk_at "ev")
  | ((with_reducible apply et_orU) <;> walk_at "ev")
  | walk_at "rv")
/-! ### the law's symbols -/
section
variable {a : Addr} {ta : TA} {te : TE} {σ : L2.St} {vs : List Nat} {j : Nat}
/-- [.. for k in range(..)], the stream going on -/
theorem td_lcR {Pn : Nat → Prop} (hs0 : StrAt H a) (h : TDA a ta σ H (fun ws _ => ∃ n : Nat, ws = [nV n] ∧ n ≤ 40000 ∧ Pn n)) (G : Addr → Nat → List V → Hp → Prop) (hG : ∀ Dl i acc H1 H2, TEx H1 H2 → (∀ b o, b ≠ Dl → H1 b = some o → H2 b = some o) → G Dl i acc H1 → G Dl i acc H2)
    (hw : ∀ x, wipe ((wipe σ vs).set j (some x)) vs = wipe σ vs) (h0 : ∀ Dl H', G Dl 0 [] H')
    (hs : ∀ Dl i acc H', FrP a H H' → StrAt H' a → H' Dl ≠ none → Dl ≠ a → G Dl i acc H' → TD a te ((wipe σ vs).set j (some (nV i))) H' (fun y H2 => G Dl (i + 1) (acc ++ [y]) H2)) :
    TD a (tLc (iRng1 ta) (gName j) tYes te vs) σ H (fun v H2 => ∃ n Dl acc, Pn n ∧ v = .ref Dl ∧ H Dl = none ∧ H2 Dl = some (.lst acc) ∧ acc.length = n ∧ G Dl n acc H2) := fun Q q => h _ fun ws H1 f1 s1 r1 => by
  obtain ⟨n, rfl, hn, pn⟩ := r1
  refine ⟨n, rfl, by omega, by omega, fun Dl hD => ?_⟩
  have na : Dl ≠ a := fun z => by
    obtain ⟨x, y, s⟩ := s1
    rw [← z, hD] at s
    cases s
  have hD0 : H Dl = none := by
    cases e : H Dl with
    | none => rfl
    | some o =>
      have := f1 Dl o na e
      rw [hD] at this
      cases this
  refine lc_range (lo := 0) (n := (n : Int).toNat) (fun i H' => FrP a H H' ∧ StrAt H' a ∧ ∃ acc, H' Dl = some (.lst acc) ∧ acc.length = i ∧ G Dl i acc H') ⟨f1.trans (FrP.of (Ex.new hD)), s1.mono (Ex.new hD), [], upd_same, rfl, h0 _ _⟩ (fun i H' hi p => ?_) (fun H' p => ?_)
  · obtain ⟨p1, p2, acc, p3, p4, p5⟩ := p
    have e0 : (0 : Int) + (i : Int) = (i : Int) := Int.zero_add _
    rw [e0]
    refine ⟨hw _, ?_⟩
    unfold tYes
    dsimp only
    rw [if_pos rfl]
    refine hs Dl i acc H' p1 p2 (by rw [p3]; intro z; cases z) na p5 _ fun y H4 f4 s4 r4 => ?_
    have h4 := f4 _ _ na p3
    refine ⟨acc, h4, Evl.sz_lt (by omega), fun b o nb hb => ?_, ?_, acc ++ [y], upd_same, by rw [List.length_append, p4]; rfl, hG _ _ _ _ _ (te_mut h4) (fun b o nb hb => by rw [upd_ne nb]; exact hb) r4⟩
    · rw [upd_ne (fun z => by rw [z, hD0] at hb; cases hb)]
      exact f4 b o nb (p1 b o nb hb)
    · obtain ⟨x, y, s⟩ := s4
      exact ⟨x, y, by rw [upd_ne (Ne.symm na)]; exact s⟩
  · obtain ⟨p1, p2, acc, p3, p4, p5⟩ := p
    have en : (n : Int).toNat = n := by omega
    rw [en] at p4 p5
    exact q _ H' p1 p2 ⟨n, Dl, acc, pn, rfl, hD0, p3, p4, p5⟩
end

def SymN (n : Nat) (H : Hp) (v : V) (H' : Hp) : Prop := ∃ s S, v = .ref s ∧ H s = none ∧ H' s = some (.lst (nL S)) ∧ S.length = n
theorem fr_back {a c : Addr} {H H' : Hp} (f : FrP a H H') (s : StrAt H' a) (h : H' c = none) : H c = none := by
  cases e : H c with
  | none => rfl
  | some o =>
    by_cases z : c = a
    · obtain ⟨x, y, s⟩ := s
      rw [z, s] at h
      cases h
    · rw [f c o z e] at h
      cases h
def sp_symbols : Sp := fun vs H Q _ => ∃ (a : Addr) (n m : Nat), vs = [.ref a, nV n, nV m] ∧ StrAt H a ∧ 1 ≤ n ∧ n ≤ 60 ∧ 1 ≤ m ∧ m ≤ 1000 ∧ ∀ v H', FrP a H H' → StrAt H' a → SymN n H v H' → Q v H'
abbrev Gints (_ : Addr) (i : Nat) (acc : List V) (_ : Hp) : Prop := ∃ S : List Nat, acc = nL S ∧ S.length = i
theorem gints_snoc {acc : List V} {i r : Nat} (h : ∃ S : List Nat, acc = nL S ∧ S.length = i) : ∃ S : List Nat, acc ++ [nV r] = nL S ∧ S.length = i + 1 := by
  obtain ⟨S, h1, h2⟩ := h
  exact ⟨S ++ [r], by rw [h1]; unfold nL; rw [List.map_append]; rfl, by rw [List.length_append, h2]; rfl⟩
/-- a list of draws -/
theorem td_draws {a : Addr} {σ : L2.St} {vs : List Nat} {j n m : Nat} {tn t0 tm : TE} (hs0 : StrAt H a) (hn : Ev tn σ H (nV n)) (hn2 : n ≤ 40000) (hw : ∀ x, wipe ((wipe σ vs).set j (some x)) vs = wipe σ vs) (m1 : 1 ≤ m) (m2 : m ≤ 1000000)
    (h0 : ∀ (G : Hp) (x : V), Ev t0 ((wipe σ vs).set j (some x)) G (.ref a)) (hm : ∀ (G : Hp) (x : V), Ev tm ((wipe σ vs).set j (some x)) G (nV m)) :
    TD a (tLc (iRng1 (tCons tn tNil)) (gName j) tYes (tCall sp_draw [] E0 (tCons t0 (tCons tm tNil))) vs) σ H (SymN n H) := by
  refine td_imp (td_lcR (Pn := (· = n)) hs0 (fun Q q => ea_cons hn ea_nil H (Ex.refl H) _ fun H2 e2 => q _ H2 (FrP.of e2) (hs0.mono e2) ⟨n, rfl, hn2, rfl⟩) Gints (fun _ _ _ _ _ _ _ h => h) hw (fun _ _ => ⟨[], rfl, rfl⟩) (fun Dl i acc H' f s nd na g => td_imp (td_draw s (h0 H' _) (hm H' _) m1 m2) fun v H2 f2 s2 r => ?_)) fun v H2 f s r => ?_
  · obtain ⟨r, rfl, _⟩ := r
    exact gints_snoc g
  · obtain ⟨k, Dl, acc, rfl, rfl, h1, h2, h3, S, rfl, h4⟩ := r
    exact ⟨Dl, S, rfl, h1, h2, h4⟩
/-! tests, the stream going on -/
def TDT (a : Addr) (t : TT) (σ : L2.St) (H : Hp) (R : Bool → Prop) : Prop := ∀ Q : Bool → Hp → Prop, (∀ b H2, FrP a H H2 → StrAt H2 a → R b → Q b H2) → t σ H Q
theorem tdt_of {a : Addr} {t : TT} {σ : L2.St} {b : Bool} (hs : StrAt H a) (h : EvT t σ H b) : TDT a t σ H (· = b) := fun Q q => h H (Ex.refl H) Q fun H2 e => q b H2 (FrP.of e) (hs.mono e) rfl
theorem tdt_eq {a : Addr} {te : TE} {σ : L2.St} {m : Nat} {c : Int} (h : TD a te σ H (Dr m)) : TDT a (tTest (tOp rEq te (tC (.int c)))) σ H (fun _ => True) := fun Q q => h _ fun v H2 f s r => by
  obtain ⟨r, rfl, _⟩ := r
  exact ⟨rfl, decide (nV r = V.int c), rfl, q _ H2 f s trivial⟩
theorem tdt_and {a : Addr} {t u : TT} {σ : L2.St} {R1 R2 : Bool → Prop} (h1 : TDT a t σ H R1) (h2 : ∀ H1, FrP a H H1 → StrAt H1 a → TDT a u σ H1 R2) : TDT a (tAnd t u) σ H (fun b => b = true → R2 true) := fun Q q => h1 _ fun b H2 f s r => by
  cases b with
  | true =>
    show u σ H2 Q
    refine h2 H2 f s _ fun c H3 f3 s3 r3 => q c H3 (f.trans f3) s3 (fun z => ?_)
    subst z
    exact r3
  | false => exact q false H2 f s (fun z => nomatch z)
theorem q_tdif {a : Addr} {t : TT} {tu tz : TS} {Dd : Ends} {σ : L2.St} {R : Bool → Prop} (h : TDT a t σ H R) (h1 : ∀ H1, FrP a H H1 → StrAt H1 a → R true → tu { Dd with nx := tz Dd } σ H1) (h2 : ∀ H1, FrP a H H1 → StrAt H1 a → R false → tz Dd σ H1) : tSeq (tIfS t tu tNext) tz Dd σ H := h _ fun b H2 f s r => by
  cases b with
  | true => exact h1 H2 f s r
  | false => exact h2 H2 f s r
theorem fr_sym {n : Nat} {a : Addr} {H H1 H' : Hp} {v : V} (f : FrP a H H1) (s : StrAt H1 a) (r : SymN n H1 v H') : SymN n H v H' := by
  obtain ⟨c, S, h1, h2, h3⟩ := r
  exact ⟨c, S, h1, fr_back f s h2, h3⟩
theorem cl_symbols (T : Tx K mg) (c__law_draw : Cl P w K mg base 1 "_law_draw" sp_draw) (A : At K mg "_law_symbols" "_law_symbols" "_law_symbols" s__law_symbols []) : Cl P w K mg base 2 "_law_symbols" sp_symbols := by
  refine cl_of A sc__law_symbols (fun _ _ _ _ _ _ us hl => match us, hl with | [_, _, _], _ => rfl) (fun vs H Q E h => ?_) (fun f cdv A outer s H vs Q E hr h => ?_)
  · obtain ⟨a, n, m, rfl, _⟩ := h
    rfl
  · obtain ⟨a, n, m, rfl, hs, n1, n2, m1, m2, q⟩ := h
    refine ⟨_, (pss_cons (ps_if (PW.pt (pw_and (pt_cmpR op_eq (pcl c__law_draw (hr.mono (by decide)) rfl (pa_cons (pv 0) (pa_cons pe_int pa_nil))) pe_int (nomark _)) (pw_and1 (pt_cmpR op_gt (pv 1) pe_int (nomark _))))) (pss_cons (ps_set (i := 3) sc__law_symbols.nd rfl (Or.inr rfl) (pe_op op_add pe_int (pcl c__law_draw (hr.mono (by decide)) rfl (pa_cons (pv 0) (pa_cons (pe_op op_fdivN (pv 1) pe_int) pa_nil)))))
        (pss_cons (ps_set (i := 4) sc__law_symbols.nd rfl (Or.inr rfl) (pe_lc (own := [("_law_k", 5)]) (g := gName 5) (by rfl) sc__law_symbols.nd (pi_range1 rfl T.b_range (pa_cons (pv 3) pa_nil)) (blkOk_by (own := [("_law_k", 5)]) (N := N__law_symbols) (sc := defScope s__law_symbols) (by decide +kernel)) (fun _ _ _ _ _ => (pg_name (i := 5) sc__law_symbols.nd rfl (Or.inl rfl))) (fun _ _ _ _ _ => pts_nil) (fun _ _ _ _ _ => (pcl c__law_draw (hr.mono (by decide)) rfl (pa_cons (pv 0) (pa_cons (pv 2) pa_nil))))))
        (pss_one (ps_ret (pe_lc (own := [("_law_k", 5)]) (g := gName 5) (by rfl) sc__law_symbols.nd (pi_range1 rfl T.b_range (pa_cons (pv 1) pa_nil)) (blkOk_by (own := [("_law_k", 5)]) (N := N__law_symbols) (sc := defScope s__law_symbols) (by decide +kernel)) (fun _ _ _ _ _ => (pg_name (i := 5) sc__law_symbols.nd rfl (Or.inl rfl))) (fun _ _ _ _ _ => pts_nil) (fun _ _ _ _ _ => (pe_ix (r := rIxL K) ix_list (pv 4) (pe_op op_mod (pv 5) (pv 3)) (fun _ _ => rfl)))))))) pss_nil)
      (pss_one (ps_ret (pe_lc (own := [("_law_k", 5)]) (g := gName 5) (by rfl) sc__law_symbols.nd (pi_range1 rfl T.b_range (pa_cons (pv 1) pa_nil)) (blkOk_by (own := [("_law_k", 5)]) (N := N__law_symbols) (sc := defScope s__law_symbols) (by decide +kernel)) (fun _ _ _ _ _ => (pg_name (i := 5) sc__law_symbols.nd rfl (Or.inl rfl))) (fun _ _ _ _ _ => pts_nil) (fun _ _ _ _ _ => (pcl c__law_draw (hr.mono (by decide)) rfl (pa_cons (pv 0) (pa_cons (pv 2) pa_nil)))))))), ?_⟩
    have plain : ∀ {H2 : Hp}, FrP a H H2 → StrAt H2 a → tRet (tLc (iRng1 (tCons (tVar 1) tNil)) (gName 5) tYes (tCall sp_draw [] E0 (tCons (tVar 0) (tCons (tVar 2) tNil))) [5]) { nx := fun _ H' => Q .non H', rt := Q } [some (.ref a), some (nV n), some (nV m), none, none, none] H2 := fun {H2} f s =>
      q_tdret (td_draws s (ev_var rfl) (by omega) (fun _ => rfl) m1 (by omega) (fun _ _ => ev_var rfl) (fun _ _ => ev_var rfl)) fun v H3 f3 s3 r => q v H3 (f.trans f3) s3 (by obtain ⟨c, S, h1, h2, h3⟩ := r; exact ⟨c, S, h1, fr_back f s h2, h3⟩)
    refine q_tdif (tdt_and (tdt_eq (td_draw hs (ev_var rfl) ev_c (by decide) (by decide))) fun H1 f1 s1 => tdt_of (b := decide (n > 1)) s1 (Evl.et_is (Evl.et_test (ev_op (ev_var rfl) ev_c Evl.rv_I0)) (decide_eq_decide.mpr (by omega)))) (fun H1 f1 s1 r1 => ?_) (fun H1 f1 s1 r1 => plain f1 s1)
    have r1 : 1 < n := of_decide_eq_true (r1 rfl).symm
    refine q_td (td_inc (td_draw (m := n / 2) s1 (ev_var rfl) (Evl.ev_is (ev_op (ev_var rfl) ev_c (rv_IC (by show (2 : Int) ≠ 0 ∧ _; decide))) ?_) (by omega) (by omega))) fun v H2 f2 s2 r2 => ?_
    · congr 1
      rw [Int.fdiv_eq_ediv_of_nonneg _ (by decide)]
      omega
    · obtain ⟨z, rfl, hz⟩ := r2
      refine q_td (td_draws (n := z + 1) s2 (ev_var rfl) (by omega) (fun _ => rfl) m1 (by omega) (fun _ _ => ev_var rfl) (fun _ _ => ev_var rfl)) fun v H3 f3 s3 r3 => ?_
      obtain ⟨c, S, rfl, hc, hc3, hS⟩ := r3
      refine Go.here (go_retP (tk_lcR (n := n) (ea_cons (ev_var rfl) ea_nil) (by omega) (fun i acc _ => ∃ S : List Nat, acc = nL S ∧ S.length = i) (fun _ _ _ _ _ h => h) (fun _ => rfl) (fun _ _ => ⟨[], rfl, rfl⟩) (fun i acc H4 e4 hi hG => ?_)) fun v H4 e4 r4 => ?_)
      · have hlt : i % (z + 1) < S.length := by rw [hS]; exact Nat.mod_lt _ (by omega)
        refine ⟨true, fun H1 e1 Q' q' => q' H1 (Ex.refl H1), fun z => (nomatch z), fun _ => ⟨_, Tk.of (ev_op (z := nV (S.getD (i % (z + 1)) 0)) (ev_var rfl) (ev_op (ev_var rfl) (ev_var rfl) (rv_IC (by show (0 : Int) < ((z + 1 : Nat) : Int); omega))) (Evl.rv_ixL (Evl.sq_of (e4 _ _ hc3)) (nL_atI (get_of_lt hlt) (by show ((i : Int) % ((z + 1 : Nat) : Int)) = _; omega)))), fun y H7 e7 r => ?_⟩⟩
        rw [r]
        exact gints_snoc hG
      · obtain ⟨d, acc, rfl, hd, hd4, S', rfl, hS'⟩ := r4
        have f04 := ((f1.trans f2).trans f3).trans (FrP.of e4)
        exact q _ H4 f04 (s3.mono e4) ⟨d, S', rfl, fr_back ((f1.trans f2).trans f3) s3 hd, hd4, hS'⟩
end
end Hfb
namespace Hfb
open PySem PySem.Spec PyProof.Rows L2
open Evl (Ex Ev EvT EvA EvL EvU ev_op ev_var ev_c ev_call ea_cons ea_nil)
section
variable {P : Program} {w : World} {K : PySem.W.Frag} {mg : Str → Option Value} {base : Heap} {H : Hp}
local macro_rules | `(tactic| walk_at "spv") => `(tactic| first | exact v_isInt | exact v_isIntD | exact v_twoPos | exact v_isSeq (.t (by assumption)) | exact v_isSeq (.l (by assumption)) | exact v_isDist (by assumption) (by omega))
local macro_rules | `(tactic| walk_at "rv") => `(tactic| first
  | with_reducible exact Evl.rv_I0
  | ((with_reducible refine Evl.rv_eq ?_); rfl)
  | ((with_reducible refine Evl.rv_ne ?_); rfl)
  | ((with_reducible apply Evl.rv_ixT); (first | assumption | exact Evl.st_of (by assumption)); (first | rfl | assumption))
  | ((with_reducible apply Evl.rv_ixL); (first | assumption | exact Evl.sq_of (by assumption)); (first | rfl | assumption))
  | exact isi_int
  | exact isi_bool
  | exact isi_str
  | exact rc_max
  | exact rc_min
  | (apply rc_lenL; first | assumption | exact Evl.sq_of (by assumption))
  | (apply rc_lenT; first | assumption | exact Evl.st_of (by assumption))
  | walk_at "fld"
  | walk_at "spv")
local macro_rules | `(tactic| walk_at "ev") => `(tactic| first
  | ((with_reducible apply Evl.ev_var); rfl)
  | with_reducible exact Evl.ev_c
  | with_reducible exact Evl.ea_nil
  | ((with_reducible apply Evl.ea_cons) <;> walk_at "ev")
  | ((with_reducible apply Evl.ev_op) <;> walk_at "ev")
  | ((with_reducible apply ev_chain) <;> walk_at "ev")
  | ((with_reducible apply Evl.ev_cb) <;> walk_at "ev")
  | ((with_reducible apply Evl.ev_call) <;> walk_at "ev")
  | ((with_reducible apply Evl.ev_notV) <;> walk_at "ev")
  | ((with_reducible apply ev_andU) <;> walk_at "ev")
  | ((with_reducible apply ev_orU) <;> walk_at "ev")
  | ((with_reducible apply Evl.et_B) <;> walk_at "ev")
  | ((with_reducible apply Evl.et_test) <;> walk_at "ev")
  | ((with_reducible apply Evl.et_not) <;> walk_at "ev")
  | ((with_reducible apply et_andU) <;> walk_at "ev")
  | ((with_reducible apply et_orU) <;> walk_at "ev")
  | walk_at "rv")
/-! ### the law's facts -/
theorem fr_some {a b : Addr} {H H1 : Hp} (f : FrP a H H1) (s : StrAt H1 a) (h : H b ≠ none) : H1 b ≠ none := fun z => h (fr_back f s z)
section
variable {a : Addr} {σ : L2.St} {t0 t1 t2 t3 t4 ti te : TE} {tl : TA} {x y z : V} {R : V → Hp → Prop} {xs : List V}
theorem td_tup3 {R : Hp → V → Hp → Prop} (h1 : ∀ G : Hp, Ev t1 σ G x) (h2 : ∀ G : Hp, Ev t2 σ G y) (h3 : ∀ G : Hp, Ex H G → TD a t3 σ G (R G)) : TD a (tTup (tCons t1 (tCons t2 (tCons t3 tNil)))) σ H (fun v H' => ∃ p z G H1, v = .ref p ∧ H1 p = none ∧ H' p = some (.tup [x, y, z]) ∧ Ex H G ∧ FrP a H H1 ∧ StrAt H1 a ∧ Ex H1 H' ∧ R G z H1) := fun Q q =>
  h1 H H (Ex.refl H) _ fun H1 e1 => h2 H1 H1 (Ex.refl _) _ fun H2 e2 => h3 H2 (e1.trans e2) _ fun z H3 f3 s3 r3 => ⟨by show 3 ≤ sizeLine; decide, fun p hp => q _ _ (((FrP.of (e1.trans e2)).trans f3).trans (FrP.of (Ex.new hp))) (s3.mono (Ex.new hp)) ⟨p, z, H2, H3, rfl, hp, upd_same, e1.trans e2, (FrP.of (e1.trans e2)).trans f3, s3, Ex.new hp, r3⟩⟩
theorem td_tup4 {w4 : V} (h1 : ∀ G : Hp, Ev t1 σ G x) (h2 : ∀ G : Hp, Ev t2 σ G y) (h3 : ∀ G : Hp, Ev t3 σ G z) (h4 : ∀ G : Hp, Ex H G → TD a t4 σ G R) : TD a (tTup (tCons t1 (tCons t2 (tCons t3 (tCons t4 tNil))))) σ H (fun v H' => ∃ p u H1, v = .ref p ∧ H' p = some (.tup [x, y, z, u]) ∧ R u H1) := fun Q q =>
  h1 H H (Ex.refl H) _ fun H1 e1 => h2 H1 H1 (Ex.refl _) _ fun H2 e2 => h3 H2 H2 (Ex.refl _) _ fun H3 e3 => h4 H3 ((e1.trans e2).trans e3) _ fun u H4 f4 s4 r4 => ⟨by show 4 ≤ sizeLine; decide, fun p hp => q _ _ (((FrP.of ((e1.trans e2).trans e3)).trans f4).trans (FrP.of (Ex.new hp))) (s4.mono (Ex.new hp)) ⟨p, u, H4, rfl, upd_same, r4⟩⟩
abbrev DrI (m : Nat) (v : V) (_ : Hp) : Prop := ∃ r : Nat, v = nV (r + 1) ∧ r < m
theorem td_win {s : Addr} {S : List Nat} {p m : Nat} (h1 : ∀ G : Hp, Ev t1 σ G (.ref s)) (h2 : ∀ G : Hp, Ev t2 σ G (nV p)) (h3 : ∀ G : Hp, Ex H G → TD a t3 σ G (DrI m)) (hS : H s = some (.lst (nL S))) (ns : s ≠ a) (hl : S.length ≤ 1000) (hm : p + m ≤ S.length) :
    TD a (tCall sp_lawWin [] E0 (tCons t1 (tCons t2 (tCons t3 tNil)))) σ H (fun v H' => ∃ r H1, r < m ∧ FrP a H H1 ∧ StrAt H1 a ∧ Ex H1 H' ∧ NewN H1 (distOf (cutN S p (r + 1))) v H') := fun Q q =>
  h1 H H (Ex.refl H) _ fun H1 e1 => h2 H1 H1 (Ex.refl _) _ fun H2 e2 => h3 H2 (e1.trans e2) _ fun u H3 f3 s3 r3 => by
    obtain ⟨r, rfl, hr⟩ := r3
    have f03 := (FrP.of (e1.trans e2)).trans f3
    exact v_lawWin (f03 _ _ ns hS) hl (by omega) H3 (Ex.refl _) _ (fun v H4 e4 r4 => q v H4 (f03.trans (FrP.of e4)) (s3.mono e4) ⟨r, H3, hr, f03, s3, e4, r4⟩) E0
theorem ev_litIx {i : Int} {v : V} (h : EvA tl σ H xs) (hz : xs.length ≤ 100000) (h2 : Ev ti σ H (.int i)) (hx : atI xs i = some v) : Ev (tOp (rIxL K) (tLst tl) ti) σ H v := fun H1 e Q q =>
  h H1 e _ fun H2 e2 => ⟨Evl.sz_of hz, fun p hp => h2 _ ((e.trans e2).trans (Ex.new hp)) _ fun H3 e3 => ⟨p, xs, i, v, rfl, rfl, Evl.sq_of (e3 _ _ upd_same), hx, q H3 ((e2.trans (Ex.new hp)).trans e3)⟩⟩
theorem ev_intB {b : Bool} (h : Ev te σ H (.bl b)) : Ev (tCB (fun xs H Q => (∃ i, xs = [V.int i] ∧ Q (V.int i) H) ∨ ∃ k, xs = [V.bl k] ∧ Q (V.int (if k then 1 else 0)) H) (tCons te tNil)) σ H (.int (if b then 1 else 0)) := fun H1 e Q q =>
  h H1 e _ fun H2 e2 => .inr ⟨b, rfl, q H2 e2⟩
end
theorem nV_sub {n m : Nat} (h : m ≤ n) : V.int ((n : Int) - (m : Int)) = nV (n - m) := congrArg V.int (by omega)
def TrueR (S : List Nat) (H : Hp) (v : V) (H' : Hp) : Prop := v = .non ∨ ∃ f : Fact, f.Ok S.length ∧ Sat S f ∧ FactO (fun b => H b ≠ none) H' v f
def sp_true : Sp := fun vs H Q _ => ∃ (a s : Addr) (S : List Nat), vs = [.ref a, .ref s] ∧ StrAt H a ∧ s ≠ a ∧ H s = some (.lst (nL S)) ∧ 1 ≤ S.length ∧ S.length ≤ 60 ∧ ∀ v H', FrP a H H' → StrAt H' a → TrueR S H v H' → Q v H'
theorem cl_true (T : Tx K mg) (c__law_draw : Cl P w K mg base 1 "_law_draw" sp_draw) (c__law_window : Cl P w K mg base 2 "_law_window" sp_lawWin) (A : At K mg "_law_true_fact" "_law_true_fact" "_law_true_fact" s__law_true_fact []) : Cl P w K mg base 3 "_law_true_fact" sp_true := by
  refine cl_of A sc__law_true_fact (fun _ _ _ _ _ _ us hl => match us, hl with | [_, _], _ => rfl) (fun vs H Q E h => ?_) (fun f cdv A outer s H vs Q E hr h => ?_)
  · obtain ⟨a, s, S, rfl, _⟩ := h
    rfl
  · obtain ⟨a, s, S, rfl, hs, ns, hS, l1, l2, q⟩ := h
    refine ⟨_, (pss_cons (ps_set (i := 2) sc__law_true_fact.nd rfl (Or.inl rfl) (pe_callB call_len_seq rfl T.b_len (by decide +kernel) (pa_cons (pv 1) pa_nil)))
      (pss_cons (ps_set (i := 3) sc__law_true_fact.nd rfl (Or.inl rfl) (pcl c__law_draw (hr.mono (by decide)) rfl (pa_cons (pv 0) (pa_cons pe_int pa_nil))))
      (pss_cons (ps_par (i := 4) (j := 5) rfl sc__law_true_fact.nd rfl rfl (by decide) rfl rfl (pa_cons (pcl c__law_draw (hr.mono (by decide)) rfl (pa_cons (pv 0) (pa_cons (pv 2) pa_nil))) (pa_cons (pcl c__law_draw (hr.mono (by decide)) rfl (pa_cons (pv 0) (pa_cons (pv 2) pa_nil))) pa_nil)) rfl)
      (pss_cons (ps_if (pt_cmpR op_eq (pv 3) pe_int (nomark _)) (pss_one (ps_ret (pe_tup (pa_cons pe_str (pa_cons (pv 4) (pa_cons (pcl c__law_window (hr.mono (by decide)) rfl (pa_cons (pv 1) (pa_cons (pv 4) (pa_cons (pe_op op_add pe_int (pcl c__law_draw (hr.mono (by decide)) rfl (pa_cons (pv 0) (pa_cons (pe_op op_sub (pv 2) (pv 4)) pa_nil)))) pa_nil)))) pa_nil)))))) pss_nil)
      (pss_cons (ps_if (pt_cmpR op_eq (pv 4) (pv 5) (nomark _)) (pss_one (ps_ret pe_non)) pss_nil)
      (pss_cons (ps_if (pt_cmpR op_eq (pv 3) pe_int (nomark _)) (pss_cons (ps_set (i := 6) sc__law_true_fact.nd rfl (Or.inl rfl) (pe_op op_add pe_int (pcl c__law_draw (hr.mono (by decide)) rfl (pa_cons (pv 0) (pa_cons (pe_op op_sub (pv 2) (pe_callB (call_max2 rfl) rfl T.b_max (by decide +kernel) (pa_cons (pv 4) (pa_cons (pv 5) pa_nil)))) pa_nil)))))
        (pss_cons (ps_if (pt_cmpR (op_eqD hr.units) (pcl c__law_window (hr.mono (by decide)) rfl (pa_cons (pv 1) (pa_cons (pv 4) (pa_cons (pv 6) pa_nil)))) (pcl c__law_window (hr.mono (by decide)) rfl (pa_cons (pv 1) (pa_cons (pv 5) (pa_cons (pv 6) pa_nil)))) (nomark _)) (pss_one (ps_ret (pe_tup (pa_cons pe_str (pa_cons (pv 4) (pa_cons (pv 5) (pa_cons (pv 6) pa_nil))))))) pss_nil)
        (pss_one (ps_ret (pe_tup (pa_cons pe_str (pa_cons (pv 4) (pa_cons (pv 5) (pa_cons pe_int pa_nil))))))))) pss_nil)
      (pss_one (ps_ret (pe_tup (pa_cons (pe_ix ix_list (pe_lst (pa_cons pe_str (pa_cons pe_str pa_nil))) (pe_callTy call_int1 rfl T.b_int (by decide +kernel) (pa_cons (pe_cmpR op_eq (pe_ix ix_list (pv 1) (pv 4) (fun _ _ => rfl)) (pe_ix ix_list (pv 1) (pv 5) (fun _ _ => rfl)) (nomark _)) pa_nil)) (fun _ _ => rfl)) (pa_cons (pv 4) (pa_cons (pv 5) pa_nil)))))))))))), ?_⟩
    refine Go.here (go_set (v := nV S.length) (Evl.ev_is (by walk_at "ev") (by simp)) ?_)
    intro H0 e0
    refine q_td (td_draw (hs.mono e0) (ev_var rfl) ev_c (by decide) (by decide)) fun v H1 f1 s1 r1 => ?_
    obtain ⟨d, rfl, hd⟩ := r1
    refine q_par2 (l := S.length) (m := S.length) s1 (fun _ => ev_var rfl) (fun _ => ev_var rfl) (fun _ => ev_var rfl) (fun _ => ev_var rfl) ⟨l1, by omega⟩ ⟨l1, by omega⟩ fun x y H2 f2 s2 hx hy => ?_
    have f02 := ((FrP.of e0).trans f1).trans f2
    have hS2 := f02 _ _ ns hS
    refine Go.here (go_when (by walk_at "ev") (fun hb => ?_) (fun hb => ?_))
    · -- a window
      intro H3 e3
      refine q_tdret (td_tup3 (a := a) (x := .str "window") (y := nV x) (fun _ => ev_c) (fun _ => ev_var rfl) (fun G eG => td_win (s := s) (S := S) (p := x) (m := S.length - x) (fun _ => ev_var rfl) (fun _ => ev_var rfl) (fun G2 e2 => td_inc (td_draw (((s2.mono e3).mono eG).mono e2) (ev_var rfl) (Evl.ev_is (ev_op (ev_var rfl) (ev_var rfl) Evl.rv_I0) (nV_sub (by omega))) (by omega) (by omega))) (eG _ _ (e3 _ _ hS2)) ns (by omega) (by omega))) fun v H4 f4 s4 r4 => ?_
      obtain ⟨p, u, G0, G1, rfl, hp, h4, eG0, g1, sg, ge, z, G2, hz, g2, sg2, ge2, d', rfl, hd', hd2⟩ := r4
      have f03 := f02.trans (FrP.of e3)
      refine q _ H4 (f03.trans f4) s4 (.inr ⟨.win x (cutN S x (z + 1)), ⟨?_, ?_⟩, ?_, p, d', rfl, h4, ge _ _ hd2, ?_⟩)
      · rw [cut_length (by omega)]; omega
      · rw [cut_length (by omega)]; omega
      · refine (sat_win ?_).mpr ?_
        · rw [cut_length (by omega)]; omega
        · rw [cut_length (by omega)]
      · intro hne
        exact fr_some ((f03.trans (FrP.of eG0)).trans g2) sg2 hne hd'
    · refine go_when (by walk_at "ev") (fun hxy => ?_) (fun hxy => ?_)
      · exact go_ret ev_c fun H3 e3 => q _ H3 (f02.trans (FrP.of e3)) (s2.mono e3) (.inl rfl)
      · have hxy : x ≠ y := fun z => by rw [z] at hxy; simp at hxy
        refine go_when (by walk_at "ev") (fun h2 => ?_) (fun h2 => ?_)
        · -- an equivalence
          intro H3 e3
          have hS3 := e3 _ _ hS2
          refine q_td (td_inc (td_draw (m := S.length - max x y) (s2.mono e3) (ev_var rfl) (Evl.ev_is (ev_op (ev_var rfl) (Evl.ev_cb (ea_cons (ev_var rfl) (ea_cons (ev_var rfl) ea_nil)) rc_max) Evl.rv_I0) (by rw [nmax]; exact nV_sub (by omega))) (by omega) (by omega))) fun v H4 f4 s4 r4 => ?_
          obtain ⟨z, rfl, hz⟩ := r4
          have hS4 := f4 _ _ ns hS3
          have f04 := (f02.trans (FrP.of e3)).trans f4
          have b1 : x + (z + 1) ≤ S.length ∧ y + (z + 1) ≤ S.length := by omega
          refine Go.here (go_when (Evl.et_test (ev_eqN (K := K) (A := distOf (cutN S x (z + 1))) (B := distOf (cutN S y (z + 1))) (tk_call (by walk_at "ev") (v_lawWin (p := x) (m := z + 1) hS4 (by omega) b1.1)) (tk_call (by walk_at "ev") (v_lawWin (p := y) (m := z + 1) hS4 (by omega) b1.2)))) (fun hw => ?_) (fun hw => ?_))
          · refine go_retP (tk_tup (vs := [.str "equivalent", nV x, nV y, nV (z + 1)]) (by walk_at "ev") (by simp)) fun v H5 e5 r5 => ?_
            obtain ⟨t, rfl, _, ht⟩ := r5
            exact q _ H5 (f04.trans (FrP.of e5)) (s4.mono e5) (.inr ⟨.eqv x y (z + 1), ⟨hx, hy, hxy, by omega, b1.1, b1.2⟩, (sat_eqv b1.1 b1.2).mpr (of_decide_eq_true hw), t, rfl, ht⟩)
          · refine go_retP (tk_tup (vs := [.str "equivalent", nV x, nV y, nV 1]) (ea_cons ev_c (ea_cons (ev_var rfl) (ea_cons (ev_var rfl) (ea_cons ev_c ea_nil)))) (by simp)) fun v H5 e5 r5 => ?_
            obtain ⟨t, rfl, _, ht⟩ := r5
            refine q _ H5 (f04.trans (FrP.of e5)) (s4.mono e5) (.inr ⟨.eqv x y 1, ⟨hx, hy, hxy, by omega, by omega, by omega⟩, fun u v hu hv => ?_, t, rfl, ht⟩)
            have : u = 0 := by omega
            have : v = 0 := by omega
            subst u
            subst v
            exact ⟨fun _ => rfl, fun _ => rfl⟩
        · -- same or different
          have ixS : ∀ {G : Hp} {i : Nat} {t : TE} {σ : L2.St}, Ex H2 G → i < S.length → σ[1]? = some (some (.ref s)) → Ev t σ G (nV i) → Ev (tOp (rIxL K) (tVar 1) t) σ G (nV (S.getD i 0)) := fun {G i t σ} g hi h0 h1 => ev_op (ev_var h0) h1 (Evl.rv_ixL (Evl.sq_of (g _ _ hS2)) (nL_atI (get_of_lt hi) rfl))
          intro H3 e3
          by_cases hsame : S[x]? = S[y]?
          · refine Go.here (go_retP (tk_tup (vs := [.str "same", nV x, nV y]) (ea_cons (ev_litIx (ea_cons ev_c (ea_cons ev_c ea_nil)) (by simp) (ev_intB (b := true) (Evl.ev_is (ev_op (ixS e3 hx rfl (ev_var rfl)) (ixS e3 hy rfl (ev_var rfl)) (Evl.rv_eq rfl)) ?_)) rfl) (ea_cons (ev_var rfl) (ea_cons (ev_var rfl) ea_nil))) (by simp)) fun v H5 e5 r5 => ?_)
            · rw [nV_eq, decide_eq_true]
              rw [get_of_lt hx, get_of_lt hy] at hsame
              exact Option.some.inj hsame
            · obtain ⟨t, rfl, _, ht⟩ := r5
              exact q _ H5 ((f02.trans (FrP.of e3)).trans (FrP.of e5)) ((s2.mono e3).mono e5) (.inr ⟨.same x y, ⟨hx, hy, hxy⟩, hsame, t, rfl, ht⟩)
          · refine Go.here (go_retP (tk_tup (vs := [.str "different", nV x, nV y]) (ea_cons (ev_litIx (ea_cons ev_c (ea_cons ev_c ea_nil)) (by simp) (ev_intB (b := false) (Evl.ev_is (ev_op (ixS e3 hx rfl (ev_var rfl)) (ixS e3 hy rfl (ev_var rfl)) (Evl.rv_eq rfl)) ?_)) rfl) (ea_cons (ev_var rfl) (ea_cons (ev_var rfl) ea_nil))) (by simp)) fun v H5 e5 r5 => ?_)
            · rw [nV_eq, decide_eq_false]
              rw [get_of_lt hx, get_of_lt hy] at hsame
              exact fun z => hsame (by rw [z])
            · obtain ⟨t, rfl, _, ht⟩ := r5
              exact q _ H5 ((f02.trans (FrP.of e3)).trans (FrP.of e5)) ((s2.mono e3).mono e5) (.inr ⟨.diff x y, ⟨hx, hy, hxy⟩, hsame, t, rfl, ht⟩)
end
end Hfb
namespace Hfb
open PySem PySem.Spec PyProof.Rows L2
open Evl (Ex Ev EvT EvA EvL EvU ev_op ev_var ev_c ev_call ea_cons ea_nil)
section
variable {P : Program} {w : World} {K : PySem.W.Frag} {mg : Str → Option Value} {base : Heap} {H : Hp}
local macro_rules | `(tactic| walk_at "spv") => `(tactic| first | exact v_isInt | exact v_isIntD | exact v_twoPos | exact v_isSeq (.t (by assumption)) | exact v_isSeq (.l (by assumption)) | exact v_isDist (by assumption) (by omega))
local macro_rules | `(tactic| walk_at "rv") => `(tactic| first
  | with_reducible exact Evl.rv_I0
  | ((with_reducible refine Evl.rv_eq ?_); rfl)
  | ((with_reducible refine Evl.rv_ne ?_); rfl)
  | ((with_reducible apply Evl.rv_ixT); (first | assumption | exact Evl.st_of (by assumption)); (first | rfl | assumption))
  | ((with_reducible apply Evl.rv_ixL); (first | assumption | exact Evl.sq_of (by assumption)); (first | rfl | assumption))
  | exact isi_int
  | exact isi_bool
  | exact isi_str
  | exact rc_max
  | exact rc_min
  | (apply rc_lenL; first | assumption | exact Evl.sq_of (by assumption))
  | (apply rc_lenT; first | assumption | exact Evl.st_of (by assumption))
  | walk_at "fld"
  | walk_at "spv")
local macro_rules | `(tactic| walk_at "ev") => `(tactic| first
  | ((with_reducible apply Evl.ev_var); rfl)
  | with_reducible exact Evl.ev_c
  | with_reducible exact Evl.ea_nil
  | ((with_reducible apply Evl.ea_cons) <;> walk_at "ev")
  | ((with_reducible apply Evl.ev_op) <;> walk_at "ev")
  | ((with_reducible apply ev_chain) <;> walk_at "ev")
  | ((with_reducible apply Evl.ev_cb) <;> walk_at "ev")
  | ((with_reducible apply Evl.ev_call) <;> walk_at "ev")
  | ((with_reducible apply Evl.ev_notV) <;> walk_at "ev")
  | ((with_reducible apply ev_andU) <;> walk_at "ev")
  | ((with_reducible apply ev_orU) <;> walk_at "ev")
  | ((with_reducible apply Evl.et_B) <;> walk_at "ev")
  | ((with_reducible apply Evl.et_test) <;> walk_at "ev")
  | ((with_reducible apply Evl.et_not) <;> walk_at "ev")
  | ((with_reducible apply et_andU) <;> walk_at "ev")
  | ((with_reducible apply et_orU) <;> walk_at "ev")
  | walk_at "rv")
theorem td_call1 {a : Addr} {σ : L2.St} {te : TE} {sp : Sp} {E : XK} {R1 : V → Hp → Prop} {R2 : Hp → V → Hp → Prop} (h : TD a te σ H R1) (hs : ∀ v H1, FrP a H H1 → R1 v H1 → SpK sp [v] H1 (R2 H1)) : TD a (tCall sp [] E (tCons te tNil)) σ H (fun v H' => ∃ u H1, FrP a H H1 ∧ StrAt H1 a ∧ Ex H1 H' ∧ R1 u H1 ∧ R2 H1 v H') := fun Q q =>
  h _ fun u H1 f1 s1 r1 => hs u H1 f1 r1 H1 (Ex.refl _) Q (fun v H2 e2 r2 => q v H2 (f1.trans (FrP.of e2)) (s1.mono e2) ⟨u, H1, f1, s1, e2, r1, r2⟩) E
def sp_any : Sp := fun vs H Q _ => ∃ (a : Addr) (n : Nat), vs = [.ref a, nV n] ∧ StrAt H a ∧ 1 ≤ n ∧ n ≤ 60 ∧ ∀ v H' f, FrP a H H' → StrAt H' a → f.Ok n → FactO (fun b => H b ≠ none) H' v f → Q v H'
theorem cl_any (T : Tx K mg) (c__law_draw : Cl P w K mg base 1 "_law_draw" sp_draw) (c__law_distances : Cl P w K mg base 1 "_law_distances" sp_lawDist) (A : At K mg "_law_any_fact" "_law_any_fact" "_law_any_fact" s__law_any_fact []) : Cl P w K mg base 2 "_law_any_fact" sp_any := by
  refine cl_of A sc__law_any_fact (fun _ _ _ _ _ _ us hl => match us, hl with | [_, _], _ => rfl) (fun vs H Q E h => ?_) (fun f cdv A outer s H vs Q E hr h => ?_)
  · obtain ⟨a, n, rfl, _⟩ := h
    rfl
  · obtain ⟨a, n, rfl, hs, l1, l2, q⟩ := h
    refine ⟨_, (pss_cons (ps_par (i := 2) (j := 3) rfl sc__law_any_fact.nd rfl rfl (by decide) rfl rfl (pa_cons (pcl c__law_draw (hr.mono (by decide)) rfl (pa_cons (pv 0) (pa_cons (pv 1) pa_nil))) (pa_cons (pcl c__law_draw (hr.mono (by decide)) rfl (pa_cons (pv 0) (pa_cons (pv 1) pa_nil))) pa_nil)) rfl)
      (pss_cons (ps_set (i := 4) sc__law_any_fact.nd rfl (Or.inl rfl) (pcl c__law_draw (hr.mono (by decide)) rfl (pa_cons (pv 0) (pa_cons pe_int pa_nil))))
      (pss_cons (ps_if (PW.pt (pw_or (pt_cmpR op_eq (pv 4) pe_int (nomark _)) (pw_or1 (pt_cmpR op_eq (pv 2) (pv 3) (nomark _))))) (pss_cons (ps_set (i := 5) sc__law_any_fact.nd rfl (Or.inl rfl) (pe_op op_add pe_int (pcl c__law_draw (hr.mono (by decide)) rfl (pa_cons (pv 0) (pa_cons (pe_op op_sub (pv 1) (pv 2)) pa_nil)))))
        (pss_one (ps_ret (pe_tup (pa_cons pe_str (pa_cons (pv 2) (pa_cons (pcl c__law_distances (hr.mono (by decide)) rfl (pa_cons (pe_lc (own := [("_law_k", 6)]) (g := gName 6) (by rfl) sc__law_any_fact.nd (pi_range1 rfl T.b_range (pa_cons (pv 5) pa_nil)) (blkOk_by (own := [("_law_k", 6)]) (N := N__law_any_fact) (sc := defScope s__law_any_fact) (by decide +kernel)) (fun _ _ _ _ _ => (pg_name (i := 6) sc__law_any_fact.nd rfl (Or.inl rfl))) (fun _ _ _ _ _ => pts_nil) (fun _ _ _ _ _ => (pcl c__law_draw (hr.mono (by decide)) rfl (pa_cons (pv 0) (pa_cons pe_int pa_nil))))) pa_nil)) pa_nil))))))) pss_nil)
      (pss_cons (ps_if (pt_cmpR op_eq (pv 4) pe_int (nomark _)) (pss_one (ps_ret (pe_tup (pa_cons pe_str (pa_cons (pv 2) (pa_cons (pv 3) (pa_cons (pe_op op_add pe_int (pcl c__law_draw (hr.mono (by decide)) rfl (pa_cons (pv 0) (pa_cons (pe_op op_sub (pv 1) (pe_callB (call_max2 rfl) rfl T.b_max (by decide +kernel) (pa_cons (pv 2) (pa_cons (pv 3) pa_nil)))) pa_nil)))) pa_nil))))))) pss_nil)
      (pss_one (ps_ret (pe_tup (pa_cons (pe_ix ix_list (pe_lst (pa_cons pe_str (pa_cons pe_str pa_nil))) (pv 4) (fun _ _ => rfl)) (pa_cons (pv 2) (pa_cons (pv 3) pa_nil)))))))))), ?_⟩
    refine q_par2 (l := n) (m := n) hs (fun _ => ev_var rfl) (fun _ => ev_var rfl) (fun _ => ev_var rfl) (fun _ => ev_var rfl) ⟨l1, by omega⟩ ⟨l1, by omega⟩ fun x y H1 f1 s1 hx hy => ?_
    refine q_td (td_draw (m := 4) s1 (ev_var rfl) ev_c (by decide) (by decide)) fun v H2 f2 s2 r2 => ?_
    obtain ⟨d, rfl, hd⟩ := r2
    have f02 := f1.trans f2
    refine Go.here (go_when (b := decide (d = 3) || decide (x = y)) (Evl.et_is (et_orU (by walk_at "ev") (by walk_at "ev")) ?_) (fun hb => ?_) (fun hb => ?_))
    · rw [nV_eq]
      congr 1
      exact decide_eq_decide.mpr ⟨fun h => by have := V.int.inj h; omega, fun h => by rw [h]; rfl⟩
    · intro H3 e3
      refine q_td (td_inc (td_draw (m := n - x) (s2.mono e3) (ev_var rfl) (Evl.ev_is (ev_op (ev_var rfl) (ev_var rfl) Evl.rv_I0) (nV_sub (by omega))) (by omega) (by omega))) fun v H4 f4 s4 r4 => ?_
      obtain ⟨z, rfl, hz⟩ := r4
      have f04 := (f02.trans (FrP.of e3)).trans f4
      refine q_tdret (td_tup3 (a := a) (x := .str "window") (y := nV x) (R := fun G v H' => ∃ u H1, FrP a G H1 ∧ StrAt H1 a ∧ Ex H1 H' ∧ SymN (z + 1) G u H1 ∧ ∃ S : List Nat, S.length = z + 1 ∧ NewN H1 (distOf S) v H') (fun _ => ev_c) (fun _ => ev_var rfl) (fun G eG => td_call1 (R2 := fun H1 v H' => ∃ S : List Nat, S.length = z + 1 ∧ NewN H1 (distOf S) v H') (td_draws (m := 3) (s4.mono eG) (ev_var rfl) (by omega) (fun _ => rfl) (by decide) (by decide) (fun _ _ => ev_var rfl) (fun _ _ => ev_c)) fun v H5 f5 r5 => ?_)) fun v H6 f6 s6 r6 => ?_
      · obtain ⟨c, S, rfl, _, hc, hS⟩ := r5
        exact (v_lawDist hc (by omega)).imp fun u H6 e6 r6 => ⟨S, hS, r6⟩
      · obtain ⟨p, u, G0, G1, rfl, hp, h6, eG0, g1, sg, ge, w, G2, g2, sg2, ge2, _, S, hS, d', rfl, hd', hd2⟩ := r6
        refine q _ H6 (.win x S) (f04.trans f6) s6 ⟨by omega, by omega⟩ ⟨p, d', rfl, h6, ge _ _ hd2, fun hne => ?_⟩
        exact fr_some ((f04.trans (FrP.of eG0)).trans g2) sg2 hne hd'
    · rw [Bool.or_eq_false_iff] at hb
      have hd3 : d ≠ 3 := of_decide_eq_false hb.1
      have hxy : x ≠ y := of_decide_eq_false hb.2
      refine go_when (b := decide (d = 2)) (Evl.et_is (by walk_at "ev") (decide_eq_decide.mpr ⟨fun h => by have := V.int.inj h; omega, fun h => by rw [h]; rfl⟩)) (fun h2 => ?_) (fun h2 => ?_)
      · intro H3 e3
        refine q_tdret (td_tup4 (a := a) (x := .str "equivalent") (y := nV x) (z := nV y) (w4 := V.non) (fun _ => ev_c) (fun _ => ev_var rfl) (fun _ => ev_var rfl) (fun G eG => td_inc (td_draw (m := n - max x y) ((s2.mono e3).mono eG) (ev_var rfl) (Evl.ev_is (ev_op (ev_var rfl) (Evl.ev_cb (ea_cons (ev_var rfl) (ea_cons (ev_var rfl) ea_nil)) rc_max) Evl.rv_I0) (by rw [nmax]; exact nV_sub (by omega))) (by omega) (by omega)))) fun v H4 f4 s4 r4 => ?_
        obtain ⟨p, u, G1, rfl, h4, z, rfl, hz⟩ := r4
        exact q _ H4 (.eqv x y (z + 1)) ((f02.trans (FrP.of e3)).trans f4) s4 ⟨hx, hy, hxy, by omega, by omega, by omega⟩ ⟨p, rfl, h4⟩
      · have h2 : d ≠ 2 := of_decide_eq_false h2
        have : d = 0 ∨ d = 1 := by omega
        rcases this with rfl | rfl
        · refine go_retP (tk_tup (vs := [.str "same", nV x, nV y]) (ea_cons (ev_litIx (xs := [.str "same", .str "different"]) (ea_cons ev_c (ea_cons ev_c ea_nil)) (by simp) (ev_var rfl) rfl) (ea_cons (ev_var rfl) (ea_cons (ev_var rfl) ea_nil))) (by simp)) fun v H5 e5 r5 => ?_
          obtain ⟨t, rfl, _, ht⟩ := r5
          exact q _ H5 (.same x y) (f02.trans (FrP.of e5)) (s2.mono e5) ⟨hx, hy, hxy⟩ ⟨t, rfl, ht⟩
        · refine go_retP (tk_tup (vs := [.str "different", nV x, nV y]) (ea_cons (ev_litIx (xs := [.str "same", .str "different"]) (ea_cons ev_c (ea_cons ev_c ea_nil)) (by simp) (ev_var rfl) rfl) (ea_cons (ev_var rfl) (ea_cons (ev_var rfl) ea_nil))) (by simp)) fun v H5 e5 r5 => ?_
          obtain ⟨t, rfl, _, ht⟩ := r5
          exact q _ H5 (.diff x y) (f02.trans (FrP.of e5)) (s2.mono e5) ⟨hx, hy, hxy⟩ ⟨t, rfl, ht⟩
end
end Hfb
namespace Hfb
open PySem PySem.Spec PyProof.Rows L2
open Evl (Ex Ev EvT EvA EvL EvU ev_op ev_var ev_c ev_call ea_cons ea_nil)
section
variable {P : Program} {w : World} {K : PySem.W.Frag} {mg : Str → Option Value} {base : Heap} {H : Hp}
local macro_rules | `(tactic| walk_at "spv") => `(tactic| first | exact v_isInt | exact v_isIntD | exact v_twoPos | exact v_isSeq (.t (by assumption)) | exact v_isSeq (.l (by assumption)) | exact v_isDist (by assumption) (by omega))
local macro_rules | `(tactic| walk_at "rv") => `(tactic| first
  | with_reducible exact Evl.rv_I0
  | ((with_reducible refine Evl.rv_eq ?_); rfl)
  | ((with_reducible refine Evl.rv_ne ?_); rfl)
  | ((with_reducible apply Evl.rv_ixT); (first | assumption | exact Evl.st_of (by assumption)); (first | rfl | assumption))
  | ((with_reducible apply Evl.rv_ixL); (first | assumption | exact Evl.sq_of (by assumption)); (first | rfl | assumption))
  | exact isi_int
  | exact isi_bool
  | exact isi_str
  | exact rc_max
  | exact rc_min
  | (apply rc_lenL; first | assumption | exact Evl.sq_of (by assumption))
  | (apply rc_lenT; first | assumption | exact Evl.st_of (by assumption))
  | walk_at "fld"
  | walk_at "spv")
local macro_rules | `(tactic| walk_at "ev") => `(tactic| first
  | ((with_reducible apply Evl.ev_var); rfl)
  | with_reducible exact Evl.ev_c
  | with_reducible exact Evl.ea_nil
  | ((with_reducible apply Evl.ea_cons) <;> walk_at "ev")
  | ((with_reducible apply Evl.ev_op) <;> walk_at "ev")
  | ((with_reducible apply ev_chain) <;> walk_at "ev")
  | ((with_reducible apply Evl.ev_cb) <;> walk_at "ev")
  | ((with_reducible apply Evl.ev_call) <;> walk_at "ev")
  | ((with_reducible apply Evl.ev_notV) <;> walk_at "ev")
  | ((with_reducible apply ev_andU) <;> walk_at "ev")
  | ((with_reducible apply ev_orU) <;> walk_at "ev")
  | ((with_reducible apply Evl.et_B) <;> walk_at "ev")
  | ((with_reducible apply Evl.et_test) <;> walk_at "ev")
  | ((with_reducible apply Evl.et_not) <;> walk_at "ev")
  | ((with_reducible apply et_andU) <;> walk_at "ev")
  | ((with_reducible apply et_orU) <;> walk_at "ev")
  | walk_at "rv")
/-! ### a pair -/
theorem rv_isB {x y : Bool} : Evl.RV (fun x y H Q => ∃ a b, x = V.bl a ∧ y = V.bl b ∧ Q (V.bl (decide (a = b))) H) (.bl x) (.bl y) H (.bl (decide (x = y))) := fun H1 e Q q => ⟨x, y, rfl, rfl, q H1 (Ex.refl H1)⟩
theorem rv_isnotB {x y : Bool} : Evl.RV (fun x y H Q => ∃ a b, x = V.bl a ∧ y = V.bl b ∧ Q (V.bl (!decide (a = b))) H) (.bl x) (.bl y) H (.bl (!decide (x = y))) := fun H1 e Q q => ⟨x, y, rfl, rfl, q H1 (Ex.refl H1)⟩
theorem bl_eq {x y : Bool} : decide (V.bl x = V.bl y) = decide (x = y) := decide_eq_decide.mpr ⟨fun h => V.bl.inj h, fun h => by rw [h]⟩
theorem tk_isB {σ : L2.St} {te : TE} {z : Bool} {b : Bool} (h : Ev te σ H (.bl z)) : Ev (tOp (fun x y H Q => ∃ a b, x = V.bl a ∧ y = V.bl b ∧ Q (V.bl (decide (a = b))) H) te (tC (.bl b))) σ H (.bl (decide (z = b))) := ev_op h ev_c rv_isB
theorem relV_same {fs : List Fact} {a b : Nat} : decide (relV fs a b = V.str "same") = bP (Der fs a b) := by
  unfold relV
  by_cases d : Der fs a b
  · rw [if_pos (bP_true d), bP_true d]
    decide +kernel
  · rw [if_neg (fun z => d (bP_iff.mp z)), bP_false d]
    split <;> decide +kernel
theorem relV_unk {fs : List Fact} {a b : Nat} (d : ¬ Der fs a b) : decide (relV fs a b = V.str "unknown") = bP (Cons (fs ++ [.same a b])) := by
  unfold relV
  rw [if_neg (fun z => d (bP_iff.mp z))]
  by_cases c : Cons (fs ++ [.same a b])
  · rw [if_pos (bP_true c), bP_true c]
    decide +kernel
  · rw [if_neg (fun z => c (bP_iff.mp z)), bP_false c]
    decide +kernel
theorem relV_scal (fs : List Fact) (a b : Nat) (x : Str) : scal (relV fs a b) (.str x) = true := by
  unfold relV
  split
  · rfl
  · split <;> rfl
def sp_lawPair : Sp := fun vs H Q _ => ∃ (n : Nat) (l d : Addr) (a b : Nat) (fs : List Fact) (L : List Nat), vs = [nV n, .ref l, nV a, nV b, .ref d] ∧ 1 ≤ n ∧ n ≤ 60 ∧ FactsAt H l fs ∧ fs.length ≤ 38 ∧ (∀ f ∈ fs, f.Ok n) ∧ a < n ∧ b < n ∧ Cons fs ∧ Part fs n L ∧ H d = some (.lst (nL (distOf L))) ∧ ∀ H', Ex H H' → Q (.bl true) H'
theorem v_lawPair {n a b : Nat} {l d : Addr} {fs : List Fact} {L : List Nat} (h1 : 1 ≤ n) (hn : n ≤ 60) (hF : FactsAt H l fs) (hfl : fs.length ≤ 38) (ok : ∀ f ∈ fs, f.Ok n) (ha : a < n) (hb : b < n) (c : Cons fs) (p : Part fs n L) (hd : H d = some (.lst (nL (distOf L)))) :
    Evl.SpV sp_lawPair [nV n, .ref l, nV a, nV b, .ref d] H (.bl true) := fun H1 e Q q E => ⟨n, l, d, a, b, fs, L, rfl, h1, hn, hF.mono e, hfl, ok, ha, hb, c, p, e _ _ hd, q⟩
theorem cl_lawPair (T : Tx K mg) (c_relation : Cl P w K mg base 7 "relation" sp_relation) (c__law_ids : Cl P w K mg base 1 "_law_ids" sp_lawIds) (c_find_derivation : Cl P w K mg base 6 "find_derivation" sp_findDer) (c_is_derivation : Cl P w K mg base 6 "is_derivation" (sp_isDer K))
    (c_is_consistent : Cl P w K mg base 7 "is_consistent" sp_isCons) (A : At K mg "_law_pair_holds" "_law_pair_holds" "_law_pair_holds" s__law_pair_holds []) : Cl P w K mg base 8 "_law_pair_holds" sp_lawPair := by
  refine cl_of A sc__law_pair_holds (fun _ _ _ _ _ _ us hl => match us, hl with | [_, _, _, _, _], _ => rfl) (fun vs H Q E h => ?_) (fun f cdv A outer s H vs Q E hr h => ?_)
  · obtain ⟨n, l, d, a, b, fs, L, rfl, _⟩ := h
    rfl
  · obtain ⟨n, l, d, a, b, fs, L, rfl, h1, hn, hF, hfl, ok, ha, hb, c, p, hd, q⟩ := h
    refine ⟨_, (pss_cons (ps_set (i := 5) sc__law_pair_holds.nd rfl (Or.inl rfl) (pcl c_relation (hr.mono (by decide)) rfl (pa_cons (pv 0) (pa_cons (pv 1) (pa_cons (pv 2) (pa_cons (pv 3) pa_nil))))))
      (pss_cons (ps_set (i := 6) sc__law_pair_holds.nd rfl (Or.inl rfl) (pcl c__law_ids (hr.mono (by decide)) rfl (pa_cons (pv 4) pa_nil)))
      (pss_cons (ps_set (i := 7) sc__law_pair_holds.nd rfl (Or.inl rfl) (pcl c_find_derivation (hr.mono (by decide)) rfl (pa_cons (pv 0) (pa_cons (pv 1) (pa_cons (pv 2) (pa_cons (pv 3) pa_nil))))))
      (pss_cons (ps_if (pt_cmpR op_eq (pv 2) (pv 3) (nomark _)) (pss_one (ps_ret (pe_cmpR op_eq (pv 5) pe_str (nomark _)))) pss_nil)
      (pss_cons (ps_if (pt_cmpR op_ne (pe_cmpR op_eq (pv 5) pe_str (nomark _)) (pe_cmpR op_eq (pe_ix ix_list (pv 6) (pv 2) (fun _ _ => rfl)) (pe_ix ix_list (pv 6) (pv 3) (fun _ _ => rfl)) (nomark _)) (nomark _)) (pss_one (ps_ret pe_bl)) pss_nil)
      (pss_cons (ps_if (pt_cmpR op_ne (pe_cmpR op_notN (pv 7) pe_non (nomark _)) (pe_cmpR op_eq (pv 5) pe_str (nomark _)) (nomark _)) (pss_one (ps_ret pe_bl)) pss_nil)
      (pss_cons (ps_if (pt_cmpR op_notN (pv 7) pe_non (nomark _)) (pss_cons (ps_if (pt_cmpR op_isnot_bl (pcl c_is_derivation (hr.mono (by decide)) rfl (pa_cons (pv 0) (pa_cons (pv 1) (pa_cons (pv 2) (pa_cons (pv 3) (pa_cons (pv 7) pa_nil)))))) pe_bl (nomark _)) (pss_one (ps_ret pe_bl)) pss_nil)
        (pss_one (ps_ret (pe_cmpR op_is_bl (pcl c_is_derivation (hr.mono (by decide)) rfl (pa_cons (pv 0) (pa_cons (pv 1) (pa_cons (pv 2) (pa_cons (pv 3) (pa_cons (pe_lst pa_nil) pa_nil)))))) pe_bl (nomark _))))) pss_nil)
      (pss_cons (ps_set (i := 8) sc__law_pair_holds.nd rfl (Or.inl rfl) (pe_op op_cat (pv 1) (pe_lst (pa_cons (pe_tup (pa_cons pe_str (pa_cons (pv 2) (pa_cons (pv 3) pa_nil)))) pa_nil))))
      (pss_one (ps_ret (pe_cmpR op_eq (pe_cmpR op_eq (pv 5) pe_str (nomark _)) (pcl c_is_consistent (hr.mono (by decide)) rfl (pa_cons (pv 0) (pa_cons (pv 8) pa_nil))) (nomark _)))))))))))), ?_⟩
    refine Go.here (go_set (ev_call (by walk_at "ev") (v_relation h1 hn hF (by omega) ok ha hb c)) ?_)
    refine go_setP (tk_call (by walk_at "ev") (v_lawIds hd (by rw [p.1]; omega))) fun v1 H1 e1 r1 => ?_
    obtain ⟨i, rfl, hi, hi1⟩ := r1
    refine go_setP (tk_call (by walk_at "ev") (v_findDer h1 hn (hF.mono e1) (by omega) ok ha hb)) fun v2 H2 e2 r2 => ?_
    have hi2 := e2 _ _ hi1
    have hF2 := (hF.mono e1).mono e2
    have e02 := e1.trans e2
    refine go_when (b := decide (a = b)) (Evl.et_is (by walk_at "ev") nV_eq) (fun hab => ?_) (fun hab => ?_)
    · have hab : a = b := of_decide_eq_true hab
      refine go_ret (Evl.ev_is (ev_op (ev_var rfl) ev_c (Evl.rv_eq (relV_scal _ _ _ _))) ?_) fun H3 e3 => q H3 (e02.trans e3)
      rw [relV_same, bP_true (by rw [hab]; exact .refl b)]
    · have hab : a ≠ b := of_decide_eq_false hab
      have kr := (ids_follows L).ker
      have li := idsOf_len L
      have pl := p.1
      have idd : decide ((idsOf L).getD a 0 = (idsOf L).getD b 0) = bP (Der fs a b) := by
        refine bP_of ?_
        rw [decide_eq_true_iff, ← p.2 a b ha hb, kr.2 a b (by omega) (by omega), get_of_lt (M := idsOf L) (p := a) (by rw [li]; omega), get_of_lt (M := idsOf L) (p := b) (by rw [li]; omega)]
        exact ⟨fun h => by rw [h], fun h => Option.some.inj h⟩
      have ixI : ∀ {k : Nat} {t : TE} {σ : L2.St}, k < n → σ[6]? = some (some (.ref i)) → Ev t σ H2 (nV k) → Ev (tOp (rIxL K) (tVar 6) t) σ H2 (nV ((idsOf L).getD k 0)) := fun {k t σ} hk h0 h1 => ev_op (ev_var h0) h1 (Evl.rv_ixL (Evl.sq_of hi2) (nL_atI (get_of_lt (by rw [li]; omega)) rfl))
      have same : ∀ {σ : L2.St}, σ[5]? = some (some (relV fs a b)) → Ev (tOp rEq (tVar 5) (tC (.str "same"))) σ H2 (.bl (bP (Der fs a b))) := fun {σ} h0 => Evl.ev_is (ev_op (ev_var h0) ev_c (Evl.rv_eq (relV_scal _ _ _ _))) (by rw [relV_same])
      refine go_skip (b := false) (Evl.et_is (Evl.et_test (ev_op (same rfl) (Evl.ev_is (ev_op (ixI ha rfl (ev_var rfl)) (ixI hb rfl (ev_var rfl)) (Evl.rv_eq rfl)) (by rw [nV_eq, idd])) (Evl.rv_ne rfl))) (by simp)) rfl ?_
      rcases r2 with ⟨_, der, l2, rfl, us, ss, _, hl2, hss, va, lk, lz⟩ | ⟨nd, rfl⟩
      · refine go_skip (b := false) (Evl.et_is (Evl.et_test (ev_op (Evl.ev_is (ev_op (ev_var rfl) ev_c rv_notN) (by rfl) : Ev _ _ H2 (.bl true)) (same rfl) (Evl.rv_ne rfl))) (by rw [bP_true der]; rfl)) rfl ?_
        refine go_take (b := true) (Evl.et_is (Evl.et_test (ev_op (ev_var rfl) ev_c rv_notN)) rfl) rfl ?_
        refine go_skip (b := false) (Evl.et_is (Evl.et_test (ev_op (ev_call (by walk_at "ev") (v_isDer (K := K) h1 hn hF2 (by omega) ok ha hb hl2 hss lz)) ev_c rv_isnotB)) (by rw [bP_true ⟨hab, va, lk⟩]; rfl)) rfl ?_
        -- no steps at all
        have hno : Tk (tCall (sp_isDer K) [] E0 (tCons (tVar 0) (tCons (tVar 1) (tCons (tVar 2) (tCons (tVar 3) (tCons (tLst tNil) tNil)))))) [some (nV n), some (.ref l), some (nV a), some (nV b), some (.ref d), some (relV fs a b), some (.ref i), some (.ref l2), none] H2 (fun v _ => v = .bl false) := by
          refine tk_callR (R := fun vs H' => ∃ c, vs = [nV n, .ref l, nV a, nV b, .ref c] ∧ H' c = some (.lst [])) (fun H3 e3 Q' q' => ?_) fun vs H3 e3 r3 => ?_
          · refine ev_var (i := 0) rfl H3 (Ex.refl _) _ fun H4 e4 => ev_var (i := 1) rfl H4 (Ex.refl _) _ fun H5 e5 => ev_var (i := 2) rfl H5 (Ex.refl _) _ fun H6 e6 => ev_var (i := 3) rfl H6 (Ex.refl _) _ fun H7 e7 => (tk_lst ea_nil (by simp)) H7 (Ex.refl _) _ fun v H8 e8 r8 => ?_
            obtain ⟨c, rfl, _, hc⟩ := r8
            exact q' _ H8 ((((e4.trans e5).trans e6).trans e7).trans e8) ⟨c, rfl, hc⟩
          · obtain ⟨c, rfl, hc⟩ := r3
            intro H4 e4 Q' q' E'
            refine v_isDer (K := K) (ss := []) h1 hn (hF2.mono e3) (by omega) ok ha hb hc StepsAt.nil (by simp) H4 e4 Q' (fun H5 e5 => ?_) E'
            refine q' _ H5 e5 ?_
            rw [bP_false (fun z => by cases z.2.2)]
        refine go_ret (Evl.ev_is (ev_op (Tk.ev hno) ev_c rv_isB) rfl) fun H3 e3 => q H3 (e02.trans e3)
      · have nd : ¬ Der fs a b := fun z => nd ⟨hab, z⟩
        refine go_skip (b := false) (Evl.et_is (Evl.et_test (ev_op (Evl.ev_is (ev_op (ev_var rfl) ev_c rv_notN) (by rfl) : Ev _ _ H2 (.bl false)) (same rfl) (Evl.rv_ne rfl))) (by rw [bP_false nd]; rfl)) rfl ?_
        refine go_skip (b := false) (Evl.et_is (Evl.et_test (ev_op (ev_var rfl) ev_c rv_notN)) rfl) rfl ?_
        refine go_setP (tk_catF (a := a) (b := b) hF2 (by omega) (ev_var rfl) ev_c (ev_var rfl) (ev_var rfl)) fun v3 H3 e3 r3 => ?_
        obtain ⟨m, rfl, hm, hF3⟩ := r3
        have okm : ∀ f ∈ fs ++ [Fact.same a b], f.Ok n := fun f hf => by
          rcases List.mem_append.mp hf with h | h
          · exact ok f h
          · rw [List.mem_singleton.mp h]
            exact ⟨ha, hb, hab⟩
        refine go_ret (Evl.ev_is (ev_op (Evl.ev_is (ev_op (ev_var rfl) ev_c (Evl.rv_eq (relV_scal _ _ _ _))) (by rw [relV_unk nd])) (ev_call (by walk_at "ev") (v_isCons h1 hn hF3 (by rw [List.length_append, List.length_singleton]; omega) okm)) (Evl.rv_eq rfl)) (by simp)) fun H4 e4 => q H4 ((e02.trans e3).trans e4)
end
end Hfb
namespace Hfb
open PySem PySem.Spec PyProof.Rows L2
open Evl (Ex Ev EvT EvA EvL EvU ev_op ev_var ev_c ev_call ea_cons ea_nil)
section
variable {P : Program} {w : World} {K : PySem.W.Frag} {mg : Str → Option Value} {base : Heap} {H : Hp}
local macro_rules | `(tactic| walk_at "spv") => `(tactic| first | exact v_isInt | exact v_isIntD | exact v_twoPos | exact v_isSeq (.t (by assumption)) | exact v_isSeq (.l (by assumption)) | exact v_isDist (by assumption) (by omega))
local macro_rules | `(tactic| walk_at "rv") => `(tactic| first
  | with_reducible exact Evl.rv_I0
  | ((with_reducible refine Evl.rv_eq ?_); rfl)
  | ((with_reducible refine Evl.rv_ne ?_); rfl)
  | ((with_reducible apply Evl.rv_ixT); (first | assumption | exact Evl.st_of (by assumption)); (first | rfl | assumption))
  | ((with_reducible apply Evl.rv_ixL); (first | assumption | exact Evl.sq_of (by assumption)); (first | rfl | assumption))
  | exact isi_int
  | exact isi_bool
  | exact isi_str
  | exact rc_max
  | exact rc_min
  | (apply rc_lenL; first | assumption | exact Evl.sq_of (by assumption))
  | (apply rc_lenT; first | assumption | exact Evl.st_of (by assumption))
  | walk_at "fld"
  | walk_at "spv")
local macro_rules | `(tactic| walk_at "ev") => `(tactic| first
  | ((with_reducible apply Evl.ev_var); rfl)
  | with_reducible exact Evl.ev_c
  | with_reducible exact Evl.ea_nil
  | ((with_reducible apply Evl.ea_cons) <;> walk_at "ev")
  | ((with_reducible apply Evl.ev_op) <;> walk_at "ev")
  | ((with_reducible apply ev_chain) <;> walk_at "ev")
  | ((with_reducible apply Evl.ev_cb) <;> walk_at "ev")
  | ((with_reducible apply Evl.ev_call) <;> walk_at "ev")
  | ((with_reducible apply Evl.ev_notV) <;> walk_at "ev")
  | ((with_reducible apply ev_andU) <;> walk_at "ev")
  | ((with_reducible apply ev_orU) <;> walk_at "ev")
  | ((with_reducible apply Evl.et_B) <;> walk_at "ev")
  | ((with_reducible apply Evl.et_test) <;> walk_at "ev")
  | ((with_reducible apply Evl.et_not) <;> walk_at "ev")
  | ((with_reducible apply et_andU) <;> walk_at "ev")
  | ((with_reducible apply et_orU) <;> walk_at "ev")
  | walk_at "rv")
/-! ### facts that keep -/
def SymO (a : Addr) (n : Nat) (fs : List Fact) (H : Hp) (sv : V) : Prop := sv = .non ∨ ∃ s S, sv = .ref s ∧ s ≠ a ∧ H s = some (.lst (nL S)) ∧ S.length = n ∧ ∀ f ∈ fs, Sat S f
theorem SymO.fr {a : Addr} {n : Nat} {fs : List Fact} {H H' : Hp} {sv : V} (f : FrP a H H') (h : SymO a n fs H sv) : SymO a n fs H' sv := by
  rcases h with h | ⟨s, S, h1, h2, h3, h4⟩
  · exact .inl h
  · exact .inr ⟨s, S, h1, h2, f _ _ h2 h3, h4⟩
def sp_lawCons : Sp := fun vs H Q _ => ∃ (a l : Addr) (n : Nat) (sv : V) (fs : List Fact), vs = [.ref a, nV n, .ref l, sv] ∧ 1 ≤ n ∧ n ≤ 60 ∧ StrAt H a ∧ FactsO a H l fs ∧ fs.length ≤ 38 ∧ (∀ f ∈ fs, f.Ok n) ∧ Cons fs ∧ SymO a n fs H sv ∧ ∀ H', FrP a H H' → StrAt H' a → Q (.bl true) H'
theorem relV_word {fs : List Fact} {a b n : Nat} {S : List Nat} (hS : S.length = n) (ha : a < n) (hb : b < n) (sat : ∀ f ∈ fs, Sat S f) : ((!decide (relV fs a b = V.str "unknown")) && (!decide (V.bl (decide (relV fs a b = V.str "same")) = V.bl (decide (S.getD a 0 = S.getD b 0))))) = false := by
  have eS : decide (S.getD a 0 = S.getD b 0) = decide (S[a]? = S[b]?) := decide_eq_decide.mpr (by
    rw [get_of_lt (M := S) (p := a) (by omega), get_of_lt (M := S) (p := b) (by omega)]
    exact ⟨fun h => by rw [h], fun h => Option.some.inj h⟩)
  rw [eS, bl_eq, relV_same]
  by_cases d : Der fs a b
  · rw [bP_true d, decide_eq_true (der_sound sat d)]
    simp
  · rw [relV_unk d, bP_false d]
    by_cases e : S[a]? = S[b]?
    · rw [bP_true (cons_of_sat (L := S) fun f hf => by
        rcases List.mem_append.mp hf with h | h
        · exact sat f h
        · rw [List.mem_singleton.mp h]
          exact e)]
      rfl
    · rw [decide_eq_false e]
      simp
theorem cl_lawCons (T : Tx K mg) (c_finest_list : Cl P w K mg base 7 "finest_list" sp_finest) (c__law_all_satisfied : Cl P w K mg base 4 "_law_all_satisfied" sp_lawAll) (c_find_conflict : Cl P w K mg base 6 "find_conflict" sp_findConf) (c__law_ids : Cl P w K mg base 1 "_law_ids" sp_lawIds)
    (c__law_draw : Cl P w K mg base 1 "_law_draw" sp_draw) (c__law_pair_holds : Cl P w K mg base 8 "_law_pair_holds" sp_lawPair) (c_relation : Cl P w K mg base 7 "relation" sp_relation) (A : At K mg "_law_consistent_holds" "_law_consistent_holds" "_law_consistent_holds" s__law_consistent_holds []) :
    Cl P w K mg base 9 "_law_consistent_holds" sp_lawCons := by
  refine cl_of A sc__law_consistent_holds (fun _ _ _ _ _ _ us hl => match us, hl with | [_, _, _, _], _ => rfl) (fun vs H Q E h => ?_) (fun f cdv A outer s H vs Q E hr h => ?_)
  · obtain ⟨a, l, n, sv, fs, rfl, _⟩ := h
    rfl
  · obtain ⟨a, l, n, sv, fs, rfl, h1, hn, hs, hO, hfl, ok, c, hsym, q⟩ := h
    refine ⟨_, (pss_cons (ps_set (i := 4) sc__law_consistent_holds.nd rfl (Or.inl rfl) (pcl c_finest_list (hr.mono (by decide)) rfl (pa_cons (pv 1) (pa_cons (pv 2) pa_nil))))
      (pss_cons (ps_if (PW.pt (pw_or (pt_cmpR op_isN (pv 4) pe_non (nomark _)) (pw_or (pt_cmpR op_ne (pe_callB call_len_seq rfl T.b_len (by decide +kernel) (pa_cons (pv 4) pa_nil)) (pv 1) (nomark _)) (pw_or1 (pt_not (pt_val (pcl c__law_all_satisfied (hr.mono (by decide)) rfl (pa_cons (pv 4) (pa_cons (pv 2) pa_nil))))))))) (pss_one (ps_ret pe_bl)) pss_nil)
      (pss_cons (ps_if (pt_cmpR op_notN (pcl c_find_conflict (hr.mono (by decide)) rfl (pa_cons (pv 1) (pa_cons (pv 2) pa_nil))) pe_non (nomark _)) (pss_one (ps_ret pe_bl)) pss_nil)
      (pss_cons (ps_set (i := 5) sc__law_consistent_holds.nd rfl (Or.inl rfl) (pcl c__law_ids (hr.mono (by decide)) rfl (pa_cons (pv 4) pa_nil)))
      (pss_cons (ps_for PassesOwn.never rfl (pi_range1 rfl T.b_range (pa_cons (pv 1) pa_nil)) (pg_name (i := 6) sc__law_consistent_holds.nd rfl (Or.inl rfl))
          (pss_one (ps_for PassesOwn.never rfl (pi_range1 rfl T.b_range (pa_cons (pv 6) pa_nil)) (pg_name (i := 7) sc__law_consistent_holds.nd rfl (Or.inl rfl))
              (pss_one (ps_if (PW.pt (pw_and (pt_cmpR op_notN (pv 3) pe_non (nomark _)) (pw_and (pt_cmpR op_eq (pe_ix ix_list (pv 5) (pv 6) (fun _ _ => rfl)) (pe_ix ix_list (pv 5) (pv 7) (fun _ _ => rfl)) (nomark _)) (pw_and1 (pt_cmpR op_ne (pe_ix ix_list (pv 3) (pv 6) (fun _ _ => rfl)) (pe_ix ix_list (pv 3) (pv 7) (fun _ _ => rfl)) (nomark _)))))) (pss_one (ps_ret pe_bl)) pss_nil)))))
      (pss_cons (ps_for PassesOwn.never rfl (pi_range1 rfl T.b_range (pa_cons pe_int pa_nil)) (pg_name (i := 8) sc__law_consistent_holds.nd rfl (Or.inl rfl))
          (pss_cons (ps_par (i := 6) (j := 7) rfl sc__law_consistent_holds.nd rfl rfl (by decide) rfl rfl (pa_cons (pcl c__law_draw (hr.mono (by decide)) rfl (pa_cons (pv 0) (pa_cons (pv 1) pa_nil))) (pa_cons (pcl c__law_draw (hr.mono (by decide)) rfl (pa_cons (pv 0) (pa_cons (pv 1) pa_nil))) pa_nil)) rfl)
          (pss_cons (ps_if (pt_not (pt_val (pcl c__law_pair_holds (hr.mono (by decide)) rfl (pa_cons (pv 1) (pa_cons (pv 2) (pa_cons (pv 6) (pa_cons (pv 7) (pa_cons (pv 4) pa_nil)))))))) (pss_one (ps_ret pe_bl)) pss_nil)
          (pss_one (ps_if (PW.pt (pw_and (pt_cmpR op_notN (pv 3) pe_non (nomark _)) (pw_and1 (pt_cmpR op_ne (pv 6) (pv 7) (nomark _))))) (pss_cons (ps_set (i := 9) sc__law_consistent_holds.nd rfl (Or.inl rfl) (pcl c_relation (hr.mono (by decide)) rfl (pa_cons (pv 1) (pa_cons (pv 2) (pa_cons (pv 6) (pa_cons (pv 7) pa_nil))))))
            (pss_one (ps_if (PW.pt (pw_and (pt_cmpR op_ne (pv 9) pe_str (nomark _)) (pw_and1 (pt_cmpR op_ne (pe_cmpR op_eq (pv 9) pe_str (nomark _)) (pe_cmpR op_eq (pe_ix ix_list (pv 3) (pv 6) (fun _ _ => rfl)) (pe_ix ix_list (pv 3) (pv 7) (fun _ _ => rfl)) (nomark _)) (nomark _))))) (pss_one (ps_ret pe_bl)) pss_nil))) pss_nil)))))
      (pss_one (ps_ret pe_bl)))))))), ?_⟩
    have hF := hO.at
    refine Go.here (go_setP (tk_call (by walk_at "ev") (v_finest h1 hn hF (by omega) ok)) fun v1 H1 e1 r1 => ?_)
    rcases r1 with ⟨_, p, L, rfl, hp, pt, hp1⟩ | ⟨nc, _⟩
    case inr => exact absurd c nc
    have hF1 := hF.mono e1
    have sat := part_sat pt ok c
    have pa : p ≠ a := fun z => by
      obtain ⟨x, y, h⟩ := hs
      rw [z, h] at hp
      cases hp
    refine go_skip (b := false) (et_orU (a := false) (Evl.et_is (Evl.et_test (ev_op (ev_var rfl) ev_c rv_isN)) (by rfl)) (et_orU (a := false) (Evl.et_is (by walk_at "ev") ?_) (Evl.et_is (Evl.et_not (Evl.et_B (ev_call (by walk_at "ev") (v_lawAll hp1 (by rw [pt.1]; exact hn) hF1 (by omega) (by rw [pt.1]; exact ok) sat)))) rfl))) rfl ?_
    · rw [List.length_map, distOf_length, pt.1]
      simp
    refine go_skip (b := false) (Evl.et_test (Tk.ev ((tk_notN (tk_call (by walk_at "ev") (v_findConf h1 hn hF1 (by omega) ok))).imp fun v H2 e2 r => ?_))) rfl ?_
    · obtain ⟨u, H3, _, _, r, rfl⟩ := r
      rcases r with ⟨_, rfl⟩ | ⟨nc, _⟩
      · rfl
      · exact absurd c nc
    refine go_setP (tk_call (by walk_at "ev") (v_lawIds hp1 (by rw [pt.1]; omega))) fun v2 H2 e2 r2 => ?_
    obtain ⟨i, rfl, hi, hi2⟩ := r2
    intro H3 e3
    have hi3 := e3 _ _ hi2
    have e03 := (e1.trans e2).trans e3
    have kr := (ids_follows L).ker
    have li := idsOf_len L
    have pl := pt.1
    have idd : ∀ {x y : Nat}, x < n → y < n → ((idsOf L).getD x 0 = (idsOf L).getD y 0 ↔ Der fs x y) := fun {x y} hx hy => by
      rw [← pt.2 x y hx hy, kr.2 x y (by omega) (by omega), get_of_lt (M := idsOf L) (p := x) (by rw [li]; omega), get_of_lt (M := idsOf L) (p := y) (by rw [li]; omega)]
      exact ⟨fun h => by rw [h], fun h => Option.some.inj h⟩
    have ixI : ∀ {k : Nat} {t : TE} {σ : L2.St} {G : Hp}, Ex H3 G → k < n → σ[5]? = some (some (.ref i)) → Ev t σ G (nV k) → Ev (tOp (rIxL K) (tVar 5) t) σ G (nV ((idsOf L).getD k 0)) := fun {k t σ G} g hk h0 h1 => ev_op (ev_var h0) h1 (Evl.rv_ixL (Evl.sq_of (g _ _ hi3)) (nL_atI (get_of_lt (by rw [li]; omega)) rfl))
    have ixS : ∀ {k s : Nat} {t : TE} {σ : L2.St} {G : Hp} {S : List Nat}, G s = some (.lst (nL S)) → k < S.length → σ[3]? = some (some (.ref s)) → Ev t σ G (nV k) → Ev (tOp (rIxL K) (tVar 3) t) σ G (nV (S.getD k 0)) := fun {k s t σ G S} g hk h0 h1 => ev_op (ev_var h0) h1 (Evl.rv_ixL (Evl.sq_of g) (nL_atI (get_of_lt hk) rfl))
    have hsym3 : SymO a n fs H3 sv := hsym.fr (FrP.of e03)
    -- the ids are as fine
    refine Evl.q_forR1 (n := (n : Int)) (ea_cons (ev_var rfl) ea_nil) ⟨by omega, by omega⟩ (fun _ σ' H' => ∃ y6 y7, σ' = [some (.ref a), some (nV n), some (.ref l), some sv, some (.ref p), some (.ref i), y6, y7, none, none] ∧ Ex H3 H') (fun H4 e4 => ⟨none, none, rfl, e4⟩) (fun x σ' H' hx hPv => ?_) (fun σ' H' hPv => ?_)
    · obtain ⟨y6, y7, rfl, e4⟩ := hPv
      have hx : x < n := by omega
      refine Evl.s_forR1 (n := (x : Int)) (ea_cons (ev_var rfl) ea_nil) ⟨by omega, by omega⟩ (fun _ σ' H' => ∃ y7, σ' = [some (.ref a), some (nV n), some (.ref l), some sv, some (.ref p), some (.ref i), some (nV x), y7, none, none] ∧ Ex H3 H') (fun H5 e5 => ⟨y7, rfl, e4.trans e5⟩) (fun y σ' H' hy hPv => ?_) (fun σ' H' hPv => ?_)
      · obtain ⟨y7, rfl, e5⟩ := hPv
        have hy : y < n := by omega
        refine Go.here (go_no (b := false) ?_ rfl (go_next fun H6 e6 => ⟨_, rfl, e5.trans e6⟩))
        rcases hsym3 with rfl | ⟨s, S, rfl, _, hS, hSl, hsat⟩
        · exact Evl.et_and (a := false) (b := false) (Evl.et_is (Evl.et_test (ev_op (ev_var rfl) ev_c rv_notN)) rfl) (fun z => nomatch z)
        · refine Evl.et_is (et_andU (a := true) (Evl.et_is (Evl.et_test (ev_op (ev_var rfl) ev_c rv_notN)) rfl) (et_andU (Evl.et_test (ev_op (ixI e5 hx rfl (ev_var rfl)) (ixI e5 hy rfl (ev_var rfl)) (Evl.rv_eq rfl))) (Evl.et_test (ev_op (ixS (e5 _ _ hS) (by omega) rfl (ev_var rfl)) (ixS (e5 _ _ hS) (by omega) rfl (ev_var rfl)) (Evl.rv_ne rfl))))) ?_
          rw [nV_eq, nV_eq, Bool.true_and]
          by_cases e : (idsOf L).getD x 0 = (idsOf L).getD y 0
          · have := der_sound hsat ((idd hx hy).mp e)
            rw [get_of_lt (M := S) (p := x) (by omega), get_of_lt (M := S) (p := y) (by omega)] at this
            rw [decide_eq_true (Option.some.inj this)]
            simp
          · rw [decide_eq_false e]
            rfl
      · obtain ⟨y7, rfl, e5⟩ := hPv
        exact ⟨_, _, rfl, e5⟩
    · obtain ⟨y6, y7, rfl, e4⟩ := hPv
      have e04 := e03.trans e4
      -- four pairs
      refine Evl.q_forR1 (n := (4 : Int)) (ea_cons ev_c ea_nil) ⟨by omega, by omega⟩ (fun _ σ' H' => ∃ y6 y7 y8 y9, σ' = [some (.ref a), some (nV n), some (.ref l), some sv, some (.ref p), some (.ref i), y6, y7, y8, y9] ∧ FrP a H H' ∧ StrAt H' a ∧ H' p = some (.lst (nL (distOf L))))
        (fun H5 e5 => ⟨_, _, _, _, rfl, FrP.of (e04.trans e5), hs.mono (e04.trans e5), e5 _ _ (e4 _ _ ((e2.trans e3) _ _ hp1))⟩) (fun k σ' H' hk hPv => ?_) (fun σ' H' hPv => ?_)
      · obtain ⟨y6, y7, y8, y9, rfl, f5, s5, hp5⟩ := hPv
        refine q_par2 (l := n) (m := n) s5 (fun _ => ev_var rfl) (fun _ => ev_var rfl) (fun _ => ev_var rfl) (fun _ => ev_var rfl) ⟨h1, by omega⟩ ⟨h1, by omega⟩ fun x y H6 f6 s6 hx hy => ?_
        have f06 := f5.trans f6
        have hp6 := f6 _ _ pa hp5
        have hF6 := (hO.fr f06 hs).at
        have hsym6 := hsym.fr f06
        refine Go.here (go_skip (b := false) (Evl.et_is (Evl.et_not (Evl.et_B (ev_call (by walk_at "ev") (v_lawPair h1 hn hF6 hfl ok hx hy c pt hp6)))) rfl) rfl ?_)
        have fin : ∀ y9 H7, Ex H6 H7 → (∃ y6' y7' y8' y9', [some (.ref a), some (nV n), some (.ref l), some sv, some (.ref p), some (.ref i), some (nV x), some (nV y), some (V.int (k : Int)), y9] = [some (.ref a), some (nV n), some (.ref l), some sv, some (.ref p), some (.ref i), y6', y7', y8', y9'] ∧ FrP a H H7 ∧ StrAt H7 a ∧ H7 p = some (.lst (nL (distOf L)))) := fun y9 H7 e7 => ⟨_, _, _, _, rfl, f06.trans (FrP.of e7), s6.mono e7, e7 _ _ hp6⟩
        rcases hsym6 with rfl | ⟨s, S, rfl, _, hS, hSl, hsat⟩
        · exact go_no (b := false) (Evl.et_and (a := false) (b := false) (Evl.et_is (Evl.et_test (ev_op (ev_var rfl) ev_c rv_notN)) rfl) (fun z => nomatch z)) rfl (go_next fun H7 e7 => fin _ H7 e7)
        · refine go_if (b := !decide (nV x = nV y)) (Evl.et_is (et_andU (a := true) (Evl.et_is (Evl.et_test (ev_op (ev_var rfl) ev_c rv_notN)) rfl) (Evl.et_test (ev_op (ev_var rfl) (ev_var rfl) (Evl.rv_ne rfl)))) (Bool.true_and _)) (fun _ => ?_) (fun _ => go_next fun H7 e7 => fin _ H7 e7)
          refine go_set (ev_call (by walk_at "ev") (v_relation h1 hn hF6 (by omega) ok hx hy c)) ?_
          refine go_no (b := false) (Evl.et_is (et_andU (Evl.et_test (ev_op (ev_var rfl) ev_c (Evl.rv_ne (relV_scal _ _ _ _)))) (Evl.et_test (ev_op (ev_op (ev_var rfl) ev_c (Evl.rv_eq (relV_scal _ _ _ _))) (Evl.ev_is (ev_op (ixS hS (by omega) rfl (ev_var rfl)) (ixS hS (by omega) rfl (ev_var rfl)) (Evl.rv_eq rfl)) (by rw [nV_eq])) (Evl.rv_ne rfl)))) ?_) rfl (go_next fun H7 e7 => fin _ H7 e7)
          exact relV_word hSl hx hy hsat
      · obtain ⟨y6, y7, y8, y9, rfl, f5, s5, hp5⟩ := hPv
        exact Go.here (go_ret ev_c fun H6 e6 => q H6 (f5.trans (FrP.of e6)) (s5.mono e6))
end
end Hfb
namespace Hfb
open PySem PySem.Spec PyProof.Rows L2
open Evl (Ex Ev EvT EvA EvL EvU ev_op ev_var ev_c ev_call ea_cons ea_nil)
section
variable {P : Program} {w : World} {K : PySem.W.Frag} {mg : Str → Option Value} {base : Heap} {H : Hp}
local macro_rules | `(tactic| walk_at "spv") => `(tactic| first | exact v_isInt | exact v_isIntD | exact v_twoPos | exact v_isSeq (.t (by assumption)) | exact v_isSeq (.l (by assumption)) | exact v_isDist (by assumption) (by omega))
local macro_rules | `(tactic| walk_at "rv") => `(tactic| first
  | with_reducible exact Evl.rv_I0
  | ((with_reducible refine Evl.rv_eq ?_); rfl)
  | ((with_reducible refine Evl.rv_ne ?_); rfl)
  | ((with_reducible apply Evl.rv_ixT); (first | assumption | exact Evl.st_of (by assumption)); (first | rfl | assumption))
  | ((with_reducible apply Evl.rv_ixL); (first | assumption | exact Evl.sq_of (by assumption)); (first | rfl | assumption))
  | exact isi_int
  | exact isi_bool
  | exact isi_str
  | exact rc_max
  | exact rc_min
  | (apply rc_lenL; first | assumption | exact Evl.sq_of (by assumption))
  | (apply rc_lenT; first | assumption | exact Evl.st_of (by assumption))
  | walk_at "fld"
  | walk_at "spv")
local macro_rules | `(tactic| walk_at "ev") => `(tactic| first
  | ((with_reducible apply Evl.ev_var); rfl)
  | with_reducible exact Evl.ev_c
  | with_reducible exact Evl.ea_nil
  | ((with_reducible apply Evl.ea_cons) <;> walk_at "ev")
  | ((with_reducible apply Evl.ev_op) <;> walk_at "ev")
  | ((with_reducible apply ev_chain) <;> walk_at "ev")
  | ((with_reducible apply Evl.ev_cb) <;> walk_at "ev")
  | ((with_reducible apply Evl.ev_call) <;> walk_at "ev")
  | ((with_reducible apply Evl.ev_notV) <;> walk_at "ev")
  | ((with_reducible apply ev_andU) <;> walk_at "ev")
  | ((with_reducible apply ev_orU) <;> walk_at "ev")
  | ((with_reducible apply Evl.et_B) <;> walk_at "ev")
  | ((with_reducible apply Evl.et_test) <;> walk_at "ev")
  | ((with_reducible apply Evl.et_not) <;> walk_at "ev")
  | ((with_reducible apply et_andU) <;> walk_at "ev")
  | ((with_reducible apply et_orU) <;> walk_at "ev")
  | walk_at "rv")
/-! ### the stream, the drawn facts -/
def NewStr (H : Hp) (v : V) (H' : Hp) : Prop := ∃ a, v = .ref a ∧ H a = none ∧ StrAt H' a
def sp_stream : Sp := fun vs H Q _ => ∃ c k : Int, vs = [.int c, .int k] ∧ ∀ v H', Ex H H' → NewStr H v H' → Q v H'
theorem v_stream {c k : Int} : SpK sp_stream [.int c, .int k] H (NewStr H) := fun H1 e Q q E => ⟨c, k, rfl, fun v H' e' r => q v H' e' (by obtain ⟨a, h1, h2, h3⟩ := r; exact ⟨a, h1, Evl.fresh_back e h2, h3⟩)⟩
theorem rc_abs {i : Int} : Evl.RC (fun xs H Q => ∃ i, xs = [V.int i] ∧ Q (V.int (if i < 0 then -i else i)) H) [.int i] H (.int (if i < 0 then -i else i)) := fun H1 e Q q => ⟨i, rfl, q H1 (Ex.refl H1)⟩
theorem cl_stream (T : Tx K mg) (A : At K mg "_law_stream" "_law_stream" "_law_stream" s__law_stream []) : Cl P w K mg base 1 "_law_stream" sp_stream := by
  refine cl_of A sc__law_stream (fun _ _ _ _ _ _ us hl => match us, hl with | [_, _], _ => rfl) (fun vs H Q E h => ?_) (fun f cdv A outer s H vs Q E hr h => ?_)
  · obtain ⟨c, k, rfl, _⟩ := h
    rfl
  · obtain ⟨c, k, rfl, q⟩ := h
    refine ⟨_, (pss_one (ps_ret (pe_lst (pa_cons (pe_callB call_abs rfl T.b_abs (by decide +kernel) (pa_cons (pv 0) pa_nil)) (pa_cons (pe_op op_mod (pe_op op_mul (pe_op op_add (pe_op op_mod (pe_callB call_abs rfl T.b_abs (by decide +kernel) (pa_cons (pv 0) pa_nil)) pe_int) pe_int) (pe_op op_add (pe_op op_mul pe_int (pv 1)) pe_int)) pe_int) pa_nil))))), ?_⟩
    have ab : ∀ {G : Hp}, Ev (tCB (fun xs H Q => ∃ i, xs = [V.int i] ∧ Q (V.int (if i < 0 then -i else i)) H) (tCons (tVar 0) tNil)) [some (V.int c), some (V.int k)] G (.int (if c < 0 then -c else c)) := fun {G} => Evl.ev_cb (ea_cons (ev_var rfl) ea_nil) rc_abs
    generalize (if c < 0 then -c else c) = z at ab
    have z1 := Int.emod_nonneg z (b := 2147483629) (by decide)
    have z2 := Int.emod_lt_of_pos z (b := 2147483629) (by decide)
    refine Go.here (go_retP (tk_lst (ea_cons ab (ea_cons (ev_op (ev_op (ev_op (ev_op ab ev_c (rv_IC (by decide))) ev_c Evl.rv_I0) (ev_op (ev_op ev_c (ev_var rfl) (rv_IC (.inl (by decide)))) ev_c Evl.rv_I0) (rv_IC (.inl (by omega)))) ev_c (rv_IC (by decide))) ea_nil)) (by simp)) fun v H1 e1 r1 => ?_)
    obtain ⟨a, rfl, ha, h1⟩ := r1
    exact q _ H1 e1 ⟨a, rfl, ha, _, _, h1⟩
section
variable {a : Addr} {σ : L2.St} {t1 t2 t3 te : TE} {n m : Nat}
theorem td_sym3 (h1 : ∀ G : Hp, Ev t1 σ G (.ref a)) (h2 : ∀ G : Hp, Ev t2 σ G (nV n)) (h3 : ∀ G : Hp, Ex H G → TD a t3 σ G (DrI m)) (n1 : 1 ≤ n) (n2 : n ≤ 60) (m2 : m ≤ 900) : TD a (tCall sp_symbols [] E0 (tCons t1 (tCons t2 (tCons t3 tNil)))) σ H (SymN n H) := fun Q q =>
  h1 H H (Ex.refl H) _ fun H1 e1 => h2 H1 H1 (Ex.refl _) _ fun H2 e2 => h3 H2 (e1.trans e2) _ fun u H3 f3 s3 r3 => by
    obtain ⟨r, rfl, hr⟩ := r3
    have f03 := (FrP.of (e1.trans e2)).trans f3
    exact ⟨a, n, r + 1, rfl, s3, n1, n2, by omega, by omega, fun v H4 f4 s4 r4 => q v H4 (f03.trans f4) s4 (fr_sym f03 s3 r4)⟩
theorem td_true {s : Addr} {S : List Nat} (hs : StrAt H a) (h1 : Ev t1 σ H (.ref a)) (h2 : Ev t2 σ H (.ref s)) (ns : s ≠ a) (hS : H s = some (.lst (nL S))) (l1 : 1 ≤ S.length) (l2 : S.length ≤ 60) : TD a (tCall sp_true [] E0 (tCons t1 (tCons t2 tNil))) σ H (TrueR S H) := fun Q q =>
  ea_cons h1 (ea_cons h2 ea_nil) H (Ex.refl H) _ fun H2 e2 => ⟨a, s, S, rfl, hs.mono e2, ns, e2 _ _ hS, l1, l2, fun v H' f s' r => q v H' ((FrP.of e2).trans f) s' (by
    rcases r with h | ⟨g, h1, h2, h3⟩
    · exact .inl h
    · exact .inr ⟨g, h1, h2, h3.weak fun b hb => fr_some (FrP.of e2) (hs.mono e2) hb⟩)⟩
end
/-- what the comprehension holds: facts, or nothing -/
def SomeG (a : Addr) (S : List Nat) (Dl : Addr) (i : Nat) (acc : List V) (H' : Hp) : Prop := acc.length = i ∧ ∀ v ∈ acc, v = .non ∨ ∃ f : Fact, f.Ok S.length ∧ Sat S f ∧ FactO (fun b => b = a ∨ b = Dl) H' v f
theorem td_some {a s : Addr} {σ : L2.St} {vs : List Nat} {j : Nat} {S : List Nat} {ta : TA} {t1 t2 : TE} (hs : StrAt H a) (hn : TDA a ta σ H (fun ws _ => ∃ n : Nat, ws = [nV n] ∧ n ≤ 40000 ∧ n ≤ 11)) (hw : ∀ x, wipe ((wipe σ vs).set j (some x)) vs = wipe σ vs) (ns : s ≠ a) (hS : H s = some (.lst (nL S)))
    (l1 : 1 ≤ S.length) (l2 : S.length ≤ 60) (h1 : ∀ (G : Hp) (x : V), Ev t1 ((wipe σ vs).set j (some x)) G (.ref a)) (h2 : ∀ (G : Hp) (x : V), Ev t2 ((wipe σ vs).set j (some x)) G (.ref s)) :
    TD a (tLc (iRng1 ta) (gName j) tYes (tCall sp_true [] E0 (tCons t1 (tCons t2 tNil))) vs) σ H (fun v H2 => ∃ Dl acc, v = .ref Dl ∧ H Dl = none ∧ H2 Dl = some (.lst acc) ∧ acc.length ≤ 11 ∧ ∀ v ∈ acc, v = .non ∨ ∃ f : Fact, f.Ok S.length ∧ Sat S f ∧ FactO (· = a) H2 v f) := by
  refine td_imp (td_lcR (Pn := (· ≤ 11)) hs hn (SomeG a S) (fun Dl i acc H1 H2 t k g => ⟨g.1, fun v hv => ?_⟩) hw (fun _ _ => ⟨rfl, fun v hv => by cases hv⟩) (fun Dl i acc H' f s' nd na g => td_imp (td_true s' (h1 H' _) (h2 H' _) ns (f _ _ ns hS) l1 l2) fun v H2 f2 s2 r => ?_)) fun v H2 f s' r => ?_
  · rcases g.2 v hv with h | ⟨f, o1, o2, o3⟩
    · exact .inl h
    · exact .inr ⟨f, o1, o2, o3.keep t fun b o nb hb => k b o (fun z => nb (.inr z)) hb⟩
  · refine ⟨by rw [List.length_append, g.1]; rfl, fun u hu => ?_⟩
    rcases List.mem_append.mp hu with hu | hu
    · rcases g.2 u hu with h | ⟨f', o1, o2, o3⟩
      · exact .inl h
      · exact .inr ⟨f', o1, o2, o3.keep (te_str f2 s') fun b o nb hb => f2 b o (fun z => nb (.inl z)) hb⟩
    · rw [List.mem_singleton.mp hu]
      rcases r with h | ⟨f', o1, o2, o3⟩
      · exact .inl h
      · refine .inr ⟨f', o1, o2, o3.weak fun b hb => ?_⟩
        rcases hb with rfl | rfl
        · obtain ⟨x, y, h⟩ := s'
          rw [h]
          intro z
          cases z
        · exact nd
  · obtain ⟨n, Dl, acc, hn11, rfl, hD, hD2, hl, g1, g2⟩ := r
    refine ⟨Dl, acc, rfl, hD, hD2, by omega, fun v hv => ?_⟩
    rcases g2 v hv with h | ⟨f', o1, o2, o3⟩
    · exact .inl h
    · exact .inr ⟨f', o1, o2, o3.weak fun b hb => .inl hb⟩
/-- the facts alone -/
theorem tk_facts {a l : Addr} {σ : L2.St} {vs : List Nat} {j : Nat} {S : List Nat} {acc : List V} {tl te : TE} {tt : TT} (hs : StrAt H a) (h : Ev tl σ H (.ref l)) (hl : H l = some (.lst acc)) (hz : acc.length ≤ 11) (hall : ∀ v ∈ acc, v = .non ∨ ∃ f : Fact, f.Ok S.length ∧ Sat S f ∧ FactO (· = a) H v f) (hw : ∀ x, wipe ((wipe σ vs).set j (some x)) vs = wipe σ vs)
    (ht : ∀ (G : Hp) (x : V), EvT tt ((wipe σ vs).set j (some x)) G (!decide (x = .non))) (he : ∀ (G : Hp) (x : V), Ev te ((wipe σ vs).set j (some x)) G x) :
    Tk (tLc (iList K tl) (gName j) tt te vs) σ H (fun v H2 => ∃ l2 fs, v = .ref l2 ∧ FactsO a H2 l2 fs ∧ fs.length ≤ 11 ∧ (∀ f ∈ fs, f.Ok S.length) ∧ ∀ f ∈ fs, Sat S f) := fun H1 e1 Q q => by
  refine tk_lcL (K := K) (fun H2 e2 => h H2 (e1.trans e2)) (Evl.sq_of (e1 _ _ hl)) (by omega) (fun i out _ => ∃ fs : List Fact, fs.length ≤ i ∧ out.length = fs.length ∧ (∀ (k : Nat) v f, out[k]? = some v → fs[k]? = some f → FactO (· = a) H v f) ∧ (∀ f ∈ fs, f.Ok S.length) ∧ ∀ f ∈ fs, Sat S f) (fun _ _ _ _ _ h => h) hw (fun _ _ => ⟨[], Nat.le_refl _, rfl, fun k v f x => by simp at x, fun f hf => (by cases hf), fun f hf => by cases hf⟩) (fun i x out H2 e2 hi hG => ?_) H1 (Ex.refl _) Q fun v H2 e2 r => ?_
  · obtain ⟨fs, g1, g2, g3, g4, g5⟩ := hG
    refine ⟨!decide (x = .non), ht H2 x, fun hb => ⟨fs, by omega, g2, g3, g4, g5⟩, fun hb => ⟨_, Tk.of (he H2 x), fun y H3 e3 r => ?_⟩⟩
    rcases hall x (List.mem_of_getElem? hi) with h | ⟨f, o1, o2, o3⟩
    · rw [h] at hb
      simp at hb
    · refine ⟨fs ++ [f], by rw [List.length_append]; show fs.length + 1 ≤ i + 1; omega, by rw [List.length_append, List.length_append, g2]; rfl, fun k v g u1 u2 => ?_, fun g hg => ?_, fun g hg => ?_⟩
      · rcases get_snoc u1 with ⟨i1, a1⟩ | ⟨i1, a1⟩
        · rcases get_snoc u2 with ⟨i2, b1⟩ | ⟨i2, b1⟩
          · exact g3 k v g a1 b1
          · omega
        · rcases get_snoc u2 with ⟨i2, b1⟩ | ⟨i2, b1⟩
          · omega
          · rw [a1, b1, r]
            exact o3
      · rcases List.mem_append.mp hg with h | h
        · exact g4 g h
        · rw [List.mem_singleton.mp h]; exact o1
      · rcases List.mem_append.mp hg with h | h
        · exact g5 g h
        · rw [List.mem_singleton.mp h]; exact o2
  · obtain ⟨p, out, rfl, hp, h2, fs, g1, g2, g3, g4, g5⟩ := r
    have hp0 := Evl.fresh_back e1 hp
    refine q _ H2 e2 ⟨p, fs, rfl, ⟨fun z => ?_, out, h2, g2, fun k v f u1 u2 => (g3 k v f u1 u2).keep (te_of (e1.trans e2)) fun b o _ hb => (e1.trans e2) b o hb⟩, by omega, g4, g5⟩
    obtain ⟨x, y, h⟩ := hs
    rw [z, h] at hp0
    cases hp0
end
end Hfb
namespace Hfb
open PySem PySem.Spec PyProof.Rows L2
open Evl (Ex Ev EvT EvA EvL EvU ev_op ev_var ev_c ev_call ea_cons ea_nil)
section
variable {P : Program} {w : World} {K : PySem.W.Frag} {mg : Str → Option Value} {base : Heap} {H : Hp}
local macro_rules | `(tactic| walk_at "spv") => `(tactic| first | exact v_isInt | exact v_isIntD | exact v_twoPos | exact v_isSeq (.t (by assumption)) | exact v_isSeq (.l (by assumption)) | exact v_isDist (by assumption) (by omega))
local macro_rules | `(tactic| walk_at "rv") => `(tactic| first
  | with_reducible exact Evl.rv_I0
  | ((with_reducible refine Evl.rv_eq ?_); rfl)
  | ((with_reducible refine Evl.rv_ne ?_); rfl)
  | ((with_reducible apply Evl.rv_ixT); (first | assumption | exact Evl.st_of (by assumption)); (first | rfl | assumption))
  | ((with_reducible apply Evl.rv_ixL); (first | assumption | exact Evl.sq_of (by assumption)); (first | rfl | assumption))
  | exact isi_int
  | exact isi_bool
  | exact isi_str
  | exact rc_max
  | exact rc_min
  | (apply rc_lenL; first | assumption | exact Evl.sq_of (by assumption))
  | (apply rc_lenT; first | assumption | exact Evl.st_of (by assumption))
  | walk_at "fld"
  | walk_at "spv")
local macro_rules | `(tactic| walk_at "ev") => `(tactic| first
  | ((with_reducible apply Evl.ev_var); rfl)
  | with_reducible exact Evl.ev_c
  | with_reducible exact Evl.ea_nil
  | ((with_reducible apply Evl.ea_cons) <;> walk_at "ev")
  | ((with_reducible apply Evl.ev_op) <;> walk_at "ev")
  | ((with_reducible apply ev_chain) <;> walk_at "ev")
  | ((with_reducible apply Evl.ev_cb) <;> walk_at "ev")
  | ((with_reducible apply Evl.ev_call) <;> walk_at "ev")
  | ((with_reducible apply Evl.ev_notV) <;> walk_at "ev")
  | ((with_reducible apply ev_andU) <;> walk_at "ev")
  | ((with_reducible apply ev_orU) <;> walk_at "ev")
  | ((with_reducible apply Evl.et_B) <;> walk_at "ev")
  | ((with_reducible apply Evl.et_test) <;> walk_at "ev")
  | ((with_reducible apply Evl.et_not) <;> walk_at "ev")
  | ((with_reducible apply et_andU) <;> walk_at "ev")
  | ((with_reducible apply et_orU) <;> walk_at "ev")
  | walk_at "rv")
/-! ### the law's one cell -/
theorem lastKey_mem {ss : List Step} {k : Pr} (h : lastKey ss = some k) : ∃ s ∈ ss, s.key = k := by
  unfold lastKey at h
  obtain ⟨s, h1, h2⟩ := Option.map_eq_some_iff.mp h
  exact ⟨s, List.mem_of_getLast? h1, h2⟩
theorem no_conf {n : Nat} {fs : List Fact} {ss : List Step} {j : Nat} (c : Cons fs) : ¬ ConfR n fs ss j := by
  rintro ⟨_, va, k, f, hk, hf, hd⟩
  obtain ⟨s, hs, rfl⟩ := lastKey_mem hk
  have d := vAll_der (K := []) (fun a b h => by cases h) va s hs
  have e : s.key = keyP s.p s.q := rfl
  refine c f (List.mem_of_getElem? hf) _ _ hd (key_der (a := s.p) (b := s.q) ?_ d)
  show keyP s.p s.q = keyP (min s.p s.q) (max s.p s.q)
  unfold keyP
  exact Prod.ext (by dsimp only; omega) (by dsimp only; omega)
theorem no_conf0 {n : Nat} {fs : List Fact} {j : Nat} : ¬ ConfR n fs [] j := by
  rintro ⟨_, _, k, f, hk, _⟩
  cases hk
theorem is_conf {n : Nat} {fs : List Fact} {ss : List Step} {j a b : Nat} {f : Fact} (hf : fs[j]? = some f) (hd : SDiff f a b) (va : VAll n fs [] ss) (hk : lastKey ss = some (keyP a b)) : ConfR n fs ss j := by
  refine ⟨lt_of_get hf, va, keyP a b, f, hk, hf, ?_⟩
  show SDiff f (min a b) (max a b)
  rcases Nat.le_total a b with h | h
  · rw [Nat.min_eq_left h, Nat.max_eq_right h]; exact hd
  · rw [Nat.min_eq_right h, Nat.max_eq_left h]; exact hd.symm
section
variable {a : Addr} {σ : L2.St} {t1 t2 t3 t4 te ta tb : TE} {t u : TT}
theorem ev_conf {n j : Nat} {l : Addr} {fs : List Fact} {ss : List Step} (h1 : 1 ≤ n) (hn : n ≤ 60) (hF : FactsAt H l fs) (hfl : fs.length ≤ 40) (ok : ∀ f ∈ fs, f.Ok n) (e1 : Ev t1 σ H (nV n)) (e2 : Ev t2 σ H (.ref l)) (hz : ss.length ≤ 5000)
    (e3 : Tk t3 σ H (fun v H' => ∃ t d us, v = .ref t ∧ H' t = some (.tup [.ref d, nV j]) ∧ H' d = some (.lst us) ∧ StepsAt H' us ss)) : Ev (tCall sp_isConf [] E0 (tCons t1 (tCons t2 (tCons t3 tNil)))) σ H (.bl (bP (ConfR n fs ss j))) := fun H1 g1 Q q =>
  e1 H1 g1 _ fun H2 g2 => e2 H2 (g1.trans g2) _ fun H3 g3 => e3 H3 ((g1.trans g2).trans g3) _ fun v H4 g4 r => by
    obtain ⟨t, d, us, rfl, ht, hd, hs⟩ := r
    exact v_isConf h1 hn (hF.mono (((g1.trans g2).trans g3).trans g4)) hfl ok ht hd hs hz H4 (Ex.refl _) Q (fun H5 g5 => q H5 (((g2.trans g3).trans g4).trans g5)) E0
/-- ([], j) -/
theorem tk_noSteps {j : Nat} (h : Ev te σ H (nV j)) : Tk (tTup (tCons (tLst tNil) (tCons te tNil))) σ H (fun v H' => ∃ t d us, v = .ref t ∧ H' t = some (.tup [.ref d, nV j]) ∧ H' d = some (.lst us) ∧ StepsAt H' us []) :=
  (tk_tupA (tka_cons (tk_lst (vs := []) ea_nil (by simp)) (tka_cons (Tk.of h) tka_nil)) (fun vs H2 r => by obtain ⟨_, _, _, rfl, _, _, _, _, _, _, rfl, _, _, _, rfl⟩ := r; simp)).imp fun v H2 e r => by
    obtain ⟨p, vs, G, rfl, _, h2, g1, g2, u1, us1, G1, rfl, _, g3, ⟨d, rfl, _, hd⟩, u2, us2, G2, rfl, _, g4, rfl, rfl⟩ := r
    exact ⟨p, d, [], rfl, h2, g2 _ _ (g3 _ _ hd), StepsAt.nil⟩
/-- ([(0, 1, ("fact", 0))], 0) -/
theorem tk_oneStep : Tk (tTup (tCons (tLst (tCons (tTup (tCons (tC (.int 0)) (tCons (tC (.int 1)) (tCons (tTup (tCons (tC (.str "fact")) (tCons (tC (.int 0)) tNil))) tNil)))) tNil)) (tCons (tC (.int 0)) tNil))) σ H
    (fun v H' => ∃ t d us, v = .ref t ∧ H' t = some (.tup [.ref d, nV 0]) ∧ H' d = some (.lst us) ∧ StepsAt H' us [⟨0, 1, .fact 0⟩]) := by
  have h1 : Tk (tTup (tCons (tC (.int 0)) (tCons (tC (.int 1)) (tCons (tTup (tCons (tC (.str "fact")) (tCons (tC (.int 0)) tNil))) tNil)))) σ H (fun v H' => StepAt H' v ⟨0, 1, .fact 0⟩) :=
    (tk_tupA (tka_cons (Tk.of ev_c) (tka_cons (Tk.of ev_c) (tka_cons (tk_tup (vs := [.str "fact", nV 0]) (ea_cons ev_c (ea_cons ev_c ea_nil)) (by simp)) tka_nil))) (fun vs H2 r => by obtain ⟨_, _, _, rfl, _, _, _, _, _, _, rfl, _, _, _, _, _, _, rfl, _, _, _, rfl⟩ := r; simp)).imp fun v H2 e r => by
      obtain ⟨p, vs, G, rfl, _, h2, g1, g2, u1, us1, G1, rfl, _, g3, rfl, u2, us2, G2, rfl, _, g4, rfl, u3, us3, G3, rfl, _, g5, ⟨t, rfl, _, ht⟩, rfl⟩ := r
      exact ⟨p, .ref t, rfl, h2, t, rfl, g2 _ _ (g5 _ _ ht)⟩
  refine (tk_tupA (tka_cons (tk_lst1 h1) (tka_cons (Tk.of ev_c) tka_nil)) (fun vs H2 r => by obtain ⟨_, _, _, rfl, _, _, _, _, _, _, rfl, _, _, _, rfl⟩ := r; simp)).imp fun v H2 e r => ?_
  obtain ⟨p, vs, G, rfl, _, h2, g1, g2, u1, us1, G1, rfl, _, g3, ⟨d, w, G4, rfl, _, hd, _, g5, hw⟩, u2, us2, G2, rfl, _, g4, rfl, rfl⟩ := r
  exact ⟨p, d, [w], rfl, h2, g2 _ _ (g3 _ _ hd), StepsAt.snoc (us := []) (ss := []) StepsAt.nil (((hw.te (te_of g5)).te (te_of g3)).te (te_of g2))⟩
theorem td_cons {l : Addr} {n : Nat} {sv : V} {fs : List Fact} (hs : StrAt H a) (e1 : Ev t1 σ H (.ref a)) (e2 : Ev t2 σ H (nV n)) (e3 : Ev t3 σ H (.ref l)) (e4 : Ev t4 σ H sv) (h1 : 1 ≤ n) (hn : n ≤ 60) (hO : FactsO a H l fs) (hfl : fs.length ≤ 38) (ok : ∀ f ∈ fs, f.Ok n) (c : Cons fs) (hsym : SymO a n fs H sv) :
    TD a (tCall sp_lawCons [] E0 (tCons t1 (tCons t2 (tCons t3 (tCons t4 tNil))))) σ H (fun v _ => v = .bl true) := fun Q q =>
  ea_cons e1 (ea_cons e2 (ea_cons e3 (ea_cons e4 ea_nil))) H (Ex.refl H) _ fun H2 g2 => ⟨a, l, n, sv, fs, rfl, h1, hn, hs.mono g2, hO.fr (FrP.of g2) hs, hfl, ok, c, hsym.fr (FrP.of g2), fun H' f s => q _ H' ((FrP.of g2).trans f) s rfl⟩
theorem tdt_notB (h : TD a te σ H (fun v _ => v = .bl true)) : TDT a (tNot (tB te)) σ H (· = false) := fun Q q => h _ fun v H2 f s r => ⟨true, r, q _ H2 f s rfl⟩
theorem tdt_orF (h1 : TDT a t σ H (· = false)) (h2 : ∀ H1, FrP a H H1 → StrAt H1 a → TDT a u σ H1 (· = false)) : TDT a (tOr t u) σ H (· = false) := fun Q q => h1 _ fun b H2 f s r => by
  subst r
  show u σ H2 Q
  exact h2 H2 f s _ fun c H3 f3 s3 r3 => q c H3 (f.trans f3) s3 r3
theorem td_andT (h1 : Ev ta σ H (.bl true)) (h2 : ∀ H1, Ex H H1 → TD a tb σ H1 (fun v _ => v = .bl true)) : TD a (tAndV ta tb) σ H (fun v _ => v = .bl true) := fun Q q => h1 H (Ex.refl H) _ fun H2 e2 => ⟨true, rfl, h2 H2 e2 Q fun v H3 f3 s3 r3 => q v H3 ((FrP.of e2).trans f3) s3 r3⟩
theorem td_lst1 {R : V → Hp → Prop} (h : TD a te σ H R) : TD a (tLst (tCons te tNil)) σ H (fun v H' => ∃ p u H1, v = .ref p ∧ H1 p = none ∧ H' p = some (.lst [u]) ∧ FrP a H H1 ∧ StrAt H1 a ∧ Ex H1 H' ∧ R u H1) := fun Q q =>
  h _ fun u H1 f1 s1 r1 => ⟨by show 1 ≤ sizeLine; decide, fun p hp => q _ _ (f1.trans (FrP.of (Ex.new hp))) (s1.mono (Ex.new hp)) ⟨p, u, H1, rfl, hp, upd_same, f1, s1, Ex.new hp, r1⟩⟩
theorem td_any {n : Nat} (hs : StrAt H a) (e1 : Ev t1 σ H (.ref a)) (e2 : Ev t2 σ H (nV n)) (n1 : 1 ≤ n) (n2 : n ≤ 60) : TD a (tCall sp_any [] E0 (tCons t1 (tCons t2 tNil))) σ H (fun v H' => ∃ f : Fact, f.Ok n ∧ FactO (· = a) H' v f) := fun Q q =>
  ea_cons e1 (ea_cons e2 ea_nil) H (Ex.refl _) _ fun H2 g2 => ⟨a, n, rfl, hs.mono g2, n1, n2, fun v H3 f f3 s3 okf hf => q v H3 ((FrP.of g2).trans f3) s3 ⟨f, okf, hf.weak fun b hb => by
    obtain ⟨p, r, s⟩ := hs.mono g2
    rw [hb, s]
    intro z
    cases z⟩⟩
/-- facts + [a new one] -/
theorem td_catA {l : Addr} {n : Nat} {fs : List Fact} (hs : StrAt H a) (h0 : Ev ta σ H (.ref l)) (h : ∀ G, Ex H G → TD a tb σ G (fun v H' => ∃ p u H1, v = .ref p ∧ H1 p = none ∧ H' p = some (.lst [u]) ∧ FrP a G H1 ∧ StrAt H1 a ∧ Ex H1 H' ∧ ∃ f : Fact, f.Ok n ∧ FactO (· = a) H1 u f)) (hO : FactsO a H l fs) (hz : fs.length ≤ 1000) :
    TD a (tOp rCat ta tb) σ H (fun v H' => ∃ l2 f, v = .ref l2 ∧ f.Ok n ∧ FactsO a H' l2 (fs ++ [f])) := fun Q q =>
  h0 H (Ex.refl H) _ fun H1 g1 => h H1 g1 _ fun w H3 f3 s3 r3 => by
    obtain ⟨c, v, G, rfl, hc, hc3, fG, sG, e3, f, okf, hf⟩ := r3
    have f03 := (FrP.of g1).trans f3
    obtain ⟨nl, us, h1, h2, h3⟩ := hO.fr f03 hs
    refine ⟨l, c, us, [v], rfl, rfl, h1, hc3, Evl.sz_of (by rw [h2]; show fs.length + 1 ≤ 100000; omega), fun d hd => ?_⟩
    have e4 : Ex H3 (upd H3 d (.lst (us ++ [v]))) := Ex.new hd
    refine q _ _ (f03.trans (FrP.of e4)) (s3.mono e4) ⟨d, f, rfl, okf, fun z => ?_, us ++ [v], upd_same, by rw [List.length_append, List.length_append, h2]; rfl, fun i w g x y => ?_⟩
    · obtain ⟨p, r, s⟩ := s3
      rw [z, s] at hd
      cases hd
    · rcases get_snoc x with ⟨i1, x1⟩ | ⟨i1, x1⟩
      · rcases get_snoc y with ⟨i2, y1⟩ | ⟨i2, y1⟩
        · exact (h3 i w g x1 y1).keep (te_of e4) fun b o _ hb => e4 b o hb
        · omega
      · rcases get_snoc y with ⟨i2, y1⟩ | ⟨i2, y1⟩
        · omega
        · rw [x1, y1]
          exact hf.keep (te_of (e3.trans e4)) fun b o _ hb => (e3.trans e4) b o hb
end
def sp_holds : Sp := fun vs H Q _ => ∃ a : Addr, vs = [.ref a] ∧ StrAt H a ∧ ∀ H', FrP a H H' → StrAt H' a → Q (.bl true) H'
theorem cl_holds (T : Tx K mg) (c__law_draw : Cl P w K mg base 1 "_law_draw" sp_draw) (c__law_symbols : Cl P w K mg base 2 "_law_symbols" sp_symbols) (c__law_true_fact : Cl P w K mg base 3 "_law_true_fact" sp_true) (c_is_consistent : Cl P w K mg base 7 "is_consistent" sp_isCons)
    (c__law_consistent_holds : Cl P w K mg base 9 "_law_consistent_holds" sp_lawCons) (c_is_conflict : Cl P w K mg base 6 "is_conflict" sp_isConf) (c__law_any_fact : Cl P w K mg base 2 "_law_any_fact" sp_any) (c_find_conflict : Cl P w K mg base 6 "find_conflict" sp_findConf)
    (c_finest_list : Cl P w K mg base 7 "finest_list" sp_finest) (A : At K mg "_law_holds" "_law_holds" "_law_holds" s__law_holds []) : Cl P w K mg base 10 "_law_holds" sp_holds := by
  refine cl_of A sc__law_holds (fun _ _ _ _ _ _ us hl => match us, hl with | [_], _ => rfl) (fun vs H Q E h => ?_) (fun f cdv A outer s H vs Q E hr h => ?_)
  · obtain ⟨a, rfl, _⟩ := h
    rfl
  · obtain ⟨a, rfl, hs, q⟩ := h
    refine ⟨_, (pss_cons (ps_set (i := 1) sc__law_holds.nd rfl (Or.inl rfl) (pe_op op_add pe_int (pcl c__law_draw (hr.mono (by decide)) rfl (pa_cons (pv 0) (pa_cons pe_int pa_nil)))))
      (pss_cons (ps_set (i := 2) sc__law_holds.nd rfl (Or.inr rfl) (pcl c__law_symbols (hr.mono (by decide)) rfl (pa_cons (pv 0) (pa_cons (pv 1) (pa_cons (pe_op op_add pe_int (pcl c__law_draw (hr.mono (by decide)) rfl (pa_cons (pv 0) (pa_cons pe_int pa_nil)))) pa_nil)))))
      (pss_cons (ps_setLc (i := 3) (own := [("_law_k", 6)]) (g := gName 6)  (by rfl) sc__law_holds.nd rfl rfl (sw_true rfl rfl rfl (by decide +kernel)) (pi_range1 rfl T.b_range (pa_cons (pcl c__law_draw (hr.mono (by decide)) rfl (pa_cons (pv 0) (pa_cons pe_int pa_nil))) pa_nil)) (blkOk_by (own := [("_law_k", 6)]) (N := N__law_holds) (sc := defScope s__law_holds) (by decide +kernel)) (fun _ _ _ _ _ => (pg_name (i := 6) sc__law_holds.nd rfl (Or.inl rfl))) (fun _ _ _ _ _ => pts_nil) (fun _ _ _ _ _ => (pcl c__law_true_fact (hr.mono (by decide)) rfl (pa_cons (pv 0) (pa_cons (pv 2) pa_nil)))))
      (pss_cons (ps_setLc (i := 4) (own := [("_law_fact", 7)]) (g := gName 7)  (by rfl) sc__law_holds.nd rfl rfl (sw_true rfl rfl rfl (by decide +kernel)) (pi_list (pv 3)) (blkOk_by (own := [("_law_fact", 7)]) (N := N__law_holds) (sc := defScope s__law_holds) (by decide +kernel)) (fun _ _ _ _ _ => (pg_name (i := 7) sc__law_holds.nd rfl (Or.inl rfl))) (fun _ _ _ _ _ => (pts_one (pt_cmpR op_notN (pv 7) pe_non (nomark _)))) (fun _ _ _ _ _ => (pv 7)))
      (pss_cons (ps_if (PW.pt (pw_or (pt_not (pt_val (pcl c_is_consistent (hr.mono (by decide)) rfl (pa_cons (pv 1) (pa_cons (pv 4) pa_nil))))) (pw_or1 (pt_not (pt_val (pcl c__law_consistent_holds (hr.mono (by decide)) rfl (pa_cons (pv 0) (pa_cons (pv 1) (pa_cons (pv 4) (pa_cons (pv 2) pa_nil)))))))))) (pss_one (ps_ret pe_bl)) pss_nil)
      (pss_cons (ps_if (PW.pt (pw_or (pt_val (pcl c_is_conflict (hr.mono (by decide)) rfl (pa_cons (pv 1) (pa_cons (pv 4) (pa_cons (pe_tup (pa_cons (pe_lst pa_nil) (pa_cons pe_int pa_nil))) pa_nil))))) (pw_or1 (pt_val (pcl c_is_conflict (hr.mono (by decide)) rfl (pa_cons (pv 1) (pa_cons (pv 4) (pa_cons (pe_tup (pa_cons (pe_lst (pa_cons (pe_tup (pa_cons pe_int (pa_cons pe_int (pa_cons (pe_tup (pa_cons pe_str (pa_cons pe_int pa_nil))) pa_nil)))) pa_nil)) (pa_cons pe_int pa_nil))) pa_nil)))))))) (pss_one (ps_ret pe_bl)) pss_nil)
      (pss_cons (ps_set (i := 4) sc__law_holds.nd rfl (Or.inl rfl) (pe_op op_cat (pv 4) (pe_lst (pa_cons (pcl c__law_any_fact (hr.mono (by decide)) rfl (pa_cons (pv 0) (pa_cons (pv 1) pa_nil))) pa_nil))))
      (pss_cons (ps_set (i := 5) sc__law_holds.nd rfl (Or.inl rfl) (pcl c_find_conflict (hr.mono (by decide)) rfl (pa_cons (pv 1) (pa_cons (pv 4) pa_nil))))
      (pss_cons (ps_if (pt_val (pcl c_is_consistent (hr.mono (by decide)) rfl (pa_cons (pv 1) (pa_cons (pv 4) pa_nil)))) (pss_one (ps_ret (pe_and (pe_cmpR op_isN (pv 5) pe_non (nomark _)) (pe_one (pcl c__law_consistent_holds (hr.mono (by decide)) rfl (pa_cons (pv 0) (pa_cons (pv 1) (pa_cons (pv 4) (pa_cons pe_non pa_nil))))))))) pss_nil)
      (pss_cons (ps_if (PW.pt (pw_or (pt_cmpR op_isN (pv 5) pe_non (nomark _)) (pw_or1 (pt_cmpR op_notN (pcl c_finest_list (hr.mono (by decide)) rfl (pa_cons (pv 1) (pa_cons (pv 4) pa_nil))) pe_non (nomark _))))) (pss_one (ps_ret pe_bl)) pss_nil)
      (pss_cons (ps_if (pt_cmpR op_isnot_bl (pcl c_is_conflict (hr.mono (by decide)) rfl (pa_cons (pv 1) (pa_cons (pv 4) (pa_cons (pv 5) pa_nil)))) pe_bl (nomark _)) (pss_one (ps_ret pe_bl)) pss_nil)
      (pss_one (ps_ret (pe_cmpR op_is_bl (pcl c_is_conflict (hr.mono (by decide)) rfl (pa_cons (pv 1) (pa_cons (pv 4) (pa_cons (pe_tup (pa_cons (pe_lst pa_nil) (pa_cons (pe_ix ix_tup (pv 5) pe_int (fun _ _ => rfl)) pa_nil))) pa_nil)))) pe_bl (nomark _))))))))))))))), ?_⟩
    refine q_td (td_inc (td_draw (m := 14) hs (ev_var rfl) ev_c (by decide) (by decide))) fun v H1 f1 s1 r1 => ?_
    obtain ⟨n0, rfl, hn0⟩ := r1
    refine q_td (td_sym3 (a := a) (n := n0 + 1) (m := 6) (fun _ => ev_var rfl) (fun _ => ev_var rfl) (fun G g => td_inc (td_draw (m := 6) (s1.mono g) (ev_var rfl) ev_c (by decide) (by decide))) (by omega) (by omega) (by omega)) fun v H2 f2 s2 r2 => ?_
    obtain ⟨sy, S, rfl, hsy, hsy2, hS⟩ := r2
    have nsy : sy ≠ a := fun z => by
      obtain ⟨x, y, h⟩ := s1
      rw [z, h] at hsy
      cases hsy
    generalize hn : n0 + 1 = n at hS
    have n1 : 1 ≤ n := by omega
    have n60 : n ≤ 60 := by omega
    refine q_td (td_some (a := a) (s := sy) (S := S) s2 (fun Q' q' => td_draw (m := 11) s2 (ev_var rfl) ev_c (by decide) (by decide) _ fun v H3 f3 s3 r3 => ?_) (fun _ => rfl) nsy hsy2 (by omega) (by omega) (fun _ _ => ev_var rfl) (fun _ _ => ev_var rfl)) fun v H3 f3 s3 r3 => ?_
    · obtain ⟨r, rfl, hr⟩ := r3
      exact q' _ H3 f3 s3 ⟨r, rfl, by omega, by omega⟩
    obtain ⟨Dl, acc, rfl, _, hDl, hacc, hall⟩ := r3
    rw [hS] at hall
    subst hS
    have f03 := (f1.trans f2).trans f3
    have hsy3 := f3 _ _ nsy hsy2
    refine Go.here (go_setP (tk_facts (K := K) (a := a) (S := S) s3 (ev_var rfl) hDl hacc hall (fun _ => rfl) (fun _ _ => Evl.et_test (ev_op (ev_var rfl) ev_c rv_notN)) (fun _ _ => ev_var rfl)) fun v H4 e4 r4 => ?_)
    obtain ⟨l, fs, rfl, hO, hfl, ok, sat⟩ := r4
    have c := cons_of_sat sat
    have s4 := s3.mono e4
    have f04 := f03.trans (FrP.of e4)
    have hsym : SymO a S.length fs H4 (.ref sy) := .inr ⟨sy, S, rfl, nsy, e4 _ _ hsy3, rfl, sat⟩
    intro H5 e5
    have s5 := s4.mono e5
    have hO5 := hO.fr (FrP.of e5) s4
    refine q_tdif (tdt_orF (tdt_of s5 (Evl.et_is (Evl.et_not (Evl.et_B (ev_call (by walk_at "ev") (v_isCons n1 n60 hO5.at (by omega) ok)))) (by rw [bP_true c]; rfl))) fun H6 f6 s6 => tdt_notB (td_cons s6 (ev_var rfl) (ev_var rfl) (ev_var rfl) (ev_var rfl) n1 n60 (hO5.fr f6 s5) (by omega) ok c (hsym.fr ((FrP.of e5).trans f6)))) (fun H6 f6 s6 z => nomatch z) (fun H6 f6 s6 _ => ?_)
    have f06 := (f04.trans (FrP.of e5)).trans f6
    have hO6 := hO5.fr f6 s5
    have hF6 := hO6.at
    refine Go.here (go_skip (b := false) (et_orU (a := false) (Evl.et_is (Evl.et_B (ev_conf (ss := []) n1 n60 hF6 (by omega) ok (ev_var rfl) (ev_var rfl) (by simp) (tk_noSteps (j := 0) ev_c))) (bP_false no_conf0)) (Evl.et_is (Evl.et_B (ev_conf n1 n60 hF6 (by omega) ok (ev_var rfl) (ev_var rfl) (by simp) tk_oneStep)) (bP_false (no_conf c)))) rfl ?_)
    intro H7 e7
    refine q_td (td_catA (n := S.length) (s6.mono e7) (ev_var rfl) (fun G g => td_lst1 (td_any ((s6.mono e7).mono g) (ev_var rfl) (ev_var rfl) n1 n60)) (hO6.fr (FrP.of e7) s6) (by omega)) fun v H8 f8 s8 r8 => ?_
    obtain ⟨l2, g, rfl, okg, hO8⟩ := r8
    have f08 := (f06.trans (FrP.of e7)).trans f8
    have ok2 : ∀ f ∈ fs ++ [g], f.Ok S.length := fun f hf => by
      rcases List.mem_append.mp hf with h | h
      · exact ok f h
      · rw [List.mem_singleton.mp h]; exact okg
    have len2 : (fs ++ [g]).length ≤ 12 := by rw [List.length_append]; show fs.length + 1 ≤ 12; omega
    generalize fs ++ [g] = gs at hO8 ok2 len2
    refine Go.here (go_setP (tk_call (by walk_at "ev") (v_findConf n1 n60 hO8.at (by omega) ok2)) fun v H9 e9 r9 => ?_)
    have s9 := s8.mono e9
    have hO9 := hO8.fr (FrP.of e9) s8
    have f09 := f08.trans (FrP.of e9)
    rcases r9 with ⟨c2, rfl⟩ | ⟨c2, t, l9, j, x, y, f9, rfl, _, ht, hj, hd, us, ss, _, hl9, hss, va, lk, lz⟩
    · refine go_take (b := true) (Evl.et_is (Evl.et_B (ev_call (by walk_at "ev") (v_isCons n1 n60 hO9.at (by omega) ok2))) (bP_true c2)) rfl fun H10 e10 => ?_
      refine q_tdret (td_andT (a := a) (Evl.ev_is (ev_op (ev_var rfl) ev_c rv_isN) rfl) fun G g => td_cons ((s9.mono e10).mono g) (ev_var rfl) (ev_var rfl) (ev_var rfl) ev_c n1 n60 (hO9.fr (FrP.of (e10.trans g)) s9) (by omega) ok2 c2 (.inl rfl)) fun v H11 f11 s11 r11 => ?_
      rw [r11]
      exact q H11 ((f09.trans (FrP.of e10)).trans f11) s11
    · refine go_skip (b := false) (Evl.et_is (Evl.et_B (ev_call (by walk_at "ev") (v_isCons n1 n60 hO9.at (by omega) ok2))) (bP_false c2)) rfl ?_
      refine go_skip (b := false) (et_orU (a := false) (Evl.et_is (Evl.et_test (ev_op (ev_var rfl) ev_c rv_isN)) (by rfl)) (Evl.et_test (Tk.ev ((tk_notN (tk_call (by walk_at "ev") (v_finest n1 n60 hO9.at (by omega) ok2))).imp fun v H10 e10 r => ?_)))) rfl ?_
      · obtain ⟨u, H11, _, _, r, rfl⟩ := r
        rcases r with ⟨c3, _⟩ | ⟨_, rfl⟩
        · exact absurd c3 c2
        · rfl
      refine go_skip (b := false) (Evl.et_is (Evl.et_test (ev_op (ev_call (by walk_at "ev") (v_isConf n1 n60 hO9.at (by omega) ok2 ht hl9 hss lz)) ev_c rv_isnotB)) (by rw [bP_true (is_conf hj hd va lk)]; rfl)) rfl ?_
      refine go_ret (Evl.ev_is (ev_op (ev_conf (ss := []) (j := j) n1 n60 hO9.at (by omega) ok2 (ev_var rfl) (ev_var rfl) (by simp) (tk_noSteps (j := j) (ev_op (ev_var rfl) ev_c (Evl.rv_ixT (Evl.st_of ht) rfl)))) ev_c rv_isB) (by rw [bP_false no_conf0]; rfl)) fun H10 e10 => q H10 (f09.trans (FrP.of e10)) (s9.mono e10)
end
end Hfb
namespace Hfb
open PySem PySem.Spec PyProof.Rows L2
open Evl (Ex Ev EvT EvA EvL EvU ev_op ev_var ev_c ev_call ea_cons ea_nil)
section
variable {P : Program} {w : World} {K : PySem.W.Frag} {mg : Str → Option Value} {base : Heap} {H : Hp}
local macro_rules | `(tactic| walk_at "spv") => `(tactic| first | exact v_isInt | exact v_isIntD | exact v_twoPos | exact v_isSeq (.t (by assumption)) | exact v_isSeq (.l (by assumption)) | exact v_isDist (by assumption) (by omega))
local macro_rules | `(tactic| walk_at "rv") => `(tactic| first
  | with_reducible exact Evl.rv_I0
  | ((with_reducible refine Evl.rv_eq ?_); rfl)
  | ((with_reducible refine Evl.rv_ne ?_); rfl)
  | ((with_reducible apply Evl.rv_ixT); (first | assumption | exact Evl.st_of (by assumption)); (first | rfl | assumption))
  | ((with_reducible apply Evl.rv_ixL); (first | assumption | exact Evl.sq_of (by assumption)); (first | rfl | assumption))
  | exact isi_int
  | exact isi_bool
  | exact isi_str
  | exact rc_max
  | exact rc_min
  | (apply rc_lenL; first | assumption | exact Evl.sq_of (by assumption))
  | (apply rc_lenT; first | assumption | exact Evl.st_of (by assumption))
  | walk_at "fld"
  | walk_at "spv")
local macro_rules | `(tactic| walk_at "ev") => `(tactic| first
  | ((with_reducible apply Evl.ev_var); rfl)
  | with_reducible exact Evl.ev_c
  | with_reducible exact Evl.ea_nil
  | ((with_reducible apply Evl.ea_cons) <;> walk_at "ev")
  | ((with_reducible apply Evl.ev_op) <;> walk_at "ev")
  | ((with_reducible apply ev_chain) <;> walk_at "ev")
  | ((with_reducible apply Evl.ev_cb) <;> walk_at "ev")
  | ((with_reducible apply Evl.ev_call) <;> walk_at "ev")
  | ((with_reducible apply Evl.ev_notV) <;> walk_at "ev")
  | ((with_reducible apply ev_andU) <;> walk_at "ev")
  | ((with_reducible apply ev_orU) <;> walk_at "ev")
  | ((with_reducible apply Evl.et_B) <;> walk_at "ev")
  | ((with_reducible apply Evl.et_test) <;> walk_at "ev")
  | ((with_reducible apply Evl.et_not) <;> walk_at "ev")
  | ((with_reducible apply et_andU) <;> walk_at "ev")
  | ((with_reducible apply et_orU) <;> walk_at "ev")
  | walk_at "rv")
/-! ### the law -/
theorem cut_ints (ns : List Int) (lo hi : Option Int) : ∃ ms : List Int, cutV (ns.map V.int) lo hi = ms.map V.int ∧ ms.length ≤ ns.length := by
  unfold cutV
  rw [List.length_map, ← List.map_drop, ← List.map_take]
  refine ⟨_, rfl, ?_⟩
  rw [List.length_take, List.length_drop]
  omega
section
variable {σ : L2.St} {ta tb te t1 t2 : TE}
theorem tk_catI {ns ms : List Int} (h1 : Tk ta σ H (IsIL ns)) (h2 : Tk tb σ H (IsIL ms)) (hz : ns.length + ms.length ≤ 100000) : Tk (tOp rCat ta tb) σ H (IsIL (ns ++ ms)) := fun H1 e Q q =>
  h1 H1 e _ fun v H2 e2 r => h2 H2 (e.trans e2) _ fun u H3 e3 r3 => by
    obtain ⟨l, rfl, hl⟩ := r
    obtain ⟨b, rfl, hb⟩ := r3
    refine ⟨l, b, _, _, rfl, rfl, e3 _ _ hl, hb, Evl.sz_of (by rw [List.length_map, List.length_map]; exact hz), fun c hc => q _ _ ((e2.trans e3).trans (Ex.new hc)) ⟨c, rfl, ?_⟩⟩
    rw [upd_same, List.map_append]
theorem tk_slI {tl th : TO} {ns : List Int} {lo hi : Option Int} (h : Tk te σ H (IsIL ns)) (h1 : Evl.EvO tl σ H lo) (h2 : Evl.EvO th σ H hi) : Tk (tSl (rSlL K) te tl th) σ H (fun v H' => ∃ ms : List Int, ms.length ≤ ns.length ∧ IsIL ms v H') := fun H1 e Q q =>
  h H1 e _ fun v H2 e2 r => h1 H2 (e.trans e2) _ fun H3 e3 => h2 H3 ((e.trans e2).trans e3) _ fun H4 e4 => by
    obtain ⟨a, rfl, ha⟩ := r
    obtain ⟨ms, hm, hml⟩ := cut_ints ns lo hi
    refine ⟨a, ns.map V.int, rfl, Evl.sq_of (e4 _ _ (e3 _ _ ha)), fun p hp => q _ _ (((e2.trans e3).trans e4).trans (Ex.new hp)) ⟨ms, hml, p, rfl, ?_⟩⟩
    rw [upd_same, hm]
theorem ev_holds {c k : Int} (h1 : Ev t1 σ H (.int c)) (h2 : Ev t2 σ H (.int k)) : Ev (tCall sp_holds [] E0 (tCons (tCall sp_stream [] E0 (tCons t1 (tCons t2 tNil))) tNil)) σ H (.bl true) := by
  have h : ∀ G, Ex H G → Tk (tCall sp_stream [] E0 (tCons t1 (tCons t2 tNil))) σ G (NewStr G) := fun G g => tk_call (ea_cons (fun H1 e => h1 H1 (g.trans e)) (ea_cons (fun H1 e => h2 H1 (g.trans e)) ea_nil)) v_stream
  generalize tCall sp_stream [] E0 (tCons t1 (tCons t2 tNil)) = ts at h
  exact fun H1 e Q q => h H1 e H1 (Ex.refl _) _ fun v H2 e2 r => by
    obtain ⟨a, rfl, ha, hs⟩ := r
    exact ⟨a, rfl, hs, fun H3 f s => q H3 (fun b o hb => f b o (fun z => by rw [z, ha] at hb; cases hb) (e2 b o hb))⟩
end
def spLaw (K : PySem.W.Frag) : Sp := fun vs H Q _ => ∃ (a : Addr) (ns : List Int), vs = [.ref a] ∧ SqL K H a (ns.map V.int) ∧ ns.length ≤ 63 ∧ Only H ∧ ∀ H', Q (.bl true) H'
theorem ok_law {f0 : Addr} {fd : FuncData} (T : Tx K mg) (c__law_holds : Cl P w K mg base 10 "_law_holds" sp_holds) (c__law_stream : Cl P w K mg base 1 "_law_stream" sp_stream) (F : FunD K "law" "law" (defArgs s_law) (defBody s_law) (defScope s_law) [] [] f0 fd) : FnOk P w K mg base CX0 20 f0 fd ["_law_script"] (spLaw K) := by
  have hb : BodyP P w K mg base "law" s_law N_law 10 (spLaw K) := fun f cdv A outer s H vs Q E hr h => by
    obtain ⟨a, ns, rfl, ha, hl, _, q⟩ := h
    refine ⟨_, (pss_cons (ps_set (i := 1) sc_law.nd rfl (Or.inl rfl) (pe_slice sl_list (pe_op op_cat (pe_slice sl_list (pv 0) po_none (po_some pe_int)) (pe_lst (pa_cons pe_int pa_nil))) po_none (po_some (pe_callB (call_max2 rfl) rfl T.b_max (by decide +kernel) (pa_cons pe_int (pa_cons (pe_callB (call_min2 rfl) rfl T.b_min (by decide +kernel) (pa_cons pe_int (pa_cons (pe_callB call_len_seq rfl T.b_len (by decide +kernel) (pa_cons (pv 0) pa_nil)) pa_nil))) pa_nil))))))
      (pss_one (ps_ret (pe_cmpR (op_eqD hr.units) (pe_lc (own := [("_law_k", 2), ("_law_cell", 3)]) (g := gTup K 2 (gCons (gName 2) (gCons (gName 3) gNil))) (by rfl) sc_law.nd (pi_enum rfl T.b_enumerate (pa_cons (pv 1) pa_nil)) (blkOk_by (own := [("_law_k", 2), ("_law_cell", 3)]) (N := N_law) (sc := defScope s_law) (by decide +kernel)) (fun _ _ _ _ _ => (pg_tup (by rfl) (pgs_cons (pg_name (i := 2) sc_law.nd rfl (Or.inl rfl)) (pgs_cons (pg_name (i := 3) sc_law.nd rfl (Or.inl rfl)) pgs_nil)))) (fun _ _ _ _ _ => (pts_one (pt_not (pt_val (pcl c__law_holds (hr.mono (by decide)) rfl (pa_cons (pcl c__law_stream (hr.mono (by decide)) rfl (pa_cons (pv 3) (pa_cons (pv 2) pa_nil))) pa_nil)))))) (fun _ _ _ _ _ => (pv 2))) (pe_lst pa_nil) (nomark _))))), ?_⟩
    obtain ⟨ms, hm, hml⟩ := cut_ints ns none (some 6)
    refine Go.here (go_setP (tk_slI (K := K) (ns := ms ++ [0]) (lo := none) (hi := some (max 1 (min 6 ((ns.map V.int).length : Int)))) (tk_catI (ns := ms) (ms := [0]) (Tk.imp (tk_L (Evl.el_sl (ev_var rfl) Evl.eo_none (Evl.eo_some ev_c) ha)) fun v H2 e r => ?_) (Tk.imp (tk_lst (vs := [.int 0]) (ea_cons ev_c ea_nil) (by simp)) fun v H2 e r => ?_) ?_) Evl.eo_none (Evl.eo_some (Evl.ev_cb (ea_cons ev_c (ea_cons (Evl.ev_cb (ea_cons ev_c (ea_cons (Evl.ev_cb (ea_cons (ev_var rfl) ea_nil) (rc_lenL ha)) ea_nil)) rc_min) ea_nil)) rc_max))) fun v1 H1 e1 r1 => ?_)
    · obtain ⟨p, rfl, _, h2⟩ := r
      exact ⟨p, rfl, by rw [← hm]; exact h2⟩
    · obtain ⟨p, rfl, _, h2⟩ := r
      exact ⟨p, rfl, h2⟩
    · show ms.length + 1 ≤ 100000
      omega
    obtain ⟨cs, hcl, c, rfl, hc⟩ := r1
    rw [List.length_append] at hcl
    have hcl : cs.length ≤ ms.length + 1 := hcl
    refine go_ret (Evl.ev_is (ev_eqLL (K := K) (ns := []) (ms := []) (Tk.imp (tk_lcE (K := K) (ea_cons (ev_var rfl) ea_nil) (Evl.sq_of hc) (by rw [List.length_map]; omega) (fun i acc _ => acc = []) (fun _ _ _ _ _ h => h) (fun _ _ => rfl) (fun _ _ => rfl) (fun i x acc H2 e2 hi hG => ?_)) fun v H2 e2 r => ?_) (Tk.imp (tk_lst ea_nil (by simp)) fun v H2 e2 r => ?_)) (by rfl)) fun H2 e2 => q H2
    · rw [List.getElem?_map] at hi
      obtain ⟨x, _, rfl⟩ := Option.map_eq_some_iff.mp hi
      exact ⟨false, Evl.et_is (Evl.et_not (Evl.et_B (ev_holds (ev_var rfl) (ev_var rfl)))) rfl, fun _ => hG, fun z => nomatch z⟩
    · obtain ⟨p, acc, rfl, _, h1, rfl⟩ := r
      exact ⟨p, rfl, h1⟩
    · obtain ⟨p, rfl, _, h1⟩ := r
      exact ⟨p, rfl, h1⟩
  refine FnOk.mono (F.ok sc_law (fun vs H Q E h => ?_) fun cdv A outer s H vs Q E hr h => ?_) (by decide : 11 ≤ 20)
  · obtain ⟨a, ns, rfl, _⟩ := h
    rfl
  · obtain ⟨t, h1, h2⟩ := hb _ cdv A outer s H vs Q E hr h
    exact ⟨t, h1.nox, h2⟩
end
end Hfb
namespace Hfb
open PySem PySem.Spec PyProof.Rows L2
def d_is_integer_distances : He.DefD := ⟨("is_integer_distances", none), "is_integer", "is_integer", defArgs s_is_integer_distances, defBody s_is_integer_distances, defScope s_is_integer_distances, [.non], []⟩
def d_is_sequence_distances : He.DefD := ⟨("is_sequence_distances", none), "is_sequence", "is_sequence", defArgs s_is_sequence_distances, defBody s_is_sequence_distances, defScope s_is_sequence_distances, [], []⟩
def d_is_distances : He.DefD := ⟨("is_distances", none), "is_distances", "is_distances", defArgs s_is_distances, defBody s_is_distances, defScope s_is_distances, [], []⟩
def d_is_integer_facts : He.DefD := ⟨("is_integer_facts", none), "is_integer", "is_integer", defArgs s_is_integer_facts, defBody s_is_integer_facts, defScope s_is_integer_facts, [], []⟩
def d_is_sequence_facts : He.DefD := ⟨("is_sequence_facts", none), "is_sequence", "is_sequence", defArgs s_is_sequence_facts, defBody s_is_sequence_facts, defScope s_is_sequence_facts, [], []⟩
def d_check_size : He.DefD := ⟨("check_size", none), "check_size", "check_size", defArgs s_check_size, defBody s_check_size, defScope s_check_size, [], []⟩
def d_are_two_positions : He.DefD := ⟨("are_two_positions", none), "are_two_positions", "are_two_positions", defArgs s_are_two_positions, defBody s_are_two_positions, defScope s_are_two_positions, [], []⟩
def d_is_fact_of : He.DefD := ⟨("is_fact_of", none), "is_fact_of", "is_fact_of", defArgs s_is_fact_of, defBody s_is_fact_of, defScope s_is_fact_of, [], []⟩
def d_checked_facts : He.DefD := ⟨("checked_facts", none), "checked_facts", "checked_facts", defArgs s_checked_facts, defBody s_checked_facts, defScope s_checked_facts, [], []⟩
def d_check_positions : He.DefD := ⟨("check_positions", none), "check_positions", "check_positions", defArgs s_check_positions, defBody s_check_positions, defScope s_check_positions, [], []⟩
def d_distances_by : He.DefD := ⟨("distances_by", none), "distances_by", "distances_by", defArgs s_distances_by, defBody s_distances_by, defScope s_distances_by, [], []⟩
def d_linked_offsets : He.DefD := ⟨("linked_offsets", none), "linked_offsets", "linked_offsets", defArgs s_linked_offsets, defBody s_linked_offsets, defScope s_linked_offsets, [], []⟩
def d_representatives : He.DefD := ⟨("representatives", none), "representatives", "representatives", defArgs s_representatives, defBody s_representatives, defScope s_representatives, [], []⟩
def d_Partition___init__ : He.DefD := ⟨("Partition", some "__init__"), "__init__", "Partition.__init__", defArgs s_Partition___init__, defBody s_Partition___init__, defScope s_Partition___init__, [], []⟩
def d_Partition_merge : He.DefD := ⟨("Partition", some "merge"), "merge", "Partition.merge", defArgs s_Partition_merge, defBody s_Partition_merge, defScope s_Partition_merge, [], []⟩
def d_Partition_copy_links : He.DefD := ⟨("Partition", some "copy_links"), "copy_links", "Partition.copy_links", defArgs s_Partition_copy_links, defBody s_Partition_copy_links, defScope s_Partition_copy_links, [], []⟩
def d_Partition_copy_both_ways : He.DefD := ⟨("Partition", some "copy_both_ways"), "copy_both_ways", "Partition.copy_both_ways", defArgs s_Partition_copy_both_ways, defBody s_Partition_copy_both_ways, defScope s_Partition_copy_both_ways, [], []⟩
def d_Partition_are_equal : He.DefD := ⟨("Partition", some "are_equal"), "are_equal", "Partition.are_equal", defArgs s_Partition_are_equal, defBody s_Partition_are_equal, defScope s_Partition_are_equal, [], []⟩
def d_Partition_distances : He.DefD := ⟨("Partition", some "distances"), "distances", "Partition.distances", defArgs s_Partition_distances, defBody s_Partition_distances, defScope s_Partition_distances, [], []⟩
def d_window_symbols : He.DefD := ⟨("window_symbols", none), "window_symbols", "window_symbols", defArgs s_window_symbols, defBody s_window_symbols, defScope s_window_symbols, [], []⟩
def d_states_different : He.DefD := ⟨("states_different", none), "states_different", "states_different", defArgs s_states_different, defBody s_states_different, defScope s_states_different, [], []⟩
def d_violated_pair : He.DefD := ⟨("violated_pair", none), "violated_pair", "violated_pair", defArgs s_violated_pair, defBody s_violated_pair, defScope s_violated_pair, [], []⟩
def d_consistent_partition : He.DefD := ⟨("consistent_partition", none), "consistent_partition", "consistent_partition", defArgs s_consistent_partition, defBody s_consistent_partition, defScope s_consistent_partition, [], []⟩
def d_is_consistent : He.DefD := ⟨("is_consistent", none), "is_consistent", "is_consistent", defArgs s_is_consistent, defBody s_is_consistent, defScope s_is_consistent, [], []⟩
def d_finest_list : He.DefD := ⟨("finest_list", none), "finest_list", "finest_list", defArgs s_finest_list, defBody s_finest_list, defScope s_finest_list, [], []⟩
def d_relation : He.DefD := ⟨("relation", none), "relation", "relation", defArgs s_relation, defBody s_relation, defScope s_relation, [], []⟩
def d_pair_key : He.DefD := ⟨("pair_key", none), "pair_key", "pair_key", defArgs s_pair_key, defBody s_pair_key, defScope s_pair_key, [], []⟩
def d_states_same : He.DefD := ⟨("states_same", none), "states_same", "states_same", defArgs s_states_same, defBody s_states_same, defScope s_states_same, [], []⟩
def d_copies : He.DefD := ⟨("copies", none), "copies", "copies", defArgs s_copies, defBody s_copies, defScope s_copies, [], []⟩
def d_is_valid_step : He.DefD := ⟨("is_valid_step", none), "is_valid_step", "is_valid_step", defArgs s_is_valid_step, defBody s_is_valid_step, defScope s_is_valid_step, [], []⟩
def d_shown_pair : He.DefD := ⟨("shown_pair", none), "shown_pair", "shown_pair", defArgs s_shown_pair, defBody s_shown_pair, defScope s_shown_pair, [], []⟩
def d_is_derivation : He.DefD := ⟨("is_derivation", none), "is_derivation", "is_derivation", defArgs s_is_derivation, defBody s_is_derivation, defScope s_is_derivation, [], []⟩
def d_Derivation___init__ : He.DefD := ⟨("Derivation", some "__init__"), "__init__", "Derivation.__init__", defArgs s_Derivation___init__, defBody s_Derivation___init__, defScope s_Derivation___init__, [], []⟩
def d_Derivation_add : He.DefD := ⟨("Derivation", some "add"), "add", "Derivation.add", defArgs s_Derivation_add, defBody s_Derivation_add, defScope s_Derivation_add, [], []⟩
def d_Derivation_extend : He.DefD := ⟨("Derivation", some "extend"), "extend", "Derivation.extend", defArgs s_Derivation_extend, defBody s_Derivation_extend, defScope s_Derivation_extend, [], []⟩
def d_Derivation_steps_for : He.DefD := ⟨("Derivation", some "steps_for"), "steps_for", "Derivation.steps_for", defArgs s_Derivation_steps_for, defBody s_Derivation_steps_for, defScope s_Derivation_steps_for, [], []⟩
def d_stated_pairs : He.DefD := ⟨("stated_pairs", none), "stated_pairs", "stated_pairs", defArgs s_stated_pairs, defBody s_stated_pairs, defScope s_stated_pairs, [], []⟩
def d_find_derivation : He.DefD := ⟨("find_derivation", none), "find_derivation", "find_derivation", defArgs s_find_derivation, defBody s_find_derivation, defScope s_find_derivation, [], []⟩
def d_find_conflict : He.DefD := ⟨("find_conflict", none), "find_conflict", "find_conflict", defArgs s_find_conflict, defBody s_find_conflict, defScope s_find_conflict, [], []⟩
def d_is_conflict : He.DefD := ⟨("is_conflict", none), "is_conflict", "is_conflict", defArgs s_is_conflict, defBody s_is_conflict, defScope s_is_conflict, [], []⟩
def d__law_stream : He.DefD := ⟨("_law_stream", none), "_law_stream", "_law_stream", defArgs s__law_stream, defBody s__law_stream, defScope s__law_stream, [], []⟩
def d__law_draw : He.DefD := ⟨("_law_draw", none), "_law_draw", "_law_draw", defArgs s__law_draw, defBody s__law_draw, defScope s__law_draw, [], []⟩
def d__law_distances : He.DefD := ⟨("_law_distances", none), "_law_distances", "_law_distances", defArgs s__law_distances, defBody s__law_distances, defScope s__law_distances, [], []⟩
def d__law_symbols : He.DefD := ⟨("_law_symbols", none), "_law_symbols", "_law_symbols", defArgs s__law_symbols, defBody s__law_symbols, defScope s__law_symbols, [], []⟩
def d__law_ids : He.DefD := ⟨("_law_ids", none), "_law_ids", "_law_ids", defArgs s__law_ids, defBody s__law_ids, defScope s__law_ids, [], []⟩
def d__law_window : He.DefD := ⟨("_law_window", none), "_law_window", "_law_window", defArgs s__law_window, defBody s__law_window, defScope s__law_window, [], []⟩
def d__law_true_fact : He.DefD := ⟨("_law_true_fact", none), "_law_true_fact", "_law_true_fact", defArgs s__law_true_fact, defBody s__law_true_fact, defScope s__law_true_fact, [], []⟩
def d__law_satisfied : He.DefD := ⟨("_law_satisfied", none), "_law_satisfied", "_law_satisfied", defArgs s__law_satisfied, defBody s__law_satisfied, defScope s__law_satisfied, [], []⟩
def d__law_all_satisfied : He.DefD := ⟨("_law_all_satisfied", none), "_law_all_satisfied", "_law_all_satisfied", defArgs s__law_all_satisfied, defBody s__law_all_satisfied, defScope s__law_all_satisfied, [], []⟩
def d__law_pair_holds : He.DefD := ⟨("_law_pair_holds", none), "_law_pair_holds", "_law_pair_holds", defArgs s__law_pair_holds, defBody s__law_pair_holds, defScope s__law_pair_holds, [], []⟩
def d__law_consistent_holds : He.DefD := ⟨("_law_consistent_holds", none), "_law_consistent_holds", "_law_consistent_holds", defArgs s__law_consistent_holds, defBody s__law_consistent_holds, defScope s__law_consistent_holds, [], []⟩
def d__law_any_fact : He.DefD := ⟨("_law_any_fact", none), "_law_any_fact", "_law_any_fact", defArgs s__law_any_fact, defBody s__law_any_fact, defScope s__law_any_fact, [], []⟩
def d__law_holds : He.DefD := ⟨("_law_holds", none), "_law_holds", "_law_holds", defArgs s__law_holds, defBody s__law_holds, defScope s__law_holds, [], []⟩
def d_law : He.DefD := ⟨("law", none), "law", "law", defArgs s_law, defBody s_law, defScope s_law, [], []⟩
def fnA : List He.DefD := [d_is_integer_distances, d_is_sequence_distances, d_is_distances, d_is_integer_facts, d_is_sequence_facts, d_check_size, d_are_two_positions, d_is_fact_of, d_checked_facts, d_check_positions, d_distances_by, d_linked_offsets, d_representatives, d_Partition___init__, d_Partition_merge, d_Partition_copy_links, d_Partition_copy_both_ways, d_Partition_are_equal, d_Partition_distances, d_window_symbols] ++ [d_states_different, d_violated_pair, d_consistent_partition, d_is_consistent, d_finest_list, d_relation, d_pair_key, d_states_same, d_copies, d_is_valid_step, d_shown_pair, d_is_derivation, d_Derivation___init__, d_Derivation_add, d_Derivation_extend, d_Derivation_steps_for, d_stated_pairs, d_find_derivation, d_find_conflict, d_is_conflict] ++ [d__law_stream, d__law_draw, d__law_distances, d__law_symbols, d__law_ids, d__law_window, d__law_true_fact, d__law_satisfied, d__law_all_satisfied, d__law_pair_holds, d__law_consistent_holds, d__law_any_fact, d__law_holds, d_law]
def fa0 : List He.Fa := [.glo "is_integer_distances", .glo "is_sequence_distances", .glo "is_distances", .glo "is_integer_facts", .glo "is_sequence_facts", .glo "check_size", .glo "are_two_positions", .glo "is_fact_of", .glo "checked_facts", .glo "check_positions", .glo "distances_by", .glo "linked_offsets", .glo "representatives", .glo "window_symbols", .glo "states_different", .glo "violated_pair", .glo "consistent_partition", .glo "is_consistent", .glo "finest_list", .glo "relation", .glo "pair_key", .glo "states_same", .glo "copies", .glo "is_valid_step", .glo "shown_pair", .glo "is_derivation", .glo "stated_pairs", .glo "find_derivation", .glo "find_conflict", .glo "is_conflict"]
def fa1 : List He.Fa := [.glo "_law_stream", .glo "_law_draw", .glo "_law_distances", .glo "_law_symbols", .glo "_law_ids", .glo "_law_window", .glo "_law_true_fact", .glo "_law_satisfied", .glo "_law_all_satisfied", .glo "_law_pair_holds", .glo "_law_consistent_holds", .glo "_law_any_fact", .glo "_law_holds", .glo "law", .free "isinstance", .free "int", .free "bool", .free "list", .free "tuple", .free "str", .free "len", .free "all", .free "any", .free "enumerate", .free "set", .free "sorted", .free "range", .free "max", .free "min", .free "abs"]
def fa2 : List He.Fa := [.int "MAX_POSITIONS" 400, .str "SAME" "same", .str "DIFFERENT" "different", .str "EQUIVALENT" "equivalent", .str "WINDOW" "window", .str "UNKNOWN" "unknown", .int "MAX_SIZE" 60, .int "MAX_FACTS" 40, .str "FACT" "fact", .str "CHAIN" "chain", .str "COPY" "copy", .glo "Partition", .cls "Partition", .mkr "Partition", .noat "Partition" "leaders", .meth "Partition" "merge", .meth "Partition" "copy_links", .meth "Partition" "copy_both_ways", .meth "Partition" "are_equal", .meth "Partition" "distances", .glo "Derivation", .cls "Derivation", .mkr "Derivation", .noat "Derivation" "steps", .noat "Derivation" "uses", .noat "Derivation" "queue", .noat "Derivation" "partners", .meth "Derivation" "add", .meth "Derivation" "extend", .meth "Derivation" "steps_for"]
def faA : List He.Fa := fa0 ++ fa1 ++ fa2
def lo0 : List Str := ["HowFarBackError", "InvalidPosition", "InvalidNumber", "InvalidFacts", "Inconsistent", "MAX_POSITIONS", "is_integer", "is_integer_distances", "is_sequence", "is_sequence_distances", "is_distances", "SAME", "DIFFERENT", "EQUIVALENT", "WINDOW", "UNKNOWN", "MAX_SIZE", "MAX_FACTS", "is_integer_facts", "is_sequence_facts", "check_size", "are_two_positions", "is_fact_of", "checked_facts", "check_positions", "distances_by", "linked_offsets", "representatives", "Partition", "window_symbols"]
def lo1 : List Str := ["states_different", "violated_pair", "consistent_partition", "is_consistent", "finest_list", "relation", "FACT", "CHAIN", "COPY", "pair_key", "states_same", "copies", "is_valid_step", "shown_pair", "is_derivation", "Derivation", "stated_pairs", "find_derivation", "find_conflict", "is_conflict", "_law_stream", "_law_draw", "_law_distances", "_law_symbols", "_law_ids", "_law_symbol_count", "_law_window", "_law_true_fact", "_law_satisfied", "_law_all_satisfied"]
def lo2 : List Str := ["_law_pair_holds", "_law_consistent_holds", "_law_any_fact", "_law_holds"]
def loA : List Str := lo0 ++ lo1 ++ lo2
abbrev RR : PySem.W.OpenRow := PySem.W.OpenLaw.row PySem.Challenge.rw_howfarback_k63_whole_facts_and_derivatio
abbrev hkA : PySem.W.Hook := He.hookD 5 faA fnA
def obA (s : PySem.W.SharedT) : He.AlD := He.obsDG 5 faA fnA (HandSHeadRun.getT s)
theorem obA_eq (s : PySem.W.SharedT) : obA s = hkA.obs s.abs := He.obsDG_eq (HandSHeadRun.getT_eq s)
theorem runA (w : World) : HandSHeadRun.RunEq RR (PySem.W.view RR.prog [71]) hkA obA 30000 loA w := by
  intro os
  kernel_rfl
end Hfb
namespace Hfb
open PySem PySem.Spec PyProof.Rows L2
section
variable {P : Program} {w : World} {K : PySem.W.Frag} {h : Heap} {mg : Str → Option Value} {f : Addr}
theorem k_str (X : K.In h) (G : h.Ns mainGlobals mg) {x z : Str} (c : (He.Fa.str x z).ok K = true) : Kst mg x (.str z) := by
  obtain ⟨t, e⟩ := He.str_ok X G c
  exact ⟨_, e, _, rfl⟩
theorem k_int (X : K.In h) (G : h.Ns mainGlobals mg) {x : Str} {i : Int} (c : (He.Fa.int x i).ok K = true) : Kst mg x (.int i) := by
  obtain ⟨t, e⟩ := He.int_ok X G c
  exact ⟨_, e, _, rfl⟩
theorem tx_of (X : K.In h) (G : h.Ns mainGlobals mg) (c : He.SaysD faA fnA K) : Tx K mg where
  b_isinstance := He.free_ok X G (c.fact 44 (f := .free "isinstance") rfl)
  b_int := He.free_ok X G (c.fact 45 (f := .free "int") rfl)
  b_bool := He.free_ok X G (c.fact 46 (f := .free "bool") rfl)
  b_list := He.free_ok X G (c.fact 47 (f := .free "list") rfl)
  b_tuple := He.free_ok X G (c.fact 48 (f := .free "tuple") rfl)
  b_str := He.free_ok X G (c.fact 49 (f := .free "str") rfl)
  b_len := He.free_ok X G (c.fact 50 (f := .free "len") rfl)
  b_all := He.free_ok X G (c.fact 51 (f := .free "all") rfl)
  b_any := He.free_ok X G (c.fact 52 (f := .free "any") rfl)
  b_enumerate := He.free_ok X G (c.fact 53 (f := .free "enumerate") rfl)
  b_set := He.free_ok X G (c.fact 54 (f := .free "set") rfl)
  b_sorted := He.free_ok X G (c.fact 55 (f := .free "sorted") rfl)
  b_range := He.free_ok X G (c.fact 56 (f := .free "range") rfl)
  b_max := He.free_ok X G (c.fact 57 (f := .free "max") rfl)
  b_min := He.free_ok X G (c.fact 58 (f := .free "min") rfl)
  b_abs := He.free_ok X G (c.fact 59 (f := .free "abs") rfl)
  MAX_POSITIONS := k_int X G (c.fact 60 (f := .int "MAX_POSITIONS" 400) rfl)
  SAME := k_str X G (c.fact 61 (f := .str "SAME" "same") rfl)
  DIFFERENT := k_str X G (c.fact 62 (f := .str "DIFFERENT" "different") rfl)
  EQUIVALENT := k_str X G (c.fact 63 (f := .str "EQUIVALENT" "equivalent") rfl)
  WINDOW := k_str X G (c.fact 64 (f := .str "WINDOW" "window") rfl)
  UNKNOWN := k_str X G (c.fact 65 (f := .str "UNKNOWN" "unknown") rfl)
  MAX_SIZE := k_int X G (c.fact 66 (f := .int "MAX_SIZE" 60) rfl)
  MAX_FACTS := k_int X G (c.fact 67 (f := .int "MAX_FACTS" 40) rfl)
  FACT := k_str X G (c.fact 68 (f := .str "FACT" "fact") rfl)
  CHAIN := k_str X G (c.fact 69 (f := .str "CHAIN" "chain") rfl)
  COPY := k_str X G (c.fact 70 (f := .str "COPY" "copy") rfl)
  cP := He.cls_ok (c.fact 72 (f := .cls "Partition") rfl)
  nP := He.noat_ok (c.fact 74 (f := .noat "Partition" "leaders") rfl)
  mP := He.glo_ok X G (c.fact 71 (f := .glo "Partition") rfl)
  cD := He.cls_ok (c.fact 81 (f := .cls "Derivation") rfl)
  n1 := He.noat_ok (c.fact 83 (f := .noat "Derivation" "steps") rfl)
  n2 := He.noat_ok (c.fact 84 (f := .noat "Derivation" "uses") rfl)
  n3 := He.noat_ok (c.fact 85 (f := .noat "Derivation" "queue") rfl)
  n4 := He.noat_ok (c.fact 86 (f := .noat "Derivation" "partners") rfl)
  mD := He.glo_ok X G (c.fact 80 (f := .glo "Derivation") rfl)
theorem ok_all (X : K.In h) (G : h.Ns mainGlobals mg) (hfa : mg ("law" : Str) = some (.ref f)) (c : He.SaysD faA fnA K) :
    ∃ fd : FuncData, (∀ (s : Shared) (v : Value), BindsTo s fd ⟨[v], []⟩ [("_law_script", v)]) ∧ ∀ base : Heap, K.In base → base.Ns mainGlobals mg → FnOk P w K mg base CX0 20 f fd ["_law_script"] (spLaw K) := by
  have T := tx_of X G c
  obtain ⟨fd_is_integer_distances, F_is_integer_distances⟩ := c.def_ 0 (d := d_is_integer_distances) rfl
  obtain ⟨fd_is_sequence_distances, F_is_sequence_distances⟩ := c.def_ 1 (d := d_is_sequence_distances) rfl
  obtain ⟨fd_is_distances, F_is_distances⟩ := c.def_ 2 (d := d_is_distances) rfl
  obtain ⟨fd_is_integer_facts, F_is_integer_facts⟩ := c.def_ 3 (d := d_is_integer_facts) rfl
  obtain ⟨fd_is_sequence_facts, F_is_sequence_facts⟩ := c.def_ 4 (d := d_is_sequence_facts) rfl
  obtain ⟨fd_check_size, F_check_size⟩ := c.def_ 5 (d := d_check_size) rfl
  obtain ⟨fd_are_two_positions, F_are_two_positions⟩ := c.def_ 6 (d := d_are_two_positions) rfl
  obtain ⟨fd_is_fact_of, F_is_fact_of⟩ := c.def_ 7 (d := d_is_fact_of) rfl
  obtain ⟨fd_checked_facts, F_checked_facts⟩ := c.def_ 8 (d := d_checked_facts) rfl
  obtain ⟨fd_check_positions, F_check_positions⟩ := c.def_ 9 (d := d_check_positions) rfl
  obtain ⟨fd_distances_by, F_distances_by⟩ := c.def_ 10 (d := d_distances_by) rfl
  obtain ⟨fd_linked_offsets, F_linked_offsets⟩ := c.def_ 11 (d := d_linked_offsets) rfl
  obtain ⟨fd_representatives, F_representatives⟩ := c.def_ 12 (d := d_representatives) rfl
  obtain ⟨fd_Partition___init__, F_Partition___init__⟩ := c.def_ 13 (d := d_Partition___init__) rfl
  obtain ⟨fd_Partition_merge, F_Partition_merge⟩ := c.def_ 14 (d := d_Partition_merge) rfl
  obtain ⟨fd_Partition_copy_links, F_Partition_copy_links⟩ := c.def_ 15 (d := d_Partition_copy_links) rfl
  obtain ⟨fd_Partition_copy_both_ways, F_Partition_copy_both_ways⟩ := c.def_ 16 (d := d_Partition_copy_both_ways) rfl
  obtain ⟨fd_Partition_are_equal, F_Partition_are_equal⟩ := c.def_ 17 (d := d_Partition_are_equal) rfl
  obtain ⟨fd_Partition_distances, F_Partition_distances⟩ := c.def_ 18 (d := d_Partition_distances) rfl
  obtain ⟨fd_window_symbols, F_window_symbols⟩ := c.def_ 19 (d := d_window_symbols) rfl
  obtain ⟨fd_states_different, F_states_different⟩ := c.def_ 20 (d := d_states_different) rfl
  obtain ⟨fd_violated_pair, F_violated_pair⟩ := c.def_ 21 (d := d_violated_pair) rfl
  obtain ⟨fd_consistent_partition, F_consistent_partition⟩ := c.def_ 22 (d := d_consistent_partition) rfl
  obtain ⟨fd_is_consistent, F_is_consistent⟩ := c.def_ 23 (d := d_is_consistent) rfl
  obtain ⟨fd_finest_list, F_finest_list⟩ := c.def_ 24 (d := d_finest_list) rfl
  obtain ⟨fd_relation, F_relation⟩ := c.def_ 25 (d := d_relation) rfl
  obtain ⟨fd_pair_key, F_pair_key⟩ := c.def_ 26 (d := d_pair_key) rfl
  obtain ⟨fd_states_same, F_states_same⟩ := c.def_ 27 (d := d_states_same) rfl
  obtain ⟨fd_copies, F_copies⟩ := c.def_ 28 (d := d_copies) rfl
  obtain ⟨fd_is_valid_step, F_is_valid_step⟩ := c.def_ 29 (d := d_is_valid_step) rfl
  obtain ⟨fd_shown_pair, F_shown_pair⟩ := c.def_ 30 (d := d_shown_pair) rfl
  obtain ⟨fd_is_derivation, F_is_derivation⟩ := c.def_ 31 (d := d_is_derivation) rfl
  obtain ⟨fd_Derivation___init__, F_Derivation___init__⟩ := c.def_ 32 (d := d_Derivation___init__) rfl
  obtain ⟨fd_Derivation_add, F_Derivation_add⟩ := c.def_ 33 (d := d_Derivation_add) rfl
  obtain ⟨fd_Derivation_extend, F_Derivation_extend⟩ := c.def_ 34 (d := d_Derivation_extend) rfl
  obtain ⟨fd_Derivation_steps_for, F_Derivation_steps_for⟩ := c.def_ 35 (d := d_Derivation_steps_for) rfl
  obtain ⟨fd_stated_pairs, F_stated_pairs⟩ := c.def_ 36 (d := d_stated_pairs) rfl
  obtain ⟨fd_find_derivation, F_find_derivation⟩ := c.def_ 37 (d := d_find_derivation) rfl
  obtain ⟨fd_find_conflict, F_find_conflict⟩ := c.def_ 38 (d := d_find_conflict) rfl
  obtain ⟨fd_is_conflict, F_is_conflict⟩ := c.def_ 39 (d := d_is_conflict) rfl
  obtain ⟨fd__law_stream, F__law_stream⟩ := c.def_ 40 (d := d__law_stream) rfl
  obtain ⟨fd__law_draw, F__law_draw⟩ := c.def_ 41 (d := d__law_draw) rfl
  obtain ⟨fd__law_distances, F__law_distances⟩ := c.def_ 42 (d := d__law_distances) rfl
  obtain ⟨fd__law_symbols, F__law_symbols⟩ := c.def_ 43 (d := d__law_symbols) rfl
  obtain ⟨fd__law_ids, F__law_ids⟩ := c.def_ 44 (d := d__law_ids) rfl
  obtain ⟨fd__law_window, F__law_window⟩ := c.def_ 45 (d := d__law_window) rfl
  obtain ⟨fd__law_true_fact, F__law_true_fact⟩ := c.def_ 46 (d := d__law_true_fact) rfl
  obtain ⟨fd__law_satisfied, F__law_satisfied⟩ := c.def_ 47 (d := d__law_satisfied) rfl
  obtain ⟨fd__law_all_satisfied, F__law_all_satisfied⟩ := c.def_ 48 (d := d__law_all_satisfied) rfl
  obtain ⟨fd__law_pair_holds, F__law_pair_holds⟩ := c.def_ 49 (d := d__law_pair_holds) rfl
  obtain ⟨fd__law_consistent_holds, F__law_consistent_holds⟩ := c.def_ 50 (d := d__law_consistent_holds) rfl
  obtain ⟨fd__law_any_fact, F__law_any_fact⟩ := c.def_ 51 (d := d__law_any_fact) rfl
  obtain ⟨fd__law_holds, F__law_holds⟩ := c.def_ 52 (d := d__law_holds) rfl
  obtain ⟨fd_law, F_law⟩ := c.def_ 53 (d := d_law) rfl
  have e := hfa.symm.trans (He.glo_ok X G (c.fact 43 (f := .glo "law") rfl))
  cases e
  have b := FunD.bindsA (ps := ["_law_script"]) F_law fun _ _ _ _ _ _ us hl => match us, hl with | [_], _ => rfl
  refine ⟨fd_law, fun s v => b s [v] rfl, fun base _ _ => ?_⟩
  have c_is_integer_facts := cl_isInt (P := P) (w := w) (base := base) T  ⟨_, _, F_is_integer_facts, He.glo_ok X G (c.fact 3 (f := .glo "is_integer_facts") rfl)⟩
  have c_is_sequence_facts := cl_isSeqF (P := P) (w := w) (base := base) T  ⟨_, _, F_is_sequence_facts, He.glo_ok X G (c.fact 4 (f := .glo "is_sequence_facts") rfl)⟩
  have c_is_sequence_distances := cl_isSeqD (P := P) (w := w) (base := base) T  ⟨_, _, F_is_sequence_distances, He.glo_ok X G (c.fact 1 (f := .glo "is_sequence_distances") rfl)⟩
  have c_is_integer_distances := cl_isIntD (P := P) (w := w) (base := base) T  ⟨_, _, F_is_integer_distances, He.glo_ok X G (c.fact 0 (f := .glo "is_integer_distances") rfl)⟩
  have c_check_size := cl_checkSize (P := P) (w := w) (base := base) T c_is_integer_facts ⟨_, _, F_check_size, He.glo_ok X G (c.fact 5 (f := .glo "check_size") rfl)⟩
  have c_are_two_positions := cl_twoPos (P := P) (w := w) (base := base) T c_is_integer_facts ⟨_, _, F_are_two_positions, He.glo_ok X G (c.fact 6 (f := .glo "are_two_positions") rfl)⟩
  have c_check_positions := cl_checkPos (P := P) (w := w) (base := base) T c_is_integer_facts ⟨_, _, F_check_positions, He.glo_ok X G (c.fact 9 (f := .glo "check_positions") rfl)⟩
  have c_is_distances := cl_isDist (P := P) (w := w) (base := base) T c_is_sequence_distances c_is_integer_distances ⟨_, _, F_is_distances, He.glo_ok X G (c.fact 2 (f := .glo "is_distances") rfl)⟩
  have c_is_fact_of := cl_isFact (P := P) (w := w) (base := base) T c_is_sequence_facts c_is_integer_facts c_are_two_positions c_is_distances ⟨_, _, F_is_fact_of, He.glo_ok X G (c.fact 7 (f := .glo "is_fact_of") rfl)⟩
  have c_checked_facts := cl_checked (P := P) (w := w) (base := base) T c_check_size c_is_sequence_facts c_is_fact_of ⟨_, _, F_checked_facts, He.glo_ok X G (c.fact 8 (f := .glo "checked_facts") rfl)⟩
  have c_distances_by := cl_distBy (P := P) (w := w) (base := base) T  ⟨_, _, F_distances_by, He.glo_ok X G (c.fact 10 (f := .glo "distances_by") rfl)⟩
  have c_linked_offsets := cl_links (P := P) (w := w) (base := base) T  ⟨_, _, F_linked_offsets, He.glo_ok X G (c.fact 11 (f := .glo "linked_offsets") rfl)⟩
  have c_representatives := cl_reps (P := P) (w := w) (base := base) T  ⟨_, _, F_representatives, He.glo_ok X G (c.fact 12 (f := .glo "representatives") rfl)⟩
  have c_merge := mt_merge (P := P) (w := w) (base := base) T  ⟨_, _, F_Partition_merge, He.meth_ok (c.fact 75 (f := .meth "Partition" "merge") rfl)⟩
  have c_copy_links := mt_copyLinks (P := P) (w := w) (base := base) T c_merge c_linked_offsets c_distances_by ⟨_, _, F_Partition_copy_links, He.meth_ok (c.fact 76 (f := .meth "Partition" "copy_links") rfl)⟩
  have c_copy_both_ways := mt_copyBoth (P := P) (w := w) (base := base) T c_copy_links ⟨_, _, F_Partition_copy_both_ways, He.meth_ok (c.fact 77 (f := .meth "Partition" "copy_both_ways") rfl)⟩
  have c_are_equal := mt_areEqual (P := P) (w := w) (base := base) T  ⟨_, _, F_Partition_are_equal, He.meth_ok (c.fact 78 (f := .meth "Partition" "are_equal") rfl)⟩
  have c_distances := mt_distances (P := P) (w := w) (base := base) T c_distances_by ⟨_, _, F_Partition_distances, He.meth_ok (c.fact 79 (f := .meth "Partition" "distances") rfl)⟩
  have c_Partition := mz_pinit (P := P) (w := w) (base := base) T c_merge c_linked_offsets c_copy_both_ways ⟨_, _, F_Partition___init__, He.mkr_ok (c.fact 73 (f := .mkr "Partition") rfl)⟩
  have c_window_symbols := cl_winSym (P := P) (w := w) (base := base) T c_representatives ⟨_, _, F_window_symbols, He.glo_ok X G (c.fact 13 (f := .glo "window_symbols") rfl)⟩
  have c_states_different := cl_sDiff (P := P) (w := w) (base := base) T c_window_symbols ⟨_, _, F_states_different, He.glo_ok X G (c.fact 14 (f := .glo "states_different") rfl)⟩
  have c_states_same := cl_sSame (P := P) (w := w) (base := base) T c_window_symbols ⟨_, _, F_states_same, He.glo_ok X G (c.fact 21 (f := .glo "states_same") rfl)⟩
  have c_violated_pair := cl_viol (P := P) (w := w) (base := base) T c_are_equal c_states_different ⟨_, _, F_violated_pair, He.glo_ok X G (c.fact 15 (f := .glo "violated_pair") rfl)⟩
  have c_consistent_partition := cl_consPart (P := P) (w := w) (base := base) T c_Partition c_violated_pair ⟨_, _, F_consistent_partition, He.glo_ok X G (c.fact 16 (f := .glo "consistent_partition") rfl)⟩
  have c_is_consistent := cl_isCons (P := P) (w := w) (base := base) T c_consistent_partition c_checked_facts ⟨_, _, F_is_consistent, He.glo_ok X G (c.fact 17 (f := .glo "is_consistent") rfl)⟩
  have c_finest_list := cl_finest (P := P) (w := w) (base := base) T c_consistent_partition c_checked_facts c_distances ⟨_, _, F_finest_list, He.glo_ok X G (c.fact 18 (f := .glo "finest_list") rfl)⟩
  have c_relation := cl_relation (P := P) (w := w) (base := base) T c_consistent_partition c_checked_facts c_check_positions c_are_equal ⟨_, _, F_relation, He.glo_ok X G (c.fact 19 (f := .glo "relation") rfl)⟩
  have c_pair_key := cl_pairKey (P := P) (w := w) (base := base) T  ⟨_, _, F_pair_key, He.glo_ok X G (c.fact 20 (f := .glo "pair_key") rfl)⟩
  have c_copies := cl_copies (P := P) (w := w) (base := base) T  ⟨_, _, F_copies, He.glo_ok X G (c.fact 22 (f := .glo "copies") rfl)⟩
  have c_is_valid_step := cl_validStep (P := P) (w := w) (base := base) T c_is_sequence_facts c_is_integer_facts c_are_two_positions c_pair_key c_states_same c_copies ⟨_, _, F_is_valid_step, He.glo_ok X G (c.fact 23 (f := .glo "is_valid_step") rfl)⟩
  have c_shown_pair := cl_shown (P := P) (w := w) (base := base) T c_is_sequence_facts c_are_two_positions c_is_valid_step c_pair_key ⟨_, _, F_shown_pair, He.glo_ok X G (c.fact 24 (f := .glo "shown_pair") rfl)⟩
  have c_is_derivation := cl_isDer (P := P) (w := w) (base := base) T c_checked_facts c_check_positions c_shown_pair c_pair_key ⟨_, _, F_is_derivation, He.glo_ok X G (c.fact 25 (f := .glo "is_derivation") rfl)⟩
  have c_stated_pairs := cl_stated (P := P) (w := w) (base := base) T c_linked_offsets ⟨_, _, F_stated_pairs, He.glo_ok X G (c.fact 26 (f := .glo "stated_pairs") rfl)⟩
  have c_add := mt_add (P := P) (w := w) (base := base) T c_pair_key ⟨_, _, F_Derivation_add, He.meth_ok (c.fact 87 (f := .meth "Derivation" "add") rfl)⟩
  have c_extend := mt_extend (P := P) (w := w) (base := base) T c_pair_key c_add ⟨_, _, F_Derivation_extend, He.meth_ok (c.fact 88 (f := .meth "Derivation" "extend") rfl)⟩
  have c_Derivation := mz_dinit (P := P) (w := w) (base := base) T c_stated_pairs c_copies c_add c_extend ⟨_, _, F_Derivation___init__, He.mkr_ok (c.fact 82 (f := .mkr "Derivation") rfl)⟩
  have c_steps_for := mt_stepsFor (P := P) (w := w) (base := base) T  ⟨_, _, F_Derivation_steps_for, He.meth_ok (c.fact 89 (f := .meth "Derivation" "steps_for") rfl)⟩
  have c_find_derivation := cl_findDer (P := P) (w := w) (base := base) T c_checked_facts c_check_positions c_pair_key c_Derivation c_steps_for ⟨_, _, F_find_derivation, He.glo_ok X G (c.fact 27 (f := .glo "find_derivation") rfl)⟩
  have c_find_conflict := cl_findConf (P := P) (w := w) (base := base) T c_checked_facts c_Partition c_violated_pair c_pair_key c_Derivation c_steps_for ⟨_, _, F_find_conflict, He.glo_ok X G (c.fact 28 (f := .glo "find_conflict") rfl)⟩
  have c_is_conflict := cl_isConf (P := P) (w := w) (base := base) T c_checked_facts c_is_sequence_facts c_is_integer_facts c_shown_pair c_states_different ⟨_, _, F_is_conflict, He.glo_ok X G (c.fact 29 (f := .glo "is_conflict") rfl)⟩
  have c__law_draw := cl_draw (P := P) (w := w) (base := base) T  ⟨_, _, F__law_draw, He.glo_ok X G (c.fact 31 (f := .glo "_law_draw") rfl)⟩
  have c__law_distances := cl_lawDist (P := P) (w := w) (base := base) T  ⟨_, _, F__law_distances, He.glo_ok X G (c.fact 32 (f := .glo "_law_distances") rfl)⟩
  have c__law_ids := cl_lawIds (P := P) (w := w) (base := base) T  ⟨_, _, F__law_ids, He.glo_ok X G (c.fact 34 (f := .glo "_law_ids") rfl)⟩
  have c__law_window := cl_lawWin (P := P) (w := w) (base := base) T c__law_distances ⟨_, _, F__law_window, He.glo_ok X G (c.fact 35 (f := .glo "_law_window") rfl)⟩
  have c__law_satisfied := cl_lawSat (P := P) (w := w) (base := base) T c__law_window ⟨_, _, F__law_satisfied, He.glo_ok X G (c.fact 37 (f := .glo "_law_satisfied") rfl)⟩
  have c__law_all_satisfied := cl_lawAll (P := P) (w := w) (base := base) T c__law_ids c__law_satisfied ⟨_, _, F__law_all_satisfied, He.glo_ok X G (c.fact 38 (f := .glo "_law_all_satisfied") rfl)⟩
  have c__law_symbols := cl_symbols (P := P) (w := w) (base := base) T c__law_draw ⟨_, _, F__law_symbols, He.glo_ok X G (c.fact 33 (f := .glo "_law_symbols") rfl)⟩
  have c__law_true_fact := cl_true (P := P) (w := w) (base := base) T c__law_draw c__law_window ⟨_, _, F__law_true_fact, He.glo_ok X G (c.fact 36 (f := .glo "_law_true_fact") rfl)⟩
  have c__law_any_fact := cl_any (P := P) (w := w) (base := base) T c__law_draw c__law_distances ⟨_, _, F__law_any_fact, He.glo_ok X G (c.fact 41 (f := .glo "_law_any_fact") rfl)⟩
  have c__law_pair_holds := cl_lawPair (P := P) (w := w) (base := base) T c_relation c__law_ids c_find_derivation c_is_derivation c_is_consistent ⟨_, _, F__law_pair_holds, He.glo_ok X G (c.fact 39 (f := .glo "_law_pair_holds") rfl)⟩
  have c__law_consistent_holds := cl_lawCons (P := P) (w := w) (base := base) T c_finest_list c__law_all_satisfied c_find_conflict c__law_ids c__law_draw c__law_pair_holds c_relation ⟨_, _, F__law_consistent_holds, He.glo_ok X G (c.fact 40 (f := .glo "_law_consistent_holds") rfl)⟩
  have c__law_stream := cl_stream (P := P) (w := w) (base := base) T  ⟨_, _, F__law_stream, He.glo_ok X G (c.fact 30 (f := .glo "_law_stream") rfl)⟩
  have c__law_holds := cl_holds (P := P) (w := w) (base := base) T c__law_draw c__law_symbols c__law_true_fact c_is_consistent c__law_consistent_holds c_is_conflict c__law_any_fact c_find_conflict c_finest_list ⟨_, _, F__law_holds, He.glo_ok X G (c.fact 42 (f := .glo "_law_holds") rfl)⟩
  exact ok_law T c__law_holds c__law_stream F_law
end
end Hfb
open PySem PySem.W PyProof.Rows
theorem PySem.Challenge.cw_howfarback_k63_whole_facts_and_derivatio_holds : PySem.Challenge.rw_howfarback_k63_whole_facts_and_derivatio.Holds := by
  w_on; o_law
  refine HandSHeadRun.head_any (r := OpenLaw.row PySem.Challenge.rw_howfarback_k63_whole_facts_and_derivatio) (q := view (OpenLaw.row PySem.Challenge.rw_howfarback_k63_whole_facts_and_derivatio).prog [71]) (H := Hfb.hkA) (ob := Hfb.obA) (M := 30000) (loose := Hfb.loA) (d := HandSHeadRun.topDef (OpenLaw.row PySem.Challenge.rw_howfarback_k63_whole_facts_and_derivatio).prog 71) (kwd := []) Hfb.obA_eq
    (by kernel_rfl) (fun s => by kernel_rfl) Hfb.runA (by kernel_rfl) (by kernel_rfl) (by kernel_rfl) (by rfl) (by first | assumption | decide +kernel) (by decide +kernel) ⟨rfl, rfl, rfl, rfl, rfl, by decide +kernel⟩ ?hw ?hc
  case hw => w_witness2
  case hc =>
    refine L2.walk_ofE (l := PySem.Challenge.rw_howfarback_k63_whole_facts_and_derivatio) (n := 63) (k := 20) (x := "_law_script") (CX := L2.CX0) rfl (by decide) (by kernel_rfl) ⟨rfl, by decide, by decide⟩ ?F (fun _ _ _ _ z => z)
    intro w mg fa h Y G hmg0
    obtain ⟨K, KX, c⟩ := Y
    have hmg : mg ("law" : PySem.Str) = some (.ref fa) := by
      have e : (HandSHeadRun.topDef (OpenLaw.row PySem.Challenge.rw_howfarback_k63_whole_facts_and_derivatio).prog 71).name = ("law" : PySem.Str) := by kernel_rfl
      rw [← e]
      exact hmg0
    obtain ⟨fd, hb, hF⟩ := Hfb.ok_all (P := (PySem.Challenge.rw_howfarback_k63_whole_facts_and_derivatio).prog) (w := w) KX G hmg c
    exact ⟨K, fd, Hfb.spLaw K, KX, hb, fun H a ns hl hO hS => ⟨a, ns, rfl, hS, hl, hO, fun _ => rfl⟩, hF⟩
