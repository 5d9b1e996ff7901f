import PyProof.Rows.All
import Wide.All
import OpenK.AllK
import Wide.FinOn
import HandS.ForMost
import HandS.IsInst
import HandS.Flow
import HandS.Steps
import PySem.Challenge.RW_espalier_k06_whole_deeds
import HandS.Evl
/-! The plain law, part 1: the abstract machine of deeds and its invariant. No Python here. -/
set_option Elab.async false
namespace Esp

structure En where
  p : Nat
  o : Int
  n : Int
deriving DecidableEq, Inhabited

inductive Sts where
  | und | done (t : Nat) | fail (t : Nat)
deriving DecidableEq

inductive Wd where
  | adr (a : Int) | mark (k : Nat)
deriving DecidableEq

inductive Ph where
  | record | status | word | swap | help | failed | done | final | clean | fin
deriving DecidableEq

structure Fr where
  k : Nat
  ph : Ph
  i : Nat
  v : Sts
deriving DecidableEq

structure Mem where
  deeds : List (List En)
  sts : Nat → Sts
  word : Nat → Wd
  count : Nat

def up {α : Type} (f : Nat → α) (i : Nat) (a : α) : Nat → α := fun j => if j = i then a else f j
theorem up_same {α : Type} {f : Nat → α} {i : Nat} {a : α} : up f i a i = a := by simp [up]
theorem up_ne {α : Type} {f : Nat → α} {i j : Nat} {a : α} (h : j ≠ i) : up f i a j = f j := by simp [up, h]

def es (m : Mem) (k : Nat) : List En := m.deeds.getD k []
def nn (m : Mem) (k : Nat) : Nat := (es m k).length
def ent (m : Mem) (k i : Nat) : En := (es m k).getD i default
def pg (m : Mem) (k i : Nat) : Nat := (ent m k i).p
def entAt (d : List En) (p : Nat) : En := (d.find? (fun e => e.p == p)).getD default
def shS (s : Sts) (e : En) : Int := match s with
  | .done _ => e.n
  | _ => e.o
def shW (m : Mem) (w : Wd) (p : Nat) : Int := match w with
  | .adr a => a
  | .mark k => shS (m.sts k) (entAt (es m k) p)
def shown (m : Mem) (p : Nat) : Int := shW m (m.word p) p

def passF (m : Mem) (f : Fr) : Fr := if f.i + 1 = nn m f.k then { f with ph := .done, i := f.i + 1 } else { f with ph := .word, i := f.i + 1 }

/-- one access by the frame at the top -/
def stepF (m : Mem) (f : Fr) : Mem × List Fr :=
  match f.ph with
  | .record => ({ m with count := m.count + 1 }, [{ f with ph := .status }])
  | .status => ({ m with count := m.count + 1 }, [if m.sts f.k = .und then { f with ph := .word } else { f with ph := .clean, i := 0, v := m.sts f.k }])
  | .final => ({ m with count := m.count + 1 }, [if m.sts f.k = .und then { f with ph := .word } else { f with ph := .clean, i := 0, v := m.sts f.k }])
  | .word => match m.word (pg m f.k f.i) with
    | .mark k' => if k' = f.k then ({ m with count := m.count + 1 }, [passF m f]) else ({ m with count := m.count + 1 }, [⟨k', .record, 0, .und⟩, { f with ph := .help }])
    | .adr a => if a = (ent m f.k f.i).o then ({ m with count := m.count + 1 }, [{ f with ph := .swap }]) else ({ m with count := m.count + 1 }, [{ f with ph := .failed }])
  | .swap => if m.word (pg m f.k f.i) = .adr (ent m f.k f.i).o then ({ m with count := m.count + 1, word := up m.word (pg m f.k f.i) (.mark f.k) }, [passF m f]) else ({ m with count := m.count + 1 }, [{ f with ph := .word }])
  | .failed => if m.sts f.k = .und then ({ m with count := m.count + 1, sts := up m.sts f.k (.fail (m.count + 1)) }, [{ f with ph := .final }]) else ({ m with count := m.count + 1 }, [{ f with ph := .final }])
  | .done => if m.sts f.k = .und then ({ m with count := m.count + 1, sts := up m.sts f.k (.done (m.count + 1)) }, [{ f with ph := .final }]) else ({ m with count := m.count + 1 }, [{ f with ph := .final }])
  | .clean =>
    (if m.word (pg m f.k f.i) = .mark f.k then { m with count := m.count + 1, word := up m.word (pg m f.k f.i) (.adr (shS f.v (ent m f.k f.i))) } else { m with count := m.count + 1 },
     [if f.i + 1 = nn m f.k then { f with ph := .fin, i := f.i + 1 } else { f with i := f.i + 1 }])
  | .help => (m, [f])
  | .fin => (m, [f])

def settle : List Fr → List Fr
  | [] => []
  | f :: r => if f.ph = .fin then (match r with
    | [] => []
    | g :: r' => { g with ph := .word } :: r') else f :: r

def stepS (m : Mem) (fs : List Fr) : Mem × List Fr := match fs with
  | [] => (m, [])
  | f :: r => ((stepF m f).1, settle ((stepF m f).2 ++ r))

/-! ### the invariant of the memory -/
def Used (m : Mem) (p : Nat) (a : Int) : Prop := a = 11 + (p : Int) ∨ ∃ k t, m.sts k = .done t ∧ (∃ e ∈ es m k, e.p = p) ∧ a = 150 + 8 * (k : Int) + p

structure wfD (k : Nat) (d : List En) : Prop where
  ne : d ≠ []
  le : d.length ≤ 6
  asc : d.Pairwise (fun a b => a.p < b.p)
  ent : ∀ e ∈ d, e.p < 6 ∧ e.n = 150 + 8 * (k : Int) + e.p

structure MInv (m : Mem) : Prop where
  wf : ∀ k, k < m.deeds.length → wfD k (es m k)
  old : ∀ k, ∀ e ∈ es m k, e.o = 450 + (e.p : Int) ∨ Used m e.p e.o
  own : ∀ p k, m.word p = .mark k → k < m.deeds.length ∧ ∃ e ∈ es m k, e.p = p
  nd : ∀ k t, m.sts k = .done t → ∀ e ∈ es m k, shown m e.p ≠ e.o
  us : ∀ p, p < 6 → Used m p (shown m p)
  un : ∀ k, m.deeds.length ≤ k → m.sts k = .und
  pf : ∀ k, m.sts k = .und → ∀ i j, j < i → i < nn m k → m.word (pg m k i) = .mark k → m.word (pg m k j) = .mark k

def FOk (m : Mem) (fits : Nat → Bool) (f : Fr) : Prop :=
  f.k < m.deeds.length ∧ match f.ph with
  | .record => f.i = 0
  | .status => f.i = 0
  | .word => f.i < nn m f.k ∧ (m.sts f.k = .und → ∀ j, j < f.i → m.word (pg m f.k j) = .mark f.k)
  | .swap => f.i < nn m f.k ∧ (m.sts f.k = .und → ∀ j, j < f.i → m.word (pg m f.k j) = .mark f.k)
  | .help => f.i < nn m f.k ∧ (m.sts f.k = .und → ∀ j, j < f.i → m.word (pg m f.k j) = .mark f.k)
  | .failed => f.i < nn m f.k ∧ (m.sts f.k = .und → fits f.k = false)
  | .done => f.i = nn m f.k ∧ (m.sts f.k = .und → ∀ j, j < nn m f.k → m.word (pg m f.k j) = .mark f.k)
  | .final => m.sts f.k ≠ .und
  | .clean => f.i < nn m f.k ∧ f.v = m.sts f.k ∧ m.sts f.k ≠ .und
  | .fin => f.i = nn m f.k ∧ f.v = m.sts f.k ∧ m.sts f.k ≠ .und

/-- the frame f will clean the mark of its deed at p -/
def Will (m : Mem) (f : Fr) (p : Nat) : Prop := f.ph ≠ .fin ∧ (f.ph = .clean → ∃ j, f.i ≤ j ∧ j < nn m f.k ∧ pg m f.k j = p)

/-! ### entries -/
section
variable {m : Mem} {k i j : Nat} {p : Nat}
theorem es_lt (h : es m k ≠ []) : k < m.deeds.length := by
  unfold es at h
  by_cases c : k < m.deeds.length
  · exact c
  · exfalso; apply h; simp [List.getD, List.getElem?_eq_none (Nat.le_of_not_lt c)]
theorem ent_mem (h : i < nn m k) : ent m k i ∈ es m k := by
  unfold nn at h
  unfold ent
  simp [List.getD, List.getElem?_eq_getElem h]
theorem mem_ent {e : En} (h : e ∈ es m k) : ∃ i, i < nn m k ∧ ent m k i = e := by
  obtain ⟨i, hi, e1⟩ := List.getElem_of_mem h
  exact ⟨i, hi, by unfold ent; simp [List.getD, List.getElem?_eq_getElem hi, e1]⟩
theorem ent_eq (h : i < nn m k) : ent m k i = (es m k)[i]'h := by
  unfold nn at h
  unfold ent
  simp [List.getD, List.getElem?_eq_getElem h]
theorem MInv.lt (I : MInv m) (h : i < nn m k) : k < m.deeds.length := es_lt (by
  intro e; unfold nn at h; rw [e] at h; simp at h)
theorem MInv.pg_lt (I : MInv m) (h : i < nn m k) : pg m k i < 6 := ((I.wf k (I.lt h)).ent _ (ent_mem h)).1
theorem MInv.asc (I : MInv m) (h : i < nn m k) (hj : j < i) : pg m k j < pg m k i := by
  have w := (I.wf k (I.lt h)).asc
  have hj' : j < nn m k := by omega
  have := List.pairwise_iff_getElem.mp w j i hj' h hj
  unfold pg; rw [ent_eq h, ent_eq hj']; exact this
theorem MInv.inj (I : MInv m) (h : i < nn m k) (hj : j < nn m k) (e : pg m k i = pg m k j) : i = j := by
  rcases Nat.lt_trichotomy i j with c | c | c
  · have := I.asc hj c; omega
  · exact c
  · have := I.asc h c; omega
theorem MInv.mono (I : MInv m) (h : i < nn m k) (hj : j < nn m k) (e : pg m k i ≤ pg m k j) : i ≤ j := by
  rcases Nat.lt_or_ge j i with c | c
  · have := I.asc h c; omega
  · exact c
theorem entAt_of {d : List En} (w : d.Pairwise (fun a b => a.p < b.p)) : ∀ {e : En}, e ∈ d → entAt d e.p = e := by
  induction d with
  | nil => intro e h; simp at h
  | cons a r ih =>
    intro e h
    have w' := List.pairwise_cons.mp w
    rcases List.mem_cons.mp h with rfl | h
    · simp [entAt]
    · have l := w'.1 e h
      have ne : (a.p == e.p) = false := by simp; omega
      have := ih w'.2 h
      unfold entAt at this ⊢
      rw [List.find?_cons, ne]; exact this
theorem MInv.at_ (I : MInv m) {e : En} (h : e ∈ es m k) : entAt (es m k) e.p = e :=
  entAt_of (I.wf k (es_lt (by intro z; rw [z] at h; simp at h))).asc h
theorem MInv.at_i (I : MInv m) (h : i < nn m k) : entAt (es m k) (pg m k i) = ent m k i := I.at_ (ent_mem h)
end
end Esp
set_option Elab.async false
set_option linter.unusedVariables false
namespace Esp
/-! ### changes of the memory that keep the invariant -/
section
variable {m : Mem} {fits fits' : Nat → Bool} {f : Fr}

theorem MInv.count (I : MInv m) (c : Nat) : MInv { m with count := c } := ⟨I.wf, I.old, I.own, I.nd, I.us, I.un, I.pf⟩
theorem FOk.count (h : FOk m fits f) (c : Nat) : FOk { m with count := c } fits f := h
theorem Used.setS {s' : Nat → Sts} {c : Nat} (hs : ∀ k t, m.sts k = .done t → s' k = .done t) {p : Nat} {a : Int} (h : Used m p a) : Used { m with sts := s', count := c } p a := by
  rcases h with h | ⟨k, t, h1, h2, h3⟩
  · exact .inl h
  · exact .inr ⟨k, t, hs k t h1, h2, h3⟩

theorem shown_setW {p0 : Nat} {w : Wd} {c : Nat} (hs : shW m w p0 = shown m p0) (p : Nat) : shown { m with word := up m.word p0 w, count := c } p = shown m p := by
  by_cases e : p = p0
  · subst e
    have : up m.word p w p = w := up_same
    show shW _ (up m.word p w p) p = shown m p
    rw [this]; exact hs
  · show shW _ (up m.word p0 w p) p = shown m p
    rw [up_ne e]; rfl

theorem MInv.setW (I : MInv m) {p0 : Nat} {w : Wd} {c : Nat} (hs : shW m w p0 = shown m p0)
    (hmk : ∀ k, w = .mark k → k < m.deeds.length ∧ ∃ e ∈ es m k, e.p = p0)
    (hpf : ∀ k, m.sts k = .und → ∀ i j, j < i → i < nn m k → up m.word p0 w (pg m k i) = .mark k → up m.word p0 w (pg m k j) = .mark k) :
    MInv { m with word := up m.word p0 w, count := c } := by
  refine ⟨I.wf, I.old, fun p k h => ?_, fun k t h e he => ?_, fun p hp => ?_, I.un, hpf⟩
  · by_cases e : p = p0
    · subst e
      have : up m.word p w p = w := up_same
      exact hmk k (this.symm.trans h)
    · exact I.own p k ((up_ne e).symm.trans h)
  · rw [shown_setW hs]; exact I.nd k t h e he
  · rw [shown_setW hs]; exact I.us p hp

theorem FOk.setW {p0 : Nat} {w : Wd} {c : Nat} (h : FOk m fits f) (hk : m.sts f.k = .und → ∀ q, m.word q = .mark f.k → up m.word p0 w q = .mark f.k) :
    FOk { m with word := up m.word p0 w, count := c } fits f := by
  obtain ⟨h1, h2⟩ := h
  refine ⟨h1, ?_⟩
  revert h2
  cases f.ph with
  | record => exact id
  | status => exact id
  | word => exact fun ⟨a, b⟩ => ⟨a, fun u j hj => hk u _ (b u j hj)⟩
  | swap => exact fun ⟨a, b⟩ => ⟨a, fun u j hj => hk u _ (b u j hj)⟩
  | help => exact fun ⟨a, b⟩ => ⟨a, fun u j hj => hk u _ (b u j hj)⟩
  | failed => exact id
  | done => exact fun ⟨a, b⟩ => ⟨a, fun u j hj => hk u _ (b u j hj)⟩
  | final => exact id
  | clean => exact id
  | fin => exact id

theorem FOk.setS {k0 : Nat} {s : Sts} {c : Nat} (hu : m.sts k0 = .und) (hs : s ≠ .und) (h : FOk m fits f) : FOk { m with sts := up m.sts k0 s, count := c } fits f := by
  obtain ⟨h1, h2⟩ := h
  refine ⟨h1, ?_⟩
  have hb : (up m.sts k0 s f.k = .und) → m.sts f.k = .und := by
    intro z
    by_cases e : f.k = k0
    · rw [e]; exact hu
    · rw [up_ne e] at z; exact z
  have hd : m.sts f.k ≠ .und → up m.sts k0 s f.k = m.sts f.k := fun z => up_ne (fun e => z (by rw [e]; exact hu))
  revert h2
  cases f.ph with
  | record => exact id
  | status => exact id
  | word => exact fun ⟨a, b⟩ => ⟨a, fun u => b (hb u)⟩
  | swap => exact fun ⟨a, b⟩ => ⟨a, fun u => b (hb u)⟩
  | help => exact fun ⟨a, b⟩ => ⟨a, fun u => b (hb u)⟩
  | failed => exact fun ⟨a, b⟩ => ⟨a, fun u => b (hb u)⟩
  | done => exact fun ⟨a, b⟩ => ⟨a, fun u => b (hb u)⟩
  | final => exact fun a z => a (hb z)
  | clean => exact fun ⟨a, b, d⟩ => ⟨a, by show f.v = up m.sts k0 s f.k; rw [hd d]; exact b, fun z => d (hb z)⟩
  | fin => exact fun ⟨a, b, d⟩ => ⟨a, by show f.v = up m.sts k0 s f.k; rw [hd d]; exact b, fun z => d (hb z)⟩

theorem FOk.ofFits (hf : ∀ k, m.sts k = .und → fits k = false → fits' k = false) (h : FOk m fits f) : FOk m fits' f := by
  obtain ⟨h1, h2⟩ := h
  refine ⟨h1, ?_⟩
  revert h2
  cases f.ph with
  | failed => exact fun ⟨a, b⟩ => ⟨a, fun u => hf _ u (b u)⟩
  | _ => exact id

/-- the mark of k at its entry i, all before it marked if undecided -/
theorem MInv.setMark (I : MInv m) {k i c : Nat} (hi : i < nn m k) (hw : m.word (pg m k i) = .adr (ent m k i).o) (hp : m.sts k = .und → ∀ j, j < i → m.word (pg m k j) = .mark k) :
    MInv { m with word := up m.word (pg m k i) (.mark k), count := c } ∧ ∀ p, shown { m with word := up m.word (pg m k i) (.mark k), count := c } p = shown m p := by
  have hsh : shown m (pg m k i) = (ent m k i).o := by unfold shown; rw [hw]; rfl
  have hs : shW m (.mark k) (pg m k i) = shown m (pg m k i) := by
    show shS (m.sts k) (entAt (es m k) (pg m k i)) = _
    rw [I.at_i hi, hsh]
    cases h : m.sts k with
    | done t => exact absurd hsh (I.nd k t h _ (ent_mem hi))
    | und => rfl
    | fail t => rfl
  refine ⟨I.setW hs (fun k' e => ?_) (fun k' hu i' j' hj hi' h => ?_), fun p => shown_setW hs p⟩
  · injection e with e; subst e
    exact ⟨I.lt hi, _, ent_mem hi, rfl⟩
  · by_cases hk : k' = k
    · subst hk
      by_cases hi2 : i' = i
      · subst hi2
        have := hp hu j' hj
        have ne : pg m k' j' ≠ pg m k' i' := by have := I.asc hi' hj; omega
        rw [up_ne ne]; exact this
      · have ne : pg m k' i' ≠ pg m k' i := fun e => hi2 (I.inj hi' hi e)
        rw [up_ne ne] at h
        have := I.pf k' hu i' j' hj hi' h
        by_cases e : pg m k' j' = pg m k' i
        · rw [e, up_same]
        · rw [up_ne e]; exact this
    · by_cases e : pg m k' i' = pg m k i
      · rw [e, up_same] at h; injection h with h; exact absurd h.symm hk
      · rw [up_ne e] at h
        have h2 := I.pf k' hu i' j' hj hi' h
        have ne : pg m k' j' ≠ pg m k i := by intro e; rw [e, hw] at h2; cases h2
        rw [up_ne ne]; exact h2

theorem keepMark {m : Mem} {k i : Nat} {a : Int} (hw : m.word (pg m k i) = .adr a) {k' q : Nat} (h : m.word q = .mark k') : up m.word (pg m k i) (.mark k) q = .mark k' := by
  have ne : q ≠ pg m k i := by intro e; rw [e, hw] at h; cases h
  rw [up_ne ne]; exact h

theorem MInv.clean (I : MInv m) {k i c : Nat} (hi : i < nn m k) (hw : m.word (pg m k i) = .mark k) (hd : m.sts k ≠ .und) :
    MInv { m with word := up m.word (pg m k i) (.adr (shS (m.sts k) (ent m k i))), count := c } ∧ ∀ p, shown { m with word := up m.word (pg m k i) (.adr (shS (m.sts k) (ent m k i))), count := c } p = shown m p := by
  have hsh : shown m (pg m k i) = shS (m.sts k) (ent m k i) := by
    unfold shown; rw [hw]
    show shS (m.sts k) (entAt (es m k) (pg m k i)) = _
    rw [I.at_i hi]
  have hs : shW m (.adr (shS (m.sts k) (ent m k i))) (pg m k i) = shown m (pg m k i) := hsh.symm
  refine ⟨I.setW hs (fun k' e => by cases e) (fun k' hu i' j' hj hi' h => ?_), fun p => shown_setW hs p⟩
  have hk : k' ≠ k := fun e => hd (by rw [← e]; exact hu)
  by_cases e : pg m k' i' = pg m k i
  · rw [e, up_same] at h; cases h
  · rw [up_ne e] at h
    have h2 := I.pf k' hu i' j' hj hi' h
    have ne : pg m k' j' ≠ pg m k i := by
      intro e; rw [e, hw] at h2; injection h2 with h2; exact hk h2.symm
    rw [up_ne ne]; exact h2

theorem keepClean {m : Mem} {k i : Nat} {w : Wd} (hw : m.word (pg m k i) = .mark k) {k' q : Nat} (hk : k' ≠ k) (h : m.word q = .mark k') : up m.word (pg m k i) w q = .mark k' := by
  have ne : q ≠ pg m k i := by
    intro e; rw [e, hw] at h; injection h with h; exact hk h.symm
  rw [up_ne ne]; exact h

theorem MInv.fail (I : MInv m) {k t c : Nat} (hk : k < m.deeds.length) (hu : m.sts k = .und) :
    MInv { m with sts := up m.sts k (.fail t), count := c } ∧ ∀ p, shown { m with sts := up m.sts k (.fail t), count := c } p = shown m p := by
  have hsh : ∀ p, shown { m with sts := up m.sts k (.fail t), count := c } p = shown m p := by
    intro p
    show shW { m with sts := up m.sts k (.fail t), count := c } (m.word p) p = shW m (m.word p) p
    cases m.word p with
    | adr a => rfl
    | mark k' =>
      show shS (up m.sts k (.fail t) k') _ = shS (m.sts k') _
      by_cases e : k' = k
      · subst e; rw [up_same, hu]; rfl
      · rw [up_ne e]; rfl
  have hdone : ∀ k' t', up m.sts k (.fail t) k' = .done t' ↔ m.sts k' = .done t' := by
    intro k' t'
    by_cases e : k' = k
    · subst e; rw [up_same, hu]; constructor <;> (intro h; cases h)
    · rw [up_ne e]
  refine ⟨⟨I.wf, fun k' e he => ?_, I.own, fun k' t' h e he => ?_, fun p hp => ?_, fun k' h => ?_, fun k' h => ?_⟩, hsh⟩
  · exact (I.old k' e he).imp id fun h => Used.setS (fun a b hb => (hdone a b).mpr hb) h
  · rw [hsh]; exact I.nd k' t' ((hdone k' t').mp h) e he
  · rw [hsh]; exact Used.setS (fun a b hb => (hdone a b).mpr hb) (I.us p hp)
  · have : k' ≠ k := by have h' : m.deeds.length ≤ k' := h; omega
    show up m.sts k (.fail t) k' = .und
    rw [up_ne this]; exact I.un k' h
  · have : k' ≠ k := by
      intro e; subst e
      have h' : up m.sts k' (.fail t) k' = .und := h
      rw [up_same] at h'; cases h'
    have h' : up m.sts k (.fail t) k' = .und := h
    rw [up_ne this] at h'
    exact I.pf k' h'

theorem shown_done (I : MInv m) {k t c : Nat} (hu : m.sts k = .und) (hm : ∀ j, j < nn m k → m.word (pg m k j) = .mark k) :
    (∀ e ∈ es m k, shown m e.p = e.o ∧ shown { m with sts := up m.sts k (.done t), count := c } e.p = e.n) ∧
    (∀ p, (∀ e ∈ es m k, e.p ≠ p) → shown { m with sts := up m.sts k (.done t), count := c } p = shown m p) := by
  refine ⟨fun e he => ?_, fun p hp => ?_⟩
  · obtain ⟨i, hi, rfl⟩ := mem_ent he
    have hw := hm i hi
    have e1 := I.at_i hi
    constructor
    · show shW m (m.word (pg m k i)) (pg m k i) = _
      rw [hw]
      show shS (m.sts k) (entAt (es m k) (pg m k i)) = _
      rw [e1, hu]; rfl
    · show shW { m with sts := up m.sts k (.done t), count := c } (m.word (pg m k i)) (pg m k i) = _
      rw [hw]
      show shS (up m.sts k (.done t) k) (entAt (es m k) (pg m k i)) = _
      rw [e1, up_same]; rfl
  · show shW { m with sts := up m.sts k (.done t), count := c } (m.word p) p = shW m (m.word p) p
    cases hw : m.word p with
    | adr a => rfl
    | mark k' =>
      have : k' ≠ k := by
        intro e; subst e
        obtain ⟨_, e, he, q⟩ := I.own p k' hw
        exact hp e he q
      show shS (up m.sts k (.done t) k') _ = shS (m.sts k') _
      rw [up_ne this]; rfl

theorem MInv.done (I : MInv m) {k t c : Nat} (hk : k < m.deeds.length) (hu : m.sts k = .und) (hm : ∀ j, j < nn m k → m.word (pg m k j) = .mark k) :
    MInv { m with sts := up m.sts k (.done t), count := c } := by
  obtain ⟨s1, s2⟩ := shown_done (t := t) (c := c) I hu hm
  have hdone : ∀ k' t', m.sts k' = .done t' → up m.sts k (.done t) k' = .done t' := by
    intro k' t' h
    have : k' ≠ k := by intro e; subst e; rw [hu] at h; cases h
    rw [up_ne this]; exact h
  have fresh : ∀ e ∈ es m k, ∀ k', ∀ e' ∈ es m k', e'.p = e.p → e.n ≠ e'.o := by
    intro e he k' e' he' hp hn
    obtain ⟨h6, hen⟩ := (I.wf k hk).ent e he
    rcases I.old k' e' he' with h | h | ⟨k2, t2, h1, h2, h3⟩
    · omega
    · omega
    · have : k2 ≠ k := by intro e; subst e; rw [hu] at h1; cases h1
      omega
  refine ⟨I.wf, fun k' e he => ?_, I.own, fun k' t' h e he => ?_, fun p hp => ?_, fun k' h => ?_, fun k' h => ?_⟩
  · exact (I.old k' e he).imp id fun h => Used.setS hdone h
  · by_cases hpk : ∃ e2 ∈ es m k, e2.p = e.p
    · obtain ⟨e2, he2, q⟩ := hpk
      have := (s1 e2 he2).2
      rw [← q, this]
      exact fresh e2 he2 k' e he q.symm
    · have hpk' : ∀ e2 ∈ es m k, e2.p ≠ e.p := fun e2 h2 q => hpk ⟨e2, h2, q⟩
      rw [s2 e.p hpk']
      have h' : up m.sts k (.done t) k' = .done t' := h
      by_cases ek : k' = k
      · subst ek; exact absurd rfl (hpk' e he)
      · rw [up_ne ek] at h'
        exact I.nd k' t' h' e he
  · by_cases hpk : ∃ e2 ∈ es m k, e2.p = p
    · obtain ⟨e2, he2, q⟩ := hpk
      subst q
      rw [(s1 e2 he2).2]
      refine .inr ⟨k, t, up_same, ⟨e2, he2, rfl⟩, ((I.wf k hk).ent e2 he2).2⟩
    · rw [s2 p fun e2 h2 q => hpk ⟨e2, h2, q⟩]
      exact Used.setS hdone (I.us p hp)
  · have : k' ≠ k := by have h' : m.deeds.length ≤ k' := h; omega
    show up m.sts k (.done t) k' = .und
    rw [up_ne this]; exact I.un k' h
  · have : k' ≠ k := by
      intro e; subst e
      have h' : up m.sts k' (.done t) k' = .und := h
      rw [up_same] at h'; cases h'
    have h' : up m.sts k (.done t) k' = .und := h
    rw [up_ne this] at h'
    exact I.pf k' h'
end
end Esp
set_option Elab.async false
set_option linter.unusedVariables false
namespace Esp
/-! ### one step of the frame at the top -/
structure Inv (m : Mem) (fits : Nat → Bool) (F : Fr → Prop) : Prop where
  M : MInv m
  fr : ∀ f, F f → FOk m fits f
  wc : ∀ p k, m.word p = .mark k → ∃ f, F f ∧ f.k = k ∧ Will m f p

inductive Chg where
  | none | fail (k : Nat) | done (k : Nat)

def ChgOk (m m' : Mem) (fits : Nat → Bool) : Chg → Prop
  | .none => m'.sts = m.sts ∧ ∀ p, shown m' p = shown m p
  | .fail k => k < m.deeds.length ∧ m.sts k = .und ∧ fits k = false ∧ m'.sts = up m.sts k (.fail m'.count) ∧ ∀ p, shown m' p = shown m p
  | .done k => k < m.deeds.length ∧ m.sts k = .und ∧ m'.sts = up m.sts k (.done m'.count) ∧ (∀ e ∈ es m k, shown m e.p = e.o ∧ shown m' e.p = e.n) ∧ (∀ p, (∀ e ∈ es m k, e.p ≠ p) → shown m' p = shown m p)

def chk (m : Mem) (fits : Nat → Bool) (k : Nat) : Bool := fits k && !(decide (m.sts k = .und) && (es m k).any (fun e => decide (shown m e.p ≠ e.o)))
theorem chk_le {m : Mem} {fits : Nat → Bool} {k : Nat} (h : fits k = false) : chk m fits k = false := by unfold chk; rw [h]; rfl
theorem chk_no {m : Mem} {fits : Nat → Bool} {k : Nat} (hu : m.sts k = .und) {e : En} (he : e ∈ es m k) (hs : shown m e.p ≠ e.o) : chk m fits k = false := by
  unfold chk
  have : (es m k).any (fun e => decide (shown m e.p ≠ e.o)) = true := List.any_eq_true.mpr ⟨e, he, decide_eq_true hs⟩
  rw [this, decide_eq_true hu]; simp

/-- what a step of the top frame f does: m', the frames in its place -/
structure SOk (m : Mem) (fits : Nat → Bool) (f : Fr) (m' : Mem) (fs : List Fr) : Prop where
  deeds : m'.deeds = m.deeds
  count : m'.count = m.count + 1
  M : MInv m'
  chg : ∃ c, ChgOk m m' fits c
  keep : ∀ g, FOk m fits g → FOk m' (chk m' fits) g
  new : ∀ g ∈ fs, FOk m' (chk m' fits) g
  wc : ∀ p k, m'.word p = .mark k → (m.word p = .mark k ∧ (f.k = k → Will m f p → ∃ g ∈ fs, g.k = k ∧ Will m' g p)) ∨ ∃ g ∈ fs, g.k = k ∧ Will m' g p

section
variable {m : Mem} {fits : Nat → Bool} {f : Fr}
theorem keep_fits {m' : Mem} {g : Fr} (h : FOk m' fits g) : FOk m' (chk m' fits) g := h.ofFits fun k _ h => chk_le h

/-- a step that changes the number alone -/
theorem SOk.quiet (I : MInv m) {fs : List Fr} (new : ∀ g ∈ fs, FOk { m with count := m.count + 1 } (chk { m with count := m.count + 1 } fits) g)
    (wl : ∀ p, m.word p = .mark f.k → Will m f p → ∃ g ∈ fs, g.k = f.k ∧ Will m g p) : SOk m fits f { m with count := m.count + 1 } fs where
  deeds := rfl
  count := rfl
  M := I.count _
  chg := ⟨.none, rfl, fun _ => rfl⟩
  keep := fun g h => keep_fits (h.count _)
  new := new
  wc := fun p k h => .inl ⟨h, fun e w => by subst e; exact wl p h w⟩

theorem will_of {m : Mem} {f g : Fr} {p : Nat} (h1 : g.ph ≠ .fin) (h2 : g.ph ≠ .clean) : Will m g p := ⟨h1, fun e => absurd e h2⟩
theorem passF_k (m : Mem) (f : Fr) : (passF m f).k = f.k := by unfold passF; split <;> rfl
theorem passF_will (m : Mem) (f : Fr) (p : Nat) : Will m (passF m f) p := by
  unfold passF
  split
  · exact ⟨(fun h => nomatch (h : Ph.done = Ph.fin)), fun h => nomatch (h : Ph.done = Ph.clean)⟩
  · exact ⟨(fun h => nomatch (h : Ph.word = Ph.fin)), fun h => nomatch (h : Ph.word = Ph.clean)⟩
theorem passF_ok {m : Mem} {fits : Nat → Bool} {f : Fr} (h1 : f.k < m.deeds.length) (h2 : f.i < nn m f.k) (h3 : m.sts f.k = .und → ∀ j, j ≤ f.i → m.word (pg m f.k j) = .mark f.k) : FOk m fits (passF m f) := by
  unfold passF
  split
  · rename_i e
    exact ⟨h1, e, fun u j hj => h3 u j (by have hj' : j < nn m f.k := hj; omega)⟩
  · rename_i e
    refine ⟨h1, ?_, fun u j hj => h3 u j (by have hj' : j < f.i + 1 := hj; omega)⟩
    show f.i + 1 < nn m f.k
    omega

theorem stepF_ok (I : MInv m) (h : FOk m fits f) (n1 : f.ph ≠ .help) (n2 : f.ph ≠ .fin) : SOk m fits f (stepF m f).1 (stepF m f).2 := by
  obtain ⟨k, ph, i, v⟩ := f
  obtain ⟨h1, h2⟩ := h
  have one : ∀ {q : Nat} {ph' : Ph} {i' : Nat} {v' : Sts}, ph' ≠ .fin → ph' ≠ .clean → ∃ g ∈ [(⟨k, ph', i', v'⟩ : Fr)], g.k = k ∧ Will m g q := fun {q ph' i' v'} a b => ⟨_, List.mem_singleton.mpr rfl, rfl, a, fun e => absurd e b⟩
  cases ph with
  | help => exact absurd rfl n1
  | fin => exact absurd rfl n2
  | record =>
    refine SOk.quiet I (fun g hg => ?_) (fun p _ _ => one (by decide) (by decide))
    cases List.mem_singleton.mp hg
    exact ⟨h1, h2⟩
  | status =>
    have h0 : i = 0 := h2
    show SOk m fits _ { m with count := m.count + 1 } [if m.sts k = .und then (⟨k, .word, i, v⟩ : Fr) else ⟨k, .clean, 0, m.sts k⟩]
    have np : 0 < nn m k := List.length_pos_iff.mpr (I.wf k h1).ne
    by_cases hu : m.sts k = .und
    · rw [if_pos hu]
      refine SOk.quiet I (fun g hg => ?_) (fun p _ _ => one (by decide) (by decide))
      cases List.mem_singleton.mp hg
      exact ⟨h1, by rw [h0]; exact np, fun _ j hj => by have hj' : j < i := hj; omega⟩
    · rw [if_neg hu]
      refine SOk.quiet I (fun g hg => ?_) (fun p hp _ => ⟨_, List.mem_singleton.mpr rfl, rfl, (fun e => nomatch (e : Ph.clean = Ph.fin)), fun _ => ?_⟩)
      · cases List.mem_singleton.mp hg
        exact ⟨h1, np, rfl, hu⟩
      · obtain ⟨_, e, he, q⟩ := I.own p _ hp
        obtain ⟨j, hj, rfl⟩ := mem_ent he
        exact ⟨j, Nat.zero_le _, hj, q⟩
  | final =>
    have hu : m.sts k ≠ .und := h2
    show SOk m fits _ { m with count := m.count + 1 } [if m.sts k = .und then (⟨k, .word, i, v⟩ : Fr) else ⟨k, .clean, 0, m.sts k⟩]
    have np : 0 < nn m k := List.length_pos_iff.mpr (I.wf k h1).ne
    rw [if_neg hu]
    refine SOk.quiet I (fun g hg => ?_) (fun p hp _ => ⟨_, List.mem_singleton.mpr rfl, rfl, (fun e => nomatch (e : Ph.clean = Ph.fin)), fun _ => ?_⟩)
    · cases List.mem_singleton.mp hg
      exact ⟨h1, np, rfl, hu⟩
    · obtain ⟨_, e, he, q⟩ := I.own p _ hp
      obtain ⟨j, hj, rfl⟩ := mem_ent he
      exact ⟨j, Nat.zero_le _, hj, q⟩
  | word =>
    have h3 : i < nn m k ∧ (m.sts k = .und → ∀ j, j < i → m.word (pg m k j) = .mark k) := h2
    show SOk m fits _ (match m.word (pg m k i) with
      | .mark k' => if k' = k then ({ m with count := m.count + 1 }, [passF m ⟨k, .word, i, v⟩]) else ({ m with count := m.count + 1 }, [⟨k', .record, 0, .und⟩, ⟨k, .help, i, v⟩])
      | .adr a => if a = (ent m k i).o then ({ m with count := m.count + 1 }, [⟨k, .swap, i, v⟩]) else ({ m with count := m.count + 1 }, [⟨k, .failed, i, v⟩])).1 (match m.word (pg m k i) with
      | .mark k' => if k' = k then (({ m with count := m.count + 1 } : Mem), [passF m ⟨k, .word, i, v⟩]) else ({ m with count := m.count + 1 }, [⟨k', .record, 0, .und⟩, ⟨k, .help, i, v⟩])
      | .adr a => if a = (ent m k i).o then ({ m with count := m.count + 1 }, [⟨k, .swap, i, v⟩]) else ({ m with count := m.count + 1 }, [⟨k, .failed, i, v⟩])).2
    cases hw : m.word (pg m k i) with
    | mark k' =>
      by_cases hk : k' = k
      · subst hk
        simp only [if_pos]
        refine SOk.quiet I (fun g hg => ?_) (fun p _ _ => ⟨_, List.mem_singleton.mpr rfl, passF_k _ _, passF_will _ _ _⟩)
        cases List.mem_singleton.mp hg
        refine passF_ok (m := { m with count := m.count + 1 }) h1 h3.1 fun u j hj => ?_
        by_cases e : j = i
        · subst e; exact hw
        · exact h3.2 u j (by have hj' : j ≤ i := hj; omega)
      · simp only [if_neg hk]
        refine SOk.quiet I (fun g hg => ?_) (fun p _ _ => ⟨⟨k, .help, i, v⟩, List.mem_cons_of_mem _ (List.mem_singleton.mpr rfl), rfl, (fun e => nomatch (e : Ph.help = Ph.fin)), fun e => nomatch (e : Ph.help = Ph.clean)⟩)
        rcases List.mem_cons.mp hg with rfl | hg
        · exact ⟨(I.own _ _ hw).1, rfl⟩
        · cases List.mem_singleton.mp hg
          exact ⟨h1, h3⟩
    | adr a =>
      by_cases ha : a = (ent m k i).o
      · simp only [if_pos ha]
        refine SOk.quiet I (fun g hg => ?_) (fun p _ _ => one (by decide) (by decide))
        cases List.mem_singleton.mp hg
        exact ⟨h1, h3⟩
      · simp only [if_neg ha]
        refine SOk.quiet I (fun g hg => ?_) (fun p _ _ => one (by decide) (by decide))
        cases List.mem_singleton.mp hg
        refine ⟨h1, h3.1, fun u => chk_no (e := ent m k i) u (ent_mem h3.1) ?_⟩
        show shW m (m.word (pg m k i)) _ ≠ _
        rw [hw]; exact ha
  | swap =>
    have h3 : i < nn m k ∧ (m.sts k = .und → ∀ j, j < i → m.word (pg m k j) = .mark k) := h2
    show SOk m fits _ (if m.word (pg m k i) = .adr (ent m k i).o then ({ m with count := m.count + 1, word := up m.word (pg m k i) (.mark k) }, [passF m ⟨k, .swap, i, v⟩]) else ({ m with count := m.count + 1 }, [⟨k, .word, i, v⟩])).1
      (if m.word (pg m k i) = .adr (ent m k i).o then (({ m with count := m.count + 1, word := up m.word (pg m k i) (.mark k) } : Mem), [passF m ⟨k, .swap, i, v⟩]) else ({ m with count := m.count + 1 }, [⟨k, .word, i, v⟩])).2
    by_cases hw : m.word (pg m k i) = .adr (ent m k i).o
    · rw [if_pos hw]
      obtain ⟨M', sh⟩ := I.setMark (c := m.count + 1) h3.1 hw h3.2
      refine ⟨rfl, rfl, M', ⟨.none, rfl, sh⟩, fun g hg => keep_fits (hg.setW fun u q hq => keepMark hw hq), fun g hg => ?_, fun p k' hp => ?_⟩
      · cases List.mem_singleton.mp hg
        refine passF_ok (m := { m with count := m.count + 1, word := up m.word (pg m k i) (.mark k) }) h1 h3.1 fun u j hj => ?_
        by_cases e : j = i
        · subst e; exact up_same
        · have := h3.2 u j (by have hj' : j ≤ i := hj; omega)
          exact keepMark hw this
      · by_cases e : p = pg m k i
        · subst e
          have hp' : up m.word (pg m k i) (.mark k) (pg m k i) = .mark k' := hp
          rw [up_same] at hp'; cases hp'
          exact .inr ⟨_, List.mem_singleton.mpr rfl, passF_k _ _, passF_will _ _ _⟩
        · have hp' : up m.word (pg m k i) (.mark k) p = .mark k' := hp
          rw [up_ne e] at hp'
          exact .inl ⟨hp', fun e2 _ => ⟨_, List.mem_singleton.mpr rfl, (passF_k _ _).trans e2, passF_will _ _ _⟩⟩
    · rw [if_neg hw]
      refine SOk.quiet I (fun g hg => ?_) (fun p _ _ => one (by decide) (by decide))
      cases List.mem_singleton.mp hg
      exact ⟨h1, h3⟩
  | failed =>
    have h3 : i < nn m k ∧ (m.sts k = .und → fits k = false) := h2
    show SOk m fits _ (if m.sts k = .und then ({ m with count := m.count + 1, sts := up m.sts k (.fail (m.count + 1)) }, [(⟨k, .final, i, v⟩ : Fr)]) else ({ m with count := m.count + 1 }, [⟨k, .final, i, v⟩])).1
      (if m.sts k = .und then (({ m with count := m.count + 1, sts := up m.sts k (.fail (m.count + 1)) } : Mem), [⟨k, .final, i, v⟩]) else ({ m with count := m.count + 1 }, [⟨k, .final, i, v⟩])).2
    by_cases hu : m.sts k = .und
    · rw [if_pos hu]
      obtain ⟨M', sh⟩ := I.fail (t := m.count + 1) (c := m.count + 1) h1 hu
      refine ⟨rfl, rfl, M', ⟨.fail k, h1, hu, h3.2 hu, rfl, sh⟩, fun g hg => keep_fits (hg.setS hu (by intro z; cases z)), fun g hg => ?_, fun p k' hp => .inl ⟨hp, fun e2 _ => ⟨_, List.mem_singleton.mpr rfl, e2, (fun e => nomatch (e : Ph.final = Ph.fin)), fun e => nomatch (e : Ph.final = Ph.clean)⟩⟩⟩
      cases List.mem_singleton.mp hg
      refine ⟨h1, ?_⟩
      show up m.sts k (.fail (m.count + 1)) k ≠ .und
      rw [up_same]; intro z; cases z
    · rw [if_neg hu]
      refine SOk.quiet I (fun g hg => ?_) (fun p _ _ => one (by decide) (by decide))
      cases List.mem_singleton.mp hg
      exact ⟨h1, hu⟩
  | done =>
    have h3 : i = nn m k ∧ (m.sts k = .und → ∀ j, j < nn m k → m.word (pg m k j) = .mark k) := h2
    show SOk m fits _ (if m.sts k = .und then ({ m with count := m.count + 1, sts := up m.sts k (.done (m.count + 1)) }, [(⟨k, .final, i, v⟩ : Fr)]) else ({ m with count := m.count + 1 }, [⟨k, .final, i, v⟩])).1
      (if m.sts k = .und then (({ m with count := m.count + 1, sts := up m.sts k (.done (m.count + 1)) } : Mem), [⟨k, .final, i, v⟩]) else ({ m with count := m.count + 1 }, [⟨k, .final, i, v⟩])).2
    by_cases hu : m.sts k = .und
    · rw [if_pos hu]
      have M' := I.done (t := m.count + 1) (c := m.count + 1) h1 hu (h3.2 hu)
      obtain ⟨s1, s2⟩ := shown_done (t := m.count + 1) (c := m.count + 1) I hu (h3.2 hu)
      refine ⟨rfl, rfl, M', ⟨.done k, h1, hu, rfl, s1, s2⟩, fun g hg => keep_fits (hg.setS hu (by intro z; cases z)), fun g hg => ?_, fun p k' hp => .inl ⟨hp, fun e2 _ => ⟨_, List.mem_singleton.mpr rfl, e2, (fun e => nomatch (e : Ph.final = Ph.fin)), fun e => nomatch (e : Ph.final = Ph.clean)⟩⟩⟩
      cases List.mem_singleton.mp hg
      refine ⟨h1, ?_⟩
      show up m.sts k (.done (m.count + 1)) k ≠ .und
      rw [up_same]; intro z; cases z
    · rw [if_neg hu]
      refine SOk.quiet I (fun g hg => ?_) (fun p _ _ => one (by decide) (by decide))
      cases List.mem_singleton.mp hg
      exact ⟨h1, hu⟩
  | clean =>
    have h3 : i < nn m k ∧ v = m.sts k ∧ m.sts k ≠ .und := h2
    obtain ⟨h3, rfl, hd⟩ := h3
    show SOk m fits _ (if m.word (pg m k i) = .mark k then { m with count := m.count + 1, word := up m.word (pg m k i) (.adr (shS (m.sts k) (ent m k i))) } else { m with count := m.count + 1 })
      [if i + 1 = nn m k then (⟨k, .fin, i + 1, m.sts k⟩ : Fr) else ⟨k, .clean, i + 1, m.sts k⟩]
    have newF : ∀ m' : Mem, m'.deeds = m.deeds → m'.sts = m.sts → ∀ fi, ∀ g ∈ [if i + 1 = nn m k then (⟨k, .fin, i + 1, m.sts k⟩ : Fr) else ⟨k, .clean, i + 1, m.sts k⟩], FOk m' fi g := by
      intro m' e1 e2 fi g hg
      have en : nn m' k = nn m k := by unfold nn es; rw [e1]
      cases List.mem_singleton.mp hg
      by_cases e : i + 1 = nn m k
      · rw [if_pos e]
        refine ⟨by rw [e1]; exact h1, ?_⟩
        show i + 1 = nn m' k ∧ m.sts k = m'.sts k ∧ m'.sts k ≠ .und
        rw [e2, en]; exact ⟨e, rfl, hd⟩
      · rw [if_neg e]
        refine ⟨by rw [e1]; exact h1, ?_⟩
        show i + 1 < nn m' k ∧ m.sts k = m'.sts k ∧ m'.sts k ≠ .und
        rw [e2, en]; exact ⟨by omega, rfl, hd⟩
    have wl : ∀ p, p ≠ pg m k i → Will m ⟨k, .clean, i, m.sts k⟩ p → ∃ g ∈ [if i + 1 = nn m k then (⟨k, .fin, i + 1, m.sts k⟩ : Fr) else ⟨k, .clean, i + 1, m.sts k⟩], g.k = k ∧ Will m g p := by
      intro p hp hw
      obtain ⟨j, j1, j2, j3⟩ := hw.2 rfl
      have j1' : i ≤ j := j1
      have : j ≠ i := by intro e; subst e; exact hp j3.symm
      have e : ¬ i + 1 = nn m k := by have j2' : j < nn m k := j2; omega
      rw [if_neg e]
      exact ⟨_, List.mem_singleton.mpr rfl, rfl, (fun e => nomatch (e : Ph.clean = Ph.fin)), fun _ => ⟨j, by show i + 1 ≤ j; omega, j2, j3⟩⟩
    by_cases hw : m.word (pg m k i) = .mark k
    · rw [if_pos hw]
      obtain ⟨M', sh⟩ := I.clean (c := m.count + 1) h3 hw hd
      refine ⟨rfl, rfl, M', ⟨.none, rfl, sh⟩, fun g hg => keep_fits (hg.setW fun u q hq => keepClean hw (by intro e; exact hd (by rw [← e]; exact u)) hq), newF { m with count := m.count + 1, word := up m.word (pg m k i) (.adr (shS (m.sts k) (ent m k i))) } rfl rfl _, fun p k' hp => ?_⟩
      by_cases e : p = pg m k i
      · subst e
        have hp' : up m.word (pg m k i) (.adr (shS (m.sts k) (ent m k i))) (pg m k i) = .mark k' := hp
        rw [up_same] at hp'; cases hp'
      · have hp' : up m.word (pg m k i) (.adr (shS (m.sts k) (ent m k i))) p = .mark k' := hp
        rw [up_ne e] at hp'
        exact .inl ⟨hp', fun e2 w => by have e2' : k = k' := e2; subst e2'; exact wl p e w⟩
    · rw [if_neg hw]
      refine SOk.quiet I (newF { m with count := m.count + 1 } rfl rfl _) (fun p hp w => wl p (fun e => hw (by rw [← e]; exact hp)) w)
end
end Esp
set_option Elab.async false
set_option linter.unusedVariables false
namespace Esp
/-! ### threads -/
structure Th where
  root : Nat
  fs : List Fr

structure G where
  m : Mem
  th : Nat → Option Th
  fits : Nat → Bool

def Live (th : Nat → Option Th) (f : Fr) : Prop := ∃ t x, th t = some x ∧ f ∈ x.fs

structure Set1 (m : Mem) (x : Th) : Prop where
  root : x.root < m.deeds.length
  top : ∀ f r, x.fs = f :: r → f.ph ≠ .help ∧ f.ph ≠ .fin ∧ ∀ g ∈ r, g.ph = .help
  bot : ∀ f, x.fs.getLast? = some f → f.k = x.root
  ended : x.fs = [] → m.sts x.root ≠ .und

structure GInv (g : G) : Prop where
  I : Inv g.m g.fits (Live g.th)
  st : ∀ t x, g.th t = some x → Set1 g.m x

section
variable {m m' : Mem} {fits : Nat → Bool} {f : Fr}
theorem ChgOk.mono {c : Chg} (h : ChgOk m m' fits c) {k : Nat} (hk : m.sts k ≠ .und) : m'.sts k = m.sts k := by
  cases c with
  | none => rw [h.1]
  | fail k' =>
    obtain ⟨_, hu, _, e, _⟩ := h
    rw [e, up_ne (by intro z; subst z; exact hk hu)]
  | done k' =>
    obtain ⟨_, hu, e, _⟩ := h
    rw [e, up_ne (by intro z; subst z; exact hk hu)]

theorem stepF_shape (m : Mem) (f : Fr) (n1 : f.ph ≠ .help) (n2 : f.ph ≠ .fin) :
    (∃ g, (stepF m f).2 = [g] ∧ g.k = f.k ∧ g.ph ≠ .help) ∨ ∃ k', (stepF m f).2 = [⟨k', .record, 0, .und⟩, { f with ph := .help }] := by
  obtain ⟨k, ph, i, v⟩ := f
  have hp : (passF m ⟨k, ph, i, v⟩).ph ≠ .help := by unfold passF; split <;> (intro e; cases e)
  cases ph with
  | help => exact absurd rfl n1
  | fin => exact absurd rfl n2
  | record => exact .inl ⟨_, rfl, rfl, by intro e; cases e⟩
  | status =>
    refine .inl ⟨_, rfl, ?_, ?_⟩
    · show (if m.sts k = .und then (⟨k, .word, i, v⟩ : Fr) else ⟨k, .clean, 0, m.sts k⟩).k = k
      split <;> rfl
    · show (if m.sts k = .und then (⟨k, .word, i, v⟩ : Fr) else ⟨k, .clean, 0, m.sts k⟩).ph ≠ .help
      split <;> (intro e; cases e)
  | final =>
    refine .inl ⟨_, rfl, ?_, ?_⟩
    · show (if m.sts k = .und then (⟨k, .word, i, v⟩ : Fr) else ⟨k, .clean, 0, m.sts k⟩).k = k
      split <;> rfl
    · show (if m.sts k = .und then (⟨k, .word, i, v⟩ : Fr) else ⟨k, .clean, 0, m.sts k⟩).ph ≠ .help
      split <;> (intro e; cases e)
  | word =>
    unfold stepF
    simp only
    split
    · split
      · exact .inl ⟨_, rfl, passF_k _ _, hp⟩
      · exact .inr ⟨_, rfl⟩
    · split
      · exact .inl ⟨_, rfl, rfl, by intro e; cases e⟩
      · exact .inl ⟨_, rfl, rfl, by intro e; cases e⟩
  | swap =>
    unfold stepF
    simp only
    split
    · exact .inl ⟨_, rfl, passF_k _ _, hp⟩
    · exact .inl ⟨_, rfl, rfl, by intro e; cases e⟩
  | failed =>
    unfold stepF
    simp only
    split <;> exact .inl ⟨_, rfl, rfl, by intro e; cases e⟩
  | done =>
    unfold stepF
    simp only
    split <;> exact .inl ⟨_, rfl, rfl, by intro e; cases e⟩
  | clean =>
    refine .inl ⟨_, rfl, ?_, ?_⟩
    · show (if i + 1 = nn m k then (⟨k, .fin, i + 1, v⟩ : Fr) else ⟨k, .clean, i + 1, v⟩).k = k
      split <;> rfl
    · show (if i + 1 = nn m k then (⟨k, .fin, i + 1, v⟩ : Fr) else ⟨k, .clean, i + 1, v⟩).ph ≠ .help
      split <;> (intro e; cases e)

/-- a settled stack after a step: its frames, each of them where it comes from -/
theorem settle_mem {l : List Fr} {g : Fr} (h : g ∈ settle l) : g ∈ l ∨ ∃ g0 ∈ l.tail, g = { g0 with ph := .word } := by
  cases l with
  | nil => cases h
  | cons a r =>
    unfold settle at h
    simp only at h
    split at h
    · cases r with
      | nil => cases h
      | cons b r' =>
        rcases List.mem_cons.mp h with rfl | h
        · exact .inr ⟨b, List.mem_cons_self, rfl⟩
        · exact .inl (List.mem_cons_of_mem _ (List.mem_cons_of_mem _ h))
    · exact .inl h
theorem mem_settle {l : List Fr} {g : Fr} (h : g ∈ l) (hf : g.ph ≠ .fin) : g ∈ settle l ∨ ({ g with ph := .word } : Fr) ∈ settle l := by
  cases l with
  | nil => cases h
  | cons a r =>
    unfold settle
    simp only
    split
    · rename_i e
      rcases List.mem_cons.mp h with rfl | h
      · exact absurd e hf
      · cases r with
        | nil => cases h
        | cons b r' =>
          rcases List.mem_cons.mp h with rfl | h
          · exact .inr List.mem_cons_self
          · exact .inl (List.mem_cons_of_mem _ h)
    · exact .inl h

theorem Will.word {p : Nat} (h : Will m f p) (e : f.ph ≠ .clean) : Will m { f with ph := .word } p := ⟨(fun z => nomatch (z : Ph.word = Ph.fin)), fun z => nomatch (z : Ph.word = Ph.clean)⟩
theorem will_deeds {p : Nat} (h : m'.deeds = m.deeds) : Will m' f p ↔ Will m f p := by
  unfold Will pg nn ent es
  rw [h]
theorem FOk.helped (h : FOk m fits f) (e : f.ph = .help) : FOk m fits { f with ph := .word } := by
  obtain ⟨h1, h2⟩ := h
  rw [e] at h2
  exact ⟨h1, h2⟩
end

/-- one step of a thread that has something to do -/
def stepG (g : G) (t : Nat) (x : Th) : G := ⟨(stepS g.m x.fs).1, up g.th t (some ⟨x.root, (stepS g.m x.fs).2⟩), chk (stepS g.m x.fs).1 g.fits⟩

theorem settle_set {m : Mem} {fits : Nat → Bool} {root : Nat} {l r : List Fr} {f : Fr} (hr : root < m.deeds.length) (hl : (∃ g, l = [g] ∧ g.k = f.k ∧ g.ph ≠ .help) ∨ ∃ k', l = [⟨k', .record, 0, .und⟩, { f with ph := .help }])
    (hh : ∀ g ∈ r, g.ph = .help) (hb : ∀ z, (f :: r).getLast? = some z → z.k = root) (hf : ∀ g ∈ l, FOk m fits g) : Set1 m ⟨root, settle (l ++ r)⟩ := by
  rcases hl with ⟨g, rfl, gk, gh⟩ | ⟨k', rfl⟩
  · by_cases e : g.ph = .fin
    · cases r with
      | nil =>
        have e0 : settle ([g] ++ []) = [] := by unfold settle; simp [e]
        rw [e0]
        refine ⟨hr, (fun f r h => nomatch h), (fun f h => nomatch h), fun _ => ?_⟩
        have := hf g (List.mem_singleton.mpr rfl)
        obtain ⟨_, h2⟩ := this
        rw [e] at h2
        have hk := hb f rfl
        rw [← hk, ← gk]; exact h2.2.2
      | cons b r' =>
        have e0 : settle ([g] ++ b :: r') = { b with ph := .word } :: r' := by unfold settle; simp [e]
        rw [e0]
        refine ⟨hr, fun f r h => ?_, fun z h => ?_, fun h => by cases h⟩
        · injection h with h1 h2
          subst h1 h2
          exact ⟨(fun z => nomatch (z : Ph.word = Ph.help)), (fun z => nomatch (z : Ph.word = Ph.fin)), fun g hg => hh g (List.mem_cons_of_mem _ hg)⟩
        · cases r' with
          | nil =>
            have : z = { b with ph := .word } := by simpa using h.symm
            subst this
            exact hb b rfl
          | cons c r'' =>
            refine hb z ?_
            simpa [List.getLast?_cons_cons] using h
    · have e0 : settle ([g] ++ r) = g :: r := by unfold settle; simp [e]
      rw [e0]
      refine ⟨hr, fun f' r' h => ?_, fun z h => ?_, fun h => by cases h⟩
      · injection h with h1 h2
        subst h1 h2
        exact ⟨gh, e, hh⟩
      · cases r with
        | nil =>
          have : z = g := by simpa using h.symm
          subst this
          exact gk.trans (hb f rfl)
        | cons c r'' =>
          refine hb z ?_
          simpa [List.getLast?_cons_cons] using h
  · have e0 : settle ([⟨k', .record, 0, .und⟩, { f with ph := .help }] ++ r) = ⟨k', .record, 0, .und⟩ :: { f with ph := .help } :: r := by
      unfold settle; simp
    rw [e0]
    refine ⟨hr, fun f' r' h => ?_, fun z h => ?_, fun h => by cases h⟩
    · injection h with h1 h2
      subst h1 h2
      refine ⟨(fun z => nomatch (z : Ph.record = Ph.help)), (fun z => nomatch (z : Ph.record = Ph.fin)), fun g hg => ?_⟩
      rcases List.mem_cons.mp hg with rfl | hg
      · rfl
      · exact hh g hg
    · cases r with
      | nil =>
        have : z = { f with ph := .help } := by simpa using h.symm
        subst this
        exact hb f rfl
      | cons c r'' =>
        refine hb z ?_
        simpa [List.getLast?_cons_cons] using h

theorem Set1.keep {m m' : Mem} {x : Th} (h : Set1 m x) (hd : m'.deeds = m.deeds) (hs : ∀ k, m.sts k ≠ .und → m'.sts k = m.sts k) : Set1 m' x :=
  ⟨by rw [hd]; exact h.root, h.top, h.bot, fun e => by rw [hs _ (h.ended e)]; exact h.ended e⟩

theorem stepG_ok {g : G} (J : GInv g) {t : Nat} {x : Th} (hx : g.th t = some x) (hne : x.fs ≠ []) :
    GInv (stepG g t x) ∧ (stepG g t x).m.deeds = g.m.deeds ∧ (stepG g t x).m.count = g.m.count + 1 ∧ ∃ c, ChgOk g.m (stepG g t x).m g.fits c := by
  obtain ⟨root, fs⟩ := x
  cases fs with
  | nil => exact absurd rfl hne
  | cons f r =>
    have S := J.st t _ hx
    obtain ⟨n1, n2, hh⟩ := S.top f r rfl
    have hf : FOk g.m g.fits f := J.I.fr f ⟨t, _, hx, List.mem_cons_self⟩
    have O := stepF_ok J.I.M hf n1 n2
    obtain ⟨c, hc⟩ := O.chg
    have mono : ∀ k, g.m.sts k ≠ .und → (stepF g.m f).1.sts k = g.m.sts k := fun k hk => hc.mono hk
    have sh := stepF_shape g.m f n1 n2
    show GInv ⟨(stepF g.m f).1, up g.th t (some ⟨root, settle ((stepF g.m f).2 ++ r)⟩), chk (stepF g.m f).1 g.fits⟩ ∧ (stepF g.m f).1.deeds = g.m.deeds ∧ (stepF g.m f).1.count = g.m.count + 1 ∧ ∃ c, ChgOk g.m (stepF g.m f).1 g.fits c
    refine ⟨⟨⟨O.M, ?_, ?_⟩, ?_⟩, O.deeds, O.count, c, hc⟩
    · -- frames
      rintro z ⟨t', x', hx', hz⟩
      have hx'' : up g.th t (some ⟨root, settle ((stepF g.m f).2 ++ r)⟩) t' = some x' := hx'
      by_cases e : t' = t
      · subst e
        rw [up_same] at hx''
        cases hx''
        have old : ∀ q ∈ (stepF g.m f).2 ++ r, FOk (stepF g.m f).1 (chk (stepF g.m f).1 g.fits) q := by
          intro q hq
          rcases List.mem_append.mp hq with hq | hq
          · exact O.new q hq
          · exact O.keep q (J.I.fr q ⟨t', _, hx, List.mem_cons_of_mem _ hq⟩)
        rcases settle_mem hz with hz | ⟨g0, hg0, rfl⟩
        · exact old z hz
        · have hm := old g0 (List.mem_of_mem_tail hg0)
          have hp : g0.ph = .help := by
            rcases sh with ⟨q, e, _⟩ | ⟨k', e⟩
            · rw [e] at hg0
              exact hh g0 hg0
            · rw [e] at hg0
              rcases List.mem_cons.mp hg0 with rfl | hg0
              · rfl
              · exact hh g0 hg0
          exact hm.helped hp
      · rw [up_ne e] at hx''
        exact O.keep z (J.I.fr z ⟨t', x', hx'', hz⟩)
    · -- marks
      intro p k hp
      have hp' : (stepF g.m f).1.word p = .mark k := hp
      have fromNew : (∃ q ∈ (stepF g.m f).2, q.k = k ∧ Will (stepF g.m f).1 q p) → ∃ q, Live (up g.th t (some ⟨root, settle ((stepF g.m f).2 ++ r)⟩)) q ∧ q.k = k ∧ Will (stepF g.m f).1 q p := by
        rintro ⟨q, hq, qk, qw⟩
        have : q ∈ settle ((stepF g.m f).2 ++ r) := by
          rcases sh with ⟨q2, e, _⟩ | ⟨k', e⟩
          · rw [e] at hq ⊢
            cases List.mem_singleton.mp hq
            unfold settle; simp [qw.1]
          · rw [e] at hq ⊢
            unfold settle; simp
            rcases List.mem_cons.mp hq with rfl | hq
            · exact .inl rfl
            · exact .inr (.inl (List.mem_singleton.mp hq))
        exact ⟨q, ⟨t, _, up_same, this⟩, qk, qw⟩
      rcases O.wc p k hp' with ⟨hold, hthen⟩ | hnew
      · obtain ⟨w, ⟨t', x', hx', hw⟩, wk, ww⟩ := J.I.wc p k hold
        by_cases e : t' = t
        · subst e
          rw [hx] at hx'; cases hx'
          rcases List.mem_cons.mp hw with rfl | hw
          · exact fromNew (hthen wk ww)
          · rcases mem_settle (l := (stepF g.m f).2 ++ r) (List.mem_append_right _ hw) ww.1 with h | h
            · exact ⟨w, ⟨t', _, up_same, h⟩, wk, (will_deeds O.deeds).mpr ww⟩
            · exact ⟨_, ⟨t', _, up_same, h⟩, wk, (will_deeds O.deeds).mpr (ww.word (by rw [hh w hw]; intro z; cases z))⟩
        · exact ⟨w, ⟨t', x', by show up g.th t _ t' = _; rw [up_ne e]; exact hx', hw⟩, wk, (will_deeds O.deeds).mpr ww⟩
      · exact fromNew hnew
    · -- stacks
      intro t' x' hx'
      have hx'' : up g.th t (some ⟨root, settle ((stepF g.m f).2 ++ r)⟩) t' = some x' := hx'
      by_cases e : t' = t
      · subst e
        rw [up_same] at hx''
        cases hx''
        exact settle_set (fits := chk (stepF g.m f).1 g.fits) (by rw [O.deeds]; exact S.root) sh hh (fun z hz => S.bot z hz) O.new
      · rw [up_ne e] at hx''
        exact (J.st t' x' hx'').keep O.deeds mono

/-- a thread whose stack has ended is let go -/
theorem endG_ok {g : G} (J : GInv g) {t : Nat} {x : Th} (hx : g.th t = some x) (he : x.fs = []) : GInv ⟨g.m, up g.th t none, chk g.m g.fits⟩ := by
  have lv : ∀ f, Live (up g.th t none) f ↔ Live g.th f := by
    intro f
    constructor
    · rintro ⟨t', x', h, hf⟩
      by_cases e : t' = t
      · subst e; rw [up_same] at h; cases h
      · rw [up_ne e] at h; exact ⟨t', x', h, hf⟩
    · rintro ⟨t', x', h, hf⟩
      by_cases e : t' = t
      · subst e; rw [hx] at h; cases h; rw [he] at hf; cases hf
      · exact ⟨t', x', by rw [up_ne e]; exact h, hf⟩
  refine ⟨⟨J.I.M, fun f hf => keep_fits (J.I.fr f ((lv f).mp hf)), fun p k hp => ?_⟩, fun t' x' h => ?_⟩
  · obtain ⟨f, hf, a, b⟩ := J.I.wc p k hp
    exact ⟨f, (lv f).mpr hf, a, b⟩
  · have h' : up g.th t none t' = some x' := h
    by_cases e : t' = t
    · subst e; rw [up_same] at h'; cases h'
    · rw [up_ne e] at h'; exact J.st t' x' h'

def start1 (k : Nat) : Th := ⟨k, [⟨k, .record, 0, .und⟩]⟩
theorem live_start {th : Nat → Option Th} {t k : Nat} (ht : th t = none) (f : Fr) : Live (up th t (some (start1 k))) f ↔ Live th f ∨ f = ⟨k, .record, 0, .und⟩ := by
  constructor
  · rintro ⟨t', x', h, hf⟩
    by_cases e : t' = t
    · subst e; rw [up_same] at h; cases h; exact .inr (List.mem_singleton.mp hf)
    · rw [up_ne e] at h; exact .inl ⟨t', x', h, hf⟩
  · rintro (⟨t', x', h, hf⟩ | rfl)
    · have e : t' ≠ t := by intro e; subst e; rw [ht] at h; cases h
      exact ⟨t', x', by rw [up_ne e]; exact h, hf⟩
    · exact ⟨t, _, up_same, List.mem_singleton.mpr rfl⟩
theorem start_set {m : Mem} {k : Nat} (h : k < m.deeds.length) : Set1 m (start1 k) := by
  refine ⟨h, fun f r e => ?_, fun f e => ?_, fun e => by cases e⟩
  · injection e with e1 e2
    subst e1 e2
    exact ⟨(fun z => nomatch (z : Ph.record = Ph.help)), (fun z => nomatch (z : Ph.record = Ph.fin)), fun g hg => by cases hg⟩
  · have : f = ⟨k, .record, 0, .und⟩ := by simpa [start1] using e.symm
    subst this; rfl

/-- a deed begun before is done once more -/
theorem againG_ok {g : G} (J : GInv g) {t k : Nat} (ht : g.th t = none) (hk : k < g.m.deeds.length) : GInv ⟨g.m, up g.th t (some (start1 k)), g.fits⟩ := by
  refine ⟨⟨J.I.M, fun f hf => ?_, fun p k' hp => ?_⟩, fun t' x' h => ?_⟩
  · rcases (live_start ht f).mp hf with h | rfl
    · exact J.I.fr f h
    · exact ⟨hk, rfl⟩
  · obtain ⟨f, hf, a, b⟩ := J.I.wc p k' hp
    exact ⟨f, (live_start ht f).mpr (.inl hf), a, b⟩
  · have h' : up g.th t (some (start1 k)) t' = some x' := h
    by_cases e : t' = t
    · subst e; rw [up_same] at h'; cases h'; exact start_set hk
    · rw [up_ne e] at h'; exact J.st t' x' h'

/-- a new deed -/
def addD (m : Mem) (d : List En) (c : Nat) : Mem := { m with deeds := m.deeds ++ [d], count := c }
section
variable {m : Mem} {d : List En} {c k : Nat}
theorem es_old (h : k < m.deeds.length) : es (addD m d c) k = es m k := by
  unfold es addD
  simp [List.getD, List.getElem?_append_left h]
theorem es_new : es (addD m d c) m.deeds.length = d := by
  unfold es addD
  simp [List.getD]
theorem es_far (h : m.deeds.length < k) : es (addD m d c) k = [] := by
  unfold es addD
  simp only [List.getD]
  rw [List.getElem?_eq_none (by simp; omega)]
  rfl
theorem es_out (h : m.deeds.length ≤ k) : es m k = [] := by
  unfold es
  simp only [List.getD]
  rw [List.getElem?_eq_none h]
  rfl
theorem addD_shown (I : MInv m) (p : Nat) : shown (addD m d c) p = shown m p := by
  show shW (addD m d c) (m.word p) p = shW m (m.word p) p
  cases h : m.word p with
  | adr a => rfl
  | mark k =>
    show shS (m.sts k) (entAt (es (addD m d c) k) p) = _
    rw [es_old (I.own p k h).1]; rfl
theorem addD_used (I : MInv m) {p : Nat} {a : Int} (h : Used m p a) : Used (addD m d c) p a := by
  rcases h with h | ⟨k, t, h1, h2, h3⟩
  · exact .inl h
  · refine .inr ⟨k, t, h1, ?_, h3⟩
    have hk : k < m.deeds.length := by
      rcases Nat.lt_or_ge k m.deeds.length with z | z
      · exact z
      · rw [I.un k z] at h1; cases h1
    rw [es_old hk]; exact h2
theorem addD_ok (I : MInv m) (hd : wfD m.deeds.length d) (ho : ∀ e ∈ d, e.o = 450 + (e.p : Int) ∨ e.o = shown m e.p) : MInv (addD m d c) := by
  have len : (addD m d c).deeds.length = m.deeds.length + 1 := by simp [addD]
  have cse : ∀ k, k < m.deeds.length + 1 → k < m.deeds.length ∨ k = m.deeds.length := by intro k h; omega
  refine ⟨fun k h => ?_, fun k e he => ?_, fun p k h => ?_, fun k t h e he => ?_, fun p hp => ?_, fun k h => ?_, fun k hu i j hj hi h => ?_⟩
  · rw [len] at h
    rcases cse k h with h | rfl
    · rw [es_old h]; exact I.wf k h
    · rw [es_new]; exact hd
  · rcases Nat.lt_trichotomy k m.deeds.length with h | rfl | h
    · rw [es_old h] at he
      exact (I.old k e he).imp id (addD_used I)
    · rw [es_new] at he
      rcases ho e he with h | h
      · exact .inl h
      · refine .inr (addD_used I ?_)
        rw [h]
        exact I.us _ (hd.ent e he).1
    · rw [es_far h] at he; cases he
  · obtain ⟨a, b⟩ := I.own p k h
    rw [len, es_old a]
    exact ⟨by omega, b⟩
  · have hk : k < m.deeds.length := by
      rcases Nat.lt_or_ge k m.deeds.length with z | z
      · exact z
      · have h' : m.sts k = .done t := h
        rw [I.un k z] at h'; cases h'
    rw [es_old hk] at he
    rw [addD_shown I]
    exact I.nd k t h e he
  · rw [addD_shown I]
    exact addD_used I (I.us p hp)
  · rw [len] at h
    exact I.un k (by omega)
  · rcases Nat.lt_or_ge k m.deeds.length with hk | hk
    · have e1 : ∀ q, pg (addD m d c) k q = pg m k q := by intro q; unfold pg ent; rw [es_old hk]
      have e2 : nn (addD m d c) k = nn m k := by unfold nn; rw [es_old hk]
      rw [e1] at h ⊢
      rw [e2] at hi
      exact I.pf k hu i j hj hi h
    · have := (I.own _ k h).1
      omega
theorem FOk.addD {fits : Nat → Bool} {b : Bool} {f : Fr} (h : FOk m fits f) : FOk (addD m d c) (up fits m.deeds.length b) f := by
  obtain ⟨h1, h2⟩ := h
  have len : (Esp.addD m d c).deeds.length = m.deeds.length + 1 := by simp [Esp.addD]
  refine ⟨by rw [len]; omega, ?_⟩
  have e1 : ∀ q, pg (Esp.addD m d c) f.k q = pg m f.k q := by intro q; unfold pg ent; rw [es_old h1]
  have e2 : nn (Esp.addD m d c) f.k = nn m f.k := by unfold nn; rw [es_old h1]
  have e3 : up fits m.deeds.length b f.k = fits f.k := up_ne (by omega)
  have e4 : (Esp.addD m d c).sts = m.sts := rfl
  have e5 : (Esp.addD m d c).word = m.word := rfl
  simp only [e1, e2, e3, e4, e5]
  exact h2
end
theorem newG_ok {g : G} (J : GInv g) {t c : Nat} {d : List En} {b : Bool} (ht : g.th t = none) (hd : wfD g.m.deeds.length d) (ho : ∀ e ∈ d, e.o = 450 + (e.p : Int) ∨ e.o = shown g.m e.p) :
    GInv ⟨addD g.m d c, up g.th t (some (start1 g.m.deeds.length)), up g.fits g.m.deeds.length b⟩ := by
  have len : (addD g.m d c).deeds.length = g.m.deeds.length + 1 := by simp [addD]
  refine ⟨⟨addD_ok J.I.M hd ho, fun f hf => ?_, fun p k' hp => ?_⟩, fun t' x' h => ?_⟩
  · rcases (live_start ht f).mp hf with h | rfl
    · exact (J.I.fr f h).addD
    · exact ⟨by show g.m.deeds.length < (addD g.m d c).deeds.length; rw [len]; omega, rfl⟩
  · obtain ⟨f, hf, a, w1, w2⟩ := J.I.wc p k' hp
    have hk := (J.I.fr f hf).1
    refine ⟨f, (live_start ht f).mpr (.inl hf), a, w1, fun e => ?_⟩
    obtain ⟨j, j1, j2, j3⟩ := w2 e
    exact ⟨j, j1, by unfold nn; rw [es_old hk]; exact j2, by unfold pg ent; rw [es_old hk]; exact j3⟩
  · have h' : up g.th t (some (start1 g.m.deeds.length)) t' = some x' := h
    by_cases e : t' = t
    · subst e; rw [up_same] at h'; cases h'; exact start_set (by rw [len]; omega)
    · rw [up_ne e] at h'
      have S := J.st t' x' h'
      exact ⟨by have := S.root; show x'.root < (addD g.m d c).deeds.length; rw [len]; omega, S.top, S.bot, S.ended⟩

/-- when all have ended no word holds a mark -/
theorem GInv.clean {g : G} (J : GInv g) (h : ∀ t x, g.th t = some x → x.fs = []) (p : Nat) : g.m.word p = .adr (shown g.m p) := by
  cases e : g.m.word p with
  | adr a => unfold shown; rw [e]; rfl
  | mark k =>
    obtain ⟨f, ⟨t, x, hx, hf⟩, _⟩ := J.I.wc p k e
    rw [h t x hx] at hf; cases hf
end Esp
set_option Elab.async false
set_option linter.unusedVariables false
namespace Esp
/-! ### going on alone: a number that falls at every access -/
open Classical in
noncomputable def cnt (P : Nat → Prop) : Nat := ((List.range 6).filter (fun p => decide (P p))).length
section
variable {P Q : Nat → Prop}
theorem cnt_six : cnt P ≤ 6 := by
  unfold cnt
  exact Nat.le_trans (List.length_filter_le _ _) (by simp)
theorem filter_le {α : Type} {p q : α → Bool} : ∀ {l : List α}, (∀ a ∈ l, p a = true → q a = true) → (l.filter p).length ≤ (l.filter q).length := by
  intro l
  induction l with
  | nil => intro _; simp
  | cons a r ih =>
    intro h
    have ih' := ih fun b hb => h b (List.mem_cons_of_mem _ hb)
    have ha := h a List.mem_cons_self
    rw [List.filter_cons, List.filter_cons]
    by_cases hp : p a = true
    · rw [if_pos hp, if_pos (ha hp)]; simp; exact ih'
    · rw [if_neg hp]
      split
      · simp; omega
      · exact ih'
theorem filter_lt {α : Type} {p q : α → Bool} : ∀ {l : List α}, (∀ a ∈ l, p a = true → q a = true) → (∃ a ∈ l, q a = true ∧ p a = false) → (l.filter p).length + 1 ≤ (l.filter q).length := by
  intro l
  induction l with
  | nil => rintro _ ⟨a, ha, _⟩; cases ha
  | cons a r ih =>
    rintro h ⟨z, hz, hq, hp⟩
    have hr := fun b hb => h b (List.mem_cons_of_mem a hb)
    have ha := h a List.mem_cons_self
    rw [List.filter_cons, List.filter_cons]
    by_cases hpa : p a = true
    · rw [if_pos hpa, if_pos (ha hpa)]
      rcases List.mem_cons.mp hz with rfl | hz
      · rw [hpa] at hp; cases hp
      · have := ih hr ⟨z, hz, hq, hp⟩; simp; omega
    · rw [if_neg hpa]
      rcases List.mem_cons.mp hz with rfl | hz
      · rw [if_pos hq]
        have := filter_le (p := p) (q := q) hr
        simp; omega
      · have := ih hr ⟨z, hz, hq, hp⟩
        split
        · simp; omega
        · exact this
open Classical in
theorem cnt_le (h : ∀ p, P p → Q p) : cnt P ≤ cnt Q := by
  unfold cnt
  exact filter_le fun a _ ha => decide_eq_true (h a (of_decide_eq_true ha))
open Classical in
theorem cnt_lt (h : ∀ p, P p → Q p) {p : Nat} (hp : p < 6) (hq : Q p) (hn : ¬ P p) : cnt P + 1 ≤ cnt Q := by
  unfold cnt
  exact filter_lt (fun a _ ha => decide_eq_true (h a (of_decide_eq_true ha))) ⟨p, List.mem_range.mpr hp, decide_eq_true hq, decide_eq_false hn⟩
end

def pgF (m : Mem) (f : Fr) : Nat := pg m f.k f.i
def rem (m : Mem) (f : Fr) : Nat := match f.ph with
  | .record => 22
  | .status => 21
  | .word => 2 * (nn m f.k - f.i) + 2 + nn m f.k
  | .help => 2 * (nn m f.k - f.i) + 2 + nn m f.k
  | .swap => if m.word (pg m f.k f.i) = .adr (ent m f.k f.i).o then 2 * (nn m f.k - f.i) + 1 + nn m f.k else 2 * (nn m f.k - f.i) + 3 + nn m f.k
  | .failed => 2 + nn m f.k
  | .done => 2 + nn m f.k
  | .final => 1 + nn m f.k
  | .clean => nn m f.k - f.i
  | .fin => 0
def covF (m : Mem) (f : Fr) (p : Nat) : Prop := m.word p = .mark f.k ∧ f.ph ≠ .fin ∧ (f.ph = .clean → ∃ j, f.i ≤ j ∧ j < nn m f.k ∧ pg m f.k j = p)
def covB (m : Mem) (b : Fr) (p : Nat) : Prop := m.word p = .mark b.k ∧ match b.ph with
  | .record => False
  | .status => False
  | .final => True
  | .fin => False
  | .clean => ∃ j, b.i ≤ j ∧ j < nn m b.k ∧ pg m b.k j = p
  | _ => ∃ j, j < b.i ∧ pg m b.k j = p
def Cov (m : Mem) (fresh : List Fr) (b : Fr) (p : Nat) : Prop := (∃ f ∈ fresh, covF m f p) ∨ covB m b p
def Bad (m : Mem) (fresh : List Fr) (b : Fr) (p : Nat) : Prop := (∃ k, m.word p = .mark k) ∧ ¬ Cov m fresh b p
noncomputable def nu (m : Mem) (fresh : List Fr) (b : Fr) : Nat := cnt (Bad m fresh b)
theorem nu_le {m m' : Mem} {fresh fresh' : List Fr} {b b' : Fr} (h : ∀ p k, m'.word p = .mark k → Cov m' fresh' b' p ∨ (m.word p = .mark k ∧ (Cov m fresh b p → Cov m' fresh' b' p))) : nu m' fresh' b' ≤ nu m fresh b := by
  refine cnt_le ?_
  rintro p ⟨⟨k, hk⟩, hn⟩
  rcases h p k hk with h | ⟨h1, h2⟩
  · exact absurd h hn
  · exact ⟨⟨k, h1⟩, fun z => hn (h2 z)⟩

def active (p : Ph) : Prop := p = .word ∨ p = .swap ∨ p = .help ∨ p = .failed ∨ p = .done
def Adj (m : Mem) : List Fr → Prop
  | [] => True
  | [_] => True
  | u :: l :: r => (u.ph ≠ .clean → m.word (pgF m l) = .mark u.k) ∧ Adj m (l :: r)

/-- fresh: the frames that were begun since the thread goes alone, the last one first; b: the highest of the others -/
structure SInv (m : Mem) (fresh : List Fr) (b : Fr) : Prop where
  hb : fresh ≠ [] → b.ph = .help
  hr : ∀ f ∈ fresh.tail, f.ph = .help
  act : ∀ f ∈ fresh, active f.ph → m.sts f.k = .und
  adj : Adj m (fresh ++ [b])
  w1 : ∀ f ∈ fresh.tail, m.word (pgF m f) ≠ .mark f.k
  desc : (fresh.tail ++ [b]).Pairwise (fun a c => pgF m c < pgF m a)

theorem SInv.base (m : Mem) (b : Fr) : SInv m [] b := ⟨fun h => absurd rfl h, (fun f h => nomatch h), (fun f h => nomatch h), trivial, (fun f h => nomatch h), List.pairwise_singleton _ _⟩

section
variable {m m' : Mem} {fits : Nat → Bool}
theorem adj_keep (hd : m'.deeds = m.deeds) : ∀ {r : List Fr} {b : Fr}, (∀ f ∈ r, f.ph = .help) → (∀ f ∈ r, ∀ p, m.word p = .mark f.k → m'.word p = .mark f.k) → Adj m (r ++ [b]) → Adj m' (r ++ [b])
  | [], b, _, _, _ => trivial
  | [u], b, hp, hw, h => by
    refine ⟨fun e => ?_, trivial⟩
    have e2 : pgF m' b = pgF m b := by unfold pgF pg ent es; rw [hd]
    rw [e2]
    exact hw u List.mem_cons_self _ (h.1 e)
  | u :: l :: r, b, hp, hw, h => by
    refine ⟨fun e => ?_, adj_keep hd (r := l :: r) (fun f hf => hp f (List.mem_cons_of_mem _ hf)) (fun f hf => hw f (List.mem_cons_of_mem _ hf)) h.2⟩
    have e2 : pgF m' l = pgF m l := by unfold pgF pg ent es; rw [hd]
    rw [e2]
    exact hw u List.mem_cons_self _ (h.1 e)

theorem nn_d (hd : m'.deeds = m.deeds) (k : Nat) : nn m' k = nn m k := by unfold nn es; rw [hd]
theorem pg_d (hd : m'.deeds = m.deeds) (k i : Nat) : pg m' k i = pg m k i := by unfold pg ent es; rw [hd]
theorem pgF_d (hd : m'.deeds = m.deeds) (f : Fr) : pgF m' f = pgF m f := pg_d hd _ _
theorem rem_help (hd : m'.deeds = m.deeds) {f : Fr} (h : f.ph = .help) : rem m' f = rem m f := by
  unfold rem; rw [h]; simp only [nn_d hd]
theorem rem_word {f : Fr} (h : f.ph = .help) : rem m { f with ph := .word } = rem m f := by
  unfold rem; rw [h]

/-- a fresh frame below the top, undecided: none of its marks lies at its present word or behind it -/
theorem no_mark (I : MInv m) {fresh : List Fr} {b : Fr} (S : SInv m fresh b) {f : Fr} (hf : f ∈ fresh.tail) (ok : FOk m fits f) {q : Nat} (hq : pgF m f ≤ q) : m.word q ≠ .mark f.k := by
  intro hw
  have hh := S.hr f hf
  have hu := S.act f (List.mem_of_mem_tail hf) (by rw [hh]; exact .inr (.inr (.inl rfl)))
  obtain ⟨h1, h2⟩ := ok
  rw [hh] at h2
  obtain ⟨h2, _⟩ := h2
  obtain ⟨_, e, he, hp⟩ := I.own q f.k hw
  obtain ⟨j, hj, rfl⟩ := mem_ent he
  have hp' : pg m f.k j = q := hp
  have le : f.i ≤ j := I.mono h2 hj (by rw [hp']; exact hq)
  rcases Nat.lt_or_eq_of_le le with lt | rfl
  · refine S.w1 f hf ?_
    exact I.pf f.k hu j f.i lt hj (by rw [hp']; exact hw)
  · refine S.w1 f hf ?_
    have : pgF m f = q := hp'
    rw [this]; exact hw

/-- what is known of a fresh top u and the frame l below it -/
theorem top_facts (I : MInv m) {u : Fr} {r : List Fr} {b : Fr} (S : SInv m (u :: r) b) (hr : ∀ f ∈ r, FOk m fits f) (hc : u.ph ≠ .clean) :
    ∃ l, l ∈ r ++ [b] ∧ m.word (pgF m l) = .mark u.k ∧ (∀ f ∈ r ++ [b], pgF m f ≤ pgF m l) ∧ (∀ f ∈ r, u.k ≠ f.k) := by
  have A : ∃ l x, r ++ [b] = l :: x := by
    cases r with
    | nil => exact ⟨b, [], rfl⟩
    | cons l x => exact ⟨l, x ++ [b], rfl⟩
  obtain ⟨l, x, e⟩ := A
  have adj := S.adj
  rw [List.cons_append, e] at adj
  have hw := adj.1 hc
  have D := S.desc
  have eT : (u :: r).tail ++ [b] = l :: x := e
  rw [eT] at D
  have D' := List.pairwise_cons.mp D
  have le : ∀ f ∈ r ++ [b], pgF m f ≤ pgF m l := by
    intro f hf
    rw [e] at hf
    rcases List.mem_cons.mp hf with rfl | hf
    · exact Nat.le_refl _
    · exact Nat.le_of_lt (D'.1 f hf)
  refine ⟨l, by rw [e]; exact List.mem_cons_self, hw, le, fun f hf ek => ?_⟩
  refine no_mark I S (f := f) hf (hr f hf) (le f (List.mem_append_left _ hf)) ?_
  rw [← ek]; exact hw

/-- the fresh top u becomes u' -/
theorem inPlaceF (I : MInv m) {u u' : Fr} {r : List Fr} {b : Fr} (S : SInv m (u :: r) b) (hd : m'.deeds = m.deeds) (hk : u'.k = u.k)
    (hs : ∀ f ∈ r, m.sts f.k = .und → m'.sts f.k = .und) (ha : active u'.ph → m'.sts u.k = .und)
    (hw1 : ∀ p k, m'.word p = .mark k → m.word p = .mark k ∨ (k = u.k ∧ covF m' u' p))
    (hw2 : ∀ f ∈ r, ∀ p, m.word p = .mark f.k ↔ m'.word p = .mark f.k)
    (hw3 : u'.ph ≠ .clean → u.ph ≠ .clean ∧ ∀ p, m.word p = .mark u.k → m'.word p = .mark u.k)
    (hcov : ∀ p, m'.word p = .mark u.k → covF m u p → covF m' u' p) : SInv m' (u' :: r) b ∧ nu m' (u' :: r) b ≤ nu m (u :: r) b := by
  have hh : ∀ f ∈ r, f.ph = .help := S.hr
  refine ⟨⟨fun _ => S.hb (by simp), S.hr, fun f hf a => ?_, ?_, fun f hf => ?_, ?_⟩, nu_le fun p k h => ?_⟩
  · rcases List.mem_cons.mp hf with rfl | hf
    · rw [hk]; exact ha a
    · exact hs f hf (S.act f (List.mem_cons_of_mem _ hf) a)
  · have A := S.adj
    cases r with
    | nil =>
      refine ⟨fun e => ?_, trivial⟩
      rw [pgF_d hd, hk]
      exact (hw3 e).2 _ (A.1 (hw3 e).1)
    | cons l x =>
      refine ⟨fun e => ?_, adj_keep hd (r := l :: x) hh (fun f hf p => (hw2 f hf p).mp) A.2⟩
      rw [pgF_d hd, hk]
      exact (hw3 e).2 _ (A.1 (hw3 e).1)
  · rw [pgF_d hd]
    exact fun z => S.w1 f hf ((hw2 f hf _).mpr z)
  · have D := S.desc
    refine List.Pairwise.imp ?_ D
    intro a c h
    rw [pgF_d hd, pgF_d hd]; exact h
  · rcases hw1 p k h with h1 | ⟨rfl, h1⟩
    · refine .inr ⟨h1, fun C => ?_⟩
      rcases C with ⟨f, hf, c⟩ | c
      · rcases List.mem_cons.mp hf with rfl | hf
        · have : k = f.k := by have := c.1; rw [h1] at this; injection this
          subst this
          exact .inl ⟨u', List.mem_cons_self, hcov p h c⟩
        · refine .inl ⟨f, List.mem_cons_of_mem _ hf, (hw2 f hf p).mp c.1, c.2.1, fun e => ?_⟩
          rw [hh f hf] at e; cases e
      · refine .inr ?_
        have e : k = b.k := by have := c.1; rw [h1] at this; injection this
        subst e
        have hbb : b.ph = .help := S.hb (by simp)
        obtain ⟨c1, c2⟩ := c
        refine ⟨h, ?_⟩
        rw [hbb] at c2 ⊢
        obtain ⟨j, j1, j2⟩ := c2
        exact ⟨j, j1, by rw [pg_d hd]; exact j2⟩
    · exact .inl (.inl ⟨u', List.mem_cons_self, h1⟩)

theorem inPlaceB {b b' : Fr} (hd : m'.deeds = m.deeds) (h : ∀ p k, m'.word p = .mark k → covB m' b' p ∨ (m.word p = .mark k ∧ (covB m b p → covB m' b' p))) : SInv m' [] b' ∧ nu m' [] b' ≤ nu m [] b := by
  refine ⟨SInv.base _ _, nu_le fun p k hp => ?_⟩
  rcases h p k hp with h | ⟨h1, h2⟩
  · exact .inl (.inr h)
  · refine .inr ⟨h1, fun C => ?_⟩
    rcases C with ⟨f, hf, _⟩ | c
    · cases hf
    · exact .inr (h2 c)

def sumR (m : Mem) (l : List Fr) : Nat := (l.map (rem m)).sum
theorem sumR_cons (m : Mem) (f : Fr) (l : List Fr) : sumR m (f :: l) = rem m f + sumR m l := by unfold sumR; simp
theorem sumR_help (hd : m'.deeds = m.deeds) : ∀ {l : List Fr}, (∀ f ∈ l, f.ph = .help) → sumR m' l = sumR m l
  | [], _ => rfl
  | f :: l, h => by
    rw [sumR_cons, sumR_cons, rem_help hd (h f List.mem_cons_self), sumR_help hd fun g hg => h g (List.mem_cons_of_mem _ hg)]

/-- alone, at most N accesses are left -/
def Sol (m : Mem) (fs : List Fr) (N : Nat) : Prop := ∃ fresh b old, fs = fresh ++ b :: old ∧ SInv m fresh b ∧ sumR m fs + 23 * nu m fresh b ≤ N
end
end Esp
set_option Elab.async false
set_option linter.unusedVariables false
namespace Esp
section
variable {m m' : Mem} {fits : Nat → Bool}

theorem covB_word {b : Fr} {p : Nat} (h : covB m b p) (e : b.ph = .word ∨ b.ph = .swap ∨ b.ph = .help ∨ b.ph = .failed ∨ b.ph = .done) : m.word p = .mark b.k ∧ ∃ j, j < b.i ∧ pg m b.k j = p := by
  obtain ⟨h1, h2⟩ := h
  refine ⟨h1, ?_⟩
  rcases e with e | e | e | e | e <;> (rw [e] at h2; exact h2)
theorem covB_of {b : Fr} {p : Nat} (h1 : m.word p = .mark b.k) (e : b.ph = .word ∨ b.ph = .swap ∨ b.ph = .help ∨ b.ph = .failed ∨ b.ph = .done) (h2 : ∃ j, j < b.i ∧ pg m b.k j = p) : covB m b p := by
  refine ⟨h1, ?_⟩
  rcases e with e | e | e | e | e <;> (rw [e]; exact h2)
theorem passF_i (m : Mem) (f : Fr) : (passF m f).i = f.i + 1 := by unfold passF; split <;> rfl
theorem passF_ph (m : Mem) (f : Fr) : (passF m f).ph = .word ∨ (passF m f).ph = .done := by
  unfold passF; split
  · exact .inr rfl
  · exact .inl rfl
theorem passF_rem (hd : m'.deeds = m.deeds) {f : Fr} (h : f.i < nn m f.k) : rem m' (passF m f) ≤ 2 * (nn m f.k - f.i) + nn m f.k := by
  unfold passF
  split
  · show 2 + nn m' f.k ≤ _
    rw [nn_d hd]; omega
  · show 2 * (nn m' f.k - (f.i + 1)) + 2 + nn m' f.k ≤ _
    rw [nn_d hd]; omega

/-- the end of a base step in place -/
theorem endB {b b' : Fr} {old : List Fr} (hn : b'.ph ≠ .fin) (hd : m'.deeds = m.deeds) (hold : ∀ g ∈ old, g.ph = .help) (hr : rem m' b' + 1 ≤ rem m b)
    (h : ∀ p k, m'.word p = .mark k → covB m' b' p ∨ (m.word p = .mark k ∧ (covB m b p → covB m' b' p))) :
    settle ([b'] ++ old) = [] ∨ ∃ N', N' < sumR m (b :: old) + 23 * nu m [] b ∧ Sol m' (settle ([b'] ++ old)) N' := by
  obtain ⟨S, hv⟩ := inPlaceB hd h
  have e0 : settle ([b'] ++ old) = b' :: old := by unfold settle; simp [hn]
  rw [e0]
  refine .inr ⟨sumR m' (b' :: old) + 23 * nu m' [] b', ?_, [], b', old, rfl, S, Nat.le_refl _⟩
  rw [sumR_cons, sumR_cons, sumR_help hd hold]
  omega

theorem soloB (I : MInv m) {b : Fr} {old : List Fr} (ok : FOk m fits b) (n1 : b.ph ≠ .help) (n2 : b.ph ≠ .fin) (hold : ∀ g ∈ old, g.ph = .help) :
    settle ((stepF m b).2 ++ old) = [] ∨ ∃ N', N' < sumR m (b :: old) + 23 * nu m [] b ∧ Sol (stepF m b).1 (settle ((stepF m b).2 ++ old)) N' := by
  obtain ⟨k, ph, i, v⟩ := b
  obtain ⟨h1, h2⟩ := ok
  have n6 : nn m k ≤ 6 := (I.wf k h1).le
  cases ph with
  | help => exact absurd rfl n1
  | fin => exact absurd rfl n2
  | record =>
    refine endB (m' := { m with count := m.count + 1 }) (b' := ⟨k, .status, i, v⟩) (by intro z; cases z) rfl hold ?_ fun p k' h => .inr ⟨h, fun c => c.2.elim⟩
    show 21 + 1 ≤ 22
    omega
  | status =>
    have h0 : i = 0 := h2
    show settle ([if m.sts k = .und then (⟨k, .word, i, v⟩ : Fr) else ⟨k, .clean, 0, m.sts k⟩] ++ old) = [] ∨ ∃ N', N' < sumR m (⟨k, .status, i, v⟩ :: old) + 23 * nu m [] ⟨k, .status, i, v⟩ ∧ Sol { m with count := m.count + 1 } (settle ([if m.sts k = .und then (⟨k, .word, i, v⟩ : Fr) else ⟨k, .clean, 0, m.sts k⟩] ++ old)) N'
    by_cases hu : m.sts k = .und
    · rw [if_pos hu]
      refine endB (m' := { m with count := m.count + 1 }) (by intro z; cases z) rfl hold ?_ fun p k' h => .inr ⟨h, fun c => c.2.elim⟩
      show 2 * (nn m k - i) + 2 + nn m k + 1 ≤ 21
      omega
    · rw [if_neg hu]
      refine endB (m' := { m with count := m.count + 1 }) (by intro z; cases z) rfl hold ?_ fun p k' h => .inr ⟨h, fun c => c.2.elim⟩
      show nn m k - 0 + 1 ≤ 21
      omega
  | final =>
    have hu : m.sts k ≠ .und := h2
    show settle ([if m.sts k = .und then (⟨k, .word, i, v⟩ : Fr) else ⟨k, .clean, 0, m.sts k⟩] ++ old) = [] ∨ ∃ N', N' < sumR m (⟨k, .final, i, v⟩ :: old) + 23 * nu m [] ⟨k, .final, i, v⟩ ∧ Sol { m with count := m.count + 1 } (settle ([if m.sts k = .und then (⟨k, .word, i, v⟩ : Fr) else ⟨k, .clean, 0, m.sts k⟩] ++ old)) N'
    rw [if_neg hu]
    refine endB (m' := { m with count := m.count + 1 }) (by intro z; cases z) rfl hold ?_ fun p k' h => .inr ⟨h, fun c => ⟨c.1, ?_⟩⟩
    · show nn m k - 0 + 1 ≤ 1 + nn m k
      omega
    · obtain ⟨_, e, he, q⟩ := I.own p _ c.1
      obtain ⟨j, hj, rfl⟩ := mem_ent he
      exact ⟨j, Nat.zero_le _, hj, q⟩
  | word =>
    have h3 : i < nn m k ∧ (m.sts k = .und → ∀ j, j < i → m.word (pg m k j) = .mark k) := h2
    unfold stepF
    simp only
    cases hw : m.word (pg m k i) with
    | mark k' =>
      simp only
      by_cases hk : k' = k
      · subst hk
        simp only [if_pos]
        refine endB (m' := { m with count := m.count + 1 }) ?_ rfl hold ?_ fun p k'' h => .inr ⟨h, fun c => ?_⟩
        · exact (passF_will m _ 0).1
        · have := passF_rem (m' := { m with count := m.count + 1 }) (m := m) rfl (f := ⟨k', .word, i, v⟩) h3.1
          show _ ≤ 2 * (nn m k' - i) + 2 + nn m k'
          simp only at this
          omega
        · obtain ⟨c1, j, c2, c3⟩ := covB_word c (.inl rfl)
          refine covB_of (by rw [passF_k]; exact c1) ((passF_ph _ _).imp id fun e => .inr (.inr (.inr e))) ⟨j, ?_, by rw [passF_k]; exact c3⟩
          rw [passF_i]
          have c2' : j < i := c2
          show j < i + 1
          omega
      · simp only [if_neg hk]
        have e0 : settle ([⟨k', .record, 0, .und⟩, ⟨k, .help, i, v⟩] ++ old) = ⟨k', .record, 0, .und⟩ :: ⟨k, .help, i, v⟩ :: old := by unfold settle; simp
        rw [e0]
        refine .inr ⟨sumR m (⟨k', .record, 0, .und⟩ :: ⟨k, .help, i, v⟩ :: old) + 23 * nu m [⟨k', .record, 0, .und⟩] ⟨k, .help, i, v⟩, ?_, [⟨k', .record, 0, .und⟩], ⟨k, .help, i, v⟩, old, rfl, ?_, ?_⟩
        · have lt : nu m [⟨k', .record, 0, .und⟩] ⟨k, .help, i, v⟩ + 1 ≤ nu m [] ⟨k, .word, i, v⟩ := by
            refine cnt_lt (p := pg m k i) ?_ (I.pg_lt h3.1) ⟨⟨k', hw⟩, ?_⟩ ?_
            · rintro p ⟨⟨k2, hk2⟩, hn⟩
              refine ⟨⟨k2, hk2⟩, fun C => hn ?_⟩
              rcases C with ⟨f, hf, _⟩ | c
              · cases hf
              · exact .inr c
            · rintro (⟨f, hf, _⟩ | c)
              · cases hf
              · have := c.1; rw [hw] at this; injection this with this; exact hk this
            · rintro ⟨_, hn⟩
              exact hn (.inl ⟨_, List.mem_singleton.mpr rfl, hw, (fun z => nomatch (z : Ph.record = Ph.fin)), fun z => nomatch (z : Ph.record = Ph.clean)⟩)
          rw [sumR_cons, sumR_cons, sumR_cons]
          show 22 + (2 * (nn m k - i) + 2 + nn m k + sumR m old) + _ < 2 * (nn m k - i) + 2 + nn m k + sumR m old + _
          omega
        · refine ⟨fun _ => rfl, (fun f hf => nomatch hf), fun f hf a => ?_, ⟨fun _ => hw, trivial⟩, (fun f hf => nomatch hf), List.pairwise_singleton _ _⟩
          cases List.mem_singleton.mp hf
          rcases a with a | a | a | a | a <;> cases a
        · exact Nat.le_refl _
    | adr a =>
      simp only
      by_cases ha : a = (ent m k i).o
      · simp only [if_pos ha]
        refine endB (m' := { m with count := m.count + 1 }) (by intro z; cases z) rfl hold ?_ fun p k' h => .inr ⟨h, fun c => c⟩
        show (if m.word (pg m k i) = .adr (ent m k i).o then 2 * (nn m k - i) + 1 + nn m k else 2 * (nn m k - i) + 3 + nn m k) + 1 ≤ 2 * (nn m k - i) + 2 + nn m k
        rw [if_pos (by rw [hw, ha])]
        omega
      · simp only [if_neg ha]
        refine endB (m' := { m with count := m.count + 1 }) (by intro z; cases z) rfl hold ?_ fun p k' h => .inr ⟨h, fun c => c⟩
        show 2 + nn m k + 1 ≤ 2 * (nn m k - i) + 2 + nn m k
        omega
  | swap =>
    have h3 : i < nn m k ∧ (m.sts k = .und → ∀ j, j < i → m.word (pg m k j) = .mark k) := h2
    unfold stepF
    simp only
    by_cases hw : m.word (pg m k i) = .adr (ent m k i).o
    · simp only [if_pos hw]
      refine endB (m' := { m with count := m.count + 1, word := up m.word (pg m k i) (.mark k) }) (passF_will m _ 0).1 rfl hold ?_ fun p k' h => ?_
      · have := passF_rem (m' := { m with count := m.count + 1, word := up m.word (pg m k i) (.mark k) }) (m := m) rfl (f := ⟨k, .swap, i, v⟩) h3.1
        show _ ≤ if m.word (pg m k i) = .adr (ent m k i).o then 2 * (nn m k - i) + 1 + nn m k else 2 * (nn m k - i) + 3 + nn m k
        rw [if_pos hw]
        simp only at this
        omega
      · have pp := (passF_ph m ⟨k, .swap, i, v⟩).imp id fun e => (.inr (.inr (.inr e)) : (passF m ⟨k, .swap, i, v⟩).ph = .swap ∨ (passF m ⟨k, .swap, i, v⟩).ph = .help ∨ (passF m ⟨k, .swap, i, v⟩).ph = .failed ∨ (passF m ⟨k, .swap, i, v⟩).ph = .done)
        by_cases e : p = pg m k i
        · refine .inl (covB_of ?_ pp ⟨i, by rw [passF_i]; exact Nat.lt_succ_self _, by rw [passF_k]; exact e.symm⟩)
          rw [passF_k, e]
          exact up_same
        · have h' : up m.word (pg m k i) (.mark k) p = .mark k' := h
          rw [up_ne e] at h'
          refine .inr ⟨h', fun c => ?_⟩
          obtain ⟨c1, j, c2, c3⟩ := covB_word c (.inr (.inl rfl))
          refine covB_of ?_ pp ⟨j, ?_, by rw [passF_k]; exact c3⟩
          · rw [passF_k]
            show up m.word (pg m k i) (.mark k) p = _
            rw [up_ne e]; exact c1
          · rw [passF_i]
            have c2' : j < i := c2
            show j < i + 1
            omega
    · simp only [if_neg hw]
      refine endB (m' := { m with count := m.count + 1 }) (by intro z; cases z) rfl hold ?_ fun p k' h => .inr ⟨h, fun c => c⟩
      show 2 * (nn m k - i) + 2 + nn m k + 1 ≤ if m.word (pg m k i) = .adr (ent m k i).o then 2 * (nn m k - i) + 1 + nn m k else 2 * (nn m k - i) + 3 + nn m k
      rw [if_neg hw]
      omega
  | failed =>
    unfold stepF
    simp only
    split
    · refine endB (m' := { m with count := m.count + 1, sts := up m.sts k (.fail (m.count + 1)) }) (by intro z; cases z) rfl hold ?_ fun p k' h => .inr ⟨h, fun c => ⟨c.1, trivial⟩⟩
      show 1 + nn m k + 1 ≤ 2 + nn m k
      omega
    · refine endB (m' := { m with count := m.count + 1 }) (by intro z; cases z) rfl hold ?_ fun p k' h => .inr ⟨h, fun c => ⟨c.1, trivial⟩⟩
      show 1 + nn m k + 1 ≤ 2 + nn m k
      omega
  | done =>
    unfold stepF
    simp only
    split
    · refine endB (m' := { m with count := m.count + 1, sts := up m.sts k (.done (m.count + 1)) }) (by intro z; cases z) rfl hold ?_ fun p k' h => .inr ⟨h, fun c => ⟨c.1, trivial⟩⟩
      show 1 + nn m k + 1 ≤ 2 + nn m k
      omega
    · refine endB (m' := { m with count := m.count + 1 }) (by intro z; cases z) rfl hold ?_ fun p k' h => .inr ⟨h, fun c => ⟨c.1, trivial⟩⟩
      show 1 + nn m k + 1 ≤ 2 + nn m k
      omega
  | clean =>
    have h3 : i < nn m k ∧ v = m.sts k ∧ m.sts k ≠ .und := h2
    have hwd : (stepF m ⟨k, .clean, i, v⟩).1.deeds = m.deeds := by
      unfold stepF; simp only; split <;> rfl
    have hcov : ∀ p k', (stepF m ⟨k, .clean, i, v⟩).1.word p = .mark k' → m.word p = .mark k' ∧ (m.word p = .mark k → p ≠ pg m k i) := by
      intro p k' h
      have e : (stepF m ⟨k, .clean, i, v⟩).1 = if m.word (pg m k i) = .mark k then { m with count := m.count + 1, word := up m.word (pg m k i) (.adr (shS v (ent m k i))) } else { m with count := m.count + 1 } := rfl
      rw [e] at h
      by_cases hw : m.word (pg m k i) = .mark k
      · rw [if_pos hw] at h
        have h' : up m.word (pg m k i) (.adr (shS v (ent m k i))) p = .mark k' := h
        by_cases ep : p = pg m k i
        · rw [ep, up_same] at h'; cases h'
        · rw [up_ne ep] at h'; exact ⟨h', fun _ => ep⟩
      · rw [if_neg hw] at h
        exact ⟨h, fun z e => hw (by rw [← e]; exact z)⟩
    show settle ([if i + 1 = nn m k then (⟨k, .fin, i + 1, v⟩ : Fr) else ⟨k, .clean, i + 1, v⟩] ++ old) = [] ∨ ∃ N', N' < sumR m (⟨k, .clean, i, v⟩ :: old) + 23 * nu m [] ⟨k, .clean, i, v⟩ ∧ Sol (stepF m ⟨k, .clean, i, v⟩).1 (settle ([if i + 1 = nn m k then (⟨k, .fin, i + 1, v⟩ : Fr) else ⟨k, .clean, i + 1, v⟩] ++ old)) N'
    by_cases hl : i + 1 = nn m k
    · rw [if_pos hl]
      cases old with
      | nil => left; unfold settle; simp
      | cons b2 old =>
        have e0 : settle ([(⟨k, .fin, i + 1, v⟩ : Fr)] ++ b2 :: old) = { b2 with ph := .word } :: old := by unfold settle; simp
        rw [e0]
        have hb2 : b2.ph = .help := hold b2 List.mem_cons_self
        have le : nu (stepF m ⟨k, .clean, i, v⟩).1 [] { b2 with ph := .word } ≤ nu m [] ⟨k, .clean, i, v⟩ := by
          refine nu_le fun p k' h => ?_
          obtain ⟨a, b⟩ := hcov p k' h
          refine .inr ⟨a, fun C => ?_⟩
          rcases C with ⟨f, hf, _⟩ | c
          · cases hf
          · obtain ⟨c1, j, c2, c3, c4⟩ := c
            have c2' : i ≤ j := c2
            have c3' : j < nn m k := c3
            have : j = i := by omega
            subst this
            exact absurd c4.symm (b c1)
        refine .inr ⟨_, ?_, [], { b2 with ph := .word }, old, rfl, SInv.base _ _, Nat.le_refl _⟩
        rw [sumR_cons, sumR_cons, sumR_cons, sumR_help hwd (fun g hg => hold g (List.mem_cons_of_mem _ hg)), rem_word hb2, rem_help hwd hb2]
        have : rem m ⟨k, .clean, i, v⟩ = nn m k - i := rfl
        omega
    · rw [if_neg hl]
      refine endB (by intro z; cases z) hwd hold ?_ fun p k' h => ?_
      · show nn (stepF m ⟨k, .clean, i, v⟩).1 k - (i + 1) + 1 ≤ nn m k - i
        rw [nn_d hwd]
        omega
      · obtain ⟨a, b⟩ := hcov p k' h
        refine .inr ⟨a, fun c => ?_⟩
        obtain ⟨c1, j, c2, c3, c4⟩ := c
        have c2' : i ≤ j := c2
        have c3' : j < nn m k := c3
        have c1' : m.word p = .mark k := c1
        have : j ≠ i := by
          intro e; subst e; exact b c1 c4.symm
        have e1 : k' = k := by rw [a] at c1'; injection c1'
        refine ⟨by rw [h, e1], j, by show i + 1 ≤ j; omega, ?_, by rw [pg_d hwd]; exact c4⟩
        rw [nn_d hwd]; exact c3
end
end Esp
set_option Elab.async false
set_option linter.unusedVariables false
namespace Esp
section
variable {m m' : Mem} {fits : Nat → Bool}

/-- the end of a fresh top's step in place -/
theorem endF (I : MInv m) {u u' : Fr} {r : List Fr} {b : Fr} {old : List Fr} (S : SInv m (u :: r) b) (hn : u'.ph ≠ .fin) (hd : m'.deeds = m.deeds) (hold : ∀ g ∈ old, g.ph = .help) (hrm : rem m' u' + 1 ≤ rem m u) (hk : u'.k = u.k)
    (hs : ∀ f ∈ r, m.sts f.k = .und → m'.sts f.k = .und) (ha : active u'.ph → m'.sts u.k = .und)
    (hw1 : ∀ p k, m'.word p = .mark k → m.word p = .mark k ∨ (k = u.k ∧ covF m' u' p))
    (hw2 : ∀ f ∈ r, ∀ p, m.word p = .mark f.k ↔ m'.word p = .mark f.k)
    (hw3 : u'.ph ≠ .clean → u.ph ≠ .clean ∧ ∀ p, m.word p = .mark u.k → m'.word p = .mark u.k)
    (hcov : ∀ p, m'.word p = .mark u.k → covF m u p → covF m' u' p) :
    settle ([u'] ++ (r ++ b :: old)) = [] ∨ ∃ N', N' < sumR m (u :: (r ++ b :: old)) + 23 * nu m (u :: r) b ∧ Sol m' (settle ([u'] ++ (r ++ b :: old))) N' := by
  obtain ⟨S', hv⟩ := inPlaceF I S hd hk hs ha hw1 hw2 hw3 hcov
  have e0 : settle ([u'] ++ (r ++ b :: old)) = u' :: (r ++ b :: old) := by unfold settle; simp [hn]
  rw [e0]
  refine .inr ⟨sumR m' (u' :: (r ++ b :: old)) + 23 * nu m' (u' :: r) b, ?_, u' :: r, b, old, rfl, S', Nat.le_refl _⟩
  have hh : ∀ g ∈ r ++ b :: old, g.ph = .help := by
    intro g hg
    rcases List.mem_append.mp hg with hg | hg
    · exact S.hr g hg
    · rcases List.mem_cons.mp hg with rfl | hg
      · exact S.hb (by simp)
      · exact hold g hg
  rw [sumR_cons, sumR_cons, sumR_help hd hh]
  omega

theorem covF_of {f : Fr} {p : Nat} (h : m.word p = .mark f.k) (h1 : f.ph ≠ .fin) (h2 : f.ph ≠ .clean) : covF m f p := ⟨h, h1, fun e => absurd e h2⟩

/-- the same words, another number or status -/
theorem endF0 (I : MInv m) {u u' : Fr} {r : List Fr} {b : Fr} {old : List Fr} (S : SInv m (u :: r) b) (hn : u'.ph ≠ .fin) (hd : m'.deeds = m.deeds) (hold : ∀ g ∈ old, g.ph = .help) (hrm : rem m' u' + 1 ≤ rem m u) (hk : u'.k = u.k)
    (hs : ∀ f ∈ r, m.sts f.k = .und → m'.sts f.k = .und) (ha : active u'.ph → m'.sts u.k = .und) (hw : m'.word = m.word) (hc : u.ph ≠ .clean) (hc' : u'.ph = .clean → u'.i = 0) :
    settle ([u'] ++ (r ++ b :: old)) = [] ∨ ∃ N', N' < sumR m (u :: (r ++ b :: old)) + 23 * nu m (u :: r) b ∧ Sol m' (settle ([u'] ++ (r ++ b :: old))) N' := by
  refine endF I S hn hd hold hrm hk hs ha (fun p k h => .inl (by rw [hw] at h; exact h)) (fun f _ p => by rw [hw]) (fun _ => ⟨hc, fun p h => by rw [hw]; exact h⟩) fun p h c => ?_
  refine ⟨by rw [hk]; exact h, hn, fun e => ?_⟩
  obtain ⟨_, en, he, q⟩ := I.own p _ c.1
  obtain ⟨j, hj, rfl⟩ := mem_ent he
  exact ⟨j, by rw [hc' e]; exact Nat.zero_le _, by rw [nn_d hd, hk]; exact hj, by rw [pg_d hd, hk]; exact q⟩

theorem soloF (I : MInv m) {u b : Fr} {r old : List Fr} (S : SInv m (u :: r) b) (ok : FOk m fits u) (okr : ∀ f ∈ r, FOk m fits f) (okb : FOk m fits b) (n1 : u.ph ≠ .help) (n2 : u.ph ≠ .fin) (hold : ∀ g ∈ old, g.ph = .help) :
    settle ((stepF m u).2 ++ (r ++ b :: old)) = [] ∨ ∃ N', N' < sumR m (u :: (r ++ b :: old)) + 23 * nu m (u :: r) b ∧ Sol (stepF m u).1 (settle ((stepF m u).2 ++ (r ++ b :: old))) N' := by
  have hh : ∀ g ∈ r ++ b :: old, g.ph = .help := by
    intro g hg
    rcases List.mem_append.mp hg with hg | hg
    · exact S.hr g hg
    · rcases List.mem_cons.mp hg with rfl | hg
      · exact S.hb (by simp)
      · exact hold g hg
  have mid : ∀ f ∈ r, m.sts f.k = .und := fun f hf => S.act f (List.mem_cons_of_mem _ hf) (by rw [S.hr f hf]; exact .inr (.inr (.inl rfl)))
  have TF := top_facts (fits := fits) I S okr
  have hact := S.act u List.mem_cons_self
  have bhelp := S.hb (by simp)
  obtain ⟨k, ph, i, v⟩ := u
  obtain ⟨h1, h2⟩ := ok
  have n6 : nn m k ≤ 6 := (I.wf k h1).le
  cases ph with
  | help => exact absurd rfl n1
  | fin => exact absurd rfl n2
  | record =>
    refine endF0 (m' := { m with count := m.count + 1 }) (u' := ⟨k, .status, i, v⟩) I S (by intro z; cases z) rfl hold ?_ rfl (fun f _ h => h) ?_ rfl (by intro z; cases z) (by intro z; cases z)
    · show 21 + 1 ≤ 22
      omega
    · intro a
      rcases a with a | a | a | a | a <;> cases a
  | status =>
    have h0 : i = 0 := h2
    show settle ([if m.sts k = .und then (⟨k, .word, i, v⟩ : Fr) else ⟨k, .clean, 0, m.sts k⟩] ++ (r ++ b :: old)) = [] ∨ ∃ N', N' < sumR m (⟨k, .status, i, v⟩ :: (r ++ b :: old)) + 23 * nu m (⟨k, .status, i, v⟩ :: r) b ∧ Sol { m with count := m.count + 1 } (settle ([if m.sts k = .und then (⟨k, .word, i, v⟩ : Fr) else ⟨k, .clean, 0, m.sts k⟩] ++ (r ++ b :: old))) N'
    by_cases hu : m.sts k = .und
    · rw [if_pos hu]
      refine endF0 (m' := { m with count := m.count + 1 }) I S (by intro z; cases z) rfl hold ?_ rfl (fun f _ h => h) (fun _ => hu) rfl (by intro z; cases z) (by intro z; cases z)
      show 2 * (nn m k - i) + 2 + nn m k + 1 ≤ 21
      omega
    · rw [if_neg hu]
      refine endF0 (m' := { m with count := m.count + 1 }) I S (by intro z; cases z) rfl hold ?_ rfl (fun f _ h => h) ?_ rfl (by intro z; cases z) (fun _ => rfl)
      · show nn m k - 0 + 1 ≤ 21
        omega
      · intro a
        rcases a with a | a | a | a | a <;> cases a
  | final =>
    have hu : m.sts k ≠ .und := h2
    show settle ([if m.sts k = .und then (⟨k, .word, i, v⟩ : Fr) else ⟨k, .clean, 0, m.sts k⟩] ++ (r ++ b :: old)) = [] ∨ ∃ N', N' < sumR m (⟨k, .final, i, v⟩ :: (r ++ b :: old)) + 23 * nu m (⟨k, .final, i, v⟩ :: r) b ∧ Sol { m with count := m.count + 1 } (settle ([if m.sts k = .und then (⟨k, .word, i, v⟩ : Fr) else ⟨k, .clean, 0, m.sts k⟩] ++ (r ++ b :: old))) N'
    rw [if_neg hu]
    refine endF0 (m' := { m with count := m.count + 1 }) I S (by intro z; cases z) rfl hold ?_ rfl (fun f _ h => h) ?_ rfl (by intro z; cases z) (fun _ => rfl)
    · show nn m k - 0 + 1 ≤ 1 + nn m k
      omega
    · intro a
      rcases a with a | a | a | a | a <;> cases a
  | word =>
    have h3 : i < nn m k ∧ (m.sts k = .und → ∀ j, j < i → m.word (pg m k j) = .mark k) := h2
    have hu : m.sts k = .und := hact (.inl rfl)
    unfold stepF
    simp only
    cases hw : m.word (pg m k i) with
    | mark k' =>
      simp only
      by_cases hk : k' = k
      · subst hk
        simp only [if_pos]
        refine endF0 (m' := { m with count := m.count + 1 }) I S (passF_will m _ 0).1 rfl hold ?_ (passF_k _ _) (fun f _ h => h) (fun _ => hu) rfl (by intro z; cases z) ?_
        · have := passF_rem (m' := { m with count := m.count + 1 }) (m := m) rfl (f := ⟨k', .word, i, v⟩) h3.1
          show _ ≤ 2 * (nn m k' - i) + 2 + nn m k'
          simp only at this
          omega
        · intro e
          rcases passF_ph m ⟨k', .word, i, v⟩ with e' | e' <;> (rw [e'] at e; cases e)
      · simp only [if_neg hk]
        have e0 : settle ([⟨k', .record, 0, .und⟩, ⟨k, .help, i, v⟩] ++ (r ++ b :: old)) = ⟨k', .record, 0, .und⟩ :: ⟨k, .help, i, v⟩ :: (r ++ b :: old) := by unfold settle; simp
        rw [e0]
        obtain ⟨l, hl, lw, lmax, kne⟩ := TF (by intro z; cases z)
        -- the present word lies behind l's
        have gt : pgF m l < pg m k i := by
          have lw' : m.word (pgF m l) = .mark k := lw
          obtain ⟨_, e, he, hp⟩ := I.own _ k lw'
          obtain ⟨j, hj, rfl⟩ := mem_ent he
          have hp' : pg m k j = pgF m l := hp
          rcases Nat.lt_or_ge j i with c | c
          · rw [← hp']; exact I.asc h3.1 c
          · exfalso
            rcases Nat.lt_or_eq_of_le c with c | c
            · have := I.pf k hu j i c hj (by rw [hp']; exact lw')
              rw [hw] at this; injection this with this; exact hk this
            · subst c
              rw [hp', lw'] at hw
              injection hw with hw; exact hk hw.symm
        refine .inr ⟨sumR m (⟨k', .record, 0, .und⟩ :: ⟨k, .help, i, v⟩ :: (r ++ b :: old)) + 23 * nu m (⟨k', .record, 0, .und⟩ :: ⟨k, .help, i, v⟩ :: r) b, ?_, ⟨k', .record, 0, .und⟩ :: ⟨k, .help, i, v⟩ :: r, b, old, rfl, ?_, Nat.le_refl _⟩
        · have lt : nu m (⟨k', .record, 0, .und⟩ :: ⟨k, .help, i, v⟩ :: r) b + 1 ≤ nu m (⟨k, .word, i, v⟩ :: r) b := by
            refine cnt_lt (p := pg m k i) ?_ (I.pg_lt h3.1) ⟨⟨k', hw⟩, ?_⟩ ?_
            · rintro p ⟨⟨k2, hk2⟩, hn⟩
              refine ⟨⟨k2, hk2⟩, fun C => hn ?_⟩
              rcases C with ⟨f, hf, c⟩ | c
              · rcases List.mem_cons.mp hf with rfl | hf
                · exact .inl ⟨⟨k, .help, i, v⟩, List.mem_cons_of_mem _ List.mem_cons_self, c.1, (fun z => nomatch (z : Ph.help = Ph.fin)), fun z => nomatch (z : Ph.help = Ph.clean)⟩
                · exact .inl ⟨f, List.mem_cons_of_mem _ (List.mem_cons_of_mem _ hf), c⟩
              · exact .inr c
            · rintro (⟨f, hf, c⟩ | c)
              · rcases List.mem_cons.mp hf with rfl | hf
                · have := c.1; rw [hw] at this; injection this with this; exact hk this
                · refine no_mark I S (f := f) hf (okr f hf) ?_ c.1
                  have := lmax f (List.mem_append_left _ hf)
                  omega
              · obtain ⟨_, j, j1, j2⟩ := covB_word c (.inr (.inr (.inl bhelp)))
                obtain ⟨_, ob⟩ := okb
                rw [bhelp] at ob
                have := I.asc ob.1 j1
                have h9 : pg m b.k b.i ≤ pgF m l := lmax b (List.mem_append_right _ (List.mem_singleton.mpr rfl))
                have j2' : pg m b.k j = pg m k i := j2
                omega
            · rintro ⟨_, hn⟩
              exact hn (.inl ⟨_, List.mem_cons_self, hw, (fun z => nomatch (z : Ph.record = Ph.fin)), fun z => nomatch (z : Ph.record = Ph.clean)⟩)
          rw [sumR_cons, sumR_cons, sumR_cons]
          show 22 + (2 * (nn m k - i) + 2 + nn m k + sumR m (r ++ b :: old)) + _ < 2 * (nn m k - i) + 2 + nn m k + sumR m (r ++ b :: old) + _
          omega
        · refine ⟨fun _ => bhelp, fun f hf => ?_, fun f hf a => ?_, ?_, fun f hf => ?_, ?_⟩
          · rcases List.mem_cons.mp hf with rfl | hf
            · rfl
            · exact S.hr f hf
          · rcases List.mem_cons.mp hf with rfl | hf
            · rcases a with a | a | a | a | a <;> cases a
            · rcases List.mem_cons.mp hf with rfl | hf
              · exact hu
              · exact mid f hf
          · refine ⟨fun _ => hw, ?_⟩
            have A := S.adj
            cases r with
            | nil => exact ⟨fun _ => A.1 (by intro z; cases z), trivial⟩
            | cons l' x => exact ⟨fun _ => A.1 (by intro z; cases z), adj_keep (m := m) (m' := { m with count := m.count + 1 }) rfl (r := l' :: x) S.hr (fun _ _ _ h => h) A.2⟩
          · rcases List.mem_cons.mp hf with rfl | hf
            · show m.word (pg m k i) ≠ .mark k
              rw [hw]; intro z; injection z with z; exact hk z
            · exact S.w1 f hf
          · refine List.pairwise_cons.mpr ⟨fun f hf => ?_, S.desc⟩
            have := lmax f hf
            show pgF m f < pg m k i
            omega
    | adr a =>
      simp only
      by_cases ha : a = (ent m k i).o
      · simp only [if_pos ha]
        refine endF0 (m' := { m with count := m.count + 1 }) I S (by intro z; cases z) rfl hold ?_ rfl (fun f _ h => h) (fun _ => hu) rfl (by intro z; cases z) (by intro z; cases z)
        show (if m.word (pg m k i) = .adr (ent m k i).o then 2 * (nn m k - i) + 1 + nn m k else 2 * (nn m k - i) + 3 + nn m k) + 1 ≤ 2 * (nn m k - i) + 2 + nn m k
        rw [if_pos (by rw [hw, ha])]
        omega
      · simp only [if_neg ha]
        refine endF0 (m' := { m with count := m.count + 1 }) I S (by intro z; cases z) rfl hold ?_ rfl (fun f _ h => h) (fun _ => hu) rfl (by intro z; cases z) (by intro z; cases z)
        show 2 + nn m k + 1 ≤ 2 * (nn m k - i) + 2 + nn m k
        omega
  | swap =>
    have h3 : i < nn m k ∧ (m.sts k = .und → ∀ j, j < i → m.word (pg m k j) = .mark k) := h2
    have hu : m.sts k = .und := hact (.inr (.inl rfl))
    unfold stepF
    simp only
    by_cases hw : m.word (pg m k i) = .adr (ent m k i).o
    · simp only [if_pos hw]
      obtain ⟨l, hl, lw, lmax, kne⟩ := TF (by intro z; cases z)
      have ncl : (passF m ⟨k, .swap, i, v⟩).ph ≠ .clean := by
        intro e
        rcases passF_ph m ⟨k, .swap, i, v⟩ with e' | e' <;> (rw [e'] at e; cases e)
      refine endF (m' := { m with count := m.count + 1, word := up m.word (pg m k i) (.mark k) }) I S (passF_will m _ 0).1 rfl hold ?_ (passF_k _ _) (fun f _ h => h) (fun _ => hu) (fun p k' h => ?_) (fun f hf p => ?_) (fun _ => ⟨(by intro z; cases z), fun p h => keepMark hw h⟩) fun p h c => ?_
      · have := passF_rem (m' := { m with count := m.count + 1, word := up m.word (pg m k i) (.mark k) }) (m := m) rfl (f := ⟨k, .swap, i, v⟩) h3.1
        show _ ≤ if m.word (pg m k i) = .adr (ent m k i).o then 2 * (nn m k - i) + 1 + nn m k else 2 * (nn m k - i) + 3 + nn m k
        rw [if_pos hw]
        simp only at this
        omega
      · have h' : up m.word (pg m k i) (.mark k) p = .mark k' := h
        by_cases e : p = pg m k i
        · rw [e, up_same] at h'
          injection h' with h'
          refine .inr ⟨h'.symm, covF_of ?_ (passF_will m _ 0).1 ncl⟩
          rw [passF_k, e]
          exact up_same
        · rw [up_ne e] at h'; exact .inl h'
      · constructor
        · exact fun h => keepMark hw h
        · intro h
          have h' : up m.word (pg m k i) (.mark k) p = .mark f.k := h
          by_cases e : p = pg m k i
          · rw [e, up_same] at h'; injection h' with h'; exact absurd h' (kne f hf)
          · rw [up_ne e] at h'; exact h'
      · exact covF_of (by rw [passF_k]; exact h) (passF_will m _ 0).1 ncl
    · simp only [if_neg hw]
      refine endF0 (m' := { m with count := m.count + 1 }) I S (by intro z; cases z) rfl hold ?_ rfl (fun f _ h => h) (fun _ => hu) rfl (by intro z; cases z) (by intro z; cases z)
      show 2 * (nn m k - i) + 2 + nn m k + 1 ≤ if m.word (pg m k i) = .adr (ent m k i).o then 2 * (nn m k - i) + 1 + nn m k else 2 * (nn m k - i) + 3 + nn m k
      rw [if_neg hw]
      omega
  | failed =>
    obtain ⟨l, hl, lw, lmax, kne⟩ := TF (by intro z; cases z)
    unfold stepF
    simp only
    split
    · refine endF0 (m' := { m with count := m.count + 1, sts := up m.sts k (.fail (m.count + 1)) }) I S (by intro z; cases z) rfl hold ?_ rfl (fun f hf h => ?_) ?_ rfl (by intro z; cases z) (by intro z; cases z)
      · show 1 + nn m k + 1 ≤ 2 + nn m k
        omega
      · show up m.sts k _ f.k = .und
        rw [up_ne (fun e => kne f hf e.symm)]; exact h
      · intro a
        rcases a with a | a | a | a | a <;> cases a
    · refine endF0 (m' := { m with count := m.count + 1 }) I S (by intro z; cases z) rfl hold ?_ rfl (fun f _ h => h) ?_ rfl (by intro z; cases z) (by intro z; cases z)
      · show 1 + nn m k + 1 ≤ 2 + nn m k
        omega
      · intro a
        rcases a with a | a | a | a | a <;> cases a
  | done =>
    obtain ⟨l, hl, lw, lmax, kne⟩ := TF (by intro z; cases z)
    unfold stepF
    simp only
    split
    · refine endF0 (m' := { m with count := m.count + 1, sts := up m.sts k (.done (m.count + 1)) }) I S (by intro z; cases z) rfl hold ?_ rfl (fun f hf h => ?_) ?_ rfl (by intro z; cases z) (by intro z; cases z)
      · show 1 + nn m k + 1 ≤ 2 + nn m k
        omega
      · show up m.sts k _ f.k = .und
        rw [up_ne (fun e => kne f hf e.symm)]; exact h
      · intro a
        rcases a with a | a | a | a | a <;> cases a
    · refine endF0 (m' := { m with count := m.count + 1 }) I S (by intro z; cases z) rfl hold ?_ rfl (fun f _ h => h) ?_ rfl (by intro z; cases z) (by intro z; cases z)
      · show 1 + nn m k + 1 ≤ 2 + nn m k
        omega
      · intro a
        rcases a with a | a | a | a | a <;> cases a
  | clean =>
    have h3 : i < nn m k ∧ v = m.sts k ∧ m.sts k ≠ .und := h2
    obtain ⟨h3, hv, hdec⟩ := h3
    have kne : ∀ f ∈ r, f.k ≠ k := fun f hf e => hdec (by rw [← e]; exact mid f hf)
    have hwd : (stepF m ⟨k, .clean, i, v⟩).1.deeds = m.deeds := by
      unfold stepF; simp only; split <;> rfl
    have hsd : (stepF m ⟨k, .clean, i, v⟩).1.sts = m.sts := by
      unfold stepF; simp only; split <;> rfl
    have hcov : ∀ p k', (stepF m ⟨k, .clean, i, v⟩).1.word p = .mark k' → m.word p = .mark k' ∧ (m.word p = .mark k → p ≠ pg m k i) := by
      intro p k' h
      have e : (stepF m ⟨k, .clean, i, v⟩).1 = if m.word (pg m k i) = .mark k then { m with count := m.count + 1, word := up m.word (pg m k i) (.adr (shS v (ent m k i))) } else { m with count := m.count + 1 } := rfl
      rw [e] at h
      by_cases hw : m.word (pg m k i) = .mark k
      · rw [if_pos hw] at h
        have h' : up m.word (pg m k i) (.adr (shS v (ent m k i))) p = .mark k' := h
        by_cases ep : p = pg m k i
        · rw [ep, up_same] at h'; cases h'
        · rw [up_ne ep] at h'; exact ⟨h', fun _ => ep⟩
      · rw [if_neg hw] at h
        exact ⟨h, fun z e => hw (by rw [← e]; exact z)⟩
    have hmid : ∀ k', k' ≠ k → ∀ p, m.word p = .mark k' ↔ (stepF m ⟨k, .clean, i, v⟩).1.word p = .mark k' := by
      intro k' hk' p
      refine ⟨fun h => ?_, fun h => (hcov p _ h).1⟩
      have e : (stepF m ⟨k, .clean, i, v⟩).1 = if m.word (pg m k i) = .mark k then { m with count := m.count + 1, word := up m.word (pg m k i) (.adr (shS v (ent m k i))) } else { m with count := m.count + 1 } := rfl
      rw [e]
      by_cases hw : m.word (pg m k i) = .mark k
      · rw [if_pos hw]; exact keepClean hw hk' h
      · rw [if_neg hw]; exact h
    show settle ([if i + 1 = nn m k then (⟨k, .fin, i + 1, v⟩ : Fr) else ⟨k, .clean, i + 1, v⟩] ++ (r ++ b :: old)) = [] ∨ ∃ N', N' < sumR m (⟨k, .clean, i, v⟩ :: (r ++ b :: old)) + 23 * nu m (⟨k, .clean, i, v⟩ :: r) b ∧ Sol (stepF m ⟨k, .clean, i, v⟩).1 (settle ([if i + 1 = nn m k then (⟨k, .fin, i + 1, v⟩ : Fr) else ⟨k, .clean, i + 1, v⟩] ++ (r ++ b :: old))) N'
    by_cases hl : i + 1 = nn m k
    · rw [if_pos hl]
      -- what the top covered it has cleaned
      have gone : ∀ p k', (stepF m ⟨k, .clean, i, v⟩).1.word p = .mark k' → ¬ covF m ⟨k, .clean, i, v⟩ p := by
        intro p k' h c
        obtain ⟨a, b⟩ := hcov p k' h
        obtain ⟨c1, _, c2⟩ := c
        obtain ⟨j, j1, j2, j3⟩ := c2 rfl
        have j1' : i ≤ j := j1
        have j2' : j < nn m k := j2
        have : j = i := by omega
        subst this
        exact b c1 j3.symm
      have bk : ∀ p k', (stepF m ⟨k, .clean, i, v⟩).1.word p = .mark k' → covB m b p → covB (stepF m ⟨k, .clean, i, v⟩).1 b p := by
        intro p k' h c
        obtain ⟨c1, j, j1, j2⟩ := covB_word c (.inr (.inr (.inl bhelp)))
        refine covB_of ?_ (.inr (.inr (.inl bhelp))) ⟨j, j1, by rw [pg_d hwd]; exact j2⟩
        have a := (hcov p k' h).1
        rw [c1] at a; injection a with a; rw [h, a]
      cases r with
      | nil =>
        have e0 : settle ([(⟨k, .fin, i + 1, v⟩ : Fr)] ++ ([] ++ b :: old)) = { b with ph := .word } :: old := by unfold settle; simp
        rw [e0]
        have le : nu (stepF m ⟨k, .clean, i, v⟩).1 [] { b with ph := .word } ≤ nu m [⟨k, .clean, i, v⟩] b := by
          refine nu_le fun p k' h => .inr ⟨(hcov p k' h).1, fun C => ?_⟩
          rcases C with ⟨f, hf, c⟩ | c
          · cases List.mem_singleton.mp hf
            exact absurd c (gone p k' h)
          · have := bk p k' h c
            obtain ⟨c1, c2⟩ := covB_word this (.inr (.inr (.inl bhelp)))
            exact .inr (covB_of c1 (.inl rfl) c2)
        refine .inr ⟨_, ?_, [], { b with ph := .word }, old, rfl, SInv.base _ _, Nat.le_refl _⟩
        rw [List.nil_append, sumR_cons, sumR_cons, sumR_cons, sumR_help hwd hold, rem_word bhelp, rem_help hwd bhelp]
        have : rem m ⟨k, .clean, i, v⟩ = nn m k - i := rfl
        omega
      | cons l x =>
        have lh : l.ph = .help := S.hr l List.mem_cons_self
        have e0 : settle ([(⟨k, .fin, i + 1, v⟩ : Fr)] ++ (l :: x ++ b :: old)) = { l with ph := .word } :: (x ++ b :: old) := by unfold settle; simp
        rw [e0]
        have xh : ∀ f ∈ x, f.ph = .help := fun f hf => S.hr f (List.mem_cons_of_mem _ hf)
        have le : nu (stepF m ⟨k, .clean, i, v⟩).1 ({ l with ph := .word } :: x) b ≤ nu m (⟨k, .clean, i, v⟩ :: l :: x) b := by
          refine nu_le fun p k' h => .inr ⟨(hcov p k' h).1, fun C => ?_⟩
          rcases C with ⟨f, hf, c⟩ | c
          · rcases List.mem_cons.mp hf with rfl | hf
            · exact absurd c (gone p k' h)
            · have c' := (hmid f.k (kne f hf) p).mp c.1
              rcases List.mem_cons.mp hf with rfl | hf
              · exact .inl ⟨_, List.mem_cons_self, covF_of c' (by intro z; cases z) (by intro z; cases z)⟩
              · exact .inl ⟨f, List.mem_cons_of_mem _ hf, covF_of c' (by rw [xh f hf]; intro z; cases z) (by rw [xh f hf]; intro z; cases z)⟩
          · exact .inr (bk p k' h c)
        have D := S.desc
        have hxh : ∀ g ∈ x ++ b :: old, g.ph = .help := fun g hg => hh g (by rw [List.cons_append]; exact List.mem_cons_of_mem _ hg)
        refine .inr ⟨_, ?_, { l with ph := .word } :: x, b, old, rfl, ⟨fun _ => bhelp, xh, fun f hf a => ?_, ?_, fun f hf => ?_, ?_⟩, Nat.le_refl _⟩
        · rw [List.cons_append, sumR_cons, sumR_cons, sumR_cons, sumR_help hwd hxh, rem_word lh, rem_help hwd lh]
          have : rem m ⟨k, .clean, i, v⟩ = nn m k - i := rfl
          omega
        · rcases List.mem_cons.mp hf with rfl | hf
          · rw [hsd]; exact mid l List.mem_cons_self
          · rw [hsd]; exact mid f (List.mem_cons_of_mem _ hf)
        · have A := adj_keep hwd (r := l :: x) (b := b) S.hr (fun f hf p => (hmid f.k (kne f hf) p).mp) (by
            have := S.adj
            exact this.2)
          cases x with
          | nil => exact ⟨fun _ => A.1 (by rw [lh]; intro z; cases z), trivial⟩
          | cons l2 x2 => exact ⟨fun _ => A.1 (by rw [lh]; intro z; cases z), A.2⟩
        · rw [pgF_d hwd]
          exact fun z => S.w1 f (List.mem_cons_of_mem _ hf) ((hmid f.k (kne f (List.mem_cons_of_mem _ hf)) _).mpr z)
        · have D2 := (List.pairwise_cons.mp D).2
          refine List.Pairwise.imp ?_ D2
          intro a c h
          rw [pgF_d hwd, pgF_d hwd]; exact h
    · rw [if_neg hl]
      refine endF I S (by intro z; cases z) hwd hold ?_ rfl (fun f _ h => by rw [hsd]; exact h) ?_ (fun p k' h => .inl (hcov p k' h).1) (fun f hf p => hmid f.k (kne f hf) p) (fun z => absurd rfl z) fun p h c => ?_
      · show nn (stepF m ⟨k, .clean, i, v⟩).1 k - (i + 1) + 1 ≤ nn m k - i
        rw [nn_d hwd]
        omega
      · intro a
        rcases a with a | a | a | a | a <;> cases a
      · obtain ⟨a, b⟩ := hcov p _ h
        obtain ⟨c1, _, c2⟩ := c
        obtain ⟨j, j1, j2, j3⟩ := c2 rfl
        have j1' : i ≤ j := j1
        have : j ≠ i := by intro e; subst e; exact b c1 j3.symm
        exact ⟨h, (fun z => nomatch (z : Ph.clean = Ph.fin)), fun _ => ⟨j, by show i + 1 ≤ j; omega, by rw [nn_d hwd]; exact j2, by rw [pg_d hwd]; exact j3⟩⟩
end

/-- one access alone -/
theorem solo_step {m : Mem} {fits : Nat → Bool} {x : Th} {N : Nat} (I : MInv m) (ok : ∀ f ∈ x.fs, FOk m fits f) (S : Set1 m x) (h : Sol m x.fs N) : (stepS m x.fs).2 = [] ∨ ∃ N', N' < N ∧ Sol (stepS m x.fs).1 (stepS m x.fs).2 N' := by
  obtain ⟨root, fs⟩ := x
  obtain ⟨fresh, b, old, e, SI, le⟩ := h
  have e' : fs = fresh ++ b :: old := e
  subst e'
  cases fresh with
  | nil =>
    obtain ⟨n1, n2, hh⟩ := S.top b old rfl
    rcases soloB (fits := fits) I (ok b List.mem_cons_self) n1 n2 hh with h | ⟨N', lt, h⟩
    · exact .inl h
    · exact .inr ⟨N', Nat.lt_of_lt_of_le lt le, h⟩
  | cons u r =>
    obtain ⟨n1, n2, hh⟩ := S.top u (r ++ b :: old) rfl
    rcases soloF (fits := fits) I SI (ok u List.mem_cons_self) (fun f hf => ok f (List.mem_cons_of_mem _ (List.mem_append_left _ hf))) (ok b (List.mem_cons_of_mem _ (List.mem_append_right _ List.mem_cons_self))) n1 n2 (fun g hg => hh g (List.mem_append_right _ (List.mem_cons_of_mem _ hg))) with h | ⟨N', lt, h⟩
    · exact .inl h
    · exact .inr ⟨N', Nat.lt_of_lt_of_le lt le, h⟩

/-- how much a stack may hold: three accesses a frame -/
def wt : Ph → Nat
  | .record => 0
  | .status => 1
  | _ => 2
def dm : List Fr → Nat
  | [] => 0
  | f :: r => 3 * r.length + wt f.ph
theorem wt_le (p : Ph) : wt p ≤ 2 := by cases p <;> decide
theorem dm_step (m : Mem) {root : Nat} {f : Fr} {r : List Fr} (n1 : f.ph ≠ .help) (n2 : f.ph ≠ .fin) : dm (stepS m (f :: r)).2 ≤ dm (f :: r) + 1 := by
  show dm (settle ((stepF m f).2 ++ r)) ≤ 3 * r.length + wt f.ph + 1
  have w : ∀ g, (stepF m f).2 = [g] → wt g.ph ≤ wt f.ph + 1 := by
    intro g hg
    by_cases h : wt f.ph = 0
    · have : f.ph = .record := by revert h; cases f.ph <;> simp [wt]
      have e : (stepF m f).2 = [{ f with ph := .status }] := by unfold stepF; rw [this]
      rw [e] at hg
      injection hg with hg
      rw [← hg, h]
      show 1 ≤ _
      omega
    · have := wt_le g.ph
      omega
  rcases stepF_shape m f n1 n2 with ⟨g, e, _⟩ | ⟨k', e⟩
  · have := w g e
    rw [e]
    by_cases hf : g.ph = .fin
    · cases r with
      | nil =>
        have e0 : settle ([g] ++ []) = [] := by unfold settle; simp [hf]
        rw [e0]; exact Nat.zero_le _
      | cons b r' =>
        have e0 : settle ([g] ++ b :: r') = { b with ph := .word } :: r' := by unfold settle; simp [hf]
        rw [e0]
        show 3 * r'.length + 2 ≤ 3 * (r'.length + 1) + _ + 1
        omega
    · have e0 : settle ([g] ++ r) = g :: r := by unfold settle; simp [hf]
      rw [e0]
      show 3 * r.length + wt g.ph ≤ _
      omega
  · rw [e]
    have e0 : settle ([⟨k', .record, 0, .und⟩, { f with ph := .help }] ++ r) = ⟨k', .record, 0, .und⟩ :: { f with ph := .help } :: r := by unfold settle; simp
    rw [e0]
    show 3 * (r.length + 1) + 0 ≤ 3 * r.length + wt f.ph + 1
    have hw : f.ph = .word := by
      revert e
      unfold stepF
      cases hp : f.ph <;> simp only <;> (try split) <;> simp
    rw [hw]
    show _ ≤ 3 * r.length + 2 + 1
    omega

theorem sumR_le {m : Mem} {fits : Nat → Bool} (I : MInv m) : ∀ {l : List Fr}, (∀ f ∈ l, FOk m fits f) → (∀ f ∈ l, f.ph = .help) → sumR m l ≤ 20 * l.length
  | [], _, _ => Nat.le_refl _
  | f :: l, h1, h2 => by
    have ih := sumR_le I (fun g hg => h1 g (List.mem_cons_of_mem _ hg)) fun g hg => h2 g (List.mem_cons_of_mem _ hg)
    rw [sumR_cons]
    have n6 : nn m f.k ≤ 6 := (I.wf f.k (h1 f List.mem_cons_self).1).le
    have : rem m f = 2 * (nn m f.k - f.i) + 2 + nn m f.k := by unfold rem; rw [h2 f List.mem_cons_self]
    simp
    omega

theorem sol_start {m : Mem} {fits : Nat → Bool} {x : Th} (I : MInv m) (ok : ∀ f ∈ x.fs, FOk m fits f) (S : Set1 m x) (hd : dm x.fs ≤ 110) (hne : x.fs ≠ []) : Sol m x.fs 882 := by
  obtain ⟨root, fs⟩ := x
  cases fs with
  | nil => exact absurd rfl hne
  | cons b old =>
    obtain ⟨n1, n2, hh⟩ := S.top b old rfl
    refine ⟨[], b, old, rfl, SInv.base _ _, ?_⟩
    have h6 : nu m [] b ≤ 6 := cnt_six
    have hs := sumR_le I (fun g hg => ok g (List.mem_cons_of_mem _ hg)) hh
    have hl : 3 * old.length + wt b.ph ≤ 110 := hd
    have hr : rem m b ≤ 22 := by
      have n6 : nn m b.k ≤ 6 := (I.wf b.k (ok b List.mem_cons_self).1).le
      unfold rem
      split <;> (try split) <;> omega
    show sumR m (b :: old) + _ ≤ 882
    rw [sumR_cons]
    omega
end Esp
set_option Elab.async false
set_option linter.all false
set_option maxRecDepth 100000
namespace Wk
open PySem L2
open Esp (En Sts Wd Ph Mem es nn ent pg entAt shS shW shown stepF stepS settle passF)
/-! ### the text by places -/
def top (i : Nat) : Stmt := PySem.Challenge.pw_espalier_k06_whole_deeds.main.body.getD i (.Pass ⟨0, 0, 0, 0⟩)
abbrev sStackI : Stmt := inClass (top 2) 0
abbrev sSettle : Stmt := inClass (top 2) 1
abbrev sStep : Stmt := inClass (top 2) 2
abbrev sEnded : Stmt := inClass (top 2) 3
abbrev sValue : Stmt := inClass (top 2) 4
abbrev sIsMark : Stmt := top 11
abbrev sLayoutI : Stmt := inClass (top 12) 0
abbrev sWord : Stmt := inClass (top 12) 2
abbrev sRecord : Stmt := inClass (top 12) 3
abbrev sCells : Stmt := inClass (top 12) 4
abbrev sMemI : Stmt := inClass (top 13) 0
abbrev sCheck : Stmt := inClass (top 13) 1
abbrev sAccess : Stmt := inClass (top 13) 2
abbrev sChanged : Stmt := inClass (top 13) 3
abbrev sPeek : Stmt := inClass (top 13) 4
abbrev sDeedRec : Stmt := top 15
abbrev sDoingI : Stmt := inClass (top 16) 0
abbrev sMarkOf : Stmt := inClass (top 16) 1
abbrev sRequest : Stmt := inClass (top 16) 2
abbrev sWordReq : Stmt := inClass (top 16) 3
abbrev sAccept : Stmt := inClass (top 16) 4
abbrev sTakeStatus : Stmt := inClass (top 16) 5
abbrev sTakeWord : Stmt := inClass (top 16) 6
abbrev sTakeSwap : Stmt := inClass (top 16) 7
abbrev sPassEntry : Stmt := inClass (top 16) 8
abbrev sShownBy : Stmt := top 18
abbrev sShownNow : Stmt := top 19
abbrev sTape : Stmt := top 21
abbrev sAt : Stmt := top 22
abbrev sLShown : Stmt := top 23
abbrev sBegin : Stmt := top 24
abbrev sDecided : Stmt := top 25
abbrev sLStep : Stmt := top 26
abbrev sLEnd : Stmt := top 27
abbrev sLaw : Stmt := top 28

/-! ### fields by place -/
theorem lk_at {fs : List (Str × V)} (nd : (fs.map (·.1)).Nodup) {i : Nat} {f : Str} {v : V} (h : fs[i]? = some (f, v)) : fs.lookup f = some v := by
  induction fs generalizing i with
  | nil => simp at h
  | cons a r ih =>
    obtain ⟨g, w⟩ := a
    have nd' := List.nodup_cons.mp nd
    cases i with
    | zero =>
      have h' : (g, w) = (f, v) := by simpa using h
      cases h'
      rw [List.lookup_cons]; simp
    | succ i =>
      have h' : r[i]? = some (f, v) := by simpa using h
      have ne : f ≠ g := by
        rintro rfl
        exact nd'.1 (List.mem_map.mpr ⟨(f, v), List.mem_of_getElem? h', rfl⟩)
      rw [List.lookup_cons]
      have : (f == g) = false := by simpa using ne
      rw [this]
      exact ih nd'.2 h'
theorem lk_no {fs : List (Str × V)} {f : Str} (h : f ∉ fs.map (·.1)) : fs.lookup f = none := by
  induction fs with
  | nil => rfl
  | cons a r ih =>
    obtain ⟨g, w⟩ := a
    rw [List.map_cons, List.mem_cons, not_or] at h
    rw [List.lookup_cons]
    have : (f == g) = false := by simpa using h.1
    rw [this]
    exact ih h.2
theorem put_at {fs : List (Str × V)} (nd : (fs.map (·.1)).Nodup) {i : Nat} {f : Str} {v w : V} (h : fs[i]? = some (f, w)) : putF f v fs = fs.set i (f, v) := by
  induction fs generalizing i with
  | nil => simp at h
  | cons a r ih =>
    obtain ⟨g, u⟩ := a
    have nd' := List.nodup_cons.mp nd
    cases i with
    | zero =>
      have h' : (g, u) = (f, w) := by simpa using h
      cases h'
      show (if f = f then (f, v) :: r else _) = (f, v) :: r
      rw [if_pos rfl]
    | succ i =>
      have h' : r[i]? = some (f, w) := by simpa using h
      have ne : g ≠ f := by
        rintro rfl
        exact nd'.1 (List.mem_map.mpr ⟨(g, w), List.mem_of_getElem? h', rfl⟩)
      show (if g = f then _ else (g, u) :: putF f v r) = (g, u) :: r.set i (f, v)
      rw [if_neg ne, ih nd'.2 h']
theorem put_new {fs : List (Str × V)} {f : Str} {v : V} (h : f ∉ fs.map (·.1)) : putF f v fs = fs ++ [(f, v)] := by
  induction fs with
  | nil => rfl
  | cons a r ih =>
    obtain ⟨g, w⟩ := a
    rw [List.map_cons, List.mem_cons, not_or] at h
    have h1 : ¬ g = f := fun e => h.1 e.symm
    show (if g = f then _ else (g, w) :: putF f v r) = _
    rw [if_neg h1, ih h.2]; rfl

/-! ### the objects' fields -/
def dfs (a : Int) (sv ev : V) (i : Int) (st : Str) (hv vv : V) : List (Str × V) :=
  [("address", .int a), ("status", sv), ("entries", ev), ("index", .int i), ("state", .str st), ("helper", hv), ("verdict", vv)]
def dnames : List Str := ["address", "status", "entries", "index", "state", "helper", "verdict"]
theorem dfs_nd {a sv ev i st hv vv} : ((dfs a sv ev i st hv vv).map (·.1)).Nodup := by
  show dnames.Nodup
  decide +kernel
theorem dfs_no {a sv ev i st hv vv} {f : Str} (h : f ∉ dnames) : (dfs a sv ev i st hv vv).lookup f = none := lk_no h
def sfs (ml : Addr) (rv : V) : List (Str × V) := [("machines", .ref ml), ("result", rv)]
theorem sfs_nd {ml rv} : ((sfs ml rv).map (·.1)).Nodup := by
  show (["machines", "result"] : List Str).Nodup
  decide +kernel
theorem sfs_no {ml rv} {f : Str} (h : f ∉ (["machines", "result"] : List Str)) : (sfs ml rv).lookup f = none := lk_no h
def lfs : List (Str × V) := [("threads", .int 4), ("pages", .int 6), ("records", .int 450)]
theorem lfs_nd : (lfs.map (·.1)).Nodup := by
  show (["threads", "pages", "records"] : List Str).Nodup
  decide +kernel
def mfs (lay : Addr) (c : Int) (acc held : Addr) : List (Str × V) := [("layout", .ref lay), ("count", .int c), ("accesses", .ref acc), ("held", .ref held)]
def mnames : List Str := ["layout", "count", "accesses", "held"]
theorem mfs_nd {lay c acc held} : ((mfs lay c acc held).map (·.1)).Nodup := by
  show mnames.Nodup
  decide +kernel
theorem mfs_no {lay c acc held} {f : Str} (h : f ∉ mnames) : (mfs lay c acc held).lookup f = none := lk_no h

/-- the classes' addresses -/
structure Cl where
  S : Addr
  L : Addr
  M : Addr
  D : Addr
/-- what the walk asks of the top -/
structure Txt (K : PySem.W.Frag) (mg : Str → Option Value) (c : Cl) : Prop where
  S : Cls K c.S
  L : Cls K c.L
  M : Cls K c.M
  D : Cls K c.D
  sMachines : NoAttr K c.S "machines"
  sResult : NoAttr K c.S "result"
  lThreads : NoAttr K c.L "threads"
  lPages : NoAttr K c.L "pages"
  lRecords : NoAttr K c.L "records"
  mLayout : NoAttr K c.M "layout"
  mCount : NoAttr K c.M "count"
  mAccesses : NoAttr K c.M "accesses"
  mHeld : NoAttr K c.M "held"
  dAddress : NoAttr K c.D "address"
  dStatus : NoAttr K c.D "status"
  dEntries : NoAttr K c.D "entries"
  dIndex : NoAttr K c.D "index"
  dState : NoAttr K c.D "state"
  dHelper : NoAttr K c.D "helper"
  dVerdict : NoAttr K c.D "verdict"
  firstWord : ∃ t, mg "FIRST_WORD" = some (.int 5 t)
  mostThreads : ∃ t, mg "MOST_THREADS" = some (.int 4 t)
  mostPages : ∃ t, mg "MOST_PAGES" = some (.int 48 t)
  kinds : ∃ a, mg "KINDS" = some (.ref a) ∧ ∀ H : Hp, SqT K H a [.str "read", .str "write", .str "swap", .str "decide"]
  len : mg "len" = none
  range : mg "range" = none
  isinstance : mg "isinstance" = none
  tuple : mg "tuple" = none
  abs : mg "abs" = none
  int : mg "int" = none
  min : mg "min" = none
  max : mg "max" = none

section
variable (P : Program) (w : World) (K : PySem.W.Frag) (mg : Str → Option Value) (base : Heap)
/-- a method that keeps its promise -/
structure MOk (C : Addr) (name : Str) (k : Nat) (ps : List Str) (sp : Sp) : Prop where
  ex : ∃ (f : Addr) (fd : FuncData), Meth K C name f ∧ FnOk P w K mg base CX0 k f fd ps sp ∧ Binds K fd ps []
/-- a def of the module's -/
structure DOk (name : Str) (k : Nat) (ps : List Str) (sp : Sp) : Prop where
  ex : ∃ (f : Addr) (fd : FuncData), mg name = some (.ref f) ∧ PySem.W.keepIn K (.ref f) = true ∧ FnOk P w K mg base CX0 k f fd ps sp ∧ Binds K fd ps []
/-- a class that is made -/
structure COk (C : Addr) (name : Str) (k : Nat) (ps : List Str) (sp : Sp) : Prop where
  ex : ∃ (f : Addr) (fd : FuncData), mg name = some (.ref C) ∧ Mk K C f ∧ FnOk P w K mg base CX0 k f fd ps sp ∧ Binds K fd ps []
end

/-! ### data on the heap -/
def EnV (H : Hp) (v : V) (e : En) : Prop := ∃ a, v = .ref a ∧ H a = some (.tup [.int (5 + e.p), .int e.o, .int e.n])
def EnsV (H : Hp) (v : V) (d : List En) : Prop := ∃ a xs, v = .ref a ∧ H a = some (.tup xs) ∧ xs.length = d.length ∧ ∀ (j : Nat) (e : En), d[j]? = some e → ∃ x, xs[j]? = some x ∧ EnV H x e
def StsV (H : Hp) (v : V) : Sts → Prop
  | .und => v = .int 0
  | .done t => ∃ a, v = .ref a ∧ H a = some (.tup [.str "done", .int t])
  | .fail t => ∃ a, v = .ref a ∧ H a = some (.tup [.str "failed", .int t])
def MarkV (H : Hp) (v : V) (k : Nat) (e : En) : Prop := ∃ a, v = .ref a ∧ H a = some (.tup [.int (100 + 2 * k), .int (101 + 2 * k), .int e.o, .int e.n])
def WdV (m : Mem) (H : Hp) (v : V) (p : Nat) : Wd → Prop
  | .adr a => v = .int a
  | .mark k => MarkV H v k (entAt (es m k) p)
def RecV (H : Hp) (v : V) (k : Nat) (d : List En) : Prop := ∃ a ev, v = .ref a ∧ H a = some (.tup [.str "deed", .int (101 + 2 * k), ev]) ∧ EnsV H ev d

/-- the tuples stand -/
def Tups (H H' : Hp) : Prop := ∀ b xs, H b = some (.tup xs) → H' b = some (.tup xs)
theorem Tups.refl (H : Hp) : Tups H H := fun _ _ h => h
theorem Tups.trans {H H1 H2 : Hp} (a : Tups H H1) (b : Tups H1 H2) : Tups H H2 := fun c o h => b c o (a c o h)
theorem Same.tups {H H' : Hp} (h : Same H H') : Tups H H' := fun b xs e => h b _ e
theorem Tups.upd {H : Hp} {a : Addr} {o : HO} (h : ∀ xs, H a ≠ some (.tup xs)) : Tups H (L2.upd H a o) := fun b xs e => by
  rw [upd_ne (by rintro rfl; exact h xs e)]; exact e
section
variable {H H' : Hp} {v : V}
theorem EnV.mono (t : Tups H H') {e : En} (h : EnV H v e) : EnV H' v e := by
  obtain ⟨a, rfl, h⟩ := h
  exact ⟨a, rfl, t _ _ h⟩
theorem EnsV.mono (t : Tups H H') {d : List En} (h : EnsV H v d) : EnsV H' v d := by
  obtain ⟨a, xs, rfl, h, l, f⟩ := h
  refine ⟨a, xs, rfl, t _ _ h, l, fun j e hj => ?_⟩
  obtain ⟨x, h1, h2⟩ := f j e hj
  exact ⟨x, h1, h2.mono t⟩
theorem StsV.mono (t : Tups H H') {s : Sts} (h : StsV H v s) : StsV H' v s := by
  cases s with
  | und => exact h
  | done _ => obtain ⟨a, rfl, h⟩ := h; exact ⟨a, rfl, t _ _ h⟩
  | fail _ => obtain ⟨a, rfl, h⟩ := h; exact ⟨a, rfl, t _ _ h⟩
theorem MarkV.mono (t : Tups H H') {k : Nat} {e : En} (h : MarkV H v k e) : MarkV H' v k e := by
  obtain ⟨a, rfl, h⟩ := h
  exact ⟨a, rfl, t _ _ h⟩
theorem WdV.mono (t : Tups H H') {m : Mem} {p : Nat} {x : Wd} (h : WdV m H v p x) : WdV m H' v p x := by
  cases x with
  | adr a => exact h
  | mark k => exact MarkV.mono t h
theorem RecV.mono (t : Tups H H') {k : Nat} {d : List En} (h : RecV H v k d) : RecV H' v k d := by
  obtain ⟨a, ev, rfl, h, e⟩ := h
  exact ⟨a, ev, rfl, t _ _ h, e.mono t⟩
end

def phS : Ph → Str
  | .record => "record"
  | .status => "status"
  | .word => "word"
  | .swap => "swap"
  | .help => "help"
  | .failed => "failed"
  | .done => "done"
  | .final => "final"
  | .clean => "clean"
  | .fin => "end"

/-- a machine of class Doing at a: the frame f of the deeds of m; hv its helper -/
structure FrA (c : Cl) (m : Mem) (H : Hp) (a : Addr) (f : Esp.Fr) (sv ev hv vv : V) (dx : Addr) : Prop where
  at_ : H a = some (.ins c.D dx (dfs (100 + 2 * f.k) sv ev f.i (phS f.ph) hv vv))
  sv : f.ph ≠ .record → sv = .int (101 + 2 * f.k) ∧ EnsV H ev (es m f.k)
  vv : f.ph = .clean ∨ f.ph = .fin → StsV H vv f.v
def FrAt (c : Cl) (m : Mem) (H : Hp) (a : Addr) (f : Esp.Fr) : Prop := ∃ sv ev hv vv dx, FrA c m H a f sv ev hv vv dx
theorem FrA.mono {c : Cl} {m : Mem} {H H' : Hp} {a : Addr} {f : Esp.Fr} {sv ev hv vv : V} {dx : Addr} (t : Tups H H') (h : FrA c m H a f sv ev hv vv dx) (e : H' a = H a) : FrA c m H' a f sv ev hv vv dx :=
  ⟨e.trans h.at_, fun n => ⟨(h.sv n).1, (h.sv n).2.mono t⟩, fun n => (h.vv n).mono t⟩
end Wk
set_option Elab.async false
set_option linter.all false
set_option maxRecDepth 100000
set_option maxHeartbeats 4000000
namespace Wk
open PySem L2
open Esp (En Sts Wd Ph Mem es nn ent pg entAt shS shW shown stepF stepS settle passF)
/-! ### equal data -/
def EqR (K : PySem.W.Frag) (H : Hp) (x y : V) (b : Bool) : Prop := ∃ d e, Dp K H x d ∧ Dp K H y e ∧ SeqAt.shaped d = true ∧ SeqAt.shaped e = true ∧ PyData.eqv d e = b
theorem EqR.eq {K : PySem.W.Frag} {H : Hp} {x y : V} {b : Bool} {Q : VK} (h : EqR K H x y b) (q : Q (.bl b) H) : rEqD K x y H Q := by
  obtain ⟨d, e, h1, h2, h3, h4, rfl⟩ := h
  exact ⟨d, e, h1, h2, h3, h4, q⟩
theorem EqR.ne {K : PySem.W.Frag} {H : Hp} {x y : V} {b : Bool} {Q : VK} (h : EqR K H x y b) (q : Q (.bl (!b)) H) : rNeD K x y H Q := by
  obtain ⟨d, e, h1, h2, h3, h4, rfl⟩ := h
  exact ⟨d, e, h1, h2, h3, h4, q⟩
section
variable {K : PySem.W.Frag} {H : Hp} {x y : V}
def dSts : Sts → PyData
  | .und => .int 0
  | .done t => .tuple [.str "done", .int t]
  | .fail t => .tuple [.str "failed", .int t]
def dMark (k : Nat) (e : En) : PyData := .tuple [.int (100 + 2 * k), .int (101 + 2 * k), .int e.o, .int e.n]
def dWd (m : Mem) (p : Nat) : Wd → PyData
  | .adr a => .int a
  | .mark k => dMark k (entAt (es m k) p)
theorem sh_int (i : Int) : SeqAt.shaped (.int i) = true := rfl
theorem st_df : (("done" : Str) == ("failed" : Str)) = false := by decide +kernel
theorem st_fd : (("failed" : Str) == ("done" : Str)) = false := by decide +kernel
theorem sh_str2 {x : Str} (h : (PyData.str x).canLay0 = true) (i : Int) : SeqAt.shaped (.tuple [.str x, .int i]) = true := by
  simp only [SeqAt.shaped, PyData.canLay0, PyData.canLayAll0] at h ⊢
  rw [h]; rfl
theorem sh_sts (s : Sts) : SeqAt.shaped (dSts s) = true := by
  cases s with
  | und => rfl
  | done t => exact sh_str2 (by decide +kernel) _
  | fail t => exact sh_str2 (by decide +kernel) _
theorem sh_mark (k : Nat) (e : En) : SeqAt.shaped (dMark k e) = true := rfl
theorem sh_wd (m : Mem) (p : Nat) (x : Wd) : SeqAt.shaped (dWd m p x) = true := by cases x <;> rfl
theorem dp_sts {s : Sts} (h : StsV H x s) : Dp K H x (dSts s) := by
  cases s with
  | und => cases (h : x = .int 0); exact .int 0
  | done t => obtain ⟨a, rfl, h⟩ := h; exact .tup (SqT.of h) (.cons (.str _) (.cons (.int _) .nil))
  | fail t => obtain ⟨a, rfl, h⟩ := h; exact .tup (SqT.of h) (.cons (.str _) (.cons (.int _) .nil))
theorem dp_mark {k : Nat} {e : En} (h : MarkV H x k e) : Dp K H x (dMark k e) := by
  obtain ⟨a, rfl, h⟩ := h
  exact .tup (SqT.of h) (.cons (.int _) (.cons (.int _) (.cons (.int _) (.cons (.int _) .nil))))
theorem dp_wd {m : Mem} {p : Nat} {s : Wd} (h : WdV m H x p s) : Dp K H x (dWd m p s) := by
  cases s with
  | adr a => cases (h : x = .int a); exact .int a
  | mark k => exact dp_mark h
theorem eq_sts {s t : Sts} (h : StsV H x s) (h' : StsV H y t) : EqR K H x y (decide (s = t)) := by
  refine ⟨_, _, dp_sts h, dp_sts h', sh_sts s, sh_sts t, ?_⟩
  cases s <;> cases t <;> simp only [dSts, PyData.eqv, PyData.eqvAll, st_df, st_fd, Bool.false_and, Bool.and_true, beq_self_eq_true, Bool.true_and]
  · rfl
  · simp
  · simp
  · simp
  · rename_i a b; by_cases h : a = b <;> simp [h]; omega
  · simp
  · simp
  · simp
  · rename_i a b; by_cases h : a = b <;> simp [h]; omega
theorem eq_sts0 {s : Sts} (h : StsV H x s) : EqR K H x (.int 0) (decide (s = .und)) := eq_sts h (show StsV H (.int 0) .und from rfl)
theorem eq_wd_int {m : Mem} {p : Nat} {s : Wd} {o : Int} (h : WdV m H x p s) : EqR K H x (.int o) (decide (s = .adr o)) := by
  refine ⟨_, _, dp_wd h, .int o, sh_wd m p s, sh_int o, ?_⟩
  cases s with
  | adr a => simp [dWd, PyData.eqv]; by_cases h : a = o <;> simp [h]
  | mark k => simp [dWd, dMark, PyData.eqv]
theorem eq_wd_mark {m : Mem} {p k : Nat} {s : Wd} {e : En} (h : WdV m H x p s) (h' : MarkV H y k e) (he : entAt (es m k) p = e) : EqR K H x y (decide (s = .mark k)) := by
  refine ⟨_, _, dp_wd h, dp_mark h', sh_wd m p s, sh_mark k e, ?_⟩
  cases s with
  | adr a => simp [dWd, dMark, PyData.eqv]
  | mark k' =>
    simp only [dWd, dMark, PyData.eqv, PyData.eqvAll]
    by_cases hk : k' = k
    · subst hk
      rw [he]; simp
    · have h1 : ((100 : Int) + 2 * (k' : Int) == 100 + 2 * (k : Int)) = false := by simp; omega
      rw [h1]; simp [hk]
/-- .. and so it is wherever the tuples stand -/
def EqT (K : PySem.W.Frag) (H : Hp) (x y : V) (b : Bool) : Prop := ∀ H', Tups H H' → EqR K H' x y b
theorem EqT.now {b : Bool} (h : EqT K H x y b) : EqR K H x y b := h H (Tups.refl H)
theorem EqT.mono {H' : Hp} {b : Bool} (t : Tups H H') (h : EqT K H x y b) : EqT K H' x y b := fun H2 t2 => h H2 (t.trans t2)
theorem eqT_sts {s t : Sts} (h : StsV H x s) (h' : StsV H y t) : EqT K H x y (decide (s = t)) := fun _ t => eq_sts (h.mono t) (h'.mono t)
theorem eqT_sts0 {s : Sts} (h : StsV H x s) : EqT K H x (.int 0) (decide (s = .und)) := fun _ t => eq_sts0 (h.mono t)
theorem eqT_wd_int {m : Mem} {p : Nat} {s : Wd} {o : Int} (h : WdV m H x p s) : EqT K H x (.int o) (decide (s = .adr o)) := fun _ t => eq_wd_int (h.mono t)
theorem eqT_wd_mark {m : Mem} {p k : Nat} {s : Wd} {e : En} (h : WdV m H x p s) (h' : MarkV H y k e) (he : entAt (es m k) p = e) : EqT K H x y (decide (s = .mark k)) := fun _ t => eq_wd_mark (h.mono t) (h'.mono t) he
theorem eq_int {i j : Int} : EqR K H (.int i) (.int j) (decide (i = j)) := by
  refine ⟨_, _, .int i, .int j, rfl, rfl, ?_⟩
  simp [PyData.eqv]
  by_cases h : i = j <;> simp [h]
end
end Wk
set_option Elab.async false
set_option linter.all false
set_option maxRecDepth 100000
set_option maxHeartbeats 4000000
namespace Wk
open PySem L2
open Esp (En Sts Wd Ph Mem es nn ent pg entAt shS shW shown stepF stepS settle passF)
section
variable {σ : St} {H : Hp} {i : Nat} {v x y z : V} {ta tb te tv : TE} {b : Bool} {K : PySem.W.Frag} {a C dx : Addr} {fs : List (Str × V)} {f : Str} {t u cc : TT} {D : Ends} {t1 t2 : TS}
theorem tst {s t : Str} (h : σ[i]? = some (some (.str s))) (e : decide (V.str s = V.str t) = b) : Ans (tTest (tOp rEq (tVar i) (tC (.str t)))) σ H b := ans_eq (val_var h) val_c rfl e
/-- a store to a field that is new, that stands -/
theorem st_new (hv : Val tv σ H y) (ha : Val ta σ H (.ref a)) (ho : H a = some (.ins C dx fs)) (hc : Cls K C) (hn : NoAttr K C f) (hl : fs.length < 1000) (hf : f ∉ fs.map (·.1)) (q : D.nx σ (upd H a (.ins C dx (fs ++ [(f, y)])))) : sFld K ta tv f D σ H := by
  refine st_fld hv ha ho hc hn hl ?_
  rw [put_new hf]; exact q
theorem st_put {j : Nat} (hv : Val tv σ H y) (ha : Val ta σ H (.ref a)) (ho : H a = some (.ins C dx fs)) (hc : Cls K C) (hn : NoAttr K C f) (hl : fs.length < 1000) (nd : (fs.map (·.1)).Nodup) (hf : fs[j]? = some (f, z)) (q : D.nx σ (upd H a (.ins C dx (fs.set j (f, y))))) : sFld K ta tv f D σ H := by
  refine st_fld hv ha ho hc hn hl ?_
  rw [put_at nd hf]; exact q
end

section
variable {P : Program} {w : World} {K : PySem.W.Frag} {mg : Str → Option Value} {base : Heap} {c : Cl}
/-! ### Doing.mark_of -/
def spMarkOf (c : Cl) : Sp := fun vs H Q _ => ∃ (a e dx : Addr) (A S : Int) (ev : V) (i : Int) (st : Str) (hv vv : V) (x : V) (o n : Int), vs = [.ref a, .ref e] ∧
  H a = some (.ins c.D dx (dfs A (.int S) ev i st hv vv)) ∧ H e = some (.tup [x, .int o, .int n]) ∧ ∀ p, H p = none → Q (.ref p) (upd H p (.tup [.int A, .int S, .int o, .int n]))
theorem scMO : FnScope ["self", "entry"] ["self", "entry"] (defScope sMarkOf) := ⟨rfl, rfl, rfl, by decide +kernel, rfl, by decide +kernel, by decide +kernel⟩
theorem ok_markof {f : Addr} {fd : FuncData} (T : Txt K mg c) (F : Fun K "mark_of" "Doing.mark_of" sMarkOf f fd) : FnOk P w K mg base CX0 1 f fd ["self", "entry"] (spMarkOf c) := by
  refine F.ok scMO (fun vs H Q E h => ?_) (fun cdv A outer s H vs Q E hr h => ?_)
  · obtain ⟨a, e, dx, A, S, ev, i, st, hv, vv, x, o, n, rfl, _⟩ := h
    rfl
  · obtain ⟨a, e, dx, A, S, ev, i, st, hv, vv, x, o, n, rfl, ha, he, k⟩ := h
    refine ⟨_, pss_one (ps_ret (pe_tup (pa_cons (pe_fld (pv 0) rfl) (pa_cons (pe_fld (pv 0) rfl) (pa_cons (pe_ix ix_tup (pv 1) pe_int (fun _ _ => rfl)) (pa_cons (pe_ix ix_tup (pv 1) pe_int (fun _ _ => rfl)) pa_nil)))))), ?_⟩
    refine ⟨_, rfl, a, c.D, dx, _, _, rfl, ha, T.D, T.dAddress, lk_at dfs_nd (i := 0) rfl, _, rfl, a, c.D, dx, _, _, rfl, ha, T.D, T.dStatus, lk_at dfs_nd (i := 1) rfl,
      _, rfl, e, _, _, _, rfl, rfl, SqT.of he, atI_nat (j := 1) rfl, _, rfl, e, _, _, _, rfl, rfl, SqT.of he, atI_nat (j := 2) rfl, (by show 4 ≤ sizeLine; decide), fun p hp => k p hp⟩

/-! ### Doing.__init__ -/
def spDoing (c : Cl) : Sp := fun vs H Q _ => ∃ (p dx : Addr) (k : Nat), vs = [.ref p, .int (100 + 2 * k)] ∧ H p = some (.ins c.D dx []) ∧
  ∀ (H' : Hp), (∀ m : Mem, FrAt c m H' p ⟨k, .record, 0, .und⟩) → (∀ b o, H b = some o → b ≠ p → H' b = some o) → Q .non H'
theorem scDI : FnScope ["self", "address"] ["self", "address"] (defScope sDoingI) := ⟨rfl, rfl, rfl, by decide +kernel, rfl, by decide +kernel, by decide +kernel⟩
theorem ok_doing {f : Addr} {fd : FuncData} (T : Txt K mg c) (F : Fun K "__init__" "Doing.__init__" sDoingI f fd) : FnOk P w K mg base CX0 1 f fd ["self", "address"] (spDoing c) := by
  refine F.ok scDI (fun vs H Q E h => ?_) (fun cdv A outer s H vs Q E hr h => ?_)
  · obtain ⟨p, dx, k, rfl, _⟩ := h
    rfl
  · obtain ⟨p, dx, k, rfl, hp, q⟩ := h
    refine ⟨_, pss_cons (ps_fld (pv 0) (pv 1) rfl) (pss_cons (ps_fld (pv 0) pe_non rfl) (pss_cons (ps_fld (pv 0) (pe_tup pa_nil) rfl) (pss_cons (ps_fld (pv 0) pe_int rfl)
      (pss_cons (ps_fld (pv 0) pe_str rfl) (pss_cons (ps_fld (pv 0) pe_non rfl) (pss_one (ps_fld (pv 0) pe_non rfl))))))), ?_⟩
    refine ⟨_, rfl, _, rfl, p, c.D, dx, _, rfl, hp, T.D, T.dAddress, (by show 0 < 1000; decide), ?_⟩
    rw [put_new (by show ("address" : Str) ∉ ([] : List Str); decide +kernel)]
    refine ⟨_, rfl, p, c.D, dx, _, rfl, upd_same, T.D, T.dStatus, (by show 1 < 1000; decide), ?_⟩
    rw [put_new (by show ("status" : Str) ∉ (["address"] : List Str); decide +kernel), upd_upd]
    refine ⟨Nat.zero_le _, fun e he => ?_⟩
    have npe : p ≠ e := fun z => by rw [z, upd_same] at he; cases he
    have he0 : H e = none := by rw [upd_ne npe.symm] at he; exact he
    refine ⟨_, rfl, p, c.D, dx, _, rfl, (upd_ne npe).trans upd_same, T.D, T.dEntries, (by show 2 < 1000; decide), ?_⟩
    rw [put_new (by show ("entries" : Str) ∉ (["address", "status"] : List Str); decide +kernel)]
    refine ⟨_, rfl, p, c.D, dx, _, rfl, upd_same, T.D, T.dIndex, (by show 3 < 1000; decide), ?_⟩
    rw [put_new (by show ("index" : Str) ∉ (["address", "status", "entries"] : List Str); decide +kernel), upd_upd]
    refine ⟨_, rfl, p, c.D, dx, _, rfl, upd_same, T.D, T.dState, (by show 4 < 1000; decide), ?_⟩
    rw [put_new (by show ("state" : Str) ∉ (["address", "status", "entries", "index"] : List Str); decide +kernel), upd_upd]
    refine ⟨_, rfl, p, c.D, dx, _, rfl, upd_same, T.D, T.dHelper, (by show 5 < 1000; decide), ?_⟩
    rw [put_new (by show ("helper" : Str) ∉ (["address", "status", "entries", "index", "state"] : List Str); decide +kernel), upd_upd]
    refine ⟨_, rfl, p, c.D, dx, _, rfl, upd_same, T.D, T.dVerdict, (by show 6 < 1000; decide), ?_⟩
    rw [put_new (by show ("verdict" : Str) ∉ (["address", "status", "entries", "index", "state", "helper"] : List Str); decide +kernel), upd_upd]
    refine q _ (fun m => ⟨.non, .ref e, .non, .non, dx, upd_same, fun z => absurd rfl z, fun z => ?_⟩) fun b o hb nb => ?_
    · rcases z with z | z <;> cases z
    · rw [upd_ne nb, upd_ne (ne_of_none hb he0), upd_ne nb]; exact hb
end
end Wk
set_option Elab.async false
set_option linter.all false
set_option maxRecDepth 100000
set_option maxHeartbeats 4000000
namespace Wk
open PySem L2
open Esp (En Sts Wd Ph Mem es nn ent pg entAt shS shW shown stepF stepS settle passF)
theorem iF {b : Bool} {A B : Prop} (h : b = false) (q : B) : if b = true then A else B := by
  rw [h, if_neg Bool.false_ne_true]; exact q
theorem iT {b : Bool} {A B : Prop} (h : b = true) (q : A) : if b = true then A else B := by
  rw [if_pos h]; exact q
theorem Tups.ins {H : Hp} {a C dx : Addr} {fs : List (Str × V)} {o : HO} (h : H a = some (.ins C dx fs)) : Tups H (L2.upd H a o) := Tups.upd fun xs e => by rw [h] at e; cases e
theorem Tups.lst {H : Hp} {a : Addr} {xs : List V} {o : HO} (h : H a = some (.lst xs)) : Tups H (L2.upd H a o) := Tups.upd fun xs e => by rw [h] at e; cases e
section
variable {P : Program} {w : World} {K : PySem.W.Frag} {mg : Str → Option Value} {base : Heap} {c : Cl}
/-! ### Doing.pass_entry -/
def spPass (c : Cl) : Sp := fun vs H Q _ => ∃ (m : Mem) (a : Addr) (f : Esp.Fr) (sv ev hv vv : V) (dx : Addr), vs = [.ref a] ∧ FrA c m H a f sv ev hv vv dx ∧ f.ph ≠ .record ∧
  ∀ H', FrA c m H' a (passF m f) sv ev hv vv dx → (∀ b, b ≠ a → H' b = H b) → Q .non H'
theorem scPE : FnScope ["self"] ["self"] (defScope sPassEntry) := ⟨rfl, rfl, rfl, by decide +kernel, rfl, by decide +kernel, by decide +kernel⟩
theorem ok_pass {f : Addr} {fd : FuncData} (T : Txt K mg c) (F : Fun K "pass_entry" "Doing.pass_entry" sPassEntry f fd) : FnOk P w K mg base CX0 1 f fd ["self"] (spPass c) := by
  refine F.ok scPE (fun vs H Q E h => ?_) (fun cdv A outer s H vs Q E hr h => ?_)
  · obtain ⟨m, a, f, sv, ev, hv, vv, dx, rfl, _⟩ := h
    rfl
  · obtain ⟨m, a, f, sv, ev, hv, vv, dx, rfl, R, hp, k⟩ := h
    have ha := R.at_
    obtain ⟨hsv, hev⟩ := R.sv hp
    obtain ⟨e, xs, rfl, he, hl, hx⟩ := id hev
    have nea : e ≠ a := ne_of he ha (by intro z; cases z)
    have t1 : ∀ o, Tups H (upd H a o) := fun o => Tups.ins ha
    refine ⟨_, pss_cons (ps_fldaug (pv 0) pe_int in_add) (pss_one (ps_if (pt_cmpR op_eq (pe_fld (pv 0) rfl) (pe_callB call_len_seq (by rfl) T.len PySem.boot_len (pa_cons (pe_fld (pv 0) rfl) pa_nil)) (nomark _))
      (pss_one (ps_fld (pv 0) pe_str rfl)) (pss_one (ps_fld (pv 0) pe_str rfl)))), ?_⟩
    refine ⟨_, rfl, a, c.D, dx, _, _, rfl, ha, T.D, T.dIndex, lk_at dfs_nd (i := 3) rfl, _, _, rfl, rfl, dx, _, ha, (by show 7 < 1000; decide), ?_⟩
    rw [put_at dfs_nd (i := 3) rfl]
    refine ⟨_, rfl, a, c.D, dx, dfs (100 + 2 * f.k) sv (.ref e) (f.i + 1) (phS f.ph) hv vv, _, rfl, upd_same, T.D, T.dIndex, lk_at dfs_nd (i := 3) rfl, _, rfl, a, c.D, dx, dfs (100 + 2 * f.k) sv (.ref e) (f.i + 1) (phS f.ph) hv vv, _, rfl, upd_same, T.D, T.dEntries, lk_at dfs_nd (i := 2) rfl,
      e, xs, rfl, .inr (SqT.of ((upd_ne nea).trans he)), rfl, _, rfl, ?_⟩
    have hlen : xs.length = nn m f.k := hl
    by_cases hi : f.i + 1 = nn m f.k
    · refine iT (decide_eq_true (by rw [hlen, ← hi]; rfl)) ?_
      refine ⟨_, rfl, a, c.D, dx, dfs (100 + 2 * f.k) sv (.ref e) (f.i + 1) (phS f.ph) hv vv, rfl, upd_same, T.D, T.dState, (by show 7 < 1000; decide), ?_⟩
      rw [put_at dfs_nd (i := 4) rfl, upd_upd]
      have ep : passF m f = { f with ph := .done, i := f.i + 1 } := by unfold Esp.passF; rw [if_pos hi]
      refine k _ ?_ fun b nb => upd_ne nb
      rw [ep]
      exact ⟨upd_same, fun _ => ⟨hsv, hev.mono (t1 _)⟩, fun z => by rcases z with z | z <;> cases z⟩
    · refine iF (decide_eq_false (by rw [hlen]; intro z; injection z with z; apply hi; omega)) ?_
      refine ⟨_, rfl, a, c.D, dx, dfs (100 + 2 * f.k) sv (.ref e) (f.i + 1) (phS f.ph) hv vv, rfl, upd_same, T.D, T.dState, (by show 7 < 1000; decide), ?_⟩
      rw [put_at dfs_nd (i := 4) rfl, upd_upd]
      have ep : passF m f = { f with ph := .word, i := f.i + 1 } := by unfold Esp.passF; rw [if_neg hi]
      refine k _ ?_ fun b nb => upd_ne nb
      rw [ep]
      exact ⟨upd_same, fun _ => ⟨hsv, hev.mono (t1 _)⟩, fun z => by rcases z with z | z <;> cases z⟩

/-! ### Doing.take_swap -/
def spTakeSwap (c : Cl) : Sp := fun vs H Q _ => ∃ (m : Mem) (a : Addr) (f : Esp.Fr) (sv ev hv vv : V) (dx : Addr) (b : Bool), vs = [.ref a, .bl b] ∧ FrA c m H a f sv ev hv vv dx ∧ f.ph ≠ .record ∧
  ∀ H', FrA c m H' a (if b then passF m f else { f with ph := .word }) sv ev hv vv dx → (∀ b, b ≠ a → H' b = H b) → Q .non H'
theorem scTS : FnScope ["self", "swapped"] ["self", "swapped"] (defScope sTakeSwap) := ⟨rfl, rfl, rfl, by decide +kernel, rfl, by decide +kernel, by decide +kernel⟩
theorem ok_takeswap {f : Addr} {fd : FuncData} (T : Txt K mg c) (F : Fun K "take_swap" "Doing.take_swap" sTakeSwap f fd) (W : MOk P w K mg base c.D "pass_entry" 1 ["self"] (spPass c)) : FnOk P w K mg base CX0 2 f fd ["self", "swapped"] (spTakeSwap c) := by
  obtain ⟨fp, fdp, mp, Gp, bp⟩ := W.ex
  refine F.ok scTS (fun vs H Q E h => ?_) (fun cdv A outer s H vs Q E hr h => ?_)
  · obtain ⟨m, a, f, sv, ev, hv, vv, dx, b, rfl, _⟩ := h
    rfl
  · obtain ⟨m, a, f, sv, ev, hv, vv, dx, b, rfl, R, hp, k⟩ := h
    have ha := R.at_
    obtain ⟨hsv, hev⟩ := R.sv hp
    refine ⟨_, pss_one (ps_if (pt_val (pv 1)) (pss_one (ps_expr (pe_meth0 (pv 0) T.D mp Gp hr bp .nil pass0))) (pss_one (ps_fld (pv 0) pe_str rfl))), ?_⟩
    refine ⟨_, rfl, b, rfl, ?_⟩
    cases b with
    | true =>
      refine iT rfl ?_
      refine ⟨_, rfl, a, dx, _, rfl, ha, dfs_no (by decide +kernel), m, a, f, sv, ev, hv, vv, dx, rfl, R, hp, fun H' R' e => k H' R' e⟩
    | false =>
      refine iF rfl ?_
      refine ⟨_, rfl, a, c.D, dx, _, rfl, ha, T.D, T.dState, (by show 7 < 1000; decide), ?_⟩
      rw [put_at dfs_nd (i := 4) rfl]
      refine k _ ?_ fun b nb => upd_ne nb
      exact ⟨upd_same, fun _ => ⟨hsv, hev.mono (Tups.ins ha)⟩, fun z => by rcases z with z | z <;> cases z⟩

/-! ### Doing.take_status -/
def stF (f : Esp.Fr) (s : Sts) : Esp.Fr := if s = .und then { f with ph := .word } else { f with ph := .clean, i := 0, v := s }
def spTakeStatus (c : Cl) : Sp := fun vs H Q _ => ∃ (m : Mem) (a : Addr) (f : Esp.Fr) (sv ev hv vv : V) (dx : Addr) (x : V) (s : Sts), vs = [.ref a, x] ∧ FrA c m H a f sv ev hv vv dx ∧ f.ph ≠ .record ∧ StsV H x s ∧
  ∀ H', FrAt c m H' a (stF f s) → (∀ b, b ≠ a → H' b = H b) → Q .non H'
theorem scTk : FnScope ["self", "value"] ["self", "value"] (defScope sTakeStatus) := ⟨rfl, rfl, rfl, by decide +kernel, rfl, by decide +kernel, by decide +kernel⟩
theorem ok_takestatus {f : Addr} {fd : FuncData} (T : Txt K mg c) (F : Fun K "take_status" "Doing.take_status" sTakeStatus f fd) : FnOk P w K mg base CX0 1 f fd ["self", "value"] (spTakeStatus c) := by
  refine F.ok scTk (fun vs H Q E h => ?_) (fun cdv A outer s H vs Q E hr h => ?_)
  · obtain ⟨m, a, f, sv, ev, hv, vv, dx, x, st, rfl, _⟩ := h
    rfl
  · obtain ⟨m, a, f, sv, ev, hv, vv, dx, x, st, rfl, R, hp, hx, k⟩ := h
    have ha := R.at_
    obtain ⟨hsv, hev⟩ := R.sv hp
    refine ⟨_, pss_one (ps_if (pt_cmpR (op_eqD hr.units) (pv 1) pe_int (nomark _)) (pss_one (ps_fld (pv 0) pe_str rfl)) (pss_cons (ps_fld (pv 0) (pv 1) rfl) (pss_cons (ps_fld (pv 0) pe_int rfl) (pss_one (ps_fld (pv 0) pe_str rfl))))), ?_⟩
    obtain ⟨d1, d2, q1, q2, q3, q4, q5⟩ := eq_sts0 (K := K) hx
    refine ⟨_, rfl, d1, d2, q1, q2, q3, q4, _, rfl, ?_⟩
    by_cases hu : st = .und
    · refine iT (q5.trans (decide_eq_true hu)) ?_
      refine ⟨_, rfl, a, c.D, dx, _, rfl, ha, T.D, T.dState, (by show 7 < 1000; decide), ?_⟩
      rw [put_at dfs_nd (i := 4) rfl]
      refine k _ ⟨sv, ev, hv, vv, dx, ?_⟩ fun b nb => upd_ne nb
      unfold stF
      rw [if_pos hu]
      exact ⟨upd_same, fun _ => ⟨hsv, hev.mono (Tups.ins ha)⟩, fun z => by rcases z with z | z <;> cases z⟩
    · refine iF (q5.trans (decide_eq_false hu)) ?_
      refine ⟨_, rfl, _, rfl, a, c.D, dx, _, rfl, ha, T.D, T.dVerdict, (by show 7 < 1000; decide), ?_⟩
      rw [put_at dfs_nd (i := 6) rfl]
      refine ⟨_, rfl, a, c.D, dx, dfs (100 + 2 * f.k) sv ev f.i (phS f.ph) hv x, rfl, upd_same, T.D, T.dIndex, (by show 7 < 1000; decide), ?_⟩
      rw [put_at dfs_nd (i := 3) rfl, upd_upd]
      refine ⟨_, rfl, a, c.D, dx, dfs (100 + 2 * f.k) sv ev 0 (phS f.ph) hv x, rfl, upd_same, T.D, T.dState, (by show 7 < 1000; decide), ?_⟩
      rw [put_at dfs_nd (i := 4) rfl, upd_upd]
      refine k _ ⟨sv, ev, hv, x, dx, ?_⟩ fun b nb => upd_ne nb
      unfold stF
      rw [if_neg hu]
      exact ⟨upd_same, fun _ => ⟨hsv, hev.mono (Tups.ins ha)⟩, fun _ => hx.mono (Tups.ins ha)⟩
end
end Wk
set_option Elab.async false
set_option linter.all false
set_option maxRecDepth 100000
set_option maxHeartbeats 4000000
namespace Wk
open PySem L2
open Esp (En Sts Wd Ph Mem es nn ent pg entAt shS shW shown stepF stepS settle passF)
section
variable {P : Program} {w : World} {K : PySem.W.Frag} {mg : Str → Option Value} {base : Heap} {c : Cl}
/-! ### is_mark -/
def TupB (H : Hp) (x : V) (b : Bool) : Prop := (b = true ∧ ∃ r xs, x = .ref r ∧ H r = some (.tup xs)) ∨ (b = false ∧ ∃ i, x = .int i)
theorem TupB.ty {H : Hp} {x : V} {b : Bool} (h : TupB H x b) : ∃ t, TyX K H x t ∧ PySem.W.kitOne K t (.type "tuple") = some b := by
  rcases h with ⟨rfl, r, xs, rfl, h⟩ | ⟨rfl, i, rfl⟩
  · exact ⟨_, .base (.tup h), kit_ty (by decide +kernel)⟩
  · exact ⟨_, .base (.int i), kit_ty (by decide +kernel)⟩
def isMk : Wd → Bool
  | .adr _ => false
  | .mark _ => true
theorem tupB_wd {m : Mem} {H : Hp} {x : V} {p : Nat} {wd : Wd} (h : WdV m H x p wd) : TupB H x (isMk wd) := by
  cases wd with
  | adr a => exact .inr ⟨rfl, a, h⟩
  | mark k => obtain ⟨r, rfl, h⟩ := h; exact .inl ⟨rfl, r, _, rfl, h⟩
def spIsMark : Sp := fun vs H Q _ => ∃ (x : V) (b : Bool), vs = [x] ∧ TupB H x b ∧ Q (.bl b) H
theorem scIM : FnScope ["value"] ["value"] (defScope sIsMark) := ⟨rfl, rfl, rfl, by decide +kernel, rfl, by decide +kernel, by decide +kernel⟩
theorem ok_ismark {f : Addr} {fd : FuncData} (T : Txt K mg c) (F : Fun K "is_mark" "is_mark" sIsMark f fd) : FnOk P w K mg base CX0 1 f fd ["value"] spIsMark := by
  refine F.ok scIM (fun vs H Q E h => ?_) (fun cdv A outer s H vs Q E hr h => ?_)
  · obtain ⟨x, b, rfl, _⟩ := h
    rfl
  · obtain ⟨x, b, rfl, hb, k⟩ := h
    refine ⟨_, pss_one (ps_ret (pe_callB call_isi (by rfl) T.isinstance (by decide +kernel) (pa_cons (pv 0) (pa_cons (pe_bltn (v := .ty "tuple") (by rfl) T.tuple (by decide +kernel) rfl) pa_nil)))), ?_⟩
    obtain ⟨t, h1, h2⟩ := hb.ty (K := K)
    exact ⟨_, rfl, x, _, t, _, b, rfl, .ty "tuple", h1, h2, k⟩

/-! ### Doing.take_word -/
/-- what take_word makes of the frame -/
def TW (c : Cl) (m : Mem) (H H' : Hp) (a : Addr) (f : Esp.Fr) (sv ev hv vv : V) (dx : Addr) : Wd → Prop
  | .adr o => FrA c m H' a { f with ph := if o = (ent m f.k f.i).o then .swap else .failed } sv ev hv vv dx
  | .mark k' => if k' = f.k then FrA c m H' a (passF m f) sv ev hv vv dx else ∃ b, H b = none ∧ FrA c m H' a { f with ph := .help } sv ev (.ref b) vv dx ∧ ∀ m, FrAt c m H' b ⟨k', .record, 0, .und⟩
def spTakeWord (c : Cl) : Sp := fun vs H Q _ => ∃ (m : Mem) (a : Addr) (f : Esp.Fr) (sv ev hv vv : V) (dx : Addr) (x : V) (wd : Wd), vs = [.ref a, x] ∧ FrA c m H a f sv ev hv vv dx ∧ f.ph ≠ .record ∧ f.i < nn m f.k ∧
  entAt (es m f.k) (pg m f.k f.i) = ent m f.k f.i ∧ WdV m H x (pg m f.k f.i) wd ∧ ∀ H', TW c m H H' a f sv ev hv vv dx wd → (∀ b o, H b = some o → b ≠ a → H' b = some o) → Q .non H'
theorem scTW : FnScope ["self", "value", "entry"] ["self", "value"] (defScope sTakeWord) := ⟨rfl, rfl, rfl, by decide +kernel, rfl, by decide +kernel, by decide +kernel⟩
theorem ok_takeword {f : Addr} {fd : FuncData} (T : Txt K mg c) (F : Fun K "take_word" "Doing.take_word" sTakeWord f fd)
    (W1 : MOk P w K mg base c.D "pass_entry" 1 ["self"] (spPass c)) (W2 : MOk P w K mg base c.D "mark_of" 1 ["self", "entry"] (spMarkOf c)) (W3 : DOk P w K mg base "is_mark" 1 ["value"] spIsMark) (W4 : COk P w K mg base c.D "Doing" 1 ["self", "address"] (spDoing c)) :
    FnOk P w K mg base CX0 3 f fd ["self", "value"] (spTakeWord c) := by
  obtain ⟨fp, fdp, mp, Gp, bp⟩ := W1.ex
  obtain ⟨fm, fdm, mm, Gm, bm⟩ := W2.ex
  obtain ⟨fi, fdi, gi, ki, Gi, bi⟩ := W3.ex
  obtain ⟨fD, fdD, gD, MD, GD, bD⟩ := W4.ex
  refine F.ok scTW (fun vs H Q E h => ?_) (fun cdv A outer s H vs Q E hr h => ?_)
  · obtain ⟨m, a, f, sv, ev, hv, vv, dx, x, wd, rfl, _⟩ := h
    rfl
  · obtain ⟨m, a, f, sv, ev, hv, vv, dx, x, wd, rfl, R, hp, hi, hat, hx, k⟩ := h
    have hr1 : Room 1 _ := hr.mono (by decide)
    have ha := R.at_
    obtain ⟨hsv, hev⟩ := R.sv hp
    obtain ⟨e, xs, rfl, he, hl, hent⟩ := id hev
    have hd : (es m f.k)[f.i]? = some (ent m f.k f.i) := by rw [Esp.ent_eq hi]; exact List.getElem?_eq_getElem hi
    obtain ⟨z, hz, q, rfl, hq⟩ := hent _ _ hd
    subst hsv
    refine ⟨_, pss_cons (ps_set (i := 2) scTW.nd rfl (Or.inl rfl) (pe_ix ix_tup (pe_fld (pv 0) rfl) (pe_fld (pv 0) rfl) (fun _ _ => rfl)))
      (pss_one (ps_if (pt_cmpR (op_eqD hr.units) (pv 1) (pe_meth (pv 0) T.D mm Gm hr1 bm .nil pass0 (pa_cons (pv 2) pa_nil)) (nomark _))
        (pss_one (ps_expr (pe_meth0 (pv 0) T.D mp Gp hr1 bp .nil pass0)))
        (pss_one (ps_if (pt_cmpR (op_eqD hr.units) (pv 1) (pe_ix ix_tup (pv 2) pe_int (fun _ _ => rfl)) (nomark _))
          (pss_one (ps_fld (pv 0) pe_str rfl))
          (pss_one (ps_if (pt_val (pe_call Gi hr1 (by rfl) gi ki bi .nil pass0 (pa_cons (pv 1) pa_nil)))
            (pss_cons (ps_fld (pv 0) (pe_make MD GD hr (by rfl) gD bD .nil pass0 (pa_cons (pe_ix ix_tup (pv 1) pe_int (fun _ _ => rfl)) pa_nil)) rfl) (pss_one (ps_fld (pv 0) pe_str rfl)))
            (pss_one (ps_fld (pv 0) pe_str rfl)))))))), ?_⟩
    refine ⟨_, rfl, a, c.D, dx, _, _, rfl, ha, T.D, T.dEntries, lk_at dfs_nd (i := 2) rfl, _, rfl, a, c.D, dx, _, _, rfl, ha, T.D, T.dIndex, lk_at dfs_nd (i := 3) rfl, e, xs, _, _, rfl, rfl, SqT.of he, atI_nat hz, ?_⟩
    -- value == self.mark_of(entry)
    refine ⟨_, rfl, _, rfl, a, dx, _, rfl, ha, dfs_no (by decide +kernel), _, rfl, a, q, dx, _, _, _, _, _, _, _, _, _, _, rfl, ha, hq, fun p0 hp0 => ?_⟩
    have n1 : ∀ {b o}, H b = some o → b ≠ p0 := fun h z => by rw [z, hp0] at h; cases h
    have s1 : Same H (upd H p0 (.tup [.int (100 + 2 * f.k), .int (101 + 2 * f.k), .int (ent m f.k f.i).o, .int (ent m f.k f.i).n])) := fun b o h => by rw [upd_ne (n1 h)]; exact h
    have hx1 := hx.mono (Same.tups s1)
    have hm1 : MarkV (upd H p0 (.tup [.int (100 + 2 * f.k), .int (101 + 2 * f.k), .int (ent m f.k f.i).o, .int (ent m f.k f.i).n])) (.ref p0) f.k (ent m f.k f.i) := ⟨p0, rfl, upd_same⟩
    have R1 := R.mono (Same.tups s1) (upd_ne (n1 ha))
    have ha1 := R1.at_
    obtain ⟨d1, d2, q1, q2, q3, q4, q5⟩ := eq_wd_mark (K := K) hx1 hm1 hat
    refine ⟨d1, d2, q1, q2, q3, q4, _, rfl, ?_⟩
    by_cases h1 : wd = .mark f.k
    · refine iT (q5.trans (decide_eq_true h1)) ?_
      refine ⟨_, rfl, a, dx, _, rfl, ha1, dfs_no (by decide +kernel), m, a, f, _, _, _, _, dx, rfl, R1, hp, fun H' R' fr => k H' ?_ fun b o hb nb => ?_⟩
      · subst h1
        show if f.k = f.k then _ else _
        rw [if_pos rfl]; exact R'
      · rw [fr b nb]; exact s1 b o hb
    · refine iF (q5.trans (decide_eq_false h1)) ?_
      obtain ⟨d1, d2, q1, q2, q3, q4, q5⟩ := eq_wd_int (K := K) (o := (ent m f.k f.i).o) hx1
      refine ⟨_, rfl, _, rfl, q, _, _, _, rfl, rfl, SqT.of (s1 _ _ hq), atI_nat (j := 1) rfl, d1, d2, q1, q2, q3, q4, _, rfl, ?_⟩
      have store : ∀ (ph : Ph), ph ≠ .record → ph ≠ .clean → ph ≠ .fin → ∀ hv', FrA c m (upd (upd H p0 (.tup [.int (100 + 2 * f.k), .int (101 + 2 * f.k), .int (ent m f.k f.i).o, .int (ent m f.k f.i).n])) a (.ins c.D dx (dfs (100 + 2 * f.k) (.int (101 + 2 * f.k)) (.ref e) f.i (phS ph) hv' vv))) a { f with ph := ph } (.int (101 + 2 * f.k)) (.ref e) hv' vv dx :=
        fun ph _ hc hf hv' => ⟨upd_same, fun _ => ⟨rfl, hev.mono ((Same.tups s1).trans (Tups.ins ha1))⟩, fun z => by
          rcases z with z | z
          · exact absurd z hc
          · exact absurd z hf⟩
      by_cases h2 : wd = .adr (ent m f.k f.i).o
      · refine iT (q5.trans (decide_eq_true h2)) ?_
        refine ⟨_, rfl, a, c.D, dx, _, rfl, ha1, T.D, T.dState, (by show 7 < 1000; decide), ?_⟩
        rw [put_at dfs_nd (i := 4) rfl]
        refine k _ ?_ fun b o hb nb => by rw [upd_ne nb]; exact s1 b o hb
        subst h2
        show FrA c m _ a { f with ph := if (ent m f.k f.i).o = (ent m f.k f.i).o then .swap else .failed } _ _ _ _ _
        rw [if_pos rfl]
        exact store .swap (by decide) (by decide) (by decide) hv
      · refine iF (q5.trans (decide_eq_false h2)) ?_
        refine ⟨_, rfl, x, _, rfl, tupB_wd hx1, _, rfl, ?_⟩
        cases wd with
        | adr o =>
          refine iF rfl ?_
          refine ⟨_, rfl, a, c.D, dx, _, rfl, ha1, T.D, T.dState, (by show 7 < 1000; decide), ?_⟩
          rw [put_at dfs_nd (i := 4) rfl]
          refine k _ ?_ fun b o hb nb => by rw [upd_ne nb]; exact s1 b o hb
          show FrA c m _ a { f with ph := if o = (ent m f.k f.i).o then .swap else .failed } _ _ _ _ _
          rw [if_neg (fun z => h2 (by rw [z]))]
          exact store .failed (by decide) (by decide) (by decide) hv
        | mark k' =>
          refine iT rfl ?_
          obtain ⟨r, rfl, hr2⟩ := hx1
          refine ⟨_, rfl, r, _, _, _, rfl, rfl, SqT.of hr2, atI_nat (j := 0) rfl, fun b db nb ndb neb => ?_⟩
          refine ⟨b, db, k', rfl, upd_same, fun H2 FB fr => ⟨rfl, ?_⟩⟩
          have nab : a ≠ b := ne_of_none ha1 nb
          have nadb : a ≠ db := ne_of_none ha1 ndb
          have keep : ∀ y o, upd H p0 (.tup [.int (100 + 2 * f.k), .int (101 + 2 * f.k), .int (ent m f.k f.i).o, .int (ent m f.k f.i).n]) y = some o → H2 y = some o := fun y o h => by
            refine fr y o ?_ (ne_of_none h nb)
            rw [upd_ne (ne_of_none h nb), upd_ne (ne_of_none h ndb)]; exact h
          have ha2 := keep _ _ ha1
          refine ⟨_, rfl, a, c.D, dx, _, rfl, ha2, T.D, T.dHelper, (by show 7 < 1000; decide), ?_⟩
          rw [put_at dfs_nd (i := 5) rfl]
          refine ⟨_, rfl, a, c.D, dx, dfs (100 + 2 * f.k) (.int (101 + 2 * f.k)) (.ref e) f.i (phS f.ph) (.ref b) vv, rfl, upd_same, T.D, T.dState, (by show 7 < 1000; decide), ?_⟩
          rw [put_at dfs_nd (i := 4) rfl, upd_upd]
          have hb0 : H b = none := by
            rw [upd_ne] at nb
            · exact nb
            · rintro rfl; rw [upd_same] at nb; cases nb
          have hk : ¬ k' = f.k := fun z => h1 (by rw [z])
          refine k _ ?_ fun y o hy ny => by rw [upd_ne ny]; exact keep y o (s1 y o hy)
          show if k' = f.k then _ else _
          rw [if_neg hk]
          have t2 : Tups H2 (upd H2 a (.ins c.D dx (dfs (100 + 2 * f.k) (.int (101 + 2 * f.k)) (.ref e) f.i (phS .help) (.ref b) vv))) := Tups.ins ha2
          refine ⟨b, hb0, ⟨upd_same, fun _ => ⟨rfl, hev.mono (((Same.tups s1).trans (Same.tups keep)).trans t2)⟩, fun z => by rcases z with z | z <;> cases z⟩, fun m' => ?_⟩
          obtain ⟨sv', ev', hv', vv', dx', FB⟩ := FB m'
          exact ⟨sv', ev', hv', vv', dx', FB.mono t2 (upd_ne nab.symm)⟩
end
end Wk
set_option Elab.async false
set_option linter.all false
set_option maxRecDepth 100000
set_option maxHeartbeats 4000000
namespace Wk
open PySem L2
open Esp (En Sts Wd Ph Mem es nn ent pg entAt shS shW shown stepF stepS settle passF)
/-- what a machine requests -/
def ReqX (m : Mem) (H : Hp) (f : Esp.Fr) (hv vv : V) (xs : List V) : Prop := match f.ph with
  | .record => xs = [.str "read", .int (100 + 2 * f.k)]
  | .status => xs = [.str "read", .int (101 + 2 * f.k)]
  | .final => xs = [.str "read", .int (101 + 2 * f.k)]
  | .failed => xs = [.str "decide", .int (101 + 2 * f.k), .str "failed"]
  | .done => xs = [.str "decide", .int (101 + 2 * f.k), .str "done"]
  | .help => xs = [.str "call", hv]
  | .fin => xs = [.str "end", vv]
  | .word => xs = [.str "read", .int (5 + pg m f.k f.i)]
  | .swap => ∃ mk, MarkV H mk f.k (ent m f.k f.i) ∧ xs = [.str "swap", .int (5 + pg m f.k f.i), .int (ent m f.k f.i).o, mk]
  | .clean => ∃ mk, MarkV H mk f.k (ent m f.k f.i) ∧ xs = [.str "swap", .int (5 + pg m f.k f.i), mk, .int (shS f.v (ent m f.k f.i))]
section
variable {P : Program} {w : World} {K : PySem.W.Frag} {mg : Str → Option Value} {base : Heap} {c : Cl}
/-! ### Doing.word_request -/
def spWordReq (c : Cl) : Sp := fun vs H Q _ => ∃ (m : Mem) (a : Addr) (f : Esp.Fr) (sv ev hv vv : V) (dx : Addr) (x : V), vs = [.ref a, x] ∧ FrA c m H a f sv ev hv vv dx ∧ (f.ph = .word ∨ f.ph = .swap ∨ f.ph = .clean) ∧ (f.ph = .clean → f.v ≠ .und) ∧ EnV H x (ent m f.k f.i) ∧
  ∀ H' r xs, Same H H' → H' r = some (.tup xs) → ReqX m H' f hv vv xs → Q (.ref r) H'
theorem scWR : FnScope ["self", "entry"] ["self", "entry"] (defScope sWordReq) := ⟨rfl, rfl, rfl, by decide +kernel, rfl, by decide +kernel, by decide +kernel⟩
theorem ok_wordreq {f : Addr} {fd : FuncData} (T : Txt K mg c) (F : Fun K "word_request" "Doing.word_request" sWordReq f fd) (W2 : MOk P w K mg base c.D "mark_of" 1 ["self", "entry"] (spMarkOf c)) :
    FnOk P w K mg base CX0 2 f fd ["self", "entry"] (spWordReq c) := by
  obtain ⟨fm, fdm, mm, Gm, bm⟩ := W2.ex
  refine F.ok scWR (fun vs H Q E h => ?_) (fun cdv A outer s H vs Q E hr h => ?_)
  · obtain ⟨m, a, f, sv, ev, hv, vv, dx, x, rfl, _⟩ := h
    rfl
  · obtain ⟨m, a, f, sv, ev, hv, vv, dx, x, rfl, R, hph, hcl, hx, k⟩ := h
    have ha := R.at_
    obtain ⟨hsv, hev⟩ := R.sv (by rcases hph with z | z | z <;> (rw [z]; decide))
    obtain ⟨q, rfl, hq⟩ := hx
    subst hsv
    refine ⟨_, pss_cons (ps_if (pt_cmpR op_eq (pe_fld (pv 0) rfl) pe_str (nomark _)) (pss_one (ps_ret (pe_tup (pa_cons pe_str (pa_cons (pe_ix ix_tup (pv 1) pe_int (fun _ _ => rfl)) pa_nil))))) pss_nil)
      (pss_cons (ps_if (pt_cmpR op_eq (pe_fld (pv 0) rfl) pe_str (nomark _)) (pss_one (ps_ret (pe_tup (pa_cons pe_str (pa_cons (pe_ix ix_tup (pv 1) pe_int (fun _ _ => rfl)) (pa_cons (pe_ix ix_tup (pv 1) pe_int (fun _ _ => rfl)) (pa_cons (pe_meth (pv 0) T.D mm Gm hr bm .nil pass0 (pa_cons (pv 1) pa_nil)) pa_nil))))))) pss_nil)
      (pss_cons (ps_if (pt_cmpR op_eq (pe_ix ix_tup (pe_fld (pv 0) rfl) pe_int (fun _ _ => rfl)) pe_str (nomark _)) (pss_one (ps_ret (pe_tup (pa_cons pe_str (pa_cons (pe_ix ix_tup (pv 1) pe_int (fun _ _ => rfl)) (pa_cons (pe_meth (pv 0) T.D mm Gm hr bm .nil pass0 (pa_cons (pv 1) pa_nil)) (pa_cons (pe_ix ix_tup (pv 1) pe_int (fun _ _ => rfl)) pa_nil))))))) pss_nil)
      (pss_one (ps_ret (pe_tup (pa_cons pe_str (pa_cons (pe_ix ix_tup (pv 1) pe_int (fun _ _ => rfl)) (pa_cons (pe_meth (pv 0) T.D mm Gm hr bm .nil pass0 (pa_cons (pv 1) pa_nil)) (pa_cons (pe_ix ix_tup (pv 1) pe_int (fun _ _ => rfl)) pa_nil))))))))), ?_⟩
    have newT : ∀ {H : Hp} {p : Addr} {o : HO}, H p = none → Same H (upd H p o) := fun hp b o e => by rw [upd_ne (ne_of_none e hp)]; exact e
    refine ⟨_, rfl, a, c.D, dx, _, _, rfl, ha, T.D, T.dState, lk_at dfs_nd (i := 4) rfl, rfl, _, rfl, ?_⟩
    rcases hph with e | e | e
    · -- word
      refine iT (by rw [e]; decide +kernel) ?_
      refine ⟨_, rfl, q, _, _, _, rfl, rfl, SqT.of hq, atI_nat (j := 0) rfl, (by show 2 ≤ sizeLine; decide), fun p hp => ?_⟩
      refine k _ p _ (newT hp) upd_same ?_
      unfold ReqX
      rw [e]
      rfl
    · -- swap
      refine iF (by rw [e]; decide +kernel) ?_
      refine ⟨_, rfl, a, c.D, dx, _, _, rfl, ha, T.D, T.dState, lk_at dfs_nd (i := 4) rfl, rfl, _, rfl, ?_⟩
      refine iT (by rw [e]; decide +kernel) ?_
      refine ⟨_, rfl, q, _, _, _, rfl, rfl, SqT.of hq, atI_nat (j := 0) rfl, _, rfl, q, _, _, _, rfl, rfl, SqT.of hq, atI_nat (j := 1) rfl, _, rfl, a, dx, _, rfl, ha, dfs_no (by decide +kernel), _, rfl, a, q, dx, _, _, _, _, _, _, _, _, _, _, rfl, ha, hq, fun p0 hp0 => ?_⟩
      refine ⟨(by show 4 ≤ sizeLine; decide), fun p hp => ?_⟩
      refine k _ p _ ((newT hp0).trans (newT hp)) upd_same ?_
      unfold ReqX
      rw [e]
      exact ⟨.ref p0, ⟨p0, rfl, newT hp _ _ upd_same⟩, rfl⟩
    · -- clean
      refine iF (by rw [e]; decide +kernel) ?_
      refine ⟨_, rfl, a, c.D, dx, _, _, rfl, ha, T.D, T.dState, lk_at dfs_nd (i := 4) rfl, rfl, _, rfl, ?_⟩
      refine iF (by rw [e]; decide +kernel) ?_
      have hv2 := R.vv (.inl e)
      have hc := hcl e
      revert hv2 hc
      cases hv3 : f.v with
      | und => exact fun _ z => absurd rfl z
      | done t =>
        rintro ⟨vr, rfl, hvr⟩ _
        refine ⟨_, rfl, a, c.D, dx, _, _, rfl, ha, T.D, T.dVerdict, lk_at dfs_nd (i := 6) rfl, vr, _, _, _, rfl, rfl, SqT.of hvr, atI_nat (j := 0) rfl, rfl, _, rfl, ?_⟩
        refine iT (by decide +kernel) ?_
        refine ⟨_, rfl, q, _, _, _, rfl, rfl, SqT.of hq, atI_nat (j := 0) rfl, _, rfl, a, dx, _, rfl, ha, dfs_no (by decide +kernel), _, rfl, a, q, dx, _, _, _, _, _, _, _, _, _, _, rfl, ha, hq, fun p0 hp0 => ?_⟩
        refine ⟨_, rfl, q, _, _, _, rfl, rfl, SqT.of (newT hp0 _ _ hq), atI_nat (j := 2) rfl, (by show 4 ≤ sizeLine; decide), fun p hp => ?_⟩
        refine k _ p _ ((newT hp0).trans (newT hp)) upd_same ?_
        unfold ReqX
        rw [e]
        exact ⟨.ref p0, ⟨p0, rfl, newT hp _ _ upd_same⟩, by rw [hv3]; rfl⟩
      | fail t =>
        rintro ⟨vr, rfl, hvr⟩ _
        refine ⟨_, rfl, a, c.D, dx, _, _, rfl, ha, T.D, T.dVerdict, lk_at dfs_nd (i := 6) rfl, vr, _, _, _, rfl, rfl, SqT.of hvr, atI_nat (j := 0) rfl, rfl, _, rfl, ?_⟩
        refine iF (by decide +kernel) ?_
        refine ⟨_, rfl, q, _, _, _, rfl, rfl, SqT.of hq, atI_nat (j := 0) rfl, _, rfl, a, dx, _, rfl, ha, dfs_no (by decide +kernel), _, rfl, a, q, dx, _, _, _, _, _, _, _, _, _, _, rfl, ha, hq, fun p0 hp0 => ?_⟩
        refine ⟨_, rfl, q, _, _, _, rfl, rfl, SqT.of (newT hp0 _ _ hq), atI_nat (j := 1) rfl, (by show 4 ≤ sizeLine; decide), fun p hp => ?_⟩
        refine k _ p _ ((newT hp0).trans (newT hp)) upd_same ?_
        unfold ReqX
        rw [e]
        exact ⟨.ref p0, ⟨p0, rfl, newT hp _ _ upd_same⟩, by rw [hv3]; rfl⟩

/-! ### Doing.request -/
def spRequest (c : Cl) : Sp := fun vs H Q _ => ∃ (m : Mem) (a : Addr) (f : Esp.Fr) (sv ev hv vv : V) (dx : Addr), vs = [.ref a] ∧ FrA c m H a f sv ev hv vv dx ∧ ((f.ph = .word ∨ f.ph = .swap ∨ f.ph = .clean) → f.i < nn m f.k) ∧ (f.ph = .clean → f.v ≠ .und) ∧
  ∀ H' r xs, Same H H' → H' r = some (.tup xs) → ReqX m H' f hv vv xs → Q (.ref r) H'
theorem scRq : FnScope ["self", "state"] ["self"] (defScope sRequest) := ⟨rfl, rfl, rfl, by decide +kernel, rfl, by decide +kernel, by decide +kernel⟩
theorem ok_request {f : Addr} {fd : FuncData} (T : Txt K mg c) (F : Fun K "request" "Doing.request" sRequest f fd) (W2 : MOk P w K mg base c.D "word_request" 2 ["self", "entry"] (spWordReq c)) :
    FnOk P w K mg base CX0 3 f fd ["self"] (spRequest c) := by
  obtain ⟨fm, fdm, mm, Gm, bm⟩ := W2.ex
  refine F.ok scRq (fun vs H Q E h => ?_) (fun cdv A outer s H vs Q E hr h => ?_)
  · obtain ⟨m, a, f, sv, ev, hv, vv, dx, rfl, _⟩ := h
    rfl
  · obtain ⟨m, a, f, sv, ev, hv, vv, dx, rfl, R, hidx, hcl, k⟩ := h
    have ha := R.at_
    have hsvE := R.sv
    have two : ∀ (x1 x2 : V), ReqX m H f hv vv [x1, x2] → True := fun _ _ _ => trivial
    refine ⟨_, pss_cons (ps_set (i := 1) scRq.nd rfl (Or.inl rfl) (pe_fld (pv 0) rfl))
      (pss_cons (ps_if (pt_cmpR op_eq (pv 1) pe_str (nomark _)) (pss_one (ps_ret (pe_tup (pa_cons pe_str (pa_cons (pe_fld (pv 0) rfl) pa_nil))))) pss_nil)
      (pss_cons (ps_if (PW.pt (pw_or (pt_cmpR op_eq (pv 1) pe_str (nomark _)) (pw_or1 (pt_cmpR op_eq (pv 1) pe_str (nomark _))))) (pss_one (ps_ret (pe_tup (pa_cons pe_str (pa_cons (pe_fld (pv 0) rfl) pa_nil))))) pss_nil)
      (pss_cons (ps_if (PW.pt (pw_or (pt_cmpR op_eq (pv 1) pe_str (nomark _)) (pw_or1 (pt_cmpR op_eq (pv 1) pe_str (nomark _))))) (pss_one (ps_ret (pe_tup (pa_cons pe_str (pa_cons (pe_fld (pv 0) rfl) (pa_cons (pv 1) pa_nil)))))) pss_nil)
      (pss_cons (ps_if (pt_cmpR op_eq (pv 1) pe_str (nomark _)) (pss_one (ps_ret (pe_tup (pa_cons pe_str (pa_cons (pe_fld (pv 0) rfl) pa_nil))))) pss_nil)
      (pss_cons (ps_if (pt_cmpR op_eq (pv 1) pe_str (nomark _)) (pss_one (ps_ret (pe_tup (pa_cons pe_str (pa_cons (pe_fld (pv 0) rfl) pa_nil))))) pss_nil)
      (pss_one (ps_ret (pe_meth (pv 0) T.D mm Gm hr bm .nil pass0 (pa_cons (pe_ix ix_tup (pe_fld (pv 0) rfl) (pe_fld (pv 0) rfl) (fun _ _ => rfl)) pa_nil))))))))), ?_⟩
    have newT : ∀ {H : Hp} {p : Addr} {o : HO}, H p = none → Same H (upd H p o) := fun hp b o e => by rw [upd_ne (ne_of_none e hp)]; exact e
    refine ⟨_, rfl, a, c.D, dx, _, _, rfl, ha, T.D, T.dState, lk_at dfs_nd (i := 4) rfl, ?_⟩
    have wordish : ∀ (hph : f.ph = .word ∨ f.ph = .swap ∨ f.ph = .clean), ∃ e xs q, ev = .ref e ∧ H e = some (.tup xs) ∧ xs[f.i]? = some (.ref q) ∧ EnV H (.ref q) (ent m f.k f.i) := by
      intro hph
      obtain ⟨hsv, hev⟩ := hsvE (by rcases hph with z | z | z <;> (rw [z]; decide))
      obtain ⟨e, xs, rfl, he, hl, hent⟩ := hev
      have hi := hidx hph
      have hd : (es m f.k)[f.i]? = some (ent m f.k f.i) := by rw [Esp.ent_eq hi]; exact List.getElem?_eq_getElem hi
      obtain ⟨z, hz, q, rfl, hq⟩ := hent _ _ hd
      exact ⟨e, xs, q, rfl, he, hz, q, rfl, hq⟩
    cases hp : f.ph with
    | record =>
      rw [hp] at ha
      refine ⟨_, rfl, rfl, _, rfl, iT (by decide +kernel) ?_⟩
      refine ⟨_, rfl, a, c.D, dx, _, _, rfl, ha, T.D, T.dAddress, lk_at dfs_nd (i := 0) rfl, (by show 2 ≤ sizeLine; decide), fun p hp' => ?_⟩
      refine k _ p _ (newT hp') upd_same ?_
      unfold ReqX
      rw [hp]
    | status =>
      rw [hp] at ha
      obtain ⟨rfl, _⟩ := hsvE (by rw [hp]; decide)
      refine ⟨_, rfl, rfl, _, rfl, iF (by decide +kernel) ?_⟩
      refine ⟨_, rfl, rfl, _, rfl, iT (by decide +kernel) (iT rfl ?_)⟩
      refine ⟨_, rfl, a, c.D, dx, _, _, rfl, ha, T.D, T.dStatus, lk_at dfs_nd (i := 1) rfl, (by show 2 ≤ sizeLine; decide), fun p hp' => ?_⟩
      refine k _ p _ (newT hp') upd_same ?_
      unfold ReqX
      rw [hp]
    | final =>
      rw [hp] at ha
      obtain ⟨rfl, _⟩ := hsvE (by rw [hp]; decide)
      refine ⟨_, rfl, rfl, _, rfl, iF (by decide +kernel) ?_⟩
      refine ⟨_, rfl, rfl, _, rfl, iF (by decide +kernel) ⟨_, rfl, rfl, _, rfl, iT (by decide +kernel) ?_⟩⟩
      refine ⟨_, rfl, a, c.D, dx, _, _, rfl, ha, T.D, T.dStatus, lk_at dfs_nd (i := 1) rfl, (by show 2 ≤ sizeLine; decide), fun p hp' => ?_⟩
      refine k _ p _ (newT hp') upd_same ?_
      unfold ReqX
      rw [hp]
    | failed =>
      rw [hp] at ha
      obtain ⟨rfl, _⟩ := hsvE (by rw [hp]; decide)
      refine ⟨_, rfl, rfl, _, rfl, iF (by decide +kernel) ?_⟩
      refine ⟨_, rfl, rfl, _, rfl, iF (by decide +kernel) ⟨_, rfl, rfl, _, rfl, iF (by decide +kernel) ?_⟩⟩
      refine ⟨_, rfl, rfl, _, rfl, iT (by decide +kernel) (iT rfl ?_)⟩
      refine ⟨_, rfl, a, c.D, dx, _, _, rfl, ha, T.D, T.dStatus, lk_at dfs_nd (i := 1) rfl, _, rfl, (by show 3 ≤ sizeLine; decide), fun p hp' => ?_⟩
      refine k _ p _ (newT hp') upd_same ?_
      unfold ReqX
      rw [hp]
      rfl
    | done =>
      rw [hp] at ha
      obtain ⟨rfl, _⟩ := hsvE (by rw [hp]; decide)
      refine ⟨_, rfl, rfl, _, rfl, iF (by decide +kernel) ?_⟩
      refine ⟨_, rfl, rfl, _, rfl, iF (by decide +kernel) ⟨_, rfl, rfl, _, rfl, iF (by decide +kernel) ?_⟩⟩
      refine ⟨_, rfl, rfl, _, rfl, iF (by decide +kernel) ⟨_, rfl, rfl, _, rfl, iT (by decide +kernel) ?_⟩⟩
      refine ⟨_, rfl, a, c.D, dx, _, _, rfl, ha, T.D, T.dStatus, lk_at dfs_nd (i := 1) rfl, _, rfl, (by show 3 ≤ sizeLine; decide), fun p hp' => ?_⟩
      refine k _ p _ (newT hp') upd_same ?_
      unfold ReqX
      rw [hp]
      rfl
    | help =>
      rw [hp] at ha
      refine ⟨_, rfl, rfl, _, rfl, iF (by decide +kernel) ?_⟩
      refine ⟨_, rfl, rfl, _, rfl, iF (by decide +kernel) ⟨_, rfl, rfl, _, rfl, iF (by decide +kernel) ?_⟩⟩
      refine ⟨_, rfl, rfl, _, rfl, iF (by decide +kernel) ⟨_, rfl, rfl, _, rfl, iF (by decide +kernel) ?_⟩⟩
      refine ⟨_, rfl, rfl, _, rfl, iT (by decide +kernel) ?_⟩
      refine ⟨_, rfl, a, c.D, dx, _, _, rfl, ha, T.D, T.dHelper, lk_at dfs_nd (i := 5) rfl, (by show 2 ≤ sizeLine; decide), fun p hp' => ?_⟩
      refine k _ p _ (newT hp') upd_same ?_
      unfold ReqX
      rw [hp]
    | fin =>
      rw [hp] at ha
      refine ⟨_, rfl, rfl, _, rfl, iF (by decide +kernel) ?_⟩
      refine ⟨_, rfl, rfl, _, rfl, iF (by decide +kernel) ⟨_, rfl, rfl, _, rfl, iF (by decide +kernel) ?_⟩⟩
      refine ⟨_, rfl, rfl, _, rfl, iF (by decide +kernel) ⟨_, rfl, rfl, _, rfl, iF (by decide +kernel) ?_⟩⟩
      refine ⟨_, rfl, rfl, _, rfl, iF (by decide +kernel) ?_⟩
      refine ⟨_, rfl, rfl, _, rfl, iT (by decide +kernel) ?_⟩
      refine ⟨_, rfl, a, c.D, dx, _, _, rfl, ha, T.D, T.dVerdict, lk_at dfs_nd (i := 6) rfl, (by show 2 ≤ sizeLine; decide), fun p hp' => ?_⟩
      refine k _ p _ (newT hp') upd_same ?_
      unfold ReqX
      rw [hp]
    | word =>
      obtain ⟨e, xs, q, rfl, he, hz, hq⟩ := wordish (.inl hp)
      have ha' := ha
      rw [hp] at ha'
      refine ⟨_, rfl, rfl, _, rfl, iF (by decide +kernel) ?_⟩
      refine ⟨_, rfl, rfl, _, rfl, iF (by decide +kernel) ⟨_, rfl, rfl, _, rfl, iF (by decide +kernel) ?_⟩⟩
      refine ⟨_, rfl, rfl, _, rfl, iF (by decide +kernel) ⟨_, rfl, rfl, _, rfl, iF (by decide +kernel) ?_⟩⟩
      refine ⟨_, rfl, rfl, _, rfl, iF (by decide +kernel) ?_⟩
      refine ⟨_, rfl, rfl, _, rfl, iF (by decide +kernel) ?_⟩
      refine ⟨_, rfl, a, dx, _, rfl, ha, dfs_no (by decide +kernel), _, rfl, a, c.D, dx, _, _, rfl, ha, T.D, T.dEntries, lk_at dfs_nd (i := 2) rfl, _, rfl, a, c.D, dx, _, _, rfl, ha, T.D, T.dIndex, lk_at dfs_nd (i := 3) rfl, e, xs, _, _, rfl, rfl, SqT.of he, atI_nat hz, ?_⟩
      exact ⟨m, a, f, _, _, _, _, dx, _, rfl, R, .inl hp, hcl, hq, k⟩
    | swap =>
      obtain ⟨e, xs, q, rfl, he, hz, hq⟩ := wordish (.inr (.inl hp))
      have ha' := ha
      rw [hp] at ha'
      refine ⟨_, rfl, rfl, _, rfl, iF (by decide +kernel) ?_⟩
      refine ⟨_, rfl, rfl, _, rfl, iF (by decide +kernel) ⟨_, rfl, rfl, _, rfl, iF (by decide +kernel) ?_⟩⟩
      refine ⟨_, rfl, rfl, _, rfl, iF (by decide +kernel) ⟨_, rfl, rfl, _, rfl, iF (by decide +kernel) ?_⟩⟩
      refine ⟨_, rfl, rfl, _, rfl, iF (by decide +kernel) ?_⟩
      refine ⟨_, rfl, rfl, _, rfl, iF (by decide +kernel) ?_⟩
      refine ⟨_, rfl, a, dx, _, rfl, ha, dfs_no (by decide +kernel), _, rfl, a, c.D, dx, _, _, rfl, ha, T.D, T.dEntries, lk_at dfs_nd (i := 2) rfl, _, rfl, a, c.D, dx, _, _, rfl, ha, T.D, T.dIndex, lk_at dfs_nd (i := 3) rfl, e, xs, _, _, rfl, rfl, SqT.of he, atI_nat hz, ?_⟩
      exact ⟨m, a, f, _, _, _, _, dx, _, rfl, R, .inr (.inl hp), hcl, hq, k⟩
    | clean =>
      obtain ⟨e, xs, q, rfl, he, hz, hq⟩ := wordish (.inr (.inr hp))
      have ha' := ha
      rw [hp] at ha'
      refine ⟨_, rfl, rfl, _, rfl, iF (by decide +kernel) ?_⟩
      refine ⟨_, rfl, rfl, _, rfl, iF (by decide +kernel) ⟨_, rfl, rfl, _, rfl, iF (by decide +kernel) ?_⟩⟩
      refine ⟨_, rfl, rfl, _, rfl, iF (by decide +kernel) ⟨_, rfl, rfl, _, rfl, iF (by decide +kernel) ?_⟩⟩
      refine ⟨_, rfl, rfl, _, rfl, iF (by decide +kernel) ?_⟩
      refine ⟨_, rfl, rfl, _, rfl, iF (by decide +kernel) ?_⟩
      refine ⟨_, rfl, a, dx, _, rfl, ha, dfs_no (by decide +kernel), _, rfl, a, c.D, dx, _, _, rfl, ha, T.D, T.dEntries, lk_at dfs_nd (i := 2) rfl, _, rfl, a, c.D, dx, _, _, rfl, ha, T.D, T.dIndex, lk_at dfs_nd (i := 3) rfl, e, xs, _, _, rfl, rfl, SqT.of he, atI_nat hz, ?_⟩
      exact ⟨m, a, f, _, _, _, _, dx, _, rfl, R, .inr (.inr hp), hcl, hq, k⟩
end
end Wk
set_option Elab.async false
set_option linter.all false
set_option maxRecDepth 100000
set_option maxHeartbeats 4000000
namespace Wk
open PySem L2
open Esp (En Sts Wd Ph Mem es nn ent pg entAt shS shW shown stepF stepS settle passF)
/-- the answer that a machine accepts -/
def Resp (m : Mem) (H : Hp) (f : Esp.Fr) (x : V) : Prop := match f.ph with
  | .record => RecV H x f.k (es m f.k)
  | .status => StsV H x (m.sts f.k)
  | .final => StsV H x (m.sts f.k)
  | .word => f.i < nn m f.k ∧ entAt (es m f.k) (pg m f.k f.i) = ent m f.k f.i ∧ WdV m H x (pg m f.k f.i) (m.word (pg m f.k f.i))
  | .swap => x = .bl (decide (m.word (pg m f.k f.i) = .adr (ent m f.k f.i).o))
  | _ => True
/-- the machine behind it -/
def AccP (c : Cl) (m : Mem) (H H' : Hp) (a : Addr) (f : Esp.Fr) : Prop :=
  (∃ f', (stepF m f).2 = [f'] ∧ FrAt c m H' a f') ∨
  ∃ k' b, (stepF m f).2 = [⟨k', .record, 0, .und⟩, { f with ph := .help }] ∧ H b = none ∧ (∃ sv ev vv dx, FrA c m H' a { f with ph := .help } sv ev (.ref b) vv dx) ∧ FrAt c m H' b ⟨k', .record, 0, .und⟩
def spAccept (c : Cl) : Sp := fun vs H Q _ =>
  (∃ (m : Mem) (a : Addr) (f : Esp.Fr) (sv ev hv vv : V) (dx : Addr) (r : Addr) (x n : V), vs = [.ref a, .ref r] ∧ FrA c m H a f sv ev hv vv dx ∧ H r = some (.tup [x, n]) ∧ Resp m H f x ∧ f.ph ≠ .help ∧ f.ph ≠ .fin ∧
    ∀ H', AccP c m H H' a f → (∀ b o, H b = some o → b ≠ a → H' b = some o) → Q .non H') ∨
  (∃ (m : Mem) (a : Addr) (f : Esp.Fr) (y : V), vs = [.ref a, y] ∧ FrAt c m H a f ∧ f.ph = .help ∧
    ∀ H', FrAt c m H' a { f with ph := .word } → (∀ b o, H b = some o → b ≠ a → H' b = some o) → Q .non H')
section
variable {P : Program} {w : World} {K : PySem.W.Frag} {mg : Str → Option Value} {base : Heap} {c : Cl}
theorem scAc : FnScope ["self", "result", "state"] ["self", "result"] (defScope sAccept) := ⟨rfl, rfl, rfl, by decide +kernel, rfl, by decide +kernel, by decide +kernel⟩
theorem ok_accept {f : Addr} {fd : FuncData} (T : Txt K mg c) (F : Fun K "accept" "Doing.accept" sAccept f fd)
    (W1 : MOk P w K mg base c.D "take_status" 1 ["self", "value"] (spTakeStatus c)) (W2 : MOk P w K mg base c.D "take_word" 3 ["self", "value"] (spTakeWord c)) (W3 : MOk P w K mg base c.D "take_swap" 2 ["self", "swapped"] (spTakeSwap c)) :
    FnOk P w K mg base CX0 4 f fd ["self", "result"] (spAccept c) := by
  obtain ⟨f1, fd1, m1, G1, b1⟩ := W1.ex
  obtain ⟨f2, fd2, m2, G2, b2⟩ := W2.ex
  obtain ⟨f3, fd3, m3, G3, b3⟩ := W3.ex
  refine F.ok scAc (fun vs H Q E h => ?_) (fun cdv A outer s H vs Q E hr h => ?_)
  · rcases h with ⟨m, a, f, sv, ev, hv, vv, dx, r, x, n, rfl, _⟩ | ⟨m, a, f, y, rfl, _⟩ <;> rfl
  · have hr1 : Room 1 _ := hr.mono (by decide)
    have hr2 : Room 2 _ := hr.mono (by decide)
    refine ⟨_, pss_cons (ps_set (i := 2) scAc.nd rfl (Or.inl rfl) (pe_fld (pv 0) rfl))
      (pss_one (ps_if (pt_cmpR op_eq (pv 2) pe_str (nomark _)) (pss_one (ps_fld (pv 0) pe_str rfl))
      (pss_one (ps_if (pt_cmpR op_eq (pv 2) pe_str (nomark _)) (pss_cons (ps_fld (pv 0) (pe_ix ix_tup (pe_ix ix_tup (pv 1) pe_int (fun _ _ => rfl)) pe_int (fun _ _ => rfl)) rfl) (pss_cons (ps_fld (pv 0) (pe_ix ix_tup (pe_ix ix_tup (pv 1) pe_int (fun _ _ => rfl)) pe_int (fun _ _ => rfl)) rfl) (pss_one (ps_fld (pv 0) pe_str rfl))))
      (pss_one (ps_if (PW.pt (pw_or (pt_cmpR op_eq (pv 2) pe_str (nomark _)) (pw_or1 (pt_cmpR op_eq (pv 2) pe_str (nomark _))))) (pss_one (ps_expr (pe_meth (pv 0) T.D m1 G1 hr1 b1 .nil pass0 (pa_cons (pe_ix ix_tup (pv 1) pe_int (fun _ _ => rfl)) pa_nil))))
      (pss_one (ps_if (pt_cmpR op_eq (pv 2) pe_str (nomark _)) (pss_one (ps_expr (pe_meth (pv 0) T.D m2 G2 hr b2 .nil pass0 (pa_cons (pe_ix ix_tup (pv 1) pe_int (fun _ _ => rfl)) pa_nil))))
      (pss_one (ps_if (pt_cmpR op_eq (pv 2) pe_str (nomark _)) (pss_one (ps_expr (pe_meth (pv 0) T.D m3 G3 hr2 b3 .nil pass0 (pa_cons (pe_ix ix_tup (pv 1) pe_int (fun _ _ => rfl)) pa_nil))))
      (pss_one (ps_if (PW.pt (pw_or (pt_cmpR op_eq (pv 2) pe_str (nomark _)) (pw_or1 (pt_cmpR op_eq (pv 2) pe_str (nomark _))))) (pss_one (ps_fld (pv 0) pe_str rfl))
      (pss_cons (ps_fldaug (pv 0) pe_int in_add) (pss_one (ps_if (pt_cmpR op_eq (pe_fld (pv 0) rfl) (pe_callB call_len_seq (by rfl) T.len PySem.boot_len (pa_cons (pe_fld (pv 0) rfl) pa_nil)) (nomark _)) (pss_one (ps_fld (pv 0) pe_str rfl)) pss_nil))))))))))))))), ?_⟩
    rcases h with ⟨m, a, f, sv, ev, hv, vv, dx, r, x, n, rfl, R, hr', hresp, n1, n2, k⟩ | ⟨m, a, f, y, rfl, ⟨sv, ev, hv, vv, dx, R⟩, hph, k⟩
    · obtain ⟨k0, ph, i, v0⟩ := f
      have ha : H a = some (.ins c.D dx (dfs (100 + 2 * k0) sv ev i (phS ph) hv vv)) := R.at_
      have nra : r ≠ a := ne_of hr' ha (by intro z; cases z)
      have hsvE := R.sv
      have same : ∀ {o : HO}, ∀ b o', H b = some o' → b ≠ a → upd H a o b = some o' := fun b o' h nb => by rw [upd_ne nb]; exact h
      refine ⟨_, rfl, a, c.D, dx, _, _, rfl, ha, T.D, T.dState, lk_at dfs_nd (i := 4) rfl, ?_⟩
      cases ph with
      | help => exact absurd rfl n1
      | fin => exact absurd rfl n2
      | record =>
        obtain ⟨p, evr, rfl, hp, hev⟩ := (show RecV H x k0 (es m k0) from hresp)
        refine ⟨_, rfl, rfl, _, rfl, iF (by decide +kernel) ?_⟩
        refine ⟨_, rfl, rfl, _, rfl, iT (by decide +kernel) ?_⟩
        refine ⟨_, rfl, r, _, _, _, rfl, rfl, SqT.of hr', atI_nat (j := 0) rfl, p, _, _, _, rfl, rfl, SqT.of hp, atI_nat (j := 1) rfl, _, rfl, a, c.D, dx, _, rfl, ha, T.D, T.dStatus, (by show 7 < 1000; decide), ?_⟩
        rw [put_at dfs_nd (i := 1) rfl]
        have npa : p ≠ a := ne_of hp ha (by intro z; cases z)
        refine ⟨_, rfl, r, _, _, _, rfl, rfl, SqT.of ((upd_ne nra).trans hr'), atI_nat (j := 0) rfl, p, _, _, _, rfl, rfl, SqT.of ((upd_ne npa).trans hp), atI_nat (j := 2) rfl, _, rfl, a, c.D, dx, dfs (100 + 2 * k0) (.int (101 + 2 * k0)) ev i "record" hv vv, rfl, upd_same, T.D, T.dEntries, (by show 7 < 1000; decide), ?_⟩
        rw [put_at dfs_nd (i := 2) rfl, upd_upd]
        refine ⟨_, rfl, a, c.D, dx, dfs (100 + 2 * k0) (.int (101 + 2 * k0)) evr i "record" hv vv, rfl, upd_same, T.D, T.dState, (by show 7 < 1000; decide), ?_⟩
        rw [put_at dfs_nd (i := 4) rfl, upd_upd]
        refine k _ (.inl ⟨⟨k0, .status, i, v0⟩, rfl, _, _, _, _, dx, upd_same, fun _ => ⟨rfl, hev.mono (Tups.ins ha)⟩, fun z => by rcases z with z | z <;> cases z⟩) same
      | status =>
        refine ⟨_, rfl, rfl, _, rfl, iF (by decide +kernel) ?_⟩
        refine ⟨_, rfl, rfl, _, rfl, iF (by decide +kernel) ?_⟩
        refine ⟨_, rfl, rfl, _, rfl, iT (by decide +kernel) (iT rfl ?_)⟩
        refine ⟨_, rfl, a, dx, _, rfl, ha, dfs_no (by decide +kernel), _, rfl, r, _, _, _, rfl, rfl, SqT.of hr', atI_nat (j := 0) rfl, m, a, ⟨k0, .status, i, v0⟩, _, _, _, _, dx, x, m.sts k0, rfl, R, (by intro z; cases z), hresp, fun H' R' fr => ?_⟩
        exact k H' (.inl ⟨stF ⟨k0, .status, i, v0⟩ (m.sts k0), rfl, R'⟩) fun b o hb nb => by rw [fr b nb]; exact hb
      | final =>
        refine ⟨_, rfl, rfl, _, rfl, iF (by decide +kernel) ?_⟩
        refine ⟨_, rfl, rfl, _, rfl, iF (by decide +kernel) ?_⟩
        refine ⟨_, rfl, rfl, _, rfl, iF (by decide +kernel) ⟨_, rfl, rfl, _, rfl, iT (by decide +kernel) ?_⟩⟩
        refine ⟨_, rfl, a, dx, _, rfl, ha, dfs_no (by decide +kernel), _, rfl, r, _, _, _, rfl, rfl, SqT.of hr', atI_nat (j := 0) rfl, m, a, ⟨k0, .final, i, v0⟩, _, _, _, _, dx, x, m.sts k0, rfl, R, (by intro z; cases z), hresp, fun H' R' fr => ?_⟩
        exact k H' (.inl ⟨stF ⟨k0, .final, i, v0⟩ (m.sts k0), rfl, R'⟩) fun b o hb nb => by rw [fr b nb]; exact hb
      | word =>
        obtain ⟨hi, hat, hw⟩ := hresp
        refine ⟨_, rfl, rfl, _, rfl, iF (by decide +kernel) ?_⟩
        refine ⟨_, rfl, rfl, _, rfl, iF (by decide +kernel) ?_⟩
        refine ⟨_, rfl, rfl, _, rfl, iF (by decide +kernel) ⟨_, rfl, rfl, _, rfl, iF (by decide +kernel) ?_⟩⟩
        refine ⟨_, rfl, rfl, _, rfl, iT (by decide +kernel) ?_⟩
        refine ⟨_, rfl, a, dx, _, rfl, ha, dfs_no (by decide +kernel), _, rfl, r, _, _, _, rfl, rfl, SqT.of hr', atI_nat (j := 0) rfl, m, a, ⟨k0, .word, i, v0⟩, _, _, _, _, dx, x, m.word (pg m k0 i), rfl, R, (by intro z; cases z), hi, hat, hw, fun H' R' fr => ?_⟩
        refine k H' ?_ fr
        have e : (stepF m ⟨k0, .word, i, v0⟩).2 = (match m.word (pg m k0 i) with
          | .mark k' => if k' = k0 then [passF m ⟨k0, .word, i, v0⟩] else [⟨k', .record, 0, .und⟩, ⟨k0, .help, i, v0⟩]
          | .adr o => if o = (ent m k0 i).o then [⟨k0, .swap, i, v0⟩] else [⟨k0, .failed, i, v0⟩]) := by
          unfold Esp.stepF
          simp only
          cases m.word (pg m k0 i) with
          | mark k' => by_cases hk : k' = k0 <;> simp only [hk, if_true, if_false]
          | adr o => by_cases hk : o = (ent m k0 i).o <;> simp only [hk, if_true, if_false]
        unfold AccP
        rw [e]
        revert R'
        cases m.word (pg m k0 i) with
        | adr o =>
          intro R'
          left
          have R2 : FrA c m H' a ⟨k0, if o = (ent m k0 i).o then .swap else .failed, i, v0⟩ sv ev hv vv dx := R'
          by_cases ho : o = (ent m k0 i).o
          · rw [if_pos ho] at R2
            exact ⟨_, if_pos ho, _, _, _, _, _, R2⟩
          · rw [if_neg ho] at R2
            exact ⟨_, if_neg ho, _, _, _, _, _, R2⟩
        | mark k' =>
          intro R'
          have R2 : if k' = k0 then FrA c m H' a (passF m ⟨k0, .word, i, v0⟩) sv ev hv vv dx else ∃ b, H b = none ∧ FrA c m H' a ⟨k0, .help, i, v0⟩ sv ev (.ref b) vv dx ∧ ∀ m, FrAt c m H' b ⟨k', .record, 0, .und⟩ := R'
          by_cases hk : k' = k0
          · rw [if_pos hk] at R2
            exact .inl ⟨_, if_pos hk, _, _, _, _, _, R2⟩
          · rw [if_neg hk] at R2
            obtain ⟨b, hb, R3, R4⟩ := R2
            exact .inr ⟨k', b, if_neg hk, hb, ⟨_, _, _, _, R3⟩, R4 m⟩
      | swap =>
        have hx : x = .bl (decide (m.word (pg m k0 i) = .adr (ent m k0 i).o)) := hresp
        subst hx
        refine ⟨_, rfl, rfl, _, rfl, iF (by decide +kernel) ?_⟩
        refine ⟨_, rfl, rfl, _, rfl, iF (by decide +kernel) ?_⟩
        refine ⟨_, rfl, rfl, _, rfl, iF (by decide +kernel) ⟨_, rfl, rfl, _, rfl, iF (by decide +kernel) ?_⟩⟩
        refine ⟨_, rfl, rfl, _, rfl, iF (by decide +kernel) ?_⟩
        refine ⟨_, rfl, rfl, _, rfl, iT (by decide +kernel) ?_⟩
        refine ⟨_, rfl, a, dx, _, rfl, ha, dfs_no (by decide +kernel), _, rfl, r, _, _, _, rfl, rfl, SqT.of hr', atI_nat (j := 0) rfl, m, a, ⟨k0, .swap, i, v0⟩, _, _, _, _, dx, _, rfl, R, (by intro z; cases z), fun H' R' fr => ?_⟩
        refine k H' (.inl ?_) fun b o hb nb => by rw [fr b nb]; exact hb
        have e : (stepF m ⟨k0, .swap, i, v0⟩).2 = [if m.word (pg m k0 i) = .adr (ent m k0 i).o then passF m ⟨k0, .swap, i, v0⟩ else ⟨k0, .word, i, v0⟩] := by
          unfold Esp.stepF
          simp only
          split <;> rfl
        rw [e]
        by_cases hw : m.word (pg m k0 i) = .adr (ent m k0 i).o
        · rw [if_pos (decide_eq_true hw)] at R'
          exact ⟨_, by rw [if_pos hw], _, _, _, _, _, R'⟩
        · rw [if_neg (by rw [decide_eq_false hw]; exact Bool.false_ne_true)] at R'
          exact ⟨_, by rw [if_neg hw], _, _, _, _, _, R'⟩
      | failed =>
        refine ⟨_, rfl, rfl, _, rfl, iF (by decide +kernel) ?_⟩
        refine ⟨_, rfl, rfl, _, rfl, iF (by decide +kernel) ?_⟩
        refine ⟨_, rfl, rfl, _, rfl, iF (by decide +kernel) ⟨_, rfl, rfl, _, rfl, iF (by decide +kernel) ?_⟩⟩
        refine ⟨_, rfl, rfl, _, rfl, iF (by decide +kernel) ?_⟩
        refine ⟨_, rfl, rfl, _, rfl, iF (by decide +kernel) ?_⟩
        refine ⟨_, rfl, rfl, _, rfl, iT (by decide +kernel) (iT rfl ?_)⟩
        refine ⟨_, rfl, a, c.D, dx, _, rfl, ha, T.D, T.dState, (by show 7 < 1000; decide), ?_⟩
        rw [put_at dfs_nd (i := 4) rfl]
        obtain ⟨hsv, hev⟩ := hsvE (by intro z; cases z)
        have e : (stepF m ⟨k0, .failed, i, v0⟩).2 = [⟨k0, .final, i, v0⟩] := by
          unfold Esp.stepF
          simp only
          split <;> rfl
        exact k _ (.inl ⟨_, e, _, _, _, _, dx, upd_same, fun _ => ⟨hsv, hev.mono (Tups.ins ha)⟩, fun z => by rcases z with z | z <;> cases z⟩) same
      | done =>
        refine ⟨_, rfl, rfl, _, rfl, iF (by decide +kernel) ?_⟩
        refine ⟨_, rfl, rfl, _, rfl, iF (by decide +kernel) ?_⟩
        refine ⟨_, rfl, rfl, _, rfl, iF (by decide +kernel) ⟨_, rfl, rfl, _, rfl, iF (by decide +kernel) ?_⟩⟩
        refine ⟨_, rfl, rfl, _, rfl, iF (by decide +kernel) ?_⟩
        refine ⟨_, rfl, rfl, _, rfl, iF (by decide +kernel) ?_⟩
        refine ⟨_, rfl, rfl, _, rfl, iF (by decide +kernel) ⟨_, rfl, rfl, _, rfl, iT (by decide +kernel) ?_⟩⟩
        refine ⟨_, rfl, a, c.D, dx, _, rfl, ha, T.D, T.dState, (by show 7 < 1000; decide), ?_⟩
        rw [put_at dfs_nd (i := 4) rfl]
        obtain ⟨hsv, hev⟩ := hsvE (by intro z; cases z)
        have e : (stepF m ⟨k0, .done, i, v0⟩).2 = [⟨k0, .final, i, v0⟩] := by
          unfold Esp.stepF
          simp only
          split <;> rfl
        exact k _ (.inl ⟨_, e, _, _, _, _, dx, upd_same, fun _ => ⟨hsv, hev.mono (Tups.ins ha)⟩, fun z => by rcases z with z | z <;> cases z⟩) same
      | clean =>
        refine ⟨_, rfl, rfl, _, rfl, iF (by decide +kernel) ?_⟩
        refine ⟨_, rfl, rfl, _, rfl, iF (by decide +kernel) ?_⟩
        refine ⟨_, rfl, rfl, _, rfl, iF (by decide +kernel) ⟨_, rfl, rfl, _, rfl, iF (by decide +kernel) ?_⟩⟩
        refine ⟨_, rfl, rfl, _, rfl, iF (by decide +kernel) ?_⟩
        refine ⟨_, rfl, rfl, _, rfl, iF (by decide +kernel) ?_⟩
        refine ⟨_, rfl, rfl, _, rfl, iF (by decide +kernel) ⟨_, rfl, rfl, _, rfl, iF (by decide +kernel) ?_⟩⟩
        obtain ⟨hsv, hev⟩ := hsvE (by intro z; cases z)
        obtain ⟨e, xs, rfl, he, hl, hx⟩ := id hev
        have nea : e ≠ a := ne_of he ha (by intro z; cases z)
        have hvv := R.vv (.inl rfl)
        refine ⟨_, rfl, a, c.D, dx, _, _, rfl, ha, T.D, T.dIndex, lk_at dfs_nd (i := 3) rfl, _, _, rfl, rfl, dx, _, ha, (by show 7 < 1000; decide), ?_⟩
        rw [put_at dfs_nd (i := 3) rfl]
        refine ⟨_, rfl, a, c.D, dx, dfs (100 + 2 * k0) sv (.ref e) (i + 1) "clean" hv vv, _, rfl, upd_same, T.D, T.dIndex, lk_at dfs_nd (i := 3) rfl, _, rfl, a, c.D, dx, dfs (100 + 2 * k0) sv (.ref e) (i + 1) "clean" hv vv, _, rfl, upd_same, T.D, T.dEntries, lk_at dfs_nd (i := 2) rfl,
          e, xs, rfl, .inr (SqT.of ((upd_ne nea).trans he)), rfl, _, rfl, ?_⟩
        have hlen : xs.length = nn m k0 := hl
        have es : (stepF m ⟨k0, .clean, i, v0⟩).2 = [if i + 1 = nn m k0 then ⟨k0, .fin, i + 1, v0⟩ else ⟨k0, .clean, i + 1, v0⟩] := rfl
        by_cases hi : i + 1 = nn m k0
        · refine iT (decide_eq_true (by rw [hlen, ← hi]; rfl)) ?_
          refine ⟨_, rfl, a, c.D, dx, dfs (100 + 2 * k0) sv (.ref e) (i + 1) "clean" hv vv, rfl, upd_same, T.D, T.dState, (by show 7 < 1000; decide), ?_⟩
          rw [put_at dfs_nd (i := 4) rfl, upd_upd]
          exact k _ (.inl ⟨⟨k0, .fin, i + 1, v0⟩, by rw [es, if_pos hi], _, _, _, _, dx, upd_same, fun _ => ⟨hsv, hev.mono (Tups.ins ha)⟩, fun _ => hvv.mono (Tups.ins ha)⟩) same
        · refine iF (decide_eq_false (by rw [hlen]; intro z; injection z with z; apply hi; omega)) ?_
          exact k _ (.inl ⟨⟨k0, .clean, i + 1, v0⟩, by rw [es, if_neg hi], _, _, _, _, dx, upd_same, fun _ => ⟨hsv, hev.mono (Tups.ins ha)⟩, fun _ => hvv.mono (Tups.ins ha)⟩) same
    · have ha := R.at_
      rw [hph] at ha
      obtain ⟨hsv, hev⟩ := R.sv (by rw [hph]; decide)
      refine ⟨_, rfl, a, c.D, dx, _, _, rfl, ha, T.D, T.dState, lk_at dfs_nd (i := 4) rfl, ?_⟩
      refine ⟨_, rfl, rfl, _, rfl, iT (by decide +kernel) ?_⟩
      refine ⟨_, rfl, a, c.D, dx, _, rfl, ha, T.D, T.dState, (by show 7 < 1000; decide), ?_⟩
      rw [put_at dfs_nd (i := 4) rfl]
      exact k _ ⟨_, _, _, _, dx, upd_same, fun _ => ⟨hsv, hev.mono (Tups.ins ha)⟩, fun z => by rcases z with z | z <;> cases z⟩ fun b o h nb => by rw [upd_ne nb]; exact h
end
end Wk
set_option Elab.async false
set_option linter.all false
set_option maxRecDepth 100000
set_option maxHeartbeats 4000000
namespace Wk
open PySem L2
open Esp (En Sts Wd Ph Mem es nn ent pg entAt shS shW shown stepF stepS settle passF)
/-! ### the memory's object -/
structure MA where
  mem : Addr
  lay : Addr
  acc : Addr
  held : Addr
structure MemC (c : Cl) (A : MA) (H : Hp) (n : Nat) (hv : List V) : Prop where
  mem : ∃ dx, H A.mem = some (.ins c.M dx (mfs A.lay n A.acc A.held))
  lay : ∃ dx, H A.lay = some (.ins c.L dx lfs)
  held : H A.held = some (.lst hv)
  len : hv.length = 461
  acc : ∃ al, H A.acc = some (.lst al) ∧ al.length = n
  ne : A.acc ≠ A.held
theorem MemC.same {c : Cl} {A : MA} {H H' : Hp} {n : Nat} {hv : List V} (M : MemC c A H n hv) (s : Same H H') : MemC c A H' n hv := by
  obtain ⟨⟨dx, h1⟩, ⟨dy, h2⟩, h3, h4, ⟨al, h5, h6⟩, h7⟩ := M
  exact ⟨⟨dx, s _ _ h1⟩, ⟨dy, s _ _ h2⟩, s _ _ h3, h4, ⟨al, s _ _ h5, h6⟩, h7⟩
/-- what stands but for the memory's own lists stands -/
theorem MemC.off {c : Cl} {A : MA} {H H' : Hp} {n : Nat} {hv : List V} (M : MemC c A H n hv) (s : ∀ b o, H b = some o → (b = A.mem ∨ b = A.lay ∨ b = A.acc ∨ b = A.held) → H' b = some o) : MemC c A H' n hv := by
  obtain ⟨⟨dx, h1⟩, ⟨dy, h2⟩, h3, h4, ⟨al, h5, h6⟩, h7⟩ := M
  exact ⟨⟨dx, s _ _ h1 (.inl rfl)⟩, ⟨dy, s _ _ h2 (.inr (.inl rfl))⟩, s _ _ h3 (.inr (.inr (.inr rfl))), h4, ⟨al, s _ _ h5 (.inr (.inr (.inl rfl))), h6⟩, h7⟩
inductive Rq where
  | rd (cell : Nat)
  | wr (cell : Nat) (v : V)
  | sw (cell : Nat) (y z : V) (b : Bool)
  | dc (cell : Nat) (u : V) (b : Bool)
def Rq.cell : Rq → Nat
  | .rd k => k
  | .wr k _ => k
  | .sw k _ _ _ => k
  | .dc k _ _ => k
def Rq.kind : Rq → Str
  | .rd _ => "read"
  | .wr _ _ => "write"
  | .sw _ _ _ _ => "swap"
  | .dc _ _ _ => "decide"
def Rq.vals : Rq → List V
  | .rd k => [.str "read", .int k]
  | .wr k v => [.str "write", .int k, v]
  | .sw k y z _ => [.str "swap", .int k, y, z]
  | .dc k u _ => [.str "decide", .int k, u]
def RqOk (K : PySem.W.Frag) (H : Hp) (hv : List V) : Rq → Prop
  | .rd k => k < 461
  | .wr k _ => k < 461
  | .sw k y _ b => k < 461 ∧ ∃ x, hv[k]? = some x ∧ EqT K H x y b
  | .dc k _ b => k < 461 ∧ ∃ x, hv[k]? = some x ∧ EqT K H x (.int 0) b
theorem RqOk.mono {K : PySem.W.Frag} {H H' : Hp} {hv : List V} {q : Rq} (t : Tups H H') (h : RqOk K H hv q) : RqOk K H' hv q := by
  cases q with
  | rd k => exact h
  | wr k v => exact h
  | sw k y z b => obtain ⟨h1, x, h2, h3⟩ := h; exact ⟨h1, x, h2, h3.mono t⟩
  | dc k u b => obtain ⟨h1, x, h2, h3⟩ := h; exact ⟨h1, x, h2, h3.mono t⟩
theorem Rq.inK (q : Rq) : inV (.str q.kind) [.str "read", .str "write", .str "swap", .str "decide"] = true := by
  cases q with
  | rd k => show inV (.str "read") [.str "read", .str "write", .str "swap", .str "decide"] = true; decide +kernel
  | wr k v => show inV (.str "write") [.str "read", .str "write", .str "swap", .str "decide"] = true; decide +kernel
  | sw k y z b => show inV (.str "swap") [.str "read", .str "write", .str "swap", .str "decide"] = true; decide +kernel
  | dc k u b => show inV (.str "decide") [.str "read", .str "write", .str "swap", .str "decide"] = true; decide +kernel
theorem RqOk.lt {K : PySem.W.Frag} {H : Hp} {hv : List V} {q : Rq} (h : RqOk K H hv q) : q.cell < 461 := by
  cases q with
  | rd k => exact h
  | wr k v => exact h
  | sw k y z b => exact h.1
  | dc k u b => exact h.1
def RqDone (H' : Hp) (hv : List V) (n : Nat) (hv' : List V) (x : V) : Rq → Prop
  | .rd k => hv' = hv ∧ hv[k]? = some x
  | .wr k v => hv' = hv.set k v
  | .sw k _ z b => x = .bl b ∧ hv' = if b then hv.set k z else hv
  | .dc k u b => x = .bl b ∧ if b then ∃ t, H' t = some (.tup [u, .int n]) ∧ hv' = hv.set k (.ref t) else hv' = hv
theorem ixN_nat {n k : Nat} (h : k < n) : ixN n (k : Int) = some k := by
  unfold ixN
  rw [if_pos (by omega), if_pos (by omega)]
  simp
section
variable {P : Program} {w : World} {K : PySem.W.Frag} {mg : Str → Option Value} {base : Heap} {c : Cl}
/-! ### Memory.check_cell -/
def spCheck (c : Cl) : Sp := fun vs H Q _ => ∃ (A : MA) (n : Nat) (hv : List V) (k : Nat), vs = [.ref A.mem, .int k] ∧ MemC c A H n hv ∧ k < 461 ∧ Q .non H
theorem scCk : FnScope ["self", "cell"] ["self", "cell"] (defScope sCheck) := ⟨rfl, rfl, rfl, by decide +kernel, rfl, by decide +kernel, by decide +kernel⟩
theorem ok_check {f : Addr} {fd : FuncData} (T : Txt K mg c) (F : Fun K "check_cell" "Memory.check_cell" sCheck f fd) : FnOk P w K mg base CX0 1 f fd ["self", "cell"] (spCheck c) := by
  refine F.ok scCk (fun vs H Q E h => ?_) (fun cdv A outer s H vs Q E hr h => ?_)
  · obtain ⟨A, n, hv, k, rfl, _⟩ := h
    rfl
  · obtain ⟨A, n, hv, k, rfl, M, hk, q⟩ := h
    obtain ⟨dx, hm⟩ := M.mem
    refine ⟨_, pss_one (ps_if (pt_not (pt_chain op_le op_lt pe_int (pv 1) (pe_callB call_len_seq (by rfl) T.len PySem.boot_len (pa_cons (pe_fld (pv 0) rfl) pa_nil)))) pss_never pss_nil), ?_⟩
    refine ⟨_, rfl, _, _, rfl, rfl, _, rfl, iT (decide_eq_true (Int.natCast_nonneg k)) ?_⟩
    refine ⟨_, rfl, A.mem, c.M, dx, _, _, rfl, hm, T.M, T.mHeld, lk_at mfs_nd (i := 3) rfl, A.held, hv, rfl, .inl (SqL.of M.held), _, _, rfl, rfl, _, rfl, ?_⟩
    refine iF ?_ q
    rw [M.len]
    have : decide ((k : Int) < (461 : Nat)) = true := decide_eq_true (by omega)
    rw [this]; rfl

/-! ### Memory.changed -/
def spChanged (K : PySem.W.Frag) (c : Cl) : Sp := fun vs H Q _ => ∃ (A : MA) (n : Nat) (hv : List V) (q : Rq) (r : Addr), vs = [.ref A.mem, .str q.kind, .int q.cell, .ref r] ∧ MemC c A H n hv ∧ H r = some (.tup q.vals) ∧ RqOk K H hv q ∧
  ∀ H' hv' x, MemC c A H' n hv' → (∀ b o, H b = some o → b ≠ A.held → H' b = some o) → RqDone H' hv n hv' x q → Q x H'
theorem scCh : FnScope ["self", "kind", "cell", "request", "value"] ["self", "kind", "cell", "request"] (defScope sChanged) := ⟨rfl, rfl, rfl, by decide +kernel, rfl, by decide +kernel, by decide +kernel⟩
theorem ok_changed {f : Addr} {fd : FuncData} (T : Txt K mg c) (F : Fun K "changed" "Memory.changed" sChanged f fd) : FnOk P w K mg base CX0 1 f fd ["self", "kind", "cell", "request"] (spChanged K c) := by
  refine F.ok scCh (fun vs H Q E h => ?_) (fun cdv A outer s H vs Q E hr h => ?_)
  · obtain ⟨A, n, hv, q, r, rfl, _⟩ := h
    rfl
  · obtain ⟨A, n, hv, q, r, rfl, M, hr', hok, k⟩ := h
    obtain ⟨dx, hm⟩ := M.mem
    have hcell : q.cell < hv.length := by rw [M.len]; exact hok.lt
    obtain ⟨x0, hx0⟩ : ∃ x0, hv[q.cell]? = some x0 := ⟨hv[q.cell], List.getElem?_eq_getElem hcell⟩
    have nmh : A.mem ≠ A.held := ne_of hm M.held (by intro z; cases z)
    have nrh : r ≠ A.held := ne_of hr' M.held (by intro z; cases z)
    obtain ⟨dl, hlay⟩ := M.lay
    have nlh : A.lay ≠ A.held := ne_of hlay M.held (by intro z; cases z)
    obtain ⟨al, hal, hal2⟩ := M.acc
    -- the memory behind a store
    have stored : ∀ (H1 : Hp) (v : V), Same H H1 → MemC c A (upd H1 A.held (.lst (hv.set q.cell v))) n (hv.set q.cell v) := fun H1 v s =>
      ⟨⟨dx, (upd_ne nmh).trans (s _ _ hm)⟩, ⟨dl, (upd_ne nlh).trans (s _ _ hlay)⟩, upd_same, by rw [List.length_set]; exact M.len, ⟨al, (upd_ne M.ne).trans (s _ _ hal), hal2⟩, M.ne⟩
    have kept : ∀ (H1 : Hp) (o : HO), Same H H1 → ∀ b o', H b = some o' → b ≠ A.held → upd H1 A.held o b = some o' := fun H1 o s b o' h nb => by rw [upd_ne nb]; exact s _ _ h
    refine ⟨_, pss_cons (ps_set (i := 4) scCh.nd rfl (Or.inl rfl) (pe_ix ix_list (pe_fld (pv 0) rfl) (pv 2) (fun _ _ => rfl)))
      (pss_cons (ps_if (pt_cmpR op_eq (pv 1) pe_str (nomark _)) (pss_one (ps_ret (pv 4))) pss_nil)
      (pss_cons (ps_if (pt_cmpR op_eq (pv 1) pe_str (nomark _)) (pss_cons (ps_asg (pe_ix ix_tup (pv 3) pe_int (fun _ _ => rfl)) (pg_sub (pe_fld (pv 0) rfl) (pv 2) set_list)) (pss_one (ps_ret pe_non))) pss_nil)
      (pss_cons (ps_if (pt_cmpR op_eq (pv 1) pe_str (nomark _)) (pss_cons (ps_if (pt_cmpR (op_neD hr.units) (pv 4) (pe_ix ix_tup (pv 3) pe_int (fun _ _ => rfl)) (nomark _)) (pss_one (ps_ret pe_bl)) pss_nil)
        (pss_cons (ps_asg (pe_ix ix_tup (pv 3) pe_int (fun _ _ => rfl)) (pg_sub (pe_fld (pv 0) rfl) (pv 2) set_list)) (pss_one (ps_ret pe_bl)))) pss_nil)
      (pss_cons (ps_if (pt_cmpR (op_neD hr.units) (pv 4) pe_int (nomark _)) (pss_one (ps_ret pe_bl)) pss_nil)
      (pss_cons (ps_asg (pe_tup (pa_cons (pe_ix ix_tup (pv 3) pe_int (fun _ _ => rfl)) (pa_cons (pe_fld (pv 0) rfl) pa_nil))) (pg_sub (pe_fld (pv 0) rfl) (pv 2) set_list))
      (pss_one (ps_ret pe_bl))))))), ?_⟩
    refine ⟨_, rfl, A.mem, c.M, dx, _, _, rfl, hm, T.M, T.mHeld, lk_at mfs_nd (i := 3) rfl, _, rfl, A.held, hv, _, _, rfl, rfl, SqL.of M.held, atI_nat hx0, ?_⟩
    cases q with
    | rd k0 =>
      refine ⟨_, rfl, rfl, _, rfl, iT (by show decide (V.str "read" = V.str "read") = true; decide +kernel) ?_⟩
      exact ⟨_, rfl, k H hv x0 M (fun b o h _ => h) ⟨rfl, hx0⟩⟩
    | wr k0 v =>
      refine ⟨_, rfl, rfl, _, rfl, iF (by show decide (V.str "write" = V.str "read") = false; decide +kernel) ?_⟩
      refine ⟨_, rfl, rfl, _, rfl, iT (by show decide (V.str "write" = V.str "write") = true; decide +kernel) ?_⟩
      refine ⟨_, rfl, r, _, _, v, rfl, rfl, SqT.of hr', atI_nat (j := 2) rfl, _, rfl, A.mem, c.M, dx, _, _, rfl, hm, T.M, T.mHeld, lk_at mfs_nd (i := 3) rfl, _, rfl, A.held, hv, k0, k0, rfl, rfl, M.held, ixN_nat hcell, ?_⟩
      exact k _ _ _ (stored H v (Same.refl H)) (kept H _ (Same.refl H)) rfl
    | sw k0 y z b =>
      obtain ⟨_, x1, hx1, heq⟩ := hok
      have hx0' : hv[k0]? = some x0 := hx0
      rw [hx0'] at hx1
      cases hx1
      refine ⟨_, rfl, rfl, _, rfl, iF (by show decide (V.str "swap" = V.str "read") = false; decide +kernel) ?_⟩
      refine ⟨_, rfl, rfl, _, rfl, iF (by show decide (V.str "swap" = V.str "write") = false; decide +kernel) ?_⟩
      refine ⟨_, rfl, rfl, _, rfl, iT (by show decide (V.str "swap" = V.str "swap") = true; decide +kernel) ?_⟩
      obtain ⟨d1, d2, q1, q2, q3, q4, q5⟩ := heq.now
      refine ⟨_, rfl, _, rfl, r, _, _, y, rfl, rfl, SqT.of hr', atI_nat (j := 2) rfl, d1, d2, q1, q2, q3, q4, _, rfl, ?_⟩
      cases b with
      | false =>
        refine iT (by rw [q5]; rfl) ?_
        exact k H hv _ M (fun b o h _ => h) ⟨rfl, rfl⟩
      | true =>
        refine iF (by rw [q5]; rfl) ?_
        refine ⟨_, rfl, r, _, _, z, rfl, rfl, SqT.of hr', atI_nat (j := 3) rfl, _, rfl, A.mem, c.M, dx, _, _, rfl, hm, T.M, T.mHeld, lk_at mfs_nd (i := 3) rfl, _, rfl, A.held, hv, k0, k0, rfl, rfl, M.held, ixN_nat hcell, ?_⟩
        exact k _ _ _ (stored H z (Same.refl H)) (kept H _ (Same.refl H)) ⟨rfl, rfl⟩
    | dc k0 u b =>
      obtain ⟨_, x1, hx1, heq⟩ := hok
      have hx0' : hv[k0]? = some x0 := hx0
      rw [hx0'] at hx1
      cases hx1
      refine ⟨_, rfl, rfl, _, rfl, iF (by show decide (V.str "decide" = V.str "read") = false; decide +kernel) ?_⟩
      refine ⟨_, rfl, rfl, _, rfl, iF (by show decide (V.str "decide" = V.str "write") = false; decide +kernel) ?_⟩
      refine ⟨_, rfl, rfl, _, rfl, iF (by show decide (V.str "decide" = V.str "swap") = false; decide +kernel) ?_⟩
      obtain ⟨d1, d2, q1, q2, q3, q4, q5⟩ := heq.now
      refine ⟨_, rfl, d1, d2, q1, q2, q3, q4, _, rfl, ?_⟩
      cases b with
      | false =>
        refine iT (by rw [q5]; rfl) ?_
        exact k H hv _ M (fun b o h _ => h) ⟨rfl, rfl⟩
      | true =>
        refine iF (by rw [q5]; rfl) ?_
        refine ⟨_, rfl, r, _, _, u, rfl, rfl, SqT.of hr', atI_nat (j := 2) rfl, _, rfl, A.mem, c.M, dx, _, _, rfl, hm, T.M, T.mCount, lk_at mfs_nd (i := 1) rfl, (by show 2 ≤ sizeLine; decide), fun t ht => ?_⟩
        have s1 : Same H (upd H t (.tup [u, .int n])) := fun b o e => by rw [upd_ne (ne_of_none e ht)]; exact e
        refine ⟨_, rfl, A.mem, c.M, dx, _, _, rfl, s1 _ _ hm, T.M, T.mHeld, lk_at mfs_nd (i := 3) rfl, _, rfl, A.held, hv, k0, k0, rfl, rfl, s1 _ _ M.held, ixN_nat hcell, ?_⟩
        have nth : t ≠ A.held := (ne_of_none M.held ht).symm
        exact k _ _ _ (stored _ (.ref t) s1) (kept _ _ s1) ⟨rfl, t, (upd_ne nth).trans upd_same, rfl⟩

/-! ### Memory.access -/
def spAccess (K : PySem.W.Frag) (c : Cl) : Sp := fun vs H Q _ => ∃ (A : MA) (n : Nat) (hv : List V) (q : Rq) (r : Addr) (th : V), vs = [.ref A.mem, th, .ref r] ∧ MemC c A H n hv ∧ n < 1000000 ∧ H r = some (.tup q.vals) ∧ RqOk K H hv q ∧
  ∀ H' hv' x t, MemC c A H' (n + 1) hv' → (∀ b o, H b = some o → b ≠ A.mem → b ≠ A.acc → b ≠ A.held → H' b = some o) → H' t = some (.tup [x, .int (n + 1)]) → RqDone H' hv (n + 1) hv' x q → Q (.ref t) H'
theorem scAcs : FnScope ["self", "thread", "request", "kind", "cell"] ["self", "thread", "request"] (defScope sAccess) := ⟨rfl, rfl, rfl, by decide +kernel, rfl, by decide +kernel, by decide +kernel⟩
theorem ok_access {f : Addr} {fd : FuncData} (T : Txt K mg c) (F : Fun K "access" "Memory.access" sAccess f fd)
    (W1 : MOk P w K mg base c.M "check_cell" 1 ["self", "cell"] (spCheck c)) (W2 : MOk P w K mg base c.M "changed" 1 ["self", "kind", "cell", "request"] (spChanged K c)) : FnOk P w K mg base CX0 2 f fd ["self", "thread", "request"] (spAccess K c) := by
  obtain ⟨f1, fd1, m1, G1, b1⟩ := W1.ex
  obtain ⟨f2, fd2, m2, G2, b2⟩ := W2.ex
  obtain ⟨kd, hkd, hks⟩ := T.kinds
  refine F.ok scAcs (fun vs H Q E h => ?_) (fun cdv A outer s H vs Q E hr h => ?_)
  · obtain ⟨A, n, hv, q, r, th, rfl, _⟩ := h
    rfl
  · obtain ⟨A, n, hv, q, r, th, rfl, M, hn, hr', hok, k⟩ := h
    obtain ⟨dx, hm⟩ := M.mem
    obtain ⟨dl, hlay⟩ := M.lay
    obtain ⟨al, hal, hal2⟩ := M.acc
    have q0 : atI q.vals 0 = some (.str q.kind) := by cases q <;> rfl
    have q1 : atI q.vals 1 = some (.int q.cell) := by cases q <;> rfl
    have nma : A.mem ≠ A.acc := ne_of hm hal (by intro z; cases z)
    have nmh : A.mem ≠ A.held := ne_of hm M.held (by intro z; cases z)
    have nml : A.mem ≠ A.lay := ne_of hm hlay (by intro z; injection z with _ _ z; exact absurd (congrArg List.length z) (by show ¬ (4 = 3); decide))
    have nla : A.lay ≠ A.acc := ne_of hlay hal (by intro z; cases z)
    have nrm : r ≠ A.mem := ne_of hr' hm (by intro z; cases z)
    have nra : r ≠ A.acc := ne_of hr' hal (by intro z; cases z)
    refine ⟨_, pss_cons (ps_set (i := 3) scAcs.nd rfl (Or.inl rfl) (pe_ix ix_tup (pv 2) pe_int (fun _ _ => rfl)))
      (pss_cons (ps_if (pt_cmpR op_notIn_seq (pv 3) (pe_glob (v := .ref kd) (by rfl) hkd rfl) (by rfl)) pss_never pss_nil)
      (pss_cons (ps_set (i := 4) scAcs.nd rfl (Or.inl rfl) (pe_ix ix_tup (pv 2) pe_int (fun _ _ => rfl)))
      (pss_cons (ps_expr (pe_meth (pv 0) T.M m1 G1 hr b1 .nil pass0 (pa_cons (pv 4) pa_nil)))
      (pss_cons (ps_fldaug (pv 0) pe_int in_add)
      (pss_cons (ps_expr (pe_bm PySem.F.plainAttrs_list PySem.F.slot_list_append PySem.F.type_list_append mt_append (pe_fld (pv 0) rfl) (pa_cons (pe_tup (pa_cons (pe_fld (pv 0) rfl) (pa_cons (pv 1) (pa_cons (pv 3) (pa_cons (pv 4) pa_nil))))) pa_nil)))
      (pss_one (ps_ret (pe_tup (pa_cons (pe_meth (pv 0) T.M m2 G2 hr b2 .nil pass0 (pa_cons (pv 3) (pa_cons (pv 4) (pa_cons (pv 2) pa_nil)))) (pa_cons (pe_fld (pv 0) rfl) pa_nil)))))))))), ?_⟩
    refine ⟨_, rfl, r, _, _, _, rfl, rfl, SqT.of hr', q0, ?_⟩
    refine ⟨_, rfl, kd, _, rfl, .inr (hks _), rfl, rfl, _, rfl, iF ?_ ?_⟩
    · show (if true = true then !inV (V.str q.kind) [.str "read", .str "write", .str "swap", .str "decide"] else inV (V.str q.kind) [.str "read", .str "write", .str "swap", .str "decide"]) = false
      rw [Rq.inK]; rfl
    refine ⟨_, rfl, r, _, _, _, rfl, rfl, SqT.of hr', q1, ?_⟩
    refine ⟨_, rfl, A.mem, dx, _, rfl, hm, mfs_no (by decide +kernel), _, rfl, A, n, hv, q.cell, rfl, M, hok.lt, ?_⟩
    refine ⟨_, rfl, A.mem, c.M, dx, _, _, rfl, hm, T.M, T.mCount, lk_at mfs_nd (i := 1) rfl, _, _, rfl, rfl, dx, _, hm, (by show 4 < 1000; decide), ?_⟩
    rw [put_at mfs_nd (i := 1) rfl]
    have hm1 : upd H A.mem (.ins c.M dx ((mfs A.lay n A.acc A.held).set 1 ("count", .int ((n : Int) + 1)))) A.mem = some (.ins c.M dx (mfs A.lay (n + 1) A.acc A.held)) := upd_same
    refine ⟨_, rfl, A.mem, c.M, dx, mfs A.lay (n + 1) A.acc A.held, _, rfl, hm1, T.M, T.mAccesses, lk_at mfs_nd (i := 2) rfl, .inl ⟨rfl, _, SqL.of ((upd_ne nma.symm).trans hal)⟩,
      _, rfl, A.mem, c.M, dx, mfs A.lay (n + 1) A.acc A.held, _, rfl, hm1, T.M, T.mCount, lk_at mfs_nd (i := 1) rfl, _, rfl, _, rfl, _, rfl, (by show 4 ≤ sizeLine; decide), fun t ht => ?_⟩
    have nta : A.acc ≠ t := fun z => by rw [← z, upd_ne nma.symm, hal] at ht; cases ht
    have ht0 : H t = none := by
      rw [upd_ne (fun z => by rw [z, hm1] at ht; cases ht)] at ht
      exact ht
    refine ⟨A.acc, al, _, rfl, rfl, (upd_ne nta).trans ((upd_ne nma.symm).trans hal), (by rw [hal2]; exact Nat.lt_of_lt_of_le hn (by decide)), ?_⟩
    -- the memory ahead of changed
    have old : ∀ b o, H b = some o → b ≠ A.mem → b ≠ A.acc → upd (upd (upd H A.mem (.ins c.M dx ((mfs A.lay n A.acc A.held).set 1 ("count", .int ((n : Int) + 1))))) t (.tup [.int ((n : Int) + 1), th, .str q.kind, .int q.cell])) A.acc (.lst (al ++ [.ref t])) b = some o := fun b o h h1 h2 => by
      rw [upd_ne h2, upd_ne (ne_of_none h ht0), upd_ne h1]; exact h
    have ntm : A.mem ≠ t := ne_of_none hm ht0
    have M1 : MemC c A (upd (upd (upd H A.mem (.ins c.M dx ((mfs A.lay n A.acc A.held).set 1 ("count", .int ((n : Int) + 1))))) t (.tup [.int ((n : Int) + 1), th, .str q.kind, .int q.cell])) A.acc (.lst (al ++ [.ref t]))) (n + 1) hv :=
      ⟨⟨dx, by rw [upd_ne nma, upd_ne ntm]; exact hm1⟩, ⟨dl, old _ _ hlay nml.symm nla⟩, old _ _ M.held nmh.symm M.ne.symm, M.len, ⟨_, upd_same, by simp [hal2]⟩, M.ne⟩
    have tu : Tups H (upd (upd (upd H A.mem (.ins c.M dx ((mfs A.lay n A.acc A.held).set 1 ("count", .int ((n : Int) + 1))))) t (.tup [.int ((n : Int) + 1), th, .str q.kind, .int q.cell])) A.acc (.lst (al ++ [.ref t]))) := fun b xs h => old b _ h (ne_of h hm (by intro z; cases z)) (ne_of h hal (by intro z; cases z))
    obtain ⟨dx1, hm2⟩ := M1.mem
    refine ⟨_, rfl, A.mem, dx1, _, rfl, hm2, mfs_no (by decide +kernel), _, rfl, _, rfl, _, rfl, A, n + 1, hv, q, r, rfl, M1, old _ _ hr' nrm nra, hok.mono tu, fun H' hv' x M' fr dn => ?_⟩
    obtain ⟨dx3, hm3⟩ := M'.mem
    refine ⟨_, rfl, A.mem, c.M, dx3, mfs A.lay (n + 1 : Nat) A.acc A.held, _, rfl, hm3, T.M, T.mCount, lk_at mfs_nd (i := 1) rfl, (by show 2 ≤ sizeLine; decide), fun p hp => ?_⟩
    have s2 : Same H' (upd H' p (.tup [x, .int (n + 1 : Nat)])) := fun b o e => by rw [upd_ne (ne_of_none e hp)]; exact e
    refine k _ hv' x p (M'.same s2) (fun b o h h1 h2 h3 => s2 _ _ (fr b o (old b o h h1 h2) h3)) upd_same ?_
    cases q with
    | rd k0 => exact dn
    | wr k0 v => exact dn
    | sw k0 y z b => exact dn
    | dc k0 u b =>
      cases b with
      | false => exact dn
      | true =>
        obtain ⟨h1, t', h2, h3⟩ := dn
        exact ⟨h1, t', s2 _ _ h2, h3⟩
end
end Wk
set_option Elab.async false
set_option linter.all false
set_option maxRecDepth 100000
set_option maxHeartbeats 4000000
namespace Wk
open PySem L2
open Esp (En Sts Wd Ph Mem es nn ent pg entAt shS shW shown stepF stepS settle passF)
section
variable {P : Program} {w : World} {K : PySem.W.Frag} {mg : Str → Option Value} {base : Heap} {c : Cl}
/-! ### Memory.peek -/
def spPeek (c : Cl) : Sp := fun vs H Q _ => ∃ (A : MA) (n : Nat) (hv : List V) (k : Nat) (x : V), vs = [.ref A.mem, .int k] ∧ MemC c A H n hv ∧ hv[k]? = some x ∧ Q x H
theorem scPk : FnScope ["self", "cell"] ["self", "cell"] (defScope sPeek) := ⟨rfl, rfl, rfl, by decide +kernel, rfl, by decide +kernel, by decide +kernel⟩
theorem ok_peek {f : Addr} {fd : FuncData} (T : Txt K mg c) (F : Fun K "peek" "Memory.peek" sPeek f fd) (W1 : MOk P w K mg base c.M "check_cell" 1 ["self", "cell"] (spCheck c)) : FnOk P w K mg base CX0 2 f fd ["self", "cell"] (spPeek c) := by
  obtain ⟨f1, fd1, m1, G1, b1⟩ := W1.ex
  refine F.ok scPk (fun vs H Q E h => ?_) (fun cdv A outer s H vs Q E hr h => ?_)
  · obtain ⟨A, n, hv, k, x, rfl, _⟩ := h
    rfl
  · obtain ⟨A, n, hv, k, x, rfl, M, hx, q⟩ := h
    obtain ⟨dx, hm⟩ := M.mem
    have hk : k < 461 := by rw [← M.len]; exact (List.getElem?_eq_some_iff.mp hx).1
    refine ⟨_, pss_cons (ps_expr (pe_meth (pv 0) T.M m1 G1 hr b1 .nil pass0 (pa_cons (pv 1) pa_nil))) (pss_one (ps_ret (pe_ix ix_list (pe_fld (pv 0) rfl) (pv 1) (fun _ _ => rfl)))), ?_⟩
    refine ⟨_, rfl, A.mem, dx, _, rfl, hm, mfs_no (by decide +kernel), _, rfl, A, n, hv, k, rfl, M, hk, ?_⟩
    exact ⟨_, rfl, A.mem, c.M, dx, _, _, rfl, hm, T.M, T.mHeld, lk_at mfs_nd (i := 3) rfl, _, rfl, A.held, hv, _, _, rfl, rfl, SqL.of M.held, atI_nat hx, q⟩

/-! ### Layout -/
def spWord : Sp := fun vs H Q _ => ∃ (l : V) (p : Int), vs = [l, .int p] ∧ Q (.int (5 + p)) H
theorem scWd : FnScope ["self", "page"] ["self", "page"] (defScope sWord) := ⟨rfl, rfl, rfl, by decide +kernel, rfl, by decide +kernel, by decide +kernel⟩
theorem ok_word {f : Addr} {fd : FuncData} (T : Txt K mg c) (F : Fun K "word" "Layout.word" sWord f fd) : FnOk P w K mg base CX0 1 f fd ["self", "page"] spWord := by
  obtain ⟨t5, h5⟩ := T.firstWord
  refine F.ok scWd (fun vs H Q E h => ?_) (fun cdv A outer s H vs Q E hr h => ?_)
  · obtain ⟨l, p, rfl, _⟩ := h
    rfl
  · obtain ⟨l, p, rfl, q⟩ := h
    exact ⟨_, pss_one (ps_ret (pe_op op_add (pe_glob (v := .int 5) (by rfl) h5 ⟨_, rfl⟩) (pv 1))), ⟨_, rfl, _, _, rfl, rfl, q⟩⟩
def spRecordL (c : Cl) : Sp := fun vs H Q _ => ∃ (l dx : Addr) (p : Int), vs = [.ref l, .int p] ∧ H l = some (.ins c.L dx lfs) ∧ Q (.int (11 + p)) H
theorem scRc : FnScope ["self", "index"] ["self", "index"] (defScope sRecord) := ⟨rfl, rfl, rfl, by decide +kernel, rfl, by decide +kernel, by decide +kernel⟩
theorem ok_recordL {f : Addr} {fd : FuncData} (T : Txt K mg c) (F : Fun K "record" "Layout.record" sRecord f fd) : FnOk P w K mg base CX0 1 f fd ["self", "index"] (spRecordL c) := by
  obtain ⟨t5, h5⟩ := T.firstWord
  refine F.ok scRc (fun vs H Q E h => ?_) (fun cdv A outer s H vs Q E hr h => ?_)
  · obtain ⟨l, dx, p, rfl, _⟩ := h
    rfl
  · obtain ⟨l, dx, p, rfl, hl, q⟩ := h
    exact ⟨_, pss_one (ps_ret (pe_op op_add (pe_op op_add (pe_glob (v := .int 5) (by rfl) h5 ⟨_, rfl⟩) (pe_fld (pv 0) rfl)) (pv 1))), ⟨_, rfl, l, c.L, dx, _, _, rfl, hl, T.L, T.lPages, lk_at lfs_nd (i := 1) rfl, _, _, rfl, rfl, _, rfl, _, _, rfl, rfl, q⟩⟩
def spCells (c : Cl) : Sp := fun vs H Q _ => ∃ (l dx : Addr), vs = [.ref l] ∧ H l = some (.ins c.L dx lfs) ∧ Q (.int 461) H
theorem scCl : FnScope ["self"] ["self"] (defScope sCells) := ⟨rfl, rfl, rfl, by decide +kernel, rfl, by decide +kernel, by decide +kernel⟩
theorem ok_cells {f : Addr} {fd : FuncData} (T : Txt K mg c) (F : Fun K "cells" "Layout.cells" sCells f fd) : FnOk P w K mg base CX0 1 f fd ["self"] (spCells c) := by
  obtain ⟨t5, h5⟩ := T.firstWord
  refine F.ok scCl (fun vs H Q E h => ?_) (fun cdv A outer s H vs Q E hr h => ?_)
  · obtain ⟨l, dx, rfl, _⟩ := h
    rfl
  · obtain ⟨l, dx, rfl, hl, q⟩ := h
    exact ⟨_, pss_one (ps_ret (pe_op op_add (pe_op op_add (pe_glob (v := .int 5) (by rfl) h5 ⟨_, rfl⟩) (pe_fld (pv 0) rfl)) (pe_fld (pv 0) rfl))), ⟨_, rfl, l, c.L, dx, _, _, rfl, hl, T.L, T.lPages, lk_at lfs_nd (i := 1) rfl, _, _, rfl, rfl, _, rfl, l, c.L, dx, _, _, rfl, hl, T.L, T.lRecords, lk_at lfs_nd (i := 2) rfl, _, _, rfl, rfl, q⟩⟩
def spLayout (c : Cl) : Sp := fun vs H Q _ => ∃ (p dx : Addr), vs = [.ref p, .int 4, .int 6, .int 450] ∧ H p = some (.ins c.L dx []) ∧
  ∀ H', H' p = some (.ins c.L dx lfs) → (∀ b, b ≠ p → H' b = H b) → Q .non H'
theorem scLI : FnScope ["self", "threads", "pages", "records"] ["self", "threads", "pages", "records"] (defScope sLayoutI) := ⟨rfl, rfl, rfl, by decide +kernel, rfl, by decide +kernel, by decide +kernel⟩
theorem ok_layout {f : Addr} {fd : FuncData} (T : Txt K mg c) (F : Fun K "__init__" "Layout.__init__" sLayoutI f fd) : FnOk P w K mg base CX0 1 f fd ["self", "threads", "pages", "records"] (spLayout c) := by
  obtain ⟨t1, g1⟩ := T.mostThreads
  obtain ⟨t2, g2⟩ := T.mostPages
  refine F.ok scLI (fun vs H Q E h => ?_) (fun cdv A outer s H vs Q E hr h => ?_)
  · obtain ⟨p, dx, rfl, _⟩ := h
    rfl
  · obtain ⟨p, dx, rfl, hp, q⟩ := h
    refine ⟨_, pss_cons (ps_if (PW.pt (pw_or (pt_not (pt_chain op_le op_le pe_int (pv 1) (pe_glob (v := .int 4) (by rfl) g1 ⟨_, rfl⟩))) (pw_or (pt_not (pt_chain op_le op_le pe_int (pv 2) (pe_glob (v := .int 48) (by rfl) g2 ⟨_, rfl⟩))) (pw_or1 (pt_cmpR op_lt (pv 3) (pv 2) (nomark _)))))) pss_never pss_nil)
      (pss_cons (ps_fld (pv 0) (pv 1) rfl) (pss_cons (ps_fld (pv 0) (pv 2) rfl) (pss_one (ps_fld (pv 0) (pv 3) rfl)))), ?_⟩
    refine ⟨_, rfl, _, _, rfl, rfl, _, rfl, iT (by decide) ?_⟩
    refine ⟨_, _, rfl, rfl, _, rfl, iF (by decide) ?_⟩
    refine ⟨_, rfl, _, _, rfl, rfl, _, rfl, iT (by decide) ?_⟩
    refine ⟨_, _, rfl, rfl, _, rfl, iF (by decide) ?_⟩
    refine ⟨_, rfl, _, rfl, _, _, rfl, rfl, _, rfl, iF (by decide) ?_⟩
    refine ⟨_, rfl, _, rfl, p, c.L, dx, _, rfl, hp, T.L, T.lThreads, (by show 0 < 1000; decide), ?_⟩
    rw [put_new (by show ("threads" : Str) ∉ ([] : List Str); decide +kernel)]
    refine ⟨_, rfl, _, rfl, p, c.L, dx, _, rfl, upd_same, T.L, T.lPages, (by show 1 < 1000; decide), ?_⟩
    rw [put_new (by show ("pages" : Str) ∉ (["threads"] : List Str); decide +kernel), upd_upd]
    refine ⟨_, rfl, _, rfl, p, c.L, dx, _, rfl, upd_same, T.L, T.lRecords, (by show 2 < 1000; decide), ?_⟩
    rw [put_new (by show ("records" : Str) ∉ (["threads", "pages"] : List Str); decide +kernel), upd_upd]
    exact q _ upd_same fun b nb => upd_ne nb

/-! ### Memory.__init__ -/
/-- what the first memory holds: the words' addresses -/
def Hv0 (hv : List V) : Prop := hv.length = 461 ∧ ∀ p, p < 6 → hv[5 + p]? = some (.int (11 + p))
def spMemory (c : Cl) : Sp := fun vs H Q _ => ∃ (p dx lay dl : Addr), vs = [.ref p, .ref lay] ∧ H p = some (.ins c.M dx []) ∧ H lay = some (.ins c.L dl lfs) ∧
  ∀ H' acc held hv, MemC c ⟨p, lay, acc, held⟩ H' 0 hv → Hv0 hv → H acc = none → H held = none → (∀ b o, H b = some o → b ≠ p → H' b = some o) → Q .non H'
theorem scMI : FnScope ["self", "layout", "page", "address"] ["self", "layout"] (defScope sMemI) := ⟨rfl, rfl, rfl, by decide +kernel, rfl, by decide +kernel, by decide +kernel⟩
theorem ok_memory {f : Addr} {fd : FuncData} (T : Txt K mg c) (F : Fun K "__init__" "Memory.__init__" sMemI f fd)
    (W1 : MOk P w K mg base c.L "cells" 1 ["self"] (spCells c)) (W2 : MOk P w K mg base c.L "record" 1 ["self", "index"] (spRecordL c)) (W3 : MOk P w K mg base c.L "word" 1 ["self", "page"] spWord) : FnOk P w K mg base CX0 2 f fd ["self", "layout"] (spMemory c) := by
  obtain ⟨f1, fd1, m1, G1, b1⟩ := W1.ex
  obtain ⟨f2, fd2, m2, G2, b2⟩ := W2.ex
  obtain ⟨f3, fd3, m3, G3, b3⟩ := W3.ex
  refine F.ok scMI (fun vs H Q E h => ?_) (fun cdv A outer s H vs Q E hr h => ?_)
  · obtain ⟨p, dx, lay, dl, rfl, _⟩ := h
    rfl
  · obtain ⟨p, dx, lay, dl, rfl, hp, hlay, q⟩ := h
    have npl : lay ≠ p := ne_of hlay hp (by intro z; injection z with _ _ z; exact absurd (congrArg List.length z) (by show ¬ (3 = 0); decide))
    refine ⟨_, pss_cons (ps_fld (pv 0) (pv 1) rfl) (pss_cons (ps_fld (pv 0) pe_int rfl) (pss_cons (ps_fld (pv 0) (pe_lst pa_nil) rfl)
      (pss_cons (ps_fld (pv 0) (pe_op op_rep (pe_lst (pa_cons pe_non pa_nil)) (pe_meth0 (pv 1) T.L m1 G1 hr b1 .nil pass0)) rfl)
      (pss_cons (ps_asg pe_int (pg_sub (pe_fld (pv 0) rfl) pe_int set_list))
      (pss_cons (ps_for PassesOwn.never rfl (pi_range1 (by rfl) T.range (pa_cons (pe_fld (pv 1) rfl) pa_nil)) (pg_name (i := 2) scMI.nd rfl (Or.inl rfl))
        (pss_cons (ps_set (i := 3) scMI.nd rfl (Or.inl rfl) (pe_meth (pv 1) T.L m2 G2 hr b2 .nil pass0 (pa_cons (pv 2) pa_nil)))
        (pss_cons (ps_asg (pv 3) (pg_sub (pe_fld (pv 0) rfl) (pe_meth (pv 1) T.L m3 G3 hr b3 .nil pass0 (pa_cons (pv 2) pa_nil)) set_list))
        (pss_one (ps_asg (pe_tup (pa_cons pe_str (pa_cons (pv 2) pa_nil))) (pg_sub (pe_fld (pv 0) rfl) (pv 3) set_list))))))
      (pss_one (ps_asg (pe_tup (pa_cons pe_str (pa_cons pe_non (pa_cons pe_non (pa_cons (pe_tup pa_nil) (pa_cons (pe_tup pa_nil) pa_nil)))))) (pg_sub (pe_fld (pv 0) rfl) (pe_meth (pv 1) T.L m2 G2 hr b2 .nil pass0 (pa_cons pe_int pa_nil)) set_list)))))))), ?_⟩
    refine ⟨_, rfl, _, rfl, p, c.M, dx, _, rfl, hp, T.M, T.mLayout, (by show 0 < 1000; decide), ?_⟩
    rw [put_new (by show ("layout" : Str) ∉ ([] : List Str); decide +kernel)]
    refine ⟨_, rfl, p, c.M, dx, _, rfl, upd_same, T.M, T.mCount, (by show 1 < 1000; decide), ?_⟩
    rw [put_new (by show ("count" : Str) ∉ (["layout"] : List Str); decide +kernel), upd_upd]
    refine ⟨Nat.zero_le _, fun acc hacc => ?_⟩
    have npa : p ≠ acc := fun z => by rw [z, upd_same] at hacc; cases hacc
    have hacc0 : H acc = none := by rw [upd_ne npa.symm] at hacc; exact hacc
    refine ⟨_, rfl, p, c.M, dx, _, rfl, (upd_ne npa).trans upd_same, T.M, T.mAccesses, (by show 2 < 1000; decide), ?_⟩
    rw [put_new (by show ("accesses" : Str) ∉ (["layout", "count"] : List Str); decide +kernel)]
    refine ⟨by show 1 ≤ sizeLine; decide, fun l1 hl1 => ?_⟩
    have npl1 : p ≠ l1 := fun z => by rw [z, upd_same] at hl1; cases hl1
    have nal1 : acc ≠ l1 := fun z => by rw [← z, upd_ne npa.symm, upd_same] at hl1; cases hl1
    have hl10 : H l1 = none := by rw [upd_ne npl1.symm, upd_ne nal1.symm, upd_ne npl1.symm] at hl1; exact hl1
    have hlay1 : ∀ o1 o2 o3 o4, upd (upd (upd (upd H p o1) acc o2) p o3) l1 o4 lay = some (.ins c.L dl lfs) := fun o1 o2 o3 o4 => by
      rw [upd_ne (ne_of_none hlay hl10), upd_ne npl, upd_ne (ne_of_none hlay hacc0), upd_ne npl]; exact hlay
    refine ⟨_, rfl, lay, dl, _, rfl, hlay1 _ _ _ _, lk_no (by show ("cells" : Str) ∉ (["threads", "pages", "records"] : List Str); decide +kernel), lay, dl, rfl, hlay1 _ _ _ _, l1, 461, [.non], rfl, rfl, upd_same, (by decide), (by decide), (by show 1 * 461 ≤ sizeLine; decide), fun held hheld => ?_⟩
    have nph : p ≠ held := fun z => by rw [← z, upd_ne npl1, upd_same] at hheld; cases hheld
    have nah : acc ≠ held := fun z => by rw [← z, upd_ne nal1, upd_ne npa.symm, upd_same] at hheld; cases hheld
    have nlh : l1 ≠ held := fun z => by rw [← z, upd_same] at hheld; cases hheld
    have hheld0 : H held = none := by rw [upd_ne nlh.symm, upd_ne nph.symm, upd_ne nah.symm, upd_ne nph.symm] at hheld; exact hheld
    refine ⟨_, rfl, p, c.M, dx, _, rfl, (upd_ne nph).trans ((upd_ne npl1).trans upd_same), T.M, T.mHeld, (by show 3 < 1000; decide), ?_⟩
    rw [put_new (by show ("held" : Str) ∉ (["layout", "count", "accesses"] : List Str); decide +kernel)]
    refine ⟨_, rfl, p, c.M, dx, mfs lay 0 acc held, _, rfl, upd_same, T.M, T.mHeld, lk_at mfs_nd (i := 3) rfl, held, _, 0, 0, rfl, rfl, (upd_ne nph.symm).trans upd_same, ixN_nat (n := 461) (by decide), ?_⟩
    have hv0len : ((List.replicate (461 : Int).toNat [V.non]).flatten.set 0 (.int 0)).length = 461 := by
      rw [List.length_set, List.length_flatten]; simp
    have nlap : lay ≠ acc := ne_of_none hlay hacc0
    have nll1 : lay ≠ l1 := ne_of_none hlay hl10
    have nlhe : lay ≠ held := ne_of_none hlay hheld0
    have nap := npa.symm
    refine ⟨_, rfl, lay, c.L, dl, lfs, _, rfl, ?_, T.L, T.lPages, lk_at lfs_nd (i := 1) rfl, 6, rfl, by decide, by decide, for_range (n := 6) (fun i σ H' => ∃ (v2 v3 : Option V) (hv : List V), σ = [some (.ref p), some (.ref lay), v2, v3] ∧ MemC c ⟨p, lay, acc, held⟩ H' 0 hv ∧ (∀ j, j < i → hv[5 + j]? = some (.int (11 + j))) ∧ ∀ b o, H b = some o → b ≠ p → H' b = some o) ?_ ?_ ?_⟩
    · rw [upd_ne nlhe, upd_ne npl, upd_ne nlhe, upd_ne nll1, upd_ne npl, upd_ne nlap, upd_ne npl]; exact hlay
    · refine ⟨_, _, _, rfl, ⟨⟨dx, (upd_ne nph).trans upd_same⟩, ⟨dl, ?_⟩, upd_same, hv0len, ⟨[], ?_, rfl⟩, nah⟩, fun j hj => absurd hj (Nat.not_lt_zero j), fun b o h nb => ?_⟩
      · rw [upd_ne nlhe, upd_ne npl, upd_ne nlhe, upd_ne nll1, upd_ne npl, upd_ne nlap, upd_ne npl]; exact hlay
      · rw [upd_ne nah, upd_ne nap, upd_ne nah, upd_ne nal1, upd_ne nap]; exact upd_same
      · rw [upd_ne (ne_of_none h hheld0), upd_ne nb, upd_ne (ne_of_none h hheld0), upd_ne (ne_of_none h hl10), upd_ne nb, upd_ne (ne_of_none h hacc0), upd_ne nb]; exact h
    · rintro i σ H' hi ⟨v2, v3, hv, rfl, M, hj, fr⟩
      obtain ⟨dx', hm⟩ := M.mem
      obtain ⟨dl', hl⟩ := M.lay
      have nmh : p ≠ held := ne_of hm M.held (by intro z; cases z)
      have nlh' : lay ≠ held := ne_of hl M.held (by intro z; cases z)
      obtain ⟨al, hal, hal2⟩ := M.acc
      have len := M.len
      refine ⟨_, rfl, lay, dl', lfs, rfl, hl, lk_no (by show ("record" : Str) ∉ (["threads", "pages", "records"] : List Str); decide +kernel), _, rfl, lay, dl', _, rfl, hl, ?_⟩
      have e5 : ixN hv.length (5 + (0 + (i : Int))) = some (5 + i) := by
        have : (5 : Int) + (0 + (i : Int)) = ((5 + i : Nat) : Int) := by omega
        rw [this]; exact ixN_nat (by rw [len]; omega)
      refine ⟨_, rfl, _, rfl, p, c.M, dx', mfs lay (0 : Nat) acc held, _, rfl, hm, T.M, T.mHeld, lk_at mfs_nd (i := 3) rfl, _, rfl, lay, dl', lfs, rfl, hl, lk_no (by show ("word" : Str) ∉ (["threads", "pages", "records"] : List Str); decide +kernel), _, rfl, .ref lay, _, rfl, held, hv, _, 5 + i, rfl, rfl, M.held, e5, ?_⟩
      refine ⟨_, rfl, (by show 2 ≤ sizeLine; decide), fun t ht => ?_⟩
      have nth : held ≠ t := fun z => by rw [← z, upd_same] at ht; cases ht
      have ht0 : H' t = none := by rw [upd_ne nth.symm] at ht; exact ht
      have ntm : p ≠ t := ne_of_none hm ht0
      have ntl : lay ≠ t := ne_of_none hl ht0
      have e11 : ixN (hv.set (5 + i) (.int (11 + (0 + (i : Int))))).length (11 + (0 + (i : Int))) = some (11 + i) := by
        have : (11 : Int) + (0 + (i : Int)) = ((11 + i : Nat) : Int) := by omega
        rw [this]; exact ixN_nat (by rw [List.length_set, len]; omega)
      refine ⟨_, rfl, p, c.M, dx', mfs lay (0 : Nat) acc held, _, rfl, (upd_ne ntm).trans ((upd_ne nmh).trans hm), T.M, T.mHeld, lk_at mfs_nd (i := 3) rfl, _, rfl, held, _, _, 11 + i, rfl, rfl, (upd_ne nth).trans upd_same, e11, ?_⟩
      refine ⟨_, _, _, rfl, ⟨⟨dx', (upd_ne nmh).trans ((upd_ne ntm).trans ((upd_ne nmh).trans hm))⟩, ⟨dl', (upd_ne nlh').trans ((upd_ne ntl).trans ((upd_ne nlh').trans hl))⟩, upd_same, by rw [List.length_set, List.length_set]; exact len, ⟨al, (upd_ne M.ne).trans ((upd_ne (ne_of_none hal ht0)).trans ((upd_ne M.ne).trans hal)), hal2⟩, M.ne⟩, fun j hj' => ?_, fun b o h nb => ?_⟩
      · rw [List.getElem?_set_ne (by omega)]
        by_cases e : j = i
        · subst e
          rw [List.getElem?_set_self (by rw [len]; omega)]
          simp
        · rw [List.getElem?_set_ne (by omega)]
          exact hj j (by omega)
      · have nbh := ne_of_none h hheld0
        rw [upd_ne nbh, upd_ne (ne_of_none (fr b o h nb) ht0), upd_ne nbh]
        exact fr b o h nb
    · rintro σ H' ⟨v2, v3, hv, rfl, M, hj, fr⟩
      obtain ⟨dx', hm⟩ := M.mem
      obtain ⟨dl', hl⟩ := M.lay
      have nmh : p ≠ held := ne_of hm M.held (by intro z; cases z)
      have nlh' : lay ≠ held := ne_of hl M.held (by intro z; cases z)
      obtain ⟨al, hal, hal2⟩ := M.acc
      have len := M.len
      refine ⟨Nat.zero_le _, fun t1 h1 => ⟨Nat.zero_le _, fun t2 h2 => ⟨(by show 5 ≤ sizeLine; decide), fun t3 h3 => ?_⟩⟩⟩
      have s1 : Same H' (upd H' t1 (.tup [])) := fun b o e => by rw [upd_ne (ne_of_none e h1)]; exact e
      have s2 : Same (upd H' t1 (.tup [])) (upd (upd H' t1 (.tup [])) t2 (.tup [])) := fun b o e => by rw [upd_ne (ne_of_none e h2)]; exact e
      have s3 : Same (upd (upd H' t1 (.tup [])) t2 (.tup [])) (upd (upd (upd H' t1 (.tup [])) t2 (.tup [])) t3 (.tup [.str "leaf", .non, .non, .ref t1, .ref t2])) := fun b o e => by rw [upd_ne (ne_of_none e h3)]; exact e
      have s := (s1.trans s2).trans s3
      refine ⟨_, rfl, p, c.M, dx', mfs lay (0 : Nat) acc held, _, rfl, s _ _ hm, T.M, T.mHeld, lk_at mfs_nd (i := 3) rfl, _, rfl, lay, dl', lfs, rfl, s _ _ hl, lk_no (by show ("record" : Str) ∉ (["threads", "pages", "records"] : List Str); decide +kernel), lay, dl', _, rfl, s _ _ hl, held, hv, _, 11, rfl, rfl, s _ _ M.held, ixN_nat (k := 11) (by rw [len]; decide), ?_⟩
      refine q _ acc held (hv.set 11 (.ref t3)) ⟨⟨dx', (upd_ne nmh).trans (s _ _ hm)⟩, ⟨dl', (upd_ne nlh').trans (s _ _ hl)⟩, upd_same, by rw [List.length_set]; exact len, ⟨al, (upd_ne M.ne).trans (s _ _ hal), hal2⟩, M.ne⟩ ⟨by rw [List.length_set]; exact len, fun j hj' => ?_⟩ hacc0 hheld0 fun b o h nb => ?_
      · rw [List.getElem?_set_ne (by omega)]
        exact hj j hj'
      · rw [upd_ne (ne_of_none h hheld0)]
        exact s _ _ (fr b o h nb)
end
end Wk
set_option Elab.async false
set_option linter.all false
set_option maxRecDepth 100000
set_option maxHeartbeats 4000000
namespace Wk
open PySem L2
open Esp (En Sts Wd Ph Mem es nn ent pg entAt shS shW shown stepF stepS settle passF)
/-! ### the stack's object -/
structure StkA (c : Cl) (m : Mem) (H : Hp) (S ml : Addr) (as : List Addr) (fs : List Esp.Fr) (rv : V) : Prop where
  st : ∃ dx, H S = some (.ins c.S dx (sfs ml rv))
  ml : H ml = some (.lst (as.reverse.map V.ref))
  nd : as.Nodup
  fr : Paired (fun a f => FrAt c m H a f) as fs
theorem FrAt.mono {c : Cl} {m : Mem} {H H' : Hp} {a : Addr} {f : Esp.Fr} (t : Tups H H') (h : FrAt c m H a f) (e : ∀ o, H a = some o → H' a = some o) : FrAt c m H' a f := by
  obtain ⟨sv, ev, hv, vv, dx, R⟩ := h
  refine ⟨sv, ev, hv, vv, dx, R.mono t ?_⟩
  rw [e _ R.at_, R.at_]
theorem FrA.deeds {c : Cl} {m m' : Mem} {H : Hp} {a : Addr} {f : Esp.Fr} {sv ev hv vv : V} {dx : Addr} (hd : m'.deeds = m.deeds) (h : FrA c m H a f sv ev hv vv dx) : FrA c m' H a f sv ev hv vv dx := by
  have e : es m' f.k = es m f.k := by unfold Esp.es; rw [hd]
  exact ⟨h.at_, fun n => by rw [e]; exact h.sv n, h.vv⟩
theorem FrAt.deeds {c : Cl} {m m' : Mem} {H : Hp} {a : Addr} {f : Esp.Fr} (hd : m'.deeds = m.deeds) (h : FrAt c m H a f) : FrAt c m' H a f := by
  obtain ⟨sv, ev, hv, vv, dx, R⟩ := h
  exact ⟨sv, ev, hv, vv, dx, R.deeds hd⟩
theorem paired_mono {α β : Type} {F G : α → β → Prop} : ∀ {l₁ : List α} {l₂ : List β}, Paired F l₁ l₂ → (∀ a ∈ l₁, ∀ b, F a b → G a b) → Paired G l₁ l₂
  | _, _, .nil, _ => .nil
  | _, _, .cons h t, k => .cons (k _ List.mem_cons_self _ h) (paired_mono t fun a ha => k a (List.mem_cons_of_mem _ ha))
theorem StkA.keep {c : Cl} {m : Mem} {H H' : Hp} {S ml : Addr} {as : List Addr} {fs : List Esp.Fr} {rv : V} (h : StkA c m H S ml as fs rv) (t : Tups H H') (k : ∀ b o, (b = S ∨ b = ml ∨ b ∈ as) → H b = some o → H' b = some o) : StkA c m H' S ml as fs rv := by
  obtain ⟨⟨dx, h1⟩, h2, h3, h4⟩ := h
  exact ⟨⟨dx, k _ _ (.inl rfl) h1⟩, k _ _ (.inr (.inl rfl)) h2, h3, paired_mono h4 fun a ha f hf => hf.mono t fun o => k a o (.inr (.inr ha))⟩
theorem StkA.same {c : Cl} {m : Mem} {H H' : Hp} {S ml : Addr} {as : List Addr} {fs : List Esp.Fr} {rv : V} (h : StkA c m H S ml as fs rv) (s : Same H H') : StkA c m H' S ml as fs rv := h.keep (Same.tups s) fun b o _ => s b o
theorem StkA.deeds {c : Cl} {m m' : Mem} {H : Hp} {S ml : Addr} {as : List Addr} {fs : List Esp.Fr} {rv : V} (hd : m'.deeds = m.deeds) (h : StkA c m H S ml as fs rv) : StkA c m' H S ml as fs rv :=
  ⟨h.st, h.ml, h.nd, paired_mono h.fr fun a _ f hf => hf.deeds hd⟩
/-- a frame whose request is an access -/
def Plain (m : Mem) (f : Esp.Fr) : Prop := f.ph ≠ .help ∧ f.ph ≠ .fin ∧ ((f.ph = .word ∨ f.ph = .swap ∨ f.ph = .clean) → f.i < nn m f.k) ∧ (f.ph = .clean → f.v ≠ .und)
theorem rev_cons (a : Addr) (ar : List Addr) : (a :: ar).reverse.map V.ref = ar.reverse.map V.ref ++ [.ref a] := by simp
theorem atI_top (a : Addr) (ar : List Addr) : atI ((a :: ar).reverse.map V.ref) (-1) = some (.ref a) := by rw [rev_cons]; exact atI_last _ _
theorem req_head {m : Mem} {H : Hp} {f : Esp.Fr} {hv vv : V} {xs : List V} (p : Plain m f) (h : ReqX m H f hv vv xs) :
    ∃ s rest, xs = .str s :: rest ∧ decide (V.str s = V.str "call") = false ∧ decide (V.str s = V.str "end") = false := by
  obtain ⟨k, ph, i, v⟩ := f
  cases ph with
  | help => exact absurd rfl p.1
  | fin => exact absurd rfl p.2.1
  | record => exact ⟨_, _, h, by decide +kernel, by decide +kernel⟩
  | status => exact ⟨_, _, h, by decide +kernel, by decide +kernel⟩
  | final => exact ⟨_, _, h, by decide +kernel, by decide +kernel⟩
  | failed => exact ⟨_, _, h, by decide +kernel, by decide +kernel⟩
  | done => exact ⟨_, _, h, by decide +kernel, by decide +kernel⟩
  | word => exact ⟨_, _, h, by decide +kernel, by decide +kernel⟩
  | swap => obtain ⟨mk, _, h⟩ := h; exact ⟨_, _, h, by decide +kernel, by decide +kernel⟩
  | clean => obtain ⟨mk, _, h⟩ := h; exact ⟨_, _, h, by decide +kernel, by decide +kernel⟩
section
variable {P : Program} {w : World} {K : PySem.W.Frag} {mg : Str → Option Value} {base : Heap} {c : Cl}
/-! ### Stack.__init__, ended, value -/
def spStack (c : Cl) : Sp := fun vs H Q _ => ∃ (p dx : Addr) (x : V), vs = [.ref p, x] ∧ H p = some (.ins c.S dx []) ∧
  ∀ H' ml, H' p = some (.ins c.S dx (sfs ml .non)) → H' ml = some (.lst [x]) → H ml = none → (∀ b o, H b = some o → b ≠ p → H' b = some o) → Q .non H'
theorem scSI : FnScope ["self", "machine"] ["self", "machine"] (defScope sStackI) := ⟨rfl, rfl, rfl, by decide +kernel, rfl, by decide +kernel, by decide +kernel⟩
theorem ok_stack {f : Addr} {fd : FuncData} (T : Txt K mg c) (F : Fun K "__init__" "Stack.__init__" sStackI f fd) : FnOk P w K mg base CX0 1 f fd ["self", "machine"] (spStack c) := by
  refine F.ok scSI (fun vs H Q E h => ?_) (fun cdv A outer s H vs Q E hr h => ?_)
  · obtain ⟨p, dx, x, rfl, _⟩ := h
    rfl
  · obtain ⟨p, dx, x, rfl, hp, q⟩ := h
    refine ⟨_, pss_cons (ps_fld (pv 0) (pe_lst (pa_cons (pv 1) pa_nil)) rfl) (pss_one (ps_fld (pv 0) pe_non rfl)), ?_⟩
    refine ⟨_, rfl, (by show 1 ≤ sizeLine; decide), fun ml hml => ?_⟩
    have npm : p ≠ ml := ne_of_none hp hml
    refine ⟨_, rfl, p, c.S, dx, _, rfl, (upd_ne npm).trans hp, T.S, T.sMachines, (by show 0 < 1000; decide), ?_⟩
    rw [put_new (by show ("machines" : Str) ∉ ([] : List Str); decide +kernel)]
    refine ⟨_, rfl, p, c.S, dx, _, rfl, upd_same, T.S, T.sResult, (by show 1 < 1000; decide), ?_⟩
    rw [put_new (by show ("result" : Str) ∉ (["machines"] : List Str); decide +kernel), upd_upd]
    exact q _ ml upd_same ((upd_ne npm.symm).trans upd_same) hml fun b o h nb => by rw [upd_ne nb, upd_ne (ne_of_none h hml)]; exact h
def spEnded (c : Cl) : Sp := fun vs H Q _ => ∃ (S dx ml : Addr) (xs : List V) (rv : V), vs = [.ref S] ∧ H S = some (.ins c.S dx (sfs ml rv)) ∧ H ml = some (.lst xs) ∧ Q (.bl xs.isEmpty) H
theorem scEn : FnScope ["self"] ["self"] (defScope sEnded) := ⟨rfl, rfl, rfl, by decide +kernel, rfl, by decide +kernel, by decide +kernel⟩
theorem ok_ended {f : Addr} {fd : FuncData} (T : Txt K mg c) (F : Fun K "ended" "Stack.ended" sEnded f fd) : FnOk P w K mg base CX0 1 f fd ["self"] (spEnded c) := by
  refine F.ok scEn (fun vs H Q E h => ?_) (fun cdv A outer s H vs Q E hr h => ?_)
  · obtain ⟨S, dx, ml, xs, rv, rfl, _⟩ := h
    rfl
  · obtain ⟨S, dx, ml, xs, rv, rfl, hS, hm, q⟩ := h
    refine ⟨_, pss_one (ps_ret (pe_notT (pe_fld (pv 0) rfl))), ?_⟩
    refine ⟨_, rfl, S, c.S, dx, _, _, rfl, hS, T.S, T.sMachines, lk_at sfs_nd (i := 0) rfl, _, .inl ⟨xs, SqL.of hm, rfl⟩, ?_⟩
    simpa using q
def spValue (c : Cl) : Sp := fun vs H Q _ => ∃ (S dx ml : Addr) (rv : V), vs = [.ref S] ∧ H S = some (.ins c.S dx (sfs ml rv)) ∧ Q rv H
theorem scVl : FnScope ["self"] ["self"] (defScope sValue) := ⟨rfl, rfl, rfl, by decide +kernel, rfl, by decide +kernel, by decide +kernel⟩
theorem ok_value {f : Addr} {fd : FuncData} (T : Txt K mg c) (F : Fun K "value" "Stack.value" sValue f fd) : FnOk P w K mg base CX0 1 f fd ["self"] (spValue c) := by
  refine F.ok scVl (fun vs H Q E h => ?_) (fun cdv A outer s H vs Q E hr h => ?_)
  · obtain ⟨S, dx, ml, rv, rfl, _⟩ := h
    rfl
  · obtain ⟨S, dx, ml, rv, rfl, hS, q⟩ := h
    exact ⟨_, pss_one (ps_ret (pe_fld (pv 0) rfl)), ⟨_, rfl, S, c.S, dx, _, _, rfl, hS, T.S, T.sResult, lk_at sfs_nd (i := 1) rfl, q⟩⟩
end
end Wk
set_option Elab.async false
set_option linter.all false
set_option maxRecDepth 100000
set_option maxHeartbeats 4000000
namespace Wk
open PySem L2
open Esp (En Sts Wd Ph Mem es nn ent pg entAt shS shW shown stepF stepS settle passF)
section
variable {P : Program} {w : World} {K : PySem.W.Frag} {mg : Str → Option Value} {base : Heap} {c : Cl}
/-! ### Stack._settle -/
def SetIn (c : Cl) (m : Mem) (H : Hp) (as : List Addr) (fs : List Esp.Fr) (ex : List Addr) (fs' : List Esp.Fr) : Prop :=
  (∃ a ar f r b k', as = a :: ar ∧ fs = f :: r ∧ f.ph = .help ∧ (∃ sv ev vv dx, FrA c m H a f sv ev (.ref b) vv dx) ∧ FrAt c m H b ⟨k', .record, 0, .und⟩ ∧ b ∉ as ∧ ex = [b] ∧ fs' = ⟨k', .record, 0, .und⟩ :: fs) ∨
  (∃ f r, fs = f :: r ∧ f.ph = .fin ∧ fs' = settle fs ∧ ex = [] ∧ ∀ g r', r = g :: r' → g.ph = .help ∧ g.i < nn m g.k)
def spSettle (c : Cl) : Sp := fun vs H Q _ => ∃ (m : Mem) (S ml : Addr) (as : List Addr) (fs : List Esp.Fr) (rv : V), vs = [.ref S] ∧ StkA c m H S ml as fs rv ∧
  (((fs = [] ∨ ∃ f r, fs = f :: r ∧ Plain m f) ∧ ∀ H', Same H H' → Q .non H') ∨
   ∃ fs' ex, as.length < 1000000 ∧ SetIn c m H as fs ex fs' ∧ ∀ H' as' rv', StkA c m H' S ml as' fs' rv' → (fs' = [] → ∀ f r, fs = f :: r → StsV H' rv' f.v) → (∀ x ∈ as', x ∈ as ∨ x ∈ ex) →
     (∀ b o, H b = some o → b ≠ S → b ≠ ml → b ∉ as → H' b = some o) → Q .non H')
theorem scSe : FnScope ["self", "request"] ["self"] (defScope sSettle) := ⟨rfl, rfl, rfl, by decide +kernel, rfl, by decide +kernel, by decide +kernel⟩
theorem ok_settle {f : Addr} {fd : FuncData} (T : Txt K mg c) (F : Fun K "_settle" "Stack._settle" sSettle f fd)
    (W1 : MOk P w K mg base c.D "request" 3 ["self"] (spRequest c)) (W2 : MOk P w K mg base c.D "accept" 4 ["self", "result"] (spAccept c)) : FnOk P w K mg base CX0 5 f fd ["self"] (spSettle c) := by
  obtain ⟨f1, fd1, m1, G1, b1⟩ := W1.ex
  obtain ⟨f2, fd2, m2, G2, b2⟩ := W2.ex
  refine F.ok scSe (fun vs H Q E h => ?_) (fun cdv A outer s H vs Q E hr h => ?_)
  · obtain ⟨m, S, ml, as, fs, rv, rfl, _⟩ := h
    rfl
  · obtain ⟨m, S, ml, as, fs, rv, rfl, KS, h⟩ := h
    have hr3 : Room 3 _ := hr.mono (by decide)
    have newT : ∀ {H : Hp} {p : Addr} {o : HO}, H p = none → Same H (upd H p o) := fun hp b o e => by rw [upd_ne (ne_of_none e hp)]; exact e
    refine ⟨_, pss_one (ps_while PassesOwn.never (pt_truth (pe_fld (pv 0) rfl) (by intro _; rfl))
      (pss_cons (ps_set (i := 1) scSe.nd rfl (Or.inl rfl) (pe_meth0 (pe_ix ix_list (pe_fld (pv 0) rfl) (pe_un un_neg pe_int) (fun _ _ => rfl)) T.D m1 G1 hr3 b1 .nil pass0))
      (pss_one (ps_if (pt_cmpR op_eq (pe_ix ix_tup (pv 1) pe_int (fun _ _ => rfl)) pe_str (nomark _))
        (pss_one (ps_expr (pe_bm PySem.F.plainAttrs_list PySem.F.slot_list_append PySem.F.type_list_append mt_append (pe_fld (pv 0) rfl) (pa_cons (pe_ix ix_tup (pv 1) pe_int (fun _ _ => rfl)) pa_nil))))
        (pss_one (ps_if (pt_cmpR op_eq (pe_ix ix_tup (pv 1) pe_int (fun _ _ => rfl)) pe_str (nomark _))
          (pss_cons (ps_expr (pe_bm0 PySem.F.plainAttrs_list PySem.F.slot_list_pop PySem.F.type_list_pop mt_pop (pe_fld (pv 0) rfl)))
          (pss_one (ps_if (pt_truth (pe_fld (pv 0) rfl) (by intro _; rfl))
            (pss_one (ps_expr (pe_meth (pe_ix ix_list (pe_fld (pv 0) rfl) (pe_un un_neg pe_int) (fun _ _ => rfl)) T.D m2 G2 hr b2 .nil pass0 (pa_cons (pe_ix ix_tup (pv 1) pe_int (fun _ _ => rfl)) pa_nil))))
            (pss_one (ps_fld (pv 0) (pe_ix ix_tup (pv 1) pe_int (fun _ _ => rfl)) rfl)))))
          (pss_one ps_retN))))))), ?_⟩
    -- what is to be reached
    let Done : Hp → Prop := fun H' => ∃ (as' : List Addr) (fs' : List Esp.Fr) (rv' : V), StkA c m H' S ml as' fs' rv' ∧ (fs' = [] ∨ ∃ f r, fs' = f :: r ∧ Plain m f) ∧ ∀ H'', Same H' H'' → Q .non H''
    let Start : Hp → Prop := fun H' => H = H' ∧ ∃ fs' ex, as.length < 1000000 ∧ SetIn c m H as fs ex fs' ∧ ∀ H' as' rv', StkA c m H' S ml as' fs' rv' → (fs' = [] → ∀ f r, fs = f :: r → StsV H' rv' f.v) → (∀ x ∈ as', x ∈ as ∨ x ∈ ex) →
     (∀ b o, H b = some o → b ≠ S → b ≠ ml → b ∉ as → H' b = some o) → Q .non H'
    refine ⟨fun n σ H' => (∃ v1 : Option V, σ = [some (.ref S), v1]) ∧ ((n = 0 ∧ Done H') ∨ (n = 1 ∧ Start H')), ?_, ?_⟩
    · rcases h with ⟨h1, h2⟩ | h
      · exact ⟨0, ⟨none, rfl⟩, .inl ⟨rfl, as, fs, rv, KS, h1, h2⟩⟩
      · exact ⟨1, ⟨none, rfl⟩, .inr ⟨rfl, rfl, h⟩⟩
    · rintro n σ H1 ⟨⟨v1, rfl⟩, ⟨rfl, as', fs', rv', KS', hp, fin⟩ | ⟨rfl, rfl, fs', ex, hlen, hin, fin⟩⟩
      · -- nothing is to be settled
        obtain ⟨⟨dx, hS⟩, hml, nd, hfr⟩ := id KS'
        refine ⟨_, rfl, S, c.S, dx, _, _, rfl, hS, T.S, T.sMachines, lk_at sfs_nd (i := 0) rfl, _, .inl ⟨_, SqL.of hml, rfl⟩, ?_⟩
        cases hfr with
        | nil => exact iF rfl (fin H1 (Same.refl H1))
        | @cons a f ar r ha hr' =>
          obtain ⟨sv, ev, hv, vv, dx2, R⟩ := ha
          have hpl : Plain m f := by
            rcases hp with hp | ⟨f', r', e, hp⟩
            · cases hp
            · cases e; exact hp
          refine iT (by rw [rev_cons]; simp) ⟨fun _ _ => False, fun _ _ z => z.elim, ?_⟩
          refine ⟨_, rfl, S, c.S, dx, _, _, rfl, hS, T.S, T.sMachines, lk_at sfs_nd (i := 0) rfl, 1, rfl, ml, _, _, _, rfl, rfl, SqL.of hml, atI_top a ar, a, dx2, _, rfl, R.at_, dfs_no (by decide +kernel), m, a, f, sv, ev, hv, vv, dx2, rfl, R, hpl.2.2.1, hpl.2.2.2, fun H2 r2 xs s2 hr2 hreq => ?_⟩
          obtain ⟨s0, rest, rfl, hc1, hc2⟩ := req_head hpl hreq
          refine ⟨_, rfl, r2, _, _, _, rfl, rfl, SqT.of hr2, atI_nat (j := 0) rfl, rfl, _, rfl, iF hc1 ?_⟩
          refine ⟨_, rfl, r2, _, _, _, rfl, rfl, SqT.of hr2, atI_nat (j := 0) rfl, rfl, _, rfl, iF hc2 ?_⟩
          exact fin H2 s2
      · obtain ⟨⟨dx, hS⟩, hml, nd, hfr⟩ := id KS
        have nSm : S ≠ ml := ne_of hS hml (by intro z; cases z)
        refine ⟨_, rfl, S, c.S, dx, _, _, rfl, hS, T.S, T.sMachines, lk_at sfs_nd (i := 0) rfl, _, .inl ⟨_, SqL.of hml, rfl⟩, ?_⟩
        rcases hin with ⟨a, ar, f, r, b, k', rfl, rfl, hph, ⟨sv, ev, vv, dx2, R⟩, FB, hb, rfl, rfl⟩ | ⟨f, r, rfl, hph, rfl, rfl, hnext⟩
        · -- a call
          refine iT (by rw [rev_cons]; simp) ⟨_, fun σ' H' z => z, ?_⟩
          refine ⟨_, rfl, S, c.S, dx, _, _, rfl, hS, T.S, T.sMachines, lk_at sfs_nd (i := 0) rfl, 1, rfl, ml, _, _, _, rfl, rfl, SqL.of hml, atI_top a ar, a, dx2, _, rfl, R.at_, dfs_no (by decide +kernel), m, a, f, sv, ev, _, vv, dx2, rfl, R, (fun z => by rw [hph] at z; rcases z with z | z | z <;> cases z), (fun z => by rw [hph] at z; cases z), fun H2 r2 xs s2 hr2 hreq => ?_⟩
          have hxs : xs = [.str "call", .ref b] := by unfold ReqX at hreq; rw [hph] at hreq; exact hreq
          subst hxs
          refine ⟨_, rfl, r2, _, _, _, rfl, rfl, SqT.of hr2, atI_nat (j := 0) rfl, rfl, _, rfl, iT (by decide +kernel) ?_⟩
          have hml2 := s2 _ _ hml
          refine ⟨_, rfl, S, c.S, dx, _, _, rfl, s2 _ _ hS, T.S, T.sMachines, lk_at sfs_nd (i := 0) rfl, .inl ⟨rfl, _, SqL.of hml2⟩, _, rfl, r2, _, _, _, rfl, rfl, SqT.of hr2, atI_nat (j := 1) rfl, ml, _, _, rfl, rfl, hml2, (by rw [List.length_map, List.length_reverse]; exact Nat.lt_of_lt_of_le hlen (by decide)), ?_⟩
          have tl := Tups.lst (o := .lst ((a :: ar).reverse.map V.ref ++ [.ref b])) hml2
          have nbm : ∀ {x C d F}, H x = some (.ins C d F) → x ≠ ml := fun h => ne_of h hml (by intro z; cases z)
          have keep : ∀ x o, H x = some o → x ≠ ml → upd H2 ml (.lst ((a :: ar).reverse.map V.ref ++ [.ref b])) x = some o := fun x o h nx => by rw [upd_ne nx]; exact s2 _ _ h
          have tH : Tups H (upd H2 ml (.lst ((a :: ar).reverse.map V.ref ++ [.ref b]))) := (Same.tups s2).trans tl
          have notm : ∀ x f, FrAt c m H x f → x ≠ ml := fun x f ⟨_, _, _, _, _, R⟩ => nbm R.at_
          have KS2 : StkA c m (upd H2 ml (.lst ((a :: ar).reverse.map V.ref ++ [.ref b]))) S ml (b :: a :: ar) (⟨k', .record, 0, .und⟩ :: f :: r) rv := by
            refine ⟨⟨dx, keep _ _ hS nSm⟩, by rw [upd_same, rev_cons b], List.nodup_cons.mpr ⟨hb, nd⟩, .cons (FB.mono tH fun o h => keep _ _ h (notm _ _ FB)) (paired_mono hfr fun x hx f hf => hf.mono tH fun o h => keep _ _ h (notm _ _ hf))⟩
          refine ⟨0, by decide, ⟨_, rfl⟩, .inl ⟨rfl, _, _, _, KS2, .inr ⟨_, _, rfl, (by intro z; cases z), (by intro z; cases z), (fun z => by rcases z with z | z | z <;> cases z), (fun z => by cases z)⟩, fun H3 s3 => ?_⟩⟩
          refine fin H3 _ _ (KS2.same s3) (fun z => by cases z) (fun x hx => ?_) fun x o h n1 n2 n3 => s3 _ _ (keep x o h n2)
          rcases List.mem_cons.mp hx with rfl | hx
          · exact .inr (List.mem_singleton.mpr rfl)
          · exact .inl hx
        · -- an end
          cases hfr with
          | @cons a _ ar _ ha hfr' =>
          obtain ⟨sv, ev, hv, vv, dx2, R⟩ := ha
          refine iT (by rw [rev_cons]; simp) ⟨_, fun σ' H' z => z, ?_⟩
          refine ⟨_, rfl, S, c.S, dx, _, _, rfl, hS, T.S, T.sMachines, lk_at sfs_nd (i := 0) rfl, 1, rfl, ml, _, _, _, rfl, rfl, SqL.of hml, atI_top a ar, a, dx2, _, rfl, R.at_, dfs_no (by decide +kernel), m, a, f, sv, ev, hv, vv, dx2, rfl, R, (fun z => by rw [hph] at z; rcases z with z | z | z <;> cases z), (fun z => by rw [hph] at z; cases z), fun H2 r2 xs s2 hr2 hreq => ?_⟩
          have hxs : xs = [.str "end", vv] := by unfold ReqX at hreq; rw [hph] at hreq; exact hreq
          subst hxs
          refine ⟨_, rfl, r2, _, _, _, rfl, rfl, SqT.of hr2, atI_nat (j := 0) rfl, rfl, _, rfl, iF (by decide +kernel) ?_⟩
          refine ⟨_, rfl, r2, _, _, _, rfl, rfl, SqT.of hr2, atI_nat (j := 0) rfl, rfl, _, rfl, iT (by decide +kernel) ?_⟩
          have hml2 := s2 _ _ hml
          have hS2 := s2 _ _ hS
          refine ⟨_, rfl, S, c.S, dx, _, _, rfl, hS2, T.S, T.sMachines, lk_at sfs_nd (i := 0) rfl, .inl ⟨rfl, _, SqL.of hml2⟩, ml, _, .ref a, rfl, rfl, hml2, (by rw [rev_cons]; simp), ?_⟩
          have edrop : ((a :: ar).reverse.map V.ref).dropLast = ar.reverse.map V.ref := by rw [rev_cons]; simp
          rw [edrop]
          have hS3 : upd H2 ml (.lst (ar.reverse.map V.ref)) S = some (.ins c.S dx (sfs ml rv)) := (upd_ne nSm).trans hS2
          have hr3' : upd H2 ml (.lst (ar.reverse.map V.ref)) r2 = some (.tup [.str "end", vv]) := (upd_ne (ne_of hr2 hml2 (by intro z; cases z))).trans hr2
          have t3 : Tups H (upd H2 ml (.lst (ar.reverse.map V.ref))) := (Same.tups s2).trans (Tups.lst hml2)
          have nbm : ∀ {x C d F}, H x = some (.ins C d F) → x ≠ ml := fun h => ne_of h hml (by intro z; cases z)
          have nbS : ∀ {x d A' s' e' i' t' h' v'}, H x = some (.ins c.D d (dfs A' s' e' i' t' h' v')) → x ≠ S := fun h => ne_of h hS (by intro z; injection z with _ _ z; exact absurd (congrArg List.length z) (by show ¬ (7 = 2); decide))
          have keep : ∀ x o, H x = some o → x ≠ ml → upd H2 ml (.lst (ar.reverse.map V.ref)) x = some o := fun x o h nx => by rw [upd_ne nx]; exact s2 _ _ h
          refine ⟨_, rfl, S, c.S, dx, _, _, rfl, hS3, T.S, T.sMachines, lk_at sfs_nd (i := 0) rfl, _, .inl ⟨_, SqL.of upd_same, rfl⟩, ?_⟩
          cases hfr' with
          | nil =>
            refine iF rfl ?_
            refine ⟨_, rfl, r2, _, _, _, rfl, rfl, SqT.of hr3', atI_nat (j := 1) rfl, _, rfl, S, c.S, dx, _, rfl, hS3, T.S, T.sResult, (by show 2 < 1000; decide), ?_⟩
            rw [put_at sfs_nd (i := 1) rfl]
            have tS := Tups.ins (o := .ins c.S dx ((sfs ml rv).set 1 ("result", vv))) hS3
            have e0 : settle [f] = [] := by unfold Esp.settle; simp [hph]
            have KS2 : StkA c m (upd (upd H2 ml (.lst ([].reverse.map V.ref))) S (.ins c.S dx ((sfs ml rv).set 1 ("result", vv)))) S ml [] [] vv :=
              ⟨⟨dx, upd_same⟩, (upd_ne nSm.symm).trans upd_same, List.nodup_nil, .nil⟩
            refine ⟨0, by decide, ⟨_, rfl⟩, .inl ⟨rfl, _, _, _, KS2, .inl rfl, fun H3 s3 => ?_⟩⟩
            refine fin H3 [] vv (by rw [e0]; exact KS2.same s3) (fun _ f' r' e => ?_) (fun x hx => by cases hx) fun x o h n1 n2 n3 => s3 _ _ (by rw [upd_ne n1]; exact keep x o h n2)
            cases e
            exact (R.vv (.inr hph)).mono ((t3.trans tS).trans (Same.tups s3))
          | @cons b g br r' hb hfr2 =>
            obtain ⟨hg1, hg2⟩ := hnext g r' rfl
            have hbm : b ≠ ml := by obtain ⟨_, _, _, _, _, R'⟩ := hb; exact nbm R'.at_
            have nd' := List.nodup_cons.mp nd
            have hb3 : FrAt c m (upd H2 ml (.lst ((b :: br).reverse.map V.ref))) b g := hb.mono t3 fun o h => keep _ _ h hbm
            obtain ⟨_, _, _, _, dx4, Rb⟩ := id hb3
            refine iT (by rw [rev_cons]; simp) ?_
            refine ⟨_, rfl, S, c.S, dx, _, _, rfl, hS3, T.S, T.sMachines, lk_at sfs_nd (i := 0) rfl, 1, rfl, ml, _, _, _, rfl, rfl, SqL.of upd_same, atI_top b br, b, dx4, _, rfl, Rb.at_, dfs_no (by decide +kernel), _, rfl, r2, _, _, _, rfl, rfl, SqT.of hr3', atI_nat (j := 1) rfl, .inr ⟨m, b, g, vv, rfl, hb3, hg1, fun H4 hb4 fr4 => ?_⟩⟩
            have e0 : settle (f :: g :: r') = { g with ph := .word } :: r' := by unfold Esp.settle; simp [hph]
            have nbS' : b ≠ S := by obtain ⟨_, _, _, _, _, R'⟩ := hb; exact nbS R'.at_
            have t4 : Tups (upd H2 ml (.lst ((b :: br).reverse.map V.ref))) H4 := fun x xs h => fr4 x _ h (ne_of h Rb.at_ (by intro z; cases z))
            have nd2 := List.nodup_cons.mp nd'.2
            have KS2 : StkA c m H4 S ml (b :: br) ({ g with ph := .word } :: r') rv := by
              refine ⟨⟨dx, fr4 _ _ hS3 nbS'.symm⟩, fr4 _ _ upd_same hbm.symm, nd'.2, .cons hb4 (paired_mono hfr2 fun x hx f' hf => hf.mono (t3.trans t4) fun o h => fr4 _ _ (keep _ _ h ?_) ?_)⟩
              · obtain ⟨_, _, _, _, _, R'⟩ := hf; exact nbm R'.at_
              · rintro rfl; exact nd2.1 hx
            refine ⟨0, by decide, ⟨_, rfl⟩, .inl ⟨rfl, _, _, _, KS2, .inr ⟨_, _, rfl, (by intro z; cases z), (by intro z; cases z), (fun _ => hg2), (fun z => by cases z)⟩, fun H3 s3 => ?_⟩⟩
            refine fin H3 (b :: br) rv (by rw [e0]; exact KS2.same s3) (fun z => by rw [e0] at z; cases z) (fun x hx => .inl (List.mem_cons_of_mem _ hx)) fun x o h n1 n2 n3 => s3 _ _ (fr4 _ _ (keep x o h n2) fun z => n3 (by rw [z]; exact List.mem_cons_of_mem _ List.mem_cons_self))
end
end Wk
set_option Elab.async false
set_option linter.all false
set_option maxRecDepth 100000
set_option maxHeartbeats 4000000
namespace Wk
open PySem L2
open Esp (En Sts Wd Ph Mem es nn ent pg entAt shS shW shown stepF stepS settle passF MInv FOk)
/-! ### what the memory holds -/
structure MemD (m : Mem) (H : Hp) (hv : List V) : Prop where
  w : ∀ p, p < 6 → ∃ v, hv[5 + p]? = some v ∧ WdV m H v p (m.word p)
  r : ∀ k, k < m.deeds.length → ∃ v, hv[100 + 2 * k]? = some v ∧ RecV H v k (es m k)
  s : ∀ k, k < m.deeds.length → ∃ v, hv[101 + 2 * k]? = some v ∧ StsV H v (m.sts k)
  le : m.deeds.length ≤ 110
def MemR (c : Cl) (A : MA) (H : Hp) (m : Mem) : Prop := ∃ hv, MemC c A H m.count hv ∧ MemD m H hv
theorem MemD.mono {m : Mem} {H H' : Hp} {hv : List V} (t : Tups H H') (D : MemD m H hv) : MemD m H' hv := by
  refine ⟨fun p hp => ?_, fun k hk => ?_, fun k hk => ?_, D.le⟩
  · obtain ⟨v, h1, h2⟩ := D.w p hp; exact ⟨v, h1, h2.mono t⟩
  · obtain ⟨v, h1, h2⟩ := D.r k hk; exact ⟨v, h1, h2.mono t⟩
  · obtain ⟨v, h1, h2⟩ := D.s k hk; exact ⟨v, h1, h2.mono t⟩
theorem MemR.same {c : Cl} {A : MA} {H H' : Hp} {m : Mem} (s : Same H H') (D : MemR c A H m) : MemR c A H' m := by
  obtain ⟨hv, M, D⟩ := D
  exact ⟨hv, M.same s, D.mono (Same.tups s)⟩
/-- an access that changes neither words nor deeds nor statuses -/
theorem MemD.count {m : Mem} {H : Hp} {hv : List V} (D : MemD m H hv) (n : Nat) : MemD { m with count := n } H hv := ⟨D.w, D.r, D.s, D.le⟩
theorem len_lt {m : Mem} {H : Hp} {hv : List V} (D : MemD m H hv) {k : Nat} (hk : k < m.deeds.length) : 101 + 2 * k < 461 := by have := D.le; omega
theorem MemD.setW {m : Mem} {H : Hp} {hv : List V} (D : MemD m H hv) {p : Nat} (hp : p < 6) (hl : hv.length = 461) {x : Wd} {v : V} (hx : WdV m H v p x) (n : Nat) : MemD { m with word := Esp.up m.word p x, count := n } H (hv.set (5 + p) v) := by
  refine ⟨fun q hq => ?_, fun k hk => ?_, fun k hk => ?_, D.le⟩
  · by_cases e : q = p
    · subst e
      refine ⟨v, List.getElem?_set_self (by omega), ?_⟩
      show WdV m H v q (Esp.up m.word q x q)
      rw [Esp.up_same]; exact hx
    · obtain ⟨v', h1, h2⟩ := D.w q hq
      refine ⟨v', by rw [List.getElem?_set_ne (by omega)]; exact h1, ?_⟩
      show WdV m H v' q (Esp.up m.word p x q)
      rw [Esp.up_ne e]; exact h2
  · obtain ⟨v', h1, h2⟩ := D.r k hk
    exact ⟨v', by rw [List.getElem?_set_ne (by omega)]; exact h1, h2⟩
  · obtain ⟨v', h1, h2⟩ := D.s k hk
    exact ⟨v', by rw [List.getElem?_set_ne (by omega)]; exact h1, h2⟩
theorem MemD.setS {m : Mem} {H : Hp} {hv : List V} (D : MemD m H hv) {k0 : Nat} (hk0 : k0 < m.deeds.length) (hl : hv.length = 461) {s : Sts} {v : V} (hs : StsV H v s) (n : Nat) : MemD { m with sts := Esp.up m.sts k0 s, count := n } H (hv.set (101 + 2 * k0) v) := by
  have := D.le
  refine ⟨fun q hq => ?_, fun k hk => ?_, fun k hk => ?_, D.le⟩
  · obtain ⟨v', h1, h2⟩ := D.w q hq
    exact ⟨v', by rw [List.getElem?_set_ne (by omega)]; exact h1, h2⟩
  · obtain ⟨v', h1, h2⟩ := D.r k hk
    exact ⟨v', by rw [List.getElem?_set_ne (by omega)]; exact h1, h2⟩
  · by_cases e : k = k0
    · subst e
      refine ⟨v, List.getElem?_set_self (by omega), ?_⟩
      show StsV H v (Esp.up m.sts k s k)
      rw [Esp.up_same]; exact hs
    · obtain ⟨v', h1, h2⟩ := D.s k hk
      refine ⟨v', by rw [List.getElem?_set_ne (by omega)]; exact h1, ?_⟩
      show StsV H v' (Esp.up m.sts k0 s k)
      rw [Esp.up_ne e]; exact h2

/-- THE ACCESS: a plain frame's request is one of the four, and the memory behind it is that of stepF -/
theorem access_of {K : PySem.W.Frag} {m : Mem} {fits : Nat → Bool} {H : Hp} {hv : List V} {f : Esp.Fr} {hh vv : V} {xs : List V} (I : MInv m) (ok : FOk m fits f) (n1 : f.ph ≠ .help) (n2 : f.ph ≠ .fin) (D : MemD m H hv) (hl : hv.length = 461) (hq : ReqX m H f hh vv xs) :
    ∃ q : Rq, xs = q.vals ∧ RqOk K H hv q ∧ ∀ H' hv' x, Tups H H' → RqDone H' hv (m.count + 1) hv' x q → MemD (stepF m f).1 H' hv' ∧ Resp m H' f x := by
  obtain ⟨k, ph, i, v⟩ := f
  obtain ⟨hk, h2⟩ := ok
  have i100 : ((100 + 2 * k : Nat) : Int) = 100 + 2 * (k : Int) := by omega
  have i101 : ((101 + 2 * k : Nat) : Int) = 101 + 2 * (k : Int) := by omega
  have ipg : ((5 + pg m k i : Nat) : Int) = 5 + (pg m k i : Int) := by omega
  have hk : k < m.deeds.length := hk
  have lt := len_lt D hk
  cases ph with
  | help => exact absurd rfl n1
  | fin => exact absurd rfl n2
  | record =>
    have hq' : xs = [.str "read", .int (100 + 2 * k)] := hq
    refine ⟨.rd (100 + 2 * k), by rw [hq', ← i100]; rfl, by show 100 + 2 * k < 461; omega, fun H' hv' x t ⟨e, hx⟩ => ?_⟩
    subst e
    obtain ⟨v', h1, h3⟩ := D.r k hk
    rw [hx] at h1; cases h1
    exact ⟨(D.mono t).count _, h3.mono t⟩
  | status =>
    have hq' : xs = [.str "read", .int (101 + 2 * k)] := hq
    refine ⟨.rd (101 + 2 * k), by rw [hq', ← i101]; rfl, lt, fun H' hv' x t ⟨e, hx⟩ => ?_⟩
    subst e
    obtain ⟨v', h1, h3⟩ := D.s k hk
    rw [hx] at h1; cases h1
    exact ⟨(D.mono t).count _, h3.mono t⟩
  | final =>
    have hq' : xs = [.str "read", .int (101 + 2 * k)] := hq
    refine ⟨.rd (101 + 2 * k), by rw [hq', ← i101]; rfl, lt, fun H' hv' x t ⟨e, hx⟩ => ?_⟩
    subst e
    obtain ⟨v', h1, h3⟩ := D.s k hk
    rw [hx] at h1; cases h1
    exact ⟨(D.mono t).count _, h3.mono t⟩
  | word =>
    have h3 : i < nn m k ∧ (m.sts k = .und → ∀ j, j < i → m.word (pg m k j) = .mark k) := h2
    have h6 := I.pg_lt h3.1
    have hq' : xs = [.str "read", .int (5 + pg m k i)] := hq
    refine ⟨.rd (5 + pg m k i), by rw [hq', ← ipg]; rfl, by show 5 + pg m k i < 461; omega, fun H' hv' x t ⟨e, hx⟩ => ?_⟩
    subst e
    obtain ⟨v', h1, h4⟩ := D.w _ h6
    rw [hx] at h1; cases h1
    have e : (stepF m ⟨k, .word, i, v⟩).1 = { m with count := m.count + 1 } := by
      unfold Esp.stepF
      simp only
      cases m.word (pg m k i) with
      | mark k' => by_cases hk : k' = k <;> simp only [hk, if_true, if_false]
      | adr o => by_cases hk : o = (ent m k i).o <;> simp only [hk, if_true, if_false]
    rw [e]
    exact ⟨(D.mono t).count _, h3.1, I.at_i h3.1, h4.mono t⟩
  | swap =>
    have h3 : i < nn m k ∧ (m.sts k = .und → ∀ j, j < i → m.word (pg m k j) = .mark k) := h2
    have h6 := I.pg_lt h3.1
    obtain ⟨mk, hmk, hq'⟩ := (show ∃ mk, MarkV H mk k (ent m k i) ∧ xs = [.str "swap", .int (5 + pg m k i), .int (ent m k i).o, mk] from hq)
    obtain ⟨v', h1, h4⟩ := D.w _ h6
    refine ⟨.sw (5 + pg m k i) (.int (ent m k i).o) mk (decide (m.word (pg m k i) = .adr (ent m k i).o)), by rw [hq', ← ipg]; rfl, ⟨by omega, v', h1, eqT_wd_int h4⟩, fun H' hv' x t ⟨hx, e⟩ => ?_⟩
    subst hx
    refine ⟨?_, rfl⟩
    have est : (stepF m ⟨k, .swap, i, v⟩).1 = if m.word (pg m k i) = .adr (ent m k i).o then { m with count := m.count + 1, word := Esp.up m.word (pg m k i) (.mark k) } else { m with count := m.count + 1 } := by
      unfold Esp.stepF
      simp only
      split <;> rfl
    rw [est]
    by_cases hw : m.word (pg m k i) = .adr (ent m k i).o
    · rw [if_pos hw]
      rw [if_pos (decide_eq_true hw)] at e
      subst e
      refine (D.mono t).setW h6 hl (x := .mark k) ?_ _
      show MarkV H' mk k (entAt (es m k) (pg m k i))
      rw [I.at_i h3.1]; exact hmk.mono t
    · rw [if_neg hw]
      rw [if_neg (by rw [decide_eq_false hw]; exact Bool.false_ne_true)] at e
      subst e
      exact (D.mono t).count _
  | failed =>
    have hq' : xs = [.str "decide", .int (101 + 2 * k), .str "failed"] := hq
    obtain ⟨v', h1, h4⟩ := D.s k hk
    refine ⟨.dc (101 + 2 * k) (.str "failed") (decide (m.sts k = .und)), by rw [hq', ← i101]; rfl, ⟨lt, v', h1, eqT_sts0 h4⟩, fun H' hv' x t ⟨hx, e⟩ => ⟨?_, trivial⟩⟩
    have est : (stepF m ⟨k, .failed, i, v⟩).1 = if m.sts k = .und then { m with count := m.count + 1, sts := Esp.up m.sts k (.fail (m.count + 1)) } else { m with count := m.count + 1 } := by
      unfold Esp.stepF
      simp only
      split <;> rfl
    rw [est]
    by_cases hu : m.sts k = .und
    · rw [if_pos hu]
      rw [if_pos (decide_eq_true hu)] at e
      obtain ⟨t0, ht0, rfl⟩ := e
      exact (D.mono t).setS (s := .fail (m.count + 1)) hk hl ⟨t0, rfl, ht0⟩ _
    · rw [if_neg hu]
      rw [if_neg (by rw [decide_eq_false hu]; exact Bool.false_ne_true)] at e
      subst e
      exact (D.mono t).count _
  | done =>
    have hq' : xs = [.str "decide", .int (101 + 2 * k), .str "done"] := hq
    obtain ⟨v', h1, h4⟩ := D.s k hk
    refine ⟨.dc (101 + 2 * k) (.str "done") (decide (m.sts k = .und)), by rw [hq', ← i101]; rfl, ⟨lt, v', h1, eqT_sts0 h4⟩, fun H' hv' x t ⟨hx, e⟩ => ⟨?_, trivial⟩⟩
    have est : (stepF m ⟨k, .done, i, v⟩).1 = if m.sts k = .und then { m with count := m.count + 1, sts := Esp.up m.sts k (.done (m.count + 1)) } else { m with count := m.count + 1 } := by
      unfold Esp.stepF
      simp only
      split <;> rfl
    rw [est]
    by_cases hu : m.sts k = .und
    · rw [if_pos hu]
      rw [if_pos (decide_eq_true hu)] at e
      obtain ⟨t0, ht0, rfl⟩ := e
      exact (D.mono t).setS (s := .done (m.count + 1)) hk hl ⟨t0, rfl, ht0⟩ _
    · rw [if_neg hu]
      rw [if_neg (by rw [decide_eq_false hu]; exact Bool.false_ne_true)] at e
      subst e
      exact (D.mono t).count _
  | clean =>
    have h3 : i < nn m k ∧ v = m.sts k ∧ m.sts k ≠ .und := h2
    have h6 := I.pg_lt h3.1
    obtain ⟨mk, hmk, hq'⟩ := (show ∃ mk, MarkV H mk k (ent m k i) ∧ xs = [.str "swap", .int (5 + pg m k i), mk, .int (shS v (ent m k i))] from hq)
    obtain ⟨v', h1, h4⟩ := D.w _ h6
    refine ⟨.sw (5 + pg m k i) mk (.int (shS v (ent m k i))) (decide (m.word (pg m k i) = .mark k)), by rw [hq', ← ipg]; rfl, ⟨by omega, v', h1, eqT_wd_mark h4 hmk (I.at_i h3.1)⟩, fun H' hv' x t ⟨hx, e⟩ => ⟨?_, trivial⟩⟩
    have est : (stepF m ⟨k, .clean, i, v⟩).1 = if m.word (pg m k i) = .mark k then { m with count := m.count + 1, word := Esp.up m.word (pg m k i) (.adr (shS v (ent m k i))) } else { m with count := m.count + 1 } := rfl
    rw [est]
    by_cases hw : m.word (pg m k i) = .mark k
    · rw [if_pos hw]
      rw [if_pos (decide_eq_true hw)] at e
      subst e
      exact (D.mono t).setW h6 hl (x := .adr (shS v (ent m k i))) rfl _
    · rw [if_neg hw]
      rw [if_neg (by rw [decide_eq_false hw]; exact Bool.false_ne_true)] at e
      subst e
      exact (D.mono t).count _
theorem stepF_count (m : Mem) (f : Esp.Fr) (n1 : f.ph ≠ .help) (n2 : f.ph ≠ .fin) {fits : Nat → Bool} (I : MInv m) (ok : FOk m fits f) : (stepF m f).1.count = m.count + 1 := (Esp.stepF_ok I ok n1 n2).count
theorem plain_of {m : Mem} {fits : Nat → Bool} {f : Esp.Fr} (ok : FOk m fits f) (n1 : f.ph ≠ .help) (n2 : f.ph ≠ .fin) : Plain m f := by
  obtain ⟨h1, h2⟩ := ok
  refine ⟨n1, n2, fun h => ?_, fun h => ?_⟩
  · rcases h with h | h | h <;> (rw [h] at h2; exact h2.1)
  · rw [h] at h2
    rw [h2.2.1]; exact h2.2.2
end Wk
set_option Elab.async false
set_option linter.all false
set_option maxRecDepth 100000
set_option maxHeartbeats 4000000
namespace Wk
open PySem L2
open Esp (En Sts Wd Ph Mem es nn ent pg entAt shS shW shown stepF stepS settle passF MInv FOk)
theorem paired_mem {α β : Type} {F : α → β → Prop} : ∀ {l₁ : List α} {l₂ : List β}, Paired F l₁ l₂ → ∀ {a : α}, a ∈ l₁ → ∃ b ∈ l₂, F a b
  | _, _, .nil, _, h => by cases h
  | _, _, .cons h t, a, ha => by
    rcases List.mem_cons.mp ha with rfl | ha
    · exact ⟨_, List.mem_cons_self, h⟩
    · obtain ⟨b, hb, hf⟩ := paired_mem t ha
      exact ⟨b, List.mem_cons_of_mem _ hb, hf⟩
section
variable {P : Program} {w : World} {K : PySem.W.Frag} {mg : Str → Option Value} {base : Heap} {c : Cl}
/-! ### Stack.step -/
def spStep (c : Cl) : Sp := fun vs H Q _ => ∃ (A : MA) (m : Mem) (fits : Nat → Bool) (S ml : Addr) (as : List Addr) (fs : List Esp.Fr) (rv th : V), vs = [.ref S, .ref A.mem, th] ∧ MemR c A H m ∧ m.count < 1000000 ∧ MInv m ∧ (∀ f ∈ fs, FOk m fits f) ∧
  (∀ f r, fs = f :: r → f.ph ≠ .help ∧ f.ph ≠ .fin ∧ ∀ g ∈ r, g.ph = .help) ∧ StkA c m H S ml as fs rv ∧ ml ≠ A.acc ∧ ml ≠ A.held ∧ as.length < 1000000 ∧
  ((fs = [] ∧ ∀ H', Same H H' → Q (.bl false) H') ∨
   (fs ≠ [] ∧ ∀ H' as' rv', MemR c A H' (stepS m fs).1 → StkA c m H' S ml as' (stepS m fs).2 rv' → ((stepS m fs).2 = [] → ∀ f r, fs = f :: r → StsV H' rv' ((stepS m fs).1.sts f.k)) → (∀ x ∈ as', x ∈ as ∨ H x = none) →
     (∀ b o, H b = some o → b ≠ S → b ≠ ml → b ∉ as → b ≠ A.mem → b ≠ A.acc → b ≠ A.held → H' b = some o) → Q (.bl true) H'))
theorem scSp : FnScope ["self", "memory", "thread", "top"] ["self", "memory", "thread"] (defScope sStep) := ⟨rfl, rfl, rfl, by decide +kernel, rfl, by decide +kernel, by decide +kernel⟩
theorem ok_step {f : Addr} {fd : FuncData} (T : Txt K mg c) (F : Fun K "step" "Stack.step" sStep f fd)
    (W0 : MOk P w K mg base c.S "_settle" 5 ["self"] (spSettle c)) (W1 : MOk P w K mg base c.D "request" 3 ["self"] (spRequest c)) (W2 : MOk P w K mg base c.D "accept" 4 ["self", "result"] (spAccept c))
    (W3 : MOk P w K mg base c.M "access" 2 ["self", "thread", "request"] (spAccess K c)) : FnOk P w K mg base CX0 6 f fd ["self", "memory", "thread"] (spStep c) := by
  obtain ⟨f0, fd0, m0, G0, b0⟩ := W0.ex
  obtain ⟨f1, fd1, m1, G1, b1⟩ := W1.ex
  obtain ⟨f2, fd2, m2, G2, b2⟩ := W2.ex
  obtain ⟨f3, fd3, m3, G3, b3⟩ := W3.ex
  refine F.ok scSp (fun vs H Q E h => ?_) (fun cdv A outer s H vs Q E hr h => ?_)
  · obtain ⟨A, m, fits, S, ml, as, fs, rv, th, rfl, _⟩ := h
    rfl
  · obtain ⟨A, m, fits, S, ml, as, fs, rv, th, rfl, MR, hcnt, I, ok, top, KS, nma, nmh, hlen, h⟩ := h
    have hr4 : Room 4 _ := hr.mono (by decide)
    have hr3 : Room 3 _ := hr.mono (by decide)
    have hr2 : Room 2 _ := hr.mono (by decide)
    refine ⟨_, pss_cons (ps_expr (pe_meth0 (pv 0) T.S m0 G0 hr b0 .nil pass0)) (pss_cons (ps_if (pt_not (pt_truth (pe_fld (pv 0) rfl) (by intro _; rfl))) (pss_one (ps_ret pe_bl)) pss_nil)
      (pss_cons (ps_set (i := 3) scSp.nd rfl (Or.inl rfl) (pe_ix ix_list (pe_fld (pv 0) rfl) (pe_un un_neg pe_int) (fun _ _ => rfl)))
      (pss_cons (ps_expr (pe_meth (pv 3) T.D m2 G2 hr4 b2 .nil pass0 (pa_cons (pe_meth (pv 1) T.M m3 G3 hr2 b3 .nil pass0 (pa_cons (pv 2) (pa_cons (pe_meth0 (pv 3) T.D m1 G1 hr3 b1 .nil pass0) pa_nil))) pa_nil)))
      (pss_cons (ps_expr (pe_meth0 (pv 0) T.S m0 G0 hr b0 .nil pass0)) (pss_one (ps_ret pe_bl)))))), ?_⟩
    obtain ⟨⟨dx, hS⟩, hml, nd, hfr⟩ := id KS
    have nSm : S ≠ ml := ne_of hS hml (by intro z; cases z)
    have pl0 : fs = [] ∨ ∃ f r, fs = f :: r ∧ Plain m f := by
      cases fs with
      | nil => exact .inl rfl
      | cons f r =>
        obtain ⟨n1, n2, _⟩ := top f r rfl
        exact .inr ⟨f, r, rfl, plain_of (ok f List.mem_cons_self) n1 n2⟩
    refine ⟨_, rfl, S, dx, _, rfl, hS, sfs_no (by decide +kernel), m, S, ml, as, fs, rv, rfl, KS, .inl ⟨pl0, fun H1 s1 => ?_⟩⟩
    refine ⟨_, rfl, S, c.S, dx, _, _, rfl, s1 _ _ hS, T.S, T.sMachines, lk_at sfs_nd (i := 0) rfl, _, .inl ⟨_, SqL.of (s1 _ _ hml), rfl⟩, ?_⟩
    rcases h with ⟨rfl, k⟩ | ⟨hne, k⟩
    · cases hfr
      exact iT rfl (k H1 s1)
    · cases hfr with
      | nil => exact absurd rfl hne
      | @cons a f ar r ha hfr' =>
        obtain ⟨n1, n2, hh⟩ := top f r rfl
        have hf := ok f List.mem_cons_self
        have hpl := plain_of hf n1 n2
        have O := Esp.stepF_ok I hf n1 n2
        have shp := Esp.stepF_shape m f n1 n2
        refine iF (by rw [rev_cons]; simp) ?_
        obtain ⟨sv, ev, hv, vv, dx2, R⟩ := id ha
        have R1 := R.mono (Same.tups s1) (by rw [s1 _ _ R.at_, R.at_])
        refine ⟨_, rfl, S, c.S, dx, _, _, rfl, s1 _ _ hS, T.S, T.sMachines, lk_at sfs_nd (i := 0) rfl, 1, rfl, ml, _, _, _, rfl, rfl, SqL.of (s1 _ _ hml), atI_top a ar, ?_⟩
        obtain ⟨hvs, MC, MD⟩ := MR
        obtain ⟨dm, hm⟩ := MC.mem
        obtain ⟨dl, hlay⟩ := MC.lay
        obtain ⟨al, hal, hal2⟩ := MC.acc
        refine ⟨_, rfl, a, dx2, _, rfl, R1.at_, dfs_no (by decide +kernel), _, rfl, A.mem, dm, _, rfl, s1 _ _ hm, mfs_no (by decide +kernel), _, rfl, _, rfl, a, dx2, _, rfl, R1.at_, dfs_no (by decide +kernel), m, a, f, sv, ev, hv, vv, dx2, rfl, R1, hpl.2.2.1, hpl.2.2.2, fun H2 r2 xs s2 hr2' hreq => ?_⟩
        have s12 := s1.trans s2
        obtain ⟨q, rfl, okq, done⟩ := access_of (K := K) I hf n1 n2 (MD.mono (Same.tups s12)) MC.len hreq
        refine ⟨A, m.count, hvs, q, r2, th, rfl, MC.same s12, hcnt, hr2', okq, fun H3 hv' x t M3 fr3 ht3 dn => ?_⟩
        -- who is who
        have nSM : S ≠ A.mem := ne_of hS hm (by intro z; injection z with _ _ z; exact absurd (congrArg List.length z) (by show ¬ (2 = 4); decide))
        have nSL : S ≠ A.lay := ne_of hS hlay (by intro z; injection z with _ _ z; exact absurd (congrArg List.length z) (by show ¬ (2 = 3); decide))
        have nSa : S ≠ A.acc := ne_of hS hal (by intro z; cases z)
        have nSh : S ≠ A.held := ne_of hS MC.held (by intro z; cases z)
        have nmM : ml ≠ A.mem := ne_of hml hm (by intro z; cases z)
        have nmL : ml ≠ A.lay := ne_of hml hlay (by intro z; cases z)
        have nFM : ∀ y g, FrAt c m H y g → y ≠ A.mem ∧ y ≠ A.lay ∧ y ≠ A.acc ∧ y ≠ A.held ∧ y ≠ ml ∧ y ≠ S := fun y g ⟨_, _, _, _, _, R'⟩ =>
          ⟨ne_of R'.at_ hm (by intro z; injection z with _ _ z; exact absurd (congrArg List.length z) (by show ¬ (7 = 4); decide)),
           ne_of R'.at_ hlay (by intro z; injection z with _ _ z; exact absurd (congrArg List.length z) (by show ¬ (7 = 3); decide)),
           ne_of R'.at_ hal (by intro z; cases z), ne_of R'.at_ MC.held (by intro z; cases z), ne_of R'.at_ hml (by intro z; cases z),
           ne_of R'.at_ hS (by intro z; injection z with _ _ z; exact absurd (congrArg List.length z) (by show ¬ (7 = 2); decide))⟩
        have t3 : Tups H2 H3 := fun b xs h => fr3 b _ h (ne_of h (s12 _ _ hm) (by intro z; cases z)) (ne_of h (s12 _ _ hal) (by intro z; cases z)) (ne_of h (s12 _ _ MC.held) (by intro z; cases z))
        have fr03 : ∀ b o, H b = some o → b ≠ A.mem → b ≠ A.acc → b ≠ A.held → H3 b = some o := fun b o h => fr3 b o (s12 b o h)
        have t03 : Tups H H3 := (Same.tups s12).trans t3
        obtain ⟨md3, resp3⟩ := done H3 hv' x t3 dn
        have na := nFM a f ha
        have R3 : FrA c m H3 a f sv ev hv vv dx2 := R.mono t03 (by rw [fr03 _ _ R.at_ na.1 na.2.2.1 na.2.2.2.1, R.at_])
        refine .inl ⟨m, a, f, sv, ev, hv, vv, dx2, t, x, _, rfl, R3, ht3, resp3, n1, n2, fun H4 acc4 fr4 => ?_⟩
        have t4 : Tups H3 H4 := fun b xs h => fr4 b _ h (ne_of h R3.at_ (by intro z; cases z))
        have t04 := t03.trans t4
        have fr04 : ∀ b o, H b = some o → b ≠ A.mem → b ≠ A.acc → b ≠ A.held → b ≠ a → H4 b = some o := fun b o h e1 e2 e3 e4 => fr4 b o (fr03 b o h e1 e2 e3) e4
        have nd' := List.nodup_cons.mp nd
        have hS4 : H4 S = some (.ins c.S dx (sfs ml rv)) := fr04 _ _ hS nSM nSa nSh na.2.2.2.2.2.symm
        have hml4 : H4 ml = some (.lst ((a :: ar).reverse.map V.ref)) := fr04 _ _ hml nmM nma nmh na.2.2.2.2.1.symm
        have below4 : Paired (fun a f => FrAt c m H4 a f) ar r := paired_mono hfr' fun y hy g hg => hg.mono t04 fun o h => fr04 y o h (nFM y g hg).1 (nFM y g hg).2.2.1 (nFM y g hg).2.2.2.1 (by rintro rfl; exact nd'.1 hy)
        -- the memory behind accept
        have M4 : MemC c A H4 (m.count + 1) hv' := M3.off fun b o h hb => fr4 b o h (by
          rcases hb with rfl | rfl | rfl | rfl
          · exact na.1.symm
          · exact na.2.1.symm
          · exact na.2.2.1.symm
          · exact na.2.2.2.1.symm)
        have D4 : MemD (stepF m f).1 H4 hv' := md3.mono t4
        have hcount : (stepF m f).1.count = m.count + 1 := O.count
        have MR4 : MemR c A H4 (stepF m f).1 := ⟨hv', by rw [hcount]; exact M4, D4⟩
        have eS : ∀ l, (stepF m f).2 = l → (stepS m (f :: r)).2 = settle (l ++ r) := fun l e => by
          show settle ((stepF m f).2 ++ r) = _
          rw [e]
        have e1 : (stepS m (f :: r)).1 = (stepF m f).1 := rfl
        have fr4' : ∀ b o, H b = some o → b ∉ a :: ar → b ≠ A.mem → b ≠ A.acc → b ≠ A.held → H4 b = some o := fun b o h hb e1 e2 e3 => fr04 b o h e1 e2 e3 (fun z => hb (by rw [z]; exact List.mem_cons_self))
        -- the end, whatever is settled
        have ha4 : ∃ d o, H4 a = some (.ins c.D d o) := by
          rcases acc4 with ⟨f', _, sv', ev', hv', vv', dx', R'⟩ | ⟨k', b, _, _, ⟨sv', ev', vv', dx', R'⟩, _⟩
          · exact ⟨_, _, R'.at_⟩
          · exact ⟨_, _, R'.at_⟩
        have fin5 : ∀ H5 as' rv', StkA c (stepF m f).1 H5 S ml as' (stepS m (f :: r)).2 rv' → ((stepS m (f :: r)).2 = [] → StsV H5 rv' ((stepF m f).1.sts f.k)) → (∀ x ∈ as', x ∈ a :: ar ∨ H x = none) →
            (∀ b o, H4 b = some o → b ≠ S → b ≠ ml → b ∉ a :: ar → H5 b = some o) → Q (.bl true) H5 := by
          intro H5 as' rv' KS5 hrv hsub fr5
          have notT : ∀ y xs, H4 y = some (.tup xs) → y ∉ a :: ar := fun y xs h hy => by
            rcases List.mem_cons.mp hy with rfl | hy
            · obtain ⟨d, o, ho⟩ := ha4; rw [ho] at h; cases h
            · obtain ⟨g, _, _, _, _, _, _, R'⟩ := paired_mem below4 hy
              rw [R'.at_] at h; cases h
          have t5 : Tups H4 H5 := fun b xs h => fr5 b _ h (ne_of h hS4 (by intro z; cases z)) (ne_of h hml4 (by intro z; cases z)) (notT b xs h)
          have notA : ∀ y, (y = A.mem ∨ y = A.lay ∨ y = A.acc ∨ y = A.held) → y ∉ a :: ar := fun y hy hm' => by
            have : y ≠ A.mem ∧ y ≠ A.lay ∧ y ≠ A.acc ∧ y ≠ A.held := by
              rcases List.mem_cons.mp hm' with rfl | hm'
              · exact ⟨na.1, na.2.1, na.2.2.1, na.2.2.2.1⟩
              · obtain ⟨g, _, hg⟩ := paired_mem hfr' hm'
                have := nFM y g hg
                exact ⟨this.1, this.2.1, this.2.2.1, this.2.2.2.1⟩
            rcases hy with e | e | e | e
            · exact this.1 e
            · exact this.2.1 e
            · exact this.2.2.1 e
            · exact this.2.2.2 e
          have MR5 : MemR c A H5 (stepF m f).1 := by
            refine ⟨hv', ?_, D4.mono t5⟩
            rw [hcount]
            refine M4.off fun b o h hb => fr5 b o h ?_ ?_ (notA b hb)
            · rcases hb with rfl | rfl | rfl | rfl
              · exact nSM.symm
              · exact nSL.symm
              · exact nSa.symm
              · exact nSh.symm
            · rcases hb with rfl | rfl | rfl | rfl
              · exact nmM.symm
              · exact nmL.symm
              · exact nma.symm
              · exact nmh.symm
          exact k H5 as' rv' MR5 (StkA.deeds O.deeds.symm KS5) (fun z f' r' e => by cases e; exact hrv z) hsub fun b o h n1 n2 n3 n4 n5 n6 => fr5 b o (fr4' b o h n3 n4 n5 n6) n1 n2 n3
        rcases acc4 with ⟨f', es', hf'⟩ | ⟨k', b, es', hb0, ⟨sv4, ev4, vv4, dx4, R4⟩, FB⟩
        · have KS4 : StkA c (stepF m f).1 H4 S ml (a :: ar) (f' :: r) rv := StkA.deeds O.deeds ⟨⟨dx, hS4⟩, hml4, nd, .cons hf' below4⟩
          have hnew : FOk (stepF m f).1 (Esp.chk (stepF m f).1 fits) f' := O.new f' (by rw [es']; exact List.mem_singleton.mpr rfl)
          have fk : f'.k = f.k ∧ f'.ph ≠ .help := by
            rcases shp with ⟨g, e, g1, g2⟩ | ⟨k', e⟩
            · rw [es'] at e; cases e; exact ⟨g1, g2⟩
            · rw [es'] at e; cases e
          have eF : (stepS m (f :: r)).2 = settle (f' :: r) := eS [f'] es'
          by_cases hfin : f'.ph = .fin
          · refine ⟨_, rfl, S, dx, _, rfl, hS4, sfs_no (by decide +kernel), (stepF m f).1, S, ml, a :: ar, f' :: r, rv, rfl, KS4, .inr ⟨_, [], hlen, .inr ⟨f', r, rfl, hfin, rfl, rfl, fun g r' e => ?_⟩, fun H5 as' rv' KS5 hrv hsub fr5 => ?_⟩⟩
            · subst e
              have hg := O.keep g (ok g (List.mem_cons_of_mem _ List.mem_cons_self))
              have hgh := hh g List.mem_cons_self
              obtain ⟨_, h2⟩ := hg
              rw [hgh] at h2
              exact ⟨hgh, h2.1⟩
            · refine fin5 H5 as' rv' (by rw [eF]; exact KS5) (fun z => ?_) (fun x hx => ?_) fr5
              · have h5 := hrv (by rw [← eF]; exact z) f' r rfl
                obtain ⟨_, h2⟩ := hnew
                rw [hfin] at h2
                rw [h2.2.1, fk.1] at h5
                exact h5
              · rcases hsub x hx with h | h
                · exact .inl h
                · cases h
          · have hp' := plain_of hnew fk.2 hfin
            have e0 : settle (f' :: r) = f' :: r := by unfold Esp.settle; simp [hfin]
            refine ⟨_, rfl, S, dx, _, rfl, hS4, sfs_no (by decide +kernel), (stepF m f).1, S, ml, a :: ar, f' :: r, rv, rfl, KS4, .inl ⟨.inr ⟨f', r, rfl, hp'⟩, fun H5 s5 => ?_⟩⟩
            refine fin5 H5 (a :: ar) rv (by rw [eF, e0]; exact KS4.same s5) (fun z => by rw [eF, e0] at z; cases z) (fun x hx => .inl hx) fun b o h _ _ _ => s5 b o h
        · have KS4 : StkA c (stepF m f).1 H4 S ml (a :: ar) ({ f with ph := .help } :: r) rv := StkA.deeds O.deeds ⟨⟨dx, hS4⟩, hml4, nd, .cons ⟨_, _, _, _, _, R4⟩ below4⟩
          have eF : (stepS m (f :: r)).2 = ⟨k', .record, 0, .und⟩ :: { f with ph := .help } :: r := by
            rw [eS _ es']; unfold Esp.settle; simp
          have hbn : b ∉ a :: ar := fun hb => by
            have : ∃ o, H3 b = some o := by
              rcases List.mem_cons.mp hb with rfl | hb
              · exact ⟨_, R3.at_⟩
              · obtain ⟨g, _, hg⟩ := paired_mem hfr' hb
                have hg2 := nFM b g hg
                obtain ⟨_, _, _, _, _, R'⟩ := hg
                exact ⟨_, fr03 _ _ R'.at_ hg2.1 hg2.2.2.1 hg2.2.2.2.1⟩
            obtain ⟨o, ho⟩ := this
            rw [ho] at hb0; cases hb0
          have hbH : H b = none := by
            cases e : H b with
            | none => rfl
            | some o =>
              exfalso
              have hb3 : ∀ y o', H3 y = some o' → b ≠ y := fun y o' h z => by rw [z, h] at hb0; cases hb0
              obtain ⟨dm3, hm3⟩ := M3.mem
              obtain ⟨al3, hal3, _⟩ := M3.acc
              rw [fr03 b o e (hb3 _ _ hm3) (hb3 _ _ hal3) (hb3 _ _ M3.held)] at hb0
              cases hb0
          refine ⟨_, rfl, S, dx, _, rfl, hS4, sfs_no (by decide +kernel), (stepF m f).1, S, ml, a :: ar, { f with ph := .help } :: r, rv, rfl, KS4, .inr ⟨_, [b], hlen, .inl ⟨a, ar, { f with ph := .help }, r, b, k', rfl, rfl, rfl, ⟨_, _, _, _, R4.deeds O.deeds⟩, FB.deeds O.deeds, hbn, rfl, rfl⟩, fun H5 as' rv' KS5 hrv hsub fr5 => ?_⟩⟩
          refine fin5 H5 as' rv' (by rw [eF]; exact KS5) (fun z => by rw [eF] at z; cases z) (fun x hx => ?_) fr5
          rcases hsub x hx with h | h
          · exact .inl h
          · rw [List.mem_singleton.mp h]; exact .inr hbH
end
end Wk
set_option Elab.async false
set_option linter.all false
set_option maxRecDepth 100000
set_option maxHeartbeats 4000000
namespace Wk
open PySem L2
open Esp (En Sts Wd Ph Mem es nn ent pg entAt shS shW shown stepF stepS settle passF MInv FOk)
theorem newT {H : Hp} {p : Addr} {o : HO} (hp : H p = none) : Same H (L2.upd H p o) := fun b o e => by rw [upd_ne (ne_of_none e hp)]; exact e
section
variable {P : Program} {w : World} {K : PySem.W.Frag} {mg : Str → Option Value} {base : Heap} {c : Cl}
/-! ### shown_by -/
def spShownBy : Sp := fun vs H Q _ => ∃ (mk sv : V) (k : Nat) (e : En) (s : Sts) (n : Int), vs = [mk, sv, .int n] ∧ MarkV H mk k e ∧ StsV H sv s ∧ ∀ p y, H p = none → Q (.ref p) (upd H p (.tup [.int (shS s e), y]))
theorem scSB : FnScope ["mark", "status", "first"] ["mark", "status", "first"] (defScope sShownBy) := ⟨rfl, rfl, rfl, by decide +kernel, rfl, by decide +kernel, by decide +kernel⟩
theorem ok_shownby {f : Addr} {fd : FuncData} (T : Txt K mg c) (F : Fun K "shown_by" "shown_by" sShownBy f fd) : FnOk P w K mg base CX0 1 f fd ["mark", "status", "first"] spShownBy := by
  refine F.ok scSB (fun vs H Q E h => ?_) (fun cdv A outer s H vs Q E hr h => ?_)
  · obtain ⟨mk, sv, k, e, st, n, rfl, _⟩ := h
    rfl
  · obtain ⟨mk, sv, k, e, st, n, rfl, ⟨a, rfl, ha⟩, hs, q⟩ := h
    refine ⟨_, pss_cons (ps_if (PW.pt (pw_and (pt_cmpR (op_neD hr.units) (pv 1) pe_int (nomark _)) (pw_and1 (pt_cmpR op_eq (pe_ix ix_tup (pv 1) pe_int (fun _ _ => rfl)) pe_str (nomark _)))))
        (pss_one (ps_ret (pe_tup (pa_cons (pe_ix ix_tup (pv 0) pe_int (fun _ _ => rfl)) (pa_cons (pe_callB (call_max2 rfl) (by rfl) T.max (by decide +kernel) (pa_cons (pv 2) (pa_cons (pe_ix ix_tup (pv 1) pe_int (fun _ _ => rfl)) pa_nil))) pa_nil))))) pss_nil)
      (pss_one (ps_ret (pe_tup (pa_cons (pe_ix ix_tup (pv 0) pe_int (fun _ _ => rfl)) (pa_cons (pv 2) pa_nil))))), ?_⟩
    obtain ⟨d1, d2, q1, q2, q3, q4, q5⟩ := eq_sts0 (K := K) hs
    refine ⟨_, rfl, d1, d2, q1, q2, q3, q4, _, rfl, ?_⟩
    cases st with
    | und =>
      refine iF (by rw [q5]; rfl) (iF rfl ?_)
      exact ⟨_, rfl, a, _, _, _, rfl, rfl, SqT.of ha, atI_nat (j := 2) rfl, _, rfl, (by show 2 ≤ sizeLine; decide), fun p hp => q p _ hp⟩
    | done t =>
      obtain ⟨b, rfl, hb⟩ := hs
      refine iT (by rw [q5]; rfl) ⟨_, rfl, b, _, _, _, rfl, rfl, SqT.of hb, atI_nat (j := 0) rfl, rfl, _, rfl, iT (by decide +kernel) ?_⟩
      exact ⟨_, rfl, a, _, _, _, rfl, rfl, SqT.of ha, atI_nat (j := 3) rfl, _, rfl, _, rfl, b, _, _, _, rfl, rfl, SqT.of hb, atI_nat (j := 1) rfl, n, _, rfl, (by show 2 ≤ sizeLine; decide), fun p hp => q p _ hp⟩
    | fail t =>
      obtain ⟨b, rfl, hb⟩ := hs
      refine iT (by rw [q5]; rfl) ⟨_, rfl, b, _, _, _, rfl, rfl, SqT.of hb, atI_nat (j := 0) rfl, rfl, _, rfl, iF (by decide +kernel) ?_⟩
      exact ⟨_, rfl, a, _, _, _, rfl, rfl, SqT.of ha, atI_nat (j := 2) rfl, _, rfl, (by show 2 ≤ sizeLine; decide), fun p hp => q p _ hp⟩

/-! ### shown_now and the law's own reading -/
def spShown (c : Cl) : Sp := fun vs H Q _ => ∃ (A : MA) (m : Mem) (p : Nat), vs = [.ref A.mem, .int p] ∧ MemR c A H m ∧ (∀ p k, m.word p = .mark k → k < m.deeds.length) ∧ p < 6 ∧ ∀ H', Same H H' → Q (.int (shown m p)) H'
theorem shown_adr {m : Mem} {p : Nat} {a : Int} (h : m.word p = .adr a) : shown m p = a := by unfold Esp.shown; rw [h]; rfl
theorem shown_mark {m : Mem} {p k : Nat} (h : m.word p = .mark k) : shown m p = shS (m.sts k) (entAt (es m k) p) := by unfold Esp.shown; rw [h]; rfl
theorem scSN : FnScope ["memory", "page", "value"] ["memory", "page"] (defScope sShownNow) := ⟨rfl, rfl, rfl, by decide +kernel, rfl, by decide +kernel, by decide +kernel⟩
theorem ok_shownnow {f : Addr} {fd : FuncData} (T : Txt K mg c) (F : Fun K "shown_now" "shown_now" sShownNow f fd)
    (W1 : MOk P w K mg base c.M "peek" 2 ["self", "cell"] (spPeek c)) (W2 : MOk P w K mg base c.L "word" 1 ["self", "page"] spWord) (W3 : DOk P w K mg base "is_mark" 1 ["value"] spIsMark) (W4 : DOk P w K mg base "shown_by" 1 ["mark", "status", "first"] spShownBy) :
    FnOk P w K mg base CX0 3 f fd ["memory", "page"] (spShown c) := by
  obtain ⟨f1, fd1, m1, G1, b1⟩ := W1.ex
  obtain ⟨f2, fd2, m2, G2, b2⟩ := W2.ex
  obtain ⟨fi, fdi, gi, ki, Gi, bi⟩ := W3.ex
  obtain ⟨fb, fdb, gb, kb, Gb, bb⟩ := W4.ex
  refine F.ok scSN (fun vs H Q E h => ?_) (fun cdv A outer s H vs Q E hr h => ?_)
  · obtain ⟨A, m, p, rfl, _⟩ := h
    rfl
  · obtain ⟨A, m, p, rfl, ⟨hvs, MC, MD⟩, own, hp, q⟩ := h
    have hr1 : Room 1 _ := hr.mono (by decide)
    obtain ⟨dm, hm⟩ := MC.mem
    obtain ⟨dl, hlay⟩ := MC.lay
    refine ⟨_, pss_cons (ps_set (i := 2) scSN.nd rfl (Or.inl rfl) (pe_meth (pv 0) T.M m1 G1 hr b1 .nil pass0 (pa_cons (pe_meth (pe_fld (pv 0) rfl) T.L m2 G2 hr1 b2 .nil pass0 (pa_cons (pv 1) pa_nil)) pa_nil)))
      (pss_cons (ps_if (pt_not (pt_val (pe_call Gi hr1 (by rfl) gi ki bi .nil pass0 (pa_cons (pv 2) pa_nil)))) (pss_one (ps_ret (pv 2))) pss_nil)
      (pss_one (ps_ret (pe_ix ix_tup (pe_call Gb hr1 (by rfl) gb kb bb .nil pass0 (pa_cons (pv 2) (pa_cons (pe_meth (pv 0) T.M m1 G1 hr b1 .nil pass0 (pa_cons (pe_ix ix_tup (pv 2) pe_int (fun _ _ => rfl)) pa_nil)) (pa_cons pe_int pa_nil)))) pe_int (fun _ _ => rfl))))), ?_⟩
    obtain ⟨x, hx, hw⟩ := MD.w p hp
    have e5 : (5 : Int) + (p : Int) = ((5 + p : Nat) : Int) := by omega
    refine ⟨_, rfl, A.mem, dm, _, rfl, hm, mfs_no (by decide +kernel), _, rfl, A.mem, c.M, dm, _, _, rfl, hm, T.M, T.mLayout, lk_at mfs_nd (i := 0) rfl, A.lay, dl, lfs, rfl, hlay, lk_no (by show ("word" : Str) ∉ (["threads", "pages", "records"] : List Str); decide +kernel), _, rfl, _, _, rfl, ?_⟩
    refine ⟨A, m.count, hvs, 5 + p, x, by rw [e5]; rfl, MC, hx, ?_⟩
    refine ⟨_, rfl, x, _, rfl, tupB_wd hw, _, rfl, ?_⟩
    cases hwp : m.word p with
    | adr a =>
      rw [hwp] at hw
      cases (show x = .int a from hw)
      refine iT rfl ⟨_, rfl, ?_⟩
      rw [← shown_adr hwp]
      exact q H (Same.refl H)
    | mark k =>
      rw [hwp] at hw
      obtain ⟨r, rfl, hr'⟩ := (show MarkV H x k (entAt (es m k) p) from hw)
      have hk := own p k hwp
      obtain ⟨y, hy, hs⟩ := MD.s k hk
      have e101 : (101 : Int) + 2 * (k : Int) = ((101 + 2 * k : Nat) : Int) := by omega
      refine iF rfl ⟨_, rfl, _, rfl, A.mem, dm, _, rfl, hm, mfs_no (by decide +kernel), _, rfl, r, _, _, _, rfl, rfl, SqT.of hr', atI_nat (j := 1) rfl, A, m.count, hvs, 101 + 2 * k, y, by rw [e101]; rfl, MC, hy, ?_⟩
      refine ⟨_, _, k, entAt (es m k) p, m.sts k, 0, rfl, ⟨r, rfl, hr'⟩, hs, fun p0 y0 hp0 => ?_⟩
      refine ⟨p0, _, _, _, rfl, rfl, SqT.of upd_same, atI_nat (j := 0) rfl, ?_⟩
      rw [← shown_mark hwp]
      exact q _ (newT hp0)
theorem scLS : FnScope ["_law_memory", "_law_page", "_law_value", "_law_status"] ["_law_memory", "_law_page"] (defScope sLShown) := ⟨rfl, rfl, rfl, by decide +kernel, rfl, by decide +kernel, by decide +kernel⟩
theorem ok_lshown {f : Addr} {fd : FuncData} (T : Txt K mg c) (F : Fun K "_law_shown" "_law_shown" sLShown f fd) (W1 : MOk P w K mg base c.M "peek" 2 ["self", "cell"] (spPeek c)) :
    FnOk P w K mg base CX0 3 f fd ["_law_memory", "_law_page"] (spShown c) := by
  obtain ⟨f1, fd1, m1, G1, b1⟩ := W1.ex
  refine F.ok scLS (fun vs H Q E h => ?_) (fun cdv A outer s H vs Q E hr h => ?_)
  · obtain ⟨A, m, p, rfl, _⟩ := h
    rfl
  · obtain ⟨A, m, p, rfl, ⟨hvs, MC, MD⟩, own, hp, q⟩ := h
    obtain ⟨dm, hm⟩ := MC.mem
    refine ⟨_, pss_cons (ps_set (i := 2) scLS.nd rfl (Or.inl rfl) (pe_meth (pv 0) T.M m1 G1 hr b1 .nil pass0 (pa_cons (pe_op op_add pe_int (pv 1)) pa_nil)))
      (pss_cons (ps_if (pt_not (pt_val (pe_callB call_isi (by rfl) T.isinstance (by decide +kernel) (pa_cons (pv 2) (pa_cons (pe_bltn (v := .ty "tuple") (by rfl) T.tuple (by decide +kernel) rfl) pa_nil))))) (pss_one (ps_ret (pv 2))) pss_nil)
      (pss_cons (ps_set (i := 3) scLS.nd rfl (Or.inl rfl) (pe_meth (pv 0) T.M m1 G1 hr b1 .nil pass0 (pa_cons (pe_ix ix_tup (pv 2) pe_int (fun _ _ => rfl)) pa_nil)))
      (pss_cons (ps_if (PW.pt (pw_and (pt_cmpR (op_neD hr.units) (pv 3) pe_int (nomark _)) (pw_and1 (pt_cmpR op_eq (pe_ix ix_tup (pv 3) pe_int (fun _ _ => rfl)) pe_str (nomark _))))) (pss_one (ps_ret (pe_ix ix_tup (pv 2) pe_int (fun _ _ => rfl)))) pss_nil)
      (pss_one (ps_ret (pe_ix ix_tup (pv 2) pe_int (fun _ _ => rfl))))))), ?_⟩
    obtain ⟨x, hx, hw⟩ := MD.w p hp
    have e5 : (5 : Int) + (p : Int) = ((5 + p : Nat) : Int) := by omega
    refine ⟨_, rfl, A.mem, dm, _, rfl, hm, mfs_no (by decide +kernel), _, rfl, _, _, rfl, rfl, A, m.count, hvs, 5 + p, x, (by show [V.ref A.mem, V.int (5 + (p : Int))] = _; rw [e5]), MC, hx, ?_⟩
    obtain ⟨t, h1, h2⟩ := (tupB_wd hw).ty (K := K)
    refine ⟨_, rfl, x, _, t, _, _, rfl, .ty "tuple", h1, h2, _, rfl, ?_⟩
    cases hwp : m.word p with
    | adr a =>
      rw [hwp] at hw
      cases (show x = .int a from hw)
      refine iT rfl ⟨_, rfl, ?_⟩
      rw [← shown_adr hwp]
      exact q H (Same.refl H)
    | mark k =>
      rw [hwp] at hw
      obtain ⟨r, rfl, hr'⟩ := (show MarkV H x k (entAt (es m k) p) from hw)
      have hk := own p k hwp
      obtain ⟨y, hy, hs⟩ := MD.s k hk
      have e101 : (101 : Int) + 2 * (k : Int) = ((101 + 2 * k : Nat) : Int) := by omega
      refine iF rfl ⟨_, rfl, A.mem, dm, _, rfl, hm, mfs_no (by decide +kernel), _, rfl, r, _, _, _, rfl, rfl, SqT.of hr', atI_nat (j := 1) rfl, A, m.count, hvs, 101 + 2 * k, y, by rw [e101]; rfl, MC, hy, ?_⟩
      have sh := shown_mark hwp
      have q0 := q H (Same.refl H)
      rw [sh] at q0
      obtain ⟨d1, d2, q1, q2, q3, q4, q5⟩ := eq_sts0 (K := K) hs
      refine ⟨_, rfl, d1, d2, q1, q2, q3, q4, _, rfl, ?_⟩
      cases hst : m.sts k with
      | und =>
        rw [hst] at q5 q0
        exact iF (by rw [q5]; rfl) (iF rfl ⟨_, rfl, r, _, _, _, rfl, rfl, SqT.of hr', atI_nat (j := 2) rfl, q0⟩)
      | done t' =>
        rw [hst] at q5 q0 hs
        obtain ⟨b, rfl, hb⟩ := hs
        exact iT (by rw [q5]; rfl) ⟨_, rfl, b, _, _, _, rfl, rfl, SqT.of hb, atI_nat (j := 0) rfl, rfl, _, rfl, iT (by decide +kernel) ⟨_, rfl, r, _, _, _, rfl, rfl, SqT.of hr', atI_nat (j := 3) rfl, q0⟩⟩
      | fail t' =>
        rw [hst] at q5 q0 hs
        obtain ⟨b, rfl, hb⟩ := hs
        exact iT (by rw [q5]; rfl) ⟨_, rfl, b, _, _, _, rfl, rfl, SqT.of hb, atI_nat (j := 0) rfl, rfl, _, rfl, iF (by decide +kernel) ⟨_, rfl, r, _, _, _, rfl, rfl, SqT.of hr', atI_nat (j := 2) rfl, q0⟩⟩

/-! ### deed_record -/
def rTupOf (K : PySem.W.Frag) : List V → Hp → VK → Prop := fun xs H Q => ∃ p ys, xs = [.ref p] ∧ ((SqL K H p ys ∧ ∀ l, H l = none → Q (.ref l) (upd H l (.tup ys))) ∨ (SqT K H p ys ∧ Q (.ref p) H))
def spDeedRec : Sp := fun vs H Q _ => ∃ (k : Nat) (L : Addr) (xs : List V) (d : List En), vs = [.int (101 + 2 * k), .ref L] ∧ H L = some (.lst xs) ∧ xs.length = d.length ∧ (∀ (j : Nat) (e : En), d[j]? = some e → ∃ x, xs[j]? = some x ∧ EnV H x e) ∧
  d ≠ [] ∧ d.length ≤ 6 ∧ d.Pairwise (fun a b => a.p < b.p) ∧ ∀ H' p, Same H H' → RecV H' (.ref p) k d → Q (.ref p) H'
theorem scDR : FnScope ["status", "entries", "index", "entry"] ["status", "entries"] (defScope sDeedRec) := ⟨rfl, rfl, rfl, by decide +kernel, rfl, by decide +kernel, by decide +kernel⟩
theorem ok_deedrec {f : Addr} {fd : FuncData} (T : Txt K mg c) (F : Fun K "deed_record" "deed_record" sDeedRec f fd) : FnOk P w K mg base CX0 1 f fd ["status", "entries"] spDeedRec := by
  refine F.ok scDR (fun vs H Q E h => ?_) (fun cdv A outer s H vs Q E hr h => ?_)
  · obtain ⟨k, L, xs, d, rfl, _⟩ := h
    rfl
  · obtain ⟨k, L, xs, d, rfl, hL, hlen, hent, hne, h6, hasc, q⟩ := h
    refine ⟨_, pss_cons (ps_if (pt_cmpR op_eq (pe_callB call_len_seq (by rfl) T.len PySem.boot_len (pa_cons (pv 1) pa_nil)) pe_int (nomark _)) pss_never pss_nil)
      (pss_cons (ps_for PassesOwn.never rfl (pi_range2 (by rfl) T.range (pa_cons pe_int (pa_cons (pe_callB call_len_seq (by rfl) T.len PySem.boot_len (pa_cons (pv 1) pa_nil)) pa_nil))) (pg_name (i := 2) scDR.nd rfl (Or.inl rfl))
        (pss_one (ps_if (pt_cmpR op_ge (pe_ix ix_tup (pe_ix ix_list (pv 1) (pe_op op_sub (pv 2) pe_int) (fun _ _ => rfl)) pe_int (fun _ _ => rfl)) (pe_ix ix_tup (pe_ix ix_list (pv 1) (pv 2) (fun _ _ => rfl)) pe_int (fun _ _ => rfl)) (nomark _)) pss_never pss_nil)))
      (pss_one (ps_ret (pe_tup (pa_cons pe_str (pa_cons (pv 0) (pa_cons (pe_callTy call_tuple_of (by rfl) T.tuple (by decide +kernel) (pa_cons
        (pe_lc (own := [("entry", 3)]) (g := gName 3) (tt := tYes) (te := tCB (rTupOf K) (tCons (tVar 3) tNil)) rfl scDR.nd (pi_list (pv 1)) (blkOk_by (own := [("entry", 3)]) (N := ["status", "entries", "index", "entry"]) (sc := defScope sDeedRec) (by decide +kernel)) (fun _ _ _ _ _ => pg_name (i := 3) scDR.nd rfl (Or.inl rfl)) (fun _ _ _ _ _ => pts_nil)
          (fun _ _ _ _ _ => pe_callTy (T := "tuple") (r := rTupOf K) call_tuple_of (by rfl) T.tuple (by decide +kernel) (pa_cons (pv 3) pa_nil))) pa_nil)) pa_nil))))))), ?_⟩
    have hpos : 0 < xs.length := by rw [hlen]; exact List.length_pos_iff.mpr hne
    refine ⟨_, rfl, L, xs, rfl, .inl (SqL.of hL), rfl, _, rfl, iF (decide_eq_false (by intro z; injection z with z; omega)) ?_⟩
    refine ⟨_, rfl, L, xs, rfl, .inl (SqL.of hL), 1, _, rfl, ⟨by decide, by decide, by omega, by omega⟩, for_range (lo := 1) (n := ((xs.length : Int) - 1).toNat) (fun i σ H' => ∃ v2 v3 : Option V, σ = [some (.int (101 + 2 * k)), some (.ref L), v2, v3] ∧ H = H') ⟨_, _, rfl, rfl⟩ ?_ ?_⟩
    · rintro i σ H' hi ⟨v2, v3, rfl, rfl⟩
      have hi1 : i + 1 < xs.length := by omega
      have hd1 : i + 1 < d.length := by omega
      obtain ⟨x0, hx0, a0, rfl, ha0⟩ := hent i d[i] (List.getElem?_eq_getElem (by omega))
      obtain ⟨x1, hx1, a1, rfl, ha1⟩ := hent (i + 1) d[i + 1] (List.getElem?_eq_getElem hd1)
      have lt : d[i].p < d[i + 1].p := List.pairwise_iff_getElem.mp hasc i (i + 1) (by omega) hd1 (by omega)
      have e0 : (1 : Int) + (i : Int) - 1 = ((i : Nat) : Int) := by omega
      have e1 : (1 : Int) + (i : Int) = ((i + 1 : Nat) : Int) := by omega
      refine ⟨_, rfl, _, rfl, _, _, rfl, rfl, L, xs, _, _, rfl, rfl, SqL.of hL, (by rw [e0]; exact atI_nat hx0), a0, _, _, _, rfl, rfl, SqT.of ha0, atI_nat (j := 0) rfl, ?_⟩
      refine ⟨_, rfl, _, rfl, L, xs, _, _, rfl, rfl, SqL.of hL, (by rw [e1]; exact atI_nat hx1), a1, _, _, _, rfl, rfl, SqT.of ha1, atI_nat (j := 0) rfl, ?_⟩
      refine ⟨_, _, rfl, rfl, _, rfl, iF (decide_eq_false (by omega)) ?_⟩
      exact ⟨_, _, rfl, rfl⟩
    · rintro σ H' ⟨v2, v3, rfl, rfl⟩
      refine ⟨_, rfl, _, rfl, L, rfl, ⟨_, SqL.of hL⟩, fun D hD => lc_list (K := K) (a := L) (xs := xs) (fun i H2 => Same H H2 ∧ H2 D = some (.lst (xs.take i))) ⟨newT hD, upd_same⟩ (fun i H2 _ p => SqL.of (p.1 _ _ hL)) ?_ ?_⟩
      · rintro i x H2 hi ⟨s2, hD2⟩
        have hil : i < xs.length := (List.getElem?_eq_some_iff.mp hi).1
        obtain ⟨x0, hx0, a0, rfl, ha0⟩ := hent i d[i] (List.getElem?_eq_getElem (by omega))
        rw [hi] at hx0; cases hx0
        refine ⟨rfl, ?_⟩
        refine ⟨_, rfl, a0, _, rfl, .inr ⟨SqT.of (s2 _ _ ha0), _, hD2, ?_, ?_, ?_⟩⟩
        · rw [List.length_take]; exact Nat.lt_of_le_of_lt (by omega : _ ≤ 6) (by decide)
        · intro b o h
          rw [upd_ne (ne_of_none h hD)]; exact s2 _ _ h
        · rw [upd_same, List.take_add_one, hi]; rfl
      · rintro H2 ⟨s2, hD2⟩
        rw [List.take_of_length_le (Nat.le_refl _)] at hD2
        refine ⟨D, _, rfl, .inl ⟨SqL.of hD2, fun l hl => ?_⟩⟩
        refine ⟨(by show 3 ≤ sizeLine; decide), fun p hp => ?_⟩
        have s3 := (s2.trans (newT (o := .tup xs) hl)).trans (newT (o := .tup [.str "deed", .int (101 + 2 * k), .ref l]) hp)
        refine q _ p s3 ⟨p, .ref l, rfl, upd_same, l, xs, rfl, newT hp _ _ upd_same, hlen, fun j e hj => ?_⟩
        obtain ⟨x, h1, h2⟩ := hent j e hj
        exact ⟨x, h1, h2.mono (Same.tups s3)⟩
end
end Wk
set_option Elab.async false
set_option linter.all false
set_option maxRecDepth 100000
set_option maxHeartbeats 4000000
namespace Wk
open PySem L2
open Esp (En Sts Wd Ph Mem es nn ent pg entAt shS shW shown stepF stepS settle passF MInv FOk)
section
variable {P : Program} {w : World} {K : PySem.W.Frag} {mg : Str → Option Value} {base : Heap} {c : Cl}
/-! ### _law_tape -/
def TapeOk (ts : List Int) : Prop := ∀ t ∈ ts, 0 ≤ t ∧ t < 1000
theorem TapeOk.snoc {ts : List Int} (h : TapeOk ts) {t : Int} (h0 : 0 ≤ t) (h1 : t < 1000) : TapeOk (ts ++ [t]) := fun x hx => by
  rcases List.mem_append.mp hx with hx | hx
  · exact h x hx
  · rw [List.mem_singleton.mp hx]; exact ⟨h0, h1⟩
theorem map_snoc (ts : List Int) (t : Int) : ts.map V.int ++ [V.int t] = (ts ++ [t]).map V.int := by simp
def spTape (K : PySem.W.Frag) : Sp := fun vs H Q _ => ∃ (a : Addr) (ns : List Int), vs = [.ref a] ∧ SqL K H a (ns.map V.int) ∧ ns.length ≤ 63 ∧
  ∀ H' p ts, Same H H' → H p = none → H' p = some (.lst (ts.map V.int)) → TapeOk ts → Q (.ref p) H'
theorem scTp : FnScope ["_law_script", "_law_tape_here", "_law_k", "_law_value", "_law_step_here"] ["_law_script"] (defScope sTape) := ⟨rfl, rfl, rfl, by decide +kernel, rfl, by decide +kernel, by decide +kernel⟩
theorem ok_tape {f : Addr} {fd : FuncData} (T : Txt K mg c) (F : Fun K "_law_tape" "_law_tape" sTape f fd) : FnOk P w K mg base CX0 1 f fd ["_law_script"] (spTape K) := by
  refine F.ok scTp (fun vs H Q E h => ?_) (fun cdv A outer s H vs Q E hr h => ?_)
  · obtain ⟨a, ns, rfl, _⟩ := h
    rfl
  · obtain ⟨a, ns, rfl, hS, h63, q⟩ := h
    refine ⟨_, pss_cons (ps_set (i := 1) scTp.nd rfl (Or.inl rfl) (pe_lst pa_nil))
      (pss_cons (ps_for PassesOwn.never rfl (pi_range1 (by rfl) T.range (pa_cons (pe_callB call_len_seq (by rfl) T.len PySem.boot_len (pa_cons (pv 0) pa_nil)) pa_nil)) (pg_name (i := 2) scTp.nd rfl (Or.inl rfl))
        (pss_cons (ps_set (i := 3) scTp.nd rfl (Or.inl rfl) (pe_callB call_abs (by rfl) T.abs (by decide +kernel) (pa_cons (pe_callTy call_int1 (by rfl) T.int (by decide +kernel) (pa_cons (pe_ix ix_list (pv 0) (pv 2) (fun _ _ => rfl)) pa_nil)) pa_nil)))
        (pss_one (ps_if (pt_cmpR op_ge (pv 3) (pe_op op_pow pe_int pe_int) (nomark _))
          (pss_one (ps_for PassesOwn.never rfl (pi_range1 (by rfl) T.range (pa_cons pe_int pa_nil)) (pg_name (i := 4) scTp.nd rfl (Or.inl rfl))
            (pss_one (ps_if (pt_cmpR op_gt (pv 3) pe_int (nomark _))
              (pss_cons (ps_expr (pe_bm PySem.F.plainAttrs_list PySem.F.slot_list_append PySem.F.type_list_append mt_append (pv 1) (pa_cons (pe_op op_mod (pv 3) pe_int) pa_nil)))
              (pss_one (ps_set (i := 3) scTp.nd rfl (Or.inl rfl) (pe_op op_fdiv (pv 3) pe_int)))) pss_nil))))
          (pss_one (ps_for PassesOwn.never rfl (pi_range1 (by rfl) T.range (pa_cons pe_int pa_nil)) (pg_name (i := 4) scTp.nd rfl (Or.inl rfl))
            (pss_cons (ps_set (i := 3) scTp.nd rfl (Or.inl rfl) (pe_op op_mod (pe_op op_add (pe_op op_add (pe_op op_mul (pv 3) pe_int) (pe_op op_mul pe_int (pe_op op_add (pv 2) pe_int))) (pe_op op_mul pe_int (pv 4))) pe_int))
            (pss_cons (ps_set (i := 3) scTp.nd rfl (Or.inl rfl) (pe_op op_mod (pe_op op_mul (pv 3) pe_int) pe_int))
            (pss_one (ps_expr (pe_bm PySem.F.plainAttrs_list PySem.F.slot_list_append PySem.F.type_list_append mt_append (pv 1) (pa_cons (pe_op op_mod (pe_op op_fdiv (pv 3) pe_int) pe_int) pa_nil))))))))))))
      (pss_one (ps_ret (pv 1)))), ?_⟩
    refine ⟨Nat.zero_le _, fun p hp => ?_⟩
    have hS1 : SqL K (upd H p (.lst [])) a (ns.map V.int) := Same.seq (newT hp) hS
    refine ⟨_, rfl, a, _, rfl, .inl hS1, ((ns.map V.int).length : Int), rfl, by rw [List.length_map]; omega, by rw [List.length_map]; omega, ?_⟩
    have size : ∀ (ts : List Int) (n : Nat), ts.length ≤ n → n ≤ 4000 → (ts.map V.int).length < sizeLine := fun ts n h1 h2 => by
      rw [List.length_map]; exact Nat.lt_of_le_of_lt (Nat.le_trans h1 h2) (by decide)
    refine for_range (lo := 0) (n := ((ns.map V.int).length : Int).toNat) (fun i σ H' => ∃ (ts : List Int) (v2 v3 v4 : Option V), σ = [some (.ref a), some (.ref p), v2, v3, v4] ∧ Same H H' ∧ H' p = some (.lst (ts.map V.int)) ∧ TapeOk ts ∧ ts.length ≤ 60 * i) ?_ ?_ ?_
    · exact ⟨[], _, _, _, rfl, newT hp, upd_same, (fun t h => nomatch h), Nat.le_refl _⟩
    · rintro i σ H' hi ⟨ts, v2, v3, v4, rfl, s1, hL, ht, hl⟩
      have hi' : i < ns.length := by rw [List.length_map] at hi; omega
      have hx : (ns.map V.int)[i]? = some (.int ns[i]) := by rw [List.getElem?_map, List.getElem?_eq_getElem hi']; rfl
      have e0 : (0 : Int) + (i : Int) = ((i : Nat) : Int) := by omega
      refine ⟨_, rfl, _, rfl, a, _, _, _, rfl, rfl, Same.seq s1 hS, (by rw [e0]; exact atI_nat hx), .inl ⟨_, rfl, _, rfl, ?_⟩⟩
      have habs : 0 ≤ (if ns[i] < 0 then -ns[i] else ns[i]) := by split <;> omega
      refine ⟨_, rfl, _, _, rfl, rfl, ⟨by decide, by decide, by decide⟩, _, _, rfl, rfl, _, rfl, ?_⟩
      by_cases hbig : (10 : Int) ^ (18 : Int).toNat ≤ (if ns[i] < 0 then -ns[i] else ns[i])
      · refine iT (decide_eq_true hbig) ?_
        refine ⟨60, rfl, by decide, by decide, for_range (lo := 0) (n := 60) (fun j σ H' => ∃ (ts : List Int) (val : Int) (v4 : Option V), σ = [some (.ref a), some (.ref p), some (.int (0 + i)), some (.int val), v4] ∧ 0 ≤ val ∧ Same H H' ∧ H' p = some (.lst (ts.map V.int)) ∧ TapeOk ts ∧ ts.length ≤ 60 * i + j) ?_ ?_ ?_⟩
        · exact ⟨ts, _, _, rfl, habs, s1, hL, ht, by omega⟩
        · rintro j σ H2 hj ⟨ts, val, v4, rfl, hv, s2, hL, ht, hl⟩
          refine ⟨_, rfl, _, _, rfl, rfl, _, rfl, ?_⟩
          by_cases hpos : 0 < val
          · refine iT (decide_eq_true hpos) ?_
            refine ⟨_, rfl, .inl ⟨rfl, _, SqL.of hL⟩, _, rfl, _, _, rfl, rfl, (by show (0 : Int) < 1000; decide), p, _, _, rfl, rfl, hL, size ts _ hl (by omega), ?_⟩
            refine ⟨_, rfl, _, _, rfl, rfl, ⟨by decide, by decide⟩, ?_⟩
            refine ⟨ts ++ [val % 1000], val / 1000, _, rfl, Int.ediv_nonneg hv (by decide), fun b o h => ?_, ?_, ht.snoc (Int.emod_nonneg _ (by decide)) (Int.emod_lt_of_pos _ (by decide)), by rw [List.length_append]; simp; omega⟩
            · rw [upd_ne (ne_of_none h hp)]; exact s2 _ _ h
            · rw [upd_same, map_snoc]
          · refine iF (decide_eq_false hpos) ?_
            exact ⟨ts, val, _, rfl, hv, s2, hL, ht, by omega⟩
        · rintro σ H2 ⟨ts, val, v4, rfl, hv, s2, hL, ht, hl⟩
          exact ⟨ts, _, _, _, rfl, s2, hL, ht, by omega⟩
      · refine iF (decide_eq_false hbig) ?_
        have hsm : (if ns[i] < 0 then -ns[i] else ns[i]) < 1000000000000000000 := by
          have : (10 : Int) ^ (18 : Int).toNat = 1000000000000000000 := by decide
          rw [this] at hbig; omega
        refine ⟨4, rfl, by decide, by decide, for_range (lo := 0) (n := 4) (fun j σ H' => ∃ (ts : List Int) (val : Int) (v4 : Option V), σ = [some (.ref a), some (.ref p), some (.int (0 + i)), some (.int val), v4] ∧ 0 ≤ val ∧ val < 1000000000000000000 ∧ Same H H' ∧ H' p = some (.lst (ts.map V.int)) ∧ TapeOk ts ∧ ts.length ≤ 60 * i + j) ?_ ?_ ?_⟩
        · exact ⟨ts, _, _, rfl, habs, hsm, s1, hL, ht, by omega⟩
        · rintro j σ H2 hj ⟨ts, val, v4, rfl, hv, hv2, s2, hL, ht, hl⟩
          have c1 : -(2 ^ 64) < val ∧ val < 2 ^ 64 := by omega
          refine ⟨_, rfl, _, _, rfl, rfl, .inl c1, _, rfl, _, _, rfl, rfl, _, _, rfl, rfl, .inl ⟨by decide, by decide⟩, _, _, rfl, rfl, _, rfl, _, _, rfl, rfl, .inl ⟨by decide, by decide⟩, _, _, rfl, rfl, _, _, rfl, rfl, (by show (0 : Int) < 2147483647; decide), ?_⟩
          have m1 := Int.emod_nonneg (val * 48271 + 69621 * ((0 + (i : Int)) + 1) + 7 * (0 + (j : Int))) (b := 2147483647) (by decide)
          have m2 := Int.emod_lt_of_pos (val * 48271 + 69621 * ((0 + (i : Int)) + 1) + 7 * (0 + (j : Int))) (b := 2147483647) (by decide)
          have c2 : -(2 ^ 64) < (val * 48271 + 69621 * ((0 + (i : Int)) + 1) + 7 * (0 + (j : Int))) % 2147483647 ∧ (val * 48271 + 69621 * ((0 + (i : Int)) + 1) + 7 * (0 + (j : Int))) % 2147483647 < 2 ^ 64 := by omega
          refine ⟨_, rfl, _, _, rfl, rfl, .inl c2, _, _, rfl, rfl, (by show (0 : Int) < 2147483647; decide), ?_⟩
          have m3 := Int.emod_nonneg ((val * 48271 + 69621 * ((0 + (i : Int)) + 1) + 7 * (0 + (j : Int))) % 2147483647 * 16807) (b := 2147483647) (by decide)
          have m4 := Int.emod_lt_of_pos ((val * 48271 + 69621 * ((0 + (i : Int)) + 1) + 7 * (0 + (j : Int))) % 2147483647 * 16807) (b := 2147483647) (by decide)
          refine ⟨_, rfl, .inl ⟨rfl, _, SqL.of hL⟩, _, rfl, _, _, rfl, rfl, ⟨by decide, by decide⟩, _, _, rfl, rfl, (by show (0 : Int) < 1000; decide), p, _, _, rfl, rfl, hL, size ts _ hl (by omega), ?_⟩
          refine ⟨ts ++ [(val * 48271 + 69621 * ((0 + (i : Int)) + 1) + 7 * (0 + (j : Int))) % 2147483647 * 16807 % 2147483647 / 1000 % 1000], _, _, rfl, m3, by omega, fun b o h => ?_, ?_, ht.snoc (Int.emod_nonneg _ (by decide)) (Int.emod_lt_of_pos _ (by decide)), by rw [List.length_append]; simp; omega⟩
          · rw [upd_ne (ne_of_none h hp)]; exact s2 _ _ h
          · rw [upd_same, map_snoc]
        · rintro σ H2 ⟨ts, val, v4, rfl, hv, hv2, s2, hL, ht, hl⟩
          exact ⟨ts, _, _, _, rfl, s2, hL, ht, by omega⟩
    · rintro σ H' ⟨ts, v2, v3, v4, rfl, s1, hL, ht, hl⟩
      exact ⟨_, rfl, q H' p ts s1 hp hL ht⟩

/-! ### _law_at -/
def spAt : Sp := fun vs H Q _ => ∃ (p : Addr) (ts : List Int) (k : Nat), vs = [.ref p, .int k] ∧ H p = some (.lst (ts.map V.int)) ∧ TapeOk ts ∧ ∀ t : Nat, t < 1000 → Q (.int t) H
theorem scAt : FnScope ["_law_tape_here", "_law_k"] ["_law_tape_here", "_law_k"] (defScope sAt) := ⟨rfl, rfl, rfl, by decide +kernel, rfl, by decide +kernel, by decide +kernel⟩
theorem ok_at {f : Addr} {fd : FuncData} (T : Txt K mg c) (F : Fun K "_law_at" "_law_at" sAt f fd) : FnOk P w K mg base CX0 1 f fd ["_law_tape_here", "_law_k"] spAt := by
  refine F.ok scAt (fun vs H Q E h => ?_) (fun cdv A outer s H vs Q E hr h => ?_)
  · obtain ⟨p, ts, k, rfl, _⟩ := h
    rfl
  · obtain ⟨p, ts, k, rfl, hL, ht, q⟩ := h
    refine ⟨_, pss_cons (ps_if (pt_cmpR op_lt (pv 1) (pe_callB call_len_seq (by rfl) T.len PySem.boot_len (pa_cons (pv 0) pa_nil)) (nomark _)) (pss_one (ps_ret (pe_ix ix_list (pv 0) (pv 1) (fun _ _ => rfl)))) pss_nil) (pss_one (ps_ret pe_int)), ?_⟩
    refine ⟨_, rfl, _, rfl, p, _, rfl, .inl (SqL.of hL), _, _, rfl, rfl, _, rfl, ?_⟩
    by_cases hk : k < ts.length
    · refine iT (decide_eq_true (by rw [List.length_map]; omega)) ?_
      have hx : (ts.map V.int)[k]? = some (.int ts[k]) := by rw [List.getElem?_map, List.getElem?_eq_getElem hk]; rfl
      obtain ⟨h0, h1⟩ := ht ts[k] (List.getElem_mem hk)
      refine ⟨_, rfl, _, rfl, p, _, _, _, rfl, rfl, SqL.of hL, atI_nat hx, ?_⟩
      have := q ts[k].toNat (by omega)
      rw [Int.toNat_of_nonneg h0] at this
      exact this
    · refine iF (decide_eq_false (by rw [List.length_map]; omega)) ?_
      exact q 0 (by decide)
end
end Wk
set_option Elab.async false
set_option linter.all false
set_option maxRecDepth 100000
set_option maxHeartbeats 4000000
namespace Wk
open PySem L2
open Esp (En Sts Wd Ph Mem es nn ent pg entAt shS shW shown stepF stepS settle passF MInv FOk ChgOk Chg chk)
/-! ### the law's deeds -/
structure DeedAt (H : Hp) (k : Nat) (d : List En) (s : Sts) (b : Bool) (a L : Addr) : Prop where
  at_ : ∃ sv, H a = some (.lst [.int (100 + 2 * k), .ref L, sv, .bl b]) ∧ StsV H sv s
  en : ∃ xs, H L = some (.lst xs) ∧ xs.length = d.length ∧ ∀ (j : Nat) (e : En), d[j]? = some e → ∃ x, xs[j]? = some x ∧ EnV H x e
structure DeedsL (H : Hp) (dl : Addr) (ds Ls : List Addr) (n : Nat) (D : Nat → List En) (S : Nat → Sts) (B : Nat → Bool) : Prop where
  dl : H dl = some (.lst (ds.map V.ref))
  len : ds.length = n
  llen : Ls.length = n
  nd : ds.Nodup
  at_ : ∀ (k : Nat) (a L : Addr), ds[k]? = some a → Ls[k]? = some L → DeedAt H k (D k) (S k) (B k) a L
theorem DeedAt.keep {H H' : Hp} {k : Nat} {d : List En} {s : Sts} {b : Bool} {a L : Addr} (h : DeedAt H k d s b a L) (t : Tups H H') (ka : ∀ o, H a = some o → H' a = some o) (kL : ∀ o, H L = some o → H' L = some o) : DeedAt H' k d s b a L := by
  obtain ⟨⟨sv, h1, h2⟩, xs, h3, h4, h5⟩ := h
  refine ⟨⟨sv, ka _ h1, h2.mono t⟩, xs, kL _ h3, h4, fun j e hj => ?_⟩
  obtain ⟨x, h6, h7⟩ := h5 j e hj
  exact ⟨x, h6, h7.mono t⟩
theorem DeedsL.keep {H H' : Hp} {dl : Addr} {ds Ls : List Addr} {n : Nat} {D : Nat → List En} {S : Nat → Sts} {B : Nat → Bool} (h : DeedsL H dl ds Ls n D S B) (t : Tups H H') (k : ∀ b o, (b = dl ∨ b ∈ ds ∨ b ∈ Ls) → H b = some o → H' b = some o) : DeedsL H' dl ds Ls n D S B :=
  ⟨k _ _ (.inl rfl) h.dl, h.len, h.llen, h.nd, fun i a L ha hL => (h.at_ i a L ha hL).keep t (fun o => k a o (.inr (.inl (List.mem_of_getElem? ha)))) fun o => k L o (.inr (.inr (List.mem_of_getElem? hL)))⟩
structure SepD (A : MA) (sh dl : Addr) (ds Ls : List Addr) : Prop where
  shds : sh ∉ ds
  dlds : dl ∉ ds
  dlsh : dl ≠ sh
  accds : A.acc ∉ ds
  accsh : A.acc ≠ sh
  heldds : A.held ∉ ds
  heldsh : A.held ≠ sh
  ls : ∀ L ∈ Ls, L ∉ ds ∧ L ≠ sh
/-- the list of what is shown -/
def shL (s : Nat → Int) : List V := (List.range 6).map fun p => V.int (s p)
theorem shL_get (s : Nat → Int) {p : Nat} (h : p < 6) : (shL s)[p]? = some (.int (s p)) := by
  unfold shL
  rw [List.getElem?_map, List.getElem?_range h]; rfl
theorem shL_len (s : Nat → Int) : (shL s).length = 6 := by unfold shL; simp
theorem shL_set (s : Nat → Int) {p : Nat} (h : p < 6) (v : Int) : (shL s).set p (.int v) = shL (Esp.up s p v) := by
  refine List.ext_getElem? fun j => ?_
  by_cases e : j = p
  · subst e
    rw [List.getElem?_set_self (by rw [shL_len]; exact h), shL_get _ h, Esp.up_same]
  · rw [List.getElem?_set_ne (Ne.symm e)]
    by_cases hj : j < 6
    · rw [shL_get _ hj, shL_get _ hj, Esp.up_ne e]
    · rw [List.getElem?_eq_none (by rw [shL_len]; omega), List.getElem?_eq_none (by rw [shL_len]; omega)]
theorem shL_congr {s t : Nat → Int} (h : ∀ p, p < 6 → s p = t p) : shL s = shL t := by
  unfold shL
  refine List.map_congr_left fun p hp => ?_
  rw [h p (List.mem_range.mp hp)]
def slf (d : List En) (s : Nat → Int) : Nat → Int := d.foldl (fun s e => Esp.up s e.p e.n) s
theorem slf_snoc (d : List En) (e : En) (s : Nat → Int) : slf (d ++ [e]) s = Esp.up (slf d s) e.p e.n := by unfold slf; rw [List.foldl_append]; rfl
theorem slf_out {p : Nat} : ∀ {d : List En} {s : Nat → Int}, (∀ e ∈ d, e.p ≠ p) → slf d s p = s p
  | [], _, _ => rfl
  | e :: r, s, h => by
    show slf r (Esp.up s e.p e.n) p = _
    rw [slf_out (fun e' he => h e' (List.mem_cons_of_mem _ he)), Esp.up_ne (Ne.symm (h e List.mem_cons_self))]
theorem slf_in : ∀ {d : List En} {s : Nat → Int}, d.Pairwise (fun a b => a.p < b.p) → ∀ {e : En}, e ∈ d → slf d s e.p = e.n
  | e :: r, s, h, e', he => by
    have h' := List.pairwise_cons.mp h
    show slf r (Esp.up s e.p e.n) e'.p = _
    rcases List.mem_cons.mp he with rfl | he
    · rw [slf_out (fun x hx => by have := h'.1 x hx; omega), Esp.up_same]
    · exact slf_in h'.2 he
end Wk
set_option Elab.async false
set_option linter.all false
set_option maxRecDepth 100000
set_option maxHeartbeats 4000000
namespace Wk
open PySem L2
open Esp (En Sts Wd Ph Mem es nn ent pg entAt shS shW shown stepF stepS settle passF MInv FOk ChgOk Chg chk)
theorem DeedsL.congr {H : Hp} {dl : Addr} {ds Ls : List Addr} {n : Nat} {D : Nat → List En} {S S' : Nat → Sts} {B B' : Nat → Bool} (h : DeedsL H dl ds Ls n D S B) (hs : ∀ k, k < n → S k = S' k) (hb : ∀ k, k < n → B k = B' k) : DeedsL H dl ds Ls n D S' B' :=
  ⟨h.dl, h.len, h.llen, h.nd, fun k a L ha hL => by
    have hk : k < n := by rw [← h.len]; exact (List.getElem?_eq_some_iff.mp ha).1
    rw [← hs k hk, ← hb k hk]; exact h.at_ k a L ha hL⟩
theorem nd_inj {ds : List Addr} (nd : ds.Nodup) {i j : Nat} {a : Addr} (hi : ds[i]? = some a) (hj : ds[j]? = some a) : i = j := nd_ix nd hi hj
theorem DeedsL.set {H : Hp} {dl : Addr} {ds Ls : List Addr} {n : Nat} {D : Nat → List En} {S : Nat → Sts} {B : Nat → Bool} (h : DeedsL H dl ds Ls n D S B) {i : Nat} {a L : Addr} (ha : ds[i]? = some a) (hL : Ls[i]? = some L) {sv : V} {s : Sts} {b : Bool}
    (hs : StsV H sv s) (d1 : dl ∉ ds) (d2 : ∀ L ∈ Ls, L ∉ ds) : DeedsL (upd H a (.lst [.int (100 + 2 * i), .ref L, sv, .bl b])) dl ds Ls n D (Esp.up S i s) (Esp.up B i b) := by
  obtain ⟨⟨sv0, h0, _⟩, _⟩ := h.at_ i a L ha hL
  have t : Tups H (upd H a (.lst [.int (100 + 2 * i), .ref L, sv, .bl b])) := Tups.lst h0
  have ham := List.mem_of_getElem? ha
  refine ⟨(upd_ne (fun e => d1 (by rw [e]; exact ham))).trans h.dl, h.len, h.llen, h.nd, fun k a' L' ha' hL' => ?_⟩
  have hLn : L' ≠ a := fun e => d2 L' (List.mem_of_getElem? hL') (by rw [e]; exact ham)
  by_cases e : k = i
  · subst e
    rw [ha] at ha'; cases ha'
    rw [hL] at hL'; cases hL'
    rw [Esp.up_same, Esp.up_same]
    obtain ⟨_, xs, h3, h4, h5⟩ := h.at_ k a L ha hL
    refine ⟨⟨sv, upd_same, hs.mono t⟩, xs, (upd_ne hLn).trans h3, h4, fun j e hj => ?_⟩
    obtain ⟨x, h6, h7⟩ := h5 j e hj
    exact ⟨x, h6, h7.mono t⟩
  · rw [Esp.up_ne e, Esp.up_ne e]
    have na : a' ≠ a := fun z => e (nd_inj h.nd ha' (by rw [z]; exact ha))
    exact (h.at_ k a' L' ha' hL').keep t (fun o ho => (upd_ne na).trans ho) fun o ho => (upd_ne hLn).trans ho
/-- all but the deeds' lists and the list of what is shown stands -/
def FrD (ds : List Addr) (sh : Addr) (H H' : Hp) : Prop := ∀ b o, H b = some o → b ∉ ds → b ≠ sh → H' b = some o
theorem FrD.trans {ds : List Addr} {sh : Addr} {H H1 H2 : Hp} (a : FrD ds sh H H1) (b : FrD ds sh H1 H2) : FrD ds sh H H2 := fun x o h h1 h2 => b x o (a x o h h1 h2) h1 h2
theorem FrD.of {ds : List Addr} {sh : Addr} {H H1 : Hp} (s : Same H H1) : FrD ds sh H H1 := fun x o h _ _ => s x o h
theorem FrD.updD {ds : List Addr} {sh a : Addr} {H : Hp} {o : HO} (h : a ∈ ds) : FrD ds sh H (upd H a o) := fun x o' e h1 _ => by rw [upd_ne (fun z => h1 (by rw [z]; exact h))]; exact e
theorem FrD.updS {ds : List Addr} {sh : Addr} {H : Hp} {o : HO} : FrD ds sh H (upd H sh o) := fun x o' e _ h2 => by rw [upd_ne h2]; exact e
/-- status and fits ahead of turn i -/
def S1 (m m' : Mem) (i k : Nat) : Sts := if k < i then m'.sts k else m.sts k
def sl1 (m : Mem) (g : Chg) (i : Nat) : Nat → Int := match g with
  | .done kc => if kc < i then slf (es m kc) (shown m) else shown m
  | _ => shown m
def B2 (m' : Mem) (fits : Nat → Bool) (i k : Nat) : Bool := if k < i then chk m' fits k else fits k
theorem chg_end {m m' : Mem} {fits : Nat → Bool} {g : Chg} (h : ChgOk m m' fits g) (I : MInv m) {n : Nat} (hn : m.deeds.length ≤ n) (p : Nat) : sl1 m g n p = shown m' p := by
  cases g with
  | none => exact (h.2 p).symm
  | fail k => exact (h.2.2.2.2 p).symm
  | done k =>
    obtain ⟨h1, h2, h3, h4, h5⟩ := h
    unfold sl1
    simp only
    rw [if_pos (by omega)]
    by_cases hp : ∃ e ∈ es m k, e.p = p
    · obtain ⟨e, he, rfl⟩ := hp
      rw [slf_in (I.wf k h1).asc he]; exact (h4 e he).2.symm
    · have hp' : ∀ e ∈ es m k, e.p ≠ p := fun e he q => hp ⟨e, he, q⟩
      rw [slf_out hp']; exact (h5 p hp').symm
/-- what changed, where the status of k is another -/
theorem chg_at {m m' : Mem} {fits : Nat → Bool} {g : Chg} (h : ChgOk m m' fits g) {k : Nat} (hk : m'.sts k ≠ m.sts k) :
    m.sts k = .und ∧ ((g = .fail k ∧ m'.sts k = .fail m'.count ∧ fits k = false) ∨ (g = .done k ∧ m'.sts k = .done m'.count ∧ ∀ e ∈ es m k, shown m e.p = e.o)) := by
  cases g with
  | none => exact absurd (by rw [h.1]) hk
  | fail k' =>
    obtain ⟨h1, h2, h3, h4, h5⟩ := h
    have e : k = k' := by
      refine Decidable.byContradiction fun z => hk ?_
      rw [h4, Esp.up_ne z]
    subst e
    exact ⟨h2, .inl ⟨rfl, by rw [h4, Esp.up_same], h3⟩⟩
  | done k' =>
    obtain ⟨h1, h2, h3, h4, h5⟩ := h
    have e : k = k' := by
      refine Decidable.byContradiction fun z => hk ?_
      rw [h3, Esp.up_ne z]
    subst e
    exact ⟨h2, .inr ⟨rfl, by rw [h3, Esp.up_same], fun e he => (h4 e he).1⟩⟩
theorem chg_not {m m' : Mem} {fits : Nat → Bool} {k : Nat} (h : ChgOk m m' fits (.done k)) : m'.sts k ≠ m.sts k := by
  obtain ⟨h1, h2, h3, h4, h5⟩ := h
  rw [h3, Esp.up_same, h2]; intro z; cases z
section
variable {P : Program} {w : World} {K : PySem.W.Frag} {mg : Str → Option Value} {base : Heap} {c : Cl}
/-! ### _law_decided -/
def spDecided (c : Cl) : Sp := fun vs H Q _ => ∃ (A : MA) (m m' : Mem) (fits : Nat → Bool) (g : Chg) (sh dl : Addr) (ds Ls : List Addr), vs = [.ref A.mem, .ref dl, .ref sh] ∧ MemR c A H m' ∧ DeedsL H dl ds Ls m.deeds.length (es m) m.sts fits ∧
  H sh = some (.lst (shL (shown m))) ∧ ChgOk m m' fits g ∧ m'.deeds = m.deeds ∧ MInv m ∧ MInv m' ∧ SepD A sh dl ds Ls ∧
  ∀ H', MemR c A H' m' → DeedsL H' dl ds Ls m.deeds.length (es m) m'.sts (chk m' fits) → H' sh = some (.lst (shL (shown m'))) → FrD ds sh H H' → Q (.bl true) H'
theorem scDc : FnScope ["_law_memory", "_law_deeds", "_law_shown_here", "_law_deed", "_law_status", "_law_entry", "_law_page"] ["_law_memory", "_law_deeds", "_law_shown_here"] (defScope sDecided) := ⟨rfl, rfl, rfl, by decide +kernel, rfl, by decide +kernel, by decide +kernel⟩
theorem ok_decided {f : Addr} {fd : FuncData} (T : Txt K mg c) (F : Fun K "_law_decided" "_law_decided" sDecided f fd)
    (W1 : MOk P w K mg base c.M "peek" 2 ["self", "cell"] (spPeek c)) (W2 : DOk P w K mg base "_law_shown" 3 ["_law_memory", "_law_page"] (spShown c)) (W3 : DOk P w K mg base "shown_now" 3 ["memory", "page"] (spShown c)) :
    FnOk P w K mg base CX0 4 f fd ["_law_memory", "_law_deeds", "_law_shown_here"] (spDecided c) := by
  obtain ⟨f1, fd1, m1, G1, b1⟩ := W1.ex
  obtain ⟨f2, fd2, g2, k2, G2, b2⟩ := W2.ex
  obtain ⟨f3, fd3, g3, k3, G3, b3⟩ := W3.ex
  refine F.ok scDc (fun vs H Q E h => ?_) (fun cdv A outer s H vs Q E hr h => ?_)
  · obtain ⟨A, m, m', fits, g, sh, dl, ds, Ls, rfl, _⟩ := h
    rfl
  · obtain ⟨A, m, m', fits, g, sh, dl, ds, Ls, rfl, MR, DL, hsh, hchg, hde, I, I', sep, q⟩ := h
    have hr2 : Room 2 _ := hr.mono (by decide)
    obtain ⟨hvs, MC, MD⟩ := MR
    obtain ⟨dm, hm⟩ := MC.mem
    obtain ⟨dlay, hlay⟩ := MC.lay
    obtain ⟨al, hal, hal2⟩ := MC.acc
    have dsL : ∀ a ∈ ds, ∃ xs, H a = some (.lst xs) := fun a ha => by
      obtain ⟨k, hk, e⟩ := List.getElem_of_mem ha
      have hk' : k < Ls.length := by rw [DL.llen, ← DL.len]; exact hk
      obtain ⟨⟨sv, h1, _⟩, _⟩ := DL.at_ k a Ls[k] (by rw [List.getElem?_eq_getElem hk, e]) (List.getElem?_eq_getElem hk')
      exact ⟨_, h1⟩
    have tupF : ∀ H1, FrD ds sh H H1 → Tups H H1 := fun H1 fr b xs h => fr b _ h (fun hb => by
      obtain ⟨ys, hy⟩ := dsL b hb
      rw [h] at hy; cases hy) (ne_of h hsh (by intro z; cases z))
    have memF : ∀ H1, FrD ds sh H H1 → MemC c A H1 m'.count hvs := fun H1 fr => MC.off fun b o h hb => by
      refine fr b o h (fun hb' => ?_) (fun e => ?_)
      · obtain ⟨ys, hy⟩ := dsL b hb'
        rcases hb with rfl | rfl | rfl | rfl
        · rw [hm] at hy; cases hy
        · rw [hlay] at hy; cases hy
        · exact sep.accds hb'
        · exact sep.heldds hb'
      · subst e
        rcases hb with e | e | e | e
        · rw [e, hm] at hsh; cases hsh
        · rw [e, hlay] at hsh; cases hsh
        · exact sep.accsh e.symm
        · exact sep.heldsh e.symm
    have Lds : ∀ L ∈ Ls, L ∉ ds := fun L hL => (sep.ls L hL).1
    have n_eq : m'.deeds.length = m.deeds.length := by rw [hde]
    refine ⟨_, pss_cons (ps_for PassesOwn.never rfl (pi_list (pv 1)) (pg_name (i := 3) scDc.nd rfl (Or.inl rfl))
        (pss_cons (ps_set (i := 4) scDc.nd rfl (Or.inl rfl) (pe_meth (pv 0) T.M m1 G1 hr2 b1 .nil pass0 (pa_cons (pe_op op_add (pe_ix ix_list (pv 3) pe_int (fun _ _ => rfl)) pe_int) pa_nil)))
        (pss_one (ps_if (pt_cmpR (op_neD hr.units) (pv 4) (pe_ix ix_list (pv 3) pe_int (fun _ _ => rfl)) (nomark _))
          (pss_cons (ps_if (PW.pt (pw_or (pt_cmpR (op_neD hr.units) (pe_ix ix_list (pv 3) pe_int (fun _ _ => rfl)) pe_int (nomark _))
              (pw_or (pt_not (pt_val (pe_callB call_isi (by rfl) T.isinstance (by decide +kernel) (pa_cons (pv 4) (pa_cons (pe_bltn (v := .ty "tuple") (by rfl) T.tuple (by decide +kernel) rfl) pa_nil)))))
              (pw_or (pt_cmpR op_ne (pe_callB call_len_seq (by rfl) T.len PySem.boot_len (pa_cons (pv 4) pa_nil)) pe_int (nomark _))
              (pw_or1 (pt_cmpR op_ne (pe_ix ix_tup (pv 4) pe_int (fun _ _ => rfl)) (pe_fld (pv 0) rfl) (nomark _))))))) (pss_one (ps_ret pe_bl)) pss_nil)
          (pss_cons (ps_asg (pv 4) (pg_sub (pv 3) pe_int set_list))
          (pss_one (ps_if (pt_cmpR op_eq (pe_ix ix_tup (pv 4) pe_int (fun _ _ => rfl)) pe_str (nomark _))
            (pss_one (ps_for PassesOwn.never rfl (pi_list (pe_ix ix_list (pv 3) pe_int (fun _ _ => rfl))) (pg_name (i := 5) scDc.nd rfl (Or.inl rfl))
              (pss_cons (ps_if (pt_cmpR op_ne (pe_ix ix_list (pv 2) (pe_op op_sub (pe_ix ix_tup (pv 5) pe_int (fun _ _ => rfl)) pe_int) (fun _ _ => rfl)) (pe_ix ix_tup (pv 5) pe_int (fun _ _ => rfl)) (nomark _)) (pss_one (ps_ret pe_bl)) pss_nil)
              (pss_one (ps_asg (pe_ix ix_tup (pv 5) pe_int (fun _ _ => rfl)) (pg_sub (pv 2) (pe_op op_sub (pe_ix ix_tup (pv 5) pe_int (fun _ _ => rfl)) pe_int) set_list))))))
            (pss_one (ps_if (PW.pt (pw_or (pt_cmpR op_ne (pe_ix ix_tup (pv 4) pe_int (fun _ _ => rfl)) pe_str (nomark _)) (pw_or1 (pt_val (pe_ix ix_list (pv 3) pe_int (fun _ _ => rfl)))))) (pss_one (ps_ret pe_bl)) pss_nil))))))
          pss_nil))))
      (pss_cons (ps_for PassesOwn.never rfl (pi_list (pv 1)) (pg_name (i := 3) scDc.nd rfl (Or.inl rfl))
        (pss_one (ps_for PassesOwn.never rfl (pi_list (pe_ix ix_list (pv 3) pe_int (fun _ _ => rfl))) (pg_name (i := 5) scDc.nd rfl (Or.inl rfl))
          (pss_one (ps_if (PW.pt (pw_and (pt_cmpR (op_eqD hr.units) (pe_ix ix_list (pv 3) pe_int (fun _ _ => rfl)) pe_int (nomark _))
              (pw_and1 (pt_cmpR op_ne (pe_ix ix_list (pv 2) (pe_op op_sub (pe_ix ix_tup (pv 5) pe_int (fun _ _ => rfl)) pe_int) (fun _ _ => rfl)) (pe_ix ix_tup (pv 5) pe_int (fun _ _ => rfl)) (nomark _)))))
            (pss_one (ps_asg pe_bl (pg_sub (pv 3) pe_int set_list))) pss_nil)))))
      (pss_cons (ps_for PassesOwn.never rfl (pi_range1 (by rfl) T.range (pa_cons pe_int pa_nil)) (pg_name (i := 6) scDc.nd rfl (Or.inl rfl))
        (pss_one (ps_if (PW.pt (pw_or (pt_cmpR op_ne (pe_call G2 hr (by rfl) g2 k2 b2 .nil pass0 (pa_cons (pv 0) (pa_cons (pv 6) pa_nil))) (pe_ix ix_list (pv 2) (pv 6) (fun _ _ => rfl)) (nomark _))
          (pw_or1 (pt_cmpR op_ne (pe_call G3 hr (by rfl) g3 k3 b3 .nil pass0 (pa_cons (pv 0) (pa_cons (pv 6) pa_nil))) (pe_ix ix_list (pv 2) (pv 6) (fun _ _ => rfl)) (nomark _))))) (pss_one (ps_ret pe_bl)) pss_nil)))
      (pss_one (ps_ret pe_bl)))), ?_⟩
    refine ⟨_, rfl, dl, rfl, ⟨_, SqL.of DL.dl⟩, for_list (K := K) (a := dl) (xs := ds.map V.ref) (fun i σ H1 => ∃ v3 v4 v5 v6 : Option V, σ = [some (.ref A.mem), some (.ref dl), some (.ref sh), v3, v4, v5, v6] ∧
      DeedsL H1 dl ds Ls m.deeds.length (es m) (S1 m m' i) fits ∧ H1 sh = some (.lst (shL (sl1 m g i))) ∧ FrD ds sh H H1) ?_ (fun i σ H1 _ ⟨_, _, _, _, _, D1, _⟩ => SqL.of D1.dl) ?_ ?_⟩
    · refine ⟨_, _, _, _, rfl, DL.congr (fun k _ => ?_) (fun _ _ => rfl), ?_, FrD.of (Same.refl H)⟩
      · unfold S1; rw [if_neg (Nat.not_lt_zero k)]
      · rw [hsh]
        have : sl1 m g 0 = shown m := by unfold sl1; cases g <;> simp
        rw [this]
    · rintro i x σ H1 hi ⟨v3, v4, v5, v6, rfl, D1, hsh1, fr1⟩
      obtain ⟨a, ha, rfl⟩ : ∃ a, ds[i]? = some a ∧ x = .ref a := by
        rw [List.getElem?_map] at hi
        cases e : ds[i]? with
        | none => rw [e] at hi; cases hi
        | some a => rw [e] at hi; exact ⟨a, rfl, (Option.some.inj hi).symm⟩
      have hin : i < m.deeds.length := by rw [← D1.len]; exact (List.getElem?_eq_some_iff.mp ha).1
      have hL : Ls[i]? = some (Ls[i]'(by rw [D1.llen]; exact hin)) := List.getElem?_eq_getElem _
      generalize Ls[i]'(by rw [D1.llen]; exact hin) = L at hL
      have ham := List.mem_of_getElem? ha
      have hLm := List.mem_of_getElem? hL
      obtain ⟨⟨sv, hA, hsv⟩, _⟩ := D1.at_ i a L ha hL
      obtain ⟨_, xs, hLx0, hxl, hxe⟩ := DL.at_ i a L ha hL
      have hLa : L ≠ a := fun e => Lds L hLm (by rw [e]; exact ham)
      have hLsh : L ≠ sh := (sep.ls L hLm).2
      have atL : ∀ H2, FrD ds sh H H2 → H2 L = some (.lst xs) := fun H2 fr => fr L _ hLx0 (Lds L hLm) hLsh
      have entL : ∀ H2, FrD ds sh H H2 → ∀ (j : Nat) (e : En), (es m i)[j]? = some e → ∃ b, xs[j]? = some (.ref b) ∧ H2 b = some (.tup [.int (5 + e.p), .int e.o, .int e.n]) := fun H2 fr j e hj => by
        obtain ⟨x, h1, b, rfl, h2⟩ := hxe j e hj
        exact ⟨b, h1, tupF H2 fr _ _ h2⟩
      have eS : S1 m m' i i = m.sts i := by unfold S1; rw [if_neg (Nat.lt_irrefl i)]
      rw [eS] at hsv
      have MC1 := memF H1 fr1
      obtain ⟨dm1, hm1⟩ := MC1.mem
      obtain ⟨y, hy, hys⟩ := MD.s i (by rw [n_eq]; exact hin)
      have hys1 := hys.mono (tupF H1 fr1)
      refine ⟨_, rfl, A.mem, dm1, _, rfl, hm1, mfs_no (by decide +kernel), _, rfl, a, _, _, _, rfl, rfl, SqL.of hA, atI_nat (j := 0) rfl, _, _, rfl, rfl, A, m'.count, hvs, 101 + 2 * i, y, (by show [V.ref A.mem, V.int (100 + 2 * (i : Int) + 1)] = [V.ref A.mem, V.int ((101 + 2 * i : Nat) : Int)]; congr 2; congr 1; omega), MC1, hy, ?_⟩
      obtain ⟨d1, d2, q1, q2, q3, q4, q5⟩ := eq_sts (K := K) hys1 hsv
      refine ⟨_, rfl, _, rfl, a, _, _, _, rfl, rfl, SqL.of hA, atI_nat (j := 2) rfl, d1, d2, q1, q2, q3, q4, _, rfl, ?_⟩
      by_cases hsame : m'.sts i = m.sts i
      · refine iF (by rw [q5, decide_eq_true hsame]; rfl) ?_
        refine ⟨_, _, _, _, rfl, D1.congr (fun k _ => ?_) (fun _ _ => rfl), ?_, fr1⟩
        · unfold S1
          by_cases e : k = i
          · subst e; rw [if_neg (Nat.lt_irrefl k), if_pos (Nat.lt_succ_self k), hsame]
          · by_cases hk : k < i
            · rw [if_pos hk, if_pos (by omega)]
            · rw [if_neg hk, if_neg (by omega)]
        · rw [hsh1]
          have : sl1 m g i = sl1 m g (i + 1) := by
            cases g with
            | none => rfl
            | fail k => rfl
            | done k =>
              have hk : k ≠ i := by rintro rfl; exact chg_not hchg hsame
              unfold sl1
              by_cases h : k < i
              · simp only [if_pos h, if_pos (show k < i + 1 by omega)]
              · simp only [if_neg h, if_neg (show ¬ k < i + 1 by omega)]
          rw [this]
      · refine iT (by rw [q5, decide_eq_false hsame]; rfl) ?_
        obtain ⟨hu, hcase⟩ := chg_at hchg hsame
        rw [hu] at hsv
        cases (show sv = .int 0 from hsv)
        have e3 : ∀ z, ([V.int (100 + 2 * (i : Int)), V.ref L, V.int 0, V.bl (fits i)] : List V).set 2 z = [V.int (100 + 2 * (i : Int)), V.ref L, z, V.bl (fits i)] := fun z => rfl
        have eU : Esp.up (fun k => fits k) i (fits i) = fits := by
          funext k; by_cases e : k = i
          · subst e; exact Esp.up_same
          · exact Esp.up_ne e
        have eS1 : ∀ k, Esp.up (S1 m m' i) i (m'.sts i) k = S1 m m' (i + 1) k := fun k => by
          unfold S1
          by_cases e : k = i
          · subst e; rw [Esp.up_same, if_pos (Nat.lt_succ_self k)]
          · rw [Esp.up_ne e]
            by_cases hk : k < i
            · rw [if_pos hk, if_pos (by omega)]
            · rw [if_neg hk, if_neg (by omega)]
        have nas : a ≠ sh := fun e => sep.shds (by rw [← e]; exact ham)
        rcases hcase with ⟨rfl, hst, hfit⟩ | ⟨rfl, hst, hold⟩
        · rw [hst] at hys1
          obtain ⟨r, rfl, hr'⟩ := id hys1
          have nra : r ≠ a := ne_of hr' hA (by intro z; cases z)
          refine ⟨_, rfl, a, _, _, _, rfl, rfl, SqL.of hA, atI_nat (j := 2) rfl, .int 0, .int 0, .int 0, .int 0, rfl, rfl, _, rfl, iF (by simp [PyData.eqv]) ?_⟩
          refine ⟨_, rfl, _, _, _, _, true, rfl, .ty "tuple", .base (.tup hr'), kit_ty (by decide +kernel), _, rfl, iF rfl ?_⟩
          refine ⟨_, rfl, r, _, rfl, .inr (SqT.of hr'), rfl, _, rfl, iF (by simp) ?_⟩
          refine ⟨_, rfl, r, _, _, _, rfl, rfl, SqT.of hr', atI_nat (j := 1) rfl, _, rfl, A.mem, c.M, dm1, _, _, rfl, hm1, T.M, T.mCount, lk_at mfs_nd (i := 1) rfl, rfl, _, rfl, iF (by simp) ?_⟩
          refine ⟨_, rfl, _, rfl, a, _, 2, 2, rfl, rfl, hA, ixN_nat (n := 4) (k := 2) (by decide), ?_⟩
          rw [e3]
          have hr2' : upd H1 a (.lst [V.int (100 + 2 * (i : Int)), V.ref L, .ref r, V.bl (fits i)]) r = some (.tup [.str "failed", .int m'.count]) := (upd_ne nra).trans hr'
          refine ⟨_, rfl, r, _, _, _, rfl, rfl, SqT.of hr2', atI_nat (j := 0) rfl, rfl, _, rfl, iF (by decide +kernel) ?_⟩
          refine ⟨_, rfl, r, _, _, _, rfl, rfl, SqT.of hr2', atI_nat (j := 0) rfl, rfl, _, rfl, iF (by decide +kernel) ?_⟩
          refine ⟨_, rfl, a, _, _, _, rfl, rfl, SqL.of upd_same, atI_nat (j := 3) rfl, _, rfl, iF hfit ?_⟩
          have D2 := D1.set (b := fits i) ha hL hys1 sep.dlds Lds
          refine ⟨_, _, _, _, rfl, D2.congr (fun k _ => ?_) (fun k _ => congrFun eU k), (upd_ne nas.symm).trans ?_, fr1.trans (FrD.updD ham)⟩
          · rw [← hst]; exact eS1 k
          · exact hsh1
        · rw [hst] at hys1
          obtain ⟨r, rfl, hr'⟩ := id hys1
          have nra : r ≠ a := ne_of hr' hA (by intro z; cases z)
          refine ⟨_, rfl, a, _, _, _, rfl, rfl, SqL.of hA, atI_nat (j := 2) rfl, .int 0, .int 0, .int 0, .int 0, rfl, rfl, _, rfl, iF (by simp [PyData.eqv]) ?_⟩
          refine ⟨_, rfl, _, _, _, _, true, rfl, .ty "tuple", .base (.tup hr'), kit_ty (by decide +kernel), _, rfl, iF rfl ?_⟩
          refine ⟨_, rfl, r, _, rfl, .inr (SqT.of hr'), rfl, _, rfl, iF (by simp) ?_⟩
          refine ⟨_, rfl, r, _, _, _, rfl, rfl, SqT.of hr', atI_nat (j := 1) rfl, _, rfl, A.mem, c.M, dm1, _, _, rfl, hm1, T.M, T.mCount, lk_at mfs_nd (i := 1) rfl, rfl, _, rfl, iF (by simp) ?_⟩
          refine ⟨_, rfl, _, rfl, a, _, 2, 2, rfl, rfl, hA, ixN_nat (n := 4) (k := 2) (by decide), ?_⟩
          rw [e3]
          have hr2' : upd H1 a (.lst [V.int (100 + 2 * (i : Int)), V.ref L, .ref r, V.bl (fits i)]) r = some (.tup [.str "done", .int m'.count]) := (upd_ne nra).trans hr'
          refine ⟨_, rfl, r, _, _, _, rfl, rfl, SqT.of hr2', atI_nat (j := 0) rfl, rfl, _, rfl, iT (by decide +kernel) ?_⟩
          have D2 := (D1.set (b := fits i) ha hL hys1 sep.dlds Lds).congr (S' := S1 m m' (i + 1)) (B' := fits) (fun k _ => by rw [← hst]; exact eS1 k) (fun k _ => congrFun eU k)
          have wf := I.wf i hin
          have frA := fr1.trans (FrD.updD (o := .lst [V.int (100 + 2 * (i : Int)), V.ref L, .ref r, V.bl (fits i)]) ham)
          refine ⟨_, rfl, a, _, _, _, rfl, rfl, SqL.of upd_same, atI_nat (j := 1) rfl, L, rfl, ⟨_, SqL.of (atL _ frA)⟩, for_list (K := K) (a := L) (xs := xs) (fun j σ H2 => ∃ v5 v6 : Option V, σ = [some (.ref A.mem), some (.ref dl), some (.ref sh), some (.ref a), some (.ref r), v5, v6] ∧
            DeedsL H2 dl ds Ls m.deeds.length (es m) (S1 m m' (i + 1)) fits ∧ H2 sh = some (.lst (shL (slf ((es m i).take j) (shown m)))) ∧ FrD ds sh H H2) ?_ (fun j σ H2 _ ⟨_, _, _, _, _, fr⟩ => SqL.of (atL H2 fr)) ?_ ?_⟩
          · refine ⟨_, _, rfl, D2, (upd_ne nas.symm).trans ?_, frA⟩
            rw [hsh1]
            have : sl1 m (.done i) i = slf ((es m i).take 0) (shown m) := by unfold sl1; simp only [Nat.lt_irrefl, if_false]; rfl
            rw [this]
          · rintro j x σ H2 hj ⟨v5, v6, rfl, D3, hsh3, fr3⟩
            have hjl : j < (es m i).length := by rw [← hxl]; exact (List.getElem?_eq_some_iff.mp hj).1
            obtain ⟨b, hb, hbt⟩ := entL H2 fr3 j _ (List.getElem?_eq_getElem hjl)
            rw [hb] at hj
            cases hj
            have hem : (es m i)[j] ∈ es m i := List.getElem_mem hjl
            have h6 := (wf.ent _ hem).1
            have e5 : (5 + (((es m i)[j]).p : Int)) - 5 = ((((es m i)[j]).p : Nat) : Int) := by omega
            have old : slf ((es m i).take j) (shown m) ((es m i)[j]).p = ((es m i)[j]).o := by
              rw [slf_out, hold _ hem]
              intro e' he'
              obtain ⟨j', hj', rfl⟩ := List.getElem_of_mem he'
              rw [List.length_take] at hj'
              rw [List.getElem_take]
              have := List.pairwise_iff_getElem.mp wf.asc j' j (by omega) hjl (by omega)
              omega
            refine ⟨_, rfl, _, rfl, b, _, _, _, rfl, rfl, SqT.of hbt, atI_nat (j := 0) rfl, _, _, rfl, rfl, sh, _, _, _, rfl, rfl, SqL.of hsh3, (by rw [e5]; exact atI_nat (shL_get _ h6)), _, rfl, b, _, _, _, rfl, rfl, SqT.of hbt, atI_nat (j := 1) rfl, rfl, _, rfl, iF (by rw [old]; simp) ?_⟩
            refine ⟨_, rfl, b, _, _, _, rfl, rfl, SqT.of hbt, atI_nat (j := 2) rfl, _, rfl, _, rfl, b, _, _, _, rfl, rfl, SqT.of hbt, atI_nat (j := 0) rfl, _, _, rfl, rfl, sh, _, _, ((es m i)[j]).p, rfl, rfl, hsh3, (by rw [e5]; exact ixN_nat (by rw [shL_len]; exact h6)), ?_⟩
            have htk : (es m i).take (j + 1) = (es m i).take j ++ [(es m i)[j]] := by rw [List.take_add_one, List.getElem?_eq_getElem hjl]; rfl
            rw [shL_set _ h6, ← slf_snoc, ← htk]
            refine ⟨_, _, rfl, D3.keep (Tups.lst hsh3) (fun x o hx h => ?_), upd_same, fr3.trans FrD.updS⟩
            refine (upd_ne ?_).trans h
            rcases hx with rfl | hx | hx
            · exact sep.dlsh
            · rintro rfl; exact sep.shds hx
            · exact (sep.ls x hx).2
          · rintro σ H2 ⟨v5, v6, rfl, D3, hsh3, fr3⟩
            refine ⟨_, _, _, _, rfl, D3, ?_, fr3⟩
            rw [hsh3, hxl, List.take_length]
            have : sl1 m (.done i) (i + 1) = slf (es m i) (shown m) := by unfold sl1; simp only [Nat.lt_succ_self, if_true]
            rw [this]
    · rintro σ H1 ⟨v3, v4, v5, v6, rfl, D1, hsh1, fr1⟩
      -- the second loop
      have eC : ∀ k, k < m.deeds.length → S1 m m' (ds.map V.ref).length k = m'.sts k := fun k hk => by
        unfold S1; rw [List.length_map, DL.len, if_pos hk]
      have D1' := D1.congr eC (B' := B2 m' fits 0) (fun k _ => by unfold B2; rw [if_neg (Nat.not_lt_zero k)])
      have hsh1' : H1 sh = some (.lst (shL (shown m'))) := by
        rw [hsh1]
        have : shL (sl1 m g (ds.map V.ref).length) = shL (shown m') := shL_congr fun p _ => chg_end hchg I (by rw [List.length_map, DL.len]; exact Nat.le_refl _) p
        rw [this]
      refine ⟨_, rfl, dl, rfl, ⟨_, SqL.of D1.dl⟩, for_list (K := K) (a := dl) (xs := ds.map V.ref) (fun i σ H2 => ∃ v3 v4 v5 v6 : Option V, σ = [some (.ref A.mem), some (.ref dl), some (.ref sh), v3, v4, v5, v6] ∧
        DeedsL H2 dl ds Ls m.deeds.length (es m) m'.sts (B2 m' fits i) ∧ H2 sh = some (.lst (shL (shown m'))) ∧ FrD ds sh H H2) ⟨_, _, _, _, rfl, D1', hsh1', fr1⟩ (fun i σ H2 _ ⟨_, _, _, _, _, D2, _⟩ => SqL.of D2.dl) ?_ ?_⟩
      · rintro i x σ H2 hi ⟨v3, v4, v5, v6, rfl, D2, hsh2, fr2⟩
        obtain ⟨a, ha, rfl⟩ : ∃ a, ds[i]? = some a ∧ x = .ref a := by
          rw [List.getElem?_map] at hi
          cases e : ds[i]? with
          | none => rw [e] at hi; cases hi
          | some a => rw [e] at hi; exact ⟨a, rfl, (Option.some.inj hi).symm⟩
        have hin : i < m.deeds.length := by rw [← D2.len]; exact (List.getElem?_eq_some_iff.mp ha).1
        have hL : Ls[i]? = some (Ls[i]'(by rw [D2.llen]; exact hin)) := List.getElem?_eq_getElem _
        generalize Ls[i]'(by rw [D2.llen]; exact hin) = L at hL
        have ham := List.mem_of_getElem? ha
        have hLm := List.mem_of_getElem? hL
        obtain ⟨_, xs, hLx0, hxl, hxe⟩ := DL.at_ i a L ha hL
        have nas : a ≠ sh := fun e => sep.shds (by rw [← e]; exact ham)
        have atL : ∀ H2, FrD ds sh H H2 → H2 L = some (.lst xs) := fun H2 fr => fr L _ hLx0 (Lds L hLm) (sep.ls L hLm).2
        have entL : ∀ H2, FrD ds sh H H2 → ∀ (j : Nat) (e : En), (es m i)[j]? = some e → ∃ b, xs[j]? = some (.ref b) ∧ H2 b = some (.tup [.int (5 + e.p), .int e.o, .int e.n]) := fun H2 fr j e hj => by
          obtain ⟨x, h1, b, rfl, h2⟩ := hxe j e hj
          exact ⟨b, h1, tupF H2 fr _ _ h2⟩
        have wf := I.wf i hin
        obtain ⟨⟨sv, hA, hsv⟩, _⟩ := D2.at_ i a L ha hL
        let bj : Nat → Bool := fun j => fits i && !(decide (m'.sts i = .und) && ((es m i).take j).any (fun e => decide (shown m' e.p ≠ e.o)))
        have eB0 : ∀ k, k < m.deeds.length → B2 m' fits i k = Esp.up (B2 m' fits i) i (bj 0) k := fun k _ => by
          by_cases e : k = i
          · subst e; rw [Esp.up_same]
            show (if k < k then _ else _) = (fits k && !(decide (m'.sts k = .und) && false))
            rw [if_neg (Nat.lt_irrefl k)]; simp
          · rw [Esp.up_ne e]
        have eB1 : ∀ k, k < m.deeds.length → Esp.up (B2 m' fits i) i (bj (es m i).length) k = B2 m' fits (i + 1) k := fun k _ => by
          have ees : es m' i = es m i := by unfold Esp.es; rw [hde]
          by_cases e : k = i
          · subst e; rw [Esp.up_same]
            show (fits k && !(decide (m'.sts k = .und) && ((es m k).take (es m k).length).any _)) = (if k < k + 1 then chk m' fits k else fits k)
            rw [if_pos (Nat.lt_succ_self k), List.take_length]
            unfold Esp.chk
            rw [ees]
          · rw [Esp.up_ne e]
            unfold B2
            by_cases hk : k < i
            · rw [if_pos hk, if_pos (by omega)]
            · rw [if_neg hk, if_neg (by omega)]
        refine ⟨_, rfl, a, _, _, _, rfl, rfl, SqL.of hA, atI_nat (j := 1) rfl, L, rfl, ⟨_, SqL.of (atL _ fr2)⟩, for_list (K := K) (a := L) (xs := xs) (fun j σ H3 => ∃ v4 v5 v6 : Option V, σ = [some (.ref A.mem), some (.ref dl), some (.ref sh), some (.ref a), v4, v5, v6] ∧
          DeedsL H3 dl ds Ls m.deeds.length (es m) m'.sts (Esp.up (B2 m' fits i) i (bj j)) ∧ H3 sh = some (.lst (shL (shown m'))) ∧ FrD ds sh H H3) ?_ (fun j σ H3 _ ⟨_, _, _, _, _, _, fr⟩ => SqL.of (atL H3 fr)) ?_ ?_⟩
        · exact ⟨_, _, _, rfl, D2.congr (fun _ _ => rfl) eB0, hsh2, fr2⟩
        · rintro j x σ H3 hj ⟨v4, v5, v6, rfl, D3, hsh3, fr3⟩
          have hjl : j < (es m i).length := by rw [← hxl]; exact (List.getElem?_eq_some_iff.mp hj).1
          obtain ⟨b, hb, hbt⟩ := entL H3 fr3 j _ (List.getElem?_eq_getElem hjl)
          rw [hb] at hj
          cases hj
          have hem : (es m i)[j] ∈ es m i := List.getElem_mem hjl
          have h6 := (wf.ent _ hem).1
          have e5 : (5 + (((es m i)[j]).p : Int)) - 5 = ((((es m i)[j]).p : Nat) : Int) := by omega
          have htk : (es m i).take (j + 1) = (es m i).take j ++ [(es m i)[j]] := by rw [List.take_add_one, List.getElem?_eq_getElem hjl]; rfl
          obtain ⟨⟨sv3, hA3, hsv3⟩, _⟩ := D3.at_ i a L ha hL
          rw [Esp.up_same] at hA3
          obtain ⟨d1, d2, q1, q2, q3, q4, q5⟩ := eq_sts0 (K := K) hsv3
          have ebj : bj (j + 1) = (bj j && !(decide (m'.sts i = .und) && decide (shown m' ((es m i)[j]).p ≠ ((es m i)[j]).o))) := by
            show (fits i && !(decide (m'.sts i = .und) && ((es m i).take (j + 1)).any _)) = ((fits i && !(decide (m'.sts i = .und) && ((es m i).take j).any _)) && _)
            rw [htk, List.any_append]
            simp only [List.any_cons, List.any_nil, Bool.or_false]
            cases fits i <;> cases (decide (m'.sts i = .und)) <;> simp
          have same : bj (j + 1) = bj j → ∃ v4' v5' v6' : Option V, [some (.ref A.mem), some (.ref dl), some (.ref sh), some (.ref a), v4, some (.ref b), v6] = [some (.ref A.mem), some (.ref dl), some (.ref sh), some (.ref a), v4', v5', v6'] ∧
              DeedsL H3 dl ds Ls m.deeds.length (es m) m'.sts (Esp.up (B2 m' fits i) i (bj (j + 1))) ∧ H3 sh = some (.lst (shL (shown m'))) ∧ FrD ds sh H H3 := fun e => ⟨_, _, _, rfl, by rw [e]; exact D3, hsh3, fr3⟩
          refine ⟨_, rfl, a, _, _, _, rfl, rfl, SqL.of hA3, atI_nat (j := 2) rfl, d1, d2, q1, q2, q3, q4, _, rfl, ?_⟩
          by_cases hu : m'.sts i = .und
          · refine iT (q5.trans (decide_eq_true hu)) ?_
            refine ⟨_, rfl, _, rfl, b, _, _, _, rfl, rfl, SqT.of hbt, atI_nat (j := 0) rfl, _, _, rfl, rfl, sh, _, _, _, rfl, rfl, SqL.of hsh3, (by rw [e5]; exact atI_nat (shL_get _ h6)), _, rfl, b, _, _, _, rfl, rfl, SqT.of hbt, atI_nat (j := 1) rfl, rfl, _, rfl, ?_⟩
            by_cases hne : shown m' ((es m i)[j]).p = ((es m i)[j]).o
            · refine iF (by rw [hne]; simp) ?_
              exact same (by rw [ebj, hne]; simp)
            · refine iT (by simp [hne]) ?_
              refine ⟨_, rfl, a, _, 3, 3, rfl, rfl, hA3, ixN_nat (n := 4) (k := 3) (by decide), ?_⟩
              have D4 := D3.set (b := false) ha hL hsv3 sep.dlds Lds
              have ef : bj (j + 1) = false := by rw [ebj, decide_eq_true hu, decide_eq_true hne]; simp
              refine ⟨_, _, _, rfl, D4.congr (fun k _ => ?_) (fun k _ => ?_), (upd_ne nas.symm).trans hsh3, fr3.trans (FrD.updD ham)⟩
              · by_cases e : k = i
                · subst e; exact Esp.up_same
                · exact Esp.up_ne e
              · by_cases e : k = i
                · subst e; rw [Esp.up_same, Esp.up_same, ef]
                · rw [Esp.up_ne e, Esp.up_ne e, Esp.up_ne e]
          · refine iF (q5.trans (decide_eq_false hu)) (iF rfl ?_)
            exact same (by rw [ebj, decide_eq_false hu]; simp)
        · rintro σ H3 ⟨v4, v5, v6, rfl, D3, hsh3, fr3⟩
          rw [hxl] at D3
          exact ⟨_, _, _, _, rfl, D3.congr (fun _ _ => rfl) eB1, hsh3, fr3⟩
      · rintro σ H2 ⟨v3, v4, v5, v6, rfl, D2, hsh2, fr2⟩
        have D2' := D2.congr (S' := m'.sts) (B' := chk m' fits) (fun _ _ => rfl) (fun k hk => by unfold B2; rw [List.length_map, DL.len, if_pos hk])
        have own : ∀ p k, m'.word p = .mark k → k < m'.deeds.length := fun p k h => (I'.own p k h).1
        have MR2 : ∀ H3, Same H2 H3 → MemR c A H3 m' := fun H3 s3 => ⟨hvs, (memF H2 fr2).same s3, (MD.mono (tupF H2 fr2)).mono (Same.tups s3)⟩
        refine ⟨6, rfl, by decide, by decide, for_range (lo := 0) (n := 6) (fun i σ H3 => ∃ v3 v4 v5 v6 : Option V, σ = [some (.ref A.mem), some (.ref dl), some (.ref sh), v3, v4, v5, v6] ∧ Same H2 H3) ⟨_, _, _, _, rfl, Same.refl H2⟩ ?_ ?_⟩
        · rintro p σ H3 hp ⟨v3, v4, v5, v6, rfl, s3⟩
          have e0 : (0 : Int) + (p : Int) = ((p : Nat) : Int) := by omega
          refine ⟨_, rfl, _, rfl, A, m', p, (by rw [e0]; rfl), MR2 H3 s3, own, hp, fun H4 s4 => ?_⟩
          have s24 := s3.trans s4
          refine ⟨_, rfl, _, rfl, sh, _, _, _, rfl, rfl, SqL.of (s24 _ _ hsh2), (by rw [e0]; exact atI_nat (shL_get _ hp)), rfl, _, rfl, iF (by simp) ?_⟩
          refine ⟨_, rfl, _, rfl, A, m', p, (by rw [e0]; rfl), MR2 H4 s24, own, hp, fun H5 s5 => ?_⟩
          have s25 := s24.trans s5
          refine ⟨_, rfl, _, rfl, sh, _, _, _, rfl, rfl, SqL.of (s25 _ _ hsh2), (by rw [e0]; exact atI_nat (shL_get _ hp)), rfl, _, rfl, iF (by simp) ?_⟩
          exact ⟨_, _, _, _, rfl, s25⟩
        · rintro σ H3 ⟨v3, v4, v5, v6, rfl, s3⟩
          exact q H3 (MR2 H3 s3) (D2'.keep (Same.tups s3) fun b o _ => s3 b o) (s3 _ _ hsh2) (fr2.trans (FrD.of s3))
end
end Wk
set_option Elab.async false
set_option linter.all false
set_option maxRecDepth 100000
set_option maxHeartbeats 4000000
namespace Wk
open PySem L2
open Esp (En Sts Wd Ph Mem es nn ent pg entAt shS shW shown stepF stepS settle passF MInv FOk ChgOk Chg chk G GInv Th)
/-! ### the law's whole state on the heap -/
structure Zs where
  A : MA
  sh : Addr
  dl : Addr
  st : Addr
  dg : Addr
  tp : Addr
  ts : List Int
structure TAt where
  S : Addr
  ml : Addr
  as : List Addr
  rv : V
def stV (th : Nat → Option Th) (TA : Nat → TAt) (t : Nat) : V := match th t with
  | none => .non
  | some _ => .ref (TA t).S
def rgL (n : Nat) (f : Nat → V) : List V := (List.range n).map f
theorem rgL_get {n : Nat} (f : Nat → V) {p : Nat} (h : p < n) : (rgL n f)[p]? = some (f p) := by
  unfold rgL
  rw [List.getElem?_map, List.getElem?_range h]; rfl
theorem rgL_len (n : Nat) (f : Nat → V) : (rgL n f).length = n := by unfold rgL; simp
theorem rgL_set {n : Nat} (f : Nat → V) {p : Nat} (h : p < n) (v : V) : (rgL n f).set p v = rgL n (Esp.up f p v) := by
  refine List.ext_getElem? fun j => ?_
  by_cases e : j = p
  · subst e
    rw [List.getElem?_set_self (by rw [rgL_len]; exact h), rgL_get _ h, Esp.up_same]
  · rw [List.getElem?_set_ne (Ne.symm e)]
    by_cases hj : j < n
    · rw [rgL_get _ hj, rgL_get _ hj, Esp.up_ne e]
    · rw [List.getElem?_eq_none (by rw [rgL_len]; omega), List.getElem?_eq_none (by rw [rgL_len]; omega)]
theorem rgL_congr {n : Nat} {f g : Nat → V} (h : ∀ p, p < n → f p = g p) : rgL n f = rgL n g := by
  unfold rgL
  exact List.map_congr_left fun p hp => h p (List.mem_range.mp hp)
/-- one thread -/
structure ThA (c : Cl) (m : Mem) (H : Hp) (ρ : Addr → Nat) (t : Nat) (x : Th) (y : TAt) : Prop where
  stk : StkA c m H y.S y.ml y.as x.fs y.rv
  val : x.fs = [] → StsV H y.rv (m.sts x.root)
  cS : ρ y.S = 10 + t
  cm : ρ y.ml = 20 + t
  ca : ∀ a ∈ y.as, ρ a = 30 + t
structure Cols (Z : Zs) (ρ : Addr → Nat) (ds Ls : List Addr) : Prop where
  mem : ρ Z.A.mem = 40
  lay : ρ Z.A.lay = 41
  acc : ρ Z.A.acc = 1
  held : ρ Z.A.held = 2
  sh : ρ Z.sh = 3
  dl : ρ Z.dl = 4
  st : ρ Z.st = 5
  dg : ρ Z.dg = 6
  tp : ρ Z.tp = 7
  ds : ∀ a ∈ ds, ρ a = 8
  ls : ∀ a ∈ Ls, ρ a = 9
structure LS (c : Cl) (Z : Zs) (H : Hp) (g : G) (ρ : Addr → Nat) (ds Ls : List Addr) (TA : Nat → TAt) : Prop where
  mem : MemR c Z.A H g.m
  dee : DeedsL H Z.dl ds Ls g.m.deeds.length (es g.m) g.m.sts g.fits
  sh : H Z.sh = some (.lst (shL (shown g.m)))
  st : H Z.st = some (.lst (rgL 4 (stV g.th TA)))
  thr : ∀ t x, g.th t = some x → ThA c g.m H ρ t x (TA t)
  dg : ∃ ys, H Z.dg = some (.lst ys) ∧ ys.length = 4 ∧ ∀ t x, g.th t = some x → ys[t]? = some (.int (100 + 2 * x.root))
  tp : H Z.tp = some (.lst (Z.ts.map V.int))
  col : Cols Z ρ ds Ls
  th4 : ∀ t, 4 ≤ t → g.th t = none
theorem Cols.sep {Z : Zs} {ρ : Addr → Nat} {ds Ls : List Addr} (h : Cols Z ρ ds Ls) : SepD Z.A Z.sh Z.dl ds Ls := by
  have ne : ∀ {a b : Addr} {i j : Nat}, ρ a = i → ρ b = j → i ≠ j → a ≠ b := fun h1 h2 h3 e => h3 (by rw [← h1, ← h2, e])
  refine ⟨fun x => ?_, fun x => ?_, ne h.dl h.sh (by decide), fun x => ?_, ne h.acc h.sh (by decide), fun x => ?_, ne h.held h.sh (by decide), fun L hL => ⟨fun x => ?_, ne (h.ls L hL) h.sh (by decide)⟩⟩
  · have := h.ds _ x; rw [h.sh] at this; cases this
  · have := h.ds _ x; rw [h.dl] at this; cases this
  · have := h.ds _ x; rw [h.acc] at this; cases this
  · have := h.ds _ x; rw [h.held] at this; cases this
  · have := h.ds _ x; rw [h.ls L hL] at this; cases this
/-- another colouring that agrees on what stands -/
theorem Cols.re {Z : Zs} {ρ ρ' : Addr → Nat} {ds Ls : List Addr} (h : Cols Z ρ ds Ls) (e : ∀ a, (a = Z.A.mem ∨ a = Z.A.lay ∨ a = Z.A.acc ∨ a = Z.A.held ∨ a = Z.sh ∨ a = Z.dl ∨ a = Z.st ∨ a = Z.dg ∨ a = Z.tp ∨ a ∈ ds ∨ a ∈ Ls) → ρ' a = ρ a) : Cols Z ρ' ds Ls :=
  ⟨(e _ (by simp)).trans h.mem, (e _ (by simp)).trans h.lay, (e _ (by simp)).trans h.acc, (e _ (by simp)).trans h.held, (e _ (by simp)).trans h.sh, (e _ (by simp)).trans h.dl, (e _ (by simp)).trans h.st, (e _ (by simp)).trans h.dg, (e _ (by simp)).trans h.tp,
   fun a ha => (e a (by simp [ha])).trans (h.ds a ha), fun a ha => (e a (by simp [ha])).trans (h.ls a ha)⟩
theorem ThA.keep {c : Cl} {m m' : Mem} {H H' : Hp} {ρ ρ' : Addr → Nat} {t : Nat} {x : Th} {y : TAt} (h : ThA c m H ρ t x y) (hd : m'.deeds = m.deeds) (hs : x.fs = [] → m'.sts x.root = m.sts x.root) (tu : Tups H H') (k : ∀ b o, (b = y.S ∨ b = y.ml ∨ b ∈ y.as) → H b = some o → H' b = some o)
    (e : ∀ b, (b = y.S ∨ b = y.ml ∨ b ∈ y.as) → ρ' b = ρ b) : ThA c m' H' ρ' t x y :=
  ⟨StkA.deeds hd (h.stk.keep tu k), fun z => by rw [hs z]; exact (h.val z).mono tu, (e _ (.inl rfl)).trans h.cS, (e _ (.inr (.inl rfl))).trans h.cm, fun a ha => (e a (.inr (.inr ha))).trans (h.ca a ha)⟩
theorem ThA.there {c : Cl} {m : Mem} {H : Hp} {ρ : Addr → Nat} {t : Nat} {x : Th} {y : TAt} (h : ThA c m H ρ t x y) {b : Addr} (hb : b = y.S ∨ b = y.ml ∨ b ∈ y.as) : ∃ o, H b = some o ∧ (b = y.ml ∨ ∃ C d fs, o = .ins C d fs) := by
  rcases hb with rfl | rfl | hb
  · obtain ⟨dx, e⟩ := h.stk.st
    exact ⟨_, e, .inr ⟨_, _, _, rfl⟩⟩
  · exact ⟨_, h.stk.ml, .inl rfl⟩
  · obtain ⟨f, _, _, _, _, _, _, R⟩ := paired_mem h.stk.fr hb
    exact ⟨_, R.at_, .inr ⟨_, _, _, rfl⟩⟩
theorem ThA.col {c : Cl} {m : Mem} {H : Hp} {ρ : Addr → Nat} {t : Nat} {x : Th} {y : TAt} (h : ThA c m H ρ t x y) {b : Addr} (hb : b = y.S ∨ b = y.ml ∨ b ∈ y.as) : ρ b = 10 + t ∨ ρ b = 20 + t ∨ ρ b = 30 + t := by
  rcases hb with rfl | rfl | hb
  · exact .inl h.cS
  · exact .inr (.inl h.cm)
  · exact .inr (.inr (h.ca b hb))
/-- what is kept where all but the lists of some colours (and instances of the thread's own) stands -/
def nextG (g : G) (t : Nat) (x : Th) : G := if x.fs = [] then ⟨g.m, Esp.up g.th t none, chk g.m g.fits⟩ else Esp.stepG g t x
theorem nextG_ok {g : G} (J : GInv g) {t : Nat} {x : Th} (hx : g.th t = some x) : GInv (nextG g t x) := by
  unfold nextG
  split
  · rename_i h; exact Esp.endG_ok J hx h
  · rename_i h; exact (Esp.stepG_ok J hx h).1
theorem paired_len {α β : Type} {F : α → β → Prop} : ∀ {l₁ : List α} {l₂ : List β}, Paired F l₁ l₂ → l₁.length = l₂.length
  | _, _, .nil => rfl
  | _, _, .cons _ t => by rw [List.length_cons, List.length_cons, paired_len t]
theorem dm_len : ∀ (fs : List Esp.Fr), fs.length ≤ Esp.dm fs + 1
  | [] => Nat.zero_le _
  | f :: r => by show r.length + 1 ≤ 3 * r.length + _ + 1; omega
theorem LS.lt {c : Cl} {Z : Zs} {H : Hp} {g : G} {ρ : Addr → Nat} {ds Ls : List Addr} {TA : Nat → TAt} (L : LS c Z H g ρ ds Ls TA) {t : Nat} {x : Th} (hx : g.th t = some x) : t < 4 := by
  refine Decidable.byContradiction fun h => ?_
  rw [L.th4 t (by omega)] at hx; cases hx
theorem DeedsL.isL {H : Hp} {dl : Addr} {ds Ls : List Addr} {n : Nat} {D : Nat → List En} {S : Nat → Sts} {B : Nat → Bool} (h : DeedsL H dl ds Ls n D S B) : (∀ a ∈ ds, ∃ xs, H a = some (.lst xs)) ∧ ∀ a ∈ Ls, ∃ xs, H a = some (.lst xs) := by
  refine ⟨fun a ha => ?_, fun a ha => ?_⟩
  · obtain ⟨k, hk, e⟩ := List.getElem_of_mem ha
    have hk' : k < Ls.length := by rw [h.llen, ← h.len]; exact hk
    obtain ⟨⟨sv, h1, _⟩, _⟩ := h.at_ k a Ls[k] (by rw [List.getElem?_eq_getElem hk, e]) (List.getElem?_eq_getElem hk')
    exact ⟨_, h1⟩
  · obtain ⟨k, hk, e⟩ := List.getElem_of_mem ha
    have hk' : k < ds.length := by rw [h.len, ← h.llen]; exact hk
    obtain ⟨_, xs, h1, _⟩ := h.at_ k ds[k] a (List.getElem?_eq_getElem hk') (by rw [List.getElem?_eq_getElem hk, e])
    exact ⟨_, h1⟩
/-- behind the stack's step: what the law's check needs, and the law's state behind the check -/
theorem LS.stepped {c : Cl} {Z : Zs} {H H1 : Hp} {g : G} {ρ : Addr → Nat} {ds Ls : List Addr} {TA : Nat → TAt} (L : LS c Z H g ρ ds Ls TA) {t : Nat} {x : Th} (hx : g.th t = some x) {m1 : Mem} {fs1 : List Esp.Fr} {as' : List Addr} {rv' : V}
    (hd : m1.deeds = g.m.deeds) (hmono : ∀ k, g.m.sts k ≠ .und → m1.sts k = g.m.sts k) (hend : ∀ u x, g.th u = some x → x.fs = [] → g.m.sts x.root ≠ .und)
    (K1 : StkA c m1 H1 (TA t).S (TA t).ml as' fs1 rv') (hv : fs1 = [] → StsV H1 rv' (m1.sts x.root)) (hsub : ∀ a ∈ as', a ∈ (TA t).as ∨ H a = none)
    (fr : ∀ b o, H b = some o → b ≠ (TA t).S → b ≠ (TA t).ml → b ∉ (TA t).as → b ≠ Z.A.mem → b ≠ Z.A.acc → b ≠ Z.A.held → H1 b = some o) :
    DeedsL H1 Z.dl ds Ls g.m.deeds.length (es g.m) g.m.sts g.fits ∧ H1 Z.sh = some (.lst (shL (shown g.m))) ∧ H1 Z.st = some (.lst (rgL 4 (stV g.th TA))) ∧ H1 Z.dg = H Z.dg ∧
    ∀ H2, MemR c Z.A H2 m1 → DeedsL H2 Z.dl ds Ls g.m.deeds.length (es g.m) m1.sts (chk m1 g.fits) → H2 Z.sh = some (.lst (shL (shown m1))) → FrD ds Z.sh H1 H2 →
      ∃ ρ', LS c Z H2 ⟨m1, Esp.up g.th t (some ⟨x.root, fs1⟩), chk m1 g.fits⟩ ρ' ds Ls (Esp.up TA t ⟨(TA t).S, (TA t).ml, as', rv'⟩) := by
  have ht := L.lt hx
  have T0 := L.thr t x hx
  obtain ⟨hvs, MC, MD⟩ := L.mem
  obtain ⟨dm, hm⟩ := MC.mem
  obtain ⟨dlay, hlay⟩ := MC.lay
  obtain ⟨al, hal, _⟩ := MC.acc
  obtain ⟨dS, hS⟩ := T0.stk.st
  have hml := T0.stk.ml
  have insA : ∀ a ∈ (TA t).as, ∃ C d f, H a = some (.ins C d f) := fun a ha => by
    obtain ⟨f, _, _, _, _, _, _, R⟩ := paired_mem T0.stk.fr ha
    exact ⟨_, _, _, R.at_⟩
  have tu : Tups H H1 := fun b xs h => fr b _ h (ne_of h hS (by intro z; cases z)) (ne_of h hml (by intro z; cases z)) (fun hb => by
    obtain ⟨C, d, f, e⟩ := insA b hb
    rw [h] at e; cases e) (ne_of h hm (by intro z; cases z)) (ne_of h hal (by intro z; cases z)) (ne_of h MC.held (by intro z; cases z))
  have ne : ∀ {a b : Addr} {i j : Nat}, ρ a = i → ρ b = j → i ≠ j → a ≠ b := fun h1 h2 h3 e => h3 (by rw [← h1, ← h2, e])
  have keepL : ∀ b xs r, H b = some (.lst xs) → ρ b = r → r ≠ 20 + t → r ≠ 1 → r ≠ 2 → H1 b = some (.lst xs) := fun b xs r h hr n1 n2 n3 =>
    fr b _ h (ne_of h hS (by intro z; cases z)) (ne hr T0.cm n1) (fun hb => by
      obtain ⟨C, d, f, e⟩ := insA b hb
      rw [h] at e; cases e) (ne_of h hm (by intro z; cases z)) (ne hr L.col.acc n2) (ne hr L.col.held n3)
  obtain ⟨dsL, lsL⟩ := L.dee.isL
  obtain ⟨ys, hdg, hys, hroot⟩ := L.dg
  have D1 : DeedsL H1 Z.dl ds Ls g.m.deeds.length (es g.m) g.m.sts g.fits := L.dee.keep tu fun b o hb h => by
    rcases hb with rfl | hb | hb
    · rw [L.dee.dl] at h; cases h
      exact keepL _ _ _ L.dee.dl L.col.dl (by omega) (by decide) (by decide)
    · obtain ⟨xs, e⟩ := dsL b hb
      rw [e] at h; cases h
      exact keepL _ _ _ e (L.col.ds b hb) (by omega) (by decide) (by decide)
    · obtain ⟨xs, e⟩ := lsL b hb
      rw [e] at h; cases h
      exact keepL _ _ _ e (L.col.ls b hb) (by omega) (by decide) (by decide)
  have sh1 := keepL _ _ _ L.sh L.col.sh (by omega) (by decide) (by decide)
  have st1 := keepL _ _ _ L.st L.col.st (by omega) (by decide) (by decide)
  have dg1 := keepL _ _ _ hdg L.col.dg (by omega) (by decide) (by decide)
  have tp1 := keepL _ _ _ L.tp L.col.tp (by omega) (by decide) (by decide)
  refine ⟨D1, sh1, st1, dg1.trans hdg.symm, fun H2 MR2 D2 sh2 fr2 => ?_⟩
  obtain ⟨ds1, _⟩ := D1.isL
  have tu2 : Tups H1 H2 := fun b xs h => fr2 b _ h (fun hb => by
    obtain ⟨ys, e⟩ := ds1 b hb
    rw [h] at e; cases e) (ne_of h sh1 (by intro z; cases z))
  let ρ' : Addr → Nat := fun b => if b ∈ as' then 30 + t else ρ b
  have hρ : ∀ b o, H b = some o → ρ' b = ρ b := fun b o h => by
    show (if b ∈ as' then 30 + t else ρ b) = ρ b
    by_cases hb : b ∈ as'
    · rw [if_pos hb]
      rcases hsub b hb with h' | h'
      · exact (T0.ca b h').symm
      · rw [h] at h'; cases h'
    · rw [if_neg hb]
  have col' : Cols Z ρ' ds Ls := L.col.re fun a ha => by
    rcases ha with rfl | rfl | rfl | rfl | rfl | rfl | rfl | rfl | rfl | ha | ha
    · exact hρ _ _ hm
    · exact hρ _ _ hlay
    · exact hρ _ _ hal
    · exact hρ _ _ MC.held
    · exact hρ _ _ L.sh
    · exact hρ _ _ L.dee.dl
    · exact hρ _ _ L.st
    · exact hρ _ _ hdg
    · exact hρ _ _ L.tp
    · obtain ⟨xs, e⟩ := dsL a ha; exact hρ _ _ e
    · obtain ⟨xs, e⟩ := lsL a ha; exact hρ _ _ e
  have ne' : ∀ {a b : Addr} {i j : Nat}, ρ' a = i → ρ' b = j → i ≠ j → a ≠ b := fun h1 h2 h3 e => h3 (by rw [← h1, ← h2, e])
  -- whatever has another colour than the deeds' and the list of what is shown stands behind the check
  have keep2 : ∀ b o r, H1 b = some o → ρ' b = r → r ≠ 8 → r ≠ 3 → H2 b = some o := fun b o r h hr n1 n2 => fr2 b o h (fun hb => n1 (by rw [← hr]; exact col'.ds b hb)) (ne' hr col'.sh n2)
  refine ⟨ρ', MR2, ?_, sh2, ?_, fun u x' hx' => ?_, ⟨ys, keep2 _ _ _ dg1 col'.dg (by decide) (by decide), hys, fun u x' hx' => ?_⟩, keep2 _ _ _ tp1 col'.tp (by decide) (by decide), col', fun u hu => ?_⟩
  · have e1 : (es m1) = es g.m := by unfold Esp.es; rw [hd]
    show DeedsL H2 Z.dl ds Ls m1.deeds.length (es m1) m1.sts (chk m1 g.fits)
    rw [e1, hd]; exact D2
  · rw [keep2 _ _ _ st1 col'.st (by decide) (by decide)]
    have : rgL 4 (stV g.th TA) = rgL 4 (stV (Esp.up g.th t (some ⟨x.root, fs1⟩)) (Esp.up TA t ⟨(TA t).S, (TA t).ml, as', rv'⟩)) := rgL_congr fun p _ => by
      unfold stV
      by_cases e : p = t
      · subst e; rw [Esp.up_same, Esp.up_same, hx]
      · rw [Esp.up_ne e, Esp.up_ne e]
    rw [this]
  · have hx2 : Esp.up g.th t (some ⟨x.root, fs1⟩) u = some x' := hx'
    by_cases e : u = t
    · subst e
      rw [Esp.up_same] at hx2
      cases hx2
      rw [Esp.up_same]
      have cS' : ρ' (TA u).S = 10 + u := (hρ _ _ hS).trans T0.cS
      have cm' : ρ' (TA u).ml = 20 + u := (hρ _ _ hml).trans T0.cm
      have ca' : ∀ a ∈ as', ρ' a = 30 + u := fun a ha => if_pos ha
      refine ⟨K1.keep tu2 fun b o hb h => ?_, fun z => (hv z).mono tu2, cS', cm', ca'⟩
      rcases hb with rfl | rfl | hb
      · exact keep2 _ _ _ h cS' (by omega) (by omega)
      · exact keep2 _ _ _ h cm' (by omega) (by omega)
      · exact keep2 _ _ _ h (ca' b hb) (by omega) (by omega)
    · rw [Esp.up_ne e] at hx2
      rw [Esp.up_ne e]
      have hu := L.lt hx2
      have TU := L.thr u x' hx2
      have k01 : ∀ b o, (b = (TA u).S ∨ b = (TA u).ml ∨ b ∈ (TA u).as) → H b = some o → H1 b = some o := fun b o hb h => by
        have hc := TU.col hb
        refine fr b o h (fun z => ?_) (fun z => ?_) (fun z => ?_) (fun z => ?_) (fun z => ?_) (fun z => ?_)
        · rw [z, T0.cS] at hc; omega
        · rw [z, T0.cm] at hc; omega
        · rw [T0.ca b z] at hc; omega
        · rw [z, L.col.mem] at hc; omega
        · rw [z, L.col.acc] at hc; omega
        · rw [z, L.col.held] at hc; omega
      refine TU.keep hd (fun z => hmono _ (hend u x' hx2 z)) (tu.trans tu2) (fun b o hb h => ?_) (fun b hb => ?_)
      · obtain ⟨o', h', _⟩ := TU.there hb
        have hc := TU.col hb
        rw [← hρ _ _ h'] at hc
        exact keep2 b o _ (k01 b o hb h) rfl (by omega) (by omega)
      · obtain ⟨o', h', _⟩ := TU.there hb
        exact hρ _ _ h'
  · have hx2 : Esp.up g.th t (some ⟨x.root, fs1⟩) u = some x' := hx'
    by_cases e : u = t
    · subst e
      rw [Esp.up_same] at hx2
      cases hx2
      exact hroot u x hx
    · rw [Esp.up_ne e] at hx2
      exact hroot u x' hx2
  · show Esp.up g.th t (some ⟨x.root, fs1⟩) u = none
    rw [Esp.up_ne (by omega)]; exact L.th4 u hu
/-- the stack of a thread that has ended is let go -/
theorem LS.drop {c : Cl} {Z : Zs} {H : Hp} {g : G} {ρ : Addr → Nat} {ds Ls : List Addr} {TA : Nat → TAt} (L : LS c Z H g ρ ds Ls TA) {t : Nat} (ht : t < 4) :
    LS c Z (upd H Z.st (.lst ((rgL 4 (stV g.th TA)).set t .non))) ⟨g.m, Esp.up g.th t none, g.fits⟩ ρ ds Ls TA := by
  have tu : Tups H (upd H Z.st (.lst ((rgL 4 (stV g.th TA)).set t .non))) := Tups.lst L.st
  have ne : ∀ {a b : Addr} {i j : Nat}, ρ a = i → ρ b = j → i ≠ j → a ≠ b := fun h1 h2 h3 e => h3 (by rw [← h1, ← h2, e])
  obtain ⟨hvs, MC, MD⟩ := L.mem
  obtain ⟨dm, hm⟩ := MC.mem
  obtain ⟨dlay, hlay⟩ := MC.lay
  have k : ∀ b o r, ρ b = r → r ≠ 5 → H b = some o → upd H Z.st (.lst ((rgL 4 (stV g.th TA)).set t .non)) b = some o := fun b o r hr n h => by rw [upd_ne (ne hr L.col.st n)]; exact h
  obtain ⟨ys, hdg, hys, hroot⟩ := L.dg
  refine ⟨⟨hvs, MC.off fun b o h hb => ?_, MD.mono tu⟩, L.dee.keep tu fun b o hb h => ?_, k _ _ _ L.col.sh (by decide) L.sh, ?_, fun u x' hx' => ?_, ⟨ys, k _ _ _ L.col.dg (by decide) hdg, hys, fun u x' hx' => ?_⟩, k _ _ _ L.col.tp (by decide) L.tp, L.col, fun u hu => ?_⟩
  · rcases hb with rfl | rfl | rfl | rfl
    · exact k _ _ _ L.col.mem (by decide) h
    · exact k _ _ _ L.col.lay (by decide) h
    · exact k _ _ _ L.col.acc (by decide) h
    · exact k _ _ _ L.col.held (by decide) h
  · rcases hb with rfl | hb | hb
    · exact k _ _ _ L.col.dl (by decide) h
    · exact k _ _ _ (L.col.ds b hb) (by decide) h
    · exact k _ _ _ (L.col.ls b hb) (by decide) h
  · rw [upd_same, rgL_set _ ht]
    have : rgL 4 (Esp.up (stV g.th TA) t .non) = rgL 4 (stV (Esp.up g.th t none) TA) := rgL_congr fun p _ => by
      unfold stV
      by_cases e : p = t
      · subst e; rw [Esp.up_same, Esp.up_same]
      · rw [Esp.up_ne e, Esp.up_ne e]
    rw [this]
  · have hx2 : Esp.up g.th t none u = some x' := hx'
    by_cases e : u = t
    · subst e; rw [Esp.up_same] at hx2; cases hx2
    · rw [Esp.up_ne e] at hx2
      have hu := L.lt hx2
      have TU := L.thr u x' hx2
      refine TU.keep rfl (fun _ => rfl) tu (fun b o hb h => ?_) fun _ _ => rfl
      have hc := TU.col hb
      exact k b o _ rfl (by omega) h
  · have hx2 : Esp.up g.th t none u = some x' := hx'
    by_cases e : u = t
    · subst e; rw [Esp.up_same] at hx2; cases hx2
    · rw [Esp.up_ne e] at hx2
      exact hroot u x' hx2
  · show Esp.up g.th t none u = none
    rw [Esp.up_ne (by omega)]; exact L.th4 u hu
end Wk
set_option Elab.async false
set_option linter.all false
set_option maxRecDepth 100000
set_option maxHeartbeats 4000000
namespace Wk
open PySem L2
open Esp (En Sts Wd Ph Mem es nn ent pg entAt shS shW shown stepF stepS settle passF MInv FOk ChgOk Chg chk G GInv Th)
section
variable {P : Program} {w : World} {K : PySem.W.Frag} {mg : Str → Option Value} {base : Heap} {c : Cl}
/-! ### _law_step -/
def spLStep (c : Cl) : Sp := fun vs H Q _ => ∃ (Z : Zs) (g : G) (ρ : Addr → Nat) (ds Ls : List Addr) (TA : Nat → TAt) (t : Nat) (x : Th), vs = [.ref Z.A.mem, .int t, .ref Z.st, .ref Z.dg, .ref Z.dl, .ref Z.sh] ∧
  LS c Z H g ρ ds Ls TA ∧ GInv g ∧ g.th t = some x ∧ g.m.count < 1000000 ∧ Esp.dm x.fs < 900000 ∧ ∀ H' ρ' TA', LS c Z H' (nextG g t x) ρ' ds Ls TA' → Q (.bl true) H'
theorem scLSt : FnScope ["_law_memory", "_law_thread", "_law_stacks", "_law_doing", "_law_deeds", "_law_shown_here", "_law_stack", "_law_before", "_law_moved", "_law_deed"] ["_law_memory", "_law_thread", "_law_stacks", "_law_doing", "_law_deeds", "_law_shown_here"] (defScope sLStep) :=
  ⟨rfl, rfl, rfl, by decide +kernel, rfl, by decide +kernel, by decide +kernel⟩
theorem ok_lstep {f : Addr} {fd : FuncData} (T : Txt K mg c) (F : Fun K "_law_step" "_law_step" sLStep f fd)
    (W1 : MOk P w K mg base c.S "step" 6 ["self", "memory", "thread"] (spStep c)) (W2 : DOk P w K mg base "_law_decided" 4 ["_law_memory", "_law_deeds", "_law_shown_here"] (spDecided c))
    (W3 : MOk P w K mg base c.S "ended" 1 ["self"] (spEnded c)) (W4 : MOk P w K mg base c.S "value" 1 ["self"] (spValue c)) :
    FnOk P w K mg base CX0 7 f fd ["_law_memory", "_law_thread", "_law_stacks", "_law_doing", "_law_deeds", "_law_shown_here"] (spLStep c) := by
  obtain ⟨f1, fd1, m1, G1, b1⟩ := W1.ex
  obtain ⟨f2, fd2, g2, k2, G2, b2⟩ := W2.ex
  obtain ⟨f3, fd3, m3, G3, b3⟩ := W3.ex
  obtain ⟨f4, fd4, m4, G4, b4⟩ := W4.ex
  refine F.ok scLSt (fun vs H Q E h => ?_) (fun cdv A outer s H vs Q E hr h => ?_)
  · obtain ⟨Z, g, ρ, ds, Ls, TA, t, x, rfl, _⟩ := h
    rfl
  · obtain ⟨Z, g, ρ, ds, Ls, TA, t, x, rfl, L, J, hx, hcnt, hdm, q⟩ := h
    have hr4 : Room 4 _ := hr.mono (by decide)
    have hr1 : Room 1 _ := hr.mono (by decide)
    have ht := L.lt hx
    have T0 := L.thr t x hx
    obtain ⟨hvs, MC, MD⟩ := id L.mem
    obtain ⟨dm, hm⟩ := MC.mem
    obtain ⟨dS, hS⟩ := T0.stk.st
    obtain ⟨al, hal, _⟩ := MC.acc
    have S0 := J.st t x hx
    have ne : ∀ {a b : Addr} {i j : Nat}, ρ a = i → ρ b = j → i ≠ j → a ≠ b := fun h1 h2 h3 e => h3 (by rw [← h1, ← h2, e])
    have nma : (TA t).ml ≠ Z.A.acc := ne T0.cm L.col.acc (by omega)
    have nmh : (TA t).ml ≠ Z.A.held := ne T0.cm L.col.held (by omega)
    have hlen : (TA t).as.length < 1000000 := by
      have h1 := paired_len T0.stk.fr
      have h2 := dm_len x.fs
      omega
    have hend : ∀ u x, g.th u = some x → x.fs = [] → g.m.sts x.root ≠ .und := fun u x hx z => (J.st u x hx).ended z
    have hxst : (rgL 4 (stV g.th TA))[t]? = some (.ref (TA t).S) := by rw [rgL_get _ ht]; unfold stV; rw [hx]
    have e0 : ((t : Nat) : Int) = (t : Int) := rfl
    refine ⟨_, pss_cons (ps_set (i := 6) scLSt.nd rfl (Or.inl rfl) (pe_ix ix_list (pv 2) (pv 1) (fun _ _ => rfl)))
      (pss_cons (ps_set (i := 7) scLSt.nd rfl (Or.inl rfl) (pe_fld (pv 0) rfl))
      (pss_cons (ps_set (i := 8) scLSt.nd rfl (Or.inl rfl) (pe_meth (pv 6) T.S m1 G1 hr b1 .nil pass0 (pa_cons (pv 0) (pa_cons (pv 1) pa_nil))))
      (pss_cons (ps_if (pt_cmpR op_ne (pe_fld (pv 0) rfl) (pe_op op_add (pv 7) (pe_callTy call_int1 (by rfl) T.int (by decide +kernel) (pa_cons (pv 8) pa_nil))) (nomark _)) (pss_one (ps_ret pe_bl)) pss_nil)
      (pss_cons (ps_if (pt_not (pt_val (pe_call G2 hr4 (by rfl) g2 k2 b2 .nil pass0 (pa_cons (pv 0) (pa_cons (pv 4) (pa_cons (pv 5) pa_nil)))))) (pss_one (ps_ret pe_bl)) pss_nil)
      (pss_cons (ps_if (pt_not (pt_val (pv 8)))
        (pss_cons (ps_for PassesOwn.never rfl (pi_list (pv 4)) (pg_name (i := 9) scLSt.nd rfl (Or.inl rfl))
          (pss_one (ps_if (pt_cmpR op_eq (pe_ix ix_list (pv 9) pe_int (fun _ _ => rfl)) (pe_ix ix_list (pv 3) (pv 1) (fun _ _ => rfl)) (nomark _))
            (pss_one (ps_if (PW.pt (pw_or (pt_not (pt_val (pe_meth0 (pv 6) T.S m3 G3 hr1 b3 .nil pass0)))
              (pw_or (pt_cmpR (op_eqD hr.units) (pe_ix ix_list (pv 9) pe_int (fun _ _ => rfl)) pe_int (nomark _))
              (pw_or1 (pt_cmpR (op_neD hr.units) (pe_meth0 (pv 6) T.S m4 G4 hr1 b4 .nil pass0) (pe_ix ix_list (pv 9) pe_int (fun _ _ => rfl)) (nomark _)))))) (pss_one (ps_ret pe_bl)) pss_nil)) pss_nil)))
        (pss_one (ps_asg pe_non (pg_sub (pv 2) (pv 1) set_list)))) pss_nil)
      (pss_one (ps_ret pe_bl))))))), ?_⟩
    refine ⟨_, rfl, _, rfl, Z.st, _, _, _, rfl, rfl, SqL.of L.st, atI_nat hxst, ?_⟩
    refine ⟨_, rfl, Z.A.mem, c.M, dm, _, _, rfl, hm, T.M, T.mCount, lk_at mfs_nd (i := 1) rfl, ?_⟩
    refine ⟨_, rfl, (TA t).S, dS, _, rfl, hS, sfs_no (by decide +kernel), _, rfl, _, rfl, Z.A, g.m, g.fits, (TA t).S, (TA t).ml, (TA t).as, x.fs, (TA t).rv, .int t, rfl, L.mem, hcnt, J.I.M, (fun f hf => J.I.fr f ⟨t, x, hx, hf⟩), S0.top, T0.stk, nma, nmh, hlen, ?_⟩
    by_cases hfs : x.fs = []
    · -- nothing left to do
      refine .inl ⟨hfs, fun H1 s1 => ?_⟩
      obtain ⟨D1, sh1, st1, dg1, fin⟩ := L.stepped (H1 := H1) hx (m1 := g.m) (fs1 := x.fs) (as' := (TA t).as) (rv' := (TA t).rv) rfl (fun _ _ => rfl) hend (T0.stk.same s1) (fun z => (T0.val z).mono (Same.tups s1)) (fun a ha => .inl ha) (fun b o h _ _ _ _ _ _ => s1 b o h)
      refine ⟨_, rfl, Z.A.mem, c.M, dm, _, _, rfl, s1 _ _ hm, T.M, T.mCount, lk_at mfs_nd (i := 1) rfl, _, rfl, _, rfl, .inr ⟨_, rfl, _, _, rfl, rfl, rfl, _, rfl, iF (by simp) ?_⟩⟩
      refine ⟨_, rfl, _, rfl, _, rfl, Z.A, g.m, g.m, g.fits, .none, Z.sh, Z.dl, ds, Ls, rfl, MemR.same s1 L.mem, D1, sh1, ⟨rfl, fun _ => rfl⟩, rfl, J.I.M, J.I.M, L.col.sep, fun H2 MR2 D2 sh2 fr2 => ?_⟩
      obtain ⟨ρ', L2⟩ := fin H2 MR2 D2 sh2 fr2
      refine ⟨_, rfl, iF rfl ?_⟩
      refine ⟨_, rfl, _, rfl, iT rfl ?_⟩
      have T2 := L2.thr t ⟨x.root, x.fs⟩ Esp.up_same
      rw [Esp.up_same] at T2
      obtain ⟨dS2, hS2⟩ := T2.stk.st
      have hml2 := T2.stk.ml
      have hv2 : StsV H2 (TA t).rv (g.m.sts x.root) := T2.val hfs
      have has : (TA t).as = [] := by
        have h1 := paired_len T0.stk.fr
        rw [hfs] at h1
        exact List.eq_nil_of_length_eq_zero h1
      rw [has] at hml2
      obtain ⟨ys, hdg, hys, hroot⟩ := L2.dg
      have hy := hroot t ⟨x.root, x.fs⟩ Esp.up_same
      have Dd := L2.dee
      refine ⟨_, rfl, Z.dl, rfl, ⟨_, SqL.of Dd.dl⟩, for_list (K := K) (a := Z.dl) (xs := ds.map V.ref) (fun i σ H3 => H2 = H3 ∧ ∃ v9 : Option V, σ = [some (.ref Z.A.mem), some (.int t), some (.ref Z.st), some (.ref Z.dg), some (.ref Z.dl), some (.ref Z.sh), some (.ref (TA t).S), some (.int g.m.count), some (.bl false), v9]) ⟨rfl, _, rfl⟩ (fun i σ H3 _ ⟨e, _⟩ => by rw [← e]; exact SqL.of Dd.dl) ?_ ?_⟩
      · rintro i z σ H3 hi ⟨rfl, v9, rfl⟩
        obtain ⟨a, ha, rfl⟩ : ∃ a, ds[i]? = some a ∧ z = .ref a := by
          rw [List.getElem?_map] at hi
          cases e : ds[i]? with
          | none => rw [e] at hi; cases hi
          | some a => rw [e] at hi; exact ⟨a, rfl, (Option.some.inj hi).symm⟩
        have hin : i < Ls.length := by rw [Dd.llen, ← Dd.len]; exact (List.getElem?_eq_some_iff.mp ha).1
        obtain ⟨⟨sv, hA, hsv⟩, _⟩ := Dd.at_ i a Ls[i] ha (List.getElem?_eq_getElem hin)
        refine ⟨_, rfl, a, _, _, _, rfl, rfl, SqL.of hA, atI_nat (j := 0) rfl, _, rfl, _, rfl, Z.dg, ys, _, _, rfl, rfl, SqL.of hdg, atI_nat hy, rfl, _, rfl, ?_⟩
        by_cases hk : i = x.root
        · subst hk
          refine iT (decide_eq_true rfl) ?_
          have hne := S0.ended hfs
          obtain ⟨d1, d2, q1, q2, q3, q4, q5⟩ := eq_sts0 (K := K) hsv
          obtain ⟨d1', d2', p1, p2, p3, p4, p5⟩ := eq_sts (K := K) hv2 hsv
          refine ⟨_, rfl, (TA t).S, dS2, _, rfl, hS2, sfs_no (by decide +kernel), (TA t).S, dS2, (TA t).ml, _, _, rfl, hS2, hml2, _, rfl, iF rfl ?_⟩
          refine ⟨_, rfl, a, _, _, _, rfl, rfl, SqL.of hA, atI_nat (j := 2) rfl, d1, d2, q1, q2, q3, q4, _, rfl, iF (q5.trans (decide_eq_false hne)) ?_⟩
          refine ⟨_, rfl, (TA t).S, dS2, _, rfl, hS2, sfs_no (by decide +kernel), (TA t).S, dS2, (TA t).ml, _, rfl, hS2, _, rfl, a, _, _, _, rfl, rfl, SqL.of hA, atI_nat (j := 2) rfl, d1', d2', p1, p2, p3, p4, _, rfl, iF (by rw [p5, decide_eq_true rfl]; rfl) ?_⟩
          exact ⟨rfl, _, rfl⟩
        · refine iF (decide_eq_false (by intro z; injection z with z; have z' : 100 + 2 * (i : Int) = 100 + 2 * (x.root : Int) := z; omega)) ?_
          exact ⟨rfl, _, rfl⟩
      · rintro σ H3 ⟨rfl, v9, rfl⟩
        refine ⟨_, rfl, _, rfl, Z.st, _, t, t, rfl, rfl, L2.st, ixN_nat (by rw [rgL_len]; exact ht), ?_⟩
        have L3 := L2.drop ht
        have eG : nextG g t x = ⟨g.m, Esp.up (Esp.up g.th t (some ⟨x.root, x.fs⟩)) t none, chk g.m g.fits⟩ := by
          unfold nextG
          rw [if_pos hfs]
          have : Esp.up (Esp.up g.th t (some ⟨x.root, x.fs⟩)) t none = Esp.up g.th t none := by
            funext u
            by_cases e : u = t
            · subst e; rw [Esp.up_same, Esp.up_same]
            · rw [Esp.up_ne e, Esp.up_ne e, Esp.up_ne e]
          rw [this]
        refine q _ ρ' _ (by rw [eG]; exact L3)
    · refine .inr ⟨hfs, fun H1 as' rv' MR1 K1 hv hsub fr => ?_⟩
      obtain ⟨J', hd, hc', chg, hchg⟩ := Esp.stepG_ok J hx hfs
      have hd' : (stepS g.m x.fs).1.deeds = g.m.deeds := hd
      have hc2 : (stepS g.m x.fs).1.count = g.m.count + 1 := hc'
      have hchg' : ChgOk g.m (stepS g.m x.fs).1 g.fits chg := hchg
      have hv' : (stepS g.m x.fs).2 = [] → StsV H1 rv' ((stepS g.m x.fs).1.sts x.root) := fun z => by
        cases hf : x.fs with
        | nil => exact absurd hf hfs
        | cons f r =>
          have h1 := hv z f r hf
          have hr0 : r = [] := by
            cases r with
            | nil => rfl
            | cons b r' =>
              exfalso
              have : (stepS g.m (f :: b :: r')).2 ≠ [] := by
                show settle ((stepF g.m f).2 ++ b :: r') ≠ []
                obtain ⟨n1, n2, _⟩ := S0.top f _ hf
                rcases Esp.stepF_shape g.m f n1 n2 with ⟨y, e, _⟩ | ⟨k', e⟩
                · rw [e]; unfold Esp.settle; simp only [List.cons_append, List.nil_append]; split <;> simp
                · rw [e]; unfold Esp.settle; simp
              rw [hf] at z
              exact this z
          have hk := S0.bot f (by rw [hf, hr0]; rfl)
          rw [← hf] at *
          rw [← hk]; exact h1
      obtain ⟨D1, sh1, st1, dg1, fin⟩ := L.stepped (H1 := H1) hx (m1 := (stepS g.m x.fs).1) (fs1 := (stepS g.m x.fs).2) (as' := as') (rv' := rv') hd' (fun k hk => hchg'.mono hk) hend (StkA.deeds hd' K1) hv' hsub fr
      obtain ⟨hvs1, MC1, _⟩ := id MR1
      obtain ⟨dm1, hm1⟩ := MC1.mem
      rw [hc2] at hm1
      refine ⟨_, rfl, Z.A.mem, c.M, dm1, _, _, rfl, hm1, T.M, T.mCount, lk_at mfs_nd (i := 1) rfl, _, rfl, _, rfl, .inr ⟨_, rfl, _, _, rfl, rfl, rfl, _, rfl, iF (by simp) ?_⟩⟩
      refine ⟨_, rfl, _, rfl, _, rfl, Z.A, g.m, (stepS g.m x.fs).1, g.fits, chg, Z.sh, Z.dl, ds, Ls, rfl, MR1, D1, sh1, hchg', hd', J.I.M, J'.I.M, L.col.sep, fun H2 MR2 D2 sh2 fr2 => ?_⟩
      obtain ⟨ρ', L2⟩ := fin H2 MR2 D2 sh2 fr2
      refine ⟨_, rfl, iF rfl ?_⟩
      refine ⟨_, rfl, _, rfl, iF rfl ?_⟩
      have eG : nextG g t x = Esp.stepG g t x := by unfold nextG; rw [if_neg hfs]
      exact q _ ρ' _ (by rw [eG]; exact L2)
end
end Wk
set_option Elab.async false
set_option linter.all false
set_option maxRecDepth 100000
set_option maxHeartbeats 4000000
namespace Wk
open PySem L2
open Esp (En Sts Wd Ph Mem es nn ent pg entAt shS shW shown stepF stepS settle passF MInv FOk ChgOk Chg chk G GInv Th)
/-- a thread that goes alone, i accesses on -/
def Rn (g : G) (t i : Nat) : Prop := match g.th t with
  | none => i ≤ 891
  | some x => (x.fs = [] ∧ i ≤ 890) ∨ (x.fs ≠ [] ∧ ∃ N, Esp.Sol g.m x.fs N ∧ N + i ≤ 882)
theorem Rn.none {g : G} {t i : Nat} (h : g.th t = none) (hi : i ≤ 891) : Rn g t i := by unfold Rn; rw [h]; exact hi
theorem Rn.lt {g : G} {t i : Nat} (h : Rn g t i) : i < 900 := by
  unfold Rn at h
  cases e : g.th t with
  | none => rw [e] at h; exact Nat.lt_of_le_of_lt h (by decide)
  | some x =>
    rw [e] at h
    rcases h with ⟨_, h⟩ | ⟨_, N, _, h⟩ <;> omega
theorem Rn.start {g : G} (J : GInv g) {t : Nat} (hd : ∀ x, g.th t = some x → Esp.dm x.fs ≤ 110) : Rn g t 0 := by
  unfold Rn
  cases e : g.th t with
  | none => exact Nat.zero_le _
  | some x =>
    by_cases hf : x.fs = []
    · exact .inl ⟨hf, Nat.zero_le _⟩
    · exact .inr ⟨hf, 882, Esp.sol_start J.I.M (fun f h => J.I.fr f ⟨t, x, e, h⟩) (J.st t x e) (hd x e) hf, Nat.le_refl _⟩
theorem Rn.next {g : G} (J : GInv g) {t i : Nat} {x : Th} (hx : g.th t = some x) (h : Rn g t i) : Rn (nextG g t x) t (i + 1) := by
  unfold Rn at h
  rw [hx] at h
  rcases h with ⟨hf, hi⟩ | ⟨hf, N, hS, hN⟩
  · refine Rn.none ?_ (by omega)
    unfold nextG; rw [if_pos hf]; exact Esp.up_same
  · have e : nextG g t x = Esp.stepG g t x := by unfold nextG; rw [if_neg hf]
    rw [e]
    have e2 : (Esp.stepG g t x).th t = some ⟨x.root, (stepS g.m x.fs).2⟩ := Esp.up_same
    unfold Rn
    rw [e2]
    rcases Esp.solo_step J.I.M (fun f h => J.I.fr f ⟨t, x, hx, h⟩) (J.st t x hx) hS with h | ⟨N', hlt, h⟩
    · exact .inl ⟨h, by omega⟩
    · by_cases hf' : (stepS g.m x.fs).2 = []
      · exact .inl ⟨hf', by omega⟩
      · exact .inr ⟨hf', N', h, by omega⟩
theorem nextG_th {g : G} {t : Nat} {x : Th} {u : Nat} (h : u ≠ t) : (nextG g t x).th u = g.th u := by
  unfold nextG
  split
  · exact Esp.up_ne h
  · exact Esp.up_ne h
theorem nextG_dm {g : G} (J : GInv g) {t : Nat} {x : Th} (hx : g.th t = some x) {n : Nat} (h : Esp.dm x.fs ≤ n) : ∀ y, (nextG g t x).th t = some y → Esp.dm y.fs ≤ n + 1 := by
  intro y hy
  by_cases hf : x.fs = []
  · have : (nextG g t x).th t = none := by unfold nextG; rw [if_pos hf]; exact Esp.up_same
    rw [this] at hy; cases hy
  · have : (nextG g t x).th t = some ⟨x.root, (stepS g.m x.fs).2⟩ := by unfold nextG; rw [if_neg hf]; exact Esp.up_same
    rw [this] at hy
    cases hy
    cases hfs : x.fs with
    | nil => exact absurd hfs hf
    | cons f r =>
      obtain ⟨n1, n2, _⟩ := (J.st t x hx).top f r hfs
      have := Esp.dm_step g.m (root := 0) (f := f) (r := r) n1 n2
      rw [hfs] at h
      show Esp.dm (stepS g.m (f :: r)).2 ≤ n + 1
      omega
theorem nextG_mem {g : G} (J : GInv g) {t : Nat} {x : Th} (hx : g.th t = some x) : (nextG g t x).m.deeds = g.m.deeds ∧ (nextG g t x).m.count ≤ g.m.count + 1 := by
  by_cases hf : x.fs = []
  · unfold nextG; rw [if_pos hf]; exact ⟨rfl, Nat.le_succ _⟩
  · obtain ⟨_, h1, h2, _⟩ := Esp.stepG_ok J hx hf
    unfold nextG; rw [if_neg hf]; exact ⟨h1, by rw [h2]; exact Nat.le_refl _⟩
section
variable {P : Program} {w : World} {K : PySem.W.Frag} {mg : Str → Option Value} {base : Heap} {c : Cl}
/-! ### _law_end -/
def spLEnd (c : Cl) : Sp := fun vs H Q _ => ∃ (Z : Zs) (g : G) (ρ : Addr → Nat) (ds Ls : List Addr) (TA : Nat → TAt) (t : Nat), vs = [.ref Z.A.mem, .int t, .ref Z.st, .ref Z.dg, .ref Z.dl, .ref Z.sh] ∧
  LS c Z H g ρ ds Ls TA ∧ GInv g ∧ t < 4 ∧ g.m.count < 900000 ∧ (∀ x, g.th t = some x → Esp.dm x.fs ≤ 110) ∧
  ∀ H' g' ρ' TA', LS c Z H' g' ρ' ds Ls TA' → GInv g' → g'.th t = none → (∀ u, u ≠ t → g'.th u = g.th u) → g'.m.count ≤ g.m.count + 900 → Q (.bl true) H'
theorem scLE : FnScope ["_law_memory", "_law_thread", "_law_stacks", "_law_doing", "_law_deeds", "_law_shown_here", "_law_k"] ["_law_memory", "_law_thread", "_law_stacks", "_law_doing", "_law_deeds", "_law_shown_here"] (defScope sLEnd) :=
  ⟨rfl, rfl, rfl, by decide +kernel, rfl, by decide +kernel, by decide +kernel⟩
theorem ok_lend {f : Addr} {fd : FuncData} (T : Txt K mg c) (F : Fun K "_law_end" "_law_end" sLEnd f fd)
    (W1 : DOk P w K mg base "_law_step" 7 ["_law_memory", "_law_thread", "_law_stacks", "_law_doing", "_law_deeds", "_law_shown_here"] (spLStep c)) :
    FnOk P w K mg base CX0 8 f fd ["_law_memory", "_law_thread", "_law_stacks", "_law_doing", "_law_deeds", "_law_shown_here"] (spLEnd c) := by
  obtain ⟨f1, fd1, g1, k1, G1, b1⟩ := W1.ex
  refine F.ok scLE (fun vs H Q E h => ?_) (fun cdv A outer s H vs Q E hr h => ?_)
  · obtain ⟨Z, g, ρ, ds, Ls, TA, t, rfl, _⟩ := h
    rfl
  · obtain ⟨Z, g, ρ, ds, Ls, TA, t, rfl, L, J, ht, hcnt, hdm, q⟩ := h
    refine ⟨_, pss_cons (ps_for PassesOwn.never rfl (pi_range1 (by rfl) T.range (pa_cons pe_int pa_nil)) (pg_name (i := 6) scLE.nd rfl (Or.inl rfl))
        (pss_cons (ps_if (pt_cmpR op_isN (pe_ix ix_list (pv 2) (pv 1) (fun _ _ => rfl)) pe_non (nomark _)) (pss_one (ps_ret pe_bl)) pss_nil)
        (pss_one (ps_if (pt_not (pt_val (pe_call G1 hr (by rfl) g1 k1 b1 .nil pass0 (pa_cons (pv 0) (pa_cons (pv 1) (pa_cons (pv 2) (pa_cons (pv 3) (pa_cons (pv 4) (pa_cons (pv 5) pa_nil))))))))) (pss_one (ps_ret pe_bl)) pss_nil))))
      (pss_one (ps_ret pe_bl)), ?_⟩
    refine ⟨900, rfl, by decide, by decide, for_range (lo := 0) (n := 900) (fun i σ H' => ∃ (g' : G) (ρ' : Addr → Nat) (TA' : Nat → TAt) (v6 : Option V), σ = [some (.ref Z.A.mem), some (.int t), some (.ref Z.st), some (.ref Z.dg), some (.ref Z.dl), some (.ref Z.sh), v6] ∧
      LS c Z H' g' ρ' ds Ls TA' ∧ GInv g' ∧ Rn g' t i ∧ (∀ u, u ≠ t → g'.th u = g.th u) ∧ g'.m.count ≤ g.m.count + i ∧ ∀ x, g'.th t = some x → Esp.dm x.fs ≤ 110 + i) ?_ ?_ ?_⟩
    · exact ⟨g, ρ, TA, _, rfl, L, J, Rn.start J hdm, fun _ _ => rfl, Nat.le_refl _, hdm⟩
    · rintro i σ H' hi ⟨g', ρ', TA', v6, rfl, L', J', R, hu, hc, hd⟩
      have hst : (rgL 4 (stV g'.th TA'))[t]? = some (stV g'.th TA' t) := rgL_get _ ht
      refine ⟨_, rfl, _, rfl, Z.st, _, _, _, rfl, rfl, SqL.of L'.st, atI_nat hst, rfl, _, rfl, ?_⟩
      cases hx : g'.th t with
      | none =>
        refine iT (by unfold stV; rw [hx]; rfl) ?_
        exact q H' g' ρ' TA' L' J' hx hu (by omega)
      | some x =>
        refine iF (by unfold stV; rw [hx]; rfl) ?_
        have hdx := hd x hx
        refine ⟨_, rfl, _, rfl, _, rfl, _, rfl, _, rfl, _, rfl, Z, g', ρ', ds, Ls, TA', t, x, rfl, L', J', hx, by omega, by omega, fun H2 ρ2 TA2 L2 => ⟨_, rfl, iF rfl ?_⟩⟩
        exact ⟨nextG g' t x, ρ2, TA2, _, rfl, L2, nextG_ok J' hx, R.next J' hx, fun u h => (nextG_th h).trans (hu u h), by have := (nextG_mem J' hx).2; omega, nextG_dm J' hx hdx⟩
    · rintro σ H' ⟨g', ρ', TA', v6, rfl, L', J', R, hu, hc, hd⟩
      exact absurd R.lt (Nat.lt_irrefl _)
end
end Wk
set_option Elab.async false
set_option linter.all false
set_option maxRecDepth 100000
set_option maxHeartbeats 4000000
namespace Wk
open PySem L2
open Esp (En Sts Wd Ph Mem es nn ent pg entAt shS shW shown stepF stepS settle passF MInv FOk ChgOk Chg chk G GInv Th addD wfD)
theorem FrAt.addD {c : Cl} {m : Mem} {H : Hp} {a : Addr} {f : Esp.Fr} {d : List En} {n : Nat} (hk : f.k < m.deeds.length) (h : FrAt c m H a f) : FrAt c (addD m d n) H a f := by
  obtain ⟨sv, ev, hv, vv, dx, R⟩ := h
  exact ⟨sv, ev, hv, vv, dx, R.at_, fun z => by rw [Esp.es_old hk]; exact R.sv z, R.vv⟩
theorem paired_mono2 {α β : Type} {F G : α → β → Prop} : ∀ {l₁ : List α} {l₂ : List β}, Paired F l₁ l₂ → (∀ a ∈ l₁, ∀ b ∈ l₂, F a b → G a b) → Paired G l₁ l₂
  | _, _, .nil, _ => .nil
  | _, _, .cons h t, k => .cons (k _ List.mem_cons_self _ List.mem_cons_self h) (paired_mono2 t fun a ha b hb => k a (List.mem_cons_of_mem _ ha) b (List.mem_cons_of_mem _ hb))
theorem LS.begun {c : Cl} {Z : Zs} {H H' : Hp} {g : G} {ρ : Addr → Nat} {ds Ls : List Addr} {TA : Nat → TAt} (L : LS c Z H g ρ ds Ls TA) (J : GInv g) {d : List En} {b : Bool} {a e : Addr} {n : Nat} (ha : H a = none) (he : H e = none) (nae : a ≠ e)
    (MR' : MemR c Z.A H' (addD g.m d n)) (fr : ∀ x o, H x = some o → x ≠ Z.A.mem → x ≠ Z.A.acc → x ≠ Z.A.held → x ≠ Z.dl → H' x = some o) (hdl : H' Z.dl = some (.lst ((ds ++ [a]).map V.ref)))
    (hA : H' a = some (.lst [.int (100 + 2 * g.m.deeds.length), .ref e, .int 0, .bl b])) (hE : ∃ xs, H' e = some (.lst xs) ∧ xs.length = d.length ∧ ∀ (j : Nat) (en : En), d[j]? = some en → ∃ x, xs[j]? = some x ∧ EnV H' x en) :
    ∃ ρ', LS c Z H' ⟨addD g.m d n, g.th, Esp.up g.fits g.m.deeds.length b⟩ ρ' (ds ++ [a]) (Ls ++ [e]) TA := by
  obtain ⟨hvs, MC, MD⟩ := id L.mem
  obtain ⟨dm, hm⟩ := MC.mem
  obtain ⟨dlay, hlay⟩ := MC.lay
  obtain ⟨al, hal, _⟩ := MC.acc
  obtain ⟨ys, hdg, hys, hroot⟩ := L.dg
  obtain ⟨dsL, lsL⟩ := L.dee.isL
  let ρ' : Addr → Nat := fun x => if x = a then 8 else if x = e then 9 else ρ x
  have hρ : ∀ x o, H x = some o → ρ' x = ρ x := fun x o h => by
    show (if x = a then 8 else if x = e then 9 else ρ x) = ρ x
    rw [if_neg (ne_of_none h ha), if_neg (ne_of_none h he)]
  have col0 : Cols Z ρ' ds Ls := L.col.re fun x hx => by
    rcases hx with rfl | rfl | rfl | rfl | rfl | rfl | rfl | rfl | rfl | hx | hx
    · exact hρ _ _ hm
    · exact hρ _ _ hlay
    · exact hρ _ _ hal
    · exact hρ _ _ MC.held
    · exact hρ _ _ L.sh
    · exact hρ _ _ L.dee.dl
    · exact hρ _ _ L.st
    · exact hρ _ _ hdg
    · exact hρ _ _ L.tp
    · obtain ⟨xs, e⟩ := dsL x hx; exact hρ _ _ e
    · obtain ⟨xs, e⟩ := lsL x hx; exact hρ _ _ e
  have col' : Cols Z ρ' (ds ++ [a]) (Ls ++ [e]) := ⟨col0.mem, col0.lay, col0.acc, col0.held, col0.sh, col0.dl, col0.st, col0.dg, col0.tp, fun x hx => by
      rcases List.mem_append.mp hx with hx | hx
      · exact col0.ds x hx
      · rw [List.mem_singleton.mp hx]; exact if_pos rfl, fun x hx => by
      rcases List.mem_append.mp hx with hx | hx
      · exact col0.ls x hx
      · rw [List.mem_singleton.mp hx]
        show (if e = a then 8 else if e = e then 9 else ρ e) = 9
        rw [if_neg nae.symm, if_pos rfl]⟩
  have ne : ∀ {a b : Addr} {i j : Nat}, ρ a = i → ρ b = j → i ≠ j → a ≠ b := fun h1 h2 h3 e => h3 (by rw [← h1, ← h2, e])
  have keep : ∀ x o r, H x = some o → ρ x = r → r ≠ 40 → r ≠ 1 → r ≠ 2 → r ≠ 4 → H' x = some o := fun x o r h hr n1 n2 n3 n4 => fr x o h (ne hr L.col.mem n1) (ne hr L.col.acc n2) (ne hr L.col.held n3) (ne hr L.col.dl n4)
  have tu : Tups H H' := fun x xs h => fr x _ h (ne_of h hm (by intro z; cases z)) (ne_of h hal (by intro z; cases z)) (ne_of h MC.held (by intro z; cases z)) (ne_of h L.dee.dl (by intro z; cases z))
  have ln : (addD g.m d n).deeds.length = g.m.deeds.length + 1 := by simp [Esp.addD]
  refine ⟨ρ', MR', ⟨hdl, ?_, ?_, ?_, fun k a' L' ha' hL' => ?_⟩, ?_, keep _ _ _ L.st L.col.st (by decide) (by decide) (by decide) (by decide), fun u x hx => ?_, ⟨ys, keep _ _ _ hdg L.col.dg (by decide) (by decide) (by decide) (by decide), hys, hroot⟩, keep _ _ _ L.tp L.col.tp (by decide) (by decide) (by decide) (by decide), col', L.th4⟩
  · show (ds ++ [a]).length = (addD g.m d n).deeds.length
    rw [ln, List.length_append, L.dee.len]; rfl
  · show (Ls ++ [e]).length = (addD g.m d n).deeds.length
    rw [ln, List.length_append, L.dee.llen]; rfl
  · rw [List.nodup_append]
    refine ⟨L.dee.nd, by simp, fun x hx y hy z => ?_⟩
    rw [List.mem_singleton.mp hy] at z
    obtain ⟨xs, e⟩ := dsL x hx
    rw [z, ha] at e; cases e
  · by_cases hk : k < g.m.deeds.length
    · have ha1 : ds[k]? = some a' := by
        rw [List.getElem?_append_left (by rw [L.dee.len]; exact hk)] at ha'; exact ha'
      have hL1 : Ls[k]? = some L' := by
        rw [List.getElem?_append_left (by rw [L.dee.llen]; exact hk)] at hL'; exact hL'
      have D := (L.dee.at_ k a' L' ha1 hL1).keep tu (fun o h => keep _ _ _ h (L.col.ds a' (List.mem_of_getElem? ha1)) (by decide) (by decide) (by decide) (by decide)) (fun o h => keep _ _ _ h (L.col.ls L' (List.mem_of_getElem? hL1)) (by decide) (by decide) (by decide) (by decide))
      show DeedAt H' k (es (addD g.m d n) k) (g.m.sts k) (Esp.up g.fits g.m.deeds.length b k) a' L'
      rw [Esp.es_old hk, Esp.up_ne (by omega)]
      exact D
    · have hk2 : k = g.m.deeds.length := by
        have := (List.getElem?_eq_some_iff.mp ha').1
        rw [List.length_append, L.dee.len] at this
        have h1 : ([a] : List Addr).length = 1 := rfl
        omega
      subst hk2
      rw [List.getElem?_append_right (by rw [L.dee.len]; exact Nat.le_refl _), L.dee.len, Nat.sub_self] at ha'
      rw [List.getElem?_append_right (by rw [L.dee.llen]; exact Nat.le_refl _), L.dee.llen, Nat.sub_self] at hL'
      cases ha'
      cases hL'
      show DeedAt H' g.m.deeds.length (es (addD g.m d n) g.m.deeds.length) (g.m.sts g.m.deeds.length) (Esp.up g.fits g.m.deeds.length b g.m.deeds.length) a e
      rw [Esp.es_new, Esp.up_same, J.I.M.un _ (Nat.le_refl _)]
      exact ⟨⟨_, hA, rfl⟩, hE⟩
  · show H' Z.sh = some (.lst (shL (shown (addD g.m d n))))
    have : shL (shown (addD g.m d n)) = shL (shown g.m) := shL_congr fun p _ => Esp.addD_shown J.I.M p
    rw [this]
    exact keep _ _ _ L.sh L.col.sh (by decide) (by decide) (by decide) (by decide)
  · have TU := L.thr u x hx
    have hu := L.lt hx
    have kx : ∀ y o, (y = (TA u).S ∨ y = (TA u).ml ∨ y ∈ (TA u).as) → H y = some o → H' y = some o := fun y o hy h => by
      have hc := TU.col hy
      exact keep y o _ h rfl (by omega) (by omega) (by omega) (by omega)
    have K2 := TU.stk.keep tu kx
    refine ⟨⟨K2.st, K2.ml, K2.nd, paired_mono2 K2.fr fun y _ f hf h => h.addD (J.I.fr f ⟨u, x, hx, hf⟩).1⟩, fun z => (TU.val z).mono tu, ?_, ?_, fun y hy => ?_⟩
    · obtain ⟨o, h, _⟩ := TU.there (.inl rfl); exact (hρ _ _ h).trans TU.cS
    · obtain ⟨o, h, _⟩ := TU.there (.inr (.inl rfl)); exact (hρ _ _ h).trans TU.cm
    · obtain ⟨o, h, _⟩ := TU.there (.inr (.inr hy)); exact (hρ _ _ h).trans (TU.ca y hy)
/-- the memory behind the two writes -/
theorem MemD.begun {m : Mem} {H H' : Hp} {hv : List V} (D : MemD m H hv) (I : MInv m) (t : Tups H H') (hl : hv.length = 461) (hn : m.deeds.length < 110) {d : List En} {n : Nat} {v : V} (hr : RecV H' v m.deeds.length d) :
    MemD (addD m d n) H' ((hv.set (101 + 2 * m.deeds.length) (.int 0)).set (100 + 2 * m.deeds.length) v) := by
  have ln : (addD m d n).deeds.length = m.deeds.length + 1 := by simp [Esp.addD]
  have out : ∀ j, j ≠ 101 + 2 * m.deeds.length → j ≠ 100 + 2 * m.deeds.length → ((hv.set (101 + 2 * m.deeds.length) (.int 0)).set (100 + 2 * m.deeds.length) v)[j]? = hv[j]? := fun j h1 h2 => by
    rw [List.getElem?_set_ne (Ne.symm h2), List.getElem?_set_ne (Ne.symm h1)]
  refine ⟨fun p hp => ?_, fun k hk => ?_, fun k hk => ?_, by rw [ln]; omega⟩
  · obtain ⟨x, h1, h2⟩ := D.w p hp
    refine ⟨x, by rw [out _ (by omega) (by omega)]; exact h1, ?_⟩
    have h3 := h2.mono t
    show WdV (addD m d n) H' x p (m.word p)
    cases hw : m.word p with
    | adr a => rw [hw] at h3; exact h3
    | mark k =>
      rw [hw] at h3
      have hk := (I.own p k hw).1
      show MarkV H' x k (entAt (es (addD m d n) k) p)
      rw [Esp.es_old hk]; exact h3
  · rw [ln] at hk
    by_cases e : k = m.deeds.length
    · subst e
      rw [Esp.es_new]
      exact ⟨v, List.getElem?_set_self (by rw [List.length_set, hl]; omega), hr⟩
    · obtain ⟨x, h1, h2⟩ := D.r k (by omega)
      refine ⟨x, by rw [out _ (by omega) (by omega)]; exact h1, ?_⟩
      rw [Esp.es_old (by omega)]; exact h2.mono t
  · rw [ln] at hk
    by_cases e : k = m.deeds.length
    · subst e
      refine ⟨.int 0, by rw [List.getElem?_set_ne (by omega), List.getElem?_set_self (by rw [hl]; omega)], ?_⟩
      show StsV H' (.int 0) (m.sts m.deeds.length)
      rw [I.un _ (Nat.le_refl _)]; rfl
    · obtain ⟨x, h1, h2⟩ := D.s k (by omega)
      exact ⟨x, by rw [out _ (by omega) (by omega)]; exact h1, h2.mono t⟩
section
variable {P : Program} {w : World} {K : PySem.W.Frag} {mg : Str → Option Value} {base : Heap} {c : Cl}
/-! ### _law_begin -/
/-- the entries so far -/
structure Ents (m : Mem) (H : Hp) (e : Addr) (i : Nat) (d : List En) : Prop where
  at_ : ∃ xs, H e = some (.lst xs) ∧ xs.length = d.length ∧ ∀ (j : Nat) (en : En), d[j]? = some en → ∃ x, xs[j]? = some x ∧ EnV H x en
  asc : d.Pairwise (fun a b => a.p < b.p)
  ok : ∀ en ∈ d, en.p < i ∧ en.p < 6 ∧ en.n = 150 + 8 * (m.deeds.length : Int) + en.p ∧ (en.o = 450 + (en.p : Int) ∨ en.o = shown m en.p)
  len : d.length ≤ i
theorem Ents.snoc {m : Mem} {H H' : Hp} {e : Addr} {i i' : Nat} {d : List En} (E : Ents m H e i d) {en : En} {t : Addr} {xs : List V} (hxs : H e = some (.lst xs)) (h' : H' e = some (.lst (xs ++ [.ref t]))) (ht : H' t = some (.tup [.int (5 + en.p), .int en.o, .int en.n])) (tu : Tups H H')
    (h1 : i ≤ en.p) (h2 : en.p < i') (h6 : en.p < 6) (h3 : en.n = 150 + 8 * (m.deeds.length : Int) + en.p) (h4 : en.o = 450 + (en.p : Int) ∨ en.o = shown m en.p) (hi : i + 1 ≤ i') : Ents m H' e i' (d ++ [en]) := by
  obtain ⟨⟨xs', hx, hl, hf⟩, asc, ok, len⟩ := E
  rw [hxs] at hx
  cases hx
  refine ⟨⟨_, h', by rw [List.length_append, List.length_append, hl]; rfl, fun j en' hj => ?_⟩, ?_, fun x hx => ?_, by rw [List.length_append]; show d.length + 1 ≤ i'; omega⟩
  · by_cases hj' : j < d.length
    · rw [List.getElem?_append_left hj'] at hj
      obtain ⟨x, h5, h6⟩ := hf j en' hj
      exact ⟨x, by rw [List.getElem?_append_left (by omega)]; exact h5, h6.mono tu⟩
    · rw [List.getElem?_append_right (by omega)] at hj
      have : j - d.length = 0 := by
        have := (List.getElem?_eq_some_iff.mp hj).1
        have h1 : ([en] : List En).length = 1 := rfl
        omega
      rw [this] at hj
      cases hj
      refine ⟨.ref t, by rw [List.getElem?_append_right (by omega), hl, this]; rfl, t, rfl, ht⟩
  · rw [List.pairwise_append]
    refine ⟨asc, List.pairwise_singleton _ _, fun a ha b hb => ?_⟩
    rw [List.mem_singleton.mp hb]
    have := (ok a ha).1
    omega
  · rcases List.mem_append.mp hx with hx | hx
    · obtain ⟨a, b, c, d⟩ := ok x hx
      exact ⟨by omega, b, c, d⟩
    · rw [List.mem_singleton.mp hx]; exact ⟨h2, h6, h3, h4⟩
theorem Ents.mono {m : Mem} {H H' : Hp} {e : Addr} {i i' : Nat} {d : List En} (E : Ents m H e i d) (s : ∀ xs, H e = some (.lst xs) → H' e = some (.lst xs)) (tu : Tups H H') (hi : i ≤ i') : Ents m H' e i' d := by
  obtain ⟨⟨xs', hx, hl, hf⟩, asc, ok, len⟩ := E
  refine ⟨⟨xs', s _ hx, hl, fun j en hj => ?_⟩, asc, fun x hx => ?_, by omega⟩
  · obtain ⟨x, h5, h6⟩ := hf j en hj
    exact ⟨x, h5, h6.mono tu⟩
  · obtain ⟨a, b⟩ := ok x hx; exact ⟨by omega, b⟩
end
end Wk
set_option Elab.async false
set_option linter.all false
set_option maxRecDepth 100000
set_option maxHeartbeats 4000000
namespace Wk
open PySem L2
open Esp (En Sts Wd Ph Mem es nn ent pg entAt shS shW shown stepF stepS settle passF MInv FOk ChgOk Chg chk G GInv Th addD wfD)
section
variable {P : Program} {w : World} {K : PySem.W.Frag} {mg : Str → Option Value} {base : Heap} {c : Cl}
def spBegin (c : Cl) : Sp := fun vs H Q _ => ∃ (Z : Zs) (g : G) (ρ : Addr → Nat) (ds Ls : List Addr) (TA : Nat → TAt) (th : V) (nu pk : Int), vs = [.ref Z.A.mem, th, .ref Z.dl, .ref Z.sh, .int nu, .int pk] ∧
  LS c Z H g ρ ds Ls TA ∧ GInv g ∧ g.m.deeds.length < 110 ∧ g.m.count < 900000 ∧ (∀ k, k < g.m.deeds.length → Q (.int (100 + 2 * k)) H) ∧
  ∀ H' ρ' ds' Ls' d b, LS c Z H' ⟨addD g.m d (g.m.count + 2), g.th, Esp.up g.fits g.m.deeds.length b⟩ ρ' ds' Ls' TA → wfD g.m.deeds.length d → (∀ e ∈ d, e.o = 450 + (e.p : Int) ∨ e.o = shown g.m e.p) → Q (.int (100 + 2 * g.m.deeds.length)) H'
theorem scBg : FnScope ["_law_memory", "_law_thread", "_law_deeds", "_law_shown_here", "_law_number", "_law_pick", "_law_address", "_law_entries", "_law_fits", "_law_page", "_law_old"] ["_law_memory", "_law_thread", "_law_deeds", "_law_shown_here", "_law_number", "_law_pick"] (defScope sBegin) :=
  ⟨rfl, rfl, rfl, by decide +kernel, rfl, by decide +kernel, by decide +kernel⟩
theorem ok_begin {f : Addr} {fd : FuncData} (T : Txt K mg c) (F : Fun K "_law_begin" "_law_begin" sBegin f fd)
    (W1 : MOk P w K mg base c.M "access" 2 ["self", "thread", "request"] (spAccess K c)) (W2 : DOk P w K mg base "deed_record" 1 ["status", "entries"] spDeedRec) :
    FnOk P w K mg base CX0 3 f fd ["_law_memory", "_law_thread", "_law_deeds", "_law_shown_here", "_law_number", "_law_pick"] (spBegin c) := by
  obtain ⟨f1, fd1, m1, G1, b1⟩ := W1.ex
  obtain ⟨f2, fd2, g2, k2, G2, b2⟩ := W2.ex
  refine F.ok scBg (fun vs H Q E h => ?_) (fun cdv A outer s H vs Q E hr h => ?_)
  · obtain ⟨Z, g, ρ, ds, Ls, TA, th, nu, pk, rfl, _⟩ := h
    rfl
  · obtain ⟨Z, g, ρ, ds, Ls, TA, th, nu, pk, rfl, L, J, hlen, hcnt, qA, qB⟩ := h
    have hr1 : Room 1 _ := hr.mono (by decide)
    obtain ⟨hvs, MC, MD⟩ := id L.mem
    obtain ⟨dm, hm⟩ := MC.mem
    obtain ⟨dlay, hlay⟩ := MC.lay
    obtain ⟨al, hal, _⟩ := MC.acc
    have hdl := L.dee.dl
    have hdlen := L.dee.len
    have elen : (((ds.map V.ref).length : Nat) : Int) = (g.m.deeds.length : Int) := by rw [List.length_map, hdlen]
    refine ⟨_, Evl.pss_cut (ps_if (PW.pt (pw_and (pt_cmpR op_eq (pe_op op_mod (pv 4) pe_int) pe_int (nomark _)) (pw_and1 (pt_cmpR op_gt (pe_callB call_len_seq (by rfl) T.len PySem.boot_len (pa_cons (pv 2) pa_nil)) pe_int (nomark _)))))
        (pss_one (ps_ret (pe_ix ix_list (pe_ix ix_list (pv 2) (pe_op op_mod (pv 5) (pe_callB call_len_seq (by rfl) T.len PySem.boot_len (pa_cons (pv 2) pa_nil))) (fun _ _ => rfl)) pe_int (fun _ _ => rfl)))) pss_nil)
      (pss_cons (ps_set (i := 6) scBg.nd rfl (Or.inl rfl) (pe_op op_add pe_int (pe_op op_mul pe_int (pe_callB call_len_seq (by rfl) T.len PySem.boot_len (pa_cons (pv 2) pa_nil)))))
      (pss_cons (ps_set (i := 7) scBg.nd rfl (Or.inl rfl) (pe_lst pa_nil))
      (pss_cons (ps_set (i := 8) scBg.nd rfl (Or.inl rfl) pe_bl)
      (pss_cons (ps_for PassesOwn.never rfl (pi_range1 (by rfl) T.range (pa_cons pe_int pa_nil)) (pg_name (i := 9) scBg.nd rfl (Or.inl rfl))
        (pss_one (ps_if (PW.pt (pw_and (pt_cmpR op_eq (pe_op op_mod (pe_op op_add (pe_op op_fdivN (pv 5) (pe_op op_add pe_int (pv 9))) (pv 4)) pe_int) pe_int (nomark _)) (pw_and1 (pt_cmpR op_lt (pe_callB call_len_seq (by rfl) T.len PySem.boot_len (pa_cons (pv 7) pa_nil)) pe_int (nomark _)))))
          (pss_cons (ps_set (i := 10) scBg.nd rfl (Or.inl rfl) (pe_ix ix_list (pv 3) (pv 9) (fun _ _ => rfl)))
          (Evl.pss_cut (ps_if (PW.pt (pw_and (pt_cmpR op_eq (pe_op op_mod (pe_op op_fdiv (pv 4) pe_int) pe_int) pe_int (nomark _)) (pw_and1 (pt_cmpR op_eq (pe_op op_mod (pv 9) pe_int) (pe_op op_mod (pv 5) pe_int) (nomark _)))))
            (pss_cons (ps_set (i := 10) scBg.nd rfl (Or.inl rfl) (pe_op op_add pe_int (pv 9))) (pss_one (ps_set (i := 8) scBg.nd rfl (Or.inl rfl) pe_bl))) pss_nil)
          (pss_one (ps_expr (pe_bm PySem.F.plainAttrs_list PySem.F.slot_list_append PySem.F.type_list_append mt_append (pv 7) (pa_cons (pe_tup (pa_cons (pe_op op_add pe_int (pv 9)) (pa_cons (pv 10) (pa_cons (pe_op op_add (pe_op op_add pe_int (pe_op op_mul pe_int (pe_callB call_len_seq (by rfl) T.len PySem.boot_len (pa_cons (pv 2) pa_nil)))) (pv 9)) pa_nil)))) pa_nil)))))) pss_nil)))
      (Evl.pss_cut (ps_if (pt_cmpR op_eq (pe_callB call_len_seq (by rfl) T.len PySem.boot_len (pa_cons (pv 7) pa_nil)) pe_int (nomark _))
        (pss_one (ps_expr (pe_bm PySem.F.plainAttrs_list PySem.F.slot_list_append PySem.F.type_list_append mt_append (pv 7) (pa_cons (pe_tup (pa_cons (pe_op op_add pe_int (pe_op op_mod (pv 5) pe_int)) (pa_cons (pe_ix ix_list (pv 3) (pe_op op_mod (pv 5) pe_int) (fun _ _ => rfl)) (pa_cons (pe_op op_add (pe_op op_add pe_int (pe_op op_mul pe_int (pe_callB call_len_seq (by rfl) T.len PySem.boot_len (pa_cons (pv 2) pa_nil)))) (pe_op op_mod (pv 5) pe_int)) pa_nil)))) pa_nil)))) pss_nil)
      (pss_cons (ps_expr (pe_meth (pv 0) T.M m1 G1 hr b1 .nil pass0 (pa_cons (pv 1) (pa_cons (pe_tup (pa_cons pe_str (pa_cons (pe_op op_add (pv 6) pe_int) (pa_cons pe_int pa_nil)))) pa_nil))))
      (pss_cons (ps_expr (pe_meth (pv 0) T.M m1 G1 hr b1 .nil pass0 (pa_cons (pv 1) (pa_cons (pe_tup (pa_cons pe_str (pa_cons (pv 6) (pa_cons (pe_call G2 hr1 (by rfl) g2 k2 b2 .nil pass0 (pa_cons (pe_op op_add (pv 6) pe_int) (pa_cons (pv 7) pa_nil))) pa_nil)))) pa_nil))))
      (pss_cons (ps_expr (pe_bm PySem.F.plainAttrs_list PySem.F.slot_list_append PySem.F.type_list_append mt_append (pv 2) (pa_cons (pe_lst (pa_cons (pv 6) (pa_cons (pv 7) (pa_cons pe_int (pa_cons (pv 8) pa_nil))))) pa_nil)))
      (pss_one (ps_ret (pv 6))))))))))), ?_⟩
    have i101 : (100 : Int) + 2 * (g.m.deeds.length : Int) + 1 = ((101 + 2 * g.m.deeds.length : Nat) : Int) := by omega
    have i100 : (100 : Int) + 2 * (g.m.deeds.length : Int) = ((100 + 2 * g.m.deeds.length : Nat) : Int) := by omega
    have i101' : (100 : Int) + 2 * (g.m.deeds.length : Int) + 1 = 101 + 2 * (g.m.deeds.length : Int) := by omega
    have v1 : HO.tup [.str "write", .int (100 + 2 * (g.m.deeds.length : Int) + 1), .int 0] = HO.tup (Rq.wr (101 + 2 * g.m.deeds.length) (.int 0)).vals := by rw [i101]; rfl
    -- number % 3 == 0 and len(deeds) > 0
    refine ⟨fun σ' H' => σ' = [some (.ref Z.A.mem), some th, some (.ref Z.dl), some (.ref Z.sh), some (.int nu), some (.int pk), none, none, none, none, none] ∧ H = H', ⟨_, rfl, _, _, rfl, rfl, (by show (0 : Int) < 3; decide), rfl, _, rfl, ?_⟩, ?_⟩
    · by_cases h1 : nu % 3 = 0
      · refine iT (decide_eq_true (congrArg V.int h1)) ⟨_, rfl, Z.dl, _, rfl, .inl (SqL.of hdl), _, _, rfl, rfl, _, rfl, ?_⟩
        by_cases h2 : (0 : Int) < (((ds.map V.ref).length : Nat) : Int)
        · refine iT (decide_eq_true h2) ?_
          have p0 := Int.emod_nonneg pk (b := (((ds.map V.ref).length : Nat) : Int)) (by omega)
          have p1 := Int.emod_lt_of_pos pk h2
          have hk : (pk % (((ds.map V.ref).length : Nat) : Int)).toNat < ds.length := by rw [List.length_map] at p0 p1 ⊢; omega
          have hk2 : (pk % (((ds.map V.ref).length : Nat) : Int)).toNat < Ls.length := by rw [L.dee.llen, ← L.dee.len]; exact hk
          obtain ⟨⟨sv, hA, _⟩, _⟩ := L.dee.at_ _ _ _ (List.getElem?_eq_getElem hk) (List.getElem?_eq_getElem hk2)
          have hx : (ds.map V.ref)[(pk % (((ds.map V.ref).length : Nat) : Int)).toNat]? = some (.ref (ds[(pk % (((ds.map V.ref).length : Nat) : Int)).toNat]'hk)) := by rw [List.getElem?_map, List.getElem?_eq_getElem hk]; rfl
          have hat := atI_nat hx
          rw [Int.toNat_of_nonneg p0] at hat
          exact ⟨_, rfl, _, rfl, _, rfl, Z.dl, _, rfl, .inl (SqL.of hdl), _, _, rfl, rfl, h2, Z.dl, _, _, _, rfl, rfl, SqL.of hdl, hat, _, _, _, _, rfl, rfl, SqL.of hA, atI_nat (j := 0) rfl, qA _ (by rw [← hdlen]; exact hk)⟩
        · exact iF (decide_eq_false h2) ⟨rfl, rfl⟩
      · exact iF (decide_eq_false (by intro z; injection z with z; exact h1 z)) (iF rfl ⟨rfl, rfl⟩)
    rintro σ' H' ⟨rfl, rfl⟩
    refine ⟨_, rfl, Z.dl, _, rfl, .inl (SqL.of hdl), _, _, rfl, rfl, .inl ⟨by decide, by decide⟩, _, _, rfl, rfl, ?_⟩
    rw [elen]
    refine ⟨Nat.zero_le _, fun e he => ?_⟩
    have nem : Z.A.mem ≠ e := ne_of_none hm he
    have nea : Z.A.acc ≠ e := ne_of_none hal he
    have neh : Z.A.held ≠ e := ne_of_none MC.held he
    have ned : Z.dl ≠ e := ne_of_none hdl he
    refine ⟨6, rfl, by decide, by decide, for_range (lo := 0) (n := 6) (fun i σ H' => ∃ (d : List En) (bf : Bool) (v9 v10 : Option V), σ = [some (.ref Z.A.mem), some th, some (.ref Z.dl), some (.ref Z.sh), some (.int nu), some (.int pk), some (.int (100 + 2 * (g.m.deeds.length : Int))), some (.ref e), some (.bl bf), v9, v10] ∧
      Same H H' ∧ Ents g.m H' e i d) ?_ ?_ ?_⟩
    · exact ⟨[], true, _, _, rfl, newT he, ⟨⟨[], upd_same, rfl, fun j en hj => by cases hj⟩, List.Pairwise.nil, (fun en h => nomatch h), Nat.le_refl _⟩⟩
    · rintro i σ H1 hi ⟨d, bf, v9, v10, rfl, s1, E1⟩
      have e0 : (0 : Int) + (i : Int) = ((i : Nat) : Int) := by omega
      rw [e0]
      have go_on : ∃ (d' : List En) (bf' : Bool) (v9' v10' : Option V), [some (.ref Z.A.mem), some th, some (.ref Z.dl), some (.ref Z.sh), some (.int nu), some (.int pk), some (.int (100 + 2 * (g.m.deeds.length : Int))), some (.ref e), some (.bl bf), some (.int (i : Int)), v10] = [some (.ref Z.A.mem), some th, some (.ref Z.dl), some (.ref Z.sh), some (.int nu), some (.int pk), some (.int (100 + 2 * (g.m.deeds.length : Int))), some (.ref e), some (.bl bf'), v9', v10'] ∧
          Same H H1 ∧ Ents g.m H1 e (i + 1) d' := ⟨d, bf, _, _, rfl, s1, E1.mono (fun _ h => h) (Tups.refl _) (Nat.le_succ _)⟩
      obtain ⟨xs, hxs, hxl, hxe⟩ := E1.at_
      refine ⟨_, rfl, _, rfl, _, _, rfl, rfl, _, _, rfl, rfl, ⟨by omega, by omega⟩, _, rfl, _, _, rfl, rfl, _, _, rfl, rfl, (by show (0 : Int) < 3; decide), rfl, _, rfl, ?_⟩
      by_cases c1 : decide (V.int ((Int.fdiv pk (1 + (i : Int)) + nu) % 3) = V.int 0) = true
      · refine iT c1 ⟨_, rfl, e, xs, rfl, .inl (SqL.of hxs), _, _, rfl, rfl, _, rfl, ?_⟩
        refine iT (decide_eq_true (by have := E1.len; omega)) ?_
        refine ⟨_, rfl, _, rfl, Z.sh, _, _, _, rfl, rfl, SqL.of (s1 _ _ L.sh), atI_nat (shL_get _ hi), ?_⟩
        refine ⟨fun σ' H' => ∃ (bf' : Bool) (old : Int), σ' = [some (.ref Z.A.mem), some th, some (.ref Z.dl), some (.ref Z.sh), some (.int nu), some (.int pk), some (.int (100 + 2 * (g.m.deeds.length : Int))), some (.ref e), some (.bl bf'), some (.int (i : Int)), some (.int old)] ∧ H1 = H' ∧ (old = 450 + (i : Int) ∨ old = shown g.m i),
          ⟨_, rfl, _, _, rfl, rfl, ⟨by decide, by decide⟩, _, _, rfl, rfl, (by show (0 : Int) < 5; decide), rfl, _, rfl, ?_⟩, ?_⟩
        · by_cases c2 : decide (V.int (nu / 3 % 5) = V.int 0) = true
          · refine iT c2 ⟨_, rfl, _, _, rfl, rfl, (by show (0 : Int) < 2; decide), _, rfl, _, _, rfl, rfl, (by show (0 : Int) < 2; decide), rfl, _, rfl, ?_⟩
            by_cases c3 : decide (V.int ((i : Int) % 2) = V.int (pk % 2)) = true
            · refine iT c3 ⟨_, rfl, _, _, rfl, rfl, ?_⟩
              exact ⟨false, _, rfl, rfl, .inl rfl⟩
            · refine iF (by simpa using c3) ⟨bf, _, rfl, rfl, .inr rfl⟩
          · refine iF (by simpa using c2) (iF rfl ⟨bf, _, rfl, rfl, .inr rfl⟩)
        · rintro σ' H' ⟨bf', old, rfl, rfl, hold⟩
          refine ⟨_, rfl, .inl ⟨rfl, _, SqL.of hxs⟩, _, rfl, _, _, rfl, rfl, _, rfl, _, rfl, Z.dl, _, rfl, .inl (SqL.of (s1 _ _ hdl)), _, _, rfl, rfl, .inl ⟨by decide, by decide⟩, _, _, rfl, rfl, _, rfl, _, _, rfl, rfl, (by show 3 ≤ sizeLine; decide), fun t ht => ?_⟩
          rw [elen]
          have nte : e ≠ t := ne_of_none hxs ht
          refine ⟨e, xs, _, rfl, rfl, (upd_ne nte).trans hxs, Nat.lt_of_le_of_lt (by have := E1.len; omega : xs.length ≤ 6) (by decide), ?_⟩
          have hete : ∀ o, Same H (upd (upd H1 t o) e (.lst (xs ++ [.ref t]))) := fun o b o' h => by
            rw [upd_ne (ne_of_none h he), upd_ne (ne_of_none (s1 _ _ h) ht)]; exact s1 _ _ h
          refine ⟨d ++ [⟨i, old, 150 + 8 * (g.m.deeds.length : Int) + i⟩], bf', _, _, rfl, hete _, ?_⟩
          exact E1.snoc (t := t) hxs upd_same ((upd_ne nte.symm).trans upd_same) ((Same.tups (newT ht)).trans (Tups.lst ((upd_ne nte).trans hxs))) (Nat.le_refl i) (Nat.lt_succ_self i) hi rfl hold (Nat.le_refl _)
      · exact iF (by simpa using c1) (iF rfl go_on)
    · rintro σ H1 ⟨d, bf, v9, v10, rfl, s1, E1⟩
      refine ⟨fun σ' H' => ∃ (d : List En) (bf : Bool) (v9 v10 : Option V), σ' = [some (.ref Z.A.mem), some th, some (.ref Z.dl), some (.ref Z.sh), some (.int nu), some (.int pk), some (.int (100 + 2 * (g.m.deeds.length : Int))), some (.ref e), some (.bl bf), v9, v10] ∧
        Same H H' ∧ Ents g.m H' e 6 d ∧ d ≠ [], ?_, ?_⟩
      · obtain ⟨xs, hxs, hxl, hxe⟩ := E1.at_
        refine ⟨_, rfl, e, xs, rfl, .inl (SqL.of hxs), rfl, _, rfl, ?_⟩
        by_cases hd : d = []
        · subst hd
          refine iT (decide_eq_true (by rw [hxl]; rfl)) ?_
          have p0 := Int.emod_nonneg pk (b := 6) (by decide)
          have p1 := Int.emod_lt_of_pos pk (b := 6) (by decide)
          have hk : (pk % 6).toNat < 6 := by omega
          have hat := atI_nat (shL_get (shown g.m) hk)
          have ek : (((pk % 6).toNat : Nat) : Int) = pk % 6 := Int.toNat_of_nonneg p0
          rw [ek] at hat
          refine ⟨_, rfl, .inl ⟨rfl, _, SqL.of hxs⟩, _, rfl, _, _, rfl, rfl, (by show (0 : Int) < 6; decide), _, _, rfl, rfl, _, rfl, _, rfl, _, _, rfl, rfl, (by show (0 : Int) < 6; decide), Z.sh, _, _, _, rfl, rfl, SqL.of (s1 _ _ L.sh), hat, _, rfl, Z.dl, _, rfl, .inl (SqL.of (s1 _ _ hdl)), _, _, rfl, rfl, .inl ⟨by decide, by decide⟩, _, _, rfl, rfl, _, rfl, _, _, rfl, rfl, (by show (0 : Int) < 6; decide), _, _, rfl, rfl, (by show 3 ≤ sizeLine; decide), fun t ht => ?_⟩
          rw [elen]
          have nte : e ≠ t := ne_of_none hxs ht
          refine ⟨e, xs, _, rfl, rfl, (upd_ne nte).trans hxs, Nat.lt_of_le_of_lt (by rw [hxl]; exact Nat.zero_le 6 : xs.length ≤ 6) (by decide), ?_⟩
          refine ⟨[⟨(pk % 6).toNat, shown g.m (pk % 6).toNat, 150 + 8 * (g.m.deeds.length : Int) + ((pk % 6).toNat : Int)⟩], bf, _, _, rfl, fun b o' h => ?_, ?_, by simp⟩
          · rw [upd_ne (ne_of_none h he), upd_ne (ne_of_none (s1 _ _ h) ht)]; exact s1 _ _ h
          · have E0 : Ents g.m H1 e 0 [] := ⟨⟨xs, hxs, hxl, hxe⟩, List.Pairwise.nil, (fun en h => nomatch h), Nat.le_refl _⟩
            refine E0.snoc (en := ⟨(pk % 6).toNat, shown g.m (pk % 6).toNat, 150 + 8 * (g.m.deeds.length : Int) + ((pk % 6).toNat : Int)⟩) (t := t) hxs upd_same ((upd_ne nte.symm).trans (upd_same.trans ?_)) ((Same.tups (newT ht)).trans (Tups.lst ((upd_ne nte).trans hxs))) (Nat.zero_le _) hk hk rfl (.inr rfl) (by decide)
            show some (HO.tup [V.int (5 + pk % 6), V.int (shown g.m (pk % 6).toNat), V.int (150 + 8 * (g.m.deeds.length : Int) + pk % 6)]) = some (HO.tup [V.int (5 + ((pk % 6).toNat : Int)), V.int (shown g.m (pk % 6).toNat), V.int (150 + 8 * (g.m.deeds.length : Int) + ((pk % 6).toNat : Int))])
            rw [ek]
        · refine iF (decide_eq_false (fun z => hd ?_)) ⟨d, bf, _, _, rfl, s1, E1, hd⟩
          injection z with z
          refine List.eq_nil_of_length_eq_zero ?_
          omega
      · rintro σ' H1 ⟨d, bf, v9, v10, rfl, s1, E1, hdne⟩
        obtain ⟨xs, hxs, hxl, hxe⟩ := E1.at_
        have h6 := E1.len
        have wfd : wfD g.m.deeds.length d := ⟨hdne, h6, E1.asc, fun en h => ⟨(E1.ok en h).2.1, (E1.ok en h).2.2.1⟩⟩
        -- the status
        refine ⟨_, rfl, Z.A.mem, dm, _, rfl, s1 _ _ hm, mfs_no (by decide +kernel), _, rfl, _, rfl, _, _, rfl, rfl, (by show 3 ≤ sizeLine; decide), fun r1 hr1' => ?_⟩
        have sA := newT (o := .tup [.str "write", .int (100 + 2 * (g.m.deeds.length : Int) + 1), .int 0]) hr1'
        have s2 := s1.trans sA
        refine ⟨Z.A, g.m.count, hvs, .wr (101 + 2 * g.m.deeds.length) (.int 0), r1, th, rfl, MC.same s2, by omega, (upd_same.trans (congrArg some v1)), (by show 101 + 2 * g.m.deeds.length < 461; omega), fun H2 hv2 x2 t2 M2 fr2 ht2 dn2 => ?_⟩
        have dn2' : hv2 = hvs.set (101 + 2 * g.m.deeds.length) (.int 0) := dn2
        subst dn2'
        obtain ⟨dm2, hm2⟩ := M2.mem
        have hne2 : ∀ x o, H x = some o → x ≠ e := fun x o h => ne_of_none h he
        have fr02 : ∀ b o, H b = some o → b ≠ Z.A.mem → b ≠ Z.A.acc → b ≠ Z.A.held → H2 b = some o := fun b o h => fr2 b o (s2 b o h)
        have he2 : H2 e = some (.lst xs) := fr2 _ _ (sA _ _ hxs) nem.symm nea.symm neh.symm
        have tu12 : Tups H1 H2 := fun b ys h => fr2 b _ (sA _ _ h) (ne_of h (s1 _ _ hm) (by intro z; cases z)) (ne_of h (s1 _ _ hal) (by intro z; cases z)) (ne_of h (s1 _ _ MC.held) (by intro z; cases z))
        -- the record
        refine ⟨_, rfl, Z.A.mem, dm2, _, rfl, hm2, mfs_no (by decide +kernel), _, rfl, _, rfl, _, rfl, _, _, rfl, rfl, _, rfl, g.m.deeds.length, e, xs, d, (by show [V.int (100 + 2 * (g.m.deeds.length : Int) + 1), V.ref e] = _; rw [i101']), he2, hxl, (fun j en hj => by
          obtain ⟨x, h1, h2⟩ := hxe j en hj
          exact ⟨x, h1, h2.mono tu12⟩), hdne, h6, E1.asc, fun H3 p3 s3 rec3 => ?_⟩
        refine ⟨(by show 3 ≤ sizeLine; decide), fun r2 hr2' => ?_⟩
        have sB := newT (o := .tup [.str "write", .int (100 + 2 * (g.m.deeds.length : Int)), .ref p3]) hr2'
        have s4 := s3.trans sB
        have v2 : HO.tup [.str "write", .int (100 + 2 * (g.m.deeds.length : Int)), .ref p3] = HO.tup (Rq.wr (100 + 2 * g.m.deeds.length) (.ref p3)).vals := by rw [i100]; rfl
        refine ⟨Z.A, g.m.count + 1, _, .wr (100 + 2 * g.m.deeds.length) (.ref p3), r2, th, rfl, M2.same s4, by omega, (upd_same.trans (congrArg some v2)), (by show 100 + 2 * g.m.deeds.length < 461; omega), fun H4 hv4 x4 t4 M4 fr4 ht4 dn4 => ?_⟩
        have dn4' : hv4 = (hvs.set (101 + 2 * g.m.deeds.length) (.int 0)).set (100 + 2 * g.m.deeds.length) (.ref p3) := dn4
        subst dn4'
        obtain ⟨dm3, hm3⟩ := M2.mem
        obtain ⟨al2, hal2, _⟩ := M2.acc
        have tu34 : Tups H3 H4 := fun b ys h => fr4 b _ (sB _ _ h) (ne_of h (s3 _ _ hm2) (by intro z; cases z)) (ne_of h (s3 _ _ hal2) (by intro z; cases z)) (ne_of h (s3 _ _ M2.held) (by intro z; cases z))
        have fr24 : ∀ b o, H2 b = some o → b ≠ Z.A.mem → b ≠ Z.A.acc → b ≠ Z.A.held → H4 b = some o := fun b o h => fr4 b o (s4 b o h)
        have fr04 : ∀ b o, H b = some o → b ≠ Z.A.mem → b ≠ Z.A.acc → b ≠ Z.A.held → H4 b = some o := fun b o h h1 h2 h3 => fr24 b o (fr02 b o h h1 h2 h3) h1 h2 h3
        have he4 : H4 e = some (.lst xs) := fr24 _ _ he2 nem.symm nea.symm neh.symm
        have tu14 : Tups H1 H4 := (tu12.trans (Same.tups s3)).trans tu34
        have tu04 : Tups H H4 := (Same.tups s1).trans tu14
        have rec4 : RecV H4 (.ref p3) g.m.deeds.length d := rec3.mono tu34
        have D4 := MD.begun (n := g.m.count + 2) J.I.M tu04 MC.len hlen rec4
        have cne : ∀ {a b : Addr} {i j : Nat}, ρ a = i → ρ b = j → i ≠ j → a ≠ b := fun h1 h2 h3 e => h3 (by rw [← h1, ← h2, e])
        have hdl4 : H4 Z.dl = some (.lst (ds.map V.ref)) := fr04 _ _ hdl (cne L.col.dl L.col.mem (by decide)) (cne L.col.dl L.col.acc (by decide)) (cne L.col.dl L.col.held (by decide))
        -- deeds.append
        refine ⟨_, rfl, .inl ⟨rfl, _, SqL.of hdl4⟩, _, rfl, _, rfl, _, rfl, (by show 4 ≤ sizeLine; decide), fun a ha => ?_⟩
        have nda : Z.dl ≠ a := ne_of_none hdl4 ha
        refine ⟨Z.dl, _, _, rfl, rfl, (upd_ne nda).trans hdl4, Nat.lt_of_le_of_lt (by rw [List.length_map, hdlen]; omega : (ds.map V.ref).length ≤ 110) (by decide), ?_⟩
        refine ⟨_, rfl, ?_⟩
        have ha0 : H a = none := by
          cases ez : H a with
          | none => rfl
          | some o =>
            exfalso
            by_cases q1 : a = Z.A.mem
            · obtain ⟨dx, hz⟩ := M4.mem; rw [q1, hz] at ha; cases ha
            by_cases q2 : a = Z.A.acc
            · obtain ⟨al', hz, _⟩ := M4.acc; rw [q2, hz] at ha; cases ha
            by_cases q3 : a = Z.A.held
            · rw [q3, M4.held] at ha; cases ha
            rw [fr04 a o ez q1 q2 q3] at ha; cases ha
        have nae : a ≠ e := fun z => by rw [z, he4] at ha; cases ha
        have sC := newT (o := .lst [.int (100 + 2 * (g.m.deeds.length : Int)), .ref e, .int 0, .bl bf]) ha
        have hdlC := sC _ _ hdl4
        have tu5 : Tups H4 (upd (upd H4 a (.lst [.int (100 + 2 * (g.m.deeds.length : Int)), .ref e, .int 0, .bl bf])) Z.dl (.lst (ds.map V.ref ++ [.ref a]))) := (Same.tups sC).trans (Tups.lst hdlC)
        have MR5 : MemR c Z.A (upd (upd H4 a (.lst [.int (100 + 2 * (g.m.deeds.length : Int)), .ref e, .int 0, .bl bf])) Z.dl (.lst (ds.map V.ref ++ [.ref a]))) (addD g.m d (g.m.count + 2)) :=
          ⟨_, M4.off fun b o h hb => by
            refine (upd_ne ?_).trans (sC _ _ h)
            rcases hb with rfl | rfl | rfl | rfl
            · exact cne L.col.mem L.col.dl (by decide)
            · exact cne L.col.lay L.col.dl (by decide)
            · exact cne L.col.acc L.col.dl (by decide)
            · exact cne L.col.held L.col.dl (by decide), D4.mono tu5⟩
        obtain ⟨ρ', L5⟩ := L.begun (d := d) (b := bf) (a := a) (e := e) (n := g.m.count + 2) J ha0 he nae MR5 (fun x o h h1 h2 h3 h4 => (upd_ne h4).trans (sC _ _ (fr04 x o h h1 h2 h3))) (by rw [upd_same, List.map_append]; rfl)
          ((upd_ne nda.symm).trans upd_same) ⟨xs, (upd_ne ned.symm).trans (sC _ _ he4), hxl, fun j en hj => by
            obtain ⟨x, h1, h2⟩ := hxe j en hj
            exact ⟨x, h1, h2.mono (tu14.trans tu5)⟩⟩
        exact qB _ ρ' _ _ d bf L5 wfd fun en h => (E1.ok en h).2.2.2
end
end Wk
set_option Elab.async false
set_option linter.all false
set_option maxRecDepth 100000
set_option maxHeartbeats 4000000
namespace Wk
open PySem L2
open Esp (En Sts Wd Ph Mem es nn ent pg entAt shS shW shown stepF stepS settle passF MInv FOk ChgOk Chg chk G GInv Th addD wfD)
/-- a thread begins a deed -/
theorem LS.started {c : Cl} {Z : Zs} {H H' : Hp} {g : G} {ρ : Addr → Nat} {ds Ls : List Addr} {TA : Nat → TAt} (L : LS c Z H g ρ ds Ls TA) {t k : Nat} (ht : t < 4) (hth : g.th t = none) {S ml b : Addr} (hS : H S = none) (hml : H ml = none) (hb : H b = none)
    (n1 : S ≠ ml) (n2 : S ≠ b) (n3 : ml ≠ b) (fr : ∀ x o, H x = some o → x ≠ Z.st → x ≠ Z.dg → H' x = some o)
    (hst : H' Z.st = some (.lst ((rgL 4 (stV g.th TA)).set t (.ref S)))) (hdg : ∀ ys, H Z.dg = some (.lst ys) → H' Z.dg = some (.lst (ys.set t (.int (100 + 2 * k)))))
    (K1 : StkA c g.m H' S ml [b] (Esp.start1 k).fs .non) :
    ∃ ρ', LS c Z H' ⟨g.m, Esp.up g.th t (some (Esp.start1 k)), g.fits⟩ ρ' ds Ls (Esp.up TA t ⟨S, ml, [b], .non⟩) := by
  obtain ⟨hvs, MC, MD⟩ := id L.mem
  obtain ⟨dm, hm⟩ := MC.mem
  obtain ⟨dlay, hlay⟩ := MC.lay
  obtain ⟨al, hal, _⟩ := MC.acc
  obtain ⟨ys, hdg0, hys, hroot⟩ := L.dg
  obtain ⟨dsL, lsL⟩ := L.dee.isL
  let ρ' : Addr → Nat := fun x => if x = S then 10 + t else if x = ml then 20 + t else if x = b then 30 + t else ρ x
  have hρ : ∀ x o, H x = some o → ρ' x = ρ x := fun x o h => by
    show (if x = S then 10 + t else if x = ml then 20 + t else if x = b then 30 + t else ρ x) = ρ x
    rw [if_neg (ne_of_none h hS), if_neg (ne_of_none h hml), if_neg (ne_of_none h hb)]
  have col' : Cols Z ρ' ds Ls := L.col.re fun x hx => by
    rcases hx with rfl | rfl | rfl | rfl | rfl | rfl | rfl | rfl | rfl | hx | hx
    · exact hρ _ _ hm
    · exact hρ _ _ hlay
    · exact hρ _ _ hal
    · exact hρ _ _ MC.held
    · exact hρ _ _ L.sh
    · exact hρ _ _ L.dee.dl
    · exact hρ _ _ L.st
    · exact hρ _ _ hdg0
    · exact hρ _ _ L.tp
    · obtain ⟨xs, e⟩ := dsL x hx; exact hρ _ _ e
    · obtain ⟨xs, e⟩ := lsL x hx; exact hρ _ _ e
  have ne : ∀ {a b : Addr} {i j : Nat}, ρ a = i → ρ b = j → i ≠ j → a ≠ b := fun h1 h2 h3 e => h3 (by rw [← h1, ← h2, e])
  have keep : ∀ x o r, H x = some o → ρ x = r → r ≠ 5 → r ≠ 6 → H' x = some o := fun x o r h hr n1 n2 => fr x o h (ne hr L.col.st n1) (ne hr L.col.dg n2)
  have tu : Tups H H' := fun x xs h => fr x _ h (ne_of h L.st (by intro z; cases z)) (ne_of h hdg0 (by intro z; cases z))
  refine ⟨ρ', ⟨hvs, MC.off fun x o h hx => ?_, MD.mono tu⟩, L.dee.keep tu fun x o hx h => ?_, keep _ _ _ L.sh L.col.sh (by decide) (by decide), ?_, fun u x hx => ?_, ⟨_, hdg _ hdg0, by rw [List.length_set]; exact hys, fun u x hx => ?_⟩, keep _ _ _ L.tp L.col.tp (by decide) (by decide), col', fun u hu => ?_⟩
  · rcases hx with rfl | rfl | rfl | rfl
    · exact keep _ _ _ h L.col.mem (by decide) (by decide)
    · exact keep _ _ _ h L.col.lay (by decide) (by decide)
    · exact keep _ _ _ h L.col.acc (by decide) (by decide)
    · exact keep _ _ _ h L.col.held (by decide) (by decide)
  · rcases hx with rfl | hx | hx
    · exact keep _ _ _ h L.col.dl (by decide) (by decide)
    · exact keep _ _ _ h (L.col.ds x hx) (by decide) (by decide)
    · exact keep _ _ _ h (L.col.ls x hx) (by decide) (by decide)
  · rw [hst, rgL_set _ ht]
    have : rgL 4 (Esp.up (stV g.th TA) t (.ref S)) = rgL 4 (stV (Esp.up g.th t (some (Esp.start1 k))) (Esp.up TA t ⟨S, ml, [b], .non⟩)) := rgL_congr fun p _ => by
      unfold stV
      by_cases e : p = t
      · subst e; rw [Esp.up_same, Esp.up_same, Esp.up_same]
      · rw [Esp.up_ne e, Esp.up_ne e, Esp.up_ne e]
    rw [this]
  · have hx2 : Esp.up g.th t (some (Esp.start1 k)) u = some x := hx
    by_cases e : u = t
    · subst e
      rw [Esp.up_same] at hx2
      cases hx2
      rw [Esp.up_same]
      refine ⟨K1, fun z => (by cases z), if_pos rfl, ?_, fun a ha => ?_⟩
      · show (if ml = S then 10 + u else if ml = ml then 20 + u else if ml = b then 30 + u else ρ ml) = 20 + u
        rw [if_neg n1.symm, if_pos rfl]
      · cases List.mem_singleton.mp ha
        show (if b = S then 10 + u else if b = ml then 20 + u else if b = b then 30 + u else ρ b) = 30 + u
        rw [if_neg n2.symm, if_neg n3.symm, if_pos rfl]
    · rw [Esp.up_ne e] at hx2
      rw [Esp.up_ne e]
      have hu := L.lt hx2
      have TU := L.thr u x hx2
      refine TU.keep rfl (fun _ => rfl) tu (fun y o hy h => ?_) (fun y hy => ?_)
      · have hc := TU.col hy
        exact keep y o _ h rfl (by omega) (by omega)
      · obtain ⟨o', h', _⟩ := TU.there hy
        exact hρ _ _ h'
  · have hx2 : Esp.up g.th t (some (Esp.start1 k)) u = some x := hx
    by_cases e : u = t
    · subst e
      rw [Esp.up_same] at hx2
      cases hx2
      exact List.getElem?_set_self (by rw [hys]; exact ht)
    · rw [Esp.up_ne e] at hx2
      rw [List.getElem?_set_ne (Ne.symm e)]
      exact hroot u x hx2
  · show Esp.up g.th t (some (Esp.start1 k)) u = none
    rw [Esp.up_ne (by omega)]; exact L.th4 u hu
/-! ### the first state -/
def m0 : Mem := ⟨[], fun _ => .und, fun p => .adr (11 + p), 0⟩
def g0 : G := ⟨m0, fun _ => none, fun _ => false⟩
theorem es_m0 (k : Nat) : es m0 k = [] := rfl
theorem g0_ok : GInv g0 := by
  refine ⟨⟨⟨fun k hk => absurd hk (Nat.not_lt_zero k), fun k e h => ?_, fun p k h => (by cases h), fun k t h => (by cases h), fun p hp => .inl rfl, fun k _ => rfl, fun k _ i j _ hi => ?_⟩, fun f h => ?_, fun p k h => (by cases h)⟩, fun t x h => (by cases h)⟩
  · have h' : e ∈ ([] : List En) := h
    cases h'
  · exact absurd hi (Nat.not_lt_zero i)
  · obtain ⟨t, x, h, _⟩ := h
    cases h
def cl0 (xs : List (Addr × Nat)) (a : Addr) : Nat := match xs with
  | [] => 0
  | (b, n) :: r => if a = b then n else cl0 r a
theorem cl0_at {xs : List (Addr × Nat)} (nd : (xs.map (·.1)).Nodup) {i : Nat} {a : Addr} {n : Nat} (h : xs[i]? = some (a, n)) : cl0 xs a = n := by
  induction xs generalizing i with
  | nil => simp at h
  | cons y r ih =>
    obtain ⟨b, m⟩ := y
    have nd' := List.nodup_cons.mp nd
    cases i with
    | zero =>
      have h' : (b, m) = (a, n) := by simpa using h
      cases h'
      exact if_pos rfl
    | succ i =>
      have h' : r[i]? = some (a, n) := by simpa using h
      have ne : a ≠ b := by
        rintro rfl
        exact nd'.1 (List.mem_map.mpr ⟨(a, n), List.mem_of_getElem? h', rfl⟩)
      show (if a = b then m else cl0 r a) = n
      rw [if_neg ne]
      exact ih nd'.2 h'
theorem LS.init {c : Cl} {Z : Zs} {H : Hp} {hv : List V} (MC : MemC c Z.A H 0 hv) (h0 : Hv0 hv) (sh : H Z.sh = some (.lst (shL (shown m0)))) (dl : H Z.dl = some (.lst [])) (st : H Z.st = some (.lst [.non, .non, .non, .non]))
    (dg : H Z.dg = some (.lst [.int 0, .int 0, .int 0, .int 0])) (tp : H Z.tp = some (.lst (Z.ts.map V.int))) (nd : [Z.A.mem, Z.A.lay, Z.A.acc, Z.A.held, Z.sh, Z.dl, Z.st, Z.dg, Z.tp].Nodup) : ∃ ρ, LS c Z H g0 ρ [] [] (fun _ => ⟨0, 0, [], .non⟩) := by
  have e : ∀ {i : Nat} {a : Addr} {n : Nat}, [(Z.A.mem, 40), (Z.A.lay, 41), (Z.A.acc, 1), (Z.A.held, 2), (Z.sh, 3), (Z.dl, 4), (Z.st, 5), (Z.dg, 6), (Z.tp, 7)][i]? = some (a, n) → cl0 [(Z.A.mem, 40), (Z.A.lay, 41), (Z.A.acc, 1), (Z.A.held, 2), (Z.sh, 3), (Z.dl, 4), (Z.st, 5), (Z.dg, 6), (Z.tp, 7)] a = n := fun h => cl0_at (xs := [(Z.A.mem, 40), (Z.A.lay, 41), (Z.A.acc, 1), (Z.A.held, 2), (Z.sh, 3), (Z.dl, 4), (Z.st, 5), (Z.dg, 6), (Z.tp, 7)]) nd h
  refine ⟨cl0 [(Z.A.mem, 40), (Z.A.lay, 41), (Z.A.acc, 1), (Z.A.held, 2), (Z.sh, 3), (Z.dl, 4), (Z.st, 5), (Z.dg, 6), (Z.tp, 7)], ⟨hv, MC, fun p hp => ⟨_, h0.2 p hp, rfl⟩, fun k hk => absurd hk (Nat.not_lt_zero k), fun k hk => absurd hk (Nat.not_lt_zero k), Nat.zero_le _⟩, ⟨dl, rfl, rfl, List.nodup_nil, fun k a L h => (by cases h)⟩, sh, st, fun t x h => (by cases h), ⟨_, dg, rfl, fun t x h => (by cases h)⟩, tp,
    ⟨e (i := 0) rfl, e (i := 1) rfl, e (i := 2) rfl, e (i := 3) rfl, e (i := 4) rfl, e (i := 5) rfl, e (i := 6) rfl, e (i := 7) rfl, e (i := 8) rfl, fun a h => (by cases h), fun a h => (by cases h)⟩, fun _ _ => rfl⟩
end Wk
set_option Elab.async false
set_option linter.all false
set_option maxRecDepth 100000
set_option maxHeartbeats 4000000
namespace Wk
open PySem L2
open Esp (En Sts Wd Ph Mem es nn ent pg entAt shS shW shown stepF stepS settle passF MInv FOk ChgOk Chg chk G GInv Th addD wfD)
section
variable {P : Program} {w : World} {K : PySem.W.Frag} {mg : Str → Option Value} {base : Heap} {c : Cl}
/-! ### law -/
def spLaw (K : PySem.W.Frag) : Sp := fun vs H Q _ => ∃ (a : Addr) (ns : List Int), vs = [.ref a] ∧ SqL K H a (ns.map V.int) ∧ ns.length ≤ 63 ∧ ∀ H', Q (.bl true) H'
theorem scLw : FnScope ["_law_script", "_law_tape_here", "_law_threads", "_law_memory", "_law_page", "_law_shown_here", "_law_deeds", "_law_stacks", "_law_doing", "_law_k", "_law_number", "_law_thread", "_law_address", "_law_first", "_law_turn"] ["_law_script"] (defScope sLaw) :=
  ⟨rfl, rfl, rfl, by decide +kernel, rfl, by decide +kernel, by decide +kernel⟩
theorem ok_law {f : Addr} {fd : FuncData} (T : Txt K mg c) (F : Fun K "law" "law" sLaw f fd)
    (A1 : DOk P w K mg base "_law_tape" 1 ["_law_script"] (spTape K)) (A2 : DOk P w K mg base "_law_at" 1 ["_law_tape_here", "_law_k"] spAt)
    (A3 : COk P w K mg base c.M "Memory" 2 ["self", "layout"] (spMemory c)) (A4 : COk P w K mg base c.L "Layout" 1 ["self", "threads", "pages", "records"] (spLayout c))
    (A5 : MOk P w K mg base c.M "peek" 2 ["self", "cell"] (spPeek c)) (A6 : DOk P w K mg base "_law_begin" 3 ["_law_memory", "_law_thread", "_law_deeds", "_law_shown_here", "_law_number", "_law_pick"] (spBegin c))
    (A7 : COk P w K mg base c.S "Stack" 1 ["self", "machine"] (spStack c)) (A8 : COk P w K mg base c.D "Doing" 1 ["self", "address"] (spDoing c))
    (A9 : MOk P w K mg base c.S "ended" 1 ["self"] (spEnded c)) (A10 : MOk P w K mg base c.S "value" 1 ["self"] (spValue c))
    (A11 : DOk P w K mg base "_law_step" 7 ["_law_memory", "_law_thread", "_law_stacks", "_law_doing", "_law_deeds", "_law_shown_here"] (spLStep c))
    (A12 : DOk P w K mg base "_law_end" 8 ["_law_memory", "_law_thread", "_law_stacks", "_law_doing", "_law_deeds", "_law_shown_here"] (spLEnd c)) :
    FnOk P w K mg base CX0 9 f fd ["_law_script"] (spLaw K) := by
  obtain ⟨f1, fd1, g1, k1, G1, b1⟩ := A1.ex
  obtain ⟨f2, fd2, g2, k2, G2, b2⟩ := A2.ex
  obtain ⟨f3, fd3, g3, M3, G3, b3⟩ := A3.ex
  obtain ⟨f4, fd4, g4, M4, G4, b4⟩ := A4.ex
  obtain ⟨f5, fd5, m5, G5, b5⟩ := A5.ex
  obtain ⟨f6, fd6, g6, k6, G6, b6⟩ := A6.ex
  obtain ⟨f7, fd7, g7, M7, G7, b7⟩ := A7.ex
  obtain ⟨f8, fd8, g8, M8, G8, b8⟩ := A8.ex
  obtain ⟨f9, fd9, m9, G9, b9⟩ := A9.ex
  obtain ⟨f10, fd10, m10, G10, b10⟩ := A10.ex
  obtain ⟨f11, fd11, g11, k11, G11, b11⟩ := A11.ex
  obtain ⟨f12, fd12, g12, k12, G12, b12⟩ := A12.ex
  refine F.ok scLw (fun vs H Q E h => ?_) (fun cdv A outer s H vs Q E hr h => ?_)
  · obtain ⟨a, ns, rfl, _⟩ := h
    rfl
  · obtain ⟨a, ns, rfl, hS, h63, q⟩ := h
    have hr1 : Room 1 _ := hr.mono (by decide)
    have hr2 : Room 2 _ := hr.mono (by decide)
    have hr3 : Room 3 _ := hr.mono (by decide)
    have hr7 : Room 7 _ := hr.mono (by decide)
    refine ⟨_, pss_cons (ps_set (i := 1) scLw.nd rfl (Or.inl rfl) (pe_call G1 hr1 (by rfl) g1 k1 b1 .nil pass0 (pa_cons (pv 0) pa_nil)))
      (pss_cons (ps_set (i := 2) scLw.nd rfl (Or.inl rfl) (pe_op op_add pe_int (pe_op op_mod (pe_call G2 hr1 (by rfl) g2 k2 b2 .nil pass0 (pa_cons (pv 1) (pa_cons pe_int pa_nil))) pe_int)))
      (pss_cons (ps_set (i := 3) scLw.nd rfl (Or.inr rfl) (pe_make M3 G3 hr3 (by rfl) g3 b3 .nil pass0 (pa_cons (pe_make M4 G4 hr2 (by rfl) g4 b4 .nil pass0 (pa_cons pe_int (pa_cons pe_int (pa_cons pe_int pa_nil)))) pa_nil)))
      (pss_cons (ps_setLc (i := 5) (own := [("_law_page", 4)]) (g := gName 4) (tt := tYes) (te := tMeth c.M "peek" (spPeek c) [] E (tVar 3) (tCons (tOp rAdd (tC (.int 5)) (tVar 4)) tNil)) rfl scLw.nd rfl rfl (sw_true rfl rfl rfl (by decide +kernel))
        (pi_range1 (by rfl) T.range (pa_cons pe_int pa_nil)) (blkOk_by (own := [("_law_page", 4)]) (N := ["_law_script", "_law_tape_here", "_law_threads", "_law_memory", "_law_page", "_law_shown_here", "_law_deeds", "_law_stacks", "_law_doing", "_law_k", "_law_number", "_law_thread", "_law_address", "_law_first", "_law_turn"]) (sc := defScope sLaw) (by decide +kernel))
        (fun _ _ _ _ _ => pg_name (i := 4) scLw.nd rfl (Or.inl rfl)) (fun _ _ _ _ _ => pts_nil) (fun _ _ _ _ _ => pe_meth (pv 3) T.M m5 G5 hr2 b5 .nil pass0 (pa_cons (pe_op op_add pe_int (pv 4)) pa_nil)))
      (pss_cons (ps_set (i := 6) scLw.nd rfl (Or.inl rfl) (pe_lst pa_nil))
      (pss_cons (ps_set (i := 7) scLw.nd rfl (Or.inl rfl) (pe_lst (pa_cons pe_non (pa_cons pe_non (pa_cons pe_non (pa_cons pe_non pa_nil))))))
      (pss_cons (ps_set (i := 8) scLw.nd rfl (Or.inl rfl) (pe_lst (pa_cons pe_int (pa_cons pe_int (pa_cons pe_int (pa_cons pe_int pa_nil))))))
      (pss_cons (ps_for PassesOwn.never rfl (pi_range1 (by rfl) T.range (pa_cons (pe_callB (call_min2 (by rfl)) (by rfl) T.min (by decide +kernel) (pa_cons pe_int (pa_cons (pe_callB (call_max2 (by rfl)) (by rfl) T.max (by decide +kernel) (pa_cons pe_int (pa_cons (pe_op op_sub (pe_callB call_len_seq (by rfl) T.len PySem.boot_len (pa_cons (pv 1) pa_nil)) pe_int) pa_nil))) pa_nil))) pa_nil)) (pg_name (i := 9) scLw.nd rfl (Or.inl rfl))
        (pss_cons (ps_set (i := 10) scLw.nd rfl (Or.inl rfl) (pe_call G2 hr1 (by rfl) g2 k2 b2 .nil pass0 (pa_cons (pv 1) (pa_cons (pe_op op_add (pv 9) pe_int) pa_nil))))
        (pss_cons (ps_set (i := 11) scLw.nd rfl (Or.inl rfl) (pe_op op_mod (pv 10) (pv 2)))
        (Evl.pss_cut (ps_if (pt_cmpR op_isN (pe_ix ix_list (pv 7) (pv 11) (fun _ _ => rfl)) pe_non (nomark _))
          (Evl.pss_cut (ps_set (i := 12) scLw.nd rfl (Or.inl rfl) (pe_call G6 hr3 (by rfl) g6 k6 b6 .nil pass0 (pa_cons (pv 3) (pa_cons (pv 11) (pa_cons (pv 6) (pa_cons (pv 5) (pa_cons (pe_op op_fdiv (pv 10) pe_int) (pa_cons (pe_op op_add (pe_call G2 hr1 (by rfl) g2 k2 b2 .nil pass0 (pa_cons (pv 1) (pa_cons (pe_op op_add (pv 9) pe_int) pa_nil))) (pv 10)) pa_nil))))))))
          (pss_cons (ps_asg (pv 12) (pg_sub (pv 8) (pv 11) set_list))
          (pss_cons (ps_asg (pe_make M7 G7 hr2 (by rfl) g7 b7 .nil pass0 (pa_cons (pe_make M8 G8 hr2 (by rfl) g8 b8 .nil pass0 (pa_cons (pv 12) pa_nil)) pa_nil)) (pg_sub (pv 7) (pv 11) set_list))
          (pss_one (ps_if (PW.pt (pw_or (pt_val (pe_meth0 (pe_ix ix_list (pv 7) (pv 11) (fun _ _ => rfl)) T.S m9 G9 hr1 b9 .nil pass0)) (pw_or1 (pt_cmpR op_notN (pe_meth0 (pe_ix ix_list (pv 7) (pv 11) (fun _ _ => rfl)) T.S m10 G10 hr1 b10 .nil pass0) pe_non (nomark _))))) (pss_one (ps_ret pe_bl)) pss_nil))))) pss_nil)
        (pss_one (ps_if (pt_not (pt_val (pe_call G11 hr7 (by rfl) g11 k11 b11 .nil pass0 (pa_cons (pv 3) (pa_cons (pv 11) (pa_cons (pv 7) (pa_cons (pv 8) (pa_cons (pv 6) (pa_cons (pv 5) pa_nil))))))))) (pss_one (ps_ret pe_bl)) pss_nil))))))
      (pss_cons (ps_set (i := 13) scLw.nd rfl (Or.inl rfl) (pe_op op_mod (pe_call G2 hr1 (by rfl) g2 k2 b2 .nil pass0 (pa_cons (pv 1) (pa_cons pe_int pa_nil))) (pv 2)))
      (pss_cons (ps_for PassesOwn.never rfl (pi_range1 (by rfl) T.range (pa_cons (pv 2) pa_nil)) (pg_name (i := 14) scLw.nd rfl (Or.inl rfl))
        (pss_one (ps_if (pt_not (pt_val (pe_call G12 hr (by rfl) g12 k12 b12 .nil pass0 (pa_cons (pv 3) (pa_cons (pe_op op_mod (pe_op op_add (pv 13) (pv 14)) (pv 2)) (pa_cons (pv 7) (pa_cons (pv 8) (pa_cons (pv 6) (pa_cons (pv 5) pa_nil))))))))) (pss_one (ps_ret pe_bl)) pss_nil)))
      (pss_cons (ps_for PassesOwn.never rfl (pi_range1 (by rfl) T.range (pa_cons pe_int pa_nil)) (pg_name (i := 4) scLw.nd rfl (Or.inl rfl))
        (pss_one (ps_if (pt_cmpR op_ne (pe_meth (pv 3) T.M m5 G5 hr2 b5 .nil pass0 (pa_cons (pe_op op_add pe_int (pv 4)) pa_nil)) (pe_ix ix_list (pv 5) (pv 4) (fun _ _ => rfl)) (nomark _)) (pss_one (ps_ret pe_bl)) pss_nil)))
      (pss_one (ps_ret pe_bl)))))))))))), ?_⟩
    refine ⟨_, rfl, a, ns, rfl, hS, h63, fun H1 tp ts s1 htp0 htp tok => ?_⟩
    refine ⟨_, rfl, tp, ts, 0, rfl, htp, tok, fun t0 ht0 => ⟨_, _, rfl, rfl, (by show (0 : Int) < 3; decide), _, _, rfl, rfl, ?_⟩⟩
    obtain ⟨n, hn2, hn4, en⟩ : ∃ n : Nat, 2 ≤ n ∧ n ≤ 4 ∧ (2 : Int) + (t0 : Int) % 3 = (n : Int) := ⟨(2 + (t0 : Int) % 3).toNat, by omega, by omega, by omega⟩
    show gName 2 (V.int (2 + (t0 : Int) % 3)) _ _ _
    rw [en]
    -- Memory(Layout(4, 6, 450))
    refine fun lay dlay hl0 hdl0 hne => ⟨lay, dlay, rfl, upd_same, fun H2 hlay fr2 => ⟨rfl, fun mem dmem hm0 hdm0 hne2 => ?_⟩⟩
    have s2 : Same H1 H2 := fun b o h => by rw [fr2 b (ne_of_none h hl0), upd_ne (ne_of_none h hl0), upd_ne (ne_of_none h hdl0)]; exact h
    have nlm : lay ≠ mem := ne_of_none hlay hm0
    refine ⟨mem, dmem, lay, dlay, rfl, upd_same, (by rw [upd_ne nlm, upd_ne (ne_of_none hlay hdm0)]; exact hlay), fun H3 acc held hv MC h0 hacc0 hheld0 fr3 => ⟨rfl, ?_⟩⟩
    have s3 : Same H2 H3 := fun b o h => fr3 b o (by rw [upd_ne (ne_of_none h hm0), upd_ne (ne_of_none h hdm0)]; exact h) (ne_of_none h hm0)
    have s13 := s2.trans s3
    obtain ⟨dm, hm⟩ := MC.mem
    obtain ⟨dly, hly⟩ := MC.lay
    obtain ⟨al, hal, _⟩ := MC.acc
    have hheld := MC.held
    -- what is shown
    refine ⟨6, rfl, by decide, by decide, fun sh hsh => lc_range (lo := 0) (n := 6) (fun i H' => Same H3 H' ∧ H' sh = some (.lst ((List.range i).map fun p => V.int (shown m0 p)))) ?_ ?_ ?_⟩
    · exact ⟨newT hsh, upd_same⟩
    · rintro i H' hi ⟨s4, hl⟩
      refine ⟨rfl, ?_⟩
      have e5 : (5 : Int) + (0 + (i : Int)) = ((5 + i : Nat) : Int) := by omega
      refine ⟨_, rfl, mem, dm, _, rfl, s4 _ _ hm, mfs_no (by decide +kernel), _, rfl, _, _, rfl, rfl, ⟨mem, lay, acc, held⟩, 0, hv, 5 + i, .int (11 + i), ?_, MC.same s4, h0.2 i hi, ?_⟩
      · show [V.ref mem, V.int (5 + (0 + (i : Int)))] = _
        rw [e5]
      · refine ⟨_, hl, (by rw [List.length_map, List.length_range]; exact Nat.lt_of_lt_of_le hi (by decide : 6 ≤ sizeLine)), fun b o h => ?_, ?_⟩
        · rw [upd_ne (ne_of_none h hsh)]; exact s4 _ _ h
        · rw [upd_same, List.range_succ, List.map_append]; rfl
    · rintro H4 ⟨s4, hsh4⟩
      refine ⟨Nat.zero_le _, fun dl hdl0 => ?_⟩
      refine ⟨by show 4 ≤ sizeLine; decide, fun st hst0 => ?_⟩
      refine ⟨by show 4 ≤ sizeLine; decide, fun dg hdg0 => ?_⟩
      have s5 := newT (o := .lst []) hdl0
      have s6 := newT (o := .lst [.non, .non, .non, .non]) hst0
      have s7 := newT (o := .lst [.int 0, .int 0, .int 0, .int 0]) hdg0
      have s36 := (s4.trans s5).trans s6
      have s37 := s36.trans s7
      have htp3 := s13 _ _ htp
      have ins_lst : ∀ {x y : Addr} {C d : Addr} {fs : List (Str × V)} {xs : List V} {H : Hp}, H x = some (.ins C d fs) → H y = some (.lst xs) → x ≠ y := fun h1 h2 => ne_of h1 h2 (by intro z; cases z)
      have hdmtp : (upd (upd H2 dmem (.own mem)) mem (.ins c.M dmem [])) tp = some (.lst (ts.map V.int)) := by
        rw [upd_ne (ne_of_none (s2 _ _ htp) hm0), upd_ne (ne_of_none (s2 _ _ htp) hdm0)]; exact s2 _ _ htp
      have ntpa := ne_of_none hdmtp hacc0
      have ntph := ne_of_none hdmtp hheld0
      have e4 : ∀ {x : Addr} {o : HO}, H3 x = some o → x ≠ sh ∧ x ≠ dl ∧ x ≠ st ∧ x ≠ dg := fun h => ⟨ne_of_none h hsh, ne_of_none (s4 _ _ h) hdl0, ne_of_none ((s4.trans s5) _ _ h) hst0, ne_of_none (s36 _ _ h) hdg0⟩
      obtain ⟨x1, x2, x3, x4⟩ := e4 hm
      obtain ⟨y1, y2, y3, y4⟩ := e4 hly
      obtain ⟨z1, z2, z3, z4⟩ := e4 hal
      obtain ⟨w1, w2, w3, w4⟩ := e4 hheld
      obtain ⟨v1, v2, v3, v4⟩ := e4 htp3
      have hdl5 : (upd H4 dl (.lst [])) dl = some (.lst []) := upd_same
      have hst6 : (upd (upd H4 dl (.lst [])) st (.lst [.non, .non, .non, .non])) st = some (.lst [.non, .non, .non, .non]) := upd_same
      have nd : [mem, lay, acc, held, sh, dl, st, dg, tp].Nodup := by
        simp only [List.nodup_cons, List.mem_cons, not_or, List.not_mem_nil, not_false_eq_true, and_true, List.nodup_nil]
        exact ⟨⟨nlm.symm, ins_lst hm hal, ins_lst hm hheld, x1, x2, x3, x4, ins_lst hm htp3⟩, ⟨ins_lst hly hal, ins_lst hly hheld, y1, y2, y3, y4, ins_lst hly htp3⟩, ⟨MC.ne, z1, z2, z3, z4, ntpa.symm⟩, ⟨w1, w2, w3, w4, ntph.symm⟩,
          ⟨ne_of_none hsh4 hdl0, ne_of_none (s5 _ _ hsh4) hst0, ne_of_none ((s5.trans s6) _ _ hsh4) hdg0, v1.symm⟩, ⟨ne_of_none hdl5 hst0, ne_of_none (s6 _ _ hdl5) hdg0, v2.symm⟩, ⟨ne_of_none hst6 hdg0, v3.symm⟩, v4.symm⟩
      obtain ⟨ρ0, L0⟩ := LS.init (c := c) (Z := ⟨⟨mem, lay, acc, held⟩, sh, dl, st, dg, tp, ts⟩) (MC.same s37) h0 (((s5.trans s6).trans s7) _ _ hsh4) ((s6.trans s7) _ _ hdl5) (s7 _ _ hst6) upd_same (s37 _ _ htp3) nd
      -- the picks
      generalize hH7 : (upd (upd (upd H4 dl (.lst [])) st (.lst [.non, .non, .non, .non])) dg (.lst [.int 0, .int 0, .int 0, .int 0])) = H7 at L0 ⊢
      obtain ⟨N, hN, eN⟩ : ∃ N : Nat, N ≤ 110 ∧ (if (if (((ts.map V.int).length : Nat) : Int) - 2 > 0 then (((ts.map V.int).length : Nat) : Int) - 2 else 0) < 110 then (if (((ts.map V.int).length : Nat) : Int) - 2 > 0 then (((ts.map V.int).length : Nat) : Int) - 2 else 0) else 110) = (N : Int) := by
        refine ⟨(if (if (((ts.map V.int).length : Nat) : Int) - 2 > 0 then (((ts.map V.int).length : Nat) : Int) - 2 else 0) < 110 then (if (((ts.map V.int).length : Nat) : Int) - 2 > 0 then (((ts.map V.int).length : Nat) : Int) - 2 else 0) else 110).toNat, ?_, ?_⟩
        · split <;> split <;> omega
        · split <;> split <;> omega
      refine ⟨_, rfl, tp, _, rfl, .inl (SqL.of L0.tp), _, _, rfl, rfl, _, _, rfl, _, _, rfl, (N : Int), congrArg (fun z => [V.int z]) eN, by omega, by omega, ?_⟩
      refine for_range (lo := 0) (n := ((N : Int)).toNat) (fun i σ H' => ∃ (g : G) (ρ : Addr → Nat) (ds Ls : List Addr) (TA : Nat → TAt) (v9 v10 v11 v12 : Option V), σ = [some (.ref a), some (.ref tp), some (.int n), some (.ref mem), none, some (.ref sh), some (.ref dl), some (.ref st), some (.ref dg), v9, v10, v11, v12, none, none] ∧
        LS c ⟨⟨mem, lay, acc, held⟩, sh, dl, st, dg, tp, ts⟩ H' g ρ ds Ls TA ∧ GInv g ∧ g.m.deeds.length ≤ i ∧ g.m.count ≤ 3 * i ∧ ∀ t x, g.th t = some x → Esp.dm x.fs ≤ i ∧ t < n) ?_ ?_ ?_
      · exact ⟨g0, ρ0, [], [], _, _, _, _, _, rfl, L0, g0_ok, Nat.le_refl _, Nat.le_refl _, fun t x h => (by cases h)⟩
      · rintro i σ H' hi ⟨g, ρ, ds, Ls, TA, v9, v10, v11, v12, rfl, L, J, hlen, hcnt, hth⟩
        have hi110 : i < 110 := by omega
        have e0 : (0 : Int) + (i : Int) = ((i : Nat) : Int) := by omega
        rw [e0]
        refine ⟨_, rfl, _, rfl, _, _, rfl, rfl, tp, ts, i + 2, rfl, L.tp, tok, fun u hu => ?_⟩
        refine ⟨_, rfl, _, rfl, _, _, rfl, rfl, (by show (0 : Int) < (n : Int); omega), ?_⟩
        have htn : u % n < n := Nat.mod_lt _ (by omega)
        show gName 11 (V.int ((u % n : Nat) : Int)) _ _ _
        generalize u % n = t at htn
        have ht4 : t < 4 := by omega
        refine ⟨fun σ' H' => ∃ (g' : G) (ρ' : Addr → Nat) (ds' Ls' : List Addr) (TA' : Nat → TAt) (v12 : Option V) (x : Th), σ' = [some (.ref a), some (.ref tp), some (.int n), some (.ref mem), none, some (.ref sh), some (.ref dl), some (.ref st), some (.ref dg), some (.int i), some (.int u), some (.int t), v12, none, none] ∧
          LS c ⟨⟨mem, lay, acc, held⟩, sh, dl, st, dg, tp, ts⟩ H' g' ρ' ds' Ls' TA' ∧ GInv g' ∧ g'.m.deeds.length ≤ i + 1 ∧ g'.m.count ≤ 3 * i + 2 ∧ g'.th t = some x ∧ ∀ t x, g'.th t = some x → Esp.dm x.fs ≤ i ∧ t < n, ?_, ?_⟩
        · have hst : (rgL 4 (stV g.th TA))[t]? = some (stV g.th TA t) := rgL_get _ ht4
          refine ⟨_, rfl, _, rfl, st, _, _, _, rfl, rfl, SqL.of L.st, atI_nat hst, rfl, _, rfl, ?_⟩
          cases hx : g.th t with
          | some x =>
            refine iF (by unfold stV; rw [hx]; rfl) ?_
            exact ⟨g, ρ, ds, Ls, TA, _, x, rfl, L, J, by omega, by omega, hx, hth⟩
          | none =>
            refine iT (by unfold stV; rw [hx]; rfl) ?_
            refine ⟨fun σ' H' => ∃ (g' : G) (ρ' : Addr → Nat) (ds' Ls' : List Addr) (k : Nat), σ' = [some (.ref a), some (.ref tp), some (.int n), some (.ref mem), none, some (.ref sh), some (.ref dl), some (.ref st), some (.ref dg), some (.int i), some (.int u), some (.int t), some (.int (100 + 2 * k)), none, none] ∧
              LS c ⟨⟨mem, lay, acc, held⟩, sh, dl, st, dg, tp, ts⟩ H' g' ρ' ds' Ls' TA ∧ g'.th = g.th ∧ GInv ⟨g'.m, Esp.up g'.th t (some (Esp.start1 k)), g'.fits⟩ ∧ g'.m.deeds.length ≤ i + 1 ∧ g'.m.count ≤ 3 * i + 2, ?_, ?_⟩
            · refine ⟨_, rfl, _, rfl, _, rfl, _, rfl, _, rfl, _, _, rfl, rfl, ⟨by decide, by decide⟩, _, rfl, _, rfl, _, _, rfl, rfl, tp, ts, i + 3, rfl, L.tp, tok, fun u2 hu2 => ⟨_, rfl, _, _, rfl, rfl, ?_⟩⟩
              refine ⟨⟨⟨mem, lay, acc, held⟩, sh, dl, st, dg, tp, ts⟩, g, ρ, ds, Ls, TA, .int t, _, _, rfl, L, J, by omega, by omega, fun k hk => ?_, fun H2 ρ' ds' Ls' d b L' wf hold => ?_⟩
              · exact ⟨g, ρ, ds, Ls, k, rfl, L, rfl, Esp.againG_ok J hx hk, by omega, by omega⟩
              · refine ⟨_, ρ', ds', Ls', g.m.deeds.length, rfl, L', rfl, Esp.newG_ok J hx wf hold, ?_, ?_⟩
                · show (g.m.deeds ++ [d]).length ≤ i + 1
                  rw [List.length_append]; show g.m.deeds.length + 1 ≤ i + 1; omega
                · show g.m.count + 2 ≤ 3 * i + 2; omega
            · rintro σ' Hb ⟨g', ρ', ds', Ls', k, rfl, L', hth', J', hlen', hcnt'⟩
              obtain ⟨ys, hdg, hys, hroot⟩ := L'.dg
              have hst' := L'.st
              have hx' : g'.th t = none := by rw [hth']; exact hx
              refine ⟨_, rfl, _, rfl, _, rfl, dg, ys, t, t, rfl, rfl, hdg, ixN_nat (by rw [hys]; exact ht4), ?_⟩
              have nsd : st ≠ dg := fun z => by
                have h1 := L'.col.st; have h2 := L'.col.dg
                have h1' : ρ' st = 5 := h1
                have h2' : ρ' dg = 6 := h2
                rw [z, h2'] at h1'; cases h1'
              refine ⟨_, rfl, fun D dD hD hdD hne => ⟨D, dD, k, rfl, upd_same, fun H2 hfr fr2 => ⟨rfl, fun S dS hS hdS hneS => ?_⟩⟩⟩
              have oldC : ∀ b o, Hb b = some o → b ≠ dg → (upd Hb dg (.lst (ys.set t (.int (100 + 2 * k))))) b = some o := fun b o h n => (upd_ne n).trans h
              have s2c : ∀ b o, (upd Hb dg (.lst (ys.set t (.int (100 + 2 * k))))) b = some o → H2 b = some o := fun b o h => fr2 b o (by rw [upd_ne (ne_of_none h hD), upd_ne (ne_of_none h hdD)]; exact h) (ne_of_none h hD)
              obtain ⟨sv, ev, hv0, vv, dxD, RD⟩ := hfr g'.m
              have hD2 := RD.at_
              have nDS := ne_of_none hD2 hS
              refine ⟨S, dS, .ref D, rfl, upd_same, fun H3 ml hS3 hml3 hml0 fr3 => ⟨rfl, ?_⟩⟩
              have s3c : ∀ b o, H2 b = some o → H3 b = some o := fun b o h => fr3 b o (by rw [upd_ne (ne_of_none h hS), upd_ne (ne_of_none h hdS)]; exact h) (ne_of_none h hS)
              have nmD : D ≠ ml := ne_of_none (by rw [upd_ne nDS, upd_ne (ne_of_none hD2 hdS)]; exact hD2) hml0
              have nmS : S ≠ ml := ne_of_none upd_same hml0
              have hst3 : H3 st = some (.lst (rgL 4 (stV g'.th TA))) := s3c _ _ (s2c _ _ (oldC _ _ hst' nsd))
              have hdg3 : H3 dg = some (.lst (ys.set t (.int (100 + 2 * k)))) := s3c _ _ (s2c _ _ upd_same)
              refine ⟨_, rfl, _, rfl, st, _, t, t, rfl, rfl, hst3, ixN_nat (by rw [rgL_len]; exact ht4), ?_⟩
              have nst2 := s2c _ _ (oldC _ _ hst' nsd)
              have nSst : S ≠ st := (ne_of_none nst2 hS).symm
              have hml2 : H2 ml = none := by
                cases ez : H2 ml with
                | none => rfl
                | some o =>
                  exfalso
                  have hz : (upd (upd H2 dS (.own S)) S (.ins c.S dS [])) ml = some o := (upd_ne (ne_of_none ez hS)).trans ((upd_ne (ne_of_none ez hdS)).trans ez)
                  rw [hz] at hml0; cases hml0
              have nmlst : ml ≠ st := (ne_of_none nst2 hml2).symm
              have nDst : D ≠ st := (ne_of_none (oldC _ _ hst' nsd) hD).symm
              have hdg2 : H2 dg = some (.lst (ys.set t (.int (100 + 2 * k)))) := s2c _ _ upd_same
              have back : ∀ b, H2 b = none → Hb b = none := fun b h => by
                cases ez : Hb b with
                | none => rfl
                | some o =>
                  exfalso
                  by_cases q1 : b = dg
                  · rw [q1, hdg2] at h; cases h
                  · rw [s2c _ _ (oldC _ _ ez q1)] at h; cases h
              have hDb : Hb D = none := by
                cases ez : Hb D with
                | none => rfl
                | some o =>
                  exfalso
                  by_cases q1 : D = dg
                  · rw [q1, upd_same] at hD; cases hD
                  · rw [oldC _ _ ez q1] at hD; cases hD
              have hS4 : (upd H3 st (.lst ((rgL 4 (stV g'.th TA)).set t (.ref S)))) S = some (.ins c.S dS (sfs ml .non)) := (upd_ne nSst).trans hS3
              have hml4 : (upd H3 st (.lst ((rgL 4 (stV g'.th TA)).set t (.ref S)))) ml = some (.lst [.ref D]) := (upd_ne nmlst).trans hml3
              have hgt : ((rgL 4 (stV g'.th TA)).set t (.ref S))[t]? = some (.ref S) := List.getElem?_set_self (by rw [rgL_len]; exact ht4)
              have tu4 : Tups H2 (upd H3 st (.lst ((rgL 4 (stV g'.th TA)).set t (.ref S)))) := (Same.tups s3c).trans (Tups.lst hst3)
              obtain ⟨ρ4, L4⟩ := L'.started (H' := upd H3 st (.lst ((rgL 4 (stV g'.th TA)).set t (.ref S)))) (S := S) (ml := ml) (b := D) (k := k) ht4 hx' (back _ hS) (back _ hml2) hDb nmS nDS.symm nmD.symm
                (fun x o h h1 h2 => (upd_ne h1).trans (s3c _ _ (s2c _ _ (oldC _ _ h h2)))) upd_same
                (fun ys' h => by rw [hdg] at h; cases h; exact (upd_ne nsd.symm).trans hdg3)
                ⟨⟨dS, hS4⟩, hml4, (by simp), .cons ((hfr g'.m).mono tu4 fun o h => (upd_ne nDst).trans (s3c _ _ h)) .nil⟩
              refine ⟨_, rfl, _, rfl, st, _, _, _, rfl, rfl, SqL.of upd_same, atI_nat hgt, S, dS, _, rfl, hS4, sfs_no (by decide +kernel), S, dS, ml, _, _, rfl, hS4, hml4, _, rfl, iF rfl ?_⟩
              refine ⟨_, rfl, _, rfl, st, _, _, _, rfl, rfl, SqL.of upd_same, atI_nat hgt, S, dS, _, rfl, hS4, sfs_no (by decide +kernel), S, dS, ml, _, rfl, hS4, rfl, _, rfl, iF rfl ?_⟩
              refine ⟨_, ρ4, ds', Ls', _, _, Esp.start1 k, rfl, L4, J', hlen', hcnt', Esp.up_same, fun v y hy => ?_⟩
              have hy2 : Esp.up g'.th t (some (Esp.start1 k)) v = some y := hy
              by_cases e : v = t
              · subst e
                rw [Esp.up_same] at hy2; cases hy2
                exact ⟨Nat.zero_le _, htn⟩
              · rw [Esp.up_ne e, hth'] at hy2
                exact hth v y hy2
        · rintro σ' H2 ⟨g', ρ', ds', Ls', TA', v12', x, rfl, L', J', hlen', hcnt', hx, hth'⟩
          have hdx := (hth' t x hx).1
          refine ⟨_, rfl, _, rfl, _, rfl, _, rfl, _, rfl, _, rfl, ⟨⟨mem, lay, acc, held⟩, sh, dl, st, dg, tp, ts⟩, g', ρ', ds', Ls', TA', t, x, rfl, L', J', hx, by omega, by omega, fun H3 ρ3 TA3 L3 => ⟨_, rfl, iF rfl ?_⟩⟩
          obtain ⟨em, ec⟩ := nextG_mem J' hx
          refine ⟨nextG g' t x, ρ3, ds', Ls', TA3, _, _, _, _, rfl, L3, nextG_ok J' hx, by rw [em]; exact hlen', by omega, fun v y hy => ?_⟩
          by_cases e : v = t
          · subst e
            exact ⟨nextG_dm J' hx hdx y hy, htn⟩
          · rw [nextG_th e] at hy
            have := hth' v y hy
            exact ⟨by omega, this.2⟩
      · rintro σ H8 ⟨g, ρ, ds, Ls, TA, v9, v10, v11, v12, rfl, L, J, hlen, hcnt, hth⟩
        refine ⟨_, rfl, tp, ts, 1, rfl, L.tp, tok, fun u hu => ⟨_, rfl, _, _, rfl, rfl, (by show (0 : Int) < (n : Int); omega), ?_⟩⟩
        have hf0 : u % n < n := Nat.mod_lt _ (by omega)
        show gName 13 (V.int ((u % n : Nat) : Int)) _ _ _
        generalize u % n = f0 at hf0
        refine ⟨_, rfl, (n : Int), rfl, by omega, by omega, ?_⟩
        refine for_range (lo := 0) (n := ((n : Int)).toNat) (fun j σ H' => ∃ (g : G) (ρ : Addr → Nat) (TA : Nat → TAt) (v14 : Option V), σ = [some (.ref a), some (.ref tp), some (.int n), some (.ref mem), none, some (.ref sh), some (.ref dl), some (.ref st), some (.ref dg), v9, v10, v11, v12, some (.int f0), v14] ∧
          LS c ⟨⟨mem, lay, acc, held⟩, sh, dl, st, dg, tp, ts⟩ H' g ρ ds Ls TA ∧ GInv g ∧ g.m.count ≤ 330 + 900 * j ∧ (∀ t x, g.th t = some x → Esp.dm x.fs ≤ 110 ∧ t < n) ∧ ∀ v, v < j → g.th ((f0 + v) % n) = none) ?_ ?_ ?_
        · refine ⟨g, ρ, TA, _, rfl, L, J, by omega, fun t x h => ?_, fun v h => absurd h (Nat.not_lt_zero v)⟩
          have := hth t x h
          exact ⟨by omega, this.2⟩
        · rintro j σ H' hj ⟨g, ρ, TA, v14, rfl, L, J, hcnt, hth, hdone⟩
          have e0 : (0 : Int) + (j : Int) = ((j : Nat) : Int) := by omega
          rw [e0]
          have htn : (f0 + j) % n < n := Nat.mod_lt _ (by omega)
          refine ⟨_, rfl, _, rfl, _, rfl, _, _, rfl, rfl, _, rfl, _, _, rfl, rfl, (by show (0 : Int) < (n : Int); omega), _, rfl, _, rfl, _, rfl, _, rfl, ⟨⟨mem, lay, acc, held⟩, sh, dl, st, dg, tp, ts⟩, g, ρ, ds, Ls, TA, (f0 + j) % n, rfl, L, J, by omega, by omega, fun x hx => (hth _ x hx).1, fun H2 g' ρ' TA' L2 J2 hn hsame hc => ⟨_, rfl, iF rfl ?_⟩⟩
          refine ⟨g', ρ', TA', _, rfl, L2, J2, by omega, fun t x h => ?_, fun v hv => ?_⟩
          · by_cases e : t = (f0 + j) % n
            · rw [e, hn] at h; cases h
            · rw [hsame t e] at h; exact hth t x h
          · by_cases e : (f0 + v) % n = (f0 + j) % n
            · rw [e]; exact hn
            · rw [hsame _ e]
              refine hdone v ?_
              have : v ≠ j := fun z => e (by rw [z])
              omega
        · rintro σ H9 ⟨g, ρ, TA, v14, rfl, L, J, hcnt, hth, hdone⟩
          have allnone : ∀ t x, g.th t = some x → x.fs = [] := fun t x h => by
            exfalso
            have htn := (hth t x h).2
            by_cases hc : f0 ≤ t
            · have := hdone (t - f0) (by omega)
              rw [show f0 + (t - f0) = t by omega, Nat.mod_eq_of_lt htn, h] at this
              cases this
            · have := hdone (t + n - f0) (by omega)
              rw [show f0 + (t + n - f0) = t + n by omega, Nat.add_mod_right, Nat.mod_eq_of_lt htn, h] at this
              cases this
          obtain ⟨hvs, MC9, MD9⟩ := id L.mem
          obtain ⟨dm9, hm9⟩ := MC9.mem
          refine ⟨6, rfl, by decide, by decide, for_range (lo := 0) (n := 6) (fun i σ H' => H9 = H' ∧ ∃ v4 : Option V, σ = [some (.ref a), some (.ref tp), some (.int n), some (.ref mem), v4, some (.ref sh), some (.ref dl), some (.ref st), some (.ref dg), v9, v10, v11, v12, some (.int f0), v14]) ⟨rfl, _, rfl⟩ ?_ ?_⟩
          · rintro i σ H' hi ⟨rfl, v4, rfl⟩
            have e0 : (0 : Int) + (i : Int) = ((i : Nat) : Int) := by omega
            rw [e0]
            obtain ⟨v, hv, hw⟩ := MD9.w i hi
            rw [J.clean allnone i] at hw
            cases (show v = .int (shown g.m i) from hw)
            have e5 : (5 : Int) + (i : Int) = ((5 + i : Nat) : Int) := by omega
            refine ⟨_, rfl, mem, dm9, _, rfl, hm9, mfs_no (by decide +kernel), _, rfl, _, _, rfl, rfl, ⟨mem, lay, acc, held⟩, g.m.count, hvs, 5 + i, _, ?_, MC9, hv, _, rfl, _, rfl, sh, _, _, _, rfl, rfl, SqL.of L.sh, atI_nat (shL_get _ hi), rfl, _, rfl, iF (by simp) ?_⟩
            · show [V.ref mem, V.int (5 + (i : Int))] = _
              rw [e5]
            · exact ⟨rfl, _, rfl⟩
          · rintro σ H' ⟨rfl, v4, rfl⟩
            exact q _
end
end Wk
set_option Elab.async false
set_option linter.all false
set_option maxRecDepth 100000
set_option maxHeartbeats 4000000
namespace Wk
open PySem L2
/-! ### what the top has written -/
theorem all_mk {l : PySem.W.OpenLaw} {w : World} {K : PySem.W.Frag} {h : Heap} {mg : Str → Option Value} {fa S L M D : Addr} (X : K.In h) (G : h.Ns mainGlobals mg) (hfa : mg "law" = some (.ref fa))
    {fmo fdi fpe fts ftt ftw fwr frq fac fck fcg fas fpk fmi fwd frc fcl fli fsi fen fva fse fst fim fsb fsn fls fdr ftp fat fdc flp fle flb flw fKI : Addr} {odmo anmo oddi andi odpe anpe odts ants odtt antt odtw antw odwr anwr odrq anrq odac anac odck anck odcg ancg odas anas odpk anpk odmi anmi odwd anwd odrc anrc odcl ancl odli anli odsi ansi oden anen odva anva odse anse odst anst odim anim odsb ansb odsn ansn odls anls oddr andr odtp antp odat anat oddc andc odlp anlp odle anle odlb anlb odlw anlw odKI : Option Addr} {slmo sldi slpe slts sltt sltw slwr slrq slac slck slcg slas slpk slmi slwd slrc slcl slli slsi slen slva slse slst slim slsb slsn slls sldr sltp slat sldc sllp slle sllb sllw slKI : Array (Option Value)}
    {ocmo kVmo dcmo pmmo cdmo ctmo ocdi kVdi dcdi pmdi cddi ctdi ocpe kVpe dcpe pmpe cdpe ctpe octs kVts dcts pmts cdts ctts octt kVtt dctt pmtt cdtt cttt octw kVtw dctw pmtw cdtw cttw ocwr kVwr dcwr pmwr cdwr ctwr ocrq kVrq dcrq pmrq cdrq ctrq ocac kVac dcac pmac cdac ctac occk kVck dcck pmck cdck ctck occg kVcg dccg pmcg cdcg ctcg ocas kVas dcas pmas cdas ctas ocpk kVpk dcpk pmpk cdpk ctpk ocmi kVmi dcmi pmmi cdmi ctmi ocwd kVwd dcwd pmwd cdwd ctwd ocrc kVrc dcrc pmrc cdrc ctrc occl kVcl dccl pmcl cdcl ctcl ocli kVli dcli pmli cdli ctli ocsi kVsi dcsi pmsi cdsi ctsi ocen kVen dcen pmen cden cten ocva kVva dcva pmva cdva ctva ocse kVse dcse pmse cdse ctse ocst kVst dcst pmst cdst ctst ocim kVim dcim pmim cdim ctim ocsb kVsb dcsb pmsb cdsb ctsb ocsn kVsn dcsn pmsn cdsn ctsn ocls kVls dcls pmls cdls ctls ocdr kVdr dcdr pmdr cddr ctdr octp kVtp dctp pmtp cdtp cttp ocat kVat dcat pmat cdat ctat ocdc kVdc dcdc pmdc cddc ctdc oclp kVlp dclp pmlp cdlp ctlp ocle kVle dcle pmle cdle ctle oclb kVlb dclb pmlb cdlb ctlb oclw kVlw dclw pmlw cdlw ctlw : Value} {tFW tMT tMP tK1 tK2 tK3 tK4 : Tok} {nKI : Nat}
    (aS : PySem.W.nsIn K mainGlobals "Stack" = some (some (.ref S)))
    (pgS : PySem.W.plainGet K S Str.empty = true)
    (hdS : PySem.W.hasDictIn K S = true)
    (poS : PySem.W.plainOver K S = true)
    (saS : PySem.W.findIn K (.ref S) "__setattr__" = some (some (.builtin "object.__setattr__")))
    (mkS : PySem.W.makesIn K S = true)
    (kcS : PySem.W.keepIn K (.ref S) = true)
    (aL : PySem.W.nsIn K mainGlobals "Layout" = some (some (.ref L)))
    (pgL : PySem.W.plainGet K L Str.empty = true)
    (hdL : PySem.W.hasDictIn K L = true)
    (poL : PySem.W.plainOver K L = true)
    (saL : PySem.W.findIn K (.ref L) "__setattr__" = some (some (.builtin "object.__setattr__")))
    (mkL : PySem.W.makesIn K L = true)
    (kcL : PySem.W.keepIn K (.ref L) = true)
    (aM : PySem.W.nsIn K mainGlobals "Memory" = some (some (.ref M)))
    (pgM : PySem.W.plainGet K M Str.empty = true)
    (hdM : PySem.W.hasDictIn K M = true)
    (poM : PySem.W.plainOver K M = true)
    (saM : PySem.W.findIn K (.ref M) "__setattr__" = some (some (.builtin "object.__setattr__")))
    (mkM : PySem.W.makesIn K M = true)
    (kcM : PySem.W.keepIn K (.ref M) = true)
    (aD : PySem.W.nsIn K mainGlobals "Doing" = some (some (.ref D)))
    (pgD : PySem.W.plainGet K D Str.empty = true)
    (hdD : PySem.W.hasDictIn K D = true)
    (poD : PySem.W.plainOver K D = true)
    (saD : PySem.W.findIn K (.ref D) "__setattr__" = some (some (.builtin "object.__setattr__")))
    (mkD : PySem.W.makesIn K D = true)
    (kcD : PySem.W.keepIn K (.ref D) = true)
    (amo : PySem.W.findIn K (.ref D) "mark_of" = some (some (.ref fmo)))
    (imo : PySem.W.isFn K (.ref fmo) = true)
    (lmo : K.lookup fmo = some ⟨ocmo, odmo, .func (PySem.W.fnOf "mark_of" "Doing.mark_of" (defArgs sMarkOf) (defBody sMarkOf) (defScope sMarkOf) .none kVmo dcmo pmmo anmo cdmo ctmo), slmo⟩)
    (cmo : PySem.W.codeIn K cdmo "Doing.mark_of" = true)
    (kmo : PySem.W.keepIn K (.ref fmo) = true)
    (adi : PySem.W.findIn K (.ref D) "__init__" = some (some (.ref fdi)))
    (idi : PySem.W.isFn K (.ref fdi) = true)
    (ldi : K.lookup fdi = some ⟨ocdi, oddi, .func (PySem.W.fnOf "__init__" "Doing.__init__" (defArgs sDoingI) (defBody sDoingI) (defScope sDoingI) .none kVdi dcdi pmdi andi cddi ctdi), sldi⟩)
    (cdi : PySem.W.codeIn K cddi "Doing.__init__" = true)
    (kdi : PySem.W.keepIn K (.ref fdi) = true)
    (ape : PySem.W.findIn K (.ref D) "pass_entry" = some (some (.ref fpe)))
    (ipe : PySem.W.isFn K (.ref fpe) = true)
    (lpe : K.lookup fpe = some ⟨ocpe, odpe, .func (PySem.W.fnOf "pass_entry" "Doing.pass_entry" (defArgs sPassEntry) (defBody sPassEntry) (defScope sPassEntry) .none kVpe dcpe pmpe anpe cdpe ctpe), slpe⟩)
    (cpe : PySem.W.codeIn K cdpe "Doing.pass_entry" = true)
    (kpe : PySem.W.keepIn K (.ref fpe) = true)
    (ats : PySem.W.findIn K (.ref D) "take_swap" = some (some (.ref fts)))
    (its : PySem.W.isFn K (.ref fts) = true)
    (lts : K.lookup fts = some ⟨octs, odts, .func (PySem.W.fnOf "take_swap" "Doing.take_swap" (defArgs sTakeSwap) (defBody sTakeSwap) (defScope sTakeSwap) .none kVts dcts pmts ants cdts ctts), slts⟩)
    (cts : PySem.W.codeIn K cdts "Doing.take_swap" = true)
    (kts : PySem.W.keepIn K (.ref fts) = true)
    (att : PySem.W.findIn K (.ref D) "take_status" = some (some (.ref ftt)))
    (itt : PySem.W.isFn K (.ref ftt) = true)
    (ltt : K.lookup ftt = some ⟨octt, odtt, .func (PySem.W.fnOf "take_status" "Doing.take_status" (defArgs sTakeStatus) (defBody sTakeStatus) (defScope sTakeStatus) .none kVtt dctt pmtt antt cdtt cttt), sltt⟩)
    (ctt : PySem.W.codeIn K cdtt "Doing.take_status" = true)
    (ktt : PySem.W.keepIn K (.ref ftt) = true)
    (atw : PySem.W.findIn K (.ref D) "take_word" = some (some (.ref ftw)))
    (itw : PySem.W.isFn K (.ref ftw) = true)
    (ltw : K.lookup ftw = some ⟨octw, odtw, .func (PySem.W.fnOf "take_word" "Doing.take_word" (defArgs sTakeWord) (defBody sTakeWord) (defScope sTakeWord) .none kVtw dctw pmtw antw cdtw cttw), sltw⟩)
    (ctw : PySem.W.codeIn K cdtw "Doing.take_word" = true)
    (ktw : PySem.W.keepIn K (.ref ftw) = true)
    (awr : PySem.W.findIn K (.ref D) "word_request" = some (some (.ref fwr)))
    (iwr : PySem.W.isFn K (.ref fwr) = true)
    (lwr : K.lookup fwr = some ⟨ocwr, odwr, .func (PySem.W.fnOf "word_request" "Doing.word_request" (defArgs sWordReq) (defBody sWordReq) (defScope sWordReq) .none kVwr dcwr pmwr anwr cdwr ctwr), slwr⟩)
    (cwr : PySem.W.codeIn K cdwr "Doing.word_request" = true)
    (kwr : PySem.W.keepIn K (.ref fwr) = true)
    (arq : PySem.W.findIn K (.ref D) "request" = some (some (.ref frq)))
    (irq : PySem.W.isFn K (.ref frq) = true)
    (lrq : K.lookup frq = some ⟨ocrq, odrq, .func (PySem.W.fnOf "request" "Doing.request" (defArgs sRequest) (defBody sRequest) (defScope sRequest) .none kVrq dcrq pmrq anrq cdrq ctrq), slrq⟩)
    (crq : PySem.W.codeIn K cdrq "Doing.request" = true)
    (krq : PySem.W.keepIn K (.ref frq) = true)
    (aac : PySem.W.findIn K (.ref D) "accept" = some (some (.ref fac)))
    (iac : PySem.W.isFn K (.ref fac) = true)
    (lac : K.lookup fac = some ⟨ocac, odac, .func (PySem.W.fnOf "accept" "Doing.accept" (defArgs sAccept) (defBody sAccept) (defScope sAccept) .none kVac dcac pmac anac cdac ctac), slac⟩)
    (cac : PySem.W.codeIn K cdac "Doing.accept" = true)
    (kac : PySem.W.keepIn K (.ref fac) = true)
    (ack : PySem.W.findIn K (.ref M) "check_cell" = some (some (.ref fck)))
    (ick : PySem.W.isFn K (.ref fck) = true)
    (lck : K.lookup fck = some ⟨occk, odck, .func (PySem.W.fnOf "check_cell" "Memory.check_cell" (defArgs sCheck) (defBody sCheck) (defScope sCheck) .none kVck dcck pmck anck cdck ctck), slck⟩)
    (cck : PySem.W.codeIn K cdck "Memory.check_cell" = true)
    (kck : PySem.W.keepIn K (.ref fck) = true)
    (acg : PySem.W.findIn K (.ref M) "changed" = some (some (.ref fcg)))
    (icg : PySem.W.isFn K (.ref fcg) = true)
    (lcg : K.lookup fcg = some ⟨occg, odcg, .func (PySem.W.fnOf "changed" "Memory.changed" (defArgs sChanged) (defBody sChanged) (defScope sChanged) .none kVcg dccg pmcg ancg cdcg ctcg), slcg⟩)
    (ccg : PySem.W.codeIn K cdcg "Memory.changed" = true)
    (kcg : PySem.W.keepIn K (.ref fcg) = true)
    (aas : PySem.W.findIn K (.ref M) "access" = some (some (.ref fas)))
    (ias : PySem.W.isFn K (.ref fas) = true)
    (las : K.lookup fas = some ⟨ocas, odas, .func (PySem.W.fnOf "access" "Memory.access" (defArgs sAccess) (defBody sAccess) (defScope sAccess) .none kVas dcas pmas anas cdas ctas), slas⟩)
    (cas : PySem.W.codeIn K cdas "Memory.access" = true)
    (kas : PySem.W.keepIn K (.ref fas) = true)
    (apk : PySem.W.findIn K (.ref M) "peek" = some (some (.ref fpk)))
    (ipk : PySem.W.isFn K (.ref fpk) = true)
    (lpk : K.lookup fpk = some ⟨ocpk, odpk, .func (PySem.W.fnOf "peek" "Memory.peek" (defArgs sPeek) (defBody sPeek) (defScope sPeek) .none kVpk dcpk pmpk anpk cdpk ctpk), slpk⟩)
    (cpk : PySem.W.codeIn K cdpk "Memory.peek" = true)
    (kpk : PySem.W.keepIn K (.ref fpk) = true)
    (ami : PySem.W.findIn K (.ref M) "__init__" = some (some (.ref fmi)))
    (imi : PySem.W.isFn K (.ref fmi) = true)
    (lmi : K.lookup fmi = some ⟨ocmi, odmi, .func (PySem.W.fnOf "__init__" "Memory.__init__" (defArgs sMemI) (defBody sMemI) (defScope sMemI) .none kVmi dcmi pmmi anmi cdmi ctmi), slmi⟩)
    (cmi : PySem.W.codeIn K cdmi "Memory.__init__" = true)
    (kmi : PySem.W.keepIn K (.ref fmi) = true)
    (awd : PySem.W.findIn K (.ref L) "word" = some (some (.ref fwd)))
    (iwd : PySem.W.isFn K (.ref fwd) = true)
    (lwd : K.lookup fwd = some ⟨ocwd, odwd, .func (PySem.W.fnOf "word" "Layout.word" (defArgs sWord) (defBody sWord) (defScope sWord) .none kVwd dcwd pmwd anwd cdwd ctwd), slwd⟩)
    (cwd : PySem.W.codeIn K cdwd "Layout.word" = true)
    (kwd : PySem.W.keepIn K (.ref fwd) = true)
    (arc : PySem.W.findIn K (.ref L) "record" = some (some (.ref frc)))
    (irc : PySem.W.isFn K (.ref frc) = true)
    (lrc : K.lookup frc = some ⟨ocrc, odrc, .func (PySem.W.fnOf "record" "Layout.record" (defArgs sRecord) (defBody sRecord) (defScope sRecord) .none kVrc dcrc pmrc anrc cdrc ctrc), slrc⟩)
    (crc : PySem.W.codeIn K cdrc "Layout.record" = true)
    (krc : PySem.W.keepIn K (.ref frc) = true)
    (acl : PySem.W.findIn K (.ref L) "cells" = some (some (.ref fcl)))
    (icl : PySem.W.isFn K (.ref fcl) = true)
    (lcl : K.lookup fcl = some ⟨occl, odcl, .func (PySem.W.fnOf "cells" "Layout.cells" (defArgs sCells) (defBody sCells) (defScope sCells) .none kVcl dccl pmcl ancl cdcl ctcl), slcl⟩)
    (ccl : PySem.W.codeIn K cdcl "Layout.cells" = true)
    (kcl : PySem.W.keepIn K (.ref fcl) = true)
    (ali : PySem.W.findIn K (.ref L) "__init__" = some (some (.ref fli)))
    (ili : PySem.W.isFn K (.ref fli) = true)
    (lli : K.lookup fli = some ⟨ocli, odli, .func (PySem.W.fnOf "__init__" "Layout.__init__" (defArgs sLayoutI) (defBody sLayoutI) (defScope sLayoutI) .none kVli dcli pmli anli cdli ctli), slli⟩)
    (cli : PySem.W.codeIn K cdli "Layout.__init__" = true)
    (kli : PySem.W.keepIn K (.ref fli) = true)
    (asi : PySem.W.findIn K (.ref S) "__init__" = some (some (.ref fsi)))
    (isi : PySem.W.isFn K (.ref fsi) = true)
    (lsi : K.lookup fsi = some ⟨ocsi, odsi, .func (PySem.W.fnOf "__init__" "Stack.__init__" (defArgs sStackI) (defBody sStackI) (defScope sStackI) .none kVsi dcsi pmsi ansi cdsi ctsi), slsi⟩)
    (csi : PySem.W.codeIn K cdsi "Stack.__init__" = true)
    (ksi : PySem.W.keepIn K (.ref fsi) = true)
    (aen : PySem.W.findIn K (.ref S) "ended" = some (some (.ref fen)))
    (ien : PySem.W.isFn K (.ref fen) = true)
    (len : K.lookup fen = some ⟨ocen, oden, .func (PySem.W.fnOf "ended" "Stack.ended" (defArgs sEnded) (defBody sEnded) (defScope sEnded) .none kVen dcen pmen anen cden cten), slen⟩)
    (cen : PySem.W.codeIn K cden "Stack.ended" = true)
    (ken : PySem.W.keepIn K (.ref fen) = true)
    (ava : PySem.W.findIn K (.ref S) "value" = some (some (.ref fva)))
    (iva : PySem.W.isFn K (.ref fva) = true)
    (lva : K.lookup fva = some ⟨ocva, odva, .func (PySem.W.fnOf "value" "Stack.value" (defArgs sValue) (defBody sValue) (defScope sValue) .none kVva dcva pmva anva cdva ctva), slva⟩)
    (cva : PySem.W.codeIn K cdva "Stack.value" = true)
    (kva : PySem.W.keepIn K (.ref fva) = true)
    (ase : PySem.W.findIn K (.ref S) "_settle" = some (some (.ref fse)))
    (ise : PySem.W.isFn K (.ref fse) = true)
    (lse : K.lookup fse = some ⟨ocse, odse, .func (PySem.W.fnOf "_settle" "Stack._settle" (defArgs sSettle) (defBody sSettle) (defScope sSettle) .none kVse dcse pmse anse cdse ctse), slse⟩)
    (cse : PySem.W.codeIn K cdse "Stack._settle" = true)
    (kse : PySem.W.keepIn K (.ref fse) = true)
    (ast : PySem.W.findIn K (.ref S) "step" = some (some (.ref fst)))
    (ist : PySem.W.isFn K (.ref fst) = true)
    (lst : K.lookup fst = some ⟨ocst, odst, .func (PySem.W.fnOf "step" "Stack.step" (defArgs sStep) (defBody sStep) (defScope sStep) .none kVst dcst pmst anst cdst ctst), slst⟩)
    (cst : PySem.W.codeIn K cdst "Stack.step" = true)
    (kst : PySem.W.keepIn K (.ref fst) = true)
    (aim : PySem.W.nsIn K mainGlobals "is_mark" = some (some (.ref fim)))
    (lim : K.lookup fim = some ⟨ocim, odim, .func (PySem.W.fnOf "is_mark" "is_mark" (defArgs sIsMark) (defBody sIsMark) (defScope sIsMark) .none kVim dcim pmim anim cdim ctim), slim⟩)
    (cim : PySem.W.codeIn K cdim "is_mark" = true)
    (kim : PySem.W.keepIn K (.ref fim) = true)
    (asb : PySem.W.nsIn K mainGlobals "shown_by" = some (some (.ref fsb)))
    (lsb : K.lookup fsb = some ⟨ocsb, odsb, .func (PySem.W.fnOf "shown_by" "shown_by" (defArgs sShownBy) (defBody sShownBy) (defScope sShownBy) .none kVsb dcsb pmsb ansb cdsb ctsb), slsb⟩)
    (csb : PySem.W.codeIn K cdsb "shown_by" = true)
    (ksb : PySem.W.keepIn K (.ref fsb) = true)
    (asn : PySem.W.nsIn K mainGlobals "shown_now" = some (some (.ref fsn)))
    (lsn : K.lookup fsn = some ⟨ocsn, odsn, .func (PySem.W.fnOf "shown_now" "shown_now" (defArgs sShownNow) (defBody sShownNow) (defScope sShownNow) .none kVsn dcsn pmsn ansn cdsn ctsn), slsn⟩)
    (csn : PySem.W.codeIn K cdsn "shown_now" = true)
    (ksn : PySem.W.keepIn K (.ref fsn) = true)
    (als : PySem.W.nsIn K mainGlobals "_law_shown" = some (some (.ref fls)))
    (lls : K.lookup fls = some ⟨ocls, odls, .func (PySem.W.fnOf "_law_shown" "_law_shown" (defArgs sLShown) (defBody sLShown) (defScope sLShown) .none kVls dcls pmls anls cdls ctls), slls⟩)
    (cls : PySem.W.codeIn K cdls "_law_shown" = true)
    (kls : PySem.W.keepIn K (.ref fls) = true)
    (adr : PySem.W.nsIn K mainGlobals "deed_record" = some (some (.ref fdr)))
    (ldr : K.lookup fdr = some ⟨ocdr, oddr, .func (PySem.W.fnOf "deed_record" "deed_record" (defArgs sDeedRec) (defBody sDeedRec) (defScope sDeedRec) .none kVdr dcdr pmdr andr cddr ctdr), sldr⟩)
    (cdr : PySem.W.codeIn K cddr "deed_record" = true)
    (kdr : PySem.W.keepIn K (.ref fdr) = true)
    (atp : PySem.W.nsIn K mainGlobals "_law_tape" = some (some (.ref ftp)))
    (ltp : K.lookup ftp = some ⟨octp, odtp, .func (PySem.W.fnOf "_law_tape" "_law_tape" (defArgs sTape) (defBody sTape) (defScope sTape) .none kVtp dctp pmtp antp cdtp cttp), sltp⟩)
    (ctp : PySem.W.codeIn K cdtp "_law_tape" = true)
    (ktp : PySem.W.keepIn K (.ref ftp) = true)
    (aat : PySem.W.nsIn K mainGlobals "_law_at" = some (some (.ref fat)))
    (lat : K.lookup fat = some ⟨ocat, odat, .func (PySem.W.fnOf "_law_at" "_law_at" (defArgs sAt) (defBody sAt) (defScope sAt) .none kVat dcat pmat anat cdat ctat), slat⟩)
    (cat : PySem.W.codeIn K cdat "_law_at" = true)
    (kat : PySem.W.keepIn K (.ref fat) = true)
    (adc : PySem.W.nsIn K mainGlobals "_law_decided" = some (some (.ref fdc)))
    (ldc : K.lookup fdc = some ⟨ocdc, oddc, .func (PySem.W.fnOf "_law_decided" "_law_decided" (defArgs sDecided) (defBody sDecided) (defScope sDecided) .none kVdc dcdc pmdc andc cddc ctdc), sldc⟩)
    (cdc : PySem.W.codeIn K cddc "_law_decided" = true)
    (kdc : PySem.W.keepIn K (.ref fdc) = true)
    (alp : PySem.W.nsIn K mainGlobals "_law_step" = some (some (.ref flp)))
    (llp : K.lookup flp = some ⟨oclp, odlp, .func (PySem.W.fnOf "_law_step" "_law_step" (defArgs sLStep) (defBody sLStep) (defScope sLStep) .none kVlp dclp pmlp anlp cdlp ctlp), sllp⟩)
    (clp : PySem.W.codeIn K cdlp "_law_step" = true)
    (klp : PySem.W.keepIn K (.ref flp) = true)
    (ale : PySem.W.nsIn K mainGlobals "_law_end" = some (some (.ref fle)))
    (lle : K.lookup fle = some ⟨ocle, odle, .func (PySem.W.fnOf "_law_end" "_law_end" (defArgs sLEnd) (defBody sLEnd) (defScope sLEnd) .none kVle dcle pmle anle cdle ctle), slle⟩)
    (cle : PySem.W.codeIn K cdle "_law_end" = true)
    (kle : PySem.W.keepIn K (.ref fle) = true)
    (alb : PySem.W.nsIn K mainGlobals "_law_begin" = some (some (.ref flb)))
    (llb : K.lookup flb = some ⟨oclb, odlb, .func (PySem.W.fnOf "_law_begin" "_law_begin" (defArgs sBegin) (defBody sBegin) (defScope sBegin) .none kVlb dclb pmlb anlb cdlb ctlb), sllb⟩)
    (clb : PySem.W.codeIn K cdlb "_law_begin" = true)
    (klb : PySem.W.keepIn K (.ref flb) = true)
    (alw : PySem.W.nsIn K mainGlobals "law" = some (some (.ref flw)))
    (llw : K.lookup flw = some ⟨oclw, odlw, .func (PySem.W.fnOf "law" "law" (defArgs sLaw) (defBody sLaw) (defScope sLaw) .none kVlw dclw pmlw anlw cdlw ctlw), sllw⟩)
    (clw : PySem.W.codeIn K cdlw "law" = true)
    (klw : PySem.W.keepIn K (.ref flw) = true)
    (nSmachines : PySem.W.findIn K (.ref S) "machines" = some none)
    (nSresult : PySem.W.findIn K (.ref S) "result" = some none)
    (nLthreads : PySem.W.findIn K (.ref L) "threads" = some none)
    (nLpages : PySem.W.findIn K (.ref L) "pages" = some none)
    (nLrecords : PySem.W.findIn K (.ref L) "records" = some none)
    (nMlayout : PySem.W.findIn K (.ref M) "layout" = some none)
    (nMcount : PySem.W.findIn K (.ref M) "count" = some none)
    (nMaccesses : PySem.W.findIn K (.ref M) "accesses" = some none)
    (nMheld : PySem.W.findIn K (.ref M) "held" = some none)
    (nDaddress : PySem.W.findIn K (.ref D) "address" = some none)
    (nDstatus : PySem.W.findIn K (.ref D) "status" = some none)
    (nDentries : PySem.W.findIn K (.ref D) "entries" = some none)
    (nDindex : PySem.W.findIn K (.ref D) "index" = some none)
    (nDstate : PySem.W.findIn K (.ref D) "state" = some none)
    (nDhelper : PySem.W.findIn K (.ref D) "helper" = some none)
    (nDverdict : PySem.W.findIn K (.ref D) "verdict" = some none)
    (gFW : PySem.W.nsIn K mainGlobals "FIRST_WORD" = some (some (.int 5 tFW)))
    (gMT : PySem.W.nsIn K mainGlobals "MOST_THREADS" = some (some (.int 4 tMT)))
    (gMP : PySem.W.nsIn K mainGlobals "MOST_PAGES" = some (some (.int 48 tMP)))
    (gKI : PySem.W.nsIn K mainGlobals "KINDS" = some (some (.ref fKI)))
    (lKI : K.lookup fKI = some ⟨.type "tuple", odKI, .seq #[.str "read" tK1, .str "write" tK2, .str "swap" tK3, .str "decide" tK4] nKI, slKI⟩)
    (zlen : PySem.W.nsIn K mainGlobals "len" = some none)
    (zrange : PySem.W.nsIn K mainGlobals "range" = some none)
    (zisinstance : PySem.W.nsIn K mainGlobals "isinstance" = some none)
    (ztuple : PySem.W.nsIn K mainGlobals "tuple" = some none)
    (zabs : PySem.W.nsIn K mainGlobals "abs" = some none)
    (zint : PySem.W.nsIn K mainGlobals "int" = some none)
    (zmin : PySem.W.nsIn K mainGlobals "min" = some none)
    (zmax : PySem.W.nsIn K mainGlobals "max" = some none) :
    ∃ fd : FuncData, (∀ (s : Shared) (v : Value), BindsTo s fd ⟨[v], []⟩ [("_law_script", v)]) ∧ ∀ base : Heap, K.In base → base.Ns mainGlobals mg → FnOk l.prog w K mg base CX0 9 fa fd ["_law_script"] (spLaw K) := by
  have e := hfa.symm.trans (PySem.W.mg_of X G alw)
  cases e
  have kinds : ∀ H : Hp, SqT K H fKI [.str "read", .str "write", .str "swap", .str "decide"] := fun H => .inr ⟨_, _, _, lKI, rfl, rfl, (by show 4 ≤ sizeLine; decide), .cons ⟨_, rfl⟩ (.cons ⟨_, rfl⟩ (.cons ⟨_, rfl⟩ (.cons ⟨_, rfl⟩ .nil)))⟩
  have T : Txt K mg ⟨S, L, M, D⟩ := ⟨⟨pgS, hdS, poS, saS⟩, ⟨pgL, hdL, poL, saL⟩, ⟨pgM, hdM, poM, saM⟩, ⟨pgD, hdD, poD, saD⟩, nSmachines, nSresult, nLthreads, nLpages, nLrecords, nMlayout, nMcount, nMaccesses, nMheld, nDaddress, nDstatus, nDentries, nDindex, nDstate, nDhelper, nDverdict, ⟨_, PySem.W.mg_of X G gFW⟩, ⟨_, PySem.W.mg_of X G gMT⟩, ⟨_, PySem.W.mg_of X G gMP⟩, ⟨_, PySem.W.mg_of X G gKI, kinds⟩, PySem.W.mg_none_of X G zlen, PySem.W.mg_none_of X G zrange, PySem.W.mg_none_of X G zisinstance, PySem.W.mg_none_of X G ztuple, PySem.W.mg_none_of X G zabs, PySem.W.mg_none_of X G zint, PySem.W.mg_none_of X G zmin, PySem.W.mg_none_of X G zmax⟩
  have Fmo := fun_mk (st := sMarkOf) lmo cmo kmo
  have bmo := Fmo.binds (ps := ["self", "entry"]) fun _ _ _ _ _ _ us hl => match us, hl with | [_, _], _ => rfl
  have Fdi := fun_mk (st := sDoingI) ldi cdi kdi
  have bdi := Fdi.binds (ps := ["self", "address"]) fun _ _ _ _ _ _ us hl => match us, hl with | [_, _], _ => rfl
  have Fpe := fun_mk (st := sPassEntry) lpe cpe kpe
  have bpe := Fpe.binds (ps := ["self"]) fun _ _ _ _ _ _ us hl => match us, hl with | [_], _ => rfl
  have Fts := fun_mk (st := sTakeSwap) lts cts kts
  have bts := Fts.binds (ps := ["self", "swapped"]) fun _ _ _ _ _ _ us hl => match us, hl with | [_, _], _ => rfl
  have Ftt := fun_mk (st := sTakeStatus) ltt ctt ktt
  have btt := Ftt.binds (ps := ["self", "value"]) fun _ _ _ _ _ _ us hl => match us, hl with | [_, _], _ => rfl
  have Ftw := fun_mk (st := sTakeWord) ltw ctw ktw
  have btw := Ftw.binds (ps := ["self", "value"]) fun _ _ _ _ _ _ us hl => match us, hl with | [_, _], _ => rfl
  have Fwr := fun_mk (st := sWordReq) lwr cwr kwr
  have bwr := Fwr.binds (ps := ["self", "entry"]) fun _ _ _ _ _ _ us hl => match us, hl with | [_, _], _ => rfl
  have Frq := fun_mk (st := sRequest) lrq crq krq
  have brq := Frq.binds (ps := ["self"]) fun _ _ _ _ _ _ us hl => match us, hl with | [_], _ => rfl
  have Fac := fun_mk (st := sAccept) lac cac kac
  have bac := Fac.binds (ps := ["self", "result"]) fun _ _ _ _ _ _ us hl => match us, hl with | [_, _], _ => rfl
  have Fck := fun_mk (st := sCheck) lck cck kck
  have bck := Fck.binds (ps := ["self", "cell"]) fun _ _ _ _ _ _ us hl => match us, hl with | [_, _], _ => rfl
  have Fcg := fun_mk (st := sChanged) lcg ccg kcg
  have bcg := Fcg.binds (ps := ["self", "kind", "cell", "request"]) fun _ _ _ _ _ _ us hl => match us, hl with | [_, _, _, _], _ => rfl
  have Fas := fun_mk (st := sAccess) las cas kas
  have bas := Fas.binds (ps := ["self", "thread", "request"]) fun _ _ _ _ _ _ us hl => match us, hl with | [_, _, _], _ => rfl
  have Fpk := fun_mk (st := sPeek) lpk cpk kpk
  have bpk := Fpk.binds (ps := ["self", "cell"]) fun _ _ _ _ _ _ us hl => match us, hl with | [_, _], _ => rfl
  have Fmi := fun_mk (st := sMemI) lmi cmi kmi
  have bmi := Fmi.binds (ps := ["self", "layout"]) fun _ _ _ _ _ _ us hl => match us, hl with | [_, _], _ => rfl
  have Fwd := fun_mk (st := sWord) lwd cwd kwd
  have bwd := Fwd.binds (ps := ["self", "page"]) fun _ _ _ _ _ _ us hl => match us, hl with | [_, _], _ => rfl
  have Frc := fun_mk (st := sRecord) lrc crc krc
  have brc := Frc.binds (ps := ["self", "index"]) fun _ _ _ _ _ _ us hl => match us, hl with | [_, _], _ => rfl
  have Fcl := fun_mk (st := sCells) lcl ccl kcl
  have bcl := Fcl.binds (ps := ["self"]) fun _ _ _ _ _ _ us hl => match us, hl with | [_], _ => rfl
  have Fli := fun_mk (st := sLayoutI) lli cli kli
  have bli := Fli.binds (ps := ["self", "threads", "pages", "records"]) fun _ _ _ _ _ _ us hl => match us, hl with | [_, _, _, _], _ => rfl
  have Fsi := fun_mk (st := sStackI) lsi csi ksi
  have bsi := Fsi.binds (ps := ["self", "machine"]) fun _ _ _ _ _ _ us hl => match us, hl with | [_, _], _ => rfl
  have Fen := fun_mk (st := sEnded) len cen ken
  have ben := Fen.binds (ps := ["self"]) fun _ _ _ _ _ _ us hl => match us, hl with | [_], _ => rfl
  have Fva := fun_mk (st := sValue) lva cva kva
  have bva := Fva.binds (ps := ["self"]) fun _ _ _ _ _ _ us hl => match us, hl with | [_], _ => rfl
  have Fse := fun_mk (st := sSettle) lse cse kse
  have bse := Fse.binds (ps := ["self"]) fun _ _ _ _ _ _ us hl => match us, hl with | [_], _ => rfl
  have Fst := fun_mk (st := sStep) lst cst kst
  have bst := Fst.binds (ps := ["self", "memory", "thread"]) fun _ _ _ _ _ _ us hl => match us, hl with | [_, _, _], _ => rfl
  have Fim := fun_mk (st := sIsMark) lim cim kim
  have bim := Fim.binds (ps := ["value"]) fun _ _ _ _ _ _ us hl => match us, hl with | [_], _ => rfl
  have Fsb := fun_mk (st := sShownBy) lsb csb ksb
  have bsb := Fsb.binds (ps := ["mark", "status", "first"]) fun _ _ _ _ _ _ us hl => match us, hl with | [_, _, _], _ => rfl
  have Fsn := fun_mk (st := sShownNow) lsn csn ksn
  have bsn := Fsn.binds (ps := ["memory", "page"]) fun _ _ _ _ _ _ us hl => match us, hl with | [_, _], _ => rfl
  have Fls := fun_mk (st := sLShown) lls cls kls
  have bls := Fls.binds (ps := ["_law_memory", "_law_page"]) fun _ _ _ _ _ _ us hl => match us, hl with | [_, _], _ => rfl
  have Fdr := fun_mk (st := sDeedRec) ldr cdr kdr
  have bdr := Fdr.binds (ps := ["status", "entries"]) fun _ _ _ _ _ _ us hl => match us, hl with | [_, _], _ => rfl
  have Ftp := fun_mk (st := sTape) ltp ctp ktp
  have btp := Ftp.binds (ps := ["_law_script"]) fun _ _ _ _ _ _ us hl => match us, hl with | [_], _ => rfl
  have Fat := fun_mk (st := sAt) lat cat kat
  have bat := Fat.binds (ps := ["_law_tape_here", "_law_k"]) fun _ _ _ _ _ _ us hl => match us, hl with | [_, _], _ => rfl
  have Fdc := fun_mk (st := sDecided) ldc cdc kdc
  have bdc := Fdc.binds (ps := ["_law_memory", "_law_deeds", "_law_shown_here"]) fun _ _ _ _ _ _ us hl => match us, hl with | [_, _, _], _ => rfl
  have Flp := fun_mk (st := sLStep) llp clp klp
  have blp := Flp.binds (ps := ["_law_memory", "_law_thread", "_law_stacks", "_law_doing", "_law_deeds", "_law_shown_here"]) fun _ _ _ _ _ _ us hl => match us, hl with | [_, _, _, _, _, _], _ => rfl
  have Fle := fun_mk (st := sLEnd) lle cle kle
  have ble := Fle.binds (ps := ["_law_memory", "_law_thread", "_law_stacks", "_law_doing", "_law_deeds", "_law_shown_here"]) fun _ _ _ _ _ _ us hl => match us, hl with | [_, _, _, _, _, _], _ => rfl
  have Flb := fun_mk (st := sBegin) llb clb klb
  have blb := Flb.binds (ps := ["_law_memory", "_law_thread", "_law_deeds", "_law_shown_here", "_law_number", "_law_pick"]) fun _ _ _ _ _ _ us hl => match us, hl with | [_, _, _, _, _, _], _ => rfl
  have Flw := fun_mk (st := sLaw) llw clw klw
  refine ⟨PySem.W.fnOf "law" "law" (defArgs sLaw) (defBody sLaw) (defScope sLaw) .none kVlw dclw pmlw anlw cdlw ctlw, fun s v => .of_eq rfl, fun base _ _ => ?_⟩
  have Gmo := ok_markof (P := l.prog) (w := w) (base := base) (mg := mg) T Fmo 
  have Gdi := ok_doing (P := l.prog) (w := w) (base := base) (mg := mg) T Fdi 
  have Gpe := ok_pass (P := l.prog) (w := w) (base := base) (mg := mg) T Fpe 
  have Gts := ok_takeswap (P := l.prog) (w := w) (base := base) (mg := mg) T Fts ⟨⟨_, _, ⟨ape, ipe, kpe⟩, Gpe, bpe⟩⟩
  have Gtt := ok_takestatus (P := l.prog) (w := w) (base := base) (mg := mg) T Ftt 
  have Gim := ok_ismark (P := l.prog) (w := w) (base := base) (mg := mg) T Fim 
  have Gtw := ok_takeword (P := l.prog) (w := w) (base := base) (mg := mg) T Ftw ⟨⟨_, _, ⟨ape, ipe, kpe⟩, Gpe, bpe⟩⟩ ⟨⟨_, _, ⟨amo, imo, kmo⟩, Gmo, bmo⟩⟩ ⟨⟨_, _, PySem.W.mg_of X G aim, kim, Gim, bim⟩⟩ ⟨⟨_, _, PySem.W.mg_of X G aD, ⟨mkD, adi, idi, kcD⟩, Gdi, bdi⟩⟩
  have Gwr := ok_wordreq (P := l.prog) (w := w) (base := base) (mg := mg) T Fwr ⟨⟨_, _, ⟨amo, imo, kmo⟩, Gmo, bmo⟩⟩
  have Grq := ok_request (P := l.prog) (w := w) (base := base) (mg := mg) T Frq ⟨⟨_, _, ⟨awr, iwr, kwr⟩, Gwr, bwr⟩⟩
  have Gac := ok_accept (P := l.prog) (w := w) (base := base) (mg := mg) T Fac ⟨⟨_, _, ⟨att, itt, ktt⟩, Gtt, btt⟩⟩ ⟨⟨_, _, ⟨atw, itw, ktw⟩, Gtw, btw⟩⟩ ⟨⟨_, _, ⟨ats, its, kts⟩, Gts, bts⟩⟩
  have Gck := ok_check (P := l.prog) (w := w) (base := base) (mg := mg) T Fck 
  have Gcg := ok_changed (P := l.prog) (w := w) (base := base) (mg := mg) T Fcg 
  have Gas := ok_access (P := l.prog) (w := w) (base := base) (mg := mg) T Fas ⟨⟨_, _, ⟨ack, ick, kck⟩, Gck, bck⟩⟩ ⟨⟨_, _, ⟨acg, icg, kcg⟩, Gcg, bcg⟩⟩
  have Gpk := ok_peek (P := l.prog) (w := w) (base := base) (mg := mg) T Fpk ⟨⟨_, _, ⟨ack, ick, kck⟩, Gck, bck⟩⟩
  have Gwd := ok_word (P := l.prog) (w := w) (base := base) (mg := mg) T Fwd 
  have Grc := ok_recordL (P := l.prog) (w := w) (base := base) (mg := mg) T Frc 
  have Gcl := ok_cells (P := l.prog) (w := w) (base := base) (mg := mg) T Fcl 
  have Gli := ok_layout (P := l.prog) (w := w) (base := base) (mg := mg) T Fli 
  have Gmi := ok_memory (P := l.prog) (w := w) (base := base) (mg := mg) T Fmi ⟨⟨_, _, ⟨acl, icl, kcl⟩, Gcl, bcl⟩⟩ ⟨⟨_, _, ⟨arc, irc, krc⟩, Grc, brc⟩⟩ ⟨⟨_, _, ⟨awd, iwd, kwd⟩, Gwd, bwd⟩⟩
  have Gsi := ok_stack (P := l.prog) (w := w) (base := base) (mg := mg) T Fsi 
  have Gen := ok_ended (P := l.prog) (w := w) (base := base) (mg := mg) T Fen 
  have Gva := ok_value (P := l.prog) (w := w) (base := base) (mg := mg) T Fva 
  have Gse := ok_settle (P := l.prog) (w := w) (base := base) (mg := mg) T Fse ⟨⟨_, _, ⟨arq, irq, krq⟩, Grq, brq⟩⟩ ⟨⟨_, _, ⟨aac, iac, kac⟩, Gac, bac⟩⟩
  have Gst := ok_step (P := l.prog) (w := w) (base := base) (mg := mg) T Fst ⟨⟨_, _, ⟨ase, ise, kse⟩, Gse, bse⟩⟩ ⟨⟨_, _, ⟨arq, irq, krq⟩, Grq, brq⟩⟩ ⟨⟨_, _, ⟨aac, iac, kac⟩, Gac, bac⟩⟩ ⟨⟨_, _, ⟨aas, ias, kas⟩, Gas, bas⟩⟩
  have Gsb := ok_shownby (P := l.prog) (w := w) (base := base) (mg := mg) T Fsb 
  have Gsn := ok_shownnow (P := l.prog) (w := w) (base := base) (mg := mg) T Fsn ⟨⟨_, _, ⟨apk, ipk, kpk⟩, Gpk, bpk⟩⟩ ⟨⟨_, _, ⟨awd, iwd, kwd⟩, Gwd, bwd⟩⟩ ⟨⟨_, _, PySem.W.mg_of X G aim, kim, Gim, bim⟩⟩ ⟨⟨_, _, PySem.W.mg_of X G asb, ksb, Gsb, bsb⟩⟩
  have Gls := ok_lshown (P := l.prog) (w := w) (base := base) (mg := mg) T Fls ⟨⟨_, _, ⟨apk, ipk, kpk⟩, Gpk, bpk⟩⟩
  have Gdr := ok_deedrec (P := l.prog) (w := w) (base := base) (mg := mg) T Fdr 
  have Gtp := ok_tape (P := l.prog) (w := w) (base := base) (mg := mg) T Ftp 
  have Gat := ok_at (P := l.prog) (w := w) (base := base) (mg := mg) T Fat 
  have Gdc := ok_decided (P := l.prog) (w := w) (base := base) (mg := mg) T Fdc ⟨⟨_, _, ⟨apk, ipk, kpk⟩, Gpk, bpk⟩⟩ ⟨⟨_, _, PySem.W.mg_of X G als, kls, Gls, bls⟩⟩ ⟨⟨_, _, PySem.W.mg_of X G asn, ksn, Gsn, bsn⟩⟩
  have Glp := ok_lstep (P := l.prog) (w := w) (base := base) (mg := mg) T Flp ⟨⟨_, _, ⟨ast, ist, kst⟩, Gst, bst⟩⟩ ⟨⟨_, _, PySem.W.mg_of X G adc, kdc, Gdc, bdc⟩⟩ ⟨⟨_, _, ⟨aen, ien, ken⟩, Gen, ben⟩⟩ ⟨⟨_, _, ⟨ava, iva, kva⟩, Gva, bva⟩⟩
  have Gle := ok_lend (P := l.prog) (w := w) (base := base) (mg := mg) T Fle ⟨⟨_, _, PySem.W.mg_of X G alp, klp, Glp, blp⟩⟩
  have Glb := ok_begin (P := l.prog) (w := w) (base := base) (mg := mg) T Flb ⟨⟨_, _, ⟨aas, ias, kas⟩, Gas, bas⟩⟩ ⟨⟨_, _, PySem.W.mg_of X G adr, kdr, Gdr, bdr⟩⟩
  exact ok_law T Flw ⟨⟨_, _, PySem.W.mg_of X G atp, ktp, Gtp, btp⟩⟩ ⟨⟨_, _, PySem.W.mg_of X G aat, kat, Gat, bat⟩⟩ ⟨⟨_, _, PySem.W.mg_of X G aM, ⟨mkM, ami, imi, kcM⟩, Gmi, bmi⟩⟩ ⟨⟨_, _, PySem.W.mg_of X G aL, ⟨mkL, ali, ili, kcL⟩, Gli, bli⟩⟩ ⟨⟨_, _, ⟨apk, ipk, kpk⟩, Gpk, bpk⟩⟩ ⟨⟨_, _, PySem.W.mg_of X G alb, klb, Glb, blb⟩⟩ ⟨⟨_, _, PySem.W.mg_of X G aS, ⟨mkS, asi, isi, kcS⟩, Gsi, bsi⟩⟩ ⟨⟨_, _, PySem.W.mg_of X G aD, ⟨mkD, adi, idi, kcD⟩, Gdi, bdi⟩⟩ ⟨⟨_, _, ⟨aen, ien, ken⟩, Gen, ben⟩⟩ ⟨⟨_, _, ⟨ava, iva, kva⟩, Gva, bva⟩⟩ ⟨⟨_, _, PySem.W.mg_of X G alp, klp, Glp, blp⟩⟩ ⟨⟨_, _, PySem.W.mg_of X G ale, kle, Gle, ble⟩⟩
theorem walk {l : PySem.W.OpenLaw} {q : Program} {loose : List Str} {XP : (Str → Option Value) → Heap → Prop} {YP : World → Heap → Prop} {d : DefRec} {K : Params → PySem.W.Frag} (hn : l.most = some 63) (hdf : d.params.defaults = [])
    (hY : ∀ (w : World) (h : Heap), YP w h → (K w.params).In h)
    (F : ∀ (w : World) (mg : Str → Option Value) (fa : Addr) (h : Heap), (K w.params).In h → h.Ns mainGlobals mg → mg d.name = some (.ref fa) →
      ∃ fd : FuncData, (∀ (s : Shared) (u : Value), BindsTo s fd ⟨[u], []⟩ [("_law_script", u)]) ∧ ∀ base : Heap, (K w.params).In base → base.Ns mainGlobals mg → FnOk l.prog w (K w.params) mg base CX0 9 fa fd ["_law_script"] (spLaw (K w.params))) :
    PySem.W.WalkO q loose XP YP l.row.toRowW d [] (fun f vs => PySem.call f vs) :=
  L2.walk_of (n := 63) (k := 9) (x := "_law_script") (CX := fun _ => CX0) (sp := fun w => spLaw (K w.params)) hn (by decide) hdf ⟨rfl, by decide, by decide⟩ hY F (fun _ _ a ns hl _ hS => ⟨a, ns, rfl, hS, hl, fun _ => rfl⟩) fun _ _ _ _ _ z => z
end Wk
set_option Elab.async false
open PySem PySem.W PyProof.Rows in
set_option maxRecDepth 100000 in
set_option maxHeartbeats 0 in
theorem PySem.Challenge.cw_espalier_k06_whole_deeds_holds : PySem.Challenge.rw_espalier_k06_whole_deeds.Holds := by
  w_on; o_law; k_head; (case hw => w_witness2)
  k_fill
  refine Wk.walk (l := PySem.Challenge.rw_espalier_k06_whole_deeds) rfl rfl (fun w h Y => PySem.W.kIn_of Y) ?F
  case F =>
    intro w mg fa h KX G hmg
    refine' Wk.all_mk KX G hmg ?aS ?pgS ?hdS ?poS ?saS ?mkS ?kcS ?aL ?pgL ?hdL ?poL ?saL ?mkL ?kcL ?aM ?pgM ?hdM ?poM ?saM ?mkM ?kcM ?aD ?pgD ?hdD ?poD ?saD ?mkD ?kcD ?amo ?imo ?lmo ?cmo ?kmo ?adi ?idi ?ldi ?cdi ?kdi ?ape ?ipe ?lpe ?cpe ?kpe ?ats ?its ?lts ?cts ?kts ?att ?itt ?ltt ?ctt ?ktt ?atw ?itw ?ltw ?ctw ?ktw ?awr ?iwr ?lwr ?cwr ?kwr ?arq ?irq ?lrq ?crq ?krq ?aac ?iac ?lac ?cac ?kac ?ack ?ick ?lck ?cck ?kck ?acg ?icg ?lcg ?ccg ?kcg ?aas ?ias ?las ?cas ?kas ?apk ?ipk ?lpk ?cpk ?kpk ?ami ?imi ?lmi ?cmi ?kmi ?awd ?iwd ?lwd ?cwd ?kwd ?arc ?irc ?lrc ?crc ?krc ?acl ?icl ?lcl ?ccl ?kcl ?ali ?ili ?lli ?cli ?kli ?asi ?isi ?lsi ?csi ?ksi ?aen ?ien ?len ?cen ?ken ?ava ?iva ?lva ?cva ?kva ?ase ?ise ?lse ?cse ?kse ?ast ?ist ?lst ?cst ?kst ?aim ?lim ?cim ?kim ?asb ?lsb ?csb ?ksb ?asn ?lsn ?csn ?ksn ?als ?lls ?cls ?kls ?adr ?ldr ?cdr ?kdr ?atp ?ltp ?ctp ?ktp ?aat ?lat ?cat ?kat ?adc ?ldc ?cdc ?kdc ?alp ?llp ?clp ?klp ?ale ?lle ?cle ?kle ?alb ?llb ?clb ?klb ?alw ?llw ?clw ?klw ?nSmachines ?nSresult ?nLthreads ?nLpages ?nLrecords ?nMlayout ?nMcount ?nMaccesses ?nMheld ?nDaddress ?nDstatus ?nDentries ?nDindex ?nDstate ?nDhelper ?nDverdict ?gFW ?gMT ?gMP ?gKI ?lKI ?zlen ?zrange ?zisinstance ?ztuple ?zabs ?zint ?zmin ?zmax
    (case aS => k_is)
    (case pgS => k_is)
    (case hdS => k_is)
    (case poS => k_is)
    (case saS => k_is)
    (case mkS => k_is)
    (case kcS => k_is)
    (case aL => k_is)
    (case pgL => k_is)
    (case hdL => k_is)
    (case poL => k_is)
    (case saL => k_is)
    (case mkL => k_is)
    (case kcL => k_is)
    (case aM => k_is)
    (case pgM => k_is)
    (case hdM => k_is)
    (case poM => k_is)
    (case saM => k_is)
    (case mkM => k_is)
    (case kcM => k_is)
    (case aD => k_is)
    (case pgD => k_is)
    (case hdD => k_is)
    (case poD => k_is)
    (case saD => k_is)
    (case mkD => k_is)
    (case kcD => k_is)
    (case amo => k_is)
    (case imo => k_is)
    (case lmo => k_is)
    (case cmo => k_is)
    (case kmo => k_is)
    (case adi => k_is)
    (case idi => k_is)
    (case ldi => k_is)
    (case cdi => k_is)
    (case kdi => k_is)
    (case ape => k_is)
    (case ipe => k_is)
    (case lpe => k_is)
    (case cpe => k_is)
    (case kpe => k_is)
    (case ats => k_is)
    (case its => k_is)
    (case lts => k_is)
    (case cts => k_is)
    (case kts => k_is)
    (case att => k_is)
    (case itt => k_is)
    (case ltt => k_is)
    (case ctt => k_is)
    (case ktt => k_is)
    (case atw => k_is)
    (case itw => k_is)
    (case ltw => k_is)
    (case ctw => k_is)
    (case ktw => k_is)
    (case awr => k_is)
    (case iwr => k_is)
    (case lwr => k_is)
    (case cwr => k_is)
    (case kwr => k_is)
    (case arq => k_is)
    (case irq => k_is)
    (case lrq => k_is)
    (case crq => k_is)
    (case krq => k_is)
    (case aac => k_is)
    (case iac => k_is)
    (case lac => k_is)
    (case cac => k_is)
    (case kac => k_is)
    (case ack => k_is)
    (case ick => k_is)
    (case lck => k_is)
    (case cck => k_is)
    (case kck => k_is)
    (case acg => k_is)
    (case icg => k_is)
    (case lcg => k_is)
    (case ccg => k_is)
    (case kcg => k_is)
    (case aas => k_is)
    (case ias => k_is)
    (case las => k_is)
    (case cas => k_is)
    (case kas => k_is)
    (case apk => k_is)
    (case ipk => k_is)
    (case lpk => k_is)
    (case cpk => k_is)
    (case kpk => k_is)
    (case ami => k_is)
    (case imi => k_is)
    (case lmi => k_is)
    (case cmi => k_is)
    (case kmi => k_is)
    (case awd => k_is)
    (case iwd => k_is)
    (case lwd => k_is)
    (case cwd => k_is)
    (case kwd => k_is)
    (case arc => k_is)
    (case irc => k_is)
    (case lrc => k_is)
    (case crc => k_is)
    (case krc => k_is)
    (case acl => k_is)
    (case icl => k_is)
    (case lcl => k_is)
    (case ccl => k_is)
    (case kcl => k_is)
    (case ali => k_is)
    (case ili => k_is)
    (case lli => k_is)
    (case cli => k_is)
    (case kli => k_is)
    (case asi => k_is)
    (case isi => k_is)
    (case lsi => k_is)
    (case csi => k_is)
    (case ksi => k_is)
    (case aen => k_is)
    (case ien => k_is)
    (case len => k_is)
    (case cen => k_is)
    (case ken => k_is)
    (case ava => k_is)
    (case iva => k_is)
    (case lva => k_is)
    (case cva => k_is)
    (case kva => k_is)
    (case ase => k_is)
    (case ise => k_is)
    (case lse => k_is)
    (case cse => k_is)
    (case kse => k_is)
    (case ast => k_is)
    (case ist => k_is)
    (case lst => k_is)
    (case cst => k_is)
    (case kst => k_is)
    (case aim => k_is)
    (case lim => k_is)
    (case cim => k_is)
    (case kim => k_is)
    (case asb => k_is)
    (case lsb => k_is)
    (case csb => k_is)
    (case ksb => k_is)
    (case asn => k_is)
    (case lsn => k_is)
    (case csn => k_is)
    (case ksn => k_is)
    (case als => k_is)
    (case lls => k_is)
    (case cls => k_is)
    (case kls => k_is)
    (case adr => k_is)
    (case ldr => k_is)
    (case cdr => k_is)
    (case kdr => k_is)
    (case atp => k_is)
    (case ltp => k_is)
    (case ctp => k_is)
    (case ktp => k_is)
    (case aat => k_is)
    (case lat => k_is)
    (case cat => k_is)
    (case kat => k_is)
    (case adc => k_is)
    (case ldc => k_is)
    (case cdc => k_is)
    (case kdc => k_is)
    (case alp => k_is)
    (case llp => k_is)
    (case clp => k_is)
    (case klp => k_is)
    (case ale => k_is)
    (case lle => k_is)
    (case cle => k_is)
    (case kle => k_is)
    (case alb => k_is)
    (case llb => k_is)
    (case clb => k_is)
    (case klb => k_is)
    (case alw => k_is)
    (case llw => k_is)
    (case clw => k_is)
    (case klw => k_is)
    (case nSmachines => k_is)
    (case nSresult => k_is)
    (case nLthreads => k_is)
    (case nLpages => k_is)
    (case nLrecords => k_is)
    (case nMlayout => k_is)
    (case nMcount => k_is)
    (case nMaccesses => k_is)
    (case nMheld => k_is)
    (case nDaddress => k_is)
    (case nDstatus => k_is)
    (case nDentries => k_is)
    (case nDindex => k_is)
    (case nDstate => k_is)
    (case nDhelper => k_is)
    (case nDverdict => k_is)
    (case gFW => k_is)
    (case gMT => k_is)
    (case gMP => k_is)
    (case gKI => k_is)
    (case lKI => k_is)
    (case zlen => k_is)
    (case zrange => k_is)
    (case zisinstance => k_is)
    (case ztuple => k_is)
    (case zabs => k_is)
    (case zint => k_is)
    (case zmin => k_is)
    (case zmax => k_is)
