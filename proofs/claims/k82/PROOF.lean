import PyProof.Rows.All
import Wide.All
import OpenK.AllK
import Wide.FinOn
import HandS.ForMost
import HandS.ForExc
import HandS.Defaults
import HandS.More
import HandS.Wide
import HandS.Lambda
import HandS.HeadHook4
import KE.SortKeyHeap
import KE.DataFind
import HandS.Rev
import HandS.ListItems
import HandS.ExcInit
import HandS.HotCalls
import HandS.ExcIs
import HandS.IsInst
import KE.KExcIs
import HandS.Evl
import HandS.Walk
import HandS.Zip
import HandS.Deep
import HandS.ListEq
import HandS.DeepEq
import KE.KEqDict
import KE.KEqNest
import HandS.Head2
import HandS.HeadWalk
import PySem.Challenge.RW_farshelf_k82_whole_never_against
set_option Elab.async false
set_option linter.all false
set_option maxRecDepth 100000
set_option maxHeartbeats 4000000
/-! FMath -/
namespace FS
/-! ### rows, wishes -/
structure Row where
  lo : Int
  hi : Int
  wr : Bool
  hd : Int
  deriving DecidableEq
structure Wish where
  hd : Int
  fl : Int
  wr : Bool
  lo : Int
  hi : Int
  deriving DecidableEq
def Wish.row (w : Wish) : Row := ⟨w.lo, w.hi, w.wr, w.hd⟩
/-- are_against -/
def hits (r q : Row) : Bool := !decide (r.hd = q.hd) && (r.wr || q.wr) && decide (max r.lo q.lo < min r.hi q.hi)
theorem hits_iff {r q : Row} : hits r q = true ↔ r.hd ≠ q.hd ∧ (r.wr = true ∨ q.wr = true) ∧ max r.lo q.lo < min r.hi q.hi := by
  unfold hits
  simp [and_assoc]
def cutRow (h lo hi : Int) (r : Row) : List Row :=
  if r.hd = h then
    (if r.lo < min r.hi lo then [⟨r.lo, min r.hi lo, r.wr, r.hd⟩] else []) ++ (if max r.lo hi < r.hi then [⟨max r.lo hi, r.hi, r.wr, r.hd⟩] else [])
  else [r]
def cutOut (rows : List Row) (h lo hi : Int) : List Row := rows.flatMap (cutRow h lo hi)
def mergeStep (made : List Row) (r : Row) : List Row :=
  match made.getLast? with
  | some m => if m.hi = r.lo ∧ m.wr = r.wr ∧ m.hd = r.hd then made.dropLast ++ [⟨m.lo, r.hi, r.wr, r.hd⟩] else made ++ [r]
  | none => made ++ [r]
def keyLe (a b : Row) : Bool := decide (a.hd < b.hd) || (decide (a.hd = b.hd) && ((!a.wr && b.wr) || (decide (a.wr = b.wr) && decide (a.lo ≤ b.lo))))
def tupLe (a b : Row) : Bool := decide (a.lo < b.lo) || (decide (a.lo = b.lo) && (decide (a.hi < b.hi) || (decide (a.hi = b.hi) && ((!a.wr && b.wr) || (decide (a.wr = b.wr) && decide (a.hd ≤ b.hd))))))
def asLong (rows : List Row) : List Row := ((rows.mergeSort keyLe).foldl mergeStep []).mergeSort tupLe
theorem keyLe_iff {a b : Row} : keyLe a b = true ↔ a.hd < b.hd ∨ (a.hd = b.hd ∧ ((a.wr = false ∧ b.wr = true) ∨ (a.wr = b.wr ∧ a.lo ≤ b.lo))) := by
  unfold keyLe
  simp
theorem tupLe_iff {a b : Row} : tupLe a b = true ↔ a.lo < b.lo ∨ (a.lo = b.lo ∧ (a.hi < b.hi ∨ (a.hi = b.hi ∧ ((a.wr = false ∧ b.wr = true) ∨ (a.wr = b.wr ∧ a.hd ≤ b.hd))))) := by
  unfold tupLe
  simp
theorem keyLe_trans (a b c : Row) (h1 : keyLe a b = true) (h2 : keyLe b c = true) : keyLe a c = true := by
  rw [keyLe_iff] at *
  cases ha : a.wr <;> cases hb : b.wr <;> cases hc : c.wr <;> simp_all <;> omega
theorem keyLe_total (a b : Row) : (keyLe a b || keyLe b a) = true := by
  rw [Bool.or_eq_true, keyLe_iff, keyLe_iff]
  cases ha : a.wr <;> cases hb : b.wr <;> simp <;> omega
theorem tupLe_trans (a b c : Row) (h1 : tupLe a b = true) (h2 : tupLe b c = true) : tupLe a c = true := by
  rw [tupLe_iff] at *
  cases ha : a.wr <;> cases hb : b.wr <;> cases hc : c.wr <;> simp_all <;> omega
theorem tupLe_total (a b : Row) : (tupLe a b || tupLe b a) = true := by
  rw [Bool.or_eq_true, tupLe_iff, tupLe_iff]
  cases ha : a.wr <;> cases hb : b.wr <;> simp <;> omega
theorem tupLe_antisymm (a b : Row) (h1 : tupLe a b = true) (h2 : tupLe b a = true) : a = b := by
  rw [tupLe_iff] at *
  obtain ⟨l1, h1', w1, d1⟩ := a
  obtain ⟨l2, h2', w2, d2⟩ := b
  cases w1 <;> cases w2 <;> simp_all <;> omega
/-! ### what is covered, what is good -/
def Cov (rows : List Row) (h : Int) (w : Bool) (p : Int) : Prop := ∃ r ∈ rows, r.hd = h ∧ r.wr = w ∧ r.lo ≤ p ∧ p < r.hi
def Comp (r q : Row) : Prop := (q.hi ≤ r.lo ∨ r.hi ≤ q.lo) ∨ (r.hd ≠ q.hd ∧ r.wr = false ∧ q.wr = false)
theorem Comp.symm {r q : Row} (h : Comp r q) : Comp q r := by
  rcases h with (h | h) | ⟨h1, h2, h3⟩
  · exact .inl (.inr h)
  · exact .inl (.inl h)
  · exact .inr ⟨fun e => h1 e.symm, h3, h2⟩
structure Good (rows : List Row) : Prop where
  pos : ∀ r ∈ rows, r.lo < r.hi
  pw : rows.Pairwise Comp
theorem Good.perm {xs ys : List Row} (p : xs.Perm ys) (g : Good xs) : Good ys :=
  ⟨fun r hr => g.pos r (p.mem_iff.mpr hr), (p.pairwise_iff (fun h => h.symm)).mp g.pw⟩
theorem Cov.perm {xs ys : List Row} (p : xs.Perm ys) {h : Int} {w : Bool} {x : Int} (c : Cov xs h w x) : Cov ys h w x := by
  obtain ⟨r, hr, q⟩ := c
  exact ⟨r, p.mem_iff.mp hr, q⟩
/-- not against, of good rows -/
theorem Good.nohit {rows : List Row} (g : Good rows) : rows.Pairwise fun r q => hits r q = false := by
  refine List.Pairwise.imp (fun {r q} c => ?_) g.pw
  cases e : hits r q with
  | false => rfl
  | true =>
    obtain ⟨h1, h2, h3⟩ := hits_iff.mp e
    rcases c with c | ⟨_, c1, c2⟩
    · omega
    · rw [c1, c2] at h2
      simp at h2
/-! ### cutOut -/
theorem mem_cutRow {h lo hi : Int} {r x : Row} (hx : x ∈ cutRow h lo hi r) : x.hd = r.hd ∧ x.wr = r.wr ∧ r.lo ≤ x.lo ∧ x.hi ≤ r.hi ∧ (r.lo < r.hi → x.lo < x.hi) ∧ (r.hd = h → x.hi ≤ lo ∨ hi ≤ x.lo) := by
  unfold cutRow at hx
  split at hx
  · rename_i e
    rw [List.mem_append] at hx
    rcases hx with hx | hx
    · split at hx
      · rw [List.mem_singleton] at hx
        subst hx
        refine ⟨rfl, rfl, Int.le_refl _, ?_, fun _ => by assumption, fun _ => .inl ?_⟩ <;> simp <;> omega
      · simp at hx
    · split at hx
      · rw [List.mem_singleton] at hx
        subst hx
        refine ⟨rfl, rfl, ?_, Int.le_refl _, fun _ => by assumption, fun _ => .inr ?_⟩ <;> simp <;> omega
      · simp at hx
  · rename_i e
    rw [List.mem_singleton] at hx
    subst hx
    exact ⟨rfl, rfl, Int.le_refl _, Int.le_refl _, id, fun z => absurd z e⟩
theorem mem_cutOut {rows : List Row} {h lo hi : Int} {x : Row} : x ∈ cutOut rows h lo hi ↔ ∃ r ∈ rows, x ∈ cutRow h lo hi r := by
  unfold cutOut
  rw [List.mem_flatMap]
/-- rows that lie within others are compatible as those -/
theorem Comp.sub {r q r' q' : Row} (c : Comp r q) (h1 : r'.hd = r.hd) (h2 : r'.wr = r.wr) (h3 : r.lo ≤ r'.lo) (h4 : r'.hi ≤ r.hi) (k1 : q'.hd = q.hd) (k2 : q'.wr = q.wr) (k3 : q.lo ≤ q'.lo) (k4 : q'.hi ≤ q.hi) : Comp r' q' := by
  rcases c with c | ⟨c1, c2, c3⟩
  · exact .inl (by omega)
  · exact .inr ⟨by rw [h1, k1]; exact c1, by rw [h2]; exact c2, by rw [k2]; exact c3⟩
theorem cutRow_pw {h lo hi : Int} (hl : lo < hi) (r : Row) : (cutRow h lo hi r).Pairwise Comp := by
  unfold cutRow
  split
  · split <;> split <;> simp
    exact .inl (.inr (by simp; omega))
  · simp
theorem cutOut_pw {h lo hi : Int} (hl : lo < hi) : ∀ {rows : List Row}, rows.Pairwise Comp → (cutOut rows h lo hi).Pairwise Comp
  | [], _ => by simp [cutOut]
  | r :: rows, g => by
    have g := List.pairwise_cons.mp g
    have e : cutOut (r :: rows) h lo hi = cutRow h lo hi r ++ cutOut rows h lo hi := by simp [cutOut]
    rw [e, List.pairwise_append]
    refine ⟨cutRow_pw hl r, cutOut_pw hl g.2, fun x hx y hy => ?_⟩
    obtain ⟨q, hq, hy⟩ := mem_cutOut.mp hy
    obtain ⟨a1, a2, a3, a4, _⟩ := mem_cutRow hx
    obtain ⟨b1, b2, b3, b4, _⟩ := mem_cutRow hy
    exact (g.1 q hq).sub a1 a2 a3 a4 b1 b2 b3 b4
theorem Good.cut {rows : List Row} {h lo hi : Int} (hl : lo < hi) (g : Good rows) : Good (cutOut rows h lo hi) := by
  refine ⟨fun x hx => ?_, cutOut_pw hl g.pw⟩
  obtain ⟨r, hr, hx⟩ := mem_cutOut.mp hx
  exact (mem_cutRow hx).2.2.2.2.1 (g.pos r hr)
theorem cut_cov {rows : List Row} {h lo hi : Int} (hl : lo < hi) {k : Int} {w : Bool} {p : Int} : Cov (cutOut rows h lo hi) k w p ↔ Cov rows k w p ∧ ¬ (k = h ∧ lo ≤ p ∧ p < hi) := by
  constructor
  · rintro ⟨x, hx, e1, e2, e3, e4⟩
    obtain ⟨r, hr, hx⟩ := mem_cutOut.mp hx
    obtain ⟨a1, a2, a3, a4, _, a6⟩ := mem_cutRow hx
    refine ⟨⟨r, hr, a1 ▸ e1, a2 ▸ e2, by omega, by omega⟩, fun ⟨b1, b2, b3⟩ => ?_⟩
    have := a6 (by rw [← a1, e1, b1])
    omega
  · rintro ⟨⟨r, hr, e1, e2, e3, e4⟩, n⟩
    by_cases hk : r.hd = h
    · by_cases hp : p < lo
      · refine ⟨⟨r.lo, min r.hi lo, r.wr, r.hd⟩, mem_cutOut.mpr ⟨r, hr, ?_⟩, e1, e2, e3, by simp; omega⟩
        unfold cutRow
        rw [if_pos hk, if_pos (by omega)]
        simp
      · have hp2 : hi ≤ p := by
          have : ¬ (k = h) ∨ ¬ (lo ≤ p ∧ p < hi) := by
            by_cases z : k = h
            · exact .inr fun q => n ⟨z, q⟩
            · exact .inl z
          rcases this with z | z
          · exact absurd (e1.symm.trans hk) z
          · omega
        refine ⟨⟨max r.lo hi, r.hi, r.wr, r.hd⟩, mem_cutOut.mpr ⟨r, hr, ?_⟩, e1, e2, by simp; omega, e4⟩
        unfold cutRow
        rw [if_pos hk, if_pos (show max r.lo hi < r.hi by omega)]
        simp
    · refine ⟨r, mem_cutOut.mpr ⟨r, hr, ?_⟩, e1, e2, e3, e4⟩
      unfold cutRow
      rw [if_neg hk]
      simp
/-- the rows of others stay -/
theorem cut_other {rows : List Row} {h lo hi : Int} {r : Row} (hr : r.hd ≠ h) : r ∈ cutOut rows h lo hi ↔ r ∈ rows := by
  constructor
  · intro hx
    obtain ⟨q, hq, hx⟩ := mem_cutOut.mp hx
    unfold cutRow at hx
    split at hx
    · rename_i e
      have := (mem_cutRow (h := h) (lo := lo) (hi := hi) (r := q) (x := r) (by unfold cutRow; rw [if_pos e]; exact hx)).1
      exact absurd (this.trans e) hr
    · rw [List.mem_singleton] at hx
      exact hx ▸ hq
  · intro hx
    refine mem_cutOut.mpr ⟨r, hx, ?_⟩
    unfold cutRow
    rw [if_neg hr]
    simp
end FS
/-! FMath2 -/
set_option linter.unusedVariables false
namespace FS
/-! ### asLong -/
def Ord (e f : Row) : Prop := e.hd < f.hd ∨ (e.hd = f.hd ∧ ((e.wr = false ∧ f.wr = true) ∨ (e.wr = f.wr ∧ e.hi ≤ f.lo)))
def OrdS (e f : Row) : Prop := e.hd < f.hd ∨ (e.hd = f.hd ∧ ((e.wr = false ∧ f.wr = true) ∨ (e.wr = f.wr ∧ e.hi < f.lo)))
theorem OrdS.trans {e m r : Row} (h : OrdS e m) (k : Ord m r) (hm : m.lo < m.hi) : OrdS e r := by
  unfold OrdS Ord at *
  cases he : e.wr <;> cases hb : m.wr <;> cases hc : r.wr <;> simp_all <;> omega
theorem ord_of {e f : Row} (he : e.lo < e.hi) (hf : f.lo < f.hi) (k : keyLe e f = true) (c : Comp e f) : Ord e f := by
  rw [keyLe_iff] at k
  unfold Ord Comp at *
  rcases k with k | ⟨k1, k | ⟨k2, k3⟩⟩
  · exact .inl k
  · exact .inr ⟨k1, .inl k⟩
  · refine .inr ⟨k1, .inr ⟨k2, ?_⟩⟩
    rcases c with c | c
    · omega
    · exact absurd k1 c.1
/-- x holds all of r -/
def In (r x : Row) : Prop := x.hd = r.hd ∧ x.wr = r.wr ∧ x.lo ≤ r.lo ∧ r.hi ≤ x.hi
theorem In.refl (r : Row) : In r r := ⟨rfl, rfl, Int.le_refl _, Int.le_refl _⟩
theorem In.trans {a b c : Row} (h : In a b) (k : In b c) : In a c := by
  unfold In at *
  refine ⟨k.1.trans h.1, k.2.1.trans h.2.1, ?_, ?_⟩ <;> omega
/-- what a way of lists keeps -/
structure Fold (rows made rest : List Row) : Prop where
  pos : ∀ r ∈ made ++ rest, r.lo < r.hi
  cmp : (made ++ rest).Pairwise Comp
  ord : (made ++ rest).Pairwise Ord
  strict : made.Pairwise OrdS
  cov : ∀ h w p, Cov (made ++ rest) h w p ↔ Cov rows h w p
  sub : ∀ r ∈ rows, ∃ x ∈ made ++ rest, In r x
theorem getLast_cases (l : List Row) : l = [] ∨ ∃ a m, l = a ++ [m] := by
  cases h : l.getLast? with
  | none => exact .inl (by simpa using h)
  | some m =>
    obtain ⟨a, e⟩ := List.getLast?_eq_some_iff.mp h
    exact .inr ⟨a, m, e⟩
theorem Fold.step {rows made rest : List Row} {r : Row} (F : Fold rows made (r :: rest)) : Fold rows (mergeStep made r) rest := by
  obtain ⟨h1, h2, h3, h4, h5, h6⟩ := F
  have plain : (∀ e ∈ made, OrdS e r) → Fold rows (made ++ [r]) rest := fun hs => by
    have e : made ++ [r] ++ rest = made ++ r :: rest := by simp
    refine ⟨by rw [e]; exact h1, by rw [e]; exact h2, by rw [e]; exact h3, ?_, fun h w p => by rw [e]; exact h5 h w p, by rw [e]; exact h6⟩
    rw [List.pairwise_append]
    exact ⟨h4, by simp, fun a ha b hb => by rw [List.mem_singleton] at hb; subst hb; exact hs a ha⟩
  rcases getLast_cases made with e | ⟨a, m, e⟩
  · subst e
    have : mergeStep [] r = [] ++ [r] := rfl
    rw [this]
    exact plain (by simp)
  · subst e
    unfold mergeStep
    rw [List.getLast?_concat]
    simp only [List.dropLast_concat]
    have o3 := List.pairwise_append.mp h3
    have omr : Ord m r := o3.2.2 m (by simp) r (by simp)
    have pm : m.lo < m.hi := h1 m (by simp)
    have pr : r.lo < r.hi := h1 r (by simp)
    split
    · rename_i t
      obtain ⟨t1, t2, t3⟩ := t
      have hin : ∀ x : Row, x ∈ a ++ [m] ++ r :: rest → x ∈ a ∨ x = m ∨ x = r ∨ x ∈ rest := by
        intro x hx
        simp at hx
        exact hx
      have e2 : a ++ [⟨m.lo, r.hi, r.wr, r.hd⟩] ++ rest = a ++ (⟨m.lo, r.hi, r.wr, r.hd⟩ :: rest) := by simp
      have e1 : a ++ [m] ++ r :: rest = a ++ (m :: r :: rest) := by simp
      rw [e1] at h1 h2 h3 h6
      have p2 := List.pairwise_append.mp h2
      have p2b := List.pairwise_cons.mp p2.2.1
      have p2c := List.pairwise_cons.mp p2b.2
      have q3 := List.pairwise_append.mp h3
      have q3b := List.pairwise_cons.mp q3.2.1
      have q3c := List.pairwise_cons.mp q3b.2
      have s4 := List.pairwise_append.mp h4
      have glue : ∀ q : Row, q.lo < q.hi → Comp m q → Comp r q → Comp ⟨m.lo, r.hi, r.wr, r.hd⟩ q := by
        intro q hq c1 c2
        rcases c1 with c1 | ⟨c1, c1', c1''⟩
        · rcases c2 with c2 | ⟨c2, c2', c2''⟩
          · refine .inl ?_
            show q.hi ≤ m.lo ∨ r.hi ≤ q.lo
            omega
          · exact .inr ⟨c2, c2', c2''⟩
        · exact .inr ⟨by show r.hd ≠ q.hd; rw [← t3]; exact c1, by show r.wr = false; rw [← t2]; exact c1', c1''⟩
      refine ⟨?_, ?_, ?_, ?_, ?_, ?_⟩
      · rw [e2]
        intro x hx
        rw [List.mem_append, List.mem_cons] at hx
        rcases hx with hx | hx | hx
        · exact h1 x (by simp [hx])
        · subst hx
          show m.lo < r.hi
          omega
        · exact h1 x (by simp [hx])
      · rw [e2, List.pairwise_append]
        refine ⟨p2.1, List.pairwise_cons.mpr ⟨fun q hq => glue q (h1 q (by simp [hq])) (p2b.1 q (by simp [hq])) (p2c.1 q hq), p2c.2⟩, fun x hx y hy => ?_⟩
        rw [List.mem_cons] at hy
        rcases hy with hy | hy
        · subst hy
          exact (glue x (h1 x (by simp [hx])) (p2.2.2 x hx m (by simp)).symm (p2.2.2 x hx r (by simp)).symm).symm
        · exact p2.2.2 x hx y (by simp [hy])
      · rw [e2, List.pairwise_append]
        refine ⟨q3.1, List.pairwise_cons.mpr ⟨fun q hq => q3c.1 q hq, q3c.2⟩, fun x hx y hy => ?_⟩
        rw [List.mem_cons] at hy
        rcases hy with hy | hy
        · subst hy
          have := q3.2.2 x hx m (by simp)
          unfold Ord at this ⊢
          simpa [t2, t3] using this
        · exact q3.2.2 x hx y (by simp [hy])
      · rw [List.pairwise_append]
        refine ⟨s4.1, by simp, fun x hx y hy => ?_⟩
        rw [List.mem_singleton] at hy
        subst hy
        have := s4.2.2 x hx m (by simp)
        unfold OrdS at this ⊢
        simpa [t2, t3] using this
      · intro h w p
        rw [← h5 h w p, e1, e2]
        constructor
        · rintro ⟨x, hx, c1, c2, c3, c4⟩
          rw [List.mem_append, List.mem_cons] at hx
          rcases hx with hx | hx | hx
          · exact ⟨x, by simp [hx], c1, c2, c3, c4⟩
          · subst hx
            by_cases hp : p < m.hi
            · exact ⟨m, by simp, t3.trans c1, t2.trans c2, c3, hp⟩
            · exact ⟨r, by simp, c1, c2, by omega, c4⟩
          · exact ⟨x, by simp [hx], c1, c2, c3, c4⟩
        · rintro ⟨x, hx, c1, c2, c3, c4⟩
          rw [List.mem_append, List.mem_cons, List.mem_cons] at hx
          rcases hx with hx | hx | hx | hx
          · exact ⟨x, by simp [hx], c1, c2, c3, c4⟩
          · subst hx
            exact ⟨⟨x.lo, r.hi, r.wr, r.hd⟩, by simp, t3.symm.trans c1, t2.symm.trans c2, c3, by show p < r.hi; omega⟩
          · subst hx
            exact ⟨⟨m.lo, x.hi, x.wr, x.hd⟩, by simp, c1, c2, by show m.lo ≤ p; omega, c4⟩
          · exact ⟨x, by simp [hx], c1, c2, c3, c4⟩
      · intro q hq
        obtain ⟨x, hx, i⟩ := h6 q hq
        rw [e2]
        rw [List.mem_append, List.mem_cons, List.mem_cons] at hx
        rcases hx with hx | hx | hx | hx
        · exact ⟨x, by simp [hx], i⟩
        · subst hx
          refine ⟨⟨x.lo, r.hi, r.wr, r.hd⟩, by simp, i.trans ⟨t3.symm, t2.symm, Int.le_refl _, ?_⟩⟩
          show x.hi ≤ r.hi
          omega
        · subst hx
          refine ⟨⟨m.lo, x.hi, x.wr, x.hd⟩, by simp, i.trans ⟨rfl, rfl, ?_, Int.le_refl _⟩⟩
          show m.lo ≤ x.lo
          omega
        · exact ⟨x, by simp [hx], i⟩
    · rename_i t
      have smr : OrdS m r := by
        unfold Ord OrdS at *
        rcases omr with z | ⟨z, z2 | ⟨z2, z3⟩⟩
        · exact .inl z
        · exact .inr ⟨z, .inl z2⟩
        · refine .inr ⟨z, .inr ⟨z2, ?_⟩⟩
          have : m.hi ≠ r.lo := fun e => t ⟨e, z2, z⟩
          omega
      refine plain fun x hx => ?_
      rw [List.mem_append, List.mem_singleton] at hx
      rcases hx with hx | hx
      · exact ((List.pairwise_append.mp h4).2.2 x hx m (by simp)).trans omr pm
      · exact hx ▸ smr
theorem Fold.all {rows : List Row} : ∀ {rest made : List Row}, Fold rows made rest → Fold rows (rest.foldl mergeStep made) []
  | [], _, F => F
  | r :: rest, _, F => Fold.all (rest := rest) F.step
theorem fold_start {rows : List Row} (g : Good rows) : Fold rows [] (rows.mergeSort keyLe) := by
  have p := List.mergeSort_perm rows keyLe
  have gs : Good (rows.mergeSort keyLe) := g.perm p.symm
  have hs := List.pairwise_mergeSort (le := keyLe) keyLe_trans keyLe_total rows
  refine ⟨gs.pos, gs.pw, ?_, List.Pairwise.nil, fun h w x => ⟨fun c => c.perm p, fun c => c.perm p.symm⟩, fun r hr => ⟨r, p.mem_iff.mpr hr, In.refl r⟩⟩
  show (rows.mergeSort keyLe).Pairwise Ord
  have both := hs.and gs.pw
  refine List.Pairwise.imp_of_mem (fun {a b} ha hb h => ?_) both
  exact ord_of (gs.pos a ha) (gs.pos b hb) h.1 h.2
/-- the merged rows, ahead of the last sorting -/
def merged (rows : List Row) : List Row := (rows.mergeSort keyLe).foldl mergeStep []
theorem asLong_eq (rows : List Row) : asLong rows = (merged rows).mergeSort tupLe := rfl
theorem merged_fold {rows : List Row} (g : Good rows) : Fold rows (merged rows) [] := (fold_start g).all
theorem merged_perm (rows : List Row) : (asLong rows).Perm (merged rows) := List.mergeSort_perm _ _
theorem long_good {rows : List Row} (g : Good rows) : Good (asLong rows) := by
  have F := merged_fold g
  refine Good.perm (merged_perm rows).symm ⟨?_, ?_⟩
  · have := F.pos
    rw [List.append_nil] at this
    exact this
  · have := F.cmp
    rw [List.append_nil] at this
    exact this
theorem long_cov {rows : List Row} (g : Good rows) {h : Int} {w : Bool} {p : Int} : Cov (asLong rows) h w p ↔ Cov rows h w p := by
  have F := (merged_fold g).cov h w p
  rw [List.append_nil] at F
  exact ⟨fun c => F.mp (c.perm (merged_perm rows)), fun c => (F.mpr c).perm (merged_perm rows).symm⟩
theorem long_in {rows : List Row} (g : Good rows) {r : Row} (hr : r ∈ rows) : ∃ x ∈ asLong rows, In r x := by
  obtain ⟨x, hx, i⟩ := (merged_fold g).sub r hr
  rw [List.append_nil] at hx
  exact ⟨x, (merged_perm rows).mem_iff.mpr hx, i⟩
/-- no two of one hand and sort touch -/
def Apart (r q : Row) : Prop := r.hd = q.hd → r.wr = q.wr → r.hi ≠ q.lo ∧ q.hi ≠ r.lo
theorem Apart.symm {r q : Row} (h : Apart r q) : Apart q r := fun e1 e2 => (h e1.symm e2.symm).symm
theorem long_apart {rows : List Row} (g : Good rows) : (asLong rows).Pairwise Apart := by
  have F := merged_fold g
  refine ((merged_perm rows).symm.pairwise_iff fun h => h.symm).mp ?_
  have pos := F.pos
  rw [List.append_nil] at pos
  refine List.Pairwise.imp_of_mem (fun {a b} ha hb h e1 e2 => ?_) F.strict
  have h1 := pos a ha
  have h2 := pos b hb
  unfold OrdS at h
  rcases h with h | ⟨_, ⟨h, h'⟩ | ⟨_, h⟩⟩
  · omega
  · rw [h, h'] at e2
    simp at e2
  · omega
theorem long_sorted (rows : List Row) : (asLong rows).Pairwise fun a b => tupLe a b = true := List.pairwise_mergeSort tupLe_trans tupLe_total _
theorem Good.nodup {rows : List Row} (g : Good rows) : rows.Nodup := by
  refine List.Pairwise.imp_of_mem (fun {a b} ha hb c e => ?_) g.pw
  subst e
  have := g.pos a ha
  rcases c with c | ⟨c, _⟩
  · omega
  · exact c rfl
/-- two of one list that are not one and the same -/
theorem pw_ne {R : Row → Row → Prop} (hs : ∀ {a b}, R a b → R b a) {l : List Row} (p : l.Pairwise R) {a b : Row} (ha : a ∈ l) (hb : b ∈ l) (ne : a ≠ b) : R a b := by
  induction p with
  | nil => simp at ha
  | @cons x l h p ih =>
    rw [List.mem_cons] at ha hb
    rcases ha with ha | ha
    · subst ha
      rcases hb with hb | hb
      · exact absurd hb.symm ne
      · exact h b hb
    · rcases hb with hb | hb
      · subst hb
        exact hs (h a ha)
      · exact ih ha hb
/-- a longest covered stretch -/
structure Longest (C : Int → Bool → Int → Prop) (r : Row) : Prop where
  pos : r.lo < r.hi
  all : ∀ p, r.lo ≤ p → p < r.hi → C r.hd r.wr p
  lo : ¬ C r.hd r.wr (r.lo - 1)
  hi : ¬ C r.hd r.wr r.hi
theorem longest_of {l : List Row} (g : Good l) (ap : l.Pairwise Apart) {r : Row} (hr : r ∈ l) : Longest (Cov l) r := by
  have sep : ∀ x ∈ l, x.hd = r.hd → x.wr = r.wr → x ≠ r → (x.hi < r.lo ∨ r.hi < x.lo) := fun x hx e1 e2 ne => by
    have c := pw_ne (fun h => Comp.symm h) g.pw hx hr ne
    have a := pw_ne (fun h => Apart.symm h) ap hx hr ne e1 e2
    rcases c with c | c
    · omega
    · exact absurd e1 c.1
  refine ⟨g.pos r hr, fun p h1 h2 => ⟨r, hr, rfl, rfl, h1, h2⟩, ?_, ?_⟩
  · rintro ⟨x, hx, e1, e2, h1, h2⟩
    by_cases e : x = r
    · subst e; omega
    · have := sep x hx e1 e2 e
      have := g.pos x hx
      have := g.pos r hr
      omega
  · rintro ⟨x, hx, e1, e2, h1, h2⟩
    by_cases e : x = r
    · subst e; omega
    · have := sep x hx e1 e2 e
      have := g.pos x hx
      have := g.pos r hr
      omega
theorem of_longest {l : List Row} (g : Good l) (ap : l.Pairwise Apart) {r : Row} (L : Longest (Cov l) r) : r ∈ l := by
  obtain ⟨x, hx, e1, e2, h1, h2⟩ := L.all r.lo (Int.le_refl _) L.pos
  have Lx := longest_of g ap hx
  have hlo : x.lo = r.lo := by
    by_cases z : x.lo = r.lo
    · exact z
    · exact absurd (e1 ▸ e2 ▸ Lx.all (r.lo - 1) (by omega) (by omega)) L.lo
  have hhi : x.hi = r.hi := by
    by_cases z : x.hi < r.hi
    · exact absurd (e1.symm ▸ e2.symm ▸ L.all x.hi (by omega) z) Lx.hi
    · by_cases z2 : r.hi < x.hi
      · have h3 := L.pos
        exact absurd (e1 ▸ e2 ▸ Lx.all r.hi (by omega) z2) L.hi
      · omega
  have : x = r := by
    obtain ⟨a, b, c, d⟩ := x
    obtain ⟨a', b', c', d'⟩ := r
    simp_all
  exact this ▸ hx
/-- lists in the one form whose cover is one for some hands are one list for these hands -/
theorem long_eq {xs ys : List Row} (gx : Good xs) (gy : Good ys) (keep : Int → Bool) (h : ∀ k w p, keep k = true → (Cov xs k w p ↔ Cov ys k w p)) :
    (asLong xs).filter (fun r => keep r.hd) = (asLong ys).filter (fun r => keep r.hd) := by
  have one : ∀ {as bs : List Row}, Good as → Good bs → (∀ k w p, keep k = true → (Cov as k w p ↔ Cov bs k w p)) → ∀ r ∈ (asLong as).filter (fun r => keep r.hd), r ∈ (asLong bs).filter (fun r => keep r.hd) := by
    intro as bs ga gb hc r hr
    rw [List.mem_filter] at hr ⊢
    refine ⟨of_longest (long_good gb) (long_apart gb) ?_, hr.2⟩
    have L := longest_of (long_good ga) (long_apart ga) hr.1
    have tr : ∀ p, Cov (asLong as) r.hd r.wr p ↔ Cov (asLong bs) r.hd r.wr p := fun p => by rw [long_cov ga, long_cov gb]; exact hc _ _ _ hr.2
    exact ⟨L.pos, fun p h1 h2 => (tr p).mp (L.all p h1 h2), fun c => L.lo ((tr _).mpr c), fun c => L.hi ((tr _).mpr c)⟩
  have nx : ((asLong xs).filter (fun r => keep r.hd)).Nodup := (long_good gx).nodup.filter _
  have ny : ((asLong ys).filter (fun r => keep r.hd)).Nodup := (long_good gy).nodup.filter _
  have pm : ((asLong xs).filter (fun r => keep r.hd)).Perm ((asLong ys).filter (fun r => keep r.hd)) := by
    rw [List.perm_iff_count]
    intro a
    have c1 := List.Nodup.count (a := a) nx
    have c2 := List.Nodup.count (a := a) ny
    rw [c1, c2]
    have : a ∈ (asLong xs).filter (fun r => keep r.hd) ↔ a ∈ (asLong ys).filter (fun r => keep r.hd) := ⟨one gx gy h a, one gy gx (fun k w p hk => (h k w p hk).symm) a⟩
    simp only [this]
  exact List.Perm.eq_of_pairwise (le := fun a b => tupLe a b = true) (fun a b _ _ h1 h2 => tupLe_antisymm a b h1 h2) ((long_sorted xs).filter _) ((long_sorted ys).filter _) pm
end FS
/-! FMath3 -/
set_option linter.unusedVariables false
namespace FS
/-! ### the locks' state -/
structure LS where
  pieces : List (Int × List Row)
  wished : List Wish
def getP (ps : List (Int × List Row)) (f : Int) : List Row := ((ps.find? fun p => decide (p.1 = f)).map (·.2)).getD []
def putP (ps : List (Int × List Row)) (f : Int) (rs : List Row) : List (Int × List Row) :=
  if (ps.any fun p => decide (p.1 = f)) = true then ps.map (fun p => if p.1 = f then (p.1, rs) else p) else ps ++ [(f, rs)]
theorem getP_put (f g : Int) (rs : List Row) : ∀ ps : List (Int × List Row), getP (putP ps f rs) g = if g = f then rs else getP ps g
  | [] => by
    unfold putP getP
    by_cases h : g = f
    · simp [h]
    · have : ¬ f = g := fun e => h e.symm
      simp [h, this]
  | p :: ps => by
    have ih := getP_put f g rs ps
    by_cases hp : p.1 = f
    · have e : putP (p :: ps) f rs = (p.1, rs) :: ps.map (fun p => if p.1 = f then (p.1, rs) else p) := by
        unfold putP
        simp [hp]
      rw [e]
      by_cases hg : g = f
      · unfold getP
        simp [hg, hp]
      · have n1 : ¬ p.1 = g := fun z => hg (z.symm.trans hp)
        have n2 : ∀ l : List (Int × List Row), getP (l.map (fun p => if p.1 = f then (p.1, rs) else p)) g = getP l g := by
          intro l
          induction l with
          | nil => rfl
          | cons q l ih2 =>
            by_cases hq : q.1 = f
            · have n3 : ¬ f = g := fun z => hg z.symm
              have : ¬ q.1 = g := fun z => hg (z.symm.trans hq)
              unfold getP at ih2 ⊢
              simp only [List.map_cons, hq, if_true]
              rw [List.find?_cons_of_neg (by simpa using n3), List.find?_cons_of_neg (by simpa using this)]
              exact ih2
            · unfold getP at ih2 ⊢
              simp only [List.map_cons, hq, if_false]
              by_cases hz : q.1 = g
              · rw [List.find?_cons_of_pos (by simpa using hz), List.find?_cons_of_pos (by simpa using hz)]
              · rw [List.find?_cons_of_neg (by simpa using hz), List.find?_cons_of_neg (by simpa using hz)]
                exact ih2
        rw [if_neg hg]
        have a1 : getP ((p.1, rs) :: ps.map (fun p => if p.1 = f then (p.1, rs) else p)) g = getP (ps.map (fun p => if p.1 = f then (p.1, rs) else p)) g := by
          unfold getP
          rw [List.find?_cons_of_neg (by simpa using n1)]
        have a2 : getP (p :: ps) g = getP ps g := by
          unfold getP
          rw [List.find?_cons_of_neg (by simpa using n1)]
        rw [a1, a2, n2]
    · have e : putP (p :: ps) f rs = p :: putP ps f rs := by
        unfold putP
        by_cases ha : (ps.any fun p => decide (p.1 = f)) = true
        · have : ((p :: ps).any fun p => decide (p.1 = f)) = true := by simp [List.any_cons, ha]
          rw [if_pos this, if_pos ha, List.map_cons, if_neg hp]
        · have : ¬ ((p :: ps).any fun p => decide (p.1 = f)) = true := by rw [List.any_cons]; simp [hp, ha]
          rw [if_neg this, if_neg ha]
          rfl
      rw [e]
      by_cases hz : p.1 = g
      · have : ¬ g = f := fun z => hp (hz.trans z)
        rw [if_neg this]
        unfold getP
        rw [List.find?_cons_of_pos (by simpa using hz), List.find?_cons_of_pos (by simpa using hz)]
      · have a1 : ∀ l, getP (p :: l) g = getP l g := fun l => by
          unfold getP
          rw [List.find?_cons_of_neg (by simpa using hz)]
        rw [a1, a1, ih]
theorem putP_keys (f : Int) (rs : List Row) (ps : List (Int × List Row)) : (putP ps f rs).map (·.1) = if f ∈ ps.map (·.1) then ps.map (·.1) else ps.map (·.1) ++ [f] := by
  unfold putP
  by_cases h : (ps.any fun p => decide (p.1 = f)) = true
  · have hm : f ∈ ps.map (·.1) := by
      obtain ⟨p, hp, e⟩ := List.any_eq_true.mp h
      exact List.mem_map.mpr ⟨p, hp, of_decide_eq_true e⟩
    rw [if_pos h, if_pos hm, List.map_map]
    refine List.map_congr_left fun p _ => ?_
    simp only [Function.comp]
    split <;> rfl
  · have hm : ¬ f ∈ ps.map (·.1) := fun m => by
      obtain ⟨p, hp, e⟩ := List.mem_map.mp m
      exact h (List.any_eq_true.mpr ⟨p, hp, decide_eq_true e⟩)
    rw [if_neg h, if_neg hm, List.map_append]
    rfl
/-! ### who holds against a wish -/
def ddp (l : List Int) : List Int := l.foldl (fun acc x => if x ∈ acc then acc else acc ++ [x]) []
theorem ddp_go (l : List Int) : ∀ acc : List Int, acc.Nodup → (l.foldl (fun acc x => if x ∈ acc then acc else acc ++ [x]) acc).Nodup ∧ ∀ y, y ∈ l.foldl (fun acc x => if x ∈ acc then acc else acc ++ [x]) acc ↔ y ∈ acc ∨ y ∈ l := by
  induction l with
  | nil => exact fun acc h => ⟨h, fun y => by simp⟩
  | cons x l ih =>
    intro acc h
    rw [List.foldl_cons]
    by_cases hx : x ∈ acc
    · rw [if_pos hx]
      obtain ⟨a, b⟩ := ih acc h
      refine ⟨a, fun y => ?_⟩
      rw [b y, List.mem_cons]
      constructor
      · rintro (q | q)
        · exact .inl q
        · exact .inr (.inr q)
      · rintro (q | q | q)
        · exact .inl q
        · exact .inl (q ▸ hx)
        · exact .inr q
    · rw [if_neg hx]
      obtain ⟨a, b⟩ := ih (acc ++ [x]) (by
        rw [List.nodup_append]
        exact ⟨h, by simp, fun a ha b hb e => by rw [List.mem_singleton] at hb; subst hb; exact hx (e ▸ ha)⟩)
      refine ⟨a, fun y => ?_⟩
      rw [b y, List.mem_append, List.mem_singleton, List.mem_cons, or_assoc]
theorem ddp_mem {l : List Int} {y : Int} : y ∈ ddp l ↔ y ∈ l := by
  have := (ddp_go l [] List.nodup_nil).2 y
  simpa [ddp] using this
theorem ddp_nodup (l : List Int) : (ddp l).Nodup := (ddp_go l [] List.nodup_nil).1
def intLe (a b : Int) : Bool := decide (a ≤ b)
def holders (rows : List Row) (w : Wish) : List Int := (ddp ((rows.filter fun r => hits w.row r).map (·.hd))).mergeSort intLe
theorem holders_mem {rows : List Row} {w : Wish} {y : Int} : y ∈ holders rows w ↔ ∃ r ∈ rows, hits w.row r = true ∧ r.hd = y := by
  unfold holders
  rw [(List.mergeSort_perm _ _).mem_iff, ddp_mem, List.mem_map]
  constructor
  · rintro ⟨r, hr, e⟩
    rw [List.mem_filter] at hr
    exact ⟨r, hr.1, hr.2, e⟩
  · rintro ⟨r, hr, h, e⟩
    exact ⟨r, List.mem_filter.mpr ⟨hr, h⟩, e⟩
theorem holders_cov {rows : List Row} {w : Wish} {y : Int} : y ∈ holders rows w ↔ w.hd ≠ y ∧ ∃ s p, (w.wr = true ∨ s = true) ∧ w.lo ≤ p ∧ p < w.hi ∧ Cov rows y s p := by
  rw [holders_mem]
  constructor
  · rintro ⟨r, hr, h, e⟩
    obtain ⟨h1, h2, h3⟩ := hits_iff.mp h
    have h1 : w.hd ≠ r.hd := h1
    have h2 : w.wr = true ∨ r.wr = true := h2
    have h3 : max w.lo r.lo < min w.hi r.hi := h3
    refine ⟨e ▸ h1, r.wr, max w.lo r.lo, h2, by omega, by omega, r, hr, e, rfl, by omega, by omega⟩
  · rintro ⟨ne, s, p, h1, h2, h3, r, hr, e1, e2, h4, h5⟩
    refine ⟨r, hr, hits_iff.mpr ⟨?_, ?_, ?_⟩, e1⟩
    · show w.hd ≠ r.hd
      exact e1.symm ▸ ne
    · show w.wr = true ∨ r.wr = true
      exact e2.symm ▸ h1
    · show max w.lo r.lo < min w.hi r.hi
      omega
theorem holders_nil {rows : List Row} {w : Wish} : holders rows w = [] ↔ ∀ r ∈ rows, hits w.row r = false := by
  constructor
  · intro h r hr
    cases e : hits w.row r with
    | false => rfl
    | true =>
      have : r.hd ∈ holders rows w := holders_mem.mpr ⟨r, hr, e, rfl⟩
      rw [h] at this
      simp at this
  · intro h
    cases e : holders rows w with
    | nil => rfl
    | cons y l =>
      have : y ∈ holders rows w := by rw [e]; simp
      obtain ⟨r, hr, q, _⟩ := holders_mem.mp this
      rw [h r hr] at q
      simp at q
theorem holders_own {rows : List Row} {w : Wish} : w.hd ∉ holders rows w := fun h => (holders_cov.mp h).1 rfl
def LS.hold (S : LS) (w : Wish) : List Int := holders (getP S.pieces w.fl) w
def newRows (rows : List Row) (w : Wish) : List Row := asLong (cutOut rows w.hd w.lo w.hi ++ [w.row])
def LS.put (S : LS) (w : Wish) : LS := ⟨putP S.pieces w.fl (newRows (getP S.pieces w.fl) w), S.wished⟩
def LS.drop (S : LS) (w : Wish) : LS := ⟨S.pieces, S.wished.erase w⟩
def LS.grant (S : LS) (w : Wish) : LS := (S.drop w).put w
inductive LetIn (S : LS) : LS → List Int → Prop
  | nil : LetIn S S []
  | snoc {S1 : LS} {told : List Int} {w : Wish} : LetIn S S1 told → w ∈ S1.wished → S1.hold w = [] → LetIn S (S1.grant w) (told ++ [w.hd])
/-! ### what holds of the state -/
structure WF (hs ns ps : List Int) (S : LS) : Prop where
  good : ∀ f, Good (getP S.pieces f)
  dom : ∀ f, ∀ r ∈ getP S.pieces f, r.hd ∈ hs ∧ r.lo ∈ ps ∧ r.hi ∈ ps
  wnd : (S.wished.map (·.hd)).Nodup
  wok : ∀ w ∈ S.wished, w.hd ∈ hs ∧ w.fl ∈ ns ∧ w.lo ∈ ps ∧ w.hi ∈ ps ∧ w.lo < w.hi
  knd : (S.pieces.map (·.1)).Nodup
  kin : ∀ k ∈ S.pieces.map (·.1), k ∈ ns
def Ranked (S : LS) : Prop := ∃ rank : Int → Nat, ∀ w ∈ S.wished, ∀ v ∈ S.wished, v.hd ∈ S.hold w → rank v.hd < rank w.hd
def Blocked (S : LS) : Prop := ∀ w ∈ S.wished, S.hold w ≠ []
def Held (S : LS) (w : Wish) : Prop := ∃ r ∈ getP S.pieces w.fl, In w.row r
theorem put_get (S : LS) (w : Wish) (f : Int) : getP (S.put w).pieces f = if f = w.fl then newRows (getP S.pieces w.fl) w else getP S.pieces f := getP_put _ _ _ _
/-! ### what a put does -/
theorem pre_good {rows : List Row} {w : Wish} (g : Good rows) (hl : w.lo < w.hi) (h : holders rows w = []) : Good (cutOut rows w.hd w.lo w.hi ++ [w.row]) := by
  have gc := g.cut (h := w.hd) hl
  refine ⟨fun r hr => ?_, ?_⟩
  · rw [List.mem_append, List.mem_singleton] at hr
    rcases hr with hr | hr
    · exact gc.pos r hr
    · subst hr
      exact hl
  · rw [List.pairwise_append]
    refine ⟨gc.pw, by simp, fun a ha b hb => ?_⟩
    rw [List.mem_singleton] at hb
    subst hb
    obtain ⟨r, hr, hx⟩ := mem_cutOut.mp ha
    obtain ⟨a1, a2, a3, a4, a5, a6⟩ := mem_cutRow hx
    have pos := a5 (g.pos r hr)
    by_cases e : r.hd = w.hd
    · have := a6 e
      refine .inl ?_
      show w.hi ≤ a.lo ∨ a.hi ≤ w.lo
      omega
    · have nh := holders_nil.mp h r hr
      by_cases ov : max w.lo r.lo < min w.hi r.hi
      · refine .inr ⟨by rw [a1]; exact e, ?_⟩
        have hh : ¬ (w.wr = true ∨ r.wr = true) := fun z => by
          have : hits w.row r = true := hits_iff.mpr ⟨fun q => e q.symm, z, ov⟩
          rw [nh] at this
          simp at this
        rw [not_or] at hh
        refine ⟨?_, ?_⟩
        · rw [a2]
          simpa using hh.2
        · show w.wr = false
          simpa using hh.1
      · refine .inl ?_
        show w.hi ≤ a.lo ∨ a.hi ≤ w.lo
        omega
theorem new_good {rows : List Row} {w : Wish} (g : Good rows) (hl : w.lo < w.hi) (h : holders rows w = []) : Good (newRows rows w) := long_good (pre_good g hl h)
theorem new_cov {rows : List Row} {w : Wish} (g : Good rows) (hl : w.lo < w.hi) (h : holders rows w = []) {k : Int} {s : Bool} {p : Int} :
    Cov (newRows rows w) k s p ↔ (Cov rows k s p ∧ ¬ (k = w.hd ∧ w.lo ≤ p ∧ p < w.hi)) ∨ (k = w.hd ∧ s = w.wr ∧ w.lo ≤ p ∧ p < w.hi) := by
  unfold newRows
  rw [long_cov (pre_good g hl h), ← cut_cov hl]
  constructor
  · rintro ⟨r, hr, e1, e2, h1, h2⟩
    rw [List.mem_append, List.mem_singleton] at hr
    rcases hr with hr | hr
    · exact .inl ⟨r, hr, e1, e2, h1, h2⟩
    · subst hr
      exact .inr ⟨e1.symm, e2.symm, h1, h2⟩
  · rintro (⟨r, hr, q⟩ | ⟨e1, e2, h1, h2⟩)
    · exact ⟨r, List.mem_append_left _ hr, q⟩
    · exact ⟨w.row, by simp, e1.symm, e2.symm, h1, h2⟩
theorem new_cov_other {rows : List Row} {w : Wish} (g : Good rows) (hl : w.lo < w.hi) (h : holders rows w = []) {k : Int} (hk : k ≠ w.hd) {s : Bool} {p : Int} : Cov (newRows rows w) k s p ↔ Cov rows k s p := by
  rw [new_cov g hl h]
  constructor
  · rintro (q | q)
    · exact q.1
    · exact absurd q.1 hk
  · exact fun q => .inl ⟨q, fun z => hk z.1⟩
/-- ends and hands of what is made of rows are those of the rows -/
theorem ends_fold {D : Row → Prop} (hD : ∀ a b : Row, D a → D b → a.hd = b.hd → a.wr = b.wr → D ⟨a.lo, b.hi, b.wr, b.hd⟩) : ∀ {rest made : List Row}, (∀ r ∈ made, D r) → (∀ r ∈ rest, D r) → ∀ r ∈ rest.foldl mergeStep made, D r
  | [], _, h, _ => h
  | x :: rest, made, h, k => by
    rw [List.foldl_cons]
    refine ends_fold hD (rest := rest) (fun r hr => ?_) (fun r hr => k r (List.mem_cons_of_mem _ hr))
    have hx := k x List.mem_cons_self
    unfold mergeStep at hr
    rcases getLast_cases made with e | ⟨a, m, e⟩
    · subst e
      have hr : r ∈ [] ++ [x] := hr
      simp at hr
      exact hr ▸ hx
    · subst e
      rw [List.getLast?_concat] at hr
      simp only [List.dropLast_concat] at hr
      split at hr
      · rename_i t
        rw [List.mem_append, List.mem_singleton] at hr
        rcases hr with hr | hr
        · exact h r (List.mem_append_left _ hr)
        · exact hr ▸ hD m x (h m (by simp)) hx t.2.2 t.2.1
      · rw [List.mem_append, List.mem_singleton] at hr
        rcases hr with hr | hr
        · exact h r hr
        · exact hr ▸ hx
theorem long_dom {D : Row → Prop} (hD : ∀ a b : Row, D a → D b → a.hd = b.hd → a.wr = b.wr → D ⟨a.lo, b.hi, b.wr, b.hd⟩) {rows : List Row} (h : ∀ r ∈ rows, D r) : ∀ r ∈ asLong rows, D r := fun r hr =>
  ends_fold hD (made := []) (by simp) (fun r hr => h r ((List.mergeSort_perm rows keyLe).mem_iff.mp hr)) r ((merged_perm rows).mem_iff.mp hr)
theorem cut_dom {D : Row → Prop} {h lo hi : Int} (h1 : ∀ a : Row, D a → D ⟨a.lo, min a.hi lo, a.wr, a.hd⟩) (h2 : ∀ a : Row, D a → D ⟨max a.lo hi, a.hi, a.wr, a.hd⟩) {rows : List Row} (hD : ∀ r ∈ rows, D r) : ∀ r ∈ cutOut rows h lo hi, D r := fun r hr => by
  obtain ⟨q, hq, hx⟩ := mem_cutOut.mp hr
  unfold cutRow at hx
  split at hx
  · rw [List.mem_append] at hx
    rcases hx with hx | hx
    · split at hx
      · rw [List.mem_singleton] at hx
        exact hx ▸ h1 q (hD q hq)
      · simp at hx
    · split at hx
      · rw [List.mem_singleton] at hx
        exact hx ▸ h2 q (hD q hq)
      · simp at hx
  · rw [List.mem_singleton] at hx
    exact hx ▸ hD q hq
def InDom (hs ps : List Int) (r : Row) : Prop := r.hd ∈ hs ∧ r.lo ∈ ps ∧ r.hi ∈ ps
theorem inDom_cut {hs ps : List Int} {h lo hi : Int} (hlo : lo ∈ ps) (hhi : hi ∈ ps) {rows : List Row} (hD : ∀ r ∈ rows, InDom hs ps r) : ∀ r ∈ cutOut rows h lo hi, InDom hs ps r := by
  refine cut_dom (fun a ha => ?_) (fun a ha => ?_) hD
  · refine ⟨ha.1, ha.2.1, ?_⟩
    show min a.hi lo ∈ ps
    by_cases z : a.hi ≤ lo
    · rw [Int.min_eq_left z]; exact ha.2.2
    · rw [Int.min_eq_right (by omega)]; exact hlo
  · refine ⟨ha.1, ?_, ha.2.2⟩
    show max a.lo hi ∈ ps
    by_cases z : a.lo ≤ hi
    · rw [Int.max_eq_right z]; exact hhi
    · rw [Int.max_eq_left (by omega)]; exact ha.2.1
theorem inDom_long {hs ps : List Int} {rows : List Row} (hD : ∀ r ∈ rows, InDom hs ps r) : ∀ r ∈ asLong rows, InDom hs ps r :=
  long_dom (fun a b ha hb e1 e2 => ⟨hb.1, ha.2.1, hb.2.2⟩) hD
theorem new_dom {hs ps : List Int} {rows : List Row} {w : Wish} (hD : ∀ r ∈ rows, InDom hs ps r) (h1 : w.hd ∈ hs) (h2 : w.lo ∈ ps) (h3 : w.hi ∈ ps) : ∀ r ∈ newRows rows w, InDom hs ps r := by
  refine inDom_long fun r hr => ?_
  rw [List.mem_append, List.mem_singleton] at hr
  rcases hr with hr | hr
  · exact inDom_cut h2 h3 hD r hr
  · exact hr ▸ ⟨h1, h2, h3⟩
end FS
/-! FMath4 -/
set_option linter.unusedVariables false
namespace FS
theorem nodup_of_map {α β : Type} {f : α → β} {l : List α} (h : (l.map f).Nodup) : l.Nodup := (List.pairwise_map.mp h).imp fun k e => k (congrArg f e)
theorem map_inj_of {α β : Type} {f : α → β} {l : List α} (h : (l.map f).Nodup) {a b : α} (ha : a ∈ l) (hb : b ∈ l) (e : f a = f b) : a = b := by
  obtain ⟨i, hi, ei⟩ := List.getElem_of_mem ha
  obtain ⟨j, hj, ej⟩ := List.getElem_of_mem hb
  have h1 : (l.map f)[i]'(by simpa using hi) = (l.map f)[j]'(by simpa using hj) := by simp [ei, ej, e]
  have := (List.getElem_inj h).mp h1
  subst this
  exact ei.symm.trans ej
section
variable {hs ns ps : List Int}
/-- a wish that is in order -/
def WOk (hs ns ps : List Int) (w : Wish) : Prop := w.hd ∈ hs ∧ w.fl ∈ ns ∧ w.lo ∈ ps ∧ w.hi ∈ ps ∧ w.lo < w.hi
theorem wf_pieces {S S' : LS} (W : WF hs ns ps S) (good : ∀ f, Good (getP S'.pieces f)) (dom : ∀ f, ∀ r ∈ getP S'.pieces f, InDom hs ps r) (hw : S'.wished = S.wished) (knd : (S'.pieces.map (·.1)).Nodup) (kin : ∀ k ∈ S'.pieces.map (·.1), k ∈ ns) : WF hs ns ps S' :=
  ⟨good, dom, hw ▸ W.wnd, hw ▸ W.wok, knd, kin⟩
theorem putP_knd {pcs : List (Int × List Row)} {f : Int} {rs : List Row} (h : (pcs.map (·.1)).Nodup) : ((putP pcs f rs).map (·.1)).Nodup := by
  rw [putP_keys]
  split
  · exact h
  · rename_i n
    rw [List.nodup_append]
    exact ⟨h, by simp, fun a ha b hb e => by rw [List.mem_singleton] at hb; subst hb; exact n (e ▸ ha)⟩
theorem putP_kin {pcs : List (Int × List Row)} {f : Int} {rs : List Row} (h : ∀ k ∈ pcs.map (·.1), k ∈ ns) (hf : f ∈ ns) : ∀ k ∈ (putP pcs f rs).map (·.1), k ∈ ns := by
  rw [putP_keys]
  split
  · exact h
  · intro k hk
    rw [List.mem_append, List.mem_singleton] at hk
    rcases hk with hk | hk
    · exact h k hk
    · exact hk ▸ hf
theorem WF.put {S : LS} {w : Wish} (W : WF hs ns ps S) (hw : WOk hs ns ps w) (h : S.hold w = []) : WF hs ns ps (S.put w) := by
  obtain ⟨w1, w2, w3, w4, w5⟩ := hw
  refine wf_pieces W (fun f => ?_) (fun f => ?_) rfl (putP_knd W.knd) (putP_kin W.kin w2)
  · rw [put_get]
    split
    · exact new_good (W.good _) w5 h
    · exact W.good f
  · rw [put_get]
    split
    · exact new_dom (W.dom _) w1 w3 w4
    · exact W.dom f
theorem WF.drop {S : LS} {w : Wish} (W : WF hs ns ps S) : WF hs ns ps (S.drop w) := by
  refine ⟨W.good, W.dom, ?_, fun v hv => W.wok v (List.mem_of_mem_erase hv), W.knd, W.kin⟩
  have sl : (S.wished.erase w).Sublist S.wished := List.erase_sublist
  exact (sl.map (·.hd)).nodup W.wnd
theorem WF.grant {S : LS} {w : Wish} (W : WF hs ns ps S) (hw : w ∈ S.wished) (h : S.hold w = []) : WF hs ns ps (S.grant w) :=
  WF.put W.drop (W.wok w hw) h
/-! ### who waits for whom -/
/-- less is covered, or w's hand covers -/
theorem hold_of_cov {S S' : LS} {v : Wish} {y : Int} (hc : ∀ f s p, Cov (getP S'.pieces f) y s p → Cov (getP S.pieces f) y s p) (hy : y ∈ S'.hold v) : y ∈ S.hold v := by
  unfold LS.hold at *
  rw [holders_cov] at *
  obtain ⟨h1, s, p, h2, h3, h4, h5⟩ := hy
  exact ⟨h1, s, p, h2, h3, h4, hc _ _ _ h5⟩
theorem put_cov_other {S : LS} {w : Wish} (W : WF hs ns ps S) (hl : w.lo < w.hi) (h : S.hold w = []) {k : Int} (hk : k ≠ w.hd) (f : Int) (s : Bool) (p : Int) : Cov (getP (S.put w).pieces f) k s p ↔ Cov (getP S.pieces f) k s p := by
  rw [put_get]
  split
  · rename_i e
    rw [new_cov_other (W.good _) hl h hk, e]
  · exact Iff.rfl
theorem put_hold {S : LS} {w v : Wish} (W : WF hs ns ps S) (hl : w.lo < w.hi) (h : S.hold w = []) {y : Int} (hy : y ∈ (S.put w).hold v) (hk : y ≠ w.hd) : y ∈ S.hold v :=
  hold_of_cov (fun f s p => (put_cov_other W hl h hk f s p).mp) hy
theorem Ranked.put {S : LS} {w : Wish} (W : WF hs ns ps S) (R : Ranked S) (hl : w.lo < w.hi) (h : S.hold w = []) (hn : ∀ v ∈ S.wished, v.hd ≠ w.hd) : Ranked (S.put w) := by
  obtain ⟨rank, hr⟩ := R
  exact ⟨rank, fun v hv u hu hm => hr v hv u hu (put_hold W hl h hm (hn u hu))⟩
theorem Ranked.sub {S S' : LS} (R : Ranked S) (hw : ∀ v ∈ S'.wished, v ∈ S.wished) (hc : ∀ v ∈ S'.wished, ∀ y, y ∈ S'.hold v → y ∈ S.hold v) : Ranked S' := by
  obtain ⟨rank, hr⟩ := R
  exact ⟨rank, fun v hv u hu hm => hr v (hw v hv) u (hw u hu) (hc v hv _ hm)⟩
theorem Ranked.grant {S : LS} {w : Wish} (W : WF hs ns ps S) (R : Ranked S) (hw : w ∈ S.wished) (h : S.hold w = []) : Ranked (S.grant w) := by
  have R1 : Ranked (S.drop w) := R.sub (fun v hv => List.mem_of_mem_erase hv) fun v hv y hy => hy
  refine Ranked.put (WF.drop W) R1 (W.wok w hw).2.2.2.2 h fun v hv e => ?_
  have nd := W.wnd
  have hv2 : v ∈ S.wished.erase w := hv
  have hvw : v = w := map_inj_of nd (List.mem_of_mem_erase hv2) hw e
  subst hvw
  exact ((List.Nodup.mem_erase_iff (nodup_of_map nd)).mp hv2).1 rfl
/-! ### what a way of grants does -/
theorem Held.put_self {S : LS} {w : Wish} (W : WF hs ns ps S) (hl : w.lo < w.hi) (h : S.hold w = []) : Held (S.put w) w := by
  unfold Held
  rw [put_get, if_pos rfl]
  exact long_in (pre_good (W.good _) hl h) (by simp)
theorem Held.put_other {S : LS} {w v : Wish} (W : WF hs ns ps S) (hl : w.lo < w.hi) (h : S.hold w = []) (hv : v.hd ≠ w.hd) (H : Held S v) : Held (S.put w) v := by
  obtain ⟨r, hr, i⟩ := H
  unfold Held
  rw [put_get]
  split
  · rename_i e
    have hr2 : r ∈ cutOut (getP S.pieces w.fl) w.hd w.lo w.hi ++ [w.row] := by
      refine List.mem_append_left _ ((cut_other ?_).mpr (e ▸ hr))
      have : r.hd = v.hd := i.1
      rw [this]
      exact hv
    obtain ⟨x, hx, j⟩ := long_in (pre_good (W.good _) hl h) hr2
    exact ⟨x, hx, i.trans j⟩
  · exact ⟨r, hr, i⟩
structure LetOk (hs ns ps : List Int) (S S' : LS) (told : List Int) : Prop where
  wf : WF hs ns ps S'
  rk : Ranked S → Ranked S'
  tnd : told.Nodup
  sub : ∀ v ∈ S'.wished, v ∈ S.wished
  let_ : ∀ h ∈ told, ∃ w ∈ S.wished, w.hd = h ∧ w ∉ S'.wished ∧ Held S' w
  gone : ∀ v ∈ S'.wished, v.hd ∉ told
  cov : ∀ k, k ∉ told → ∀ f s p, Cov (getP S'.pieces f) k s p ↔ Cov (getP S.pieces f) k s p
  stay : ∀ keep : Int → Bool, (∀ h ∈ told, keep h = false) → S'.wished.filter (fun v => keep v.hd) = S.wished.filter (fun v => keep v.hd)
  held : ∀ v : Wish, v.hd ∉ told → Held S v → Held S' v
theorem filter_erase_of {l : List Wish} {w : Wish} {p : Wish → Bool} (h : p w = false) : (l.erase w).filter p = l.filter p := by
  induction l with
  | nil => rfl
  | cons a l ih =>
    by_cases e : a = w
    · subst e
      rw [List.erase_cons_head, List.filter_cons, if_neg (by simp [h])]
    · rw [List.erase_cons_tail (by simpa using e), List.filter_cons, List.filter_cons, ih]
theorem LetIn.ok {S : LS} (W : WF hs ns ps S) {S' : LS} {told : List Int} (L : LetIn S S' told) : LetOk hs ns ps S S' told := by
  induction L with
  | nil => exact ⟨W, id, List.nodup_nil, fun _ h => h, by simp, by simp, fun _ _ _ _ _ => Iff.rfl, fun _ _ => rfl, fun _ _ h => h⟩
  | @snoc S1 told w L hw hb ih =>
    obtain ⟨i1, i2, i3, i4, i5, i6, i7, i8, i9⟩ := ih
    have hl := (i1.wok w hw).2.2.2.2
    have nd := i1.wnd
    have wn : w ∉ S1.wished.erase w := fun m => ((List.Nodup.mem_erase_iff (nodup_of_map nd)).mp m).1 rfl
    have one : ∀ v ∈ S1.wished.erase w, v.hd ≠ w.hd := fun v hv e => wn (map_inj_of nd (List.mem_of_mem_erase hv) hw e ▸ hv)
    have Wd : WF hs ns ps (S1.drop w) := i1.drop
    refine ⟨i1.grant hw hb, fun R => (i2 R).grant i1 hw hb, ?_, fun v hv => i4 v (List.mem_of_mem_erase hv), fun h hh => ?_, fun v hv hm => ?_, fun k hk f s p => ?_, fun keep hk => ?_, fun v hv H => ?_⟩
    · rw [List.nodup_append]
      exact ⟨i3, by simp, fun a ha b hb e => by rw [List.mem_singleton] at hb; subst hb; exact i6 w hw (e ▸ ha)⟩
    · rw [List.mem_append, List.mem_singleton] at hh
      rcases hh with hh | hh
      · obtain ⟨v, hv, e, n, H⟩ := i5 h hh
        refine ⟨v, hv, e, fun m => n (List.mem_of_mem_erase m), ?_⟩
        refine Held.put_other (S := S1.drop w) Wd hl hb (fun z => ?_) H
        exact i6 w hw (z ▸ e ▸ hh)
      · exact ⟨w, i4 w hw, hh.symm, wn, Held.put_self (S := S1.drop w) Wd hl hb⟩
    · rw [List.mem_append, List.mem_singleton] at hm
      rcases hm with hm | hm
      · exact i6 v (List.mem_of_mem_erase hv) hm
      · exact one v hv hm
    · rw [List.mem_append, List.mem_singleton, not_or] at hk
      rw [← i7 k hk.1 f s p]
      exact put_cov_other (S := S1.drop w) Wd hl hb hk.2 f s p
    · show ((S1.wished.erase w).filter fun v => keep v.hd) = _
      rw [filter_erase_of (hk w.hd (by simp))]
      exact i8 keep fun h hh => hk h (by simp [hh])
    · rw [List.mem_append, List.mem_singleton, not_or] at hv
      exact Held.put_other (S := S1.drop w) Wd hl hb hv.2 (i9 v hv.1 H)
/-! ### free, leave, a new wish -/
def LS.free (S : LS) (h f lo hi : Int) : LS := ⟨putP S.pieces f (cutOut (getP S.pieces f) h lo hi), S.wished⟩
def noHand (h : Int) (rows : List Row) : List Row := rows.filter fun r => !decide (r.hd = h)
def LS.leave (S : LS) (h : Int) : LS := ⟨S.pieces.map fun p => (p.1, noHand h p.2), S.wished.filter fun w => !decide (w.hd = h)⟩
theorem free_get (S : LS) (h f lo hi g : Int) : getP (S.free h f lo hi).pieces g = if g = f then cutOut (getP S.pieces f) h lo hi else getP S.pieces g := getP_put _ _ _ _
theorem leave_get (S : LS) (h g : Int) : getP (S.leave h).pieces g = noHand h (getP S.pieces g) := by
  unfold LS.leave
  show getP (S.pieces.map fun p => (p.1, noHand h p.2)) g = _
  induction S.pieces with
  | nil => rfl
  | cons p l ih =>
    by_cases e : p.1 = g
    · unfold getP
      rw [List.map_cons, List.find?_cons_of_pos (by simpa using e), List.find?_cons_of_pos (by simpa using e)]
      rfl
    · unfold getP at ih ⊢
      rw [List.map_cons, List.find?_cons_of_neg (by simpa using e), List.find?_cons_of_neg (by simpa using e)]
      exact ih
theorem noHand_cov {h : Int} {rows : List Row} {k : Int} {s : Bool} {p : Int} : Cov (noHand h rows) k s p ↔ Cov rows k s p ∧ k ≠ h := by
  constructor
  · rintro ⟨r, hr, e, q⟩
    obtain ⟨h1, h2⟩ := List.mem_filter.mp hr
    refine ⟨⟨r, h1, e, q⟩, ?_⟩
    rw [← e]
    simpa using h2
  · rintro ⟨⟨r, hr, e, q⟩, n⟩
    refine ⟨r, List.mem_filter.mpr ⟨hr, ?_⟩, e, q⟩
    rw [← e] at n
    simpa using n
theorem WF.free {S : LS} {h f lo hi : Int} (W : WF hs ns ps S) (hf : f ∈ ns) (h1 : lo ∈ ps) (h2 : hi ∈ ps) (hl : lo < hi) : WF hs ns ps (S.free h f lo hi) := by
  refine wf_pieces W (fun g => ?_) (fun g => ?_) rfl (putP_knd W.knd) (putP_kin W.kin hf)
  · rw [free_get]
    split
    · exact (W.good _).cut hl
    · exact W.good g
  · rw [free_get]
    split
    · exact inDom_cut h1 h2 (W.dom _)
    · exact W.dom g
theorem free_cov {S : LS} {h f lo hi : Int} (hl : lo < hi) {k : Int} {g : Int} {s : Bool} {p : Int} (c : Cov (getP (S.free h f lo hi).pieces g) k s p) : Cov (getP S.pieces g) k s p := by
  rw [free_get] at c
  split at c
  · rename_i e
    exact e ▸ ((cut_cov hl).mp c).1
  · exact c
theorem free_cov_other {S : LS} {h f lo hi : Int} (hl : lo < hi) {k : Int} (hk : k ≠ h) {g : Int} {s : Bool} {p : Int} : Cov (getP (S.free h f lo hi).pieces g) k s p ↔ Cov (getP S.pieces g) k s p := by
  refine ⟨free_cov hl, fun c => ?_⟩
  rw [free_get]
  split
  · rename_i e
    exact (cut_cov hl).mpr ⟨e ▸ c, fun z => hk z.1⟩
  · exact c
theorem Ranked.free {S : LS} {h f lo hi : Int} (hl : lo < hi) (R : Ranked S) : Ranked (S.free h f lo hi) :=
  R.sub (fun v hv => hv) fun v hv y hy => hold_of_cov (fun f s p c => free_cov hl c) hy
theorem Good.filter {rows : List Row} (g : Good rows) (p : Row → Bool) : Good (rows.filter p) := ⟨fun r hr => g.pos r (List.mem_filter.mp hr).1, g.pw.filter p⟩
theorem WF.leave {S : LS} {h : Int} (W : WF hs ns ps S) : WF hs ns ps (S.leave h) := by
  have ek : (S.leave h).pieces.map (·.1) = S.pieces.map (·.1) := by
    show (S.pieces.map fun p => (p.1, noHand h p.2)).map (·.1) = _
    rw [List.map_map]
    rfl
  refine ⟨fun f => ?_, fun f r hr => ?_, ?_, fun w hw => W.wok w (List.mem_filter.mp hw).1, ek ▸ W.knd, ek ▸ W.kin⟩
  · rw [leave_get]
    exact (W.good f).filter _
  · rw [leave_get] at hr
    exact W.dom f r (List.mem_filter.mp hr).1
  · exact (((List.filter_sublist (p := fun w : Wish => !decide (w.hd = h)) (l := S.wished)).map (·.hd)).nodup W.wnd)
theorem leave_cov {S : LS} {h k g : Int} {s : Bool} {p : Int} : Cov (getP (S.leave h).pieces g) k s p ↔ Cov (getP S.pieces g) k s p ∧ k ≠ h := by
  rw [leave_get]
  exact noHand_cov
theorem Ranked.leave {S : LS} {h : Int} (R : Ranked S) : Ranked (S.leave h) :=
  R.sub (fun v hv => (List.mem_filter.mp hv).1) fun v hv y hy => hold_of_cov (fun f s p c => (leave_cov.mp c).1) hy
def LS.wish (S : LS) (w : Wish) : LS := ⟨S.pieces, S.wished ++ [w]⟩
theorem WF.wish {S : LS} {w : Wish} (W : WF hs ns ps S) (hw : WOk hs ns ps w) (hn : ∀ v ∈ S.wished, v.hd ≠ w.hd) : WF hs ns ps (S.wish w) := by
  refine ⟨W.good, W.dom, ?_, fun v hv => ?_, W.knd, W.kin⟩
  · show ((S.wished ++ [w]).map (·.hd)).Nodup
    rw [List.map_append, List.nodup_append]
    refine ⟨W.wnd, by simp, fun a ha b hb e => ?_⟩
    obtain ⟨v, hv, ev⟩ := List.mem_map.mp ha
    simp at hb
    exact hn v hv (ev.trans (e.trans hb))
  · rcases List.mem_append.mp hv with hv | hv
    · exact W.wok v hv
    · rw [List.mem_singleton] at hv
      exact hv ▸ hw
/-! ### the search for a ring -/
/-- those for whom a hand waits -/
def LS.waits (S : LS) (h : Int) : List Int := match S.wished.find? fun w => decide (w.hd = h) with
  | some w => S.hold w
  | none => []
theorem waits_of {S : LS} (nd : (S.wished.map (·.hd)).Nodup) {w : Wish} (hw : w ∈ S.wished) : S.waits w.hd = S.hold w := by
  unfold LS.waits
  cases e : S.wished.find? fun v => decide (v.hd = w.hd) with
  | none =>
    have := List.find?_eq_none.mp e w hw
    simp at this
  | some v =>
    have h1 := List.find?_some e
    have h2 := List.mem_of_find?_eq_some e
    rw [map_inj_of nd h2 hw (by simpa using h1)]
/-- hands from which none comes to h -/
structure NoRing (S : LS) (h : Int) (others : List Int) (R : List Int) : Prop where
  has : ∀ x ∈ others, x ∈ R
  own : h ∉ R
  shut : ∀ x ∈ R, ∀ y ∈ S.waits x, y ∈ R
theorem Ranked.wish {S : LS} {w : Wish} (W : WF hs ns ps S) (R : Ranked S) {V : List Int} (N : NoRing S w.hd (S.hold w) V) (hn : ∀ v ∈ S.wished, v.hd ≠ w.hd) : Ranked (S.wish w) := by
  obtain ⟨rank, hr⟩ := R
  -- a bound of the ranks
  obtain ⟨N0, hN0⟩ : ∃ n : Nat, ∀ v ∈ S.wished, rank v.hd < n := by
    generalize S.wished = l
    induction l with
    | nil => exact ⟨0, by simp⟩
    | cons a l ih =>
      obtain ⟨n, hn⟩ := ih
      refine ⟨n + rank a.hd + 1, fun v hv => ?_⟩
      rw [List.mem_cons] at hv
      rcases hv with hv | hv
      · subst hv; omega
      · have := hn v hv; omega
  refine ⟨fun x => if x = w.hd then N0 else if x ∈ V then rank x else N0 + 1 + rank x, fun v hv u hu hm => ?_⟩
  have hm : u.hd ∈ S.hold v := hm
  have hv : v ∈ S.wished ∨ v = w := by simpa [LS.wish] using hv
  have hu : u ∈ S.wished ∨ u = w := by simpa [LS.wish] using hu
  show (if u.hd = w.hd then N0 else if u.hd ∈ V then rank u.hd else N0 + 1 + rank u.hd) < (if v.hd = w.hd then N0 else if v.hd ∈ V then rank v.hd else N0 + 1 + rank v.hd)
  rcases hv with hv | hv
  · rw [if_neg (hn v hv)]
    by_cases hvV : v.hd ∈ V
    · rw [if_pos hvV]
      have hy := N.shut v.hd hvV u.hd (by rw [waits_of W.wnd hv]; exact hm)
      have hu : u ∈ S.wished := hu.resolve_right fun e => N.own (e ▸ hy)
      rw [if_neg (hn u hu), if_pos hy]
      exact hr v hv u hu hm
    · rw [if_neg hvV]
      rcases hu with hu | hu
      · rw [if_neg (hn u hu)]
        split
        · have := hN0 u hu
          omega
        · have := hr v hv u hu hm
          omega
      · subst hu
        rw [if_pos rfl]
        omega
  · subst hv
    rw [if_pos rfl]
    have hy := N.has u.hd hm
    have hu : u ∈ S.wished := hu.resolve_right fun e => N.own (e ▸ hy)
    rw [if_neg (hn u hu), if_pos hy]
    exact hN0 u hu
end
end FS
namespace FS
theorem mergeStep_nil (r : Row) : mergeStep [] r = [r] := rfl
theorem mergeStep_yes {a : List Row} {m r : Row} (h : m.hi = r.lo ∧ m.wr = r.wr ∧ m.hd = r.hd) : mergeStep (a ++ [m]) r = a ++ [⟨m.lo, r.hi, r.wr, r.hd⟩] := by
  unfold mergeStep
  rw [List.getLast?_concat]
  simp only [List.dropLast_concat]
  rw [if_pos h]
theorem mergeStep_no {a : List Row} {m r : Row} (h : ¬ (m.hi = r.lo ∧ m.wr = r.wr ∧ m.hd = r.hd)) : mergeStep (a ++ [m]) r = a ++ [m] ++ [r] := by
  unfold mergeStep
  rw [List.getLast?_concat]
  simp only
  rw [if_neg h]
theorem mergeStep_len (made : List Row) (r : Row) : (mergeStep made r).length ≤ made.length + 1 := by
  rcases getLast_cases made with e | ⟨a, m, e⟩
  · subst e
    simp [mergeStep_nil]
  · subst e
    by_cases h : m.hi = r.lo ∧ m.wr = r.wr ∧ m.hd = r.hd
    · rw [mergeStep_yes h]; simp
    · rw [mergeStep_no h]; simp
theorem fold_len : ∀ (rest made : List Row), (rest.foldl mergeStep made).length ≤ made.length + rest.length
  | [], made => by simp
  | r :: rest, made => by
    rw [List.foldl_cons]
    have h1 := fold_len rest (mergeStep made r)
    have h2 := mergeStep_len made r
    rw [List.length_cons]
    omega
theorem asLong_len (rows : List Row) : (asLong rows).length ≤ rows.length := by
  unfold asLong
  rw [List.length_mergeSort]
  have := fold_len (rows.mergeSort keyLe) []
  rw [List.length_mergeSort] at this
  simpa using this
end FS
/-! FMath5 -/
namespace FS
/-! ### counts -/
theorem nodup_len {α : Type} [DecidableEq α] : ∀ {l m : List α}, l.Nodup → (∀ x ∈ l, x ∈ m) → l.length ≤ m.length
  | [], m, _, _ => Nat.zero_le _
  | a :: l, m, nd, h => by
    obtain ⟨n1, n2⟩ := List.nodup_cons.mp nd
    have ha := h a (by simp)
    have ih := nodup_len (l := l) (m := m.erase a) n2 (fun x hx => (List.mem_erase_of_ne (fun (e : x = a) => n1 (by rw [← e]; exact hx))).mpr (h x (by simp [hx])))
    rw [List.length_erase_of_mem ha] at ih
    have : 0 < m.length := List.length_pos_of_mem ha
    rw [List.length_cons]
    omega
theorem pairs_len (hs ps : List Int) : (hs.flatMap fun h => ps.map fun p => (h, p)).length = hs.length * ps.length := by
  induction hs with
  | nil => simp
  | cons a l ih =>
    rw [List.flatMap_cons, List.length_append, ih, List.length_map, List.length_cons, Nat.succ_mul, Nat.add_comm]
theorem good_len {hs ps : List Int} {rows : List Row} (g : Good rows) (hD : ∀ r ∈ rows, r.hd ∈ hs ∧ r.lo ∈ ps ∧ r.hi ∈ ps) : rows.length ≤ hs.length * ps.length := by
  have nd : (rows.map fun r => (r.hd, r.lo)).Nodup := by
    rw [List.nodup_iff_pairwise_ne]
    refine List.pairwise_map.mpr ?_
    have := g.pw
    refine List.Pairwise.imp_of_mem (fun {a b} ha hb c e => ?_) g.pw
    have e1 : a.hd = b.hd := congrArg Prod.fst e
    have e2 : a.lo = b.lo := congrArg Prod.snd e
    have p1 := g.pos a ha
    have p2 := g.pos b hb
    rcases c with (h | h) | h
    · omega
    · omega
    · exact h.1 e1
  have := nodup_len nd (m := hs.flatMap fun h => ps.map fun p => (h, p)) (fun x hx => by
    obtain ⟨r, hr, rfl⟩ := List.mem_map.mp hx
    obtain ⟨h1, h2, _⟩ := hD r hr
    exact List.mem_flatMap.mpr ⟨r.hd, h1, List.mem_map.mpr ⟨r.lo, h2, rfl⟩⟩)
  rw [List.length_map, pairs_len] at this
  exact this
/-- how many there are -/
structure Nm (S : LS) : Prop where
  rows : ∀ f, (getP S.pieces f).length ≤ 1000
  hold : ∀ x : Wish, (S.hold x).length < 64
  wl : S.wished.length ≤ 20
  pl : S.pieces.length ≤ 1000
theorem holders_nodup (rows : List Row) (w : Wish) : (holders rows w).Nodup := (List.mergeSort_perm _ _).nodup_iff.mpr (ddp_nodup _)
theorem Nm.of {hs ns ps : List Int} {S : LS} (W : WF hs ns ps S) (h1 : hs.length ≤ 10) (h2 : ns.length ≤ 8) (h3 : ps.length ≤ 13) : Nm S where
  rows f := by
    have := good_len (W.good f) (W.dom f)
    have k : hs.length * ps.length ≤ 10 * 13 := Nat.mul_le_mul h1 h3
    omega
  hold x := by
    have := nodup_len (holders_nodup (getP S.pieces x.fl) x) (m := hs) (fun y hy => by
      obtain ⟨r, hr, _, rfl⟩ := holders_mem.mp hy
      exact (W.dom _ r hr).1)
    show (holders (getP S.pieces x.fl) x).length < 64
    omega
  wl := by
    have := nodup_len W.wnd (m := hs) (fun y hy => by
      obtain ⟨r, hr, rfl⟩ := List.mem_map.mp hy
      exact (W.wok r hr).1)
    rw [List.length_map] at this
    omega
  pl := by
    have := nodup_len W.knd (m := ns) W.kin
    rw [List.length_map] at this
    omega
theorem LetIn.len {S S' : LS} {told : List Int} (L : LetIn S S' told) : told.length + S'.wished.length = S.wished.length := by
  induction L with
  | nil => simp
  | @snoc S1 told w L h1 h2 ih =>
    have e : (S1.grant w).wished = S1.wished.erase w := rfl
    have : 0 < S1.wished.length := List.length_pos_of_mem h1
    rw [e, List.length_append, List.length_erase_of_mem h1, List.length_singleton]
    omega
/-- where the first one stands -/
theorem first_in {α : Type} [DecidableEq α] {ns : List α} {k : α} (h : k ∈ ns) : ∃ j, j < ns.length ∧ ns[j]? = some k ∧ (∀ i, i < j → ns[i]? ≠ some k) ∧ ns.eraseIdx j = ns.erase k := by
  have lt := List.idxOf_lt_length_of_mem h
  refine ⟨ns.idxOf k, lt, ?_, fun i hi e => ?_, (List.erase_eq_eraseIdx_of_idxOf (i := ns.idxOf k) rfl).symm⟩
  · rw [List.getElem?_eq_getElem lt, List.getElem_idxOf]
  · obtain ⟨l, e⟩ := List.getElem?_eq_some_iff.mp e
    have := List.not_of_lt_findIdx (p := (· == k)) (xs := ns) (i := i) hi
    simp [e] at this
end FS
/-! FMath6 -/
namespace FS
def cvr (p : Int) (r : Row) : Bool := decide (r.lo ≤ p) && decide (p < r.hi)
def Apt (r q : Row) : Prop := r.hd ≠ q.hd ∧ r.wr = false ∧ q.wr = false
theorem cvr_pw {rows : List Row} (g : Good rows) (p : Int) : (rows.filter (cvr p)).Pairwise Apt := by
  refine List.Pairwise.imp_of_mem (fun {a b} ha hb c => ?_) (g.pw.filter (cvr p))
  have h1 := (List.mem_filter.mp ha).2
  have h2 := (List.mem_filter.mp hb).2
  simp [cvr] at h1 h2
  rcases c with (h | h) | h
  · omega
  · omega
  · exact h
theorem cvr_nodup {rows : List Row} (g : Good rows) (p : Int) : ((rows.filter (cvr p)).map (·.hd)).Nodup :=
  List.pairwise_map.mpr ((cvr_pw g p).imp fun h => h.1)
theorem apt_reads : ∀ {l : List Row}, l.Pairwise Apt → 1 < l.length → ∀ r ∈ l, r.wr = false
  | [], _, h, _, _ => absurd h (by simp)
  | [_], _, h, _, _ => absurd h (by simp)
  | a :: b :: t, pw, _, r, hr => by
    have h1 := (List.pairwise_cons.mp pw).1
    rcases List.mem_cons.mp hr with e | e
    · rw [e]
      exact (h1 b (by simp)).2.1
    · exact (h1 r e).2.2
theorem cvr_reads {rows : List Row} (g : Good rows) (p : Int) (h : 1 < (rows.filter (cvr p)).length) : ∀ r ∈ rows.filter (cvr p), r.wr = false := apt_reads (cvr_pw g p) h
end FS
/-! FB -/
namespace FS
open PySem PySem.Spec PyProof.Rows L2
/-! ### the text -/
def top (i : Nat) : Stmt := PySem.Challenge.pw_farshelf_k82_whole_never_against.main.body.getD i (.Pass ⟨0, 0, 0, 0⟩)
abbrev sare_against : Stmt := top 12
abbrev sagainst : Stmt := top 13
abbrev scut_out : Stmt := top 14
abbrev sas_long : Stmt := top 15
abbrev swish_of : Stmt := top 17
abbrev sholders : Stmt := top 18
abbrev sput_held : Stmt := top 19
abbrev slet_in : Stmt := top 20
abbrev sring_by : Stmt := top 21
abbrev sway_to : Stmt := top 22
abbrev sheld : Stmt := top 23
abbrev swishes : Stmt := top 24
abbrev swaited_for : Stmt := top 25
abbrev sL_cell_at : Stmt := top 27
abbrev sL_mix : Stmt := top 28
abbrev sL_rich : Stmt := top 29
abbrev sL_left : Stmt := top 30
abbrev sL_pick : Stmt := top 31
abbrev sL_numbers : Stmt := top 32
abbrev sL_places : Stmt := top 33
abbrev sL_world : Stmt := top 34
abbrev sL_stretch : Stmt := top 35
abbrev sL_told_by : Stmt := top 36
abbrev sL_told : Stmt := top 37
abbrev sL_word : Stmt := top 38
abbrev sL_meet : Stmt := top 39
abbrev sL_all : Stmt := top 40
abbrev sL_in_order : Stmt := top 41
abbrev sL_waiting_right : Stmt := top 42
abbrev sL_holds : Stmt := top 43
abbrev sL_let : Stmt := top 44
abbrev sL_others_stay : Stmt := top 45
abbrev sL_taken_right : Stmt := top 46
abbrev sL_deed_right : Stmt := top 47
abbrev slaw : Stmt := top 48
abbrev mInit : Stmt := inClass (top 16) 0
abbrev mTake : Stmt := inClass (top 16) 1
abbrev mFree : Stmt := inClass (top 16) 2
abbrev mLeave : Stmt := inClass (top 16) 3
/-! ### data -/
def sortS (b : Bool) : Str := if b then "write" else "read"
theorem sortS_inj {a b : Bool} (h : sortS a = sortS b) : a = b := by
  cases a <;> cases b <;> first | rfl | (exact absurd h (by decide +kernel))
def Row.vs (r : Row) : List V := [.int r.lo, .int r.hi, .str (sortS r.wr), .int r.hd]
def Wish.vs (w : Wish) : List V := [.int w.hd, .int w.fl, .str (sortS w.wr), .int w.lo, .int w.hi]
def RowV (H : Hp) (v : V) (r : Row) : Prop := ∃ p, v = .ref p ∧ H p = some (.tup r.vs)
def WishV (H : Hp) (v : V) (w : Wish) : Prop := ∃ p, v = .ref p ∧ H p = some (.tup w.vs)
abbrev RowsV (H : Hp) : List V → List Row → Prop := Paired (RowV H)
abbrev WishesV (H : Hp) : List V → List Wish → Prop := Paired (WishV H)
/-! ### what stays -/
def NoTbl (o : HO) : Prop := ∀ ps, o ≠ .tbl ps
/-- all but what stands at ms, and tables, is as it was -/
def Kp (ms : List Addr) (H H' : Hp) : Prop := ∀ b o, b ∉ ms → H b = some o → NoTbl o → H' b = some o
/-- nothing but a table may stand there -/
def Fresh (H : Hp) (p : Addr) : Prop := ∀ o, H p = some o → ¬ NoTbl o
theorem Fresh.of {H : Hp} {p : Addr} (h : H p = none) : Fresh H p := fun o e => by rw [h] at e; cases e
theorem Fresh.ne {H : Hp} {p b : Addr} {o : HO} (f : Fresh H p) (h : H b = some o) (n : NoTbl o) : b ≠ p := fun e => f o (e ▸ h) n
theorem Kp.refl {ms : List Addr} {H : Hp} : Kp ms H H := fun _ _ _ h _ => h
theorem Kp.trans {ms : List Addr} {H H1 H2 : Hp} (a : Kp ms H H1) (b : Kp ms H1 H2) : Kp ms H H2 := fun c o n h t => b c o n (a c o n h t) t
theorem Kp.mono {ms ns : List Addr} {H H1 : Hp} (a : Kp ms H H1) (h : ∀ b ∈ ms, b ∈ ns) : Kp ns H H1 := fun c o n e t => a c o (fun z => n (h c z)) e t
theorem Kp.nil {ns : List Addr} {H H1 : Hp} (a : Kp [] H H1) : Kp ns H H1 := a.mono (by simp)
theorem Kp.new {ms : List Addr} {H : Hp} {p : Addr} {o : HO} (h : Fresh H p) : Kp ms H (upd H p o) := fun c u _ e t => by rw [upd_ne (h.ne e t)]; exact e
theorem Kp.new' {ms : List Addr} {H : Hp} {p : Addr} {o : HO} (h : H p = none) : Kp ms H (upd H p o) := Kp.new (Fresh.of h)
theorem Kp.put {ms : List Addr} {H : Hp} {p : Addr} {o : HO} (h : p ∈ ms) : Kp ms H (upd H p o) := fun c u n e _ => by rw [upd_ne (fun z => n (by rw [z]; exact h))]; exact e
/-- what is made anew may be written at will -/
theorem Kp.drop {ms : List Addr} {H H1 : Hp} {p : Addr} (a : Kp (p :: ms) H H1) (f : Fresh H p) : Kp ms H H1 := fun c o n e t => a c o (fun z => by
  rcases List.mem_cons.mp z with z | z
  · exact f.ne e t z
  · exact n z) e t
theorem Kp.fresh {ms : List Addr} {H H1 : Hp} {p : Addr} (a : Kp ms H H1) (n : p ∉ ms) (f : Fresh H1 p) : Fresh H p := fun o e t => f o (a p o n e t) t
theorem noT_tup {xs : List V} : NoTbl (.tup xs) := fun _ z => by cases z
theorem noT_lst {xs : List V} : NoTbl (.lst xs) := fun _ z => by cases z
theorem noT_dK {xs : List (Key × V)} : NoTbl (.dK xs) := fun _ z => by cases z
theorem noT_ins {C dx : Addr} {fs : List (Str × V)} : NoTbl (.ins C dx fs) := fun _ z => by cases z
theorem noT_frz {o : Obj} {u : HO} : NoTbl (.frz o u) := fun _ z => by cases z
/-- tuples stay -/
def Tk (H H' : Hp) : Prop := ∀ b xs, H b = some (.tup xs) → H' b = some (.tup xs)
theorem Tk.refl {H : Hp} : Tk H H := fun _ _ h => h
theorem Tk.trans {H H1 H2 : Hp} (a : Tk H H1) (b : Tk H1 H2) : Tk H H2 := fun c xs h => b c xs (a c xs h)
theorem Kp.tk {H H' : Hp} (k : Kp [] H H') : Tk H H' := fun b xs h => k b _ (by simp) h noT_tup
theorem Tk.put {H : Hp} {p : Addr} {o u : HO} (h : H p = some u) (n : ∀ xs, u ≠ .tup xs) : Tk H (upd H p o) := fun b xs e => by
  rw [upd_ne (fun z => by rw [z, h] at e; exact n xs (Option.some.inj e))]
  exact e
theorem RowV.tk {H H' : Hp} {v : V} {r : Row} (t : Tk H H') (h : RowV H v r) : RowV H' v r := by
  obtain ⟨p, e, q⟩ := h
  exact ⟨p, e, t _ _ q⟩
theorem WishV.tk {H H' : Hp} {v : V} {r : Wish} (t : Tk H H') (h : WishV H v r) : WishV H' v r := by
  obtain ⟨p, e, q⟩ := h
  exact ⟨p, e, t _ _ q⟩
theorem RowsV.tk {H H' : Hp} {vs : List V} {rs : List Row} (t : Tk H H') (h : RowsV H vs rs) : RowsV H' vs rs := Paired.mapP h fun _ _ => RowV.tk t
theorem WishesV.tk {H H' : Hp} {vs : List V} {rs : List Wish} (t : Tk H H') (h : WishesV H vs rs) : WishesV H' vs rs := Paired.mapP h fun _ _ => WishV.tk t
theorem Paired.app {α β : Type} {F : α → β → Prop} : ∀ {as : List α} {bs : List β} {cs : List α} {ds : List β}, Paired F as bs → Paired F cs ds → Paired F (as ++ cs) (bs ++ ds)
  | _, _, _, _, .nil, h => h
  | _, _, _, _, .cons r t, h => .cons r (Paired.app t h)
theorem Paired.at {α β : Type} {F : α → β → Prop} : ∀ {as : List α} {bs : List β} {i : Nat} {a : α}, Paired F as bs → as[i]? = some a → ∃ b, bs[i]? = some b ∧ F a b
  | _, _, _, _, .nil, h => by simp at h
  | _, _, 0, _, .cons r t, h => by
    simp at h
    exact ⟨_, rfl, h ▸ r⟩
  | _, _, i + 1, _, .cons r t, h => Paired.at (i := i) t (by simpa using h)
theorem Paired.at' {α β : Type} {F : α → β → Prop} : ∀ {as : List α} {bs : List β} {i : Nat} {b : β}, Paired F as bs → bs[i]? = some b → ∃ a, as[i]? = some a ∧ F a b
  | _, _, _, _, .nil, h => by simp at h
  | _, _, 0, _, .cons r t, h => by
    simp at h
    exact ⟨_, rfl, h ▸ r⟩
  | _, _, i + 1, _, .cons r t, h => Paired.at' (i := i) t (by simpa using h)
theorem take_next {α : Type} {l : List α} {i : Nat} {a : α} (h : l[i]? = some a) : l.take (i + 1) = l.take i ++ [a] := by
  rw [List.take_add_one, h]
  rfl
/-! ### the table of as_long's code object -/
abbrev pLong : Str × Option Str := ("as_long", none)
abbrev qLam : Str := "as_long" ++ ".<locals>." ++ "<lambda>"
def Tt (K : PySem.W.Frag) : List (Addr × Str) := [((He.cT K pLong).2, qLam)]
def Tb (K : PySem.W.Frag) (H : Hp) : Prop := LamX.Tabs (Tt K) H
/-- written by us: a list, a dict, an instance -/
def wrB : HO → Bool
  | .lst _ => true
  | .dK _ => true
  | .ins _ _ _ => true
  | _ => false
theorem wr_noT {u : HO} (h : wrB u = true) : NoTbl u := fun ps e => by rw [e] at h; cases h
theorem Tb.ext {K : PySem.W.Frag} {H H' : Hp} (t : Tb K H) (e : ∀ b o, H b = some o → H' b = some o) : Tb K H' := LamX.Tabs.ext t e
theorem Tb.new {K : PySem.W.Frag} {H : Hp} {p : Addr} {o : HO} (t : Tb K H) (h : H p = none) : Tb K (upd H p o) := t.ext fun b u e => by
  rw [upd_ne (ne_of_none e h)]
  exact e
theorem Tb.put {K : PySem.W.Frag} {H : Hp} {p : Addr} {o u : HO} (t : Tb K H) (h : H p = some u) (hu : wrB u = true) : Tb K (upd H p o) := fun q hq => by
  obtain ⟨ps, h1, h2, h3⟩ := t q hq
  refine ⟨ps, ?_, h2, fun pos cv hc => ?_⟩
  · rw [upd_ne (fun z => by rw [z, h] at h1; cases h1; cases hu)]
    exact h1
  · obtain ⟨c, e1, e2⟩ := h3 pos cv hc
    refine ⟨c, e1, ?_⟩
    rw [upd_ne (fun z => by rw [z, h] at e2; cases e2; cases hu)]
    exact e2
/-- what a call leaves: all but ms stays, the table is in order -/
structure Fm (K : PySem.W.Frag) (ms : List Addr) (H H' : Hp) : Prop where
  kp : Kp ms H H'
  tb : Tb K H → Tb K H'
section
variable {K : PySem.W.Frag} {ms ns : List Addr} {H H1 H2 : Hp} {p : Addr} {o u : HO}
theorem Fm.refl : Fm K ms H H := ⟨Kp.refl, id⟩
theorem Fm.trans (a : Fm K ms H H1) (b : Fm K ms H1 H2) : Fm K ms H H2 := ⟨a.kp.trans b.kp, fun t => b.tb (a.tb t)⟩
theorem Fm.mono (a : Fm K ms H H1) (h : ∀ b ∈ ms, b ∈ ns) : Fm K ns H H1 := ⟨a.kp.mono h, a.tb⟩
theorem Fm.nil (a : Fm K [] H H1) : Fm K ns H H1 := a.mono (by simp)
theorem Fm.new (h : H p = none) : Fm K ms H (upd H p o) := ⟨Kp.new' h, fun t => t.new h⟩
theorem Fm.put (h : H p = some u) (hu : wrB u = true) (hm : p ∈ ms) : Fm K ms H (upd H p o) := ⟨Kp.put hm, fun t => t.put h hu⟩
theorem Fm.drop (a : Fm K (p :: ms) H H1) (f : Fresh H p) : Fm K ms H H1 := ⟨a.kp.drop f, a.tb⟩
theorem Fm.same (h : Same H H1) : Fm K ms H H1 := ⟨fun b o _ e _ => h b o e, fun t => t.ext h⟩
theorem Fm.tup (a : Fm K [] H H1) : Tk H H1 := a.kp.tk
theorem Fm.at (a : Fm K ms H H1) {b : Addr} (n : b ∉ ms) (h : H b = some o) (t : NoTbl o) : H1 b = some o := a.kp b o n h t
theorem Fm.fresh (a : Fm K ms H H1) (n : p ∉ ms) (f : Fresh H1 p) : Fresh H p := a.kp.fresh n f
/-- tuples stay also where ms is written, as no tuple stands at ms -/
theorem Fm.tk (a : Fm K ms H H1) (h : ∀ b ∈ ms, ∃ u, H b = some u ∧ wrB u = true) : Tk H H1 := fun b xs e => a.kp b _ (fun z => by
  obtain ⟨u, h1, h2⟩ := h b z
  rw [h1] at e
  cases e
  cases h2) e noT_tup
end
/-! ### defs by their names -/
/-- the def x of the module: st its text -/
def Dn (K : PySem.W.Frag) (mg : Str → Option Value) (x : Str) (st : Stmt) : Prop :=
  ∃ fd, FunD K x x (defArgs st) (defBody st) (defScope st) [] [] (He.ga K x) fd ∧ mg x = some (.ref (He.ga K x))
/-- the method m of the class C -/
def Mn (K : PySem.W.Frag) (C m q : Str) (st : Stmt) : Prop :=
  ∃ fd, FunD K m q (defArgs st) (defBody st) (defScope st) [] [] (He.ma K (He.ga K C) m) fd ∧ Meth K (He.ga K C) m (He.ma K (He.ga K C) m)
section
variable {P : Program} {w : World} {K : PySem.W.Frag} {mg : Str → Option Value} {base : Heap} {x : Str} {st : Stmt} {N ps : List Str} {k j : Nat} {sp sp' : Sp}
/-- x keeps its promise and can be called by its name -/
def Ok (P : Program) (w : World) (K : PySem.W.Frag) (mg : Str → Option Value) (base : Heap) (k : Nat) (x : Str) (ps : List Str) (sp : Sp) : Prop :=
  ∃ fd, FnOk P w K mg base CX0 k (He.ga K x) fd ps sp ∧ Binds K fd ps [] ∧ PySem.W.keepIn K (.ref (He.ga K x)) = true ∧ mg x = some (.ref (He.ga K x)) ∧ ∃ oc od osl, K.lookup (He.ga K x) = some ⟨oc, od, .func fd, osl⟩
theorem Ok.mono (o : Ok P w K mg base j x ps sp) (h : j ≤ k) : Ok P w K mg base k x ps sp := by
  obtain ⟨fd, F, r⟩ := o
  exact ⟨fd, F.mono h, r⟩
/-- of promises that differ in what is not seen at the call -/
theorem Ok.uni {I : Type} {sp : I → Sp} (i0 : I) (o : ∀ i, Ok P w K mg base k x ps (sp i)) : Ok P w K mg base k x ps fun vs H Q E => ∃ i, sp i vs H Q E := by
  obtain ⟨fd, F, b, kp, g, oc, od, osl, lk⟩ := o i0
  have at' : ∀ i, FnOk P w K mg base CX0 k (He.ga K x) fd ps (sp i) := fun i => by
    obtain ⟨fd', F', _, _, _, oc', od', osl', lk'⟩ := o i
    rw [lk] at lk'
    cases lk'
    exact F'
  exact ⟨fd, ⟨fun vs H Q E ⟨i, h⟩ => (at' i).len vs H Q E h, fun A outer s H args us vs Q E hr he hb hv ⟨i, h⟩ => (at' i).run A outer s H args us vs Q E hr he hb hv h⟩, b, kp, g, oc, od, osl, lk⟩
theorem Dn.ok (D : Dn K mg x st) (S : FnScope N ps (defScope st))
    (hb : ∀ (kV doc pm : Value) (an : Option Addr) (cdv ct : Value) (us : List Value), us.length = ps.length → bindArgs (PySem.W.fnOf x x (defArgs st) (defBody st) (defScope st) .none kV doc pm an cdv ct) ⟨us, []⟩ = pure (ps.zip us))
    (len : ∀ vs H Q E, sp vs H Q E → vs.length = ps.length)
    (body : ∀ (f : Addr) (cdv : Value) (A : Around) (outer : List Env) (s : Shared) (H : Hp) (vs : List V) (Q : VK) (E : XK), Room k (A.deeper (envOfC x (defScope st) s.heap.objs.size f cdv)) → sp vs H Q E →
      ∃ t, PSs (cxOf CX0 P w K mg base N x (defScope st) f cdv A outer s H E).nox (defBody st) t ∧ t { nx := fun _ H' => Q .non H', rt := Q } (start N vs) H) : Ok P w K mg base (k + 1) x ps sp := by
  obtain ⟨fd, F, g⟩ := D
  have lk : ∃ oc od osl, K.lookup (He.ga K x) = some ⟨oc, od, .func fd, osl⟩ := by
    obtain ⟨oc, od, _, _, _, _, _, _, _, osl, _, h, _⟩ := F.ex
    exact ⟨oc, od, osl, h⟩
  refine ⟨fd, F.ok S len fun cdv A outer s H vs Q E hr hsp => ?_, F.bindsN hb, F.kp, g, lk⟩
  obtain ⟨t, h, q⟩ := body _ cdv A outer s H vs Q E hr hsp
  exact ⟨t, h.nox, q⟩
end
/-- what the top has written -/
structure Txt (K : PySem.W.Frag) (mg : Str → Option Value) : Prop where
  dare_against : Dn K mg "are_against" sare_against
  dagainst : Dn K mg "against" sagainst
  dcut_out : Dn K mg "cut_out" scut_out
  das_long : Dn K mg "as_long" sas_long
  dwish_of : Dn K mg "wish_of" swish_of
  dholders : Dn K mg "holders" sholders
  dput_held : Dn K mg "put_held" sput_held
  dlet_in : Dn K mg "let_in" slet_in
  dring_by : Dn K mg "ring_by" sring_by
  dway_to : Dn K mg "way_to" sway_to
  dheld : Dn K mg "held" sheld
  dwishes : Dn K mg "wishes" swishes
  dwaited_for : Dn K mg "waited_for" swaited_for
  dL_cell_at : Dn K mg "_law_cell_at" sL_cell_at
  dL_mix : Dn K mg "_law_mix" sL_mix
  dL_rich : Dn K mg "_law_rich" sL_rich
  dL_left : Dn K mg "_law_left" sL_left
  dL_pick : Dn K mg "_law_pick" sL_pick
  dL_numbers : Dn K mg "_law_numbers" sL_numbers
  dL_places : Dn K mg "_law_places" sL_places
  dL_world : Dn K mg "_law_world" sL_world
  dL_stretch : Dn K mg "_law_stretch" sL_stretch
  dL_told_by : Dn K mg "_law_told_by" sL_told_by
  dL_told : Dn K mg "_law_told" sL_told
  dL_word : Dn K mg "_law_word" sL_word
  dL_meet : Dn K mg "_law_meet" sL_meet
  dL_all : Dn K mg "_law_all" sL_all
  dL_in_order : Dn K mg "_law_in_order" sL_in_order
  dL_waiting_right : Dn K mg "_law_waiting_right" sL_waiting_right
  dL_holds : Dn K mg "_law_holds" sL_holds
  dL_let : Dn K mg "_law_let" sL_let
  dL_others_stay : Dn K mg "_law_others_stay" sL_others_stay
  dL_taken_right : Dn K mg "_law_taken_right" sL_taken_right
  dL_deed_right : Dn K mg "_law_deed_right" sL_deed_right
  dlaw : Dn K mg "law" slaw
  len : mg "len" = none
  max : mg "max" = none
  min : mg "min" = none
  sorted : mg "sorted" = none
  range : mg "range" = none
  enumerate : mg "enumerate" = none
  dict : mg "dict" = none
  list : mg "list" = none
  reversed : mg "reversed" = none
  set : mg "set" = none
  any : mg "any" = none
  int : mg "int" = none
  isinstance : mg "isinstance" = none
  veB : mg "ValueError" = none
  mInit : Mn K "Locks" "__init__" "Locks.__init__" mInit
  mTake : Mn K "Locks" "take" "Locks.take" mTake
  mFree : Mn K "Locks" "free" "Locks.free" mFree
  mLeave : Mn K "Locks" "leave" "Locks.leave" mLeave
  cl : Cls K (He.ga K "Locks")
  nP : NoAttr K (He.ga K "Locks") "pieces"
  nW : NoAttr K (He.ga K "Locks") "wished"
  mks : Mk K (He.ga K "Locks") (He.ma K (He.ga K "Locks") "__init__")
  mgL : mg "Locks" = some (.ref (He.ga K "Locks"))
section
variable {X : Cx} {k : Nat} {x : Str} {ps : List Str} {sp : Sp} {p pos : Pos} {e : Expr} {es : List Expr} {t : TA}
/-- x(e, ..) -/
theorem pe_do (O : Ok X.prog X.w X.K X.mg X.base k x ps sp) (hr : Room k X.A) (ha : PA X (e :: es) t) (hg : Gl X x := by rfl) (hdb : (x == ("__debug__" : Str)) = false := by decide)
    (he : starEach (e :: es) X.env = (false, eval e X.env) :: starEach es X.env := by rfl) (hpl : (backTo pos (starEach es X.env)).any (·.1) = false := by rfl) :
    PE X (.Call (.Name x p) (e :: es) [] pos) (tCall sp [] E0 t) := by
  obtain ⟨fd, F, b, kp, g, _⟩ := O
  exact pe_call F hr hg g kp b .nil pass0 ha hdb he hpl
end
/-! ### numbers -/
theorem max_if (i j : Int) : (if j > i then j else i) = max i j := by
  by_cases h : j > i
  · rw [if_pos h]; omega
  · rw [if_neg h]; omega
theorem min_if (i j : Int) : (if j < i then j else i) = min i j := by
  by_cases h : j < i
  · rw [if_pos h]; omega
  · rw [if_neg h]; omega
theorem small_line {n : Nat} (h : n ≤ 100000) : n ≤ sizeLine := Nat.le_trans h (by decide)
theorem small_lt {n : Nat} (h : n ≤ 100000) : n < sizeLine := Nat.lt_of_le_of_lt h (by decide)
end FS
namespace FS
open PySem PySem.Spec PyProof.Rows L2
section
variable {K : PySem.W.Frag} {H H1 : Hp} {p q : Addr} {vs : List V} {rs : List Row} {ws : List Wish}
theorem paired_len {α β : Type} {F : α → β → Prop} : ∀ {as : List α} {bs : List β}, Paired F as bs → as.length = bs.length
  | _, _, .nil => rfl
  | _, _, .cons _ t => by rw [List.length_cons, List.length_cons, paired_len t]
theorem tk_new {o : HO} (h : H p = none) : Tk H (upd H p o) := fun b xs e => by rw [upd_ne (ne_of_none e h)]; exact e
theorem tk_lst {o : HO} (h : H p = some (.lst vs)) : Tk H (upd H p o) := Tk.put h fun _ z => by cases z
/-- a row that stands is put behind a list -/
theorem app_old {v : V} {x : Row} (F : Fm K [p] H H1) (hp : H1 p = some (.lst vs)) (R : RowsV H1 vs rs) (hv : RowV H1 v x) :
    Fm K [p] H (upd H1 p (.lst (vs ++ [v]))) ∧ RowsV (upd H1 p (.lst (vs ++ [v]))) (vs ++ [v]) (rs ++ [x]) :=
  ⟨F.trans (Fm.put hp rfl (by simp)), Paired.app (RowsV.tk (tk_lst hp) R) (.cons (RowV.tk (tk_lst hp) hv) .nil)⟩
/-- a new row -/
theorem app_new {x : Row} (F : Fm K [p] H H1) (hp : H1 p = some (.lst vs)) (R : RowsV H1 vs rs) (hq : H1 q = none) :
    Fm K [p] H (upd (upd H1 q (.tup x.vs)) p (.lst (vs ++ [.ref q]))) ∧ RowsV (upd (upd H1 q (.tup x.vs)) p (.lst (vs ++ [.ref q]))) (vs ++ [.ref q]) (rs ++ [x]) := by
  have hp' : upd H1 q (.tup x.vs) p = some (.lst vs) := by rw [upd_ne (ne_of_none hp hq)]; exact hp
  exact app_old (F.trans (Fm.new hq)) hp' (RowsV.tk (tk_new hq) R) ⟨q, rfl, upd_same⟩
end
theorem cutRow_len (h lo hi : Int) (r : Row) : (cutRow h lo hi r).length ≤ 2 := by
  unfold cutRow
  split
  · split <;> split <;> simp
  · simp
theorem cutOut_len (h lo hi : Int) : ∀ rows : List Row, (cutOut rows h lo hi).length ≤ 2 * rows.length
  | [] => by simp [cutOut]
  | r :: rows => by
    have ih := cutOut_len h lo hi rows
    have h1 := cutRow_len h lo hi r
    have e : cutOut (r :: rows) h lo hi = cutRow h lo hi r ++ cutOut rows h lo hi := by simp [cutOut]
    rw [e, List.length_append, List.length_cons]
    omega
theorem cutOut_snoc (h lo hi : Int) (rows : List Row) (r : Row) : cutOut (rows ++ [r]) h lo hi = cutOut rows h lo hi ++ cutRow h lo hi r := by simp [cutOut]
end FS
namespace FS
open PySem PySem.Spec PyProof.Rows L2
/-- behind an if without else both ways join: I holds there, R is what follows -/
theorem ite_join {c A : Prop} [Decidable c] {H1 : Hp} {R : Hp → Prop} (I : Hp → Prop) (two : ∀ H2, I H2 → R H2) (h1 : c → (∀ H2, I H2 → R H2) → A) (h2 : ¬ c → I H1) : if c then A else R H1 := by
  by_cases h : c
  · rw [if_pos h]
    exact h1 h two
  · rw [if_neg h]
    exact two _ (h2 h)
end FS
namespace FS
open PySem PySem.Spec PyProof.Rows L2
theorem Paired.snoc_inv {α β : Type} {F : α → β → Prop} : ∀ {as : List α} {bs : List β} {b : β}, Paired F as (bs ++ [b]) → ∃ as0 a, as = as0 ++ [a] ∧ Paired F as0 bs ∧ F a b
  | _, [], _, .cons r .nil => ⟨[], _, rfl, .nil, r⟩
  | _, c :: bs, _, .cons r t => by
    obtain ⟨as0, a, e, h1, h2⟩ := Paired.snoc_inv (bs := bs) t
    exact ⟨_ :: as0, a, by rw [e]; rfl, .cons r h1, h2⟩
theorem ix_last {α : Type} (xs : List α) (v : α) : ixN (xs ++ [v]).length (-1) = some xs.length := by
  unfold ixN
  rw [List.length_append]
  rw [if_neg (by decide), if_pos (by simp; omega)]
  have : (-1 + (((xs.length + [v].length : Nat)) : Int)).toNat = xs.length := by simp; omega
  rw [this]
theorem set_last {α : Type} (xs : List α) (v u : α) : (xs ++ [v]).set xs.length u = xs ++ [u] := by simp
end FS
/-! F1 -/
namespace FS
open PySem PySem.Spec PyProof.Rows L2
section
variable {P : Program} {w : World} {K : PySem.W.Frag} {mg : Str → Option Value} {base : Heap}
/-! ### are_against -/
def spare_against (K : PySem.W.Frag) : Sp := fun vs H Q _ => ∃ (x y : V) (r q : Row), vs = [x, y] ∧ RowV H x r ∧ RowV H y q ∧ ∀ H', Fm K [] H H' → Q (.bl (hits r q)) H'
theorem scare_against : FnScope ["one", "other"] ["one", "other"] (defScope sare_against) := ⟨rfl, rfl, rfl, by decide +kernel, rfl, by decide +kernel, by decide +kernel⟩
theorem row3 {r : Row} : atI r.vs 3 = some (.int r.hd) := rfl
theorem row2 {r : Row} : atI r.vs 2 = some (.str (sortS r.wr)) := rfl
theorem row1 {r : Row} : atI r.vs 1 = some (.int r.hi) := rfl
theorem row0 {r : Row} : atI r.vs 0 = some (.int r.lo) := rfl
theorem in_sorts (a b : Bool) : inV (.str "write") [.str (sortS a), .str (sortS b)] = (a || b) := by
  cases a <;> cases b <;> decide +kernel
theorem ok_are_against (T : Txt K mg) : Ok P w K mg base 1 "are_against" ["one", "other"] (spare_against K) := by
  refine T.dare_against.ok scare_against (fun _ _ _ _ _ _ us hl => match us, hl with | [_, _], _ => rfl) (fun vs H Q E h => ?_) (fun f cdv A outer s H vs Q E hr h => ?_)
  · obtain ⟨x, y, r, q, rfl, _⟩ := h
    rfl
  · obtain ⟨x, y, r, q, rfl, ⟨a, rfl, ha⟩, ⟨b, rfl, hb⟩, k⟩ := h
    refine ⟨_, pss_cons (ps_if (PW.pt (pw_or (pt_cmpR op_eq (pe_ix ix_tup (pv 0) pe_int (fun _ _ => rfl)) (pe_ix ix_tup (pv 1) pe_int (fun _ _ => rfl)) (nomark _))
        (pw_or1 (pt_cmpR op_notIn_seq pe_str (pe_tup (pa_cons (pe_ix ix_tup (pv 0) pe_int (fun _ _ => rfl)) (pa_cons (pe_ix ix_tup (pv 1) pe_int (fun _ _ => rfl)) pa_nil))) (by rfl)))))
        (pss_one (ps_ret pe_bl)) pss_nil)
      (pss_one (ps_ret (pe_cmpR op_lt
        (pe_callB (call_max2 rfl) (by rfl) T.max (by decide +kernel) (pa_cons (pe_ix ix_tup (pv 0) pe_int (fun _ _ => rfl)) (pa_cons (pe_ix ix_tup (pv 1) pe_int (fun _ _ => rfl)) pa_nil)))
        (pe_callB (call_min2 rfl) (by rfl) T.min (by decide +kernel) (pa_cons (pe_ix ix_tup (pv 0) pe_int (fun _ _ => rfl)) (pa_cons (pe_ix ix_tup (pv 1) pe_int (fun _ _ => rfl)) pa_nil)))
        (nomark _)))), ?_⟩
    refine ⟨_, rfl, a, _, _, _, rfl, rfl, SqT.of ha, row3, _, rfl, b, _, _, _, rfl, rfl, SqT.of hb, row3, rfl, _, rfl, ite2 (fun e => ?_) (fun e => ?_)⟩
    · have e1 : r.hd = q.hd := by simpa using e
      refine iteT ?_
      have z : hits r q = false := by
        unfold hits
        simp [e1]
      exact z ▸ k H Fm.refl
    · have e1 : ¬ r.hd = q.hd := by simpa using e
      refine ⟨_, rfl, a, _, _, _, rfl, rfl, SqT.of ha, row2, _, rfl, b, _, _, _, rfl, rfl, SqT.of hb, row2, (by show 2 ≤ sizeLine; decide), fun p hp => ⟨p, _, rfl, .inr (SqT.of upd_same), rfl, rfl, _, rfl, ?_⟩⟩
      rw [if_pos (rfl : true = true), in_sorts]
      have f : ∀ {o}, Fm K [] H (upd H p o) := Fm.new hp
      have ha' : (upd H p (HO.tup [.str (sortS r.wr), .str (sortS q.wr)])) a = some (.tup r.vs) := by rw [upd_ne (ne_of_none ha hp)]; exact ha
      have hb' : (upd H p (HO.tup [.str (sortS r.wr), .str (sortS q.wr)])) b = some (.tup q.vs) := by rw [upd_ne (ne_of_none hb hp)]; exact hb
      cases hw : (r.wr || q.wr) with
      | false =>
        refine iteT ?_
        have z : hits r q = false := by
          unfold hits
          simp [hw]
        exact z ▸ k _ f
      | true =>
        refine iteF ?_
        refine ⟨_, rfl, a, _, _, _, rfl, rfl, SqT.of ha', row0, _, rfl, b, _, _, _, rfl, rfl, SqT.of hb', row0, _, _, rfl, _, rfl, a, _, _, _, rfl, rfl, SqT.of ha', row1, _, rfl, b, _, _, _, rfl, rfl, SqT.of hb', row1, _, _, rfl, _, _, rfl, rfl, ?_⟩
        rw [max_if, min_if]
        have z : hits r q = decide (max r.lo q.lo < min r.hi q.hi) := by
          unfold hits
          simp [hw, e1]
        show Q (.bl (decide (max r.lo q.lo < min r.hi q.hi))) _
        rw [← z]
        exact k _ f
end
end FS
/-! F2 -/
namespace FS
open PySem PySem.Spec PyProof.Rows L2
section
variable {P : Program} {w : World} {K : PySem.W.Frag} {mg : Str → Option Value} {base : Heap}
/-! ### cut_out -/
def spcut_out (K : PySem.W.Frag) : Sp := fun vs H Q _ => ∃ (a : Addr) (ys : List V) (rows : List Row) (hd lo hi : Int), vs = [.ref a, .int hd, .int lo, .int hi] ∧ H a = some (.lst ys) ∧ RowsV H ys rows ∧ rows.length ≤ 1000 ∧
  ∀ H' p ys', Fm K [] H H' → Fresh H p → H' p = some (.lst ys') → RowsV H' ys' (cutOut rows hd lo hi) → Q (.ref p) H'
theorem sccut_out : FnScope ["rows", "hand", "low", "high", "left", "row"] ["rows", "hand", "low", "high"] (defScope scut_out) := ⟨rfl, rfl, rfl, by decide +kernel, rfl, by decide +kernel, by decide +kernel⟩
theorem ok_cut_out (T : Txt K mg) : Ok P w K mg base 1 "cut_out" ["rows", "hand", "low", "high"] (spcut_out K) := by
  refine T.dcut_out.ok sccut_out (fun _ _ _ _ _ _ us hl => match us, hl with | [_, _, _, _], _ => rfl) (fun vs H Q E h => ?_) (fun f cdv A outer s H vs Q E hr h => ?_)
  · obtain ⟨a, ys, rows, hd, lo, hi, rfl, _⟩ := h
    rfl
  · obtain ⟨a, ys, rows, hd, lo, hi, rfl, ha, R, hlen, k⟩ := h
    refine ⟨_, (pss_cons (ps_set (i := 4) sccut_out.nd rfl (Or.inl rfl) (pe_lst pa_nil))
      (pss_cons (ps_for PassesOwn.never rfl (pi_list (pv 0)) (pg_name (i := 5) sccut_out.nd rfl (Or.inl rfl))
        (pss_cons (ps_if (pt_cmpR op_ne (pe_ix ix_tup (pv 5) pe_int (fun _ _ => rfl)) (pv 1) (nomark _))
          (pss_cons (ps_expr (pe_bm PySem.F.plainAttrs_list PySem.F.slot_list_append PySem.F.type_list_append mt_append (pv 4) (pa_cons (pv 5) pa_nil)))
          (pss_one ps_continue))
          pss_nil)
        (pss_cons (ps_if (pt_cmpR op_lt (pe_ix ix_tup (pv 5) pe_int (fun _ _ => rfl)) (pe_callB (call_min2 rfl) (by rfl) T.min (by decide +kernel) (pa_cons (pe_ix ix_tup (pv 5) pe_int (fun _ _ => rfl)) (pa_cons (pv 2) pa_nil))) (nomark _))
          (pss_one (ps_expr (pe_bm PySem.F.plainAttrs_list PySem.F.slot_list_append PySem.F.type_list_append mt_append (pv 4) (pa_cons (pe_tup (pa_cons (pe_ix ix_tup (pv 5) pe_int (fun _ _ => rfl)) (pa_cons (pe_callB (call_min2 rfl) (by rfl) T.min (by decide +kernel) (pa_cons (pe_ix ix_tup (pv 5) pe_int (fun _ _ => rfl)) (pa_cons (pv 2) pa_nil))) (pa_cons (pe_ix ix_tup (pv 5) pe_int (fun _ _ => rfl)) (pa_cons (pv 1) pa_nil))))) pa_nil))))
          pss_nil)
        (pss_one (ps_if (pt_cmpR op_lt (pe_callB (call_max2 rfl) (by rfl) T.max (by decide +kernel) (pa_cons (pe_ix ix_tup (pv 5) pe_int (fun _ _ => rfl)) (pa_cons (pv 3) pa_nil))) (pe_ix ix_tup (pv 5) pe_int (fun _ _ => rfl)) (nomark _))
          (pss_one (ps_expr (pe_bm PySem.F.plainAttrs_list PySem.F.slot_list_append PySem.F.type_list_append mt_append (pv 4) (pa_cons (pe_tup (pa_cons (pe_callB (call_max2 rfl) (by rfl) T.max (by decide +kernel) (pa_cons (pe_ix ix_tup (pv 5) pe_int (fun _ _ => rfl)) (pa_cons (pv 3) pa_nil))) (pa_cons (pe_ix ix_tup (pv 5) pe_int (fun _ _ => rfl)) (pa_cons (pe_ix ix_tup (pv 5) pe_int (fun _ _ => rfl)) (pa_cons (pv 1) pa_nil))))) pa_nil))))
          pss_nil)))))
      (pss_one (ps_ret (pv 4))))), ?_⟩
    refine ⟨by show 0 ≤ sizeLine; decide, fun p hp => ?_⟩
    have fp : Fresh H p := Fresh.of hp
    have nap : a ≠ p := ne_of_none ha hp
    refine ⟨_, rfl, a, rfl, ⟨_, SqL.of (by rw [upd_ne nap]; exact ha)⟩, for_list (K := K) (a := a) (xs := ys) (fun i σ H1 => ∃ (v : Option V) (zs : List V), σ = [some (.ref a), some (.int hd), some (.int lo), some (.int hi), some (.ref p), v] ∧ Fm K [p] H H1 ∧ H1 p = some (.lst zs) ∧ RowsV H1 zs (cutOut (rows.take i) hd lo hi))
      ⟨none, [], rfl, Fm.new hp, upd_same, .nil⟩ (fun i σ H1 _ ⟨_, _, _, F, _⟩ => SqL.of (F.at (by simpa using nap) ha noT_lst)) ?_ ?_⟩
    · rintro i y σ H1 hy ⟨v, zs, rfl, F, hz, RZ⟩
      obtain ⟨r, hr', q, rfl, hq⟩ := Paired.at R hy
      have nqp : q ≠ p := ne_of_none hq hp
      have hq1 : H1 q = some (.tup r.vs) := F.at (by simpa using nqp) hq noT_tup
      have lz : zs.length ≤ 2000 := by
        have h1 := paired_len RZ
        have h2 := cutOut_len hd lo hi (rows.take i)
        have h3 : (rows.take i).length ≤ rows.length := List.length_take_le' i rows
        omega
      have tk : rows.take (i + 1) = rows.take i ++ [r] := take_next hr'
      have hl0 : zs.length < sizeLine := small_lt (by omega)
      -- row[3] != hand
      refine ⟨_, rfl, q, _, _, _, rfl, rfl, SqT.of hq1, row3, _, rfl, rfl, _, rfl, ite2 (fun e => ?_) (fun e => ?_)⟩
      · have e1 : ¬ r.hd = hd := by simpa using e
        refine ⟨_, rfl, .inl ⟨rfl, _, SqL.of hz⟩, _, rfl, p, _, _, rfl, rfl, hz, hl0, ?_⟩
        obtain ⟨F2, R2⟩ := app_old F hz RZ ⟨q, rfl, hq1⟩
        refine ⟨_, _, rfl, F2, upd_same, ?_⟩
        rw [tk, cutOut_snoc]
        have : cutRow hd lo hi r = [r] := by unfold cutRow; rw [if_neg e1]
        rw [this]
        exact R2
      · have e1 : r.hd = hd := by simpa using e
        subst e1
        have goal : cutOut (rows.take (i + 1)) r.hd lo hi = cutOut (rows.take i) r.hd lo hi ++ ((if r.lo < min r.hi lo then [⟨r.lo, min r.hi lo, r.wr, r.hd⟩] else []) ++ (if max r.lo hi < r.hi then [⟨max r.lo hi, r.hi, r.wr, r.hd⟩] else [])) := by
          rw [tk, cutOut_snoc]
          unfold cutRow
          rw [if_pos rfl]
        -- row[0] < min(row[1], low)
        refine ⟨_, rfl, q, _, _, _, rfl, rfl, SqT.of hq1, row0, _, rfl, q, _, _, _, rfl, rfl, SqT.of hq1, row1, _, rfl, _, _, rfl, _, _, rfl, rfl, _, rfl, ?_⟩
        rw [min_if]
        refine ite_join (fun H2 => ∃ xs, Fm K [p] H H2 ∧ H2 p = some (.lst xs) ∧ RowsV H2 xs (cutOut (rows.take i) r.hd lo hi ++ (if r.lo < min r.hi lo then [⟨r.lo, min r.hi lo, r.wr, r.hd⟩] else []))) (fun H2 h2 => ?_) (fun e two => ?_) (fun e => ?_)
        · obtain ⟨xs, F2, hx, RX⟩ := h2
          have hq2 : H2 q = some (.tup r.vs) := F2.at (by simpa using nqp) hq noT_tup
          have lx : xs.length < sizeLine := small_lt (by
            have h1 := paired_len RX
            have h2 := paired_len RZ
            rw [List.length_append] at h1
            have h3 : (if r.lo < min r.hi lo then [(⟨r.lo, min r.hi lo, r.wr, r.hd⟩ : Row)] else []).length ≤ 1 := by split <;> simp
            omega)
          refine ⟨_, rfl, q, _, _, _, rfl, rfl, SqT.of hq2, row0, _, rfl, _, _, rfl, _, rfl, q, _, _, _, rfl, rfl, SqT.of hq2, row1, _, _, rfl, rfl, _, rfl, ?_⟩
          rw [max_if]
          refine ite2 (fun e3 => ?_) (fun e3 => ?_)
          · have e3 : max r.lo hi < r.hi := by simpa using e3
            refine ⟨_, rfl, .inl ⟨rfl, _, SqL.of hx⟩, _, rfl, q, _, _, _, rfl, rfl, SqT.of hq2, row0, _, rfl, _, _, rfl, _, rfl, q, _, _, _, rfl, rfl, SqT.of hq2, row1, _, rfl, q, _, _, _, rfl, rfl, SqT.of hq2, row2, _, rfl, (by show 4 ≤ sizeLine; decide), fun t ht => ?_⟩
            rw [max_if]
            obtain ⟨F3, R3⟩ := app_new (x := ⟨max r.lo hi, r.hi, r.wr, r.hd⟩) F2 hx RX ht
            refine ⟨p, _, _, rfl, rfl, (by rw [upd_ne (ne_of_none hx ht)]; exact hx), lx, _, _, rfl, F3, upd_same, ?_⟩
            rw [goal, if_pos e3, ← List.append_assoc]
            exact R3
          · have e3 : ¬ max r.lo hi < r.hi := by simpa using e3
            refine ⟨_, _, rfl, F2, hx, ?_⟩
            rw [goal, if_neg e3, List.append_nil]
            exact RX
        · have e2 : r.lo < min r.hi lo := by simpa using e
          refine ⟨_, rfl, .inl ⟨rfl, _, SqL.of hz⟩, _, rfl, q, _, _, _, rfl, rfl, SqT.of hq1, row0, _, rfl, q, _, _, _, rfl, rfl, SqT.of hq1, row1, _, rfl, _, _, rfl, _, rfl, q, _, _, _, rfl, rfl, SqT.of hq1, row2, _, rfl, (by show 4 ≤ sizeLine; decide), fun t ht => ?_⟩
          rw [min_if]
          obtain ⟨F3, R3⟩ := app_new (x := ⟨r.lo, min r.hi lo, r.wr, r.hd⟩) F hz RZ ht
          refine ⟨p, _, _, rfl, rfl, (by rw [upd_ne (ne_of_none hz ht)]; exact hz), hl0, two _ ⟨_, F3, upd_same, ?_⟩⟩
          rw [if_pos e2]
          exact R3
        · have e2 : ¬ r.lo < min r.hi lo := by simpa using e
          rw [if_neg e2, List.append_nil]
          exact ⟨zs, F, hz, RZ⟩
    · rintro σ H1 ⟨v, zs, rfl, F, hz, RZ⟩
      refine ⟨_, rfl, k H1 p zs (F.drop fp) fp hz ?_⟩
      have : ys.length = rows.length := paired_len R
      rw [this, List.take_length] at RZ
      exact RZ
end
end FS
/-! FSort -/
namespace FS
open PySem PySem.Spec PyProof.Rows L2
open PySem.W (dataLe EachIs alike AllAlike Sortable)
/-! ### orders -/
def keyD (r : Row) : PyData := .tuple [.int r.hd, .str (sortS r.wr), .int r.lo]
def rowD (r : Row) : PyData := .tuple [.int r.lo, .int r.hi, .str (sortS r.wr), .int r.hd]
def wishD (r : Wish) : PyData := .tuple [.int r.hd, .int r.fl, .str (sortS r.wr), .int r.lo, .int r.hi]
theorem lt_nil : PyProof.Rows.lexLt PyProof.Rows.itemOrd (PySem.W.keyToksAll []) (PySem.W.keyToksAll []) = false := PyProof.Rows.lex_irrefl _
theorem eqv_sort (a b : Bool) : PyData.eqv (.str (sortS a)) (.str (sortS b)) = decide (a = b) := by
  cases a <;> cases b <;> decide +kernel
theorem lt_sort (a b : Bool) : PySem.W.dataLt (.str (sortS a)) (.str (sortS b)) = (!a && b) := by
  rw [PySem.W.dataLt_str]
  cases a <;> cases b <;> decide +kernel
theorem eqv_int (a b : Int) : PyData.eqv (.int a) (.int b) = decide (a = b) := by
  simp only [PyData.eqv]
  exact Bool.eq_iff_iff.mpr (by simp)
theorem le_key : dataLe false keyD = keyLe := by
  funext p q
  rw [PySem.W.dataLe_eq]
  show (!PySem.W.dataLt (keyD q) (keyD p)) = keyLe p q
  unfold keyD
  rw [PySem.W.dataLt_tuple, PySem.W.dataLt_cons (by simp [alike]), PySem.W.dataLt_cons (by simp [alike]), PySem.W.dataLt_cons (by simp [alike]), lt_nil, PySem.W.dataLt_int, PySem.W.dataLt_int, lt_sort, eqv_int, eqv_int, eqv_sort]
  apply Bool.eq_iff_iff.mpr
  rw [keyLe_iff]
  by_cases h1 : q.hd = p.hd
  · cases hp : p.wr <;> cases hq : q.wr <;> simp [h1]
    all_goals (by_cases h2 : q.lo = p.lo)
    all_goals simp [h2]
    all_goals omega
  · simp [h1]; omega
theorem le_row : dataLe false rowD = tupLe := by
  funext p q
  rw [PySem.W.dataLe_eq]
  show (!PySem.W.dataLt (rowD q) (rowD p)) = tupLe p q
  unfold rowD
  rw [PySem.W.dataLt_tuple, PySem.W.dataLt_cons (by simp [alike]), PySem.W.dataLt_cons (by simp [alike]), PySem.W.dataLt_cons (by simp [alike]), PySem.W.dataLt_cons (by simp [alike]), lt_nil, PySem.W.dataLt_int, PySem.W.dataLt_int, PySem.W.dataLt_int, lt_sort, eqv_int, eqv_int, eqv_int, eqv_sort]
  apply Bool.eq_iff_iff.mpr
  rw [tupLe_iff]
  by_cases h1 : q.lo = p.lo
  · by_cases h2 : q.hi = p.hi
    · cases hp : p.wr <;> cases hq : q.wr <;> simp [h1, h2]
      all_goals (by_cases h3 : q.hd = p.hd)
      all_goals simp [h3]
      all_goals omega
    · simp [h1, h2]; omega
  · simp [h1]; omega
theorem rows_alike (f : Row → PyData) (hf : f = keyD ∨ f = rowD) (rs : List Row) : AllAlike (rs.map f) ∧ Sortable (rs.map f) := by
  constructor
  · rcases hf with rfl | rfl
    · exact AllAlike.of fun a b => by simp [keyD, alike, PySem.W.alikeAll]
    · exact AllAlike.of fun a b => by simp [rowD, alike, PySem.W.alikeAll]
  · rcases hf with rfl | rfl
    · exact Sortable.tuples fun b => ⟨_, _, rfl⟩
    · exact Sortable.tuples fun b => ⟨_, _, rfl⟩
/-! ### values that stand for rows -/
def RowU (H : Hp) (u : Value) (r : Row) : Prop := ∃ y, RelV y u ∧ RowV H y r
theorem each_of {H : Hp} : ∀ {ys : List V} {us : List Value} {rs : List Row}, Vals ys us → RowsV H ys rs → EachIs (RowU H) us rs
  | _, _, _, .nil, .nil => .nil
  | _, _, _, .cons r t, .cons q z => .cons ⟨_, r, q⟩ (each_of t z)
theorem of_each {H : Hp} : ∀ {us : List Value} {rs : List Row}, EachIs (RowU H) us rs → ∃ ys, Vals ys us ∧ RowsV H ys rs
  | _, _, .nil => ⟨[], .nil, .nil⟩
  | _, _, .cons ⟨y, r, q⟩ t => by
    obtain ⟨ys, h1, h2⟩ := of_each t
    exact ⟨y :: ys, .cons r h1, .cons q h2⟩
section
variable {X : Cx} {pins : List (Addr × Obj)} {σ : L2.St} {H : Hp} {s : Shared}
/-- a row's value reads as its data -/
theorem row_reads (I : Inv X pins σ H s) {u : Value} {r : Row} (h : RowU H u r) : ∃ as, Reads s.heap u (rowD r) as := by
  obtain ⟨y, ry, p, rfl, hp⟩ := h
  cases ry
  obtain ⟨as, q⟩ := Dp.reads I (rowD r) (.ref p) (.ref p) (.tup (SqT.of hp) (.cons (.int _) (.cons (.int _) (.cons (.str _) (.cons (.int _) .nil))))) rfl
  exact ⟨as, q⟩
end
/-- sorted(rows) -/
def rSortRows : List V → Hp → VK → Prop := fun xs H Q => ∃ (a : Addr) (ys : List V) (rows : List Row), xs = [.ref a] ∧ H a = some (.lst ys) ∧ RowsV H ys rows ∧
  ∀ (p : Addr) (zs : List V), H p = none → RowsV H zs (rows.mergeSort tupLe) → Q (.ref p) (upd H p (.lst zs))
theorem call_sortRows {X : Cx} (hu : X.A.units + 64 < cLine) : CallR X (.builtin "sorted") rSortRows := by
  intro pins s σ H xs us Q I r h
  obtain ⟨a, ys, rows, rfl, ha, R, q⟩ := h
  obtain ⟨its, rv, hl, hz⟩ := I.list (SqL.of ha)
  rw [Vals.ref1 r]
  have hlen : rows.length = ys.length := (paired_len R).symm
  obtain ⟨al, so⟩ := rows_alike rowD (.inr rfl) rows
  refine PySem.W.sorted_data (bs := rows) (enc := rowD) (R := RowU H) hl.isList (each_of rv R) ((each_of rv R).mono fun u r h => row_reads I h) al so (by omega) (fun b _ => ?_) fun out ho he => ?_
  · have : (rowD b).depth ≤ 2 := by simp [rowD, PyData.depth, PyData.depthAll]
    omega
  · rw [le_row] at he
    obtain ⟨zs, v1, v2⟩ := of_each he
    obtain ⟨ep, he'⟩ := PyProof.Rows.sortedAll_at s.heap its out.toArray
    have hzl : zs.length ≤ sizeLine := by
      have := paired_len v1
      omega
    exact ⟨.ref _, upd H (s.heap.objs.size + 1) (.lst zs), I.laid (t' := s.toks) (fun _ _ => PyProof.Rows.sortedAll_old) (Nat.le_succ _) ⟨hzl, out, ep, v1, he'⟩, rfl, q _ _ (I.hok.fresh (Nat.le_succ _)) v2⟩
end FS
namespace FS
open PySem PySem.Spec PyProof.Rows L2
/-! ### data that == takes -/
theorem lay_all : ∀ {ds : List PyData}, (∀ d ∈ ds, d.canLay0 = true) → PyData.canLayAll0 ds = true
  | [], _ => by simp [PyData.canLayAll0]
  | d :: ds, h => by simp [PyData.canLayAll0, h d (by simp), lay_all (ds := ds) fun x hx => h x (by simp [hx])]
theorem depth_all {n : Nat} : ∀ {ds : List PyData}, (∀ d ∈ ds, d.depth ≤ n) → PyData.depthAll ds ≤ n
  | [], _ => by simp [PyData.depthAll]
  | d :: ds, h => by
    have h1 := h d (by simp)
    have h2 := depth_all (ds := ds) fun x hx => h x (by simp [hx])
    simp [PyData.depthAll]
    omega
theorem depth_tup {n : Nat} {ds : List PyData} (h : ∀ d ∈ ds, d.depth ≤ n) : (PyData.tuple ds).depth ≤ n + 1 := by
  have := depth_all h
  simp only [PyData.depth]
  omega
theorem depth_lst {n : Nat} {ds : List PyData} (h : ∀ d ∈ ds, d.depth ≤ n) : (PyData.list ds).depth ≤ n + 1 := by
  have := depth_all h
  simp only [PyData.depth]
  omega
theorem shaped_mk {d : PyData} (h : d.canLay0 = true) (k : d.depth ≤ 64) : SeqAt.shaped d = true := by
  show (d.canLay0 && decide (d.depth ≤ 64)) = true
  rw [h, decide_eq_true k]
  rfl
theorem lay_sort (b : Bool) : PyData.canLay0 (.str (sortS b)) = true := by
  cases b <;> decide +kernel
theorem lay_row (r : Row) : (rowD r).canLay0 = true ∧ (rowD r).depth ≤ 2 := by
  constructor
  · simp [rowD, PyData.canLay0, PyData.canLayAll0]
    have := lay_sort r.wr
    simpa [PyData.canLay0] using this
  · simp [rowD, PyData.depth, PyData.depthAll]
theorem lay_wish (r : Wish) : (wishD r).canLay0 = true ∧ (wishD r).depth ≤ 2 := by
  constructor
  · simp [wishD, PyData.canLay0, PyData.canLayAll0]
    have := lay_sort r.wr
    simpa [PyData.canLay0] using this
  · simp [wishD, PyData.depth, PyData.depthAll]
theorem lay_end (a b : Int) (c : Bool) : SeqAt.shaped (.tuple [.int a, .str (sortS c), .int b]) = true := by
  refine shaped_mk ?_ (by simp [PyData.depth, PyData.depthAll])
  simp [PyData.canLay0, PyData.canLayAll0]
  have := lay_sort c
  simpa [PyData.canLay0] using this
theorem shaped_wish (r : Wish) : SeqAt.shaped (wishD r) = true := shaped_mk (lay_wish r).1 (Nat.le_trans (lay_wish r).2 (by decide))
theorem shaped_rows (rs : List Row) : SeqAt.shaped (.list (rs.map rowD)) = true :=
  shaped_mk (by simp only [PyData.canLay0]; exact lay_all fun d hd => by obtain ⟨r, _, rfl⟩ := List.mem_map.mp hd; exact (lay_row r).1)
    (Nat.le_trans (depth_lst (n := 2) fun d hd => by obtain ⟨r, _, rfl⟩ := List.mem_map.mp hd; exact (lay_row r).2) (by decide))
theorem shaped_wishes (rs : List Wish) : SeqAt.shaped (.list (rs.map wishD)) = true :=
  shaped_mk (by simp only [PyData.canLay0]; exact lay_all fun d hd => by obtain ⟨r, _, rfl⟩ := List.mem_map.mp hd; exact (lay_wish r).1)
    (Nat.le_trans (depth_lst (n := 2) fun d hd => by obtain ⟨r, _, rfl⟩ := List.mem_map.mp hd; exact (lay_wish r).2) (by decide))
theorem shaped_ints (ns : List Int) : SeqAt.shaped (.list (ns.map PyData.int)) = true :=
  shaped_mk (by simp only [PyData.canLay0]; exact lay_all fun d hd => by obtain ⟨r, _, rfl⟩ := List.mem_map.mp hd; simp [PyData.canLay0])
    (Nat.le_trans (depth_lst (n := 0) fun d hd => by obtain ⟨r, _, rfl⟩ := List.mem_map.mp hd; simp [PyData.depth]) (by decide))
/-! ### the data of what stands -/
section
variable {K : PySem.W.Frag} {H : Hp}
theorem RowV.dp {v : V} {r : Row} (h : RowV H v r) : Dp K H v (rowD r) := by
  obtain ⟨p, rfl, hp⟩ := h
  exact .tup (SqT.of hp) (.cons (.int _) (.cons (.int _) (.cons (.str _) (.cons (.int _) .nil))))
theorem WishV.dp {v : V} {r : Wish} (h : WishV H v r) : Dp K H v (wishD r) := by
  obtain ⟨p, rfl, hp⟩ := h
  exact .tup (SqT.of hp) (.cons (.int _) (.cons (.int _) (.cons (.str _) (.cons (.int _) (.cons (.int _) .nil)))))
theorem RowsV.dp : ∀ {vs : List V} {rs : List Row}, RowsV H vs rs → DpAll K H vs (rs.map rowD)
  | _, _, .nil => .nil
  | _, _, .cons r t => .cons r.dp (RowsV.dp t)
theorem WishesV.dp : ∀ {vs : List V} {rs : List Wish}, WishesV H vs rs → DpAll K H vs (rs.map wishD)
  | _, _, .nil => .nil
  | _, _, .cons r t => .cons r.dp (WishesV.dp t)
theorem ints_dp : ∀ ns : List Int, DpAll K H (ns.map V.int) (ns.map PyData.int)
  | [] => .nil
  | n :: ns => .cons (.int n) (ints_dp ns)
end
theorem eqv_row (a b : Row) : PyData.eqv (rowD a) (rowD b) = decide (a = b) := by
  have h1 := eqv_int a.lo b.lo
  have h2 := eqv_int a.hi b.hi
  have h3 := eqv_sort a.wr b.wr
  have h4 := eqv_int a.hd b.hd
  obtain ⟨l1, i1, w1, d1⟩ := a
  obtain ⟨l2, i2, w2, d2⟩ := b
  simp only [rowD, PyData.eqv, PyData.eqvAll] at h1 h2 h3 h4 ⊢
  rw [h1, h2, h3, h4]
  simp
theorem eqv_wish (a b : Wish) : PyData.eqv (wishD a) (wishD b) = decide (a = b) := by
  have h1 := eqv_int a.hd b.hd
  have h2 := eqv_int a.fl b.fl
  have h3 := eqv_sort a.wr b.wr
  have h4 := eqv_int a.lo b.lo
  have h5 := eqv_int a.hi b.hi
  obtain ⟨l1, i1, w1, d1, e1⟩ := a
  obtain ⟨l2, i2, w2, d2, e2⟩ := b
  simp only [wishD, PyData.eqv, PyData.eqvAll] at h1 h2 h3 h4 h5 ⊢
  rw [h1, h2, h3, h4, h5]
  simp
theorem eqv_maps {α : Type} [DecidableEq α] {f : α → PyData} (hf : ∀ a b, PyData.eqv (f a) (f b) = decide (a = b)) : ∀ xs ys : List α, PyData.eqv (.list (xs.map f)) (.list (ys.map f)) = decide (xs = ys) := by
  have all : ∀ xs ys : List α, PyData.eqvAll (xs.map f) (ys.map f) = decide (xs = ys) := by
    intro xs
    induction xs with
    | nil =>
      intro ys
      cases ys with
      | nil => rw [List.map_nil]; simp [PyData.eqvAll]
      | cons y ys => rw [List.map_nil, List.map_cons]; simp [PyData.eqvAll]
    | cons x xs ih =>
      intro ys
      cases ys with
      | nil => rw [List.map_nil, List.map_cons]; simp [PyData.eqvAll]
      | cons y ys =>
        rw [List.map_cons, List.map_cons]
        simp only [PyData.eqvAll]
        rw [hf, ih ys]
        simp
  intro xs ys
  simp only [PyData.eqv]
  exact all xs ys
end FS
/-! FLam -/
namespace FS
open PySem PySem.Spec PyProof.Rows L2
open PySem.W (dataLe EachIs alike AllAlike Sortable KeyPure)
/-! ### the key of as_long's sort -/
abbrev lamArgs (q : Pos) : Arguments := { posonlyargs := [], args := [{ arg := "row", annotation := none, pos := q }], vararg := none, kwonlyargs := [], kw_defaults := [], kwarg := none, defaults := [] }
abbrev lamScope : Scope := { kind := .function, names := [(PySem.Str.ofString "row", .local)], isGenerator := false, isCoroutine := false, more := [] }
abbrev rowAt (p1 p2 p3 : Pos) (j : Nat) (i : Int) : Expr := .Subscript (.Name "row" p1) (.Constant (.int i) j p2) p3
abbrev lamBody (p1 p2 p3 q1 q2 q3 r1 r2 r3 pt : Pos) (j1 j2 j3 kt : Nat) : Expr := .Tuple [rowAt p1 p2 p3 j1 3, rowAt q1 q2 q3 j2 2, rowAt r1 r2 r3 j3 0] kt pt
section
variable {prog : Program} {w : World} {A : Around} {E : Value → Shared → Prop} {s : Shared}
/-- row[i] in the frame of the lambda -/
theorem lam_at {env : Env} {p : Addr} {m : Str → Option Value} {its : List Value} {i : Nat} {v : Value} {p1 p2 p3 : Pos} {j : Nat} {Q : Value → Shared → Prop} (hk : env.scope.kind = .function) (hl : env.kindOf "row" = some .local) (hn : s.heap.Ns env.locals m) (hm : m "row" = some (.ref p))
    (ht : IsTup s.heap p its.toArray) (hi : its[i]? = some v) (h64 : its.length ≤ 100) (h : ∀ tk, Q v { s with toks := tk }) : wpAny (model prog w) A (eval (rowAt p1 p2 p3 j (i : Int)) env) Q E s := by
  obtain ⟨k, h1, h2, h3, h4, h5⟩ := atI_get (atI_nat hi)
  refine Subscript_ (wpAny_Name (wpAny_loadName_local hk hl hn hm (wpAny_Constant_int ?_)))
  exact subscriptTail_builtinR (x := v) (T := "tuple") ht.typeIs slot_tuple_getitem.lookup (getItem_tuple (j := k) (Q := fun r s' => r = v ∧ Q r s') ht (by omega) (by omega) (by rw [List.size_toArray]; exact h1) (by simpa using h2) ⟨rfl, h _⟩) rfl
/-- the lambda called with a row -/
theorem lam_call {h : Heap} {tk : Nat} {f p c' : Addr} {q : Str} {pm ctv : Value} {its : List Value} {r : Row} {p0 p1 p2 p3 q1 q2 q3 r1 r2 r3 pt : Pos} {j1 j2 j3 kt : Nat} (hd : A.depth < recursionLimit) (hlim : h.NoLimit)
    (hf : h.get? f = some (PySem.W.kla_obj "<lambda>" q (lamArgs p0) (lamBody p1 p2 p3 q1 q2 q3 r1 r2 r3 pt j1 j2 j3 kt) lamScope [] pm c' ctv)) (hc : h.CodeRec (.ref c') q)
    (ht : IsTup h p its.toArray) (rv : Vals r.vs its) :
    wpAny (model prog w) A (call (.ref f) [.ref p]) (KeyPure (keyD r) { s with heap := h, toks := tk }) (fun _ _ => False) { s with heap := h, toks := tk } := by
  cases rv with
  | cons a1 rv =>
  cases rv with
  | cons a2 rv =>
  cases rv with
  | cons a3 rv =>
  cases rv with
  | cons a4 rv =>
  cases rv
  obtain ⟨t1, rfl⟩ := a1
  obtain ⟨t2, rfl⟩ := a2
  obtain ⟨t3, rfl⟩ := a3
  obtain ⟨t4, rfl⟩ := a4
  refine wpAny_call (codeAny_mono (R := fun fl s' => match fl with | .ok (.ret v) => KeyPure (keyD r) { s with heap := h, toks := tk } v s' | _ => False) ?_ fun fl s' hq => ?_)
  · refine PySem.W.kla_callFunE hd hf rfl rfl rfl rfl hc ?_
    refine wpAny_pure (wpAny_newFunctionEnv (binds := [("row", Value.ref p)]) (fun y hy => ?_) (fun y hy => ?_) (fun h₁ hns hsb => ⟨hlim.fresh _ hsb, ?_⟩) rfl)
    · simp at hy
      subst hy
      decide
    · simp at hy
      subst hy
      first | rfl | with_unfolding_all rfl | kernel_rfl
    · have kp : ∀ b o, h.get? b = some o → h₁.get? b = some o := fun b o e => hsb.extBut b o (Nat.ne_of_lt (Heap.lt_size e)) (Heap.get?_push_of_some _ e)
      have ht1 : IsTup h₁ p (Value.int r.lo t1 :: Value.int r.hi t2 :: Value.str (sortS r.wr) t3 :: Value.int r.hd t4 :: []).toArray := by
        obtain ⟨o, e, z⟩ := ht
        exact ⟨o, kp _ _ e, z⟩
      refine PySem.W.kla_codeExpr ?_
      refine wpAny_Tuple_spliced ?_
      refine Calls.spliced_cons (lam_at (i := 3) rfl (by first | rfl | with_unfolding_all rfl | kernel_rfl) hns (by rfl) ht1 rfl (by simp) fun tk1 => ?_)
      refine Calls.spliced_cons (lam_at (i := 2) rfl (by first | rfl | with_unfolding_all rfl | kernel_rfl) hns (by rfl) ht1 rfl (by simp) fun tk2 => ?_)
      refine Calls.spliced_cons (lam_at (i := 0) rfl (by first | rfl | with_unfolding_all rfl | kernel_rfl) hns (by rfl) ht1 rfl (by simp) fun tk3 => ?_)
      refine Calls.spliced_nil ⟨by show 3 ≤ sizeLine; decide, ?_⟩
      refine ⟨_, _, rfl, fun b o e => Heap.get?_push_of_some _ (kp b o e), ?_⟩
      exact Reads.tuple (Heap.get?_push_size _ rfl) rfl rfl (.cons (.int _ _) (.cons (.str _ _) (.cons (.int _ _) .nil)))
  · cases fl with
    | error e => exact hq.elim
    | ok fl =>
      cases fl with
      | ret u => exact hq
      | next => exact hq.elim
      | brk => exact hq.elim
      | cont => exact hq.elim
end
/-- sorted(e, key=the lambda) -/
def tSortLam (K : PySem.W.Frag) (te : TE) : TE := fun σ H Q => te σ H fun x H1 => ∃ (a : Addr) (ys : List V) (rows : List Row), [x] = [V.ref a] ∧ H1 a = some (.lst ys) ∧ RowsV H1 ys rows ∧ Tb K H1 ∧
  ∀ (H2 : Hp) (p : Addr) (zs : List V), Fm K [] H1 H2 → Fresh H1 p → H2 p = some (.lst zs) → RowsV H2 zs (rows.mergeSort keyLe) → Q (.ref p) H2
theorem pe_sortLam {X : Cx} {e : Expr} {te : TE} {c : Addr} {np kp lpos pos p0 p1 p2 p3 q1 q2 q3 r1 r2 r3 pt : Pos} {j1 j2 j3 kt : Nat} (hr : Room 1 X.A) (TB : LamX.TabB X.base X.mg c (He.cT X.K pLong).2) (hcode : X.env.code = .ref c) (hq : X.env.qual ++ "<lambda>" = qLam)
    (hg : Gl X "sorted") (hm : X.mg "sorted" = none) (he : PE X e te)
    (hs : backTo pos (starEach [e] X.env) = (false, eval e X.env) :: backTo pos (starEach [] X.env) := by rfl) (hs' : starEach [e] X.env = (false, eval e X.env) :: starEach [] X.env := by rfl) (hpl : (backTo pos (starEach [e] X.env)).any (·.1) = false := by rfl) :
    PE X (.Call (.Name "sorted" np) [e] [⟨some "key", .Lambda (lamArgs p0) (lamBody p1 p2 p3 q1 q2 q3 r1 r2 r3 pt j1 j2 j3 kt) lamScope lpos, kp⟩] pos) (tSortLam X.K te) := by
  refine ⟨fun pins s σ H Q I h => ?_⟩
  refine wpAny_Call_Name_kw (ld_blt I hg hm (show bootBuiltins "sorted" = some (.builtin "sorted") by decide +kernel) ?_)
  refine PyProof.Rows.callWith_kw ?_ hs hpl rfl rfl
  refine thn ((pa_cons he pa_nil hs').run pos pins s σ H (fun xs H1 => ∃ (a : Addr) (ys : List V) (rows : List Row), xs = [.ref a] ∧ H1 a = some (.lst ys) ∧ RowsV H1 ys rows ∧ Tb X.K H1 ∧
    ∀ (H2 : Hp) (p : Addr) (zs : List V), Fm X.K [] H1 H2 → Fresh H1 p → H2 p = some (.lst zs) → RowsV H2 zs (rows.mergeSort keyLe) → Q (.ref p) H2) I ?_) fun us s1 hu => ?_
  · exact h
  obtain ⟨xs, H1, I1, rv, a, ys, rows, ex, ha, R, tb, q⟩ := hu
  subst ex
  rw [Vals.ref1 rv]
  show wpAny _ _ (evalAll ((do let v ← eval (.Lambda (lamArgs p0) (lamBody p1 p2 p3 q1 q2 q3 r1 r2 r3 pt j1 j2 j3 kt) lamScope lpos) X.env; standAt pos; pure v) :: [])) _ _ s1
  refine wpAny_evalAll_cons (wpAny_bind (LamX.lam_make2 (T := Tt X.K) I1 TB hcode (by rw [hq]; simp [Tt]) (fun z hz _ => by simp [Tt] at hz; rw [hz, hq]) tb rfl (fun y hy e2 => by simp at hy; subst hy; cases e2) fun f c' pm ctv H2 s2 I2 eN T2 hf hfn _ hco => wpAny_bind (wpAny_standAt (wpAny_pure ?_))))
  refine wpAny_pure ?_
  have tk : Tk H1 H2 := fun b xs e => eN b _ e noT_tup
  have R2 : RowsV H2 ys rows := RowsV.tk tk R
  have ha2 : H2 a = some (.lst ys) := eN a _ ha noT_lst
  obtain ⟨its, rv2, hl, hz⟩ := I2.list (SqL.of ha2)
  obtain ⟨⟨oc, vs, t, hoc, hdc, hvc⟩, _, _⟩ := I2.hok c' _ hco
  have hrc : s2.heap.CodeRec (.ref c') (X.env.qual ++ "<lambda>") := ⟨c', oc, vs, t, rfl, hoc, hdc, hvc⟩
  have hlen : rows.length = ys.length := (paired_len R).symm
  obtain ⟨al, so⟩ := rows_alike keyD (.inl rfl) rows
  refine PySem.W.sorted_key_data (b := false) (bs := rows) (R := RowU H2) keyD hl.isList (each_of rv2 R2) al so (by omega) (fun b _ => ?_) (ksk_s1 _ _) (fun x => ksk_l1 _ _) (fun x => ksk_t1 _ _) (fun v r hv _ h tk2 kp => ?_) fun out c2 h' tk2 kp hn hget ho hE => ?_
  · have : (keyD b).depth ≤ 2 := by simp [keyD, PyData.depth, PyData.depthAll]
    have := hr.units
    omega
  · obtain ⟨y, ry, p, rfl, hp⟩ := hv
    cases ry
    obtain ⟨us3, rv3, ht, _⟩ := I2.tuple (SqT.of hp)
    refine lam_call (pm := pm) (ctv := ctv) ?_ (I2.nolimit.keeps kp) (kp _ _ hf) (hrc.keeps kp) ?_ rv3
    · have := hr.dp
      show X.A.depth < recursionLimit
      omega
    · obtain ⟨o, e1, z⟩ := ht
      exact ⟨o, kp _ _ e1, z⟩
  · rw [le_key] at hE
    obtain ⟨zs, v1, v2⟩ := of_each hE
    have hzl : zs.length ≤ sizeLine := by
      have := paired_len v1
      omega
    have nP : H2 (s2.heap.objs.size + 1) = none := I2.hok.fresh (Nat.le_succ _)
    refine ⟨.ref _, upd H2 (s2.heap.objs.size + 1) (.lst zs), I2.laid (t' := tk2) kp (Nat.le_succ _) ⟨hzl, out, c2, v1, hget⟩, rfl, q _ _ zs ⟨fun b o _ e n => ?_, fun _ => ?_⟩ (fun o e n => ?_) upd_same (RowsV.tk (tk_new nP) v2)⟩
    · rw [upd_ne (ne_of_none (eN b o e n) nP)]
      exact eN b o e n
    · exact Tb.new T2 nP
    · have := eN _ o e n
      rw [nP] at this
      cases this
end FS
namespace FS
open PySem PySem.Spec PyProof.Rows L2
section
variable {P : Program} {w : World} {K : PySem.W.Frag} {mg : Str → Option Value} {base : Heap} {x : Str} {st : Stmt} {N ps : List Str} {k j : Nat} {sp sp' : Sp}
/-- as Dn.ok, the code object told -/
theorem Dn.okC (D : Dn K mg x st) (S : FnScope N ps (defScope st))
    (hb : ∀ (kV doc pm : Value) (an : Option Addr) (cdv ct : Value) (us : List Value), us.length = ps.length → bindArgs (PySem.W.fnOf x x (defArgs st) (defBody st) (defScope st) .none kV doc pm an cdv ct) ⟨us, []⟩ = pure (ps.zip us))
    (len : ∀ vs H Q E, sp vs H Q E → vs.length = ps.length)
    (body : ∀ (f : Addr) (A : Around) (outer : List Env) (s : Shared) (H : Hp) (vs : List V) (Q : VK) (E : XK), Room k (A.deeper (envOfC x (defScope st) s.heap.objs.size f (.ref (He.cT K (x, none)).1))) → sp vs H Q E →
      ∃ t, PSs (cxOf CX0 P w K mg base N x (defScope st) f (.ref (He.cT K (x, none)).1) A outer s H E).nox (defBody st) t ∧ t { nx := fun _ H' => Q .non H', rt := Q } (start N vs) H) : Ok P w K mg base (k + 1) x ps sp := by
  obtain ⟨fd, F, g⟩ := D
  have bd := F.bindsN hb
  have kp := F.kp
  obtain ⟨oc, od, dV, kV, doc, pm, an, cdv, ct, osl, rfl, lk, hcd, hd, hkw⟩ := F.ex
  obtain ⟨c, rfl⟩ := He.codeIn_ref hcd
  have ec : c = (He.cT K (x, none)).1 := (He.codeOf_eq (p := (x, none)) lk rfl).symm
  refine ⟨_, fn_of lk hcd S len fun A outer s H vs Q E hr hsp => ?_, bd, kp, g, _, _, _, lk⟩
  subst ec
  obtain ⟨t, h, q⟩ := body _ A outer s H vs Q E hr hsp
  exact ⟨t, h.nox, q⟩
end
end FS
/-! F3 -/
namespace FS
open PySem PySem.Spec PyProof.Rows L2
section
variable {P : Program} {w : World} {K : PySem.W.Frag} {mg : Str → Option Value} {base : Heap}
theorem eqv_end (m r : Row) : PyData.eqv (.tuple [.int m.hi, .str (sortS m.wr), .int m.hd]) (.tuple [.int r.lo, .str (sortS r.wr), .int r.hd]) = decide (m.hi = r.lo ∧ m.wr = r.wr ∧ m.hd = r.hd) := by
  have h1 := eqv_int m.hi r.lo
  have h2 := eqv_sort m.wr r.wr
  have h3 := eqv_int m.hd r.hd
  simp only [PyData.eqv, PyData.eqvAll] at h1 h2 h3 ⊢
  rw [h1, h2, h3]
  simp
/-! ### as_long -/
def spas_long (K : PySem.W.Frag) : Sp := fun vs H Q _ => ∃ (a : Addr) (ys : List V) (rows : List Row), vs = [.ref a] ∧ H a = some (.lst ys) ∧ RowsV H ys rows ∧ rows.length ≤ 10000 ∧ Tb K H ∧
  ∀ H' p zs, Fm K [] H H' → Fresh H p → H' p = some (.lst zs) → RowsV H' zs (asLong rows) → Q (.ref p) H'
theorem scas_long : FnScope ["rows", "made", "low", "high", "sort", "hand"] ["rows"] (defScope sas_long) := ⟨rfl, rfl, rfl, by decide +kernel, rfl, by decide +kernel, by decide +kernel⟩
theorem ok_as_long (T : Txt K mg) (TB : LamX.TabB base mg (He.cT K pLong).1 (He.cT K pLong).2) : Ok P w K mg base 3 "as_long" ["rows"] (spas_long K) := by
  refine T.das_long.okC scas_long (fun _ _ _ _ _ _ us hl => match us, hl with | [_], _ => rfl) (fun vs H Q E h => ?_) (fun f A outer s H vs Q E hr h => ?_)
  · obtain ⟨a, ys, rows, rfl, _⟩ := h
    rfl
  · obtain ⟨a, ys, rows, rfl, ha, R, hlen, tb, k⟩ := h
    refine ⟨_, (pss_cons (ps_set (i := 1) scas_long.nd rfl (Or.inl rfl) (pe_lst pa_nil))
      (pss_cons (ps_for PassesOwn.never rfl (pi_list (pe_sortLam (hr.mono (by decide)) TB rfl (by rfl) (by rfl) T.sorted (pv 0))) (pg_tup rfl (pgs_cons (pg_name (i := 2) scas_long.nd rfl (Or.inl rfl)) (pgs_cons (pg_name (i := 3) scas_long.nd rfl (Or.inl rfl)) (pgs_cons (pg_name (i := 4) scas_long.nd rfl (Or.inl rfl)) (pgs_cons (pg_name (i := 5) scas_long.nd rfl (Or.inl rfl)) pgs_nil)))))
        (pss_one (ps_if (PW.pt (pw_and (pt_cmpR op_gt (pe_callB call_len_seq (by rfl) T.len PySem.boot_len (pa_cons (pv 1) pa_nil)) pe_int (nomark _)) (pw_and1 (pt_cmpR (op_eqD hr.units) (pe_slice sl_tup (pe_ix ix_list (pv 1) (pe_un un_neg pe_int) (fun _ _ => rfl)) (po_some pe_int) po_none) (pe_tup (pa_cons (pv 2) (pa_cons (pv 4) (pa_cons (pv 5) pa_nil)))) (nomark _)))))
          (pss_one (ps_asg (pe_tup (pa_cons (pe_ix ix_tup (pe_ix ix_list (pv 1) (pe_un un_neg pe_int) (fun _ _ => rfl)) pe_int (fun _ _ => rfl)) (pa_cons (pv 3) (pa_cons (pv 4) (pa_cons (pv 5) pa_nil))))) (pg_sub (pv 1) (pe_un un_neg pe_int) set_list)))
          (pss_one (ps_expr (pe_bm PySem.F.plainAttrs_list PySem.F.slot_list_append PySem.F.type_list_append mt_append (pv 1) (pa_cons (pe_tup (pa_cons (pv 2) (pa_cons (pv 3) (pa_cons (pv 4) (pa_cons (pv 5) pa_nil))))) pa_nil)))))))
      (pss_one (ps_ret (pe_callB (call_sortRows hr.units) (by rfl) T.sorted (by decide +kernel) (pa_cons (pv 1) pa_nil)))))), ?_⟩
    refine ⟨by show 0 ≤ sizeLine; decide, fun p hp => ?_⟩
    have fp : Fresh H p := Fresh.of hp
    have nap : a ≠ p := ne_of_none ha hp
    refine ⟨_, rfl, a, ys, rows, rfl, (by rw [upd_ne nap]; exact ha), RowsV.tk (tk_new hp) R, tb.new hp, fun H2 p2 zs F2 fr2 hp2 RS => ?_⟩
    have hlz : zs.length = rows.length := by
      have h1 := paired_len RS
      rw [List.length_mergeSort] at h1
      exact h1
    have n21 : p2 ≠ p := fun e => fr2 _ (by rw [e]; exact upd_same) noT_lst
    have hp1 : H2 p = some (.lst []) := F2.at (by simp) upd_same noT_lst
    refine ⟨p2, rfl, ⟨_, SqL.of hp2⟩, for_list (K := K) (a := p2) (xs := zs) (fun i σ H1 => ∃ (v2 v3 v4 v5 : Option V) (ms : List V), σ = [some (.ref a), some (.ref p), v2, v3, v4, v5] ∧ Fm K [p] H2 H1 ∧ H1 p = some (.lst ms) ∧ RowsV H1 ms (((rows.mergeSort keyLe).take i).foldl mergeStep []))
      ⟨none, none, none, none, [], rfl, Fm.refl, hp1, .nil⟩ (fun i σ H1 _ ⟨_, _, _, _, _, _, F, _⟩ => SqL.of (F.at (by simpa using n21) hp2 noT_lst)) ?_ ?_⟩
    · rintro i y σ H1 hy ⟨v2, v3, v4, v5, ms, rfl, F, hm, RM⟩
      obtain ⟨r, hr', q, rfl, hq⟩ := Paired.at RS hy
      have nqp : q ≠ p := ne_of hq hp1 (by intro z; cases z)
      have hq1 : H1 q = some (.tup r.vs) := F.at (by simpa using nqp) hq noT_tup
      have tk : (rows.mergeSort keyLe).take (i + 1) = (rows.mergeSort keyLe).take i ++ [r] := take_next hr'
      have lm : ms.length ≤ 10000 := by
        have h1 := paired_len RM
        have h2 := fold_len ((rows.mergeSort keyLe).take i) []
        have h3 : ((rows.mergeSort keyLe).take i).length ≤ (rows.mergeSort keyLe).length := List.length_take_le' i _
        rw [List.length_mergeSort] at h3
        rw [List.length_nil] at h2
        omega
      refine ⟨q, _, rfl, SqT.of hq1, rfl, _, _, rfl, _, _, rfl, _, _, rfl, _, _, rfl, rfl, ?_⟩
      -- len(made) > 0
      refine ⟨_, rfl, p, ms, rfl, .inl (SqL.of hm), _, _, rfl, rfl, _, rfl, ?_⟩
      have hl0 : ms.length < sizeLine := small_lt (by omega)
      -- behind the test that fails: the row is put behind the list
      have app : ∀ (H3 : Hp) (M : List Row), Fm K [p] H2 H3 → H3 p = some (.lst ms) → RowsV H3 ms M → M ++ [r] = ((rows.mergeSort keyLe).take (i + 1)).foldl mergeStep [] →
          ∀ t, H3 t = none → ∃ (v2 v3 v4 v5 : Option V) (ms' : List V), [some (V.ref a), some (.ref p), some (.int r.lo), some (.int r.hi), some (.str (sortS r.wr)), some (.int r.hd)] = [some (.ref a), some (.ref p), v2, v3, v4, v5] ∧
            Fm K [p] H2 (upd (upd H3 t (.tup r.vs)) p (.lst (ms ++ [.ref t]))) ∧ (upd (upd H3 t (.tup r.vs)) p (.lst (ms ++ [.ref t]))) p = some (.lst ms') ∧ RowsV (upd (upd H3 t (.tup r.vs)) p (.lst (ms ++ [.ref t]))) ms' (((rows.mergeSort keyLe).take (i + 1)).foldl mergeStep []) := fun H3 M F3 h3 R3 e t ht => by
        obtain ⟨F4, R4⟩ := app_new (x := r) F3 h3 R3 ht
        exact ⟨_, _, _, _, _, rfl, F4, upd_same, e ▸ R4⟩
      have fe : ((rows.mergeSort keyLe).take (i + 1)).foldl mergeStep [] = mergeStep (((rows.mergeSort keyLe).take i).foldl mergeStep []) r := by
        rw [tk, List.foldl_append]
        rfl
      rcases getLast_cases (((rows.mergeSort keyLe).take i).foldl mergeStep []) with eM | ⟨M0, m, eM⟩
      · rw [eM] at RM fe
        cases RM
        refine iteF (iteF ?_)
        refine ⟨_, rfl, .inl ⟨rfl, _, SqL.of hm⟩, _, rfl, _, rfl, _, rfl, _, rfl, (by show 4 ≤ sizeLine; decide), fun t ht => ?_⟩
        refine ⟨p, _, _, rfl, rfl, (by rw [upd_ne (ne_of_none hm ht)]; exact hm), hl0, ?_⟩
        exact app H1 [] F hm .nil (by rw [fe]; rfl) t ht
      · rw [eM] at RM fe
        obtain ⟨ms0, v, rfl, R0, t0, rfl, ht0⟩ := Paired.snoc_inv RM
        have pos : decide ((0 : Int) < ((ms0 ++ [V.ref t0]).length : Int)) = true := by
          rw [List.length_append]
          simp
        rw [pos]
        refine iteT ?_
        -- made[-1][1:] == (low, sort, hand)
        refine ⟨_, rfl, _, rfl, p, _, _, _, rfl, rfl, SqL.of hm, atI_last _ _, _, rfl, t0, _, rfl, SqT.of ht0, (fun z => absurd (show HT.sIx 4 0 (some 1) = 0 from z.1) (by decide)), fun q1 hq1' => ?_⟩
        have cut : cutV m.vs (some 1) none = [.int m.hi, .str (sortS m.wr), .int m.hd] := rfl
        rw [cut]
        refine ⟨_, rfl, _, rfl, _, rfl, (by show 3 ≤ sizeLine; decide), fun q2 hq2' => ?_⟩
        have g1 : Same H1 (upd H1 q1 (.tup [.int m.hi, .str (sortS m.wr), .int m.hd])) := fun b o e => by rw [upd_ne (ne_of_none e hq1')]; exact e
        have g2 : Same (upd H1 q1 (.tup [.int m.hi, .str (sortS m.wr), .int m.hd])) (upd (upd H1 q1 (.tup [.int m.hi, .str (sortS m.wr), .int m.hd])) q2 (.tup [.int r.lo, .str (sortS r.wr), .int r.hd])) := fun b o e => by rw [upd_ne (ne_of_none e hq2')]; exact e
        have gs := g1.trans g2
        have e1 : (upd (upd H1 q1 (.tup [.int m.hi, .str (sortS m.wr), .int m.hd])) q2 (.tup [.int r.lo, .str (sortS r.wr), .int r.hd])) q1 = some (.tup [.int m.hi, .str (sortS m.wr), .int m.hd]) := g2 _ _ upd_same
        generalize hH3 : upd (upd H1 q1 (.tup [.int m.hi, .str (sortS m.wr), .int m.hd])) q2 (.tup [.int r.lo, .str (sortS r.wr), .int r.hd]) = H3 at gs e1
        have e2 : H3 q2 = some (.tup [.int r.lo, .str (sortS r.wr), .int r.hd]) := by rw [← hH3]; exact upd_same
        have F3 : Fm K [p] H2 H3 := F.trans (Fm.same gs)
        have hm3 := gs _ _ hm
        have RM3 := RowsV.tk (fun b xs e => gs b _ e) RM
        refine ⟨.tuple [.int m.hi, .str (sortS m.wr), .int m.hd], .tuple [.int r.lo, .str (sortS r.wr), .int r.hd], .tup (SqT.of e1) (.cons (.int _) (.cons (.str _) (.cons (.int _) .nil))), .tup (SqT.of e2) (.cons (.int _) (.cons (.str _) (.cons (.int _) .nil))), lay_end _ _ _, lay_end _ _ _, _, rfl, ?_⟩
        rw [eqv_end]
        refine ite2 (fun e => ?_) (fun e => ?_)
        · have e := of_decide_eq_true e
          refine ⟨_, rfl, _, rfl, p, _, _, _, rfl, rfl, SqL.of hm3, atI_last _ _, t0, _, _, _, rfl, rfl, SqT.of (gs _ _ ht0), row0, _, rfl, _, rfl, _, rfl, (by show 4 ≤ sizeLine; decide), fun t ht => ?_⟩
          have hm4 : upd H3 t (.tup (⟨m.lo, r.hi, r.wr, r.hd⟩ : Row).vs) p = some (.lst (ms0 ++ [.ref t0])) := by rw [upd_ne (ne_of_none hm3 ht)]; exact hm3
          refine ⟨_, rfl, _, rfl, p, _, _, _, rfl, rfl, hm4, ix_last _ _, ?_⟩
          rw [set_last]
          refine ⟨_, _, _, _, _, rfl, (F3.trans (Fm.new ht)).trans (Fm.put hm4 rfl (by simp)), upd_same, ?_⟩
          rw [fe, mergeStep_yes e]
          obtain ⟨ms0', v', ee, R0', _⟩ := Paired.snoc_inv RM3
          have : ms0' = ms0 := (List.append_inj' ee rfl).1.symm
          subst this
          refine Paired.app (RowsV.tk (tk_lst hm4) (RowsV.tk (tk_new ht) R0')) (.cons ⟨t, rfl, ?_⟩ .nil)
          rw [upd_ne (ne_of_none hm3 ht).symm]
          exact upd_same
        · have e : ¬ (m.hi = r.lo ∧ m.wr = r.wr ∧ m.hd = r.hd) := by simpa using e
          refine ⟨_, rfl, .inl ⟨rfl, _, SqL.of hm3⟩, _, rfl, _, rfl, _, rfl, _, rfl, (by show 4 ≤ sizeLine; decide), fun t ht => ?_⟩
          refine ⟨p, _, _, rfl, rfl, (by rw [upd_ne (ne_of_none hm3 ht)]; exact hm3), hl0, ?_⟩
          exact app H3 (M0 ++ [m]) F3 hm3 RM3 (by rw [fe, mergeStep_no e]) t ht
    · rintro σ H1 ⟨v2, v3, v4, v5, ms, rfl, F, hm, RM⟩
      refine ⟨_, rfl, p, ms, _, rfl, hm, RM, fun p3 ws hp3 RW => ?_⟩
      have Fa : Fm K [p] H H1 := ((Fm.new hp).trans F2.nil).trans F
      refine k _ p3 ws ((Fa.drop fp).trans (Fm.new hp3)) ?_ upd_same (RowsV.tk (tk_new hp3) ?_)
      · refine Fa.fresh (fun z => ?_) (Fresh.of hp3)
        rw [List.mem_singleton] at z
        rw [z, hm] at hp3
        cases hp3
      · have el : zs.length = (rows.mergeSort keyLe).length := paired_len RS
        rw [el, List.take_length] at RW
        exact RW
end
end FS
/-! F4 -/
namespace FS
open PySem PySem.Spec PyProof.Rows L2
/-! ### the locks in the heap -/
theorem kpw : ¬ (("pieces" : Str) = "wished") := by decide +kernel
def flds (d w : Addr) : List (Str × V) := putF "wished" (.ref w) (putF "pieces" (.ref d) [])
theorem flds_eq (d w : Addr) : flds d w = ([("pieces", V.ref d), ("wished", V.ref w)] : List (Str × V)) := by
  show (if ("pieces" : Str) = "wished" then [(("pieces" : Str), V.ref w)] else (("pieces" : Str), V.ref d) :: putF "wished" (V.ref w) []) = ([("pieces", V.ref d), ("wished", V.ref w)] : List (Str × V))
  rw [if_neg kpw]
  rfl
theorem flds_p (d w : Addr) : (flds d w).lookup ("pieces" : Str) = some (.ref d) := by
  unfold flds
  rw [lookup_putF, if_neg kpw, lookup_putF, if_pos rfl]
theorem flds_w (d w : Addr) : (flds d w).lookup ("wished" : Str) = some (.ref w) := by
  unfold flds
  rw [lookup_putF, if_pos rfl]
theorem flds_no (d w : Addr) {m : Str} (h1 : ¬ m = "wished") (h2 : ¬ m = "pieces") : (flds d w).lookup m = none := by
  unfold flds
  rw [lookup_putF, if_neg h1, lookup_putF, if_neg h2]
  rfl
theorem flds_put (d w w' : Addr) : putF "wished" (.ref w') (flds d w) = flds d w' := by
  rw [flds_eq, flds_eq]
  show (if ("pieces" : Str) = "wished" then _ else (("pieces" : Str), V.ref d) :: (if ("wished" : Str) = "wished" then [(("wished" : Str), V.ref w')] else _)) = ([("pieces", V.ref d), ("wished", V.ref w')] : List (Str × V))
  rw [if_neg kpw, if_pos rfl]
/-- a file's rows, off the list of wishes at w -/
def PcV (H : Hp) (w : Addr) (kv : Key × V) (fr : Int × List Row) : Prop := kv.1 = .inl fr.1 ∧ ∃ a ys, kv.2 = .ref a ∧ a ≠ w ∧ H a = some (.lst ys) ∧ RowsV H ys fr.2
structure LkAt (K : PySem.W.Frag) (H : Hp) (p d w : Addr) (S : LS) : Prop where
  ob : ∃ dx, H p = some (.ins (He.ga K "Locks") dx (flds d w))
  dc : ∃ kvs, H d = some (.dK kvs) ∧ Paired (PcV H w) kvs S.pieces
  wl : ∃ ws, H w = some (.lst ws) ∧ WishesV H ws S.wished
theorem PcV.keep {H H' : Hp} {w : Addr} {kv : Key × V} {fr : Int × List Row} (h : PcV H w kv fr) (k : ∀ a ys, a ≠ w → H a = some (.lst ys) → H' a = some (.lst ys)) (t : Tk H H') {w' : Addr} (hw : ∀ a ys, a ≠ w → H a = some (.lst ys) → a ≠ w') : PcV H' w' kv fr := by
  obtain ⟨e, a, ys, e2, n, ha, R⟩ := h
  exact ⟨e, a, ys, e2, hw a ys n ha, k a ys n ha, RowsV.tk t R⟩
section
variable {K : PySem.W.Frag} {H H' : Hp} {p d w : Addr} {S : LS}
/-- nothing of the locks is written -/
theorem LkAt.fm (L : LkAt K H p d w S) (F : Fm K [] H H') : LkAt K H' p d w S := by
  obtain ⟨⟨dx, h1⟩, ⟨kvs, h2, h3⟩, ws, h4, h5⟩ := L
  have tk := F.tup
  exact ⟨⟨dx, F.at (by simp) h1 noT_ins⟩, ⟨kvs, F.at (by simp) h2 noT_dK, Paired.mapP h3 fun _ _ z => z.keep (fun a ys _ e => F.at (by simp) e noT_lst) tk fun _ _ n _ => n⟩, ws, F.at (by simp) h4 noT_lst, WishesV.tk tk h5⟩
/-- what is told of others: ms apart from the locks -/
theorem LkAt.off (L : LkAt K H p d w S) {ms : List Addr} (F : Fm K ms H H') (hm : ∀ b ∈ ms, Fresh H b) : LkAt K H' p d w S := by
  refine L.fm ⟨fun b o _ e n => F.kp b o (fun z => ?_) e n, F.tb⟩
  exact hm b z o e n
theorem LkAt.ms (L : LkAt K H p d w S) : ∀ b ∈ [p, d, w], ∃ u, H b = some u ∧ wrB u = true := by
  obtain ⟨⟨dx, h1⟩, ⟨kvs, h2, h3⟩, ws, h4, h5⟩ := L
  intro b hb
  simp at hb
  rcases hb with rfl | rfl | rfl
  · exact ⟨_, h1, rfl⟩
  · exact ⟨_, h2, rfl⟩
  · exact ⟨_, h4, rfl⟩
theorem LkAt.ne (L : LkAt K H p d w S) : p ≠ d ∧ p ≠ w ∧ d ≠ w := by
  obtain ⟨⟨dx, h1⟩, ⟨kvs, h2, h3⟩, ws, h4, h5⟩ := L
  exact ⟨ne_of h1 h2 (by intro z; cases z), ne_of h1 h4 (by intro z; cases z), ne_of h2 h4 (by intro z; cases z)⟩
theorem pc_get : ∀ {kvs : List (Key × V)} {pcs : List (Int × List Row)} (f : Int), Paired (PcV H w) kvs pcs →
    (valV kvs (Sum.inl f : Key) = none ∧ getP pcs f = []) ∨ ∃ a ys, valV kvs (Sum.inl f : Key) = some (.ref a) ∧ a ≠ w ∧ H a = some (.lst ys) ∧ RowsV H ys (getP pcs f)
  | _, _, f, .nil => .inl ⟨rfl, rfl⟩
  | kv :: kvs, fr :: pcs, f, .cons ⟨e, a, ys, e2, n, ha, R⟩ t => by
    by_cases h : fr.1 = f
    · refine .inr ⟨a, ys, ?_, n, ha, ?_⟩
      · rw [valV_pos (by rw [e, h]), e2]
      · have : getP (fr :: pcs) f = fr.2 := by
          unfold getP
          rw [List.find?_cons_of_pos (by simpa using h)]
          rfl
        rw [this]
        exact R
    · have h1 : valV (kv :: kvs) (Sum.inl f : Key) = valV kvs (Sum.inl f) := valV_neg (by rw [e]; intro z; exact h (Sum.inl.inj z))
      have h2 : getP (fr :: pcs) f = getP pcs f := by
        unfold getP
        rw [List.find?_cons_of_neg (by simpa using h)]
      rw [h1, h2]
      exact pc_get f t
end
section
variable {P : Program} {w : World} {K : PySem.W.Frag} {mg : Str → Option Value} {base : Heap}
/-! ### wish_of -/
def findW (S : LS) (h : Int) : Option Wish := S.wished.find? fun w => decide (w.hd = h)
def spwish_of (K : PySem.W.Frag) : Sp := fun vs H Q _ => ∃ (p d wl : Addr) (S : LS) (hd : Int), vs = [.ref p, .int hd] ∧ LkAt K H p d wl S ∧
  (findW S hd = none → Q .non H) ∧ ∀ v x, findW S hd = some x → WishV H v x → Q v H
theorem scwish_of : FnScope ["locks", "hand", "wish"] ["locks", "hand"] (defScope swish_of) := ⟨rfl, rfl, rfl, by decide +kernel, rfl, by decide +kernel, by decide +kernel⟩
theorem wish0 {r : Wish} : atI r.vs 0 = some (.int r.hd) := rfl
theorem wish1 {r : Wish} : atI r.vs 1 = some (.int r.fl) := rfl
theorem wish2 {r : Wish} : atI r.vs 2 = some (.str (sortS r.wr)) := rfl
theorem wish3 {r : Wish} : atI r.vs 3 = some (.int r.lo) := rfl
theorem wish4 {r : Wish} : atI r.vs 4 = some (.int r.hi) := rfl
theorem find_take {l : List Wish} {q : Wish → Bool} {i : Nat} (h : (l.take i).find? q = none) {x : Wish} (hx : l[i]? = some x) : (q x = true → l.find? q = some x) ∧ (q x = false → (l.take (i + 1)).find? q = none) := by
  obtain ⟨hi, e⟩ := List.getElem?_eq_some_iff.mp hx
  have sp : l = l.take i ++ x :: l.drop (i + 1) := by rw [← e]; simp
  constructor
  · intro hq
    rw [sp, List.find?_append, h, List.find?_cons_of_pos hq]
    rfl
  · intro hq
    rw [take_next hx, List.find?_append, h, List.find?_cons_of_neg (by simpa using hq)]
    rfl
theorem ok_wish_of (T : Txt K mg) : Ok P w K mg base 1 "wish_of" ["locks", "hand"] (spwish_of K) := by
  refine T.dwish_of.ok scwish_of (fun _ _ _ _ _ _ us hl => match us, hl with | [_, _], _ => rfl) (fun vs H Q E h => ?_) (fun f cdv A outer s H vs Q E hr h => ?_)
  · obtain ⟨p, d, wl, S, hd, rfl, _⟩ := h
    rfl
  · obtain ⟨p, d, wl, S, hd, rfl, L, kn, ks⟩ := h
    obtain ⟨⟨dx, h1⟩, _, ws, h4, h5⟩ := L
    refine ⟨_, (pss_cons (ps_for PassesOwn.never rfl (pi_list (pe_fld (pv 0) rfl)) (pg_name (i := 2) scwish_of.nd rfl (Or.inl rfl))
        (pss_one (ps_if (pt_cmpR op_eq (pe_ix ix_tup (pv 2) pe_int (fun _ _ => rfl)) (pv 1) (nomark _))
          (pss_one (ps_ret (pv 2)))
          pss_nil)))
      (pss_one (ps_ret pe_non))), ?_⟩
    refine ⟨_, rfl, p, _, dx, _, _, rfl, h1, T.cl, T.nW, flds_w _ _, wl, rfl, ⟨_, SqL.of h4⟩, for_list (K := K) (a := wl) (xs := ws) (fun i σ H1 => ∃ v, σ = [some (.ref p), some (.int hd), v] ∧ H1 = H ∧ (S.wished.take i).find? (fun w => decide (w.hd = hd)) = none)
      ⟨none, rfl, rfl, by simp⟩ (fun i σ H1 _ ⟨_, _, e, _⟩ => SqL.of (e ▸ h4)) ?_ ?_⟩
    · rintro i y σ H1 hy ⟨v, rfl, rfl, hn⟩
      obtain ⟨x, hx, q, rfl, hq⟩ := Paired.at h5 hy
      obtain ⟨f1, f2⟩ := find_take hn hx
      refine ⟨_, rfl, q, _, _, _, rfl, rfl, SqT.of hq, wish0, _, rfl, rfl, _, rfl, ite2 (fun e => ?_) (fun e => ?_)⟩
      · have e1 : x.hd = hd := by simpa using e
        exact ⟨_, rfl, ks _ x (f1 (by simpa using e1)) ⟨q, rfl, hq⟩⟩
      · have e1 : ¬ x.hd = hd := by simpa using e
        exact ⟨_, rfl, rfl, f2 (by simpa using e1)⟩
    · rintro σ H1 ⟨v, rfl, rfl, hn⟩
      have : ws.length = S.wished.length := paired_len h5
      rw [this, List.take_length] at hn
      exact kn hn
end
end FS
/-! F5 -/
namespace FS
open PySem PySem.Spec PyProof.Rows L2
theorem ddp_snoc (l : List Int) (x : Int) : ddp (l ++ [x]) = if x ∈ ddp l then ddp l else ddp l ++ [x] := by
  unfold ddp
  rw [List.foldl_append]
  rfl
theorem ddp_len (l : List Int) : (ddp l).length ≤ l.length := by
  have go : ∀ (l acc : List Int), (l.foldl (fun acc x => if x ∈ acc then acc else acc ++ [x]) acc).length ≤ acc.length + l.length := by
    intro l
    induction l with
    | nil => intro acc; simp
    | cons x l ih =>
      intro acc
      rw [List.foldl_cons]
      have h1 := ih (if x ∈ acc then acc else acc ++ [x])
      have h2 : (if x ∈ acc then acc else acc ++ [x]).length ≤ acc.length + 1 := by split <;> simp
      rw [List.length_cons]
      omega
  have := go l []
  simpa [ddp] using this
theorem putK_keys_in {k : Key} {v : V} {kvs : List (Key × V)} (hm : k ∈ kvs.map (·.1)) : (putK kvs k v).map (·.1) = kvs.map (·.1) := by
  unfold putK
  have h : (kvs.any fun kv => decide (kv.1 = k)) = true := by
    obtain ⟨p, hp, e⟩ := List.mem_map.mp hm
    exact List.any_eq_true.mpr ⟨p, hp, decide_eq_true e⟩
  rw [if_pos h, List.map_map]
  refine List.map_congr_left fun p _ => ?_
  simp only [Function.comp]
  split <;> rfl
theorem putK_keys_out {k : Key} {v : V} {kvs : List (Key × V)} (hm : ¬ k ∈ kvs.map (·.1)) : (putK kvs k v).map (·.1) = kvs.map (·.1) ++ [k] := by
  unfold putK
  have h : ¬ (kvs.any fun kv => decide (kv.1 = k)) = true := fun h => by
    obtain ⟨p, hp, e⟩ := List.any_eq_true.mp h
    exact hm (List.mem_map.mpr ⟨p, hp, of_decide_eq_true e⟩)
  rw [if_neg h, List.map_append]
  rfl
theorem inl_mem {x : Int} {l : List Int} : (Sum.inl x : Key) ∈ l.map (Sum.inl : Int → Key) ↔ x ∈ l := by
  rw [List.mem_map]
  exact ⟨fun ⟨a, h, e⟩ => Sum.inl.inj e ▸ h, fun h => ⟨x, h, rfl⟩⟩
theorem sort_is {ys ks : List Int} (p : ys.Perm ks) (s : ys.Pairwise (· ≤ ·)) : ys = ks.mergeSort intLe := by
  have h2 : (ks.mergeSort intLe).Pairwise (fun a b => a ≤ b) := by
    refine List.Pairwise.imp (fun {a b} h => ?_) (List.pairwise_mergeSort (le := intLe) (fun a b c h1 h2 => ?_) (fun a b => ?_) ks)
    · simpa [intLe] using h
    · simp [intLe] at *; omega
    · simp [intLe]; omega
  exact List.Perm.eq_of_pairwise (le := fun a b => a ≤ b) (fun a b _ _ h1 h2 => Int.le_antisymm h1 h2) s h2 (p.trans (List.mergeSort_perm ks intLe).symm)
def heldBy (rows : List Row) (w : Wish) : List Int := (rows.filter fun r => hits w.row r).map (·.hd)
section
variable {P : Program} {w : World} {K : PySem.W.Frag} {mg : Str → Option Value} {base : Heap}
/-! ### holders -/
def spholders (K : PySem.W.Frag) : Sp := fun vs H Q _ => ∃ (p d wl : Addr) (S : LS) (v : V) (x : Wish), vs = [.ref p, v] ∧ LkAt K H p d wl S ∧ WishV H v x ∧ (getP S.pieces x.fl).length ≤ 10000 ∧ (S.hold x).length < 64 ∧
  ∀ H' q, Fm K [] H H' → Fresh H q → H' q = some (.lst ((S.hold x).map V.int)) → Q (.ref q) H'
theorem scholders : FnScope ["locks", "wish", "hand", "file", "sort", "low", "high", "found", "row"] ["locks", "wish"] (defScope sholders) := ⟨rfl, rfl, rfl, by decide +kernel, rfl, by decide +kernel, by decide +kernel⟩
theorem ok_holders (T : Txt K mg) : Ok P w K mg base 2 "holders" ["locks", "wish"] (spholders K) := by
  have Gare_against : Ok P w K mg base 1 "are_against" _ _ := ok_are_against T
  refine T.dholders.ok scholders (fun _ _ _ _ _ _ us hl => match us, hl with | [_, _], _ => rfl) (fun vs H Q E h => ?_) (fun f cdv A outer s H vs Q E hr h => ?_)
  · obtain ⟨p, d, wl, S, v, x, rfl, _⟩ := h
    rfl
  · obtain ⟨p, d, wl, S, v, x, rfl, L, ⟨t, rfl, ht⟩, hlen, h64, k⟩ := h
    obtain ⟨⟨dx, h1⟩, ⟨kvs, h2, h3⟩, ws, h4, h5⟩ := L
    have hu := hu_of hr
    refine ⟨_, (pss_cons (ps_asg (pv 1) (pg_tup rfl (pgs_cons (pg_name (i := 2) scholders.nd rfl (Or.inl rfl)) (pgs_cons (pg_name (i := 3) scholders.nd rfl (Or.inl rfl)) (pgs_cons (pg_name (i := 4) scholders.nd rfl (Or.inl rfl)) (pgs_cons (pg_name (i := 5) scholders.nd rfl (Or.inl rfl)) (pgs_cons (pg_name (i := 6) scholders.nd rfl (Or.inl rfl)) pgs_nil)))))))
      (pss_cons (ps_set (i := 7) scholders.nd rfl (Or.inl rfl) pe_dnewK)
      (pss_cons (ps_for PassesOwn.never rfl (pi_list (pe_dget2 hu (pe_fld (pv 0) rfl) (pv 3) (pe_lst pa_nil) ⟨rfl, rfl, rfl, rfl⟩)) (pg_name (i := 8) scholders.nd rfl (Or.inl rfl))
        (pss_one (ps_if (pt_val (pe_do Gare_against (hr.mono (by decide)) (pa_cons (pe_tup (pa_cons (pv 5) (pa_cons (pv 6) (pa_cons (pv 4) (pa_cons (pv 2) pa_nil))))) (pa_cons (pv 8) pa_nil))))
          (pss_one (ps_dput hu (pv 7) (pe_ix ix_tup (pv 8) pe_int (fun _ _ => rfl)) pe_bl rfl))
          pss_nil)))
      (pss_one (ps_ret (pe_callB (call_sortedDI rfl) (by rfl) T.sorted (by decide +kernel) (pa_cons (pv 7) pa_nil))))))), ?_⟩
    refine ⟨_, rfl, t, _, rfl, SqT.of ht, rfl, _, _, rfl, _, _, rfl, _, _, rfl, _, _, rfl, _, _, rfl, rfl, ?_⟩
    -- found = {}
    intro q hq
    have fq : Fresh H q := Fresh.of hq
    have F0 : Fm K [] H (upd H q (.dK [])) := Fm.new hq
    refine ⟨_, rfl, p, _, dx, _, _, rfl, F0.at (by simp) h1 noT_ins, T.cl, T.nP, flds_p _ _, d, rfl, .inl ⟨kvs, .inl (F0.at (by simp) h2 noT_dK)⟩, _, rfl, (by show 0 ≤ sizeLine; decide), fun e0 he0 => ⟨_, DGet.k (k := Sum.inl x.fl) (by rw [upd_ne (ne_of_none (F0.at (by simp) h2 noT_dK) he0)]; exact F0.at (by simp) h2 noT_dK), ?_⟩⟩
    have F1 : Fm K [] H (upd (upd H q (.dK [])) e0 (.lst [])) := F0.trans (Fm.new he0)
    have fe0 : Fresh H e0 := F0.fresh (by simp) (Fresh.of he0)
    have hq1 : (upd (upd H q (.dK [])) e0 (.lst [])) q = some (.dK []) := by rw [upd_ne (ne_of_none upd_same he0)]; exact upd_same
    have he1 : (upd (upd H q (.dK [])) e0 (.lst [])) e0 = some (.lst []) := upd_same
    obtain ⟨a, ys, ea, ha, R⟩ : ∃ a ys, (valV kvs (Sum.inl x.fl : Key)).getD (.ref e0) = .ref a ∧ (upd (upd H q (.dK [])) e0 (.lst [])) a = some (.lst ys) ∧ RowsV (upd (upd H q (.dK [])) e0 (.lst [])) ys (getP S.pieces x.fl) := by
      rcases pc_get x.fl h3 with ⟨e1, e2⟩ | ⟨a, ys, e1, _, ha, R⟩
      · rw [e1, e2]
        exact ⟨e0, [], rfl, upd_same, .nil⟩
      · rw [e1]
        exact ⟨a, ys, rfl, F1.at (by simp) ha noT_lst, RowsV.tk F1.tup R⟩
    generalize upd (upd H q (.dK [])) e0 (.lst []) = H1 at F1 hq1 he1 ha R
    rw [ea]
    have naq : a ≠ q := ne_of ha hq1 (by intro z; cases z)
    refine ⟨a, rfl, ⟨ys, SqL.of ha⟩, for_list (K := K) (a := a) (xs := ys) (fun i σ H2 => ∃ (v8 : Option V) (fs : List (Key × V)), σ = [some (.ref p), some (.ref t), some (.int x.hd), some (.int x.fl), some (.str (sortS x.wr)), some (.int x.lo), some (.int x.hi), some (.ref q), v8] ∧ Fm K [q] H1 H2 ∧ H2 q = some (.dK fs) ∧ fs.map (·.1) = (ddp (heldBy ((getP S.pieces x.fl).take i) x)).map Sum.inl)
      ⟨none, [], rfl, Fm.refl, hq1, rfl⟩ (fun i σ H2 _ ⟨_, _, _, F, _⟩ => SqL.of (F.at (by simpa using naq) ha noT_lst)) ?_ ?_⟩
    · rintro i y σ H2 hy ⟨v8, fs, rfl, F2, hf, ef⟩
      obtain ⟨r, hr', b, rfl, hb⟩ := Paired.at R hy
      have nbq : b ≠ q := ne_of hb hq1 (by intro z; cases z)
      have hb2 := F2.at (by simpa using nbq) hb noT_tup
      have tk := take_next hr'
      have hb3 : heldBy ((getP S.pieces x.fl).take (i + 1)) x = heldBy ((getP S.pieces x.fl).take i) x ++ (if hits x.row r = true then [r.hd] else []) := by
        unfold heldBy
        rw [tk, List.filter_append, List.map_append]
        congr 1
        by_cases hh : hits x.row r = true <;> simp [hh]
      refine ⟨_, rfl, _, rfl, _, rfl, _, rfl, (by show 4 ≤ sizeLine; decide), fun t2 ht2 => ⟨_, rfl, ?_⟩⟩
      refine ⟨.ref t2, .ref b, x.row, r, rfl, ⟨t2, rfl, upd_same⟩, ⟨b, rfl, by rw [upd_ne (ne_of_none hb2 ht2)]; exact hb2⟩, fun H3 F3 => ⟨_, rfl, ?_⟩⟩
      have F4 : Fm K [q] H1 H3 := (F2.trans (Fm.new ht2)).trans F3.nil
      have hf3 : H3 q = some (.dK fs) := F3.at (by simp) (by rw [upd_ne (ne_of_none hf ht2)]; exact hf) noT_dK
      have hb4 : H3 b = some (.tup r.vs) := F4.at (by simpa using nbq) hb noT_tup
      refine ite2 (fun e => ?_) (fun e => ?_)
      · have hl : fs.length < sizeLine := by
          have h1 : fs.length = (ddp (heldBy ((getP S.pieces x.fl).take i) x)).length := by
            have := congrArg List.length ef
            simpa using this
          have h2 : (ddp (heldBy ((getP S.pieces x.fl).take i) x)).length ≤ (heldBy ((getP S.pieces x.fl).take i) x).length := ddp_len _
          have h3 : (heldBy ((getP S.pieces x.fl).take i) x).length ≤ (getP S.pieces x.fl).length := by
            unfold heldBy
            rw [List.length_map]
            exact Nat.le_trans (List.length_filter_le _ _) (List.length_take_le' _ _)
          exact small_lt (by omega)
        refine ⟨_, rfl, _, rfl, b, _, _, _, rfl, rfl, SqT.of hb4, row3, q, _, rfl, DPut.k (k := Sum.inl r.hd) hf3 hl, ?_⟩
        refine ⟨_, _, rfl, F4.trans (Fm.put hf3 rfl (by simp)), upd_same, ?_⟩
        rw [hb3, if_pos e, ddp_snoc]
        by_cases hm : r.hd ∈ ddp (heldBy ((getP S.pieces x.fl).take i) x)
        · rw [if_pos hm, putK_keys_in (by rw [ef]; exact inl_mem.mpr hm), ef]
        · rw [if_neg hm, putK_keys_out (by rw [ef]; exact fun z => hm (inl_mem.mp z)), ef, List.map_append]
          rfl
      · refine ⟨_, fs, rfl, F4, hf3, ?_⟩
        rw [hb3, if_neg e, List.append_nil]
        exact ef
    · rintro σ H2 ⟨v8, fs, rfl, F2, hf, ef⟩
      have el : ys.length = (getP S.pieces x.fl).length := paired_len R
      rw [el, List.take_length] at ef
      have eh : S.hold x = (ddp (heldBy (getP S.pieces x.fl) x)).mergeSort intLe := rfl
      refine ⟨_, rfl, q, fs, _, rfl, .inl hf, ef, ?_, fun zs p2 hz1 hz2 hp2 => ?_⟩
      · rw [eh, List.length_mergeSort] at h64
        exact h64
      · have ez : zs = S.hold x := by rw [eh]; exact sort_is hz1 hz2
        subst ez
        have Fa : Fm K [q] H H2 := F1.nil.trans F2
        refine k _ p2 ((Fa.drop fq).trans (Fm.new hp2)) ?_ upd_same
        refine Fa.fresh (fun z => ?_) (Fresh.of hp2)
        rw [List.mem_singleton] at z
        rw [z, hf] at hp2
        cases hp2
end
end FS
/-! F6 -/
namespace FS
open PySem PySem.Spec PyProof.Rows L2
section
variable {K : PySem.W.Frag} {mg : Str → Option Value} {H H' : Hp} {p d wl : Addr} {S : LS}
/-- a list among the dict's values -/
def Own (H : Hp) (d a : Addr) : Prop := ∃ kvs k, H d = some (.dK kvs) ∧ (k, V.ref a) ∈ kvs
/-- lists that are not new were among the dict's values before -/
def Ow (d : Addr) (H H' : Hp) : Prop := ∀ a, Own H' d a → Own H d a ∨ Fresh H a
theorem Ow.refl : Ow d H H := fun _ h => .inl h
theorem Ow.trans {H1 H2 : Hp} (a : Ow d H H1) (b : Ow d H1 H2) (f : ∀ x, Fresh H1 x → Fresh H x) : Ow d H H2 := fun x h => (b x h).elim (fun h => a x h) fun h => .inr (f x h)
theorem Ow.same (h : ∃ kvs, H d = some (.dK kvs) ∧ H' d = some (.dK kvs)) : Ow d H H' := fun a ⟨kvs', k, e, m⟩ => by
  obtain ⟨kvs, e1, e2⟩ := h
  rw [e2] at e
  cases e
  exact .inl ⟨_, k, e1, m⟩
theorem Ow.fm {ms : List Addr} (F : Fm K ms H H') (hd : ∃ kvs, H d = some (.dK kvs)) (n : d ∉ ms) : Ow d H H' := by
  obtain ⟨kvs, e⟩ := hd
  exact Ow.same ⟨kvs, e, F.at n e noT_dK⟩
theorem LkAt.hd (L : LkAt K H p d wl S) : ∃ kvs, H d = some (.dK kvs) := by
  obtain ⟨_, ⟨kvs, e, _⟩, _⟩ := L
  exact ⟨kvs, e⟩
/-- what is written is none of the locks' own -/
theorem LkAt.off2 {ms : List Addr} (L : LkAt K H p d wl S) (F : Fm K ms H H') (hm : ∀ b ∈ ms, (∃ u, H b = some u ∧ wrB u = true) ∧ b ≠ p ∧ b ≠ d ∧ b ≠ wl ∧ ¬ Own H d b) : LkAt K H' p d wl S := by
  obtain ⟨⟨dx, g1⟩, ⟨kvs, g2, g3⟩, ws, g4, g5⟩ := L
  have tk : Tk H H' := F.tk fun b hb => (hm b hb).1
  refine ⟨⟨dx, F.at (fun z => (hm _ z).2.1 rfl) g1 noT_ins⟩, ⟨kvs, F.at (fun z => (hm _ z).2.2.1 rfl) g2 noT_dK, ?_⟩, ws, F.at (fun z => (hm _ z).2.2.2.1 rfl) g4 noT_lst, WishesV.tk tk g5⟩
  have go : ∀ {xs : List (Key × V)} {ys : List (Int × List Row)}, (∀ x ∈ xs, x ∈ kvs) → Paired (PcV H wl) xs ys → Paired (PcV H' wl) xs ys := by
    intro xs ys hs h
    induction h with
    | nil => exact .nil
    | @cons x y xs ys r t ih =>
      obtain ⟨e, a, zs, e2, n, ha, R⟩ := r
      refine .cons ⟨e, a, zs, e2, n, F.at (fun z => (hm _ z).2.2.2.2 ⟨kvs, x.1, g2, ?_⟩) ha noT_lst, RowsV.tk tk R⟩ (ih fun x hx => hs x (by simp [hx]))
      have := hs x (by simp)
      rw [← e2]
      exact this
  exact go (fun _ h => h) g3
theorem putK_mem {kvs : List (Key × V)} {k k0 : Key} {v v0 : V} (h : (k, v) ∈ putK kvs k0 v0) : (∃ k', (k', v) ∈ kvs) ∨ v = v0 := by
  unfold putK at h
  split at h
  · obtain ⟨x, hx, e⟩ := List.mem_map.mp h
    by_cases z : x.1 = k0
    · rw [if_pos z] at e
      exact .inr (congrArg Prod.snd e).symm
    · rw [if_neg z] at e
      exact .inl ⟨k, e ▸ hx⟩
  · rcases List.mem_append.mp h with h | h
    · exact .inl ⟨k, h⟩
    · exact .inr (congrArg Prod.snd (List.mem_singleton.mp h))
theorem Ow.put {kvs : List (Key × V)} {k : Key} {b : Addr} (h : H d = some (.dK kvs)) (fb : Fresh H b) : Ow d H (upd H d (.dK (putK kvs k (.ref b)))) := fun a ⟨kvs', k', e, m⟩ => by
  rw [upd_same] at e
  cases e
  rcases putK_mem m with ⟨k2, h2⟩ | h2
  · exact .inl ⟨kvs, k2, h, h2⟩
  · cases h2
    exact .inr fb
/-- locks.pieces.get(file, []) -/
theorem get_rows {kvs : List (Key × V)} (f : Int) (h2 : H d = some (.dK kvs)) (h3 : Paired (PcV H wl) kvs S.pieces) {q : Addr} (hq : H q = none) :
    DGet (upd H q (.lst [])) d (.int f) (valV kvs (Sum.inl f : Key)) ∧ ∃ a ys, (valV kvs (Sum.inl f : Key)).getD (.ref q) = .ref a ∧ Same H (upd H q (.lst [])) ∧ (upd H q (.lst [])) a = some (.lst ys) ∧ RowsV (upd H q (.lst [])) ys (getP S.pieces f) := by
  refine ⟨DGet.k (k := Sum.inl f) (by rw [upd_ne (ne_of_none h2 hq)]; exact h2), ?_⟩
  have sm : Same H (upd H q (.lst [])) := fun b o e => by rw [upd_ne (ne_of_none e hq)]; exact e
  rcases pc_get f h3 with ⟨e1, e2⟩ | ⟨a, ys, e1, _, ha, R⟩
  · rw [e1]
    exact ⟨q, [], rfl, sm, upd_same, e2 ▸ .nil⟩
  · rw [e1]
    exact ⟨a, ys, rfl, sm, sm _ _ ha, RowsV.tk (fun b xs e => sm b _ e) R⟩
theorem pc_put {w : Addr} {a : Addr} {ys : List V} {rs : List Row} {f : Int} (n : a ≠ w) (ha : H a = some (.lst ys)) (R : RowsV H ys rs) : ∀ {kvs : List (Key × V)} {pcs : List (Int × List Row)}, Paired (PcV H w) kvs pcs →
    Paired (PcV H w) (putK kvs (Sum.inl f : Key) (.ref a)) (putP pcs f rs) := fun {kvs pcs} h => by
  have one : PcV H w (Sum.inl f, .ref a) (f, rs) := ⟨rfl, a, ys, rfl, n, ha, R⟩
  have any : (kvs.any fun kv => decide (kv.1 = (Sum.inl f : Key))) = (pcs.any fun q => decide (q.1 = f)) := by
    induction h with
    | nil => rfl
    | cons r t ih =>
      rw [List.any_cons, List.any_cons, ih]
      obtain ⟨e, _⟩ := r
      rw [e]
      congr 1
      exact decide_eq_decide.mpr ⟨fun z => Sum.inl.inj z, fun z => by rw [z]⟩
  have maps : Paired (PcV H w) (kvs.map fun kv => if kv.1 = (Sum.inl f : Key) then (kv.1, V.ref a) else kv) (pcs.map fun q => if q.1 = f then (q.1, rs) else q) := by
    clear any
    induction h with
    | nil => exact .nil
    | @cons x y xs ys' r t ih =>
      refine .cons ?_ ih
      obtain ⟨e, r'⟩ := r
      by_cases z : y.1 = f
      · have z2 : x.1 = (Sum.inl f : Key) := by rw [e, z]
        show PcV H w (if x.1 = (Sum.inl f : Key) then (x.1, V.ref a) else x) (if y.1 = f then (y.1, rs) else y)
        rw [if_pos z, if_pos z2]
        exact ⟨e, a, ys, rfl, n, ha, R⟩
      · have z2 : ¬ x.1 = (Sum.inl f : Key) := fun q => z (Sum.inl.inj (e.symm.trans q))
        show PcV H w (if x.1 = (Sum.inl f : Key) then (x.1, V.ref a) else x) (if y.1 = f then (y.1, rs) else y)
        rw [if_neg z, if_neg z2]
        exact ⟨e, r'⟩
  unfold putK putP
  rw [any]
  split
  · exact maps
  · exact Paired.app h (.cons one .nil)
end
section
variable {P : Program} {w : World} {K : PySem.W.Frag} {mg : Str → Option Value} {base : Heap}
/-! ### held -/
def spheld (K : PySem.W.Frag) : Sp := fun vs H Q _ => ∃ (p d wl : Addr) (S : LS) (f : Int), vs = [.ref p, .int f] ∧ LkAt K H p d wl S ∧ Nm S ∧ Tb K H ∧
  ∀ H' q zs, Fm K [] H H' → Fresh H q → H' q = some (.lst zs) → RowsV H' zs (asLong (getP S.pieces f)) → Q (.ref q) H'
theorem scheld : FnScope ["locks", "file"] ["locks", "file"] (defScope sheld) := ⟨rfl, rfl, rfl, by decide +kernel, rfl, by decide +kernel, by decide +kernel⟩
theorem ok_held (T : Txt K mg) (TB : LamX.TabB base mg (He.cT K pLong).1 (He.cT K pLong).2) : Ok P w K mg base 4 "held" ["locks", "file"] (spheld K) := by
  have Gas_long : Ok P w K mg base 3 "as_long" _ _ := ok_as_long T TB
  refine T.dheld.ok scheld (fun _ _ _ _ _ _ us hl => match us, hl with | [_, _], _ => rfl) (fun vs H Q E h => ?_) (fun f cdv A outer s H vs Q E hr h => ?_)
  · obtain ⟨p, d, wl, S, f, rfl, _⟩ := h
    rfl
  · obtain ⟨p, d, wl, S, f, rfl, L, N, tb, k⟩ := h
    have hu := hu_of hr
    refine ⟨_, (pss_one (ps_ret (pe_do Gas_long (hr.mono (by decide)) (pa_cons (pe_dget2 hu (pe_fld (pv 0) rfl) (pv 1) (pe_lst pa_nil) ⟨rfl, rfl, rfl, rfl⟩) pa_nil)))), ?_⟩
    obtain ⟨⟨dx, h1⟩, ⟨kvs, h2, h3⟩, ws, h4, h5⟩ := id L
    refine ⟨_, rfl, p, _, dx, _, _, rfl, h1, T.cl, T.nP, flds_p _ _, d, rfl, .inl ⟨kvs, .inl h2⟩, _, rfl, (by show 0 ≤ sizeLine; decide), fun q0 hq0 => ⟨_, (get_rows f h2 h3 hq0).1, ?_⟩⟩
    obtain ⟨_, a, ys, ea, sm, ha, R⟩ := get_rows f h2 h3 hq0
    rw [ea]
    generalize upd H q0 (.lst []) = H1 at sm ha R
    refine ⟨a, ys, _, rfl, ha, R, Nat.le_trans (N.rows f) (by decide), tb.ext sm, fun H2 q zs F fq hq RZ => ?_⟩
    exact k H2 q zs ((Fm.same sm).trans F) ((Fm.same (K := K) (ms := []) sm).fresh (by simp) fq) hq RZ
/-! ### wishes -/
def spwishes (K : PySem.W.Frag) : Sp := fun vs H Q _ => ∃ (p d wl : Addr) (S : LS), vs = [.ref p] ∧ LkAt K H p d wl S ∧ ∀ q ws, H q = none → WishesV H ws S.wished → Q (.ref q) (upd H q (.lst ws))
theorem scwishes : FnScope ["locks"] ["locks"] (defScope swishes) := ⟨rfl, rfl, rfl, by decide +kernel, rfl, by decide +kernel, by decide +kernel⟩
theorem ok_wishes (T : Txt K mg) : Ok P w K mg base 1 "wishes" ["locks"] (spwishes K) := by
  refine T.dwishes.ok scwishes (fun _ _ _ _ _ _ us hl => match us, hl with | [_], _ => rfl) (fun vs H Q E h => ?_) (fun f cdv A outer s H vs Q E hr h => ?_)
  · obtain ⟨p, d, wl, S, rfl, _⟩ := h
    rfl
  · obtain ⟨p, d, wl, S, rfl, L, k⟩ := h
    obtain ⟨⟨dx, h1⟩, _, ws, h4, h5⟩ := L
    refine ⟨_, (pss_one (ps_ret (pe_callTy call_list_of (by rfl) T.list (by decide +kernel) (pa_cons (pe_fld (pv 0) rfl) pa_nil)))), ?_⟩
    exact ⟨_, rfl, p, _, dx, _, _, rfl, h1, T.cl, T.nW, flds_w _ _, wl, ws, rfl, .inl (SqL.of h4), fun q hq => k q ws hq h5⟩
/-! ### waited_for -/
def spwaited_for (K : PySem.W.Frag) : Sp := fun vs H Q _ => ∃ (p d wl : Addr) (S : LS) (hd : Int), vs = [.ref p, .int hd] ∧ LkAt K H p d wl S ∧ Nm S ∧
  ∀ H' q, Fm K [] H H' → Fresh H q → H' q = some (.lst ((S.waits hd).map V.int)) → Q (.ref q) H'
theorem scwaited_for : FnScope ["locks", "hand", "wish"] ["locks", "hand"] (defScope swaited_for) := ⟨rfl, rfl, rfl, by decide +kernel, rfl, by decide +kernel, by decide +kernel⟩
theorem ok_waited_for (T : Txt K mg) : Ok P w K mg base 3 "waited_for" ["locks", "hand"] (spwaited_for K) := by
  have Gholders : Ok P w K mg base 2 "holders" _ _ := ok_holders T
  have Gwish_of : Ok P w K mg base 1 "wish_of" _ _ := ok_wish_of T
  refine T.dwaited_for.ok scwaited_for (fun _ _ _ _ _ _ us hl => match us, hl with | [_, _], _ => rfl) (fun vs H Q E h => ?_) (fun f cdv A outer s H vs Q E hr h => ?_)
  · obtain ⟨p, d, wl, S, hd, rfl, _⟩ := h
    rfl
  · obtain ⟨p, d, wl, S, hd, rfl, L, N, k⟩ := h
    refine ⟨_, (pss_cons (ps_set (i := 2) scwaited_for.nd rfl (Or.inl rfl) (pe_do Gwish_of (hr.mono (by decide)) (pa_cons (pv 0) (pa_cons (pv 1) pa_nil))))
      (pss_cons (ps_if (pt_cmpR op_isN (pv 2) pe_non (nomark _))
        (pss_one (ps_ret (pe_lst pa_nil)))
        pss_nil)
      (pss_one (ps_ret (pe_do Gholders (hr.mono (by decide)) (pa_cons (pv 0) (pa_cons (pv 2) pa_nil))))))), ?_⟩
    refine ⟨_, rfl, _, rfl, p, d, wl, S, hd, rfl, L, fun hn => ?_, fun v x hx hv => ?_⟩
    · refine ⟨_, rfl, rfl, _, rfl, iteT ?_⟩
      refine ⟨(by show 0 ≤ sizeLine; decide), fun q hq => k _ q (Fm.new hq) (Fresh.of hq) ?_⟩
      have : S.waits hd = [] := by
        unfold LS.waits
        unfold findW at hn
        rw [hn]
      rw [this]
      exact upd_same
    · obtain ⟨t, rfl, ht⟩ := hv
      refine ⟨_, rfl, rfl, _, rfl, iteF ?_⟩
      refine ⟨_, rfl, _, rfl, p, d, wl, S, _, x, rfl, L, ⟨t, rfl, ht⟩, Nat.le_trans (N.rows _) (by decide), N.hold x, fun H' q F fq hq => k H' q F fq ?_⟩
      have : S.waits hd = S.hold x := by
        unfold LS.waits
        unfold findW at hx
        rw [hx]
      rw [this]
      exact hq
/-! ### put_held -/
def spput_held (K : PySem.W.Frag) : Sp := fun vs H Q _ => ∃ (p d wl : Addr) (S : LS) (v : V) (x : Wish), vs = [.ref p, v] ∧ LkAt K H p d wl S ∧ WishV H v x ∧ Nm S ∧ Tb K H ∧
  ∀ H', Fm K [d] H H' → LkAt K H' p d wl (S.put x) → Ow d H H' → Q .non H'
theorem scput_held : FnScope ["locks", "wish", "hand", "file", "sort", "low", "high", "rows"] ["locks", "wish"] (defScope sput_held) := ⟨rfl, rfl, rfl, by decide +kernel, rfl, by decide +kernel, by decide +kernel⟩
theorem ok_put_held (T : Txt K mg) (TB : LamX.TabB base mg (He.cT K pLong).1 (He.cT K pLong).2) : Ok P w K mg base 4 "put_held" ["locks", "wish"] (spput_held K) := by
  have Gas_long : Ok P w K mg base 3 "as_long" _ _ := ok_as_long T TB
  have Gcut_out : Ok P w K mg base 1 "cut_out" _ _ := ok_cut_out T
  refine T.dput_held.ok scput_held (fun _ _ _ _ _ _ us hl => match us, hl with | [_, _], _ => rfl) (fun vs H Q E h => ?_) (fun f cdv A outer s H vs Q E hr h => ?_)
  · obtain ⟨p, d, wl, S, v, x, rfl, _⟩ := h
    rfl
  · obtain ⟨p, d, wl, S, v, x, rfl, L, ⟨t, rfl, ht⟩, N, tb, k⟩ := h
    have hu := hu_of hr
    refine ⟨_, (pss_cons (ps_asg (pv 1) (pg_tup rfl (pgs_cons (pg_name (i := 2) scput_held.nd rfl (Or.inl rfl)) (pgs_cons (pg_name (i := 3) scput_held.nd rfl (Or.inl rfl)) (pgs_cons (pg_name (i := 4) scput_held.nd rfl (Or.inl rfl)) (pgs_cons (pg_name (i := 5) scput_held.nd rfl (Or.inl rfl)) (pgs_cons (pg_name (i := 6) scput_held.nd rfl (Or.inl rfl)) pgs_nil)))))))
      (pss_cons (ps_set (i := 7) scput_held.nd rfl (Or.inl rfl) (pe_do Gcut_out (hr.mono (by decide)) (pa_cons (pe_dget2 hu (pe_fld (pv 0) rfl) (pv 3) (pe_lst pa_nil) ⟨rfl, rfl, rfl, rfl⟩) (pa_cons (pv 2) (pa_cons (pv 5) (pa_cons (pv 6) pa_nil))))))
      (pss_one (ps_dput hu (pe_fld (pv 0) rfl) (pv 3) (pe_do Gas_long (hr.mono (by decide)) (pa_cons (pe_op op_cat (pv 7) (pe_lst (pa_cons (pe_tup (pa_cons (pv 5) (pa_cons (pv 6) (pa_cons (pv 4) (pa_cons (pv 2) pa_nil))))) pa_nil))) pa_nil)) rfl)))), ?_⟩
    refine ⟨_, rfl, t, _, rfl, SqT.of ht, rfl, _, _, rfl, _, _, rfl, _, _, rfl, _, _, rfl, _, _, rfl, rfl, ?_⟩
    obtain ⟨⟨dx, h1⟩, ⟨kvs, h2, h3⟩, ws, h4, h5⟩ := id L
    refine ⟨_, rfl, p, _, dx, _, _, rfl, h1, T.cl, T.nP, flds_p _ _, d, rfl, .inl ⟨kvs, .inl h2⟩, _, rfl, (by show 0 ≤ sizeLine; decide), fun q0 hq0 => ⟨_, (get_rows x.fl h2 h3 hq0).1, ?_⟩⟩
    obtain ⟨_, a, ys, ea, sm, ha, R⟩ := get_rows x.fl h2 h3 hq0
    rw [ea]
    generalize upd H q0 (.lst []) = H1 at sm ha R
    refine ⟨_, rfl, _, rfl, _, rfl, a, ys, _, _, _, _, rfl, ha, R, N.rows _, fun H2 q zs F fq hq RZ => ?_⟩
    have F2 : Fm K [] H H2 := (Fm.same sm).trans F
    have hzl : zs.length ≤ 2000 := by
      have h1 := paired_len RZ
      have h2 := cutOut_len x.hd x.lo x.hi (getP S.pieces x.fl)
      have h3 := N.rows x.fl
      omega
    -- rows + [(low, high, sort, hand)]
    refine ⟨_, rfl, _, rfl, _, rfl, _, rfl, _, rfl, (by show 4 ≤ sizeLine; decide), fun t2 ht2 => ⟨(by show 1 ≤ sizeLine; decide), fun l2 hl2 => ?_⟩⟩
    refine ⟨q, l2, zs, [.ref t2], rfl, rfl, (by rw [upd_ne (ne_of_none (by rw [upd_ne (ne_of_none hq ht2)]; exact hq) hl2), upd_ne (ne_of_none hq ht2)]; exact hq), upd_same, small_line (by show zs.length + 1 ≤ 100000; omega), fun l3 hl3 => ?_⟩
    have g1 : Fm K [] H2 (upd (upd (upd H2 t2 (.tup x.row.vs)) l2 (.lst [.ref t2])) l3 (.lst (zs ++ [.ref t2]))) := ((Fm.new ht2).trans (Fm.new hl2)).trans (Fm.new hl3)
    have ht3 : (upd (upd (upd H2 t2 (.tup x.row.vs)) l2 (.lst [.ref t2])) l3 (.lst (zs ++ [.ref t2]))) t2 = some (.tup x.row.vs) := by
      have e1 : (upd H2 t2 (.tup x.row.vs)) t2 = some (.tup x.row.vs) := upd_same
      have e2 : (upd (upd H2 t2 (.tup x.row.vs)) l2 (.lst [.ref t2])) t2 = some (.tup x.row.vs) := by rw [upd_ne (ne_of_none e1 hl2)]; exact e1
      rw [upd_ne (ne_of_none e2 hl3)]
      exact e2
    refine ⟨l3, _, cutOut (getP S.pieces x.fl) x.hd x.lo x.hi ++ [x.row], rfl, upd_same, Paired.app (RowsV.tk g1.tup RZ) (.cons ⟨t2, rfl, ht3⟩ .nil), ?_, g1.tb (F2.tb tb), fun H4 b us F4 fb hb RU => ?_⟩
    · have h1 := paired_len RZ
      rw [List.length_append]
      show (cutOut (getP S.pieces x.fl) x.hd x.lo x.hi).length + 1 ≤ 10000
      omega
    have F5 : Fm K [] H H4 := (F2.trans g1).trans F4
    have L4 := L.fm F5
    obtain ⟨_, ⟨kvs', h2', h3'⟩, ws', h4', h5'⟩ := id L4
    have hkl : kvs'.length < sizeLine := small_lt (by
      have := paired_len h3'
      have := N.pl
      omega)
    have nbw : b ≠ wl := fun e => (F2.fresh (by simp) (g1.fresh (by simp) fb)) _ (e ▸ h4) noT_lst
    refine ⟨_, rfl, p, _, dx, _, _, rfl, F5.at (by simp) h1 noT_ins, T.cl, T.nP, flds_p _ _, _, rfl, d, _, rfl, DPut.k (k := Sum.inl x.fl) h2' hkl, ?_⟩
    have fbH : Fresh H b := F2.fresh (by simp) (g1.fresh (by simp) fb)
    have ow : Ow d H (upd H4 d (.dK (putK kvs' (Sum.inl x.fl) (.ref b)))) := fun a ⟨ks, k2, e, m⟩ => by
      rw [upd_same] at e
      cases e
      rcases putK_mem m with ⟨k3, h3⟩ | h3
      · have e4 := F5.at (by simp) h2 noT_dK
        rw [h2'] at e4
        cases e4
        exact .inl ⟨_, k3, h2, h3⟩
      · cases h3
        exact .inr fbH
    refine k _ (F5.nil.trans (Fm.put h2' rfl (by simp))) ?_ ow
    have nd := L.ne
    have tk := Tk.put (o := .dK (putK kvs' (Sum.inl x.fl) (.ref b))) h2' (fun _ z => by cases z)
    refine ⟨⟨dx, by rw [upd_ne nd.1]; exact F5.at (by simp) h1 noT_ins⟩, ⟨_, upd_same, ?_⟩, ws', by rw [upd_ne (Ne.symm nd.2.2)]; exact h4', WishesV.tk tk h5'⟩
    have pp := pc_put (f := x.fl) nbw hb RU h3'
    exact Paired.mapP pp fun _ _ z => z.keep (fun a ys _ e => by rw [upd_ne (ne_of e h2' (by intro z; cases z))]; exact e) tk fun _ _ n _ => n
end
end FS
/-! F7 -/
namespace FS
open PySem PySem.Spec PyProof.Rows L2
theorem Paired.eraseIdx {α β : Type} {F : α → β → Prop} : ∀ {as : List α} {bs : List β} (j : Nat), Paired F as bs → Paired F (as.eraseIdx j) (bs.eraseIdx j)
  | _, _, _, .nil => .nil
  | _, _, 0, .cons r t => t
  | _, _, j + 1, .cons r t => .cons r (Paired.eraseIdx j t)
/-- wishes.remove(wish) -/
def rRemoveW : V → List V → Hp → VK → Prop := fun x xs H Q => ∃ (a : Addr) (y : V) (ys : List V) (w : Wish) (ws : List Wish), x = .ref a ∧ xs = [y] ∧ H a = some (.lst ys) ∧ WishesV H ys ws ∧ WishV H y w ∧ w ∈ ws ∧
  ∀ zs, WishesV H zs (ws.erase w) → Q .non (upd H a (.lst zs))
theorem mt_removeW {X : Cx} (hu : X.A.units + 64 < cLine) : MtR X "list.remove" rRemoveW := by
  intro pins s σ H x xs v us Q I rx rxs h
  obtain ⟨a, y, ys, w, ws, rfl, rfl, hl, hW, hw, hm, q⟩ := h
  cases rx
  cases rxs with
  | cons ry rt =>
    rename_i uy ut
    cases rt
    obtain ⟨bs, r1⟩ := Dp.reads I (wishD w) y uy (hw.dp (K := X.K)) ry
    have sl := shaped_wishes ws
    have sd := shaped_wish w
    have hxs : PyData.canLayAll0 (ws.map wishD) = true := SeqAt.canLay_of_shaped sl
    have hroom : X.A.units + 1 + min (PyData.depthAll (ws.map wishD)) (wishD w).depth < cLine := by
      have := (lay_wish w).2
      have := Nat.min_le_right (PyData.depthAll (ws.map wishD)) (wishD w).depth
      omega
    obtain ⟨z, its, n, rv, hlen, e⟩ := I.lstM hl
    obtain ⟨as, h4⟩ := Dp.readsAll I (ws.map wishD) _ its (hW.dp (K := X.K)) rv
    have hn : its.length = (ws.map wishD).length := SeqAt.ReadsAll.length _ its as h4
    have hmap : its.map (SeqAt.readOf s.heap) = ws.map wishD := SeqAt.readsAll_map _ its as hxs h4
    obtain ⟨j, j1, j2, j3, j4⟩ := first_in hm
    rw [List.length_map] at hn
    have hj : j < its.toArray.size := by rw [List.size_toArray]; omega
    have at_ : ∀ (m : Nat) (hm : m < its.toArray.size) (w' : Wish), ws[m]? = some w' → SeqAt.readOf s.heap its.toArray[m] = wishD w' := by
      intro m hm w' hz'
      have hml : m < its.length := by simpa using hm
      have e0 : (its.map (SeqAt.readOf s.heap))[m]? = (ws.map wishD)[m]? := by rw [hmap]
      rw [List.getElem?_map, List.getElem?_map, hz', List.getElem?_eq_getElem hml] at e0
      have e1 : SeqAt.readOf s.heap its[m] = wishD w' := Option.some.inj e0
      simpa using e1
    refine call_meets PySem.F.slot_list_remove ⟨_, e, rfl⟩ PySem.F.entry_list_remove (PySem.F.args_list_remove_2 _ _)
      (SeqAt.list_removeAt a its.toArray n none #[] uy (fun u => PyData.eqv (SeqAt.readOf s.heap u) (wishD w)) j hj ?_ ?_ (by rw [List.size_toArray, ← hlen]; exact z)) ⟨e, SeqAt.items_eqAt (vs := its.toArray) (show ReadsAll s.heap its.toArray.toList (ws.map wishD) as from h4) r1 hxs (SeqAt.canLay_of_shaped sd) hroom, ?_⟩
    · show PyData.eqv (SeqAt.readOf s.heap its.toArray[j]) (wishD w) = true
      rw [at_ j hj w j2, eqv_wish]
      exact decide_eq_true rfl
    · intro m hm hmj
      have hmd : m < ws.length := by omega
      have hz' : ws[m]? = some ws[m] := List.getElem?_eq_getElem hmd
      show PyData.eqv (SeqAt.readOf s.heap its.toArray[m]) (wishD w) = false
      rw [at_ m hm _ hz', eqv_wish]
      exact decide_eq_false fun e => j3 m hmj (by rw [hz', e])
    · have r2 : Vals (ys.eraseIdx j) (its.eraseIdx j) := rv.eraseIdx j
      refine ⟨.non, _, I.lset (its' := its.eraseIdx j) hl e ?_ r2 ?_, rfl, q _ ?_⟩
      · show its.toArray.eraseIdxIfInBounds j = (its.eraseIdx j).toArray
        rw [List.eraseIdxIfInBounds_toArray]
      · have := List.length_eraseIdx_le ys j
        omega
      · rw [← j4]
        exact Paired.eraseIdx j hW
section
variable {P : Program} {w : World} {K : PySem.W.Frag} {mg : Str → Option Value} {base : Heap} {hs ns ps : List Int}
theorem op_emp {ns : List Int} : PyData.eqv (.list (ns.map PyData.int)) (.list []) = decide (ns = []) := by
  have h := eqv_maps eqv_int ns []
  exact h
theorem LkAt.own_some {H : Hp} {p d wl a : Addr} {S : LS} (L : LkAt K H p d wl S) (o : Own H d a) : ∃ ys, H a = some (.lst ys) := by
  obtain ⟨_, ⟨kvs, g2, g3⟩, _⟩ := L
  obtain ⟨kvs', k, e, m⟩ := o
  rw [g2] at e
  cases e
  obtain ⟨i, hi, e⟩ := List.mem_iff_getElem.mp m
  obtain ⟨y, _, _, b, ys, e2, _, ha, _⟩ := Paired.at g3 (List.getElem?_eq_some_iff.mpr ⟨hi, e⟩)
  cases e2
  exact ⟨ys, ha⟩
theorem nf {H : Hp} {b : Addr} {o : HO} (h : H b = some o) (n : NoTbl o) : ¬ Fresh H b := fun f => f o h n
theorem _root_.FS.Fm.fresh2 {ms : List Addr} {H H' : Hp} {z : Addr} (F : Fm K ms H H') (hm : ∀ b ∈ ms, ¬ Fresh H' b) (f : Fresh H' z) : Fresh H z := F.fresh (fun m => hm z m f) f
theorem LkAt.nf {H : Hp} {p d wl : Addr} {S : LS} (L : LkAt K H p d wl S) : ∀ b ∈ [p, d, wl], ¬ Fresh H b := fun b hb => by
  obtain ⟨u, h, e⟩ := L.ms b hb
  exact FS.nf h (wr_noT e)
/-- the list of wishes is written -/
theorem LkAt.wset {H : Hp} {p d wl : Addr} {S : LS} {zs : List V} {W : List Wish} (L : LkAt K H p d wl S) (hz : WishesV H zs W) : LkAt K (upd H wl (.lst zs)) p d wl ⟨S.pieces, W⟩ ∧ Fm K [wl] H (upd H wl (.lst zs)) ∧ Tk H (upd H wl (.lst zs)) := by
  have Ln := L.ne
  obtain ⟨⟨dx, g1⟩, ⟨kvs, g2, g3⟩, ws, g4, g5⟩ := L
  have tk : Tk H (upd H wl (.lst zs)) := tk_lst g4
  refine ⟨⟨⟨dx, by rw [upd_ne Ln.2.1]; exact g1⟩, ⟨kvs, by rw [upd_ne Ln.2.2]; exact g2, Paired.mapP g3 fun _ _ z => z.keep (fun a ys n e => by rw [upd_ne n]; exact e) tk fun _ _ n _ => n⟩, zs, upd_same, WishesV.tk tk hz⟩, Fm.put g4 rfl (by simp), tk⟩
/-! ### let_in -/
def splet_in (K : PySem.W.Frag) (hs ns ps : List Int) : Sp := fun vs H Q _ => ∃ (p d wl : Addr) (S : LS), vs = [.ref p] ∧ LkAt K H p d wl S ∧ WF hs ns ps S ∧ Tb K H ∧
  ∀ H' q S' told, Fm K [d, wl] H H' → LkAt K H' p d wl S' → LetIn S S' told → Blocked S' → Ow d H H' → Fresh H q → q ≠ d → q ≠ wl → ¬ Own H' d q → H' q = some (.lst (told.map V.int)) → Q (.ref q) H'
theorem LetIn.wf {S S' : LS} {told : List Int} (W : WF hs ns ps S) (L : LetIn S S' told) : WF hs ns ps S' := (L.ok W).wf
theorem sclet_in : FnScope ["locks", "told", "at", "wish"] ["locks"] (defScope slet_in) := ⟨rfl, rfl, rfl, by decide +kernel, rfl, by decide +kernel, by decide +kernel⟩
theorem ok_let_in (T : Txt K mg) (TB : LamX.TabB base mg (He.cT K pLong).1 (He.cT K pLong).2) (l1 : hs.length ≤ 10) (l2 : ns.length ≤ 8) (l3 : ps.length ≤ 13) : Ok P w K mg base 5 "let_in" ["locks"] (splet_in K hs ns ps) := by
  have Gholders : Ok P w K mg base 2 "holders" _ _ := ok_holders T
  have Gput_held : Ok P w K mg base 4 "put_held" _ _ := ok_put_held T TB
  refine T.dlet_in.ok sclet_in (fun _ _ _ _ _ _ us hl => match us, hl with | [_], _ => rfl) (fun vs H Q E h => ?_) (fun f cdv A outer s H vs Q E hr h => ?_)
  · obtain ⟨p, d, wl, S, rfl, _⟩ := h
    rfl
  · obtain ⟨p, d, wl, S, rfl, L, W, tb, k⟩ := h
    refine ⟨_, (pss_cons (ps_set (i := 1) sclet_in.nd rfl (Or.inl rfl) (pe_lst pa_nil))
      (pss_cons (ps_set (i := 2) sclet_in.nd rfl (Or.inl rfl) pe_int)
      (pss_cons (ps_while PassesOwn.never (pt_cmpR op_lt (pv 2) (pe_callB call_len_seq (by rfl) T.len PySem.boot_len (pa_cons (pe_fld (pv 0) rfl) pa_nil)) (nomark _))
        (pss_cons (ps_set (i := 3) sclet_in.nd rfl (Or.inl rfl) (pe_ix ix_list (pe_fld (pv 0) rfl) (pv 2) (fun _ _ => rfl)))
        (pss_cons (ps_aug (i := 2) sclet_in.nd rfl (Or.inl rfl) pe_int ip_add)
        (pss_one (ps_if (pt_cmpR (op_eqD hr.units) (pe_do Gholders (hr.mono (by decide)) (pa_cons (pv 0) (pa_cons (pv 3) pa_nil))) (pe_lst pa_nil) (nomark _))
          (pss_cons (ps_expr (pe_bm PySem.F.plainAttrs_list PySem.F.slot_list_remove PySem.F.type_list_remove (mt_removeW hr.units) (pe_fld (pv 0) rfl) (pa_cons (pv 3) pa_nil)))
          (pss_cons (ps_expr (pe_do Gput_held (hr.mono (by decide)) (pa_cons (pv 0) (pa_cons (pv 3) pa_nil))))
          (pss_cons (ps_expr (pe_bm PySem.F.plainAttrs_list PySem.F.slot_list_append PySem.F.type_list_append mt_append (pv 1) (pa_cons (pe_ix ix_tup (pv 3) pe_int (fun _ _ => rfl)) pa_nil)))
          (pss_one (ps_set (i := 2) sclet_in.nd rfl (Or.inl rfl) pe_int)))))
          pss_nil)))))
      (pss_one (ps_ret (pv 1)))))), ?_⟩
    refine ⟨by show 0 ≤ sizeLine; decide, fun q hq => ?_⟩
    have fq : Fresh H q := Fresh.of hq
    have Ln := L.ne
    obtain ⟨⟨dx0, h10⟩, ⟨kvs0, h20, h30⟩, ws0, h40, h50⟩ := id L
    have nqp : q ≠ p := (ne_of_none h10 hq).symm
    have nqd : q ≠ d := (ne_of_none h20 hq).symm
    have nqw : q ≠ wl := (ne_of_none h40 hq).symm
    have F0 : Fm K [d, wl] H (upd H q (.lst [])) := Fm.new hq
    have L0 : LkAt K (upd H q (.lst [])) p d wl S := L.fm (Fm.new hq)
    have hq0 : (upd H q (.lst [])) q = some (.lst []) := upd_same
    have O0 : Ow d H (upd H q (.lst [])) := Ow.fm (K := K) (ms := []) (Fm.new hq) L.hd (by simp)
    have nO : ¬ Own (upd H q (.lst [])) d q := fun ⟨ks, k2, e, m⟩ => by
      rw [upd_ne nqd.symm] at e
      obtain ⟨ys, ha⟩ := L.own_some ⟨ks, k2, e, m⟩
      rw [hq] at ha
      cases ha
    generalize upd H q (.lst []) = H0 at F0 L0 hq0 O0 nO
    refine ⟨fun m σ H1 => ∃ (S1 : LS) (told : List Int) (at' : Nat) (v : Option V), m = S1.wished.length * (S1.wished.length + 1) + (S1.wished.length - at') ∧ σ = [some (.ref p), some (.ref q), some (.int at'), v] ∧ Fm K [d, wl, q] H0 H1 ∧ LkAt K H1 p d wl S1 ∧ LetIn S S1 told ∧ H1 q = some (.lst (told.map V.int)) ∧ Ow d H0 H1 ∧ ∀ x ∈ S1.wished.take at', S1.hold x ≠ [],
      ⟨_, S, [], 0, none, rfl, rfl, Fm.refl, L0, .nil, hq0, Ow.refl, by simp⟩, ?_⟩
    rintro m σ H1 ⟨S1, told, at', v, rfl, rfl, F1, L1, LI, hq1, O1, B⟩
    have W1 := LI.wf W
    have N1 := Nm.of W1 l1 l2 l3
    obtain ⟨⟨dx, h1⟩, ⟨kvs, h2, h3⟩, ws, h4, h5⟩ := id L1
    have el : ws.length = S1.wished.length := paired_len h5
    have Ft : Fm K [q, d, wl] H H1 := (F0.mono (by simp)).trans (F1.mono (by simp))
    refine ⟨_, rfl, _, rfl, p, _, dx, _, _, rfl, h1, T.cl, T.nW, flds_w _ _, wl, ws, rfl, .inl (SqL.of h4), _, _, rfl, rfl, _, rfl, ?_⟩
    rw [el]
    refine ite2 (fun hlt => ?_) (fun hge => ?_)
    · have hlt : at' < S1.wished.length := by simpa using hlt
      refine ⟨fun σ' H' => ∃ m', m' < S1.wished.length * (S1.wished.length + 1) + (S1.wished.length - at') ∧ ∃ (S1 : LS) (told : List Int) (at' : Nat) (v : Option V), m' = S1.wished.length * (S1.wished.length + 1) + (S1.wished.length - at') ∧ σ' = [some (.ref p), some (.ref q), some (.int at'), v] ∧ Fm K [d, wl, q] H0 H' ∧ LkAt K H' p d wl S1 ∧ LetIn S S1 told ∧ H' q = some (.lst (told.map V.int)) ∧ Ow d H0 H' ∧ ∀ x ∈ S1.wished.take at', S1.hold x ≠ [], fun _ _ h => h, ?_⟩
      have hx : S1.wished[at']? = some S1.wished[at'] := List.getElem?_eq_getElem hlt
      generalize S1.wished[at'] = x at hx
      obtain ⟨y, hy, t, rfl, ht⟩ := Paired.at' h5 hx
      have hmem : x ∈ S1.wished := List.mem_of_getElem? hx
      refine ⟨_, rfl, p, _, dx, _, _, rfl, h1, T.cl, T.nW, flds_w _ _, _, rfl, wl, _, _, _, rfl, rfl, SqL.of h4, atI_nat hy, ?_⟩
      refine ⟨_, rfl, _, _, rfl, rfl, ?_⟩
      refine ⟨_, rfl, _, rfl, p, d, wl, S1, _, x, rfl, L1, ⟨t, rfl, ht⟩, Nat.le_trans (N1.rows _) (by decide), N1.hold x, fun H2 r F2 fr hr2 => ⟨(by show 0 ≤ sizeLine; decide), fun e he => ?_⟩⟩
      have Fe : Fm K [] H1 (upd H2 e (.lst [])) := F2.trans (Fm.new he)
      refine ⟨_, _, .lst (SqL.of (by rw [upd_ne (ne_of_none hr2 he)]; exact hr2)) (ints_dp _), .lst (SqL.of upd_same) .nil, shaped_ints _, shaped_ints [], _, rfl, ?_⟩
      rw [op_emp]
      generalize upd H2 e (.lst []) = H3 at Fe
      have L3 := L1.fm Fe
      have hq3 : H3 q = some (.lst (told.map V.int)) := Fe.at (by simp) hq1 noT_lst
      have ht3 : H3 t = some (.tup x.vs) := Fe.at (by simp) ht noT_tup
      refine ite2 (fun e0 => ?_) (fun e0 => ?_)
      · have e0 : S1.hold x = [] := of_decide_eq_true e0
        obtain ⟨⟨dx', g1⟩, ⟨kvs', g2, g3⟩, ws', g4, g5⟩ := id L3
        refine ⟨_, rfl, p, _, dx', _, _, rfl, g1, T.cl, T.nW, flds_w _ _, .inl ⟨rfl, _, SqL.of g4⟩, _, rfl, wl, _, ws', x, S1.wished, rfl, rfl, g4, g5, ⟨t, rfl, ht3⟩, hmem, fun zs hz => ?_⟩
        obtain ⟨L4, F4, tk4⟩ := L3.wset hz
        have L4 : LkAt K (upd H3 wl (.lst zs)) p d wl (S1.drop x) := L4
        have hq4 : (upd H3 wl (.lst zs)) q = some (.lst (told.map V.int)) := F4.at (by simpa using nqw) hq3 noT_lst
        have ht4 := tk4 _ _ ht3
        generalize upd H3 wl (.lst zs) = H4 at L4 F4 hq4 ht4
        have N4 : Nm (S1.drop x) := Nm.of W1.drop l1 l2 l3
        have F14' : Fm K [d, wl, q] H1 H4 := Fe.nil.trans (F4.mono (by simp))
        have F14 : Fm K [q, d, wl] H1 H4 := Fe.nil.trans (F4.mono (by simp))
        refine ⟨_, rfl, _, rfl, p, d, wl, _, _, x, rfl, L4, ⟨t, rfl, ht4⟩, N4, (Ft.trans F14).tb tb, fun H5 F5 L5 O5 => ?_⟩
        have hq5 := F5.at (by simpa using nqd) hq4 noT_lst
        have ht5 : H5 t = some (.tup x.vs) := F5.tk (fun b hb => L4.ms b (by simp at hb; simp [hb])) _ _ ht4
        have tl : told.length < sizeLine := small_lt (by
          have a1 := LI.len
          have a2 := (Nm.of W l1 l2 l3).wl
          omega)
        refine ⟨_, rfl, .inl ⟨rfl, _, SqL.of hq5⟩, _, rfl, t, _, _, _, rfl, rfl, SqT.of ht5, wish0, q, _, _, rfl, rfl, hq5, (by rw [List.length_map]; exact tl), ?_⟩
        have O15 : Ow d H0 H5 := by
          refine O1.trans (Ow.trans (H1 := H3) (Ow.fm Fe L1.hd (by simp)) (Ow.trans (H1 := H4) (Ow.fm F4 L3.hd (by simp; exact Ln.2.2)) O5 fun z hz => ?_) fun z hz => ?_) fun z hz => ?_
          · exact F4.fresh2 (fun b hb => L4.nf b (by simp at hb; simp [hb])) hz
          · exact Fe.fresh (by simp) hz
          · exact F1.fresh2 (fun b hb => by
              simp at hb
              rcases hb with rfl | rfl | rfl
              · exact L1.nf _ (by simp)
              · exact L1.nf _ (by simp)
              · exact nf hq1 noT_lst) hz
        have F6 : Fm K [q] H5 (upd H5 q (.lst (told.map V.int ++ [.int x.hd]))) := Fm.put hq5 rfl (by simp)
        have L6 : LkAt K (upd H5 q (.lst (told.map V.int ++ [.int x.hd]))) p d wl (S1.grant x) := by
          refine LkAt.off2 L5 F6 fun b hb => ?_
          rw [List.mem_singleton] at hb
          rw [hb]
          refine ⟨⟨_, hq5, rfl⟩, nqp, nqd, nqw, fun z => ?_⟩
          exact (O15 _ z).elim nO fun f => f _ hq0 noT_lst
        have el2 : (S1.grant x).wished.length = S1.wished.length - 1 := List.length_erase_of_mem hmem
        refine ⟨_, ?_, S1.grant x, told ++ [x.hd], 0, _, rfl, rfl, F1.trans ((F14'.trans (F5.mono (by simp))).trans (F6.mono (by simp))), L6, .snoc LI hmem e0, ?_, O15.trans (Ow.fm F6 L5.hd (by simp; exact nqd.symm)) (fun z hz => (F1.trans (F14'.trans (F5.mono (by simp)))).fresh2 (fun b hb => by
          simp at hb
          rcases hb with rfl | rfl | rfl
          · exact L5.nf _ (by simp)
          · exact L5.nf _ (by simp)
          · exact nf hq5 noT_lst) hz), by simp⟩
        · rw [el2]
          have h0 : 0 < S1.wished.length := List.length_pos_of_mem hmem
          obtain ⟨n, hn⟩ : ∃ n, S1.wished.length = n + 1 := ⟨_, (Nat.succ_pred_eq_of_pos h0).symm⟩
          rw [hn]
          have : n + 1 - 1 = n := by omega
          rw [this]
          have e1 : (n + 1) * (n + 1 + 1) = n * (n + 1) + 2 * (n + 1) := by
            rw [Nat.add_mul, Nat.mul_add, Nat.mul_add]
            omega
          rw [e1]
          omega
        · rw [upd_same, List.map_append]
          rfl
      · have e0 : S1.hold x ≠ [] := of_decide_eq_false (by simpa using e0)
        refine ⟨_, ?_, S1, told, at' + 1, _, rfl, rfl, F1.trans Fe.nil, L3, LI, hq3, O1.trans (Ow.fm Fe L1.hd (by simp)) (fun z hz => F1.fresh2 (fun b hb => by
          simp at hb
          rcases hb with rfl | rfl | rfl
          · exact L1.nf _ (by simp)
          · exact L1.nf _ (by simp)
          · exact nf hq1 noT_lst) hz), ?_⟩
        · omega
        · intro z hz
          rw [take_next hx, List.mem_append] at hz
          rcases hz with hz | hz
          · exact B z hz
          · rw [List.mem_singleton] at hz
            rw [hz]
            exact e0
    · have hge : S1.wished.length ≤ at' := by simpa using hge
      rw [List.take_of_length_le hge] at B
      refine ⟨_, rfl, k H1 q S1 told ((Ft.mono (by simp)).drop fq) L1 LI B (O0.trans O1 fun z hz => F0.fresh2 (fun b hb => L0.nf b (by simp at hb; rcases hb with rfl | rfl <;> simp)) hz) fq nqd nqw (fun z => (O1 _ z).elim nO fun f => f _ hq0 noT_lst) hq1⟩
end
end FS
/-! F8 -/
namespace FS
open PySem PySem.Spec PyProof.Rows L2 RT
section
variable {prog : Program} {w : World} {A : Around} {E : Value → Shared → Prop} {s : Shared}
theorem ext_rev {R : Result → Shared → Prop} {it l : Addr} {items : Array Value} (hh : A.handled = none) (hit : s.heap.IsRevIter it l ((items.size : Int) - 1)) (hl : s.heap.IsList l items) (hne : l ≠ it) (hn : items.size ≤ sizeLine) (S : Addr) (res : Value) (hSl : S ≠ l) (hSi : S ≠ it) (c₀ : Nat)
    (hS : s.heap.get? S = some { cls := .type "list", data := .seq #[] c₀ })
    (hR : ∀ h' tk acc' c', (∀ b o, b ≠ S → b ≠ it → s.heap.get? b = some o → h'.get? b = some o) → h'.get? S = some { cls := .type "list", dict := none, data := .seq acc' c', slots := #[] } →
      ItemsOf (fun i v => items[items.size - 1 - i]? = some v) acc' items.size → R (.ok (.ret res)) { s with heap := h', toks := tk }) :
    wpAny (model prog w) A.in1 (Builtin.List.listExtendWith (.ref S) (.ref it) res)
      (fun fin s' => match fin with | .done f => R (.ok f) s' | .again c' => c'.quiet = true ∧ codeAny (model prog w) A c' R s') (fun e s' => R (.error e) s') s := by
  have W := (Walks.listRev (prog := prog) (w := w) (A := A.in1) hh it l hne items).toS
  have hSf : S ∉ [it, l] := by simp only [List.mem_cons, List.not_mem_nil, or_false, not_or]; exact ⟨hSi, hSl⟩
  have hT : s.TypeIs (.ref it) "list_reverseiterator" := hit.typeIs
  have h1 : Builtin.List.listSameRef (.ref S) (.ref it) = false := by simp [Builtin.List.listSameRef, hSi]
  unfold Builtin.List.listExtendWith
  refine wpAny_bind (wpAny_typeOf hT ?_)
  rw [if_neg (by rw [h1]; decide)]
  refine wpAny_bind (wpAny_pyIter_revIter hit ?_)
  refine wpAny_bind (wpAny_holding ?_)
  unfold Builtin.List.listLengthHint
  refine wpAny_bind (wpAny_specialOf hT nolen_lri ?_)
  show wpAny _ A.in1 (specialOf (Value.ref it) (Str.ofString "__length_hint__") >>= _) _ _ _
  refine wpAny_bind (wpAny_specialOf hT hint_lri ?_)
  generalize hid : ("list_reverseiterator.__length_hint__" : String) = id0
  wp_delta
  rw [show splitId id0 = some ("list_reverseiterator", "__length_hint__") from by subst hid; decide +kernel]
  subst hid
  refine wpAny_bind (wpAny_isInstance (b := true) hT (by rw [isSubtype_type]; kernel_rfl) ?_)
  refine wpAny_pure ?_
  rw [if_neg (by decide)]
  have e0 : ((items.size : Nat) : Int) - 1 - ((0 : Nat) : Int) = (items.size : Int) - 1 := by omega
  refine wpAny_pure ⟨plainId_quiet F.plain_extend_loop _, codeAny_extend_loopS W hn _ hSf _ items.size 0 _ _ _ rfl (Nat.zero_le _) ⟨Nat.zero_le _, by rw [e0]; exact hit, hl⟩ hS (ItemsOf.nil _) fun s' acc' c' hm hS' hacc => ?_⟩
  rw [Moved.eq_with hm]
  refine hR s'.heap s'.toks acc' c' (fun b o hb hb2 e => hm.heap b o (fun hmem => ?_) e) hS' hacc
  rcases List.mem_cons.mp hmem with e' | hmem
  · exact hb e'
  · exact hb2 (List.mem_singleton.mp hmem)
theorem init_rev {R : Result → Shared → Prop} {it l : Addr} {items : Array Value} (hh : A.handled = none) (hit : s.heap.IsRevIter it l ((items.size : Int) - 1)) (hl : s.heap.IsList l items) (hne : l ≠ it) (hn : items.size ≤ sizeLine) (S : Addr) (hSl : S ≠ l) (hSi : S ≠ it)
    (hS : s.heap.get? S = some { cls := .type "list", data := .seq #[] })
    (hR : ∀ h' tk acc' c', (∀ b o, b ≠ S → b ≠ it → s.heap.get? b = some o → h'.get? b = some o) → h'.get? S = some { cls := .type "list", dict := none, data := .seq acc' c', slots := #[] } →
      ItemsOf (fun i v => items[items.size - 1 - i]? = some v) acc' items.size → R (.ok (.ret .none)) { s with heap := h', toks := tk }) :
    wpAny (model prog w) A.in1 (Builtin.«list.__init__» ⟨[.ref S, .ref it], []⟩)
      (fun fin s' => match fin with | .done f => R (.ok f) s' | .again c' => c'.quiet = true ∧ codeAny (model prog w) A c' R s') (fun e s' => R (.error e) s') s := by
  show wpAny _ _ (do let old ← Builtin.List.listItems (.ref S); Builtin.List.listUpdate (.ref S) (fun _ => #[]); letGo old.toList.reverse; Builtin.List.listExtendWith (.ref S) (.ref it) .none) _ _ s
  refine wpAny_bind ?_
  unfold Builtin.List.listItems
  refine wpAny_bind (wpAny_seqItems hS rfl (wpAny_pure ?_))
  show wpAny _ _ (updateSeq S (fun _ => #[]) >>= fun _ => letGo (#[] : Array Value).toList.reverse >>= fun _ => Builtin.List.listExtendWith (.ref S) (.ref it) .none) _ _ s
  refine wpAny_bind (wpAny_updateSeq hS rfl ?_)
  have hS₂ := Heap.get?_update_self (Obj.mapSeq (fun _ => (#[] : Array Value))) hS rfl
  have oth : ∀ b o, b ≠ S → s.heap.get? b = some o → (s.heap.update S (Obj.mapSeq (fun _ => (#[] : Array Value)))).get? b = some o :=
    fun b o hb e => (Heap.get?_update_other _ _ (Ne.symm hb)).trans e
  refine wpAny_bind (wpAny_letGo ?_)
  refine ext_rev (s := { s with heap := s.heap.update S (Obj.mapSeq (fun _ => (#[] : Array Value))) }) hh (hit.at fun o e => oth it o (Ne.symm hSi) e) (hl.at fun o e => oth l o (Ne.symm hSl) e) hne hn S .none hSl hSi _ hS₂ fun h' tk acc' c' hk hS' hacc => ?_
  exact hR h' tk acc' c' (fun b o hb hb2 e => hk b o hb hb2 (oth b o hb e)) hS' hacc
theorem call_list_rev {it l : Addr} {items : Array Value} {Q : Value → Shared → Prop} (hh : A.handled = none) (hit : s.heap.IsRevIter it l ((items.size : Int) - 1)) (hl : s.heap.IsList l items) (hne : l ≠ it) (hn : items.size ≤ sizeLine)
    (hQ : ∀ h' tk acc' c', (∀ b o, b ≠ it → s.heap.get? b = some o → h'.get? b = some o) → h'.get? s.heap.objs.size = some { cls := .type "list", dict := none, data := .seq acc' c', slots := #[] } →
      ItemsOf (fun i v => items[items.size - 1 - i]? = some v) acc' items.size → Q (.ref s.heap.objs.size) { s with heap := h', toks := tk }) :
    wpAny (model prog w) A (call (.type "list") [.ref it]) Q E s := by
  refine callType_codes (Q₁ := fun obj s₁ => obj = .ref s.heap.objs.size ∧ s₁ = { s with heap := s.heap.push { cls := .type "list", data := .seq #[] } }) F.called_list (F.typeCall_list_1 _) F.entry_list_init
    (code_list_new _ ⟨rfl, rfl⟩) fun obj s₁ h₁ => ?_
  obtain ⟨rfl, rfl⟩ := h₁
  obtain ⟨oi, hoi, _⟩ := id hit
  obtain ⟨ol, hol, _⟩ := id hl
  have hS : (s.heap.push { cls := .type "list", data := .seq #[] }).get? s.heap.objs.size = some { cls := .type "list", data := .seq #[] } := Heap.get?_push_size _ rfl
  refine ⟨⟨_, hS, rfl⟩, F.args_list_init_2 _ _, init_rev (A := A.in1) (s := { s with heap := s.heap.push { cls := .type "list", data := .seq #[] } }) hh (hit.at fun o e => Heap.get?_push_of_some _ e) (hl.push _) hne hn _ (Nat.ne_of_gt (Heap.lt_size hol)) (Nat.ne_of_gt (Heap.lt_size hoi)) hS fun h' tk acc' c' hk hS' hacc => ?_⟩
  exact ⟨rfl, hQ h' tk acc' c' (fun b o hb e => hk b o (Nat.ne_of_lt (Heap.lt_size e)) hb (Heap.get?_push_of_some _ e)) hS' hacc⟩
end
/-- list(reversed(l)) -/
def tLstRev (K : PySem.W.Frag) (te : TE) : TE := fun σ H Q => te σ H fun v H1 => ∃ (a : Addr) (xs : List V), v = .ref a ∧ SqL K H1 a xs ∧ ∀ q, H1 q = none → Q (.ref q) (upd H1 q (.lst xs.reverse))
section
variable {X : Cx}
theorem pe_lstRev {e : Expr} {te : TE} {p p2 pos pos2 : Pos} (hc : X.calm = true) (hg : Gl X "list") (hm : X.mg "list" = none) (hv : bootBuiltins "list" = some (.type "list")) (hg2 : Gl X "reversed") (hm2 : X.mg "reversed" = none) (he : PE X e te)
    (hs : starEach [e] X.env = (false, eval e X.env) :: starEach [] X.env := by rfl)
    (hs2 : starEach [.Call (.Name "reversed" p2) [e] [] pos2] X.env = (false, eval (.Call (.Name "reversed" p2) [e] [] pos2) X.env) :: starEach [] X.env := by rfl) :
    PE X (.Call (.Name "list" p) [.Call (.Name "reversed" p2) [e] [] pos2] [] pos) (tLstRev X.K te) := by
  refine ⟨fun pins s σ H Q I h => ?_⟩
  refine Call_ (ld_blt I hg hm hv (PyProof.Rows.callWith_type1 (args_cons (Call_ (ld_blt I hg2 hm2 PyProof.Rows.boot_reversed (PyProof.Rows.callWith_type1 (args_cons (thn (he.run pins s σ H _ I h) fun u s1 ⟨v, H1, I1, r1, q1⟩ => args_nil ?_) hs) hs rfl))) hs2) hs2 rfl))
  obtain ⟨a, xs, ev, hq, q⟩ := q1
  subst ev
  obtain rfl : u = Value.ref a := r1
  obtain ⟨its, rv, p', hz⟩ := I1.list hq
  refine call_reversed_list p'.isList (args_nil ?_)
  have k0 : ∀ b o, s1.heap.get? b = some o → (s1.heap.push (revObj a ((its.toArray.size : Int) - 1))).get? b = some o := fun b o e => Heap.get?_push_of_some _ e
  have I2 : Inv X pins σ H1 { s1 with heap := s1.heap.push (revObj a ((its.toArray.size : Int) - 1)) } := I1.kept (t' := s1.toks) k0
  obtain ⟨f0, f1, f2, f3, f4, f5⟩ := I1.fpOk (H' := H1) (b := s1.heap.objs.size) (Nat.le_refl _) (I1.hok.fresh (Nat.le_refl _))
  have hl := p'.isList
  obtain ⟨ol, hol, _⟩ := id hl
  have hne : a ≠ s1.heap.objs.size := Nat.ne_of_lt (Heap.lt_size hol)
  have hn : its.toArray.size ≤ sizeLine := by rw [List.size_toArray, ← rv.length]; exact hz
  refine call_list_rev (s := { s1 with heap := s1.heap.push (revObj a ((its.toArray.size : Int) - 1)) }) (I1.ok.hd hc) ⟨_, Heap.get?_push_size _ rfl, rfl, rfl⟩ (hl.push _) hne hn fun h' tk acc c hk hS' hi => ?_
  have ez : (s1.heap.push (revObj a ((its.toArray.size : Int) - 1))).objs.size = s1.heap.objs.size + 1 := by simp [Heap.push]
  have kp : ∀ b o, s1.heap.get? b = some o → h'.get? b = some o := fun b o e => hk b o (Nat.ne_of_lt (Heap.lt_size e)) (k0 b o e)
  show EP X pins σ Q (.ref (s1.heap.push (revObj a ((its.toArray.size : Int) - 1))).objs.size) { s1 with heap := h', toks := tk }
  have hS2 : h'.get? (s1.heap.push (revObj a ((its.toArray.size : Int) - 1))).objs.size = some { cls := .type "list", dict := none, data := .seq acc c, slots := #[] } := hS'
  rw [ez] at hS2 ⊢
  refine ⟨.ref (s1.heap.objs.size + 1), _, I1.laid (t' := tk) kp (Nat.le_succ _) (show ObjOk X.prog X.w _ h' _ (.lst xs.reverse) from ⟨by rw [List.length_reverse]; exact hz, acc.toList, c, vals_rev rv hi, by rw [Array.toArray_toList]; exact hS2⟩), rfl, q _ (I1.hok.fresh (Nat.le_succ _))⟩
end
end FS
/-! F9 -/
namespace FS
open PySem PySem.Spec PyProof.Rows L2
/-! ### list comprehensions -/
section
variable {K : PySem.W.Frag}
/-- what holds before the turn i of [.. for x in ..] -/
def LcP (K : PySem.W.Frag) (H1 : Hp) (D : Addr) (G : Nat → List V → Hp → Prop) (i : Nat) (H : Hp) : Prop := ∃ acc, Fm K [D] (upd H1 D (.lst [])) H ∧ H D = some (.lst acc) ∧ G i acc H
theorem lc_put {H1 H : Hp} {D : Addr} {G : Nat → List V → Hp → Prop} {i : Nat} {acc : List V} {y : V} (F : Fm K [D] (upd H1 D (.lst [])) H) (h : H D = some (.lst acc)) (l : acc.length < sizeLine) (g : G (i + 1) (acc ++ [y]) (upd H D (.lst (acc ++ [y])))) :
    ∃ acc', H D = some (.lst acc') ∧ acc'.length < sizeLine ∧ LcP K H1 D G (i + 1) (upd H D (.lst (acc' ++ [y]))) :=
  ⟨acc, h, l, _, F.trans (Fm.put h rfl (by simp)), upd_same, g⟩
theorem lc_run {a : Addr} {xs : List V} {g : TG} {tt : TT} {te : TE} {vs : List Nat} {σ : L2.St} {H1 : Hp} {D : Addr} {Q : Hp → Prop} (hD : H1 D = none) (ha : H1 a = some (.lst xs)) (G : Nat → List V → Hp → Prop) (h0 : G 0 [] (upd H1 D (.lst [])))
    (hs : ∀ i x H acc, xs[i]? = some x → Fm K [D] (upd H1 D (.lst [])) H → H D = some (.lst acc) → G i acc H → g x (wipe σ vs) H fun σ2 H2 => wipe σ2 vs = wipe σ vs ∧ tt σ2 H2 fun b H3 =>
      if b = true then te σ2 H3 fun y H4 => ∃ acc, H4 D = some (.lst acc) ∧ acc.length < sizeLine ∧ LcP K H1 D G (i + 1) (upd H4 D (.lst (acc ++ [y]))) else LcP K H1 D G (i + 1) H3)
    (hd : ∀ H acc, Fm K [] H1 H → Fresh H1 D → H D = some (.lst acc) → G xs.length acc H → Q H) :
    ∃ W : Nat → Nat → Hp → Prop, (∃ m, W 0 m (upd H1 D (.lst []))) ∧ ∀ i m H, W i m H →
      ((Itl K a).stop i H ∧ Q H) ∨ ((Itl K a).go i H ∧ ∃ Nx : Hp → Prop, (∀ H', Nx H' → ∃ m', m' < m ∧ W (i + 1) m' H') ∧ ∀ x H', (Itl K a).yld i H x H' → g x (wipe σ vs) H' fun σ2 H2 => wipe σ2 vs = wipe σ vs ∧ tt σ2 H2 fun b H3 =>
        if b = true then te σ2 H3 fun y H4 => ∃ acc, H4 D = some (.lst acc) ∧ acc.length < sizeLine ∧ Nx (upd H4 D (.lst (acc ++ [y]))) else Nx H3) := by
  have naD : a ≠ D := ne_of_none ha hD
  have ha0 : (upd H1 D (.lst [])) a = some (.lst xs) := by rw [upd_ne naD]; exact ha
  refine lc_list (Qd := Q) (LcP K H1 D G) ⟨[], Fm.refl, upd_same, h0⟩ (fun i H _ ⟨acc, F, _⟩ => SqL.of (F.at (by simpa using naD) ha0 noT_lst)) (fun i x H hx ⟨acc, F, h, g⟩ => hs i x H acc hx F h g) fun H ⟨acc, F, h, g⟩ => ?_
  exact hd H acc (((Fm.new hD).trans F : Fm K [D] H1 H).drop (Fresh.of hD)) (Fresh.of hD) h g
end
/-! ### dicts of numbers -/
def numD (al : List (Int × Int)) : List (Key × V) := al.map fun p => (Sum.inl p.1, .int p.2)
theorem valV_numD_none {al : List (Int × Int)} {k : Int} (h : k ∉ al.map (·.1)) : valV (numD al) (Sum.inl k : Key) = none := by
  induction al with
  | nil => rfl
  | cons p al ih =>
    rw [List.map_cons, List.mem_cons, not_or] at h
    have e : valV (numD (p :: al)) (Sum.inl k : Key) = valV (numD al) (Sum.inl k) := valV_neg (fun z => h.1 (Sum.inl.inj z).symm)
    rw [e]
    exact ih h.2
theorem valV_numD {al : List (Int × Int)} {k v : Int} {i : Nat} (nd : (al.map (·.1)).Nodup) (h : al[i]? = some (k, v)) : valV (numD al) (Sum.inl k : Key) = some (.int v) := by
  induction al generalizing i with
  | nil => simp at h
  | cons p al ih =>
    rw [List.map_cons, List.nodup_cons] at nd
    cases i with
    | zero =>
      simp at h
      subst h
      exact valV_pos rfl
    | succ i =>
      have h' : al[i]? = some (k, v) := by simpa using h
      have hk : k ∈ al.map (·.1) := List.mem_map.mpr ⟨(k, v), List.mem_of_getElem? h', rfl⟩
      have e : valV (numD (p :: al)) (Sum.inl k : Key) = valV (numD al) (Sum.inl k) := valV_neg (fun z => nd.1 ((Sum.inl.inj z) ▸ hk))
      rw [e]
      exact ih nd.2 h'
theorem valV_numD_some {al : List (Int × Int)} {k : Int} : (valV (numD al) (Sum.inl k : Key)).isSome = decide (k ∈ al.map (·.1)) := by
  by_cases h : k ∈ al.map (·.1)
  · rw [decide_eq_true h]
    induction al with
    | nil => simp at h
    | cons p al ih =>
      by_cases e : p.1 = k
      · have : valV (numD (p :: al)) (Sum.inl k : Key) = some (.int p.2) := valV_pos (congrArg Sum.inl e)
        rw [this]
        rfl
      · have e2 : valV (numD (p :: al)) (Sum.inl k : Key) = valV (numD al) (Sum.inl k) := valV_neg (fun z => e (Sum.inl.inj z))
        rw [e2]
        rw [List.map_cons, List.mem_cons] at h
        exact ih (h.resolve_left fun z => e z.symm)
  · rw [valV_numD_none h, decide_eq_false h]
    rfl
theorem putK_new {kvs : List (Key × V)} {k : Key} {v : V} (h : k ∉ kvs.map (·.1)) : putK kvs k v = kvs ++ [(k, v)] := by
  unfold putK
  have h : ¬ (kvs.any fun kv => decide (kv.1 = k)) = true := fun q => by
    obtain ⟨p, hp, e⟩ := List.any_eq_true.mp q
    exact h (List.mem_map.mpr ⟨p, hp, of_decide_eq_true e⟩)
  rw [if_neg h]
theorem numD_keys (al : List (Int × Int)) : (numD al).map (·.1) = (al.map (·.1)).map (Sum.inl : Int → Key) := by
  unfold numD
  rw [List.map_map, List.map_map]
  rfl
theorem numD_put {al : List (Int × Int)} {k v : Int} (h : k ∉ al.map (·.1)) : putK (numD al) (Sum.inl k : Key) (.int v) = numD (al ++ [(k, v)]) := by
  rw [putK_new (by rw [numD_keys]; exact fun z => h (inl_mem.mp z))]
  unfold numD
  rw [List.map_append]
  rfl
theorem mergeK_nodup : ∀ (kvs acc : List (Key × V)), ((acc ++ kvs).map (·.1)).Nodup → mergeK acc kvs = acc ++ kvs
  | [], acc, _ => by simp [mergeK]
  | kv :: kvs, acc, nd => by
    have h1 : kv.1 ∉ acc.map (·.1) := by
      rw [List.map_append, List.map_cons] at nd
      exact fun z => (List.nodup_append.mp nd).2.2 _ z _ (by simp) rfl
    have e : mergeK acc (kv :: kvs) = mergeK (putK acc kv.1 kv.2) kvs := rfl
    have e2 : acc ++ kv :: kvs = (acc ++ [kv]) ++ kvs := by simp
    rw [e, putK_new h1, mergeK_nodup kvs (acc ++ [kv]) (by rw [← e2]; exact nd), ← e2]
theorem merge_all {kvs : List (Key × V)} (nd : (kvs.map (·.1)).Nodup) : mergeK [] kvs = kvs := mergeK_nodup kvs [] (by simpa using nd)
/-! ### the way back -/
/-- whom a hand was found behind: the hand itself, or one found before -/
def Chain (hand : Int) (al : List (Int × Int)) : Prop := ∀ (i : Nat) (k v : Int), al[i]? = some (k, v) → v = hand ∨ ∃ j : Nat, j < i ∧ ∃ u : Int, al[j]? = some (v, u)
theorem Chain.snoc {hand : Int} {al : List (Int × Int)} (c : Chain hand al) {k v : Int} (h : v ∈ al.map (·.1)) : Chain hand (al ++ [(k, v)]) := fun i k' v' e => by
  by_cases hi : i < al.length
  · rw [List.getElem?_append_left hi] at e
    rcases c i k' v' e with z | ⟨j, hj, u, hu⟩
    · exact .inl z
    · exact .inr ⟨j, hj, u, by rw [List.getElem?_append_left (by omega)]; exact hu⟩
  · rw [List.getElem?_append_right (by omega)] at e
    have hi2 : i - al.length = 0 := by
      rcases Nat.eq_zero_or_pos (i - al.length) with z | z
      · exact z
      · rw [List.getElem?_eq_none (by simp; omega)] at e
        cases e
    rw [hi2] at e
    simp at e
    obtain ⟨p, hp, e2⟩ := List.mem_map.mp h
    obtain ⟨j, hj, e3⟩ := List.mem_iff_getElem.mp hp
    refine .inr ⟨j, by omega, p.2, ?_⟩
    rw [List.getElem?_append_left hj, List.getElem?_eq_getElem hj, e3, ← e.2, ← e2]
section
variable {P : Program} {w : World} {K : PySem.W.Frag} {mg : Str → Option Value} {base : Heap} {hs ns ps : List Int}
/-! ### way_to -/
def spway_to (K : PySem.W.Frag) : Sp := fun vs H Q _ => ∃ (d : Addr) (al : List (Int × Int)) (hand last : Int), vs = [.ref d, .int hand, .int last] ∧ H d = some (.dK (numD al)) ∧ (al.map (·.1)).Nodup ∧ Chain hand al ∧ al.length ≤ 100 ∧ last ∈ al.map (·.1) ∧
  ∀ H' q, Fm K [] H H' → Q (.ref q) H'
theorem scway_to : FnScope ["ahead", "hand", "last", "row"] ["ahead", "hand", "last"] (defScope sway_to) := ⟨rfl, rfl, rfl, by decide +kernel, rfl, by decide +kernel, by decide +kernel⟩
theorem ok_way_to (T : Txt K mg) : Ok P w K mg base 1 "way_to" ["ahead", "hand", "last"] (spway_to K) := by
  refine T.dway_to.ok scway_to (fun _ _ _ _ _ _ us hl => match us, hl with | [_, _, _], _ => rfl) (fun vs H Q E h => ?_) (fun f cdv A outer s H vs Q E hr h => ?_)
  · obtain ⟨d, al, hand, last, rfl, _⟩ := h
    rfl
  · obtain ⟨d, al, hand, last, rfl, hd, nd, ch, hlen, hl, k⟩ := h
    have hu := hu_of hr
    refine ⟨_, (pss_cons (ps_set (i := 3) scway_to.nd rfl (Or.inl rfl) (pe_lst (pa_cons (pv 2) pa_nil)))
      (pss_cons (ps_while PassesOwn.never (pt_cmpR op_ne (pe_ix ix_list (pv 3) (pe_un un_neg pe_int) (fun _ _ => rfl)) (pv 1) (nomark _))
        (pss_one (ps_expr (pe_bm PySem.F.plainAttrs_list PySem.F.slot_list_append PySem.F.type_list_append mt_append (pv 3) (pa_cons (pe_dget hu (pv 0) (pe_ix ix_list (pv 3) (pe_un un_neg pe_int) (fun _ _ => rfl)) (fun _ _ => rfl)) pa_nil)))))
      (pss_one (ps_ret (pe_lstRev rfl (by rfl) T.list (by decide +kernel) (by rfl) T.reversed (pv 3)))))), ?_⟩
    refine ⟨_, rfl, (by show 1 ≤ sizeLine; decide), fun r hr' => ?_⟩
    have F0 : Fm K [r] H (upd H r (.lst [.int last])) := Fm.new hr'
    have hd0 : (upd H r (.lst [V.int last])) d = some (.dK (numD al)) := by rw [upd_ne (ne_of_none hd hr')]; exact hd
    have ndr : d ≠ r := ne_of_none hd hr'
    refine ⟨fun m σ H1 => ∃ (row : List V) (c : Int), σ = [some (.ref d), some (.int hand), some (.int last), some (.ref r)] ∧ Fm K [r] H H1 ∧ H1 d = some (.dK (numD al)) ∧ H1 r = some (.lst (row ++ [.int c])) ∧ row.length + m ≤ 200 ∧ (c = hand ∨ ∃ i u, i < m ∧ al[i]? = some (c, u)),
      ⟨100, [], last, rfl, F0, hd0, upd_same, by simp, .inr ?_⟩, ?_⟩
    · obtain ⟨p, hp, e⟩ := List.mem_map.mp hl
      obtain ⟨i, hi, e2⟩ := List.mem_iff_getElem.mp hp
      exact ⟨i, p.2, by omega, by rw [List.getElem?_eq_getElem hi, e2, ← e]⟩
    · rintro m σ H1 ⟨row, c, rfl, F, h1, h2, hm, hc⟩
      refine ⟨_, rfl, _, rfl, r, _, _, _, rfl, rfl, SqL.of h2, atI_last _ _, _, rfl, rfl, _, rfl, ?_⟩
      refine ite2 (fun e => ?_) (fun e => ?_)
      · have e : ¬ c = hand := by simpa using e
        obtain ⟨i, u, hi, hu'⟩ := hc.resolve_left e
        refine ⟨fun σ' H' => ∃ m', m' < m ∧ ∃ (row : List V) (c : Int), σ' = [some (.ref d), some (.int hand), some (.int last), some (.ref r)] ∧ Fm K [r] H H' ∧ H' d = some (.dK (numD al)) ∧ H' r = some (.lst (row ++ [.int c])) ∧ row.length + m' ≤ 200 ∧ (c = hand ∨ ∃ i u, i < m' ∧ al[i]? = some (c, u)), fun _ _ z => z, ?_⟩
        obtain ⟨_, hil⟩ : i < al.length ∧ True := ⟨(List.getElem?_eq_some_iff.mp hu').1, trivial⟩
        refine ⟨_, rfl, .inl ⟨rfl, _, SqL.of h2⟩, _, rfl, _, rfl, _, rfl, r, _, _, _, rfl, rfl, SqL.of h2, atI_last _ _, d, .int u, rfl, valV_numD nd hu' ▸ DGet.k (k := Sum.inl c) h1, ?_⟩
        refine ⟨r, _, _, rfl, rfl, h2, ?_, i, hi, row ++ [.int c], u, rfl, F.trans (Fm.put h2 rfl (by simp)), ?_, upd_same, ?_, ?_⟩
        · rw [List.length_append]
          exact small_lt (by simp; omega)
        · rw [upd_ne ndr]
          exact h1
        · rw [List.length_append]
          simp
          omega
        · rcases ch i c u hu' with z | ⟨j, hj, u', hu2⟩
          · exact .inl z
          · exact .inr ⟨j, u', hj, hu2⟩
      · refine ⟨_, rfl, r, _, rfl, SqL.of h2, fun q hq => ?_⟩
        exact k _ q ((F.drop (Fresh.of hr')).trans (Fm.new hq))
/-! ### ring_by -/
/-- what stands while hands are looked for -/
structure Rg (K : PySem.W.Frag) (hs : List Int) (S : LS) (hand : Int) (others : List Int) (H : Hp) (a t : Addr) (H1 : Hp) (al : List (Int × Int)) (todo : List Int) (now : Option Int) : Prop where
  fm : Fm K [a, t] H H1
  ha : H1 a = some (.dK (numD al))
  ht : H1 t = some (.lst (todo.map V.int))
  nd : (al.map (·.1)).Nodup
  ch : Chain hand al
  keys : ∀ x ∈ al.map (·.1), x ∈ hs
  own : hand ∉ al.map (·.1)
  oth : ∀ x ∈ others, x ∈ al.map (·.1)
  td : ∀ x ∈ todo, x ∈ al.map (·.1)
  tl : todo.length ≤ al.length
  shut : ∀ x ∈ al.map (·.1), x ∈ todo ∨ some x = now ∨ ∀ y ∈ S.waits x, y ∈ al.map (·.1)
def spring_by (K : PySem.W.Frag) (hs ns ps : List Int) : Sp := fun vs H Q _ => ∃ (p d wl o : Addr) (S : LS) (hand : Int) (others : List Int), vs = [.ref p, .int hand, .ref o] ∧ LkAt K H p d wl S ∧ WF hs ns ps S ∧ H o = some (.lst (others.map V.int)) ∧ others.Nodup ∧ hand ∉ others ∧ (∀ x ∈ others, x ∈ hs) ∧
  (∀ H' R, Fm K [] H H' → NoRing S hand others R → Q .non H') ∧ ∀ H' q, Fm K [] H H' → Q (.ref q) H'
theorem waits_in {S : LS} (W : WF hs ns ps S) {x y : Int} (h : y ∈ S.waits x) : y ∈ hs := by
  unfold LS.waits at h
  split at h
  · rename_i v hv
    obtain ⟨r, hr, _, rfl⟩ := holders_mem.mp h
    exact (W.dom _ r hr).1
  · simp at h
theorem scring_by : FnScope ["locks", "hand", "others", "ahead", "todo", "here", "other"] ["locks", "hand", "others"] (defScope sring_by) := ⟨rfl, rfl, rfl, by decide +kernel, rfl, by decide +kernel, by decide +kernel⟩
theorem ok_ring_by (T : Txt K mg) (l1 : hs.length ≤ 10) (l2 : ns.length ≤ 8) (l3 : ps.length ≤ 13) : Ok P w K mg base 4 "ring_by" ["locks", "hand", "others"] (spring_by K hs ns ps) := by
  have Gwaited_for : Ok P w K mg base 3 "waited_for" _ _ := ok_waited_for T
  have Gway_to : Ok P w K mg base 1 "way_to" _ _ := ok_way_to T
  refine T.dring_by.ok scring_by (fun _ _ _ _ _ _ us hl => match us, hl with | [_, _, _], _ => rfl) (fun vs H Q E h => ?_) (fun f cdv A outer s H vs Q E hr h => ?_)
  · obtain ⟨p, d, wl, o, S, hand, others, rfl, _⟩ := h
    rfl
  · obtain ⟨p, d, wl, o, S, hand, others, rfl, L, W, ho, ond, hno, oin, kn, kr⟩ := h
    have hu := hu_of hr
    have N := Nm.of W l1 l2 l3
    refine ⟨_, (pss_cons (ps_set (i := 3) scring_by.nd rfl (Or.inl rfl) (pe_callTy (call_dictP rfl) (by rfl) T.dict (by decide +kernel) (pa_cons (pe_lc (own := [("other", 6)]) (g := gName 6) (tt := tYes) rfl scring_by.nd (pi_list (pv 2)) (blkOk_by (own := [("other", 6)]) (N := ["locks", "hand", "others", "ahead", "todo", "here", "other"]) (sc := defScope sring_by) (by decide +kernel)) (fun _ _ _ _ _ => (pg_name (i := 6) scring_by.nd rfl (Or.inl rfl))) (fun _ _ _ _ _ => pts_nil) (fun _ _ _ _ _ => (pe_tup (pa_cons (pv 6) (pa_cons (pv 1) pa_nil))))) pa_nil)))
      (pss_cons (ps_set (i := 4) scring_by.nd rfl (Or.inl rfl) (pe_callTy call_list_of (by rfl) T.list (by decide +kernel) (pa_cons (pv 2) pa_nil)))
      (pss_cons (ps_while PassesOwn.never (pt_cmpR op_gt (pe_callB call_len_seq (by rfl) T.len PySem.boot_len (pa_cons (pv 4) pa_nil)) pe_int (nomark _))
        (pss_cons (ps_set (i := 5) scring_by.nd rfl (Or.inl rfl) (pe_bm PySem.F.plainAttrs_list PySem.F.slot_list_pop PySem.F.type_list_pop mt_popAt (pv 4) (pa_cons pe_int pa_nil)))
        (pss_one (ps_for PassesOwn.never rfl (pi_list (pe_do Gwaited_for (hr.mono (by decide)) (pa_cons (pv 0) (pa_cons (pv 5) pa_nil)))) (pg_name (i := 6) scring_by.nd rfl (Or.inl rfl))
          (pss_cons (ps_if (pt_cmpR op_eq (pv 6) (pv 1) (nomark _))
            (pss_one (ps_ret (pe_do Gway_to (hr.mono (by decide)) (pa_cons (pv 3) (pa_cons (pv 1) (pa_cons (pv 5) pa_nil))))))
            pss_nil)
          (pss_one (ps_if (pt_cmp (pc_dnotin hu (pv 6) (pv 3)))
            (pss_cons (ps_dput hu (pv 3) (pv 6) (pv 5) rfl)
            (pss_one (ps_expr (pe_bm PySem.F.plainAttrs_list PySem.F.slot_list_append PySem.F.type_list_append mt_append (pv 4) (pa_cons (pv 6) pa_nil)))))
            pss_nil)))))))
      (pss_one (ps_ret pe_non))))), ?_⟩
    have noO : ∀ D, H D = none → o ≠ D := fun D hD => ne_of_none ho hD
    refine ⟨_, rfl, o, rfl, ⟨_, SqL.of ho⟩, fun D hD => lc_run (K := K) hD ho (fun i acc H1 => ∃ as : List Addr, acc = as.map V.ref ∧ Paired (fun a x => H1 a = some (.tup [.int x, .int hand])) as (others.take i)) ⟨[], rfl, .nil⟩ ?_ ?_⟩
    · rintro i x H1 acc hx F1 hD1 ⟨as, rfl, hP⟩
      obtain ⟨z, hz, rfl⟩ : ∃ z, others[i]? = some z ∧ x = .int z := by
        rw [List.getElem?_map] at hx
        cases e : others[i]? with
        | none => rw [e] at hx; cases hx
        | some z => rw [e] at hx; exact ⟨z, rfl, (Option.some.inj hx).symm⟩
      have hil := (List.getElem?_eq_some_iff.mp hz).1
      refine ⟨rfl, _, rfl, _, rfl, (by show 2 ≤ sizeLine; decide), fun q hq => ?_⟩
      have hq2 : (upd H1 q (.tup [.int z, .int hand])) D = some (.lst (as.map V.ref)) := by rw [upd_ne (ne_of_none hD1 hq)]; exact hD1
      refine lc_put (F1.trans (Fm.new hq)) hq2 ?_ ⟨as ++ [q], by simp, ?_⟩
      · rw [List.length_map, paired_len hP, List.length_take]
        have := nodup_len ond oin
        exact small_lt (by omega)
      · rw [take_next hz]
        have st : ∀ b xs, H1 b = some (.tup xs) → (upd (upd H1 q (.tup [.int z, .int hand])) D (.lst (as.map V.ref ++ [.ref q]))) b = some (.tup xs) := fun b xs e => by
          rw [upd_ne (ne_of e hD1 (by intro z; cases z)), upd_ne (ne_of_none e hq)]
          exact e
        refine Paired.app (Paired.mapP hP fun a x e => st a _ e) (.cons ?_ .nil)
        rw [upd_ne (ne_of_none hD1 hq).symm]
        exact upd_same
    · rintro H1 acc F1 fD hD1 ⟨as, rfl, hP⟩
      have hlm : (others.map V.int).length = others.length := List.length_map _
      rw [hlm, List.take_length] at hP
      have olen := nodup_len ond oin
      have hkv : Paired (fun p (kv : Key × V) => SqT K H1 p [kV kv.1, kv.2]) as (numD (others.map fun x => (x, hand))) := by
        unfold numD
        rw [List.map_map]
        have : ∀ {as : List Addr} {l : List Int}, Paired (fun a x => H1 a = some (.tup [.int x, .int hand])) as l → Paired (fun p (kv : Key × V) => SqT K H1 p [kV kv.1, kv.2]) as (l.map ((fun p : Int × Int => ((Sum.inl p.1 : Key), V.int p.2)) ∘ fun x => (x, hand))) := by
          intro as l h
          induction h with
          | nil => exact .nil
          | cons r t ih => exact .cons (SqT.of r) ih
        exact this hP
      have hk0 : ((others.map fun x => (x, hand)).map (·.1)) = others := by
        rw [List.map_map]
        exact List.map_id' _
      refine ⟨D, as, _, rfl, SqL.of hD1, hkv, fun a ha => ?_⟩
      rw [merge_all (by rw [numD_keys, hk0]; exact List.pairwise_map.mpr (ond.imp fun h e => h (Sum.inl.inj e)))]
      have fa : Fresh H a := F1.fresh (by simp) (Fresh.of ha)
      have F2 : Fm K [] H (upd H1 a (.dK (numD (others.map fun x => (x, hand))))) := F1.trans (Fm.new ha)
      have ho2 := F2.at (by simp) ho noT_lst
      have ha2 : (upd H1 a (.dK (numD (others.map fun x => (x, hand))))) a = some (.dK (numD (others.map fun x => (x, hand)))) := upd_same
      generalize upd H1 a (.dK (numD (others.map fun x => (x, hand)))) = H2 at F2 ho2 ha2
      refine ⟨_, rfl, o, _, rfl, .inl (SqL.of ho2), fun t ht => ?_⟩
      have ft : Fresh H t := F2.fresh (by simp) (Fresh.of ht)
      have nat' : a ≠ t := ne_of_none ha2 ht
      have R0 : Rg K hs S hand others H a t (upd H2 t (.lst (others.map V.int))) (others.map fun x => (x, hand)) others none := {
        fm := (F2.trans (Fm.new ht)).nil
        ha := by rw [upd_ne nat']; exact ha2
        ht := upd_same
        nd := by rw [hk0]; exact ond
        ch := fun i k v e => by
          rw [List.getElem?_map] at e
          cases z : others[i]? with
          | none => rw [z] at e; cases e
          | some u => rw [z] at e; cases e; exact .inl rfl
        keys := by rw [hk0]; exact oin
        own := by rw [hk0]; exact hno
        oth := by rw [hk0]; exact fun _ h => h
        td := by rw [hk0]; exact fun _ h => h
        tl := by rw [List.length_map]; exact Nat.le_refl _
        shut := by rw [hk0]; exact fun _ h => .inl h }
      refine ⟨fun m σ H3 => ∃ (al : List (Int × Int)) (todo : List Int) (v5 v6 : Option V), σ = [some (.ref p), some (.int hand), some (.ref o), some (.ref a), some (.ref t), v5, v6] ∧ Rg K hs S hand others H a t H3 al todo none ∧ 2 * (hs.length - al.length) + todo.length ≤ m,
        ⟨_, _, _, none, none, rfl, R0, Nat.le_refl _⟩, ?_⟩
      rintro m σ H3 ⟨al, todo, v5, v6, rfl, R, hm⟩
      have all : al.length ≤ hs.length := by
        have := nodup_len R.nd R.keys
        rw [List.length_map] at this
        exact this
      refine ⟨_, rfl, t, _, rfl, .inl (SqL.of R.ht), _, _, rfl, rfl, _, rfl, ?_⟩
      refine ite2 (fun e => ?_) (fun e => ?_)
      · obtain ⟨here, rest, rfl⟩ : ∃ x l, todo = x :: l := by
          cases todo with
          | nil => simp at e
          | cons x l => exact ⟨x, l, rfl⟩
        refine ⟨fun σ' H' => ∃ m', m' < m ∧ ∃ (al : List (Int × Int)) (todo : List Int) (v5 v6 : Option V), σ' = [some (.ref p), some (.int hand), some (.ref o), some (.ref a), some (.ref t), v5, v6] ∧ Rg K hs S hand others H a t H' al todo none ∧ 2 * (hs.length - al.length) + todo.length ≤ m', fun _ _ z => z, ?_⟩
        refine ⟨_, rfl, .inl ⟨rfl, _, SqL.of R.ht⟩, t, _, 0, 0, .int here, rfl, rfl, R.ht, by decide, by decide, ?_, rfl, ?_⟩
        · rw [List.length_map, List.length_cons]
          simp [seqIndex?]
        · have Fp : Fm K [a, t] H (upd H3 t (.lst (((here :: rest).map V.int).eraseIdx 0))) := R.fm.trans (Fm.put R.ht rfl (by simp))
          have ha4 : (upd H3 t (.lst (((here :: rest).map V.int).eraseIdx 0))) a = some (.dK (numD al)) := by rw [upd_ne nat']; exact R.ha
          have ht4 : (upd H3 t (.lst (((here :: rest).map V.int).eraseIdx 0))) t = some (.lst (rest.map V.int)) := upd_same
          generalize upd H3 t (.lst (((here :: rest).map V.int).eraseIdx 0)) = H4 at Fp ha4 ht4
          have frs : ∀ b ∈ [a, t], Fresh H b := fun b hb => by
            simp at hb
            rcases hb with rfl | rfl
            · exact fa
            · exact ft
          have L4 : LkAt K H4 p d wl S := L.off Fp frs
          refine ⟨_, rfl, _, rfl, p, d, wl, S, here, rfl, L4, N, fun H5 q F5 fq hq => ⟨q, rfl, ⟨_, SqL.of hq⟩, ?_⟩⟩
          have R5 : Rg K hs S hand others H a t H5 al rest (some here) := {
            fm := Fp.trans F5.nil
            ha := F5.at (by simp) ha4 noT_dK
            ht := F5.at (by simp) ht4 noT_lst
            nd := R.nd
            ch := R.ch
            keys := R.keys
            own := R.own
            oth := R.oth
            td := fun x hx => R.td x (by simp [hx])
            tl := by have := R.tl; rw [List.length_cons] at this; omega
            shut := fun x hx => by
              rcases R.shut x hx with z | z | z
              · rcases List.mem_cons.mp z with z | z
                · exact .inr (.inl (by rw [z]))
                · exact .inl z
              · cases z
              · exact .inr (.inr z) }
          have nqa : q ≠ a := fun z => fq _ (z ▸ ha4) noT_dK
          have nqt : q ≠ t := fun z => fq _ (z ▸ ht4) noT_lst
          have fqH : Fresh H q := fun o e n => by
            by_cases z : q ∈ [a, t]
            · simp at z
              rcases z with z | z
              · exact nqa z
              · exact nqt z
            · exact fq o (Fp.at z e n) n
          have hhere : here ∈ al.map (·.1) := R.td here (by simp)
          refine for_list (K := K) (a := q) (xs := (S.waits here).map V.int) (fun i σ H6 => ∃ (al : List (Int × Int)) (todo : List Int) (v6 : Option V), σ = [some (.ref p), some (.int hand), some (.ref o), some (.ref a), some (.ref t), some (.int here), v6] ∧ Fm K [a, t] H5 H6 ∧ Rg K hs S hand others H a t H6 al todo (some here) ∧ here ∈ al.map (·.1) ∧ 2 * (hs.length - al.length) + todo.length + 1 ≤ m ∧ ∀ y ∈ (S.waits here).take i, y ∈ al.map (·.1))
            ⟨al, rest, _, rfl, Fm.refl, R5, hhere, by rw [List.length_cons] at hm; omega, by simp⟩ (fun i σ H6 _ ⟨_, _, _, _, F, _⟩ => SqL.of (F.at (by simp; exact ⟨nqa, nqt⟩) hq noT_lst)) ?_ ?_
          · rintro i y σ H6 hy ⟨al, todo, v6, rfl, F6, R6, hh, hm6, hpre⟩
            obtain ⟨z, hz, rfl⟩ : ∃ z, (S.waits here)[i]? = some z ∧ y = .int z := by
              rw [List.getElem?_map] at hy
              cases e : (S.waits here)[i]? with
              | none => rw [e] at hy; cases hy
              | some z => rw [e] at hy; exact ⟨z, rfl, (Option.some.inj hy).symm⟩
            have al6 : al.length ≤ hs.length := by
              have := nodup_len R6.nd R6.keys
              rw [List.length_map] at this
              exact this
            refine ⟨_, rfl, _, rfl, rfl, _, rfl, ite2 (fun e1 => ?_) (fun e1 => ?_)⟩
            · refine ⟨_, rfl, _, rfl, _, rfl, a, al, hand, here, rfl, R6.ha, R6.nd, R6.ch, by omega, hh, fun H7 r F7 => ?_⟩
              refine kr H7 r ?_
              have Fz : Fm K [a, t] H H7 := R6.fm.trans F7.nil
              exact (Fz.drop fa).drop ft
            · have e1 : ¬ z = hand := by simpa using e1
              refine ⟨_, rfl, _, rfl, a, _, rfl, DGet.k (k := Sum.inl z) R6.ha, _, rfl, ?_⟩
              rw [valV_numD_some]
              by_cases hk : z ∈ al.map (·.1)
              · rw [decide_eq_true hk]
                refine iteF ⟨al, todo, _, rfl, F6, R6, hh, hm6, fun y hy => ?_⟩
                rw [take_next hz, List.mem_append] at hy
                rcases hy with hy | hy
                · exact hpre y hy
                · rw [List.mem_singleton] at hy
                  rw [hy]
                  exact hk
              · rw [decide_eq_false hk]
                have zin : z ∈ hs := waits_in W (List.mem_of_getElem? hz)
                have al7 : al.length + 1 ≤ hs.length := by
                  have := nodup_len (l := z :: al.map (·.1)) (List.nodup_cons.mpr ⟨hk, R6.nd⟩) (m := hs) (fun x hx => by
                    rcases List.mem_cons.mp hx with rfl | hx
                    · exact zin
                    · exact R6.keys x hx)
                  rw [List.length_cons, List.length_map] at this
                  exact this
                have klen : (numD al).length < sizeLine := small_lt (by unfold numD; rw [List.length_map]; omega)
                refine iteT ⟨_, rfl, _, rfl, _, rfl, a, _, rfl, DPut.k (k := Sum.inl z) R6.ha klen, ?_⟩
                have ep := numD_put (v := here) hk
                rw [ep]
                have ht7 : (upd H6 a (.dK (numD (al ++ [(z, here)])))) t = some (.lst (todo.map V.int)) := by rw [upd_ne nat'.symm]; exact R6.ht
                have tl6 := R6.tl
                refine ⟨_, rfl, .inl ⟨rfl, _, SqL.of ht7⟩, _, rfl, t, _, _, rfl, rfl, ht7, small_lt (by rw [List.length_map]; omega), ?_⟩
                have F7 : Fm K [a, t] H6 (upd (upd H6 a (.dK (numD (al ++ [(z, here)])))) t (.lst (todo.map V.int ++ [.int z]))) := (Fm.put R6.ha rfl (by simp)).trans (Fm.put ht7 rfl (by simp))
                have ek : (al ++ [(z, here)]).map (·.1) = al.map (·.1) ++ [z] := by simp
                refine ⟨al ++ [(z, here)], todo ++ [z], _, rfl, F6.trans F7, {
                  fm := R6.fm.trans F7
                  ha := by rw [upd_ne nat']; exact upd_same
                  ht := by rw [upd_same, List.map_append]; rfl
                  nd := by
                    rw [ek]
                    exact List.nodup_append.mpr ⟨R6.nd, by simp, fun x hx y hy => by rw [List.mem_singleton] at hy; exact fun e => hk (by rw [← hy, ← e]; exact hx)⟩
                  ch := R6.ch.snoc hh
                  keys := fun x hx => by
                    rw [ek] at hx
                    rcases List.mem_append.mp hx with hx | hx
                    · exact R6.keys x hx
                    · rw [List.mem_singleton] at hx
                      rw [hx]
                      exact zin
                  own := by
                    rw [ek]
                    intro hx
                    rcases List.mem_append.mp hx with hx | hx
                    · exact R6.own hx
                    · rw [List.mem_singleton] at hx
                      exact e1 hx.symm
                  oth := fun x hx => by rw [ek]; exact List.mem_append_left _ (R6.oth x hx)
                  td := fun x hx => by
                    rw [ek]
                    rcases List.mem_append.mp hx with hx | hx
                    · exact List.mem_append_left _ (R6.td x hx)
                    · exact List.mem_append_right _ hx
                  tl := by simp; omega
                  shut := fun x hx => by
                    rw [ek] at hx ⊢
                    rcases List.mem_append.mp hx with hx | hx
                    · rcases R6.shut x hx with z | z | z
                      · exact .inl (List.mem_append_left _ z)
                      · exact .inr (.inl z)
                      · exact .inr (.inr fun y hy => List.mem_append_left _ (z y hy))
                    · exact .inl (List.mem_append_right _ hx) }, ?_, ?_, fun y hy => ?_⟩
                · rw [ek]
                  exact List.mem_append_left _ hh
                · simp
                  omega
                · rw [ek]
                  rw [take_next hz, List.mem_append] at hy
                  rcases hy with hy | hy
                  · exact List.mem_append_left _ (hpre y hy)
                  · exact List.mem_append_right _ hy
          · rintro σ H6 ⟨al, todo, v6, rfl, F6, R6, hh, hm6, hpre⟩
            rw [List.length_map, List.take_length] at hpre
            refine ⟨2 * (hs.length - al.length) + todo.length, by omega, al, todo, _, _, rfl, { R6 with shut := fun x hx => ?_ }, Nat.le_refl _⟩
            rcases R6.shut x hx with z | z | z
            · exact .inl z
            · cases z
              exact .inr (.inr hpre)
            · exact .inr (.inr z)
      · have et : todo = [] := by
          cases todo with
          | nil => rfl
          | cons x l => simp at e
        subst et
        refine kn H3 (al.map (·.1)) ((R.fm.drop fa).drop ft) ⟨R.oth, R.own, fun x hx => ?_⟩
        rcases R.shut x hx with z | z | z
        · simp at z
        · cases z
        · exact z
end
end FS
/-! F10 -/
namespace FS
open PySem PySem.Spec PyProof.Rows L2
/-- a method keeps its promise -/
def OkM (P : Program) (w : World) (K : PySem.W.Frag) (mg : Str → Option Value) (base : Heap) (CX : CXT) (k : Nat) (C m : Str) (ps : List Str) (sp : Sp) : Prop :=
  ∃ fd, FnOk P w K mg base CX k (He.ma K (He.ga K C) m) fd ps sp ∧ Binds K fd ps [] ∧ Meth K (He.ga K C) m (He.ma K (He.ga K C) m)
section
variable {P : Program} {w : World} {K : PySem.W.Frag} {mg : Str → Option Value} {base : Heap} {C m q : Str} {st : Stmt} {N ps : List Str} {k j : Nat} {sp : Sp}
theorem Mn.okX {CX : CXT} (D : Mn K C m q st) (S : FnScope N ps (defScope st))
    (hb : ∀ (kV doc pm : Value) (an : Option Addr) (cdv ct : Value) (us : List Value), us.length = ps.length → bindArgs (PySem.W.fnOf m q (defArgs st) (defBody st) (defScope st) .none kV doc pm an cdv ct) ⟨us, []⟩ = pure (ps.zip us))
    (len : ∀ vs H Q E, sp vs H Q E → vs.length = ps.length)
    (body : ∀ (f : Addr) (cdv : Value) (A : Around) (outer : List Env) (s : Shared) (H : Hp) (vs : List V) (Q : VK) (E : XK), Room k (A.deeper (envOfC q (defScope st) s.heap.objs.size f cdv)) → sp vs H Q E →
      ∃ t, PSs (cxOf CX P w K mg base N q (defScope st) f cdv A outer s H E) (defBody st) t ∧ t { nx := fun _ H' => Q .non H', rt := Q } (start N vs) H) : OkM P w K mg base CX (k + 1) C m ps sp := by
  obtain ⟨fd, F, M⟩ := D
  exact ⟨fd, F.ok S len fun cdv A outer s H vs Q E hr hsp => body _ cdv A outer s H vs Q E hr hsp, F.bindsN hb, M⟩
theorem Mn.ok (D : Mn K C m q st) (S : FnScope N ps (defScope st))
    (hb : ∀ (kV doc pm : Value) (an : Option Addr) (cdv ct : Value) (us : List Value), us.length = ps.length → bindArgs (PySem.W.fnOf m q (defArgs st) (defBody st) (defScope st) .none kV doc pm an cdv ct) ⟨us, []⟩ = pure (ps.zip us))
    (len : ∀ vs H Q E, sp vs H Q E → vs.length = ps.length)
    (body : ∀ (f : Addr) (cdv : Value) (A : Around) (outer : List Env) (s : Shared) (H : Hp) (vs : List V) (Q : VK) (E : XK), Room k (A.deeper (envOfC q (defScope st) s.heap.objs.size f cdv)) → sp vs H Q E →
      ∃ t, PSs (cxOf CX0 P w K mg base N q (defScope st) f cdv A outer s H E).nox (defBody st) t ∧ t { nx := fun _ H' => Q .non H', rt := Q } (start N vs) H) : OkM P w K mg base CX0 (k + 1) C m ps sp :=
  D.okX S hb len fun f cdv A outer s H vs Q E hr hsp => by
    obtain ⟨t, h, q⟩ := body f cdv A outer s H vs Q E hr hsp
    exact ⟨t, h.nox, q⟩
end
/-! ### how a deed leaves the heap -/
structure Mv (K : PySem.W.Frag) (p d wl wl' : Addr) (H H' : Hp) : Prop where
  fm : Fm K [p, d, wl] H H'
  wl : wl' = wl ∨ Fresh H wl'
  ow : Ow d H H'
  fr : ∀ z, Fresh H' z → Fresh H z
section
variable {K : PySem.W.Frag} {p d wl wl1 wl2 : Addr} {H H1 H2 : Hp}
theorem Mv.refl : Mv K p d wl wl H H := ⟨Fm.refl, .inl rfl, Ow.refl, fun _ h => h⟩
theorem Mv.trans (a : Mv K p d wl wl1 H H1) (b : Mv K p d wl1 wl2 H1 H2) : Mv K p d wl wl2 H H2 := by
  refine ⟨?_, ?_, a.ow.trans b.ow a.fr, fun z h => a.fr z (b.fr z h)⟩
  · rcases a.wl with e | f
    · have := b.fm
      rw [e] at this
      exact a.fm.trans this
    · exact ((a.fm.mono (by simp)).trans (b.fm.mono (by simp)) : Fm K [wl1, p, d, wl] H H2).drop f
  · rcases b.wl with e | f
    · rw [e]
      exact a.wl
    · exact .inr (a.fr _ f)
theorem Mv.fm0 {S : LS} (L : LkAt K H p d wl S) (F : Fm K [] H H1) : Mv K p d wl wl H H1 := ⟨F.nil, .inl rfl, Ow.fm F L.hd (by simp), fun _ h => F.fresh (by simp) h⟩
/-- none of the locks' own -/
def Off (H : Hp) (p d wl b : Addr) : Prop := b ≠ p ∧ b ≠ d ∧ b ≠ wl ∧ ¬ Own H d b
theorem Off.mv {b : Addr} {o : HO} (h : Off H p d wl b) (M : Mv K p d wl wl1 H H1) (hb : H b = some o) (n : NoTbl o) : Off H1 p d wl1 b ∧ H1 b = some o := by
  refine ⟨⟨h.1, h.2.1, ?_, ?_⟩, M.fm.at (by simp; exact ⟨h.1, h.2.1, h.2.2.1⟩) hb n⟩
  · rcases M.wl with e | f
    · rw [e]
      exact h.2.2.1
    · exact fun e => f o (e ▸ hb) n
  · exact fun z => (M.ow _ z).elim h.2.2.2 fun f => f o hb n
theorem Off.new {S : LS} {b : Addr} (L : LkAt K H p d wl S) (h : Fresh H b) : Off H p d wl b := by
  refine ⟨fun e => L.nf p (by simp) (e ▸ h), fun e => L.nf d (by simp) (e ▸ h), fun e => L.nf wl (by simp) (e ▸ h), fun z => ?_⟩
  obtain ⟨ys, e⟩ := L.own_some z
  exact h _ e noT_lst
end
section
variable {P : Program} {w : World} {K : PySem.W.Frag} {mg : Str → Option Value} {base : Heap} {hs ns ps : List Int}
/-! ### Locks() -/
def LS0 : LS := ⟨[], []⟩
def spLocks (K : PySem.W.Frag) : Sp := fun vs H Q _ => ∃ (x dx : Addr), vs = [.ref x] ∧ H x = some (.ins (He.ga K "Locks") dx []) ∧
  ∀ H' d wl, Fm K [x] H H' → LkAt K H' x d wl LS0 → Fresh H d → Fresh H wl → Q .non H'
theorem scInit : FnScope ["self"] ["self"] (defScope mInit) := ⟨rfl, rfl, rfl, by decide +kernel, rfl, by decide +kernel, by decide +kernel⟩
theorem ok_Init (T : Txt K mg) : OkM P w K mg base CX0 1 "Locks" "__init__" ["self"] (spLocks K) := by
  refine T.mInit.ok scInit (fun _ _ _ _ _ _ us hl => match us, hl with | [_], _ => rfl) (fun vs H Q E h => ?_) (fun f cdv A outer s H vs Q E hr h => ?_)
  · obtain ⟨x, dx, rfl, _⟩ := h
    rfl
  · obtain ⟨x, dx, rfl, hx, k⟩ := h
    refine ⟨_, (pss_cons (ps_fld (pv 0) pe_dnewK rfl)
      (pss_one (ps_fld (pv 0) (pe_lst pa_nil) rfl))), ?_⟩
    intro d hd
    have nxd : x ≠ d := ne_of_none hx hd
    have h1 : (upd H d (.dK [])) x = some (.ins (He.ga K "Locks") dx []) := by rw [upd_ne nxd]; exact hx
    refine ⟨_, rfl, x, _, dx, _, rfl, h1, T.cl, T.nP, by simp, (by show 0 ≤ sizeLine; decide), fun wl hw => ?_⟩
    have hd1 : (upd (upd H d (.dK [])) x (.ins (He.ga K "Locks") dx (putF "pieces" (.ref d) []))) d = some (.dK []) := by rw [upd_ne nxd.symm]; exact upd_same
    have hx1 : (upd (upd H d (.dK [])) x (.ins (He.ga K "Locks") dx (putF "pieces" (.ref d) []))) x = some (.ins (He.ga K "Locks") dx (putF "pieces" (.ref d) [])) := upd_same
    have F1 : Fm K [x] H (upd (upd H d (.dK [])) x (.ins (He.ga K "Locks") dx (putF "pieces" (.ref d) []))) := (Fm.new hd).trans (Fm.put h1 rfl (by simp))
    generalize upd (upd H d (.dK [])) x (.ins (He.ga K "Locks") dx (putF "pieces" (.ref d) [])) = H1 at F1 hd1 hx1 hw
    have nxw : x ≠ wl := ne_of_none hx1 hw
    have ndw : d ≠ wl := ne_of_none hd1 hw
    have hx2 : (upd H1 wl (.lst [])) x = some (.ins (He.ga K "Locks") dx (putF "pieces" (.ref d) [])) := by rw [upd_ne nxw]; exact hx1
    refine ⟨_, rfl, x, _, dx, _, rfl, hx2, T.cl, T.nW, by show 1 < 1000; decide, ?_⟩
    refine k _ d wl (F1.trans ((Fm.new hw).trans (Fm.put hx2 rfl (by simp)))) ⟨⟨dx, upd_same⟩, ⟨[], by rw [upd_ne nxd.symm, upd_ne ndw]; exact hd1, .nil⟩, [], by rw [upd_ne nxw.symm]; exact upd_same, .nil⟩ (Fresh.of hd) (F1.fresh (by simpa using nxw.symm) (Fresh.of hw))
/-! ### free -/
/-- the end of free, leave -/
def LetEnd (K : PySem.W.Frag) (p d wl : Addr) (S : LS) (H : Hp) (Q : VK) : Prop := ∀ H' q S' told wl', Mv K p d wl wl' H H' → LkAt K H' p d wl' S' → LetIn S S' told → Blocked S' → Fresh H q → H' q = some (.lst (told.map V.int)) → (Tb K H → Tb K H') → Off H' p d wl' q → Q (.ref q) H'
def spfree (K : PySem.W.Frag) (hs ns ps : List Int) : Sp := fun vs H Q _ => ∃ (p d wl : Addr) (S : LS) (h f lo hi : Int), vs = [.ref p, .int h, .int f, .int lo, .int hi] ∧ LkAt K H p d wl S ∧ WF hs ns ps S ∧ f ∈ ns ∧ lo ∈ ps ∧ hi ∈ ps ∧ lo < hi ∧ Tb K H ∧ LetEnd K p d wl (S.free h f lo hi) H Q
/-- a list of rows is put in the dict -/
theorem LkAt.dput {H H4 : Hp} {p d wl b : Addr} {S : LS} {us : List V} {rs : List Row} {f : Int} {kvs : List (Key × V)} (L : LkAt K H4 p d wl S) (h2' : H4 d = some (.dK kvs)) (nbw : b ≠ wl) (hb : H4 b = some (.lst us)) (RU : RowsV H4 us rs) :
    LkAt K (upd H4 d (.dK (putK kvs (Sum.inl f : Key) (.ref b)))) p d wl ⟨putP S.pieces f rs, S.wished⟩ := by
  have nd := L.ne
  obtain ⟨⟨dx, h1⟩, ⟨kvs', h2, h3'⟩, ws', h4', h5'⟩ := L
  rw [h2'] at h2
  cases h2
  have tk := Tk.put (o := .dK (putK kvs (Sum.inl f) (.ref b))) h2' (fun _ z => by cases z)
  refine ⟨⟨dx, by rw [upd_ne nd.1]; exact h1⟩, ⟨_, upd_same, ?_⟩, ws', by rw [upd_ne (Ne.symm nd.2.2)]; exact h4', WishesV.tk tk h5'⟩
  have pp := pc_put (f := f) nbw hb RU h3'
  exact Paired.mapP pp fun _ _ z => z.keep (fun a ys _ e => by rw [upd_ne (ne_of e h2' (by intro z; cases z))]; exact e) tk fun _ _ n _ => n
theorem scfree : FnScope ["self", "hand", "file", "low", "high"] ["self", "hand", "file", "low", "high"] (defScope mFree) := ⟨rfl, rfl, rfl, by decide +kernel, rfl, by decide +kernel, by decide +kernel⟩
theorem ok_free (T : Txt K mg) (TB : LamX.TabB base mg (He.cT K pLong).1 (He.cT K pLong).2) (l1 : hs.length ≤ 10) (l2 : ns.length ≤ 8) (l3 : ps.length ≤ 13) : OkM P w K mg base CX0 6 "Locks" "free" ["self", "hand", "file", "low", "high"] (spfree K hs ns ps) := by
  have Gcut_out : Ok P w K mg base 1 "cut_out" _ _ := ok_cut_out T
  have Glet_in : Ok P w K mg base 5 "let_in" _ _ := ok_let_in (hs := hs) (ns := ns) (ps := ps) T TB l1 l2 l3
  refine T.mFree.ok scfree (fun _ _ _ _ _ _ us hl => match us, hl with | [_, _, _, _, _], _ => rfl) (fun vs H Q E h => ?_) (fun f cdv A outer s H vs Q E hr h => ?_)
  · obtain ⟨p, d, wl, S, h, f, lo, hi, rfl, _⟩ := h
    rfl
  · obtain ⟨p, d, wl, S, h, f, lo, hi, rfl, L, W, hf, hlo, hhi, hlt, tb, k⟩ := h
    have hu := hu_of hr
    have N := Nm.of W l1 l2 l3
    refine ⟨_, (pss_cons (ps_dput hu (pe_fld (pv 0) rfl) (pv 2) (pe_do Gcut_out (hr.mono (by decide)) (pa_cons (pe_dget2 hu (pe_fld (pv 0) rfl) (pv 2) (pe_lst pa_nil) ⟨rfl, rfl, rfl, rfl⟩) (pa_cons (pv 1) (pa_cons (pv 3) (pa_cons (pv 4) pa_nil))))) rfl)
      (pss_one (ps_ret (pe_do Glet_in (hr.mono (by decide)) (pa_cons (pv 0) pa_nil))))), ?_⟩
    obtain ⟨⟨dx, h1⟩, ⟨kvs, h2, h3⟩, ws, h4, h5⟩ := id L
    refine ⟨_, rfl, p, _, dx, _, _, rfl, h1, T.cl, T.nP, flds_p _ _, d, rfl, .inl ⟨kvs, .inl h2⟩, _, rfl, (by show 0 ≤ sizeLine; decide), fun q0 hq0 => ⟨_, (get_rows f h2 h3 hq0).1, ?_⟩⟩
    obtain ⟨_, a, ys, ea, sm, ha, R⟩ := get_rows f h2 h3 hq0
    rw [ea]
    generalize upd H q0 (.lst []) = H1 at sm ha R
    refine ⟨_, rfl, _, rfl, _, rfl, a, ys, _, h, lo, hi, rfl, ha, R, N.rows _, fun H2 q zs F fq hq RZ => ?_⟩
    have F2 : Fm K [] H H2 := (Fm.same sm).trans F
    have L2 := L.fm F2
    have fqH : Fresh H q := (Fm.same (K := K) (ms := []) sm).fresh (by simp) fq
    have h22 := F2.at (by simp) h2 noT_dK
    have hkl : kvs.length < sizeLine := small_lt (by
      have := paired_len h3
      have := N.pl
      omega)
    refine ⟨_, rfl, p, _, dx, _, _, rfl, F2.at (by simp) h1 noT_ins, T.cl, T.nP, flds_p _ _, _, rfl, d, _, rfl, DPut.k (k := Sum.inl f) h22 hkl, ?_⟩
    have nqw : q ≠ wl := fun e => fqH _ (e ▸ h4) noT_lst
    have L3 : LkAt K (upd H2 d (.dK (putK kvs (Sum.inl f) (.ref q)))) p d wl (S.free h f lo hi) := L2.dput (H := H) h22 nqw hq RZ
    have F3 : Fm K [d] H (upd H2 d (.dK (putK kvs (Sum.inl f) (.ref q)))) := F2.nil.trans (Fm.put h22 rfl (by simp))
    have O3 : Ow d H (upd H2 d (.dK (putK kvs (Sum.inl f) (.ref q)))) := fun a ⟨ks, k2, e, m⟩ => by
      rw [upd_same] at e
      cases e
      rcases putK_mem m with ⟨k3, h3⟩ | h3
      · exact .inl ⟨_, k3, h2, h3⟩
      · cases h3
        exact .inr fqH
    have fr3 : ∀ z, Fresh (upd H2 d (.dK (putK kvs (Sum.inl f) (.ref q)))) z → Fresh H z := fun z => F3.fresh2 (fun b hb => L3.nf b (by simp at hb; simp [hb]))
    generalize upd H2 d (.dK (putK kvs (Sum.inl f) (.ref q))) = H3 at L3 F3 O3 fr3
    have M3 : Mv K p d wl wl H H3 := ⟨F3.mono (by simp), .inl rfl, O3, fr3⟩
    refine ⟨_, rfl, p, d, wl, _, rfl, L3, W.free hf hlo hhi hlt, F3.tb tb, fun H4 r S' told F4 L4 LI B O4 fr nrd nrw nro hr4 => ?_⟩
    have M4 : Mv K p d wl wl H3 H4 := ⟨F4.mono (by simp), .inl rfl, O4, fun z => F4.fresh2 (fun b hb => L4.nf b (by simp at hb; rcases hb with rfl | rfl <;> simp))⟩
    have of3 := Off.new L3 fr
    refine k H4 r S' told wl (M3.trans M4) L4 LI B (fr3 _ fr) hr4 (fun t => F4.tb (F3.tb t)) ⟨of3.1, of3.2.1, of3.2.2.1, nro⟩
end
end FS
/-! F11 -/
namespace FS
open PySem PySem.Spec PyProof.Rows L2
theorem filter_take {α : Type} {q : α → Bool} {l : List α} {i : Nat} {x : α} (h : l[i]? = some x) : (l.take (i + 1)).filter q = if q x = true then (l.take i).filter q ++ [x] else (l.take i).filter q := by
  rw [take_next h, List.filter_append]
  by_cases z : q x = true
  · rw [if_pos z, List.filter_cons_of_pos z]
    rfl
  · rw [if_neg z, List.filter_cons_of_neg z]
    simp
theorem take_len {α : Type} (q : α → Bool) (l : List α) (i : Nat) : ((l.take i).filter q).length ≤ l.length := Nat.le_trans (List.length_filter_le _ _) (List.length_take_le' _ _)
/-- the pieces behind i of leave's turns -/
def leaveN (h : Int) (pcs : List (Int × List Row)) (i : Nat) : List (Int × List Row) := ((pcs.take i).map fun p => (p.1, noHand h p.2)) ++ pcs.drop i
theorem leaveN_zero (h : Int) (pcs : List (Int × List Row)) : leaveN h pcs 0 = pcs := by simp [leaveN]
theorem leaveN_all (h : Int) (pcs : List (Int × List Row)) : leaveN h pcs pcs.length = pcs.map fun p => (p.1, noHand h p.2) := by simp [leaveN]
theorem putP_at {f : Int} {rs : List Row} : ∀ {pcs : List (Int × List Row)} {i : Nat} {p : Int × List Row}, (pcs.map (·.1)).Nodup → pcs[i]? = some p → p.1 = f → putP pcs f rs = pcs.take i ++ (f, rs) :: pcs.drop (i + 1) := fun {pcs i p} nd hp e => by
  unfold putP
  have any : (pcs.any fun q => decide (q.1 = f)) = true := List.any_eq_true.mpr ⟨p, List.mem_of_getElem? hp, decide_eq_true e⟩
  rw [if_pos any]
  clear any
  induction pcs generalizing i with
  | nil => simp at hp
  | cons a l ih =>
    rw [List.map_cons, List.nodup_cons] at nd
    cases i with
    | zero =>
      simp at hp
      subst hp
      have : ∀ x ∈ l, (if x.1 = f then (x.1, rs) else x) = x := fun x hx => if_neg fun z => nd.1 (List.mem_map.mpr ⟨x, hx, by rw [z, e]⟩)
      rw [List.map_cons, if_pos e]
      simp
      refine ⟨e, ?_⟩
      have e2 : l.map (fun x => if x.1 = f then (x.1, rs) else x) = l := by
        rw [List.map_congr_left this]
        simp
      exact e2
    | succ i =>
      have hp' : l[i]? = some p := by simpa using hp
      have ha : ¬ a.1 = f := fun z => nd.1 (List.mem_map.mpr ⟨p, List.mem_of_getElem? hp', by rw [z, e]⟩)
      rw [List.map_cons, if_neg ha, ih nd.2 hp']
      simp
theorem leaveN_put {h : Int} {pcs : List (Int × List Row)} {i : Nat} {p : Int × List Row} (nd : (pcs.map (·.1)).Nodup) (hp : pcs[i]? = some p) : putP (leaveN h pcs i) p.1 (noHand h p.2) = leaveN h pcs (i + 1) := by
  have hi : i < pcs.length := (List.getElem?_eq_some_iff.mp hp).1
  have e1 : pcs[i] = p := (List.getElem?_eq_some_iff.mp hp).2
  have kn : ((leaveN h pcs i).map (·.1)) = pcs.map (·.1) := by
    unfold leaveN
    rw [List.map_append, List.map_map]
    have : ((fun x : Int × List Row => x.1) ∘ fun p : Int × List Row => (p.1, noHand h p.2)) = fun x => x.1 := rfl
    rw [this, ← List.map_append, List.take_append_drop]
  have la : ((pcs.take i).map fun p => (p.1, noHand h p.2)).length = i := by rw [List.length_map, List.length_take]; omega
  have at_ : (leaveN h pcs i)[i]? = some p := by
    unfold leaveN
    rw [List.getElem?_append_right (by omega), la, Nat.sub_self, List.getElem?_drop]
    simpa using hp
  rw [putP_at (by rw [kn]; exact nd) at_ rfl]
  have t1 : (leaveN h pcs i).take i = (pcs.take i).map fun p => (p.1, noHand h p.2) := by
    unfold leaveN
    rw [List.take_append_of_le_length (by omega), List.take_of_length_le (by omega)]
  have t2 : (leaveN h pcs i).drop (i + 1) = pcs.drop (i + 1) := by
    unfold leaveN
    rw [List.drop_append, List.drop_of_length_le (by omega), la, List.nil_append, List.drop_drop]
    congr 1
    omega
  rw [t1, t2]
  unfold leaveN
  rw [take_next hp, List.map_append, List.append_assoc]
  rfl
section
variable {P : Program} {w : World} {K : PySem.W.Frag} {mg : Str → Option Value} {base : Heap} {hs ns ps : List Int}
/-! ### leave -/
def spleave (K : PySem.W.Frag) (hs ns ps : List Int) : Sp := fun vs H Q _ => ∃ (p d wl : Addr) (S : LS) (h : Int), vs = [.ref p, .int h] ∧ LkAt K H p d wl S ∧ WF hs ns ps S ∧ Tb K H ∧ LetEnd K p d wl (S.leave h) H Q
theorem scleave : FnScope ["self", "hand", "file", "rows", "row", "wish"] ["self", "hand"] (defScope mLeave) := ⟨rfl, rfl, rfl, by decide +kernel, rfl, by decide +kernel, by decide +kernel⟩
theorem ok_leave (T : Txt K mg) (TB : LamX.TabB base mg (He.cT K pLong).1 (He.cT K pLong).2) (l1 : hs.length ≤ 10) (l2 : ns.length ≤ 8) (l3 : ps.length ≤ 13) : OkM P w K mg base CX0 6 "Locks" "leave" ["self", "hand"] (spleave K hs ns ps) := by
  have Glet_in : Ok P w K mg base 5 "let_in" _ _ := ok_let_in (hs := hs) (ns := ns) (ps := ps) T TB l1 l2 l3
  refine T.mLeave.ok scleave (fun _ _ _ _ _ _ us hl => match us, hl with | [_, _], _ => rfl) (fun vs H Q E h => ?_) (fun f cdv A outer s H vs Q E hr h => ?_)
  · obtain ⟨p, d, wl, S, h, rfl, _⟩ := h
    rfl
  · obtain ⟨p, d, wl, S, h, rfl, L, W, tb, k⟩ := h
    have hu := hu_of hr
    have N := Nm.of W l1 l2 l3
    refine ⟨_, (pss_cons (ps_for PassesOwn.never rfl (pi_list (LiI.pe_listItems rfl (pe_fld (pv 0) rfl) (by rfl) T.list (by rfl))) (pg_tup rfl (pgs_cons (pg_name (i := 2) scleave.nd rfl (Or.inl rfl)) (pgs_cons (pg_name (i := 3) scleave.nd rfl (Or.inl rfl)) pgs_nil)))
        (pss_one (ps_dput hu (pe_fld (pv 0) rfl) (pv 2) (pe_lc (own := [("row", 4)]) (g := gName 4) (tt := tTest (tOp rNe (tOp (rIxT K) (tVar 4) (tC (.int 3))) (tVar 1))) (te := tVar 4) rfl scleave.nd (pi_list (pv 3)) (blkOk_by (own := [("row", 4)]) (N := ["self", "hand", "file", "rows", "row", "wish"]) (sc := defScope mLeave) (by decide +kernel)) (fun _ _ _ _ _ => (pg_name (i := 4) scleave.nd rfl (Or.inl rfl))) (fun _ _ _ _ _ => (pts_one (pt_cmpR op_ne (pe_ix ix_tup (pv 4) pe_int (fun _ _ => rfl)) (pv 1) (nomark _)))) (fun _ _ _ _ _ => (pv 4))) rfl)))
      (pss_cons (ps_fld (pv 0) (pe_lc (own := [("wish", 5)]) (g := gName 5) (tt := tTest (tOp rNe (tOp (rIxT K) (tVar 5) (tC (.int 0))) (tVar 1))) (te := tVar 5) rfl scleave.nd (pi_list (pe_fld (pv 0) rfl)) (blkOk_by (own := [("wish", 5)]) (N := ["self", "hand", "file", "rows", "row", "wish"]) (sc := defScope mLeave) (by decide +kernel)) (fun _ _ _ _ _ => (pg_name (i := 5) scleave.nd rfl (Or.inl rfl))) (fun _ _ _ _ _ => (pts_one (pt_cmpR op_ne (pe_ix ix_tup (pv 5) pe_int (fun _ _ => rfl)) (pv 1) (nomark _)))) (fun _ _ _ _ _ => (pv 5))) rfl)
      (pss_one (ps_ret (pe_do Glet_in (hr.mono (by decide)) (pa_cons (pv 0) pa_nil)))))), ?_⟩
    obtain ⟨⟨dx, h1⟩, ⟨kvs, h2, h3⟩, ws, h4, h5⟩ := id L
    refine ⟨_, rfl, p, _, dx, _, _, rfl, h1, T.cl, T.nP, flds_p _ _, d, kvs, rfl, h2, fun H1 q ts sm hq hts nqt hq1 hP => ?_⟩
    have F1 : Fm K [] H H1 := Fm.same sm
    have ek : kvs.length = S.pieces.length := paired_len h3
    have et : ts.length = kvs.length := paired_len hP
    have hq0 : q ≠ d := (ne_of_none h2 hq).symm
    refine ⟨q, rfl, ⟨_, SqL.of hq1⟩, for_list (K := K) (a := q) (xs := ts.map V.ref) (fun i σ H2 => ∃ v2 v3 : Option V, σ = [some (.ref p), some (.int h), v2, v3, none, none] ∧ Fm K [d] H1 H2 ∧ LkAt K H2 p d wl ⟨leaveN h S.pieces i, S.wished⟩ ∧ Ow d H H2)
      ⟨none, none, rfl, Fm.refl, by rw [leaveN_zero]; exact L.fm F1, Ow.fm F1 L.hd (by simp)⟩ (fun i σ H2 _ ⟨_, _, _, F, _⟩ => SqL.of (F.at (by simpa using hq0) hq1 noT_lst)) ?_ ?_⟩
    · rintro i y σ H2 hy ⟨v2, v3, rfl, F2, L2, O2⟩
      obtain ⟨t, ht, rfl⟩ : ∃ t, ts[i]? = some t ∧ y = .ref t := by
        rw [List.getElem?_map] at hy
        cases e : ts[i]? with
        | none => rw [e] at hy; cases hy
        | some z => rw [e] at hy; exact ⟨z, rfl, (Option.some.inj hy).symm⟩
      obtain ⟨kv, hkv, ht1⟩ := Paired.at hP ht
      obtain ⟨pc, hpc, e1, a, ys, e2, naw, ha, R⟩ := Paired.at h3 hkv
      have tnd : t ≠ d := ne_of ht1 (F1.at (by simp) h2 noT_dK) (by intro z; cases z)
      have ht2 : H2 t = some (.tup [kV kv.1, kv.2]) := F2.at (by simpa using tnd) ht1 noT_tup
      rw [e1, e2] at ht2
      have nad : a ≠ d := ne_of ha h2 (by intro z; cases z)
      have ha2 : H2 a = some (.lst ys) := F2.at (by simpa using nad) (F1.at (by simp) ha noT_lst) noT_lst
      have tk2 : Tk H H2 := F1.tup.trans (F2.tk fun b hb => by
        rw [List.mem_singleton] at hb
        exact ⟨_, by rw [hb]; exact F1.at (by simp) h2 noT_dK, rfl⟩)
      have R2 : RowsV H2 ys pc.2 := RowsV.tk tk2 R
      have rl : pc.2.length ≤ 1000 := by
        have e3 : getP S.pieces pc.1 = pc.2 := by
          unfold getP
          have : S.pieces.find? (fun p => decide (p.1 = pc.1)) = some pc := by
            have mem := List.mem_of_getElem? hpc
            cases fd : S.pieces.find? (fun p => decide (p.1 = pc.1)) with
            | none => exact absurd (List.find?_eq_none.mp fd pc mem) (by simp)
            | some z =>
              have z1 : z.1 = pc.1 := by simpa using List.find?_some fd
              rw [map_inj_of W.knd (List.mem_of_find?_eq_some fd) mem z1]
          rw [this]
          rfl
        rw [← e3]
        exact N.rows _
      refine ⟨t, _, rfl, SqT.of ht2, rfl, _, _, rfl, _, _, rfl, rfl, ?_⟩
      refine ⟨_, rfl, a, rfl, ⟨_, SqL.of ha2⟩, fun D hD => lc_run (K := K) hD ha2 (fun j acc Hx => RowsV Hx acc ((pc.2.take j).filter fun r => !decide (r.hd = h))) .nil ?_ ?_⟩
      · intro j x Hx acc hx Fx hDx G
        obtain ⟨r, hr', b, rfl, hb⟩ := Paired.at R2 hx
        have nbD : b ≠ D := ne_of_none hb hD
        have hb' : Hx b = some (.tup r.vs) := Fx.at (by simpa using nbD) (by rw [upd_ne nbD]; exact hb) noT_tup
        refine ⟨rfl, _, rfl, b, _, _, _, rfl, rfl, SqT.of hb', row3, _, rfl, rfl, _, rfl, ?_⟩
        refine ite2 (fun e => ?_) (fun e => ?_)
        · have e : ¬ r.hd = h := by simpa using e
          refine ⟨_, rfl, lc_put Fx hDx ?_ ?_⟩
          · rw [paired_len G]
            exact small_lt (by have := take_len (fun r : Row => !decide (r.hd = h)) pc.2 j; omega)
          · rw [filter_take hr', if_pos (by simp [e])]
            exact Paired.app (RowsV.tk (tk_lst hDx) G) (.cons (RowV.tk (tk_lst hDx) ⟨b, rfl, hb'⟩) .nil)
        · have e : r.hd = h := by simpa using e
          refine ⟨acc, Fx, hDx, ?_⟩
          show RowsV Hx acc (List.filter (fun r => !decide (r.hd = h)) (List.take (j + 1) pc.2))
          rw [filter_take hr', if_neg (by simp [e])]
          exact G
      · intro H3 acc F3 fD hD3 G
        have el : ys.length = pc.2.length := paired_len R2
        rw [el, List.take_length] at G
        have L3 := L2.fm F3
        obtain ⟨⟨dx3, g1⟩, ⟨kvs3, g2, g3⟩, ws3, g4, g5⟩ := id L3
        obtain ⟨_, ⟨kvs2, f2, f3⟩, ws2, f4, _⟩ := id L2
        have hkl : kvs3.length < sizeLine := small_lt (by
          have e1 := paired_len g3
          have e2 : (leaveN h S.pieces i).length = S.pieces.length := by
            unfold leaveN
            rw [List.length_append, List.length_map, List.length_take, List.length_drop]
            omega
          have e3 : kvs3.length = (leaveN h S.pieces i).length := e1
          have := N.pl
          omega)
        refine ⟨_, rfl, p, _, dx3, _, _, rfl, g1, T.cl, T.nP, flds_p _ _, _, rfl, d, _, rfl, DPut.k (k := Sum.inl pc.1) g2 hkl, ?_⟩
        have nDw : D ≠ wl := fun e => fD _ (e ▸ f4) noT_lst
        have L4 := L3.dput (H := H3) (f := pc.1) (rs := noHand h pc.2) g2 nDw hD3 G
        have F23 : Fm K [d] H2 (upd H3 d (.dK (putK kvs3 (Sum.inl pc.1) (.ref D)))) := F3.nil.trans (Fm.put g2 rfl (by simp))
        refine ⟨_, _, rfl, F2.trans F23, ?_, ?_⟩
        · rw [← leaveN_put W.knd hpc]
          exact L4
        · refine O2.trans (fun a ⟨ks, k2, e, m⟩ => ?_) fun z => (F1.nil.trans F2).fresh2 (fun b hb => L2.nf b (by simp at hb; simp [hb]))
          rw [upd_same] at e
          cases e
          rcases putK_mem m with ⟨k3, h3⟩ | h3
          · have e5 := F3.at (by simp) f2 noT_dK
            rw [g2] at e5
            cases e5
            exact .inl ⟨_, k3, f2, h3⟩
          · cases h3
            exact .inr fD
    · rintro σ H2 ⟨v2, v3, rfl, F2, L2, O2⟩
      have el : (ts.map V.ref).length = S.pieces.length := by rw [List.length_map]; omega
      rw [el, leaveN_all] at L2
      have F2' : Fm K [d] H H2 := F1.nil.trans F2
      have fr2 : ∀ z, Fresh H2 z → Fresh H z := fun z => F2'.fresh2 (fun b hb => L2.nf b (by simp at hb; simp [hb]))
      obtain ⟨⟨dx2, g1⟩, ⟨kvs2, g2, g3⟩, ws2, g4, g5⟩ := id L2
      refine ⟨_, rfl, p, _, dx2, _, _, rfl, g1, T.cl, T.nW, flds_w _ _, wl, rfl, ⟨_, SqL.of g4⟩, fun D hD => lc_run (K := K) hD g4 (fun j acc Hx => WishesV Hx acc ((S.wished.take j).filter fun r => !decide (r.hd = h))) .nil ?_ ?_⟩
      · intro j x Hx acc hx Fx hDx G
        obtain ⟨r, hr', b, rfl, hb⟩ := Paired.at g5 hx
        have nbD : b ≠ D := ne_of_none hb hD
        have hb' : Hx b = some (.tup r.vs) := Fx.at (by simpa using nbD) (by rw [upd_ne nbD]; exact hb) noT_tup
        refine ⟨rfl, _, rfl, b, _, _, _, rfl, rfl, SqT.of hb', wish0, _, rfl, rfl, _, rfl, ?_⟩
        refine ite2 (fun e => ?_) (fun e => ?_)
        · have e : ¬ r.hd = h := by simpa using e
          refine ⟨_, rfl, lc_put Fx hDx ?_ ?_⟩
          · rw [paired_len G]
            exact small_lt (by have := take_len (fun r : Wish => !decide (r.hd = h)) S.wished j; have := N.wl; omega)
          · rw [filter_take hr', if_pos (by simp [e])]
            exact Paired.app (WishesV.tk (tk_lst hDx) G) (.cons (WishV.tk (tk_lst hDx) ⟨b, rfl, hb'⟩) .nil)
        · have e : r.hd = h := by simpa using e
          refine ⟨acc, Fx, hDx, ?_⟩
          show WishesV Hx acc (List.filter (fun r => !decide (r.hd = h)) (List.take (j + 1) S.wished))
          rw [filter_take (show S.wished[j]? = some r from hr'), if_neg (by simp [e])]
          exact G
      · intro H3 acc F3 fD hD3 G
        have elw : ws2.length = S.wished.length := paired_len g5
        rw [elw, List.take_length] at G
        have hp3 := F3.at (by simp) g1 noT_ins
        refine ⟨_, rfl, p, _, dx2, _, rfl, hp3, T.cl, T.nW, by rw [flds_eq]; show 2 < 1000; decide, ?_⟩
        have eput : putF "wished" (.ref D) (flds d wl) = flds d D := flds_put _ _ _
        rw [eput]
        have tk3 : Tk H3 (upd H3 p (.ins (He.ga K "Locks") dx2 (flds d D))) := Tk.put hp3 fun _ z => by cases z
        have L3 := L2.fm F3
        obtain ⟨_, ⟨kvs3, k2', k3'⟩, _⟩ := id L3
        have npd : p ≠ d := L2.ne.1
        have npD : D ≠ p := fun e => fD _ (e ▸ g1) noT_ins
        have L4 : LkAt K (upd H3 p (.ins (He.ga K "Locks") dx2 (flds d D))) p d D (S.leave h) := by
          refine ⟨⟨dx2, upd_same⟩, ⟨kvs3, by rw [upd_ne npd.symm]; exact k2', ?_⟩, acc, by rw [upd_ne npD]; exact hD3, WishesV.tk tk3 G⟩
          have g3' : Paired (PcV H2 wl) kvs3 (S.pieces.map fun p => (p.1, noHand h p.2)) := by
            have e5 := F3.at (by simp) g2 noT_dK
            rw [k2'] at e5
            cases e5
            exact g3
          exact Paired.mapP g3' fun _ _ z => z.keep (fun a ys _ e => by rw [upd_ne (ne_of (F3.at (by simp) e noT_lst) hp3 (by intro z; cases z))]; exact F3.at (by simp) e noT_lst) (F3.tup.trans tk3) fun a ys _ e z => fD _ (z ▸ e) noT_lst
        have F24 : Fm K [p] H2 (upd H3 p (.ins (He.ga K "Locks") dx2 (flds d D))) := F3.nil.trans (Fm.put hp3 rfl (by simp))
        have O24 : Ow d H2 (upd H3 p (.ins (He.ga K "Locks") dx2 (flds d D))) := Ow.fm F24 L2.hd (by simp; exact npd.symm)
        generalize upd H3 p (.ins (He.ga K "Locks") dx2 (flds d D)) = H4 at L4 F24 O24
        have fr4 : ∀ z, Fresh H4 z → Fresh H2 z := fun z => F24.fresh2 (fun b hb => L4.nf b (by simp at hb; simp [hb]))
        have M4 : Mv K p d wl D H H4 := ⟨(F2'.mono (by simp)).trans (F24.mono (by simp)), .inr (fr2 _ fD), O2.trans O24 fr2, fun z hz => fr2 z (fr4 z hz)⟩
        refine ⟨_, rfl, p, d, D, _, rfl, L4, W.leave, F24.tb (F2'.tb tb), fun H5 r S' told F5 L5 LI B O5 frr nrd nrw nro hr5 => ?_⟩
        have M5 : Mv K p d D D H4 H5 := ⟨F5.mono (by simp), .inl rfl, O5, fun z => F5.fresh2 (fun b hb => L5.nf b (by simp at hb; rcases hb with rfl | rfl <;> simp))⟩
        have of5 := Off.new L4 frr
        exact k H5 r S' told D (M4.trans M5) L5 LI B (fr2 _ (fr4 _ frr)) hr5 (fun t => F5.tb (F24.tb (F2'.tb t))) ⟨of5.1, of5.2.1, of5.2.2.1, nro⟩
end
end FS
/-! F12 -/
namespace FS
open PySem PySem.Spec PyProof.Rows L2
abbrev mRing : Stmt := inClass (top 5) 0
/-- what the top has written of the exceptions -/
structure Tx (K : PySem.W.Frag) (mg : Str → Option Value) : Prop where
  gSE : mg "ShelfError" = some (.ref (He.ga K "ShelfError"))
  gR : mg "Ring" = some (.ref (He.ga K "Ring"))
  gW : mg "Waiting" = some (.ref (He.ga K "Waiting"))
  rdSE : PySem.W.readsIn K (He.ga K "ShelfError") (.type "type") = true
  gaSE : PySem.W.specialIn K (.ref (He.ga K "ShelfError")) "__getattribute__" = some (some (.builtin "type.__getattribute__"))
  fcSE : PySem.W.findCls K (.ref (He.ga K "ShelfError")) (.type "type") "__init__" = some (.val (.builtin "ValueError.__init__"))
  rOex : OexC K (He.ga K "Ring")
  rInit : PySem.W.findIn K (.ref (He.ga K "Ring")) "__init__" = some (some (.ref (He.ma K (He.ga K "Ring") "__init__")))
  rTy : PySem.W.typeIn K (.ref (He.ma K (He.ga K "Ring") "__init__")) = some (.type "function")
  rFun : ∃ fd, FunD K "__init__" "Ring.__init__" (defArgs mRing) (defBody mRing) (defScope mRing) [] [] (He.ma K (He.ga K "Ring") "__init__") fd
  rNo : PySem.W.findIn K (.ref (He.ga K "Ring")) "ring" = some none
  wEx : PySem.W.excIn K (He.ga K "Waiting") [.type "ValueError", .type "Exception", .type "BaseException", .type "object"] "ValueError.__new__" = true
  wKp : PySem.W.keepIn K (.ref (He.ga K "Waiting")) = true
  wSb : PySem.W.subIn K (.ref (He.ga K "Waiting")) (.type "BaseException") = some true
  wTy : PySem.W.typeIn K (.ref (He.ga K "Waiting")) = some (.type "type")
section
variable {X : Cx} {e : Expr} {es : List Expr} {ta : TA} {p p1 p2 pos : Pos} {SE : Addr}
theorem pe_seinit {pl : Sem Bool} (hg : Gl X "ShelfError") (hm : X.mg "ShelfError" = some (.ref SE)) (rd : PySem.W.readsIn X.K SE (.type "type") = true) (ga : PySem.W.specialIn X.K (.ref SE) "__getattribute__" = some (some (.builtin "type.__getattribute__")))
    (vV : PySem.W.findCls X.K (.ref SE) (.type "type") "__init__" = some (.val (.builtin "ValueError.__init__"))) (ha : PA X (e :: es) ta)
    (hc : eval (.Call (.Attribute (.Name "ShelfError" p1) "__init__" p2) (e :: es) [] pos) X.env = (do
      let ov ← eval (.Name "ShelfError" p1) X.env
      standAt p2.atName
      let (f, first) ← holding [ov] (getMethod ov "__init__" pl)
      callWith pos f first (backTo pos (starEach (e :: es) X.env)) (backToKw pos (keywordEach [] X.env))) := by rfl)
    (he : starEach (e :: es) X.env = (false, eval e X.env) :: starEach es X.env := by rfl) (hpl : (backTo pos (starEach es X.env)).any (·.1) = false := by rfl) :
    PE X (.Call (.Attribute (.Name "ShelfError" p1) "__init__" p2) (e :: es) [] pos) (tVeI X.K ta) := by
  refine ⟨fun pins s σ H Q I h => ?_⟩
  refine PySem.W.methodCall_KW (ld_glob I hg hm ?_ (by decide)) hc
  refine PySem.W.method_cls I.kIn ga (PySem.W.cls_value I.kIn rd vV (by decide +kernel) ?_)
  show wpAny _ _ (callWith pos (Value.builtin "ValueError.__init__") [] (backTo pos (starEach (e :: es) X.env)) []) _ _ _
  refine PyProof.Rows.callWith_method1 (thn (ha.run pos pins _ σ H _ (I.tok _) h) fun us s1 ⟨vs, H1, I1, r1, a, C, ws, ev, hl, T, ea, q⟩ => ?_) he hpl
  subst ev
  cases r1 with
  | @cons _ u0 _ ur ra rw' =>
    obtain rfl : u0 = Value.ref a := ra
    have hlen : ur.length ≤ sizeLine := by
      rw [← Paired.length rw', sizeLine_eq]
      omega
    exact oinit_ok T I1 ea hlen fun s' J => ⟨.non, H1, J, rfl, q⟩
end
section
variable {P : Program} {w : World} {K : PySem.W.Frag} {mg : Str → Option Value} {base : Heap} {hs ns ps : List Int}
def spRing (K : PySem.W.Frag) : Sp := fun vs H Q _ => ∃ (a : Addr) (v : V), vs = [.ref a, v] ∧ H a = some (exo a (He.ga K "Ring") none) ∧
  ∀ dx, H dx = none → dx ≠ a → Q .non (upd (upd H dx (exd dx [("ring", v)])) a (exo a (He.ga K "Ring") (some dx)))
theorem scRing : FnScope ["self", "ring"] ["self", "ring"] (defScope mRing) := ⟨rfl, rfl, rfl, by decide +kernel, rfl, by decide +kernel, by decide +kernel⟩
theorem ok_Ring (X : Tx K mg) : ∃ fd, FnOk P w K mg base CX0 1 (He.ma K (He.ga K "Ring") "__init__") fd ["self", "ring"] (spRing K) ∧ Binds K fd ["self", "ring"] [] := by
  obtain ⟨fd, F⟩ := X.rFun
  refine ⟨fd, F.ok scRing (fun vs H Q E h => ?_) fun cdv A outer s H vs Q E hr h => ?_, F.bindsN fun _ _ _ _ _ _ us hl => match us, hl with | [_, _], _ => rfl⟩
  · obtain ⟨a, v, rfl, _⟩ := h
    rfl
  · obtain ⟨a, v, rfl, ha, k⟩ := h
    refine ⟨_, PSs.nox (pss_cons (ps_expr (pe_seinit (by rfl) X.gSE X.rdSE X.gaSE X.fcSE (pa_cons (pv 0) (pa_cons pe_str pa_nil)))) (pss_one (ps_ost (pv 0) (pv 1)))), ?_⟩
    refine ⟨_, rfl, a, _, _, rfl, by decide, X.rOex, ha, ?_⟩
    exact ⟨_, rfl, _, rfl, a, _, rfl, X.rOex, X.rNo, .inl ⟨ha, fun dx hd ne => k dx hd ne⟩⟩
end
end FS
/-! F13 -/
namespace FS
open PySem PySem.Spec PyProof.Rows L2
section
variable {P : Program} {w : World} {K : PySem.W.Frag} {mg : Str → Option Value} {base : Heap} {hs ns ps : List Int}
/-- how take ends -/
structure TakeK (K : PySem.W.Frag) (p d wl : Addr) (S : LS) (x : Wish) (H : Hp) (Q : VK) (E : XK) : Prop where
  wait : ∀ H', (∃ v ∈ S.wished, v.hd = x.hd) → Fm K [] H H' → E (.ref (He.ga K "Waiting")) none H'
  ring : ∀ H' d' fs, (∀ v ∈ S.wished, v.hd ≠ x.hd) → Fm K [] H H' → H' d' = some (.xd fs) → E (.ref (He.ga K "Ring")) (some d') H'
  held : ∀ H' q r S' told, (∀ v ∈ S.wished, v.hd ≠ x.hd) → S.hold x = [] → Mv K p d wl wl H H' → LkAt K H' p d wl S' → LetIn (S.put x) S' told → Blocked S' → (Tb K H → Tb K H') → Fresh H q → H' q = some (.tup [.str "held", .ref r]) → Fresh H r → H' r = some (.lst (told.map V.int)) → Off H' p d wl r → Q (.ref q) H'
  waits : ∀ H' q r R, (∀ v ∈ S.wished, v.hd ≠ x.hd) → S.hold x ≠ [] → NoRing S x.hd (S.hold x) R → Mv K p d wl wl H H' → LkAt K H' p d wl (S.wish x) → (Tb K H → Tb K H') → Fresh H q → H' q = some (.tup [.str "waits", .ref r]) → Fresh H r → H' r = some (.lst ((S.hold x).map V.int)) → Off H' p d wl r → Q (.ref q) H'
def sptake (K : PySem.W.Frag) (hs ns ps : List Int) : Sp := fun vs H Q E => ∃ (p d wl : Addr) (S : LS) (x : Wish), vs = [.ref p, .int x.hd, .int x.fl, .str (sortS x.wr), .int x.lo, .int x.hi] ∧ LkAt K H p d wl S ∧ WF hs ns ps S ∧ WOk hs ns ps x ∧ Tb K H ∧ TakeK K p d wl S x H Q E
theorem sctake : FnScope ["self", "hand", "file", "sort", "low", "high", "wish", "others", "ring"] ["self", "hand", "file", "sort", "low", "high"] (defScope mTake) := ⟨rfl, rfl, rfl, by decide +kernel, rfl, by decide +kernel, by decide +kernel⟩
theorem ok_take (T : Txt K mg) (X : Tx K mg) (TB : LamX.TabB base mg (He.cT K pLong).1 (He.cT K pLong).2) (l1 : hs.length ≤ 10) (l2 : ns.length ≤ 8) (l3 : ps.length ≤ 13) :
    OkM P w K mg base (CX P w) 6 "Locks" "take" ["self", "hand", "file", "sort", "low", "high"] (sptake K hs ns ps) := by
  have Gwish_of : Ok P w K mg base 1 "wish_of" _ _ := ok_wish_of T
  have Gholders : Ok P w K mg base 2 "holders" _ _ := ok_holders T
  have Gput_held : Ok P w K mg base 4 "put_held" _ _ := ok_put_held T TB
  have Glet_in : Ok P w K mg base 5 "let_in" _ _ := ok_let_in (hs := hs) (ns := ns) (ps := ps) T TB l1 l2 l3
  have Gring_by : Ok P w K mg base 4 "ring_by" _ _ := ok_ring_by (hs := hs) (ns := ns) (ps := ps) T l1 l2 l3
  obtain ⟨fdR, FR, bR⟩ := ok_Ring (P := P) (w := w) (base := base) X
  refine T.mTake.okX sctake (fun _ _ _ _ _ _ us hl => match us, hl with | [_, _, _, _, _, _], _ => rfl) (fun vs H Q E h => ?_) (fun f cdv A outer s H vs Q E hr h => ?_)
  · obtain ⟨p, d, wl, S, x, rfl, _⟩ := h
    rfl
  · obtain ⟨p, d, wl, S, x, rfl, L, W, hx, tb, k⟩ := h
    have hu := hu_of hr
    have N := Nm.of W l1 l2 l3
    refine ⟨_, (pss_cons (ps_if (pt_cmpR op_notN (pe_do Gwish_of (hr.mono (by decide)) (pa_cons (pv 0) (pa_cons (pv 1) pa_nil))) pe_non (nomark _))
        (pss_one (ps_raise rfl (takes_of rfl rfl rfl rfl) (pmk_own PySem.F.excBase_ValueError X.wEx X.gW X.wKp (raises_own X.wSb X.wTy) rfl)))
        pss_nil)
      (pss_cons (ps_set (i := 6) sctake.nd rfl (Or.inl rfl) (pe_tup (pa_cons (pv 1) (pa_cons (pv 2) (pa_cons (pv 3) (pa_cons (pv 4) (pa_cons (pv 5) pa_nil)))))))
      (pss_cons (ps_set (i := 7) sctake.nd rfl (Or.inl rfl) (pe_do Gholders (hr.mono (by decide)) (pa_cons (pv 0) (pa_cons (pv 6) pa_nil))))
      (pss_cons (ps_if (pt_cmpR (op_eqD hr.units) (pv 7) (pe_lst pa_nil) (nomark _))
        (pss_cons (ps_expr (pe_do Gput_held (hr.mono (by decide)) (pa_cons (pv 0) (pa_cons (pv 6) pa_nil))))
        (pss_one (ps_ret (pe_tup (pa_cons pe_str (pa_cons (pe_do Glet_in (hr.mono (by decide)) (pa_cons (pv 0) pa_nil)) pa_nil))))))
        pss_nil)
      (pss_cons (ps_set (i := 8) sctake.nd rfl (Or.inl rfl) (pe_do Gring_by (hr.mono (by decide)) (pa_cons (pv 0) (pa_cons (pv 1) (pa_cons (pv 7) pa_nil)))))
      (pss_cons (ps_if (pt_cmpR op_notN (pv 8) pe_non (nomark _))
        (pss_one (ps_raise rfl (takes_of rfl rfl rfl rfl) (pmk_oex X.rOex X.rInit X.rTy FR (hr.mono (by decide)) bR .nil pass0 (by rfl) X.gR (pa_cons (pv 8) pa_nil))))
        pss_nil)
      (pss_cons (ps_expr (pe_bm PySem.F.plainAttrs_list PySem.F.slot_list_append PySem.F.type_list_append mt_append (pe_fld (pv 0) rfl) (pa_cons (pv 6) pa_nil)))
      (pss_one (ps_ret (pe_tup (pa_cons pe_str (pa_cons (pv 7) pa_nil)))))))))))), ?_⟩
    refine ⟨_, rfl, _, rfl, p, d, wl, S, _, rfl, L, fun hn => ?_, fun v y hy hv => ?_⟩
    · have hno : ∀ v ∈ S.wished, v.hd ≠ x.hd := fun v hv e => by
        have := List.find?_eq_none.mp hn v hv
        simp [e] at this
      refine ⟨rfl, _, rfl, iteF ?_⟩
      refine ⟨_, rfl, _, rfl, _, rfl, _, rfl, _, rfl, (by show 5 ≤ sizeLine; decide), fun t ht => ?_⟩
      have F1 : Fm K [] H (upd H t (.tup x.vs)) := Fm.new ht
      have ht1 : (upd H t (.tup x.vs)) t = some (.tup x.vs) := upd_same
      generalize hH1 : upd H t (.tup x.vs) = H1 at F1 ht1
      have hH1' : upd H t (.tup [.int x.hd, .int x.fl, .str (sortS x.wr), .int x.lo, .int x.hi]) = H1 := hH1
      rw [hH1']
      have L1 := L.fm F1
      refine ⟨_, rfl, _, rfl, p, d, wl, S, _, x, rfl, L1, ⟨t, rfl, ht1⟩, Nat.le_trans (N.rows _) (by decide), N.hold x, fun H2 o F2 fo ho => ?_⟩
      have F12 := F1.trans F2
      have L2 := L.fm F12
      have foH : Fresh H o := F1.fresh (by simp) fo
      refine ⟨_, rfl, (by show 0 ≤ sizeLine; decide), fun e he => ?_⟩
      have F3 : Fm K [] H (upd H2 e (.lst [])) := F12.trans (Fm.new he)
      have ho3 : (upd H2 e (.lst [])) o = some (.lst ((S.hold x).map V.int)) := by rw [upd_ne (ne_of_none ho he)]; exact ho
      refine ⟨_, _, .lst (SqL.of ho3) (ints_dp _), .lst (SqL.of upd_same) .nil, shaped_ints _, shaped_ints [], _, rfl, ?_⟩
      rw [op_emp]
      have ht3 : (upd H2 e (.lst [])) t = some (.tup x.vs) := by
        have := F2.at (by simp) ht1 noT_tup
        rw [upd_ne (ne_of_none this he)]
        exact this
      generalize upd H2 e (.lst []) = H3 at F3 ho3 ht3
      have L3 := L.fm F3
      have M3 : Mv K p d wl wl H H3 := Mv.fm0 L F3
      refine ite2 (fun e0 => ?_) (fun e0 => ?_)
      · have e0 : S.hold x = [] := of_decide_eq_true e0
        refine ⟨_, rfl, _, rfl, p, d, wl, S, _, x, rfl, L3, ⟨t, rfl, ht3⟩, N, F3.tb tb, fun H4 F4 L4 O4 => ?_⟩
        have M4 : Mv K p d wl wl H3 H4 := ⟨F4.mono (by simp), .inl rfl, O4, fun z => F4.fresh2 (fun b hb => L4.nf b (by simp at hb; simp [hb]))⟩
        refine ⟨_, rfl, p, d, wl, _, rfl, L4, W.put hx e0, F4.tb (F3.tb tb), fun H5 r S' told F5 L5 LI B O5 frr nrd nrw nro hr5 => ⟨(by show 2 ≤ sizeLine; decide), fun q hq => ?_⟩⟩
        have M5 : Mv K p d wl wl H4 H5 := ⟨F5.mono (by simp), .inl rfl, O5, fun z => F5.fresh2 (fun b hb => L5.nf b (by simp at hb; rcases hb with rfl | rfl <;> simp))⟩
        have M6 : Mv K p d wl wl H5 (upd H5 q (.tup [.str "held", .ref r])) := Mv.fm0 L5 (Fm.new hq)
        have frH : Fresh H r := M3.fr r (M4.fr r frr)
        have of4 := Off.new L4 frr
        have of5 : Off H5 p d wl r := ⟨of4.1, of4.2.1, of4.2.2.1, nro⟩
        obtain ⟨of6, hr6⟩ := of5.mv M6 hr5 noT_lst
        exact k.held _ q r S' told hno e0 (((M3.trans M4).trans M5).trans M6) (L5.fm (Fm.new hq)) LI B (fun t => (Fm.new hq : Fm K [] _ _).tb (F5.tb (F4.tb (F3.tb t)))) (M3.fr q (M4.fr q (M5.fr q (Fresh.of hq)))) upd_same frH hr6 of6
      · have e0 : S.hold x ≠ [] := of_decide_eq_false (by simpa using e0)
        have hin : ∀ y ∈ S.hold x, y ∈ hs := fun y hy => by
          obtain ⟨r, hr, _, rfl⟩ := holders_mem.mp hy
          exact (W.dom _ r hr).1
        refine ⟨_, rfl, _, rfl, _, rfl, p, d, wl, o, S, x.hd, S.hold x, rfl, L3, W, ho3, holders_nodup _ _, holders_own, hin, fun H4 R F4 NR => ?_, fun H4 g F4 => ?_⟩
        · refine ⟨_, rfl, rfl, _, rfl, iteF ?_⟩
          have F34 := F3.trans F4
          have L4 := L.fm F34
          have ho4 := F4.at (by simp) ho3 noT_lst
          have ht4 := F4.at (by simp) ht3 noT_tup
          obtain ⟨⟨dx, h1⟩, ⟨kvs, h2, h3⟩, ws, h4, h5⟩ := id L4
          have hwl : ws.length < sizeLine := small_lt (by
            have e1 := paired_len h5
            have e2 := N.wl
            omega)
          refine ⟨_, rfl, p, _, dx, _, _, rfl, h1, T.cl, T.nW, flds_w _ _, .inl ⟨rfl, _, SqL.of h4⟩, _, rfl, wl, _, _, rfl, rfl, h4, hwl, ?_⟩
          obtain ⟨L5, F5, tk5⟩ := L4.wset (zs := ws ++ [.ref t]) (W := S.wished ++ [x]) (Paired.app h5 (.cons ⟨t, rfl, ht4⟩ .nil))
          have L5 : LkAt K (upd H4 wl (.lst (ws ++ [.ref t]))) p d wl (S.wish x) := L5
          have of0 : Off H p d wl o := Off.new L foH
          have now : o ≠ wl := of0.2.2.1
          have nO4 : ¬ Own H4 d o := fun ⟨ks, k2, e, m⟩ => by
            obtain ⟨_, ⟨kvs0, h20, _⟩, _⟩ := id L
            have e4 := F34.at (by simp) h20 noT_dK
            rw [e] at e4
            cases e4
            exact of0.2.2.2 ⟨_, k2, h20, m⟩
          have ho5 := F5.at (by simpa using now) ho4 noT_lst
          have ow5 : Ow d H4 (upd H4 wl (.lst (ws ++ [.ref t]))) := Ow.fm F5 L4.hd (by simp; exact L.ne.2.2)
          generalize upd H4 wl (.lst (ws ++ [.ref t])) = H5 at L5 F5 tk5 ho5 ow5
          have M4 : Mv K p d wl wl H H4 := Mv.fm0 L F34
          have M5 : Mv K p d wl wl H4 H5 := ⟨F5.mono (by simp), .inl rfl, ow5, fun z => F5.fresh2 (fun b hb => L5.nf b (by simp at hb; simp [hb]))⟩
          refine ⟨_, rfl, (by show 2 ≤ sizeLine; decide), fun q hq => ?_⟩
          have M6 : Mv K p d wl wl H5 (upd H5 q (.tup [.str "waits", .ref o])) := Mv.fm0 L5 (Fm.new hq)
          have of5 : Off H5 p d wl o := ⟨of0.1, of0.2.1, of0.2.2.1, fun z => (ow5 _ z).elim nO4 fun f => f _ ho4 noT_lst⟩
          · obtain ⟨of6, hr6⟩ := of5.mv M6 ho5 noT_lst
            exact k.waits _ q o R hno e0 NR ((M4.trans M5).trans M6) (L5.fm (Fm.new hq)) (fun t => (Fm.new hq : Fm K [] _ _).tb (F5.tb (F34.tb t))) (M4.fr q (M5.fr q (Fresh.of hq))) upd_same foH hr6 of6
        · refine ⟨_, rfl, rfl, _, rfl, iteT ?_⟩
          refine ⟨_, rfl, (by show 1 ≤ 1000; decide), fun a ha => ⟨a, .ref g, rfl, upd_same, fun dx hdx ne => ⟨rfl, dx, [("ring", .ref g)], upd_same, ?_, ?_, ?_⟩⟩⟩
          · rw [upd_ne ne]
            exact upd_same
          · have e : (upd H4 a (exo a (He.ga K "Ring") none)) dx = H4 dx := upd_ne ne
            rw [← e]
            exact hdx
          · have hdx4 : H4 dx = none := by
              have e : (upd H4 a (exo a (He.ga K "Ring") none)) dx = H4 dx := upd_ne ne
              rw [← e]
              exact hdx
            refine k.ring _ dx _ hno ((F3.trans F4).trans (Fm.same fun b o e => ?_)) upd_same
            have nb : b ≠ dx := ne_of_none e hdx4
            have na : b ≠ a := ne_of_none e ha
            rw [upd_ne nb, del_ne na, upd_ne na, upd_ne nb, upd_ne na]
            exact e
    · have hmem := List.mem_of_find?_eq_some hy
      have e1 : y.hd = x.hd := by simpa using List.find?_some hy
      obtain ⟨t, rfl, ht⟩ := hv
      exact ⟨rfl, _, rfl, iteT (k.wait H ⟨y, hmem, e1⟩ Fm.refl)⟩
end
end FS
/-! F14 -/
namespace FS
open PySem PySem.Spec PyProof.Rows L2 L2H
/-! ### a def called where an exception is handled -/
structure FnP (P : Program) (w : World) (K : PySem.W.Frag) (mg : Str → Option Value) (base : Heap) (k : Nat) (f : Addr) (fd : FuncData) (ps : List Str) (sp : Sp) (p : Addr × Obj) : Prop where
  len : ∀ vs H Q E, sp vs H Q E → vs.length = ps.length
  run : ∀ (A : Around) (outer : List Env) (s : Shared) (H : Hp) (args : Args) (us : List Value) (vs : List V) (Q : VK) (E : XK), RoomH k A → PinOk outer H s p → Env0 P w K mg base A outer s H → BindsTo s fd args (ps.zip us) → Vals vs us → sp vs H Q E →
    codeAny (model P w) A (.call (.ref f) args) (CR CX0 outer P w H s Q E) s
theorem fn_ofP {P : Program} {w : World} {K : PySem.W.Frag} {mg : Str → Option Value} {base : Heap} {k : Nat} {f : Addr} {name qual : Str} {params : Arguments} {body : List Stmt} {scope : Scope} {dV kV doc pm cdv ct oc : Value} {an od : Option Addr}
    {osl : Array (Option Value)} {N ps : List Str} {sp : Sp} {p : Addr × Obj} (lk : K.lookup f = some ⟨oc, od, .func (PySem.W.fnOf name qual params body scope dV kV doc pm an cdv ct), osl⟩) (hcd : PySem.W.codeIn K cdv qual = true) (S : FnScope N ps scope)
    (len : ∀ vs H Q E, sp vs H Q E → vs.length = ps.length)
    (hbody : ∀ (A : Around) (outer : List Env) (s : Shared) (H : Hp) (vs : List V) (Q : VK) (E : XK), RoomH k (A.deeper (envOfC qual scope s.heap.objs.size f cdv)) → sp vs H Q E →
      ∃ t, PSs (cxH CX0 P w K mg base N qual scope f cdv A outer s H E p) body t ∧ t { nx := fun _ H' => Q .non H', rt := Q } (L2.start N vs) H) :
    FnP P w K mg base (k + 1) f (PySem.W.fnOf name qual params body scope dV kV doc pm an cdv ct) ps sp p := by
  refine ⟨len, fun A outer s H args us vs Q E hr hpin e0 hb r hsp => ?_⟩
  have hl := len _ _ _ _ hsp
  have KX : K.In s.heap := e0.mod.kin.keeps fun b o e => (e0.bs b o e).1
  have lim : s.heap.NoLimit := e0.mod.nolimit.keeps fun b o e => (e0.bs b o e).1
  have hkind : ∀ y ∈ ps.zip us, scope.names.lookup y.1 = some .local ∨ (scope.names.lookup y.1 = some .cell ∧ ((cellsFrom (s.heap.objs.size + 1) scope.names []).lookup y.1).isSome = true) := fun ⟨n, v⟩ hy => by
    rcases S.par n (List.of_mem_zip hy).1 with q | q
    · exact .inl q
    · exact .inr ⟨q, PySem.W.cellsFrom_some _ _ _ (.inl q)⟩
  refine codeAny_call_function hr.depth (KX _ _ lk) rfl S.co S.gen rfl (PySem.W.codeRec_of KX hcd) (hb _ _ _ _ ?_)
  refine wpAny_newFunctionEnv_cells S.kind hkind fun env he s1 x => ?_
  subst he
  refine ⟨lim.keeps x.toInCall.keep, codeAny_func ?_⟩
  obtain ⟨t, ht, hq⟩ := hbody A outer s H vs Q E (hr.deeper _) hsp
  have I : Inv (cxH CX0 P w K mg base N qual scope f cdv A outer s H E p) [] (L2.start N vs) H s1 := inv_startH S hpin e0 hl r x
  refine wpAny_mono (ht.run [] s1 (L2.start N vs) H _ I hq) (fun fl s' hs => ?_) fun e s' hs => hs
  have fin : ∀ {σ' : L2.St} {H' : Hp} {v : V} {u : Value}, Inv (cxH CX0 P w K mg base N qual scope f cdv A outer s H E p) [] σ' H' s' → RelV v u → Q v H' → CE outer P w H s Q u s' :=
    fun {σ' H' v u} J rv q => ⟨v, H', J.os, J.bare, J.base, J.hok, rv, q⟩
  cases fl with
  | ret u =>
    obtain ⟨v, σ', H', J, rv, q⟩ := hs
    exact fin J rv q
  | next =>
    obtain ⟨σ', H', J, q⟩ := hs
    exact fin (v := V.non) (u := Value.none) J rfl q
  | brk =>
    obtain ⟨_, _, _, q⟩ := hs
    exact False.elim q
  | cont =>
    obtain ⟨_, _, _, q⟩ := hs
    exact False.elim q
section
variable {X : Cx} {k : Nat} {f : Addr} {fd : FuncData} {ps : List Str} {sp : Sp} {x : Str} {q pos : Pos} {e : Expr} {es : List Expr} {t : TA} {p : Addr × Obj}
theorem pe_callP (F : FnP X.prog X.w X.K X.mg X.base k f fd ps sp p) (hr : RoomH k X.A) (hp : p ∈ X.pn) (hg : Gl X x) (hm : X.mg x = some (.ref f)) (hk : PySem.W.keepIn X.K (.ref f) = true) (hb : Binds X.K fd ps [])
    (ha : PA X (e :: es) t) (hdb : (x == ("__debug__" : Str)) = false := by decide) (he : starEach (e :: es) X.env = (false, eval e X.env) :: starEach es X.env := by rfl) (hpl : (backTo pos (starEach es X.env)).any (·.1) = false := by rfl) :
    PE X (.Call (.Name x q) (e :: es) [] pos) (tCall sp [] E0 t) := by
  refine ⟨fun pins s σ H Q I h => ?_⟩
  refine wpAny_Call_Name_kw (ld_glob I hg hm ?_ hdb)
  refine PySem.W.callWith_K (h₀ := X.base) I.ok.mod.kin hk (thn (ha.run pos pins s σ H _ I h) fun us s1 ⟨vs, H1, I1, r, q⟩ => ⟨I1.kIn, ?_⟩) he hpl
  have q : sp vs H1 Q E0 := by simpa using q
  have hl : us.length = ps.length := by rw [← r.length]; exact F.len _ _ _ _ q
  have b := hb s1 us I1.kIn (by rw [List.append_nil]; exact hl)
  rw [List.append_nil] at b
  have P1 := I1.pin p (List.mem_append_left _ hp)
  have hpin : PinOk X.stack H1 s1 p := ⟨P1.1, P1.2.1, fun hm => (List.mem_cons.mp (I1.stkSub p.1 hm)).elim P1.2.2.1 P1.2.2.2.1, P1.2.2.2.2⟩
  refine wpAny_call (codeAny_mono (F.run X.A X.stack s1 H1 ⟨us, []⟩ us vs Q E0 hr hpin I1.env0 b r q) fun r s' hq => ?_)
  cases r with
  | error e => exact pass0 pins _ H1 s1 e s' I1 hq
  | ok fl =>
    cases fl with
    | ret u => exact I1.after hq
    | next => exact False.elim hq
    | brk => exact False.elim hq
    | cont => exact False.elim hq
end
end FS
namespace FS
open PySem PySem.Spec PySem.W PySem.Calls PyProof.Rows L2
section
variable {prog : Program} {w : World} {A : Around} {E : Value → Shared → Prop} {s : Shared} {K : Frag} {x D : Addr} {ox : Obj} {od : Option Obj}
theorem kit_exc (C : ExcC K D) : KitX K (.ref x) (.ref D) (fun h => InstAt h x ox D od) :=
  PySem.W.kitx_exc (by obtain ⟨cd, hc, _⟩ := any_some C.hd; rw [hc]; rfl) C.hg C.hk C.hs C.ha C.hn C.ht C.hm
end
end FS
namespace FS
open PySem PySem.Spec PyProof.Rows L2 L2H
/-- the dict of the exception stands -/
def DctAt (H : Hp) (d : Option Addr) : Prop := ∀ a, d = some a → ∃ fs, H a = some (.xd fs)
def rIsP (K : PySem.W.Frag) (D a : Addr) (d : Option Addr) : List V → Hp → VK → Prop := fun xs H Q => ∃ (c : V) (b : Bool), xs = [.ref a, c] ∧ DctAt H d ∧
  ((∃ cv, ClsV c cv ∧ PySem.W.kitOne K (.ref D) cv = some b) ∨ ∃ tp cs us, c = .ref tp ∧ H tp = some (.tup cs) ∧ Paired ClsV cs us ∧ PySem.W.kitAny K (.ref D) us = some b) ∧ Q (.bl b) H
theorem call_isP {X : Cx} {a D : Addr} {oe : Obj} {d : Option Addr} (hp : (a, oe) ∈ X.pn) (C : ExcC X.K D) (hz : Zc (.ref D) d oe) (hf : ∃ vs, oe.data = .fields vs) : CallR X (.builtin "isinstance") (rIsP X.K D a d) := by
  intro pins s σ H xs us Q I r h
  obtain ⟨c, b, rfl, hd, alt, q⟩ := h
  obtain ⟨u1, u2, rfl, r1, r2⟩ := vals2 r
  cases (show u1 = Value.ref a from r1)
  obtain ⟨hget, _⟩ := I.pin (a, oe) (List.mem_append_left _ hp)
  obtain ⟨vs, hv⟩ := hf
  obtain ⟨od, J⟩ : ∃ od, PySem.W.InstAt s.heap a oe D od := by
    obtain ⟨oc, odd, oda, osl⟩ := oe
    obtain ⟨h1, h2⟩ := hz
    dsimp only at h1 h2 hv
    subst h1 h2 hv
    cases odd with
    | none => exact ⟨none, hget, rfl, rfl, trivial⟩
    | some da =>
      obtain ⟨fs, hda⟩ := hd da rfl
      obtain ⟨mA, hns, _⟩ := (show ObjOk X.prog X.w H s.heap da (.xd fs) from I.hok da _ hda)
      obtain ⟨o, _, _, ho, _⟩ := hns
      exact ⟨some o, hget, rfl, rfl, ho⟩
  rcases alt with ⟨cv, k, e⟩ | ⟨tp, cs, us, rfl, htp, k, e⟩
  · rw [k.eq r2]
    exact PySem.W.kia_one (kit_exc C) I.kIn J e (fun z => nomatch z) fun tk => ⟨.bl b, H, I.kept (t' := tk) fun _ _ z => z, rfl, q⟩
  · cases (show u2 = Value.ref tp from r2)
    obtain ⟨_, its, rv, o, h1, h2, n, h3⟩ := (show ObjOk X.prog X.w H s.heap tp (.tup cs) from I.hok tp _ htp)
    have e3 := ClsV.all k rv
    subst e3
    obtain ⟨oc, od', dt, sl⟩ := o
    simp only at h2 h3
    subst h2 h3
    exact PySem.W.kia_tup (kit_exc C) I.kIn J h1 e (fun z => nomatch z) fun tk => ⟨.bl b, H, I.tok tk, rfl, q⟩
end FS
/-! F15 -/
namespace FS
open PySem PySem.Spec PyProof.Rows L2 L2H
/-- l.count(b) of a list of truth values -/
def rCountB (K : PySem.W.Frag) : V → List V → Hp → VK → Prop := fun x xs H Q => ∃ (a : Addr) (bs : List Bool) (b : Bool), x = .ref a ∧ xs = [.bl b] ∧ H a = some (.lst (bs.map V.bl)) ∧ Q (.int ((bs.countP fun y => decide (y = b)) : Nat)) H
theorem bools_dp {K : PySem.W.Frag} {H : Hp} : ∀ bs : List Bool, DpAll K H (bs.map V.bl) (bs.map PyData.bool)
  | [] => .nil
  | b :: bs => .cons (.bl b) (bools_dp bs)
theorem plain_bools : ∀ bs : List Bool, PyData.plainAll (bs.map PyData.bool) = true
  | [] => by simp [PyData.plainAll]
  | b :: bs => by simp [PyData.plainAll, PyData.plain, plain_bools bs]
theorem depth_bools : ∀ bs : List Bool, PyData.depthAll (bs.map PyData.bool) = 0
  | [] => by simp [PyData.depthAll]
  | b :: bs => by simp [PyData.depthAll, PyData.depth, depth_bools bs]
theorem mt_countB {X : Cx} (hu : X.A.units + 64 < cLine) : MtR X "list.count" (rCountB X.K) := by
  intro pins s σ H x xs v us Q I rx rxs h
  obtain ⟨a, bs, b, rfl, rfl, ha, q⟩ := h
  cases rx
  obtain ⟨u, rfl, ru⟩ := vals1 rxs
  obtain ⟨its, rv, p, hz⟩ := I.list (SqL.of ha)
  obtain ⟨as, h4⟩ := Dp.readsAll I (bs.map PyData.bool) _ its (bools_dp bs) rv
  obtain ⟨cs, r1⟩ := Dp.reads I (.bool b) (.bl b) u (.bl b) ru
  have e : (bs.map PyData.bool).countP (fun y => PyData.eqv y (.bool b)) = bs.countP fun y => decide (y = b) := by
    rw [List.countP_map]
    congr 1
  refine SeqAt.count_list_data p.isList (show ReadsAll s.heap its.toArray.toList (bs.map PyData.bool) as from by simpa using h4) r1 (plain_bools bs) (by simp [PyData.plain]) ?_ ?_
  · rw [depth_bools, Nat.zero_min]
    omega
  · rw [e]
    exact ⟨.int _, H, I.tok _, ⟨_, rfl⟩, q⟩
/-- what the top has written of an own exception D -/
structure Ex1 (K : PySem.W.Frag) (D : Addr) (isR isW : Bool) : Prop where
  c : ExcC K D
  r : PySem.W.kitOne K (.ref D) (.ref (He.ga K "Ring")) = some isR
  w : PySem.W.kitOne K (.ref D) (.ref (He.ga K "Waiting")) = some isW
  v : PySem.W.kitOne K (.ref D) (.type "ValueError") = some true
  t1 : PySem.W.kitAny K (.ref D) [.ref (He.ga K "NoOrder"), .ref (He.ga K "NoMend"), .ref (He.ga K "Busy"), .ref (He.ga K "NoSession")] = some false
  t2 : PySem.W.kitAny K (.ref D) [.ref (He.ga K "NotAlone"), .ref (He.ga K "BadEvent"), .ref (He.ga K "NoRow")] = some false
structure Ty (K : PySem.W.Frag) (mg : Str → Option Value) : Prop where
  ring : Ex1 K (He.ga K "Ring") true false
  wait : Ex1 K (He.ga K "Waiting") false true
  exR : PySem.W.exmOne K (.ref (He.ga K "Ring")) (.ref (He.ga K "ShelfError")) = some true
  exW : PySem.W.exmOne K (.ref (He.ga K "Waiting")) (.ref (He.ga K "ShelfError")) = some true
  ne : He.ga K "Ring" ≠ He.ga K "Waiting"
  g1 : mg "NoOrder" = some (.ref (He.ga K "NoOrder"))
  g2 : mg "NoMend" = some (.ref (He.ga K "NoMend"))
  g3 : mg "Busy" = some (.ref (He.ga K "Busy"))
  g4 : mg "NoSession" = some (.ref (He.ga K "NoSession"))
  g5 : mg "NotAlone" = some (.ref (He.ga K "NotAlone"))
  g6 : mg "BadEvent" = some (.ref (He.ga K "BadEvent"))
  g7 : mg "NoRow" = some (.ref (He.ga K "NoRow"))
section
variable {P : Program} {w : World} {K : PySem.W.Frag} {mg : Str → Option Value} {base : Heap} {hs ns ps : List Int}
def spword (K : PySem.W.Frag) (a : Addr) (d : Option Addr) (r : Bool) : Sp := fun vs H Q _ => vs = [.ref a] ∧ DctAt H d ∧ ∀ H', Fm K [] H H' → Q (.str (if r then "ring" else "waiting")) H'
theorem scword : FnScope ["_law_error", "_law_some", "_law_others"] ["_law_error"] (defScope sL_word) := ⟨rfl, rfl, rfl, by decide +kernel, rfl, by decide +kernel, by decide +kernel⟩
theorem roomH_units {k : Nat} {A : Around} (r : RoomH k A) : A.units + 64 < cLine := by have := r.un; omega
theorem ok_word (T : Txt K mg) (X : Tx K mg) (Y : Ty K mg) : ∃ fd, Binds K fd ["_law_error"] [] ∧ PySem.W.keepIn K (.ref (He.ga K "_law_word")) = true ∧ mg "_law_word" = some (.ref (He.ga K "_law_word")) ∧
    ∀ (a D : Addr) (oe : Obj) (d : Option Addr) (r : Bool), Ex1 K D r (!r) → Zc (.ref D) d oe → (∃ vs, oe.data = .fields vs) → FnP P w K mg base 1 (He.ga K "_law_word") fd ["_law_error"] (spword K a d r) (a, oe) := by
  obtain ⟨fd, F, g⟩ := T.dL_word
  refine ⟨fd, F.bindsN fun _ _ _ _ _ _ us hl => match us, hl with | [_], _ => rfl, F.kp, g, fun a D oe d r Z hz hf => ?_⟩
  obtain ⟨oc, od, dV, kV, doc, pm, an, cdv, ct, osl, rfl, lk, hcd, _, _⟩ := F.ex
  refine fn_ofP lk hcd scword (fun vs H Q E h => by rw [h.1]; rfl) fun A outer s H vs Q E hr h => ?_
  obtain ⟨rfl, hd, k⟩ := h
  have hu := roomH_units hr
  have CI : CallR (cxH CX0 P w K mg base ["_law_error", "_law_some", "_law_others"] "_law_word" (defScope sL_word) (He.ga K "_law_word") cdv A outer s H E (a, oe)) (.builtin "isinstance") (rIsP K D a d) := call_isP (by simp [cxH]) Z.c hz hf
  refine ⟨_, (pss_cons (ps_set (i := 1) scword.nd rfl (Or.inl rfl) (pe_lst (pa_cons (pe_callB CI (by rfl) T.isinstance (by decide +kernel) (pa_cons (pv 0) (pa_cons (pe_glob (v := .ref _) (by rfl) X.gR rfl) pa_nil))) (pa_cons (pe_callB CI (by rfl) T.isinstance (by decide +kernel) (pa_cons (pv 0) (pa_cons (pe_glob (v := .ref _) (by rfl) X.gW rfl) pa_nil))) pa_nil))))
      (pss_cons (ps_set (i := 2) scword.nd rfl (Or.inl rfl) (pe_lst (pa_cons (pe_callB CI (by rfl) T.isinstance (by decide +kernel) (pa_cons (pv 0) (pa_cons (pe_tup (pa_cons (pe_glob (v := .ref _) (by rfl) Y.g1 rfl) (pa_cons (pe_glob (v := .ref _) (by rfl) Y.g2 rfl) (pa_cons (pe_glob (v := .ref _) (by rfl) Y.g3 rfl) (pa_cons (pe_glob (v := .ref _) (by rfl) Y.g4 rfl) pa_nil))))) pa_nil))) (pa_cons (pe_callB CI (by rfl) T.isinstance (by decide +kernel) (pa_cons (pv 0) (pa_cons (pe_tup (pa_cons (pe_glob (v := .ref _) (by rfl) Y.g5 rfl) (pa_cons (pe_glob (v := .ref _) (by rfl) Y.g6 rfl) (pa_cons (pe_glob (v := .ref _) (by rfl) Y.g7 rfl) pa_nil)))) pa_nil))) pa_nil))))
      (pss_cons (ps_if (PW.pt (pw_or (pt_not (pt_val (pe_callB CI (by rfl) T.isinstance (by decide +kernel) (pa_cons (pv 0) (pa_cons (pe_bltn (v := .ty "ValueError") (by rfl) T.veB PyProof.Rows.Boot.«ValueError» rfl) pa_nil))))) (pw_or (pt_cmpR op_in_seq pe_bl (pv 2) (by rfl)) (pw_or1 (pt_cmpR op_ne (pe_bm PySem.F.plainAttrs_list PySem.F.slot_list_count PySem.F.type_list_count (mt_countB hu) (pv 1) (pa_cons pe_bl pa_nil)) pe_int (nomark _))))))
        (pss_one (ps_ret pe_str))
        pss_nil)
      (pss_one (ps_ret (pe_ix ix_list (pe_lst (pa_cons pe_str (pa_cons pe_str pa_nil))) (pe_bm PySem.F.plainAttrs_list PySem.F.slot_list_index PySem.F.type_list_index mt_index (pv 1) (pa_cons pe_bl pa_nil)) (fun _ _ => rfl))))))), ?_⟩
  refine ⟨_, rfl, _, r, rfl, hd, .inl ⟨_, .own _, Z.r⟩, _, rfl, _, !r, rfl, hd, .inl ⟨_, .own _, Z.w⟩, (by show 2 ≤ sizeLine; decide), fun q1 hq1 => ?_⟩
  have F1 : Fm K [] H (upd H q1 (.lst [.bl r, .bl (!r)])) := Fm.new hq1
  have h1 : (upd H q1 (.lst [.bl r, .bl (!r)])) q1 = some (.lst [.bl r, .bl (!r)]) := upd_same
  generalize upd H q1 (.lst [.bl r, .bl (!r)]) = H1 at F1 h1
  have dct : ∀ {H' : Hp}, Fm K [] H H' → DctAt H' d := fun F a e => by
    obtain ⟨fs, h⟩ := hd a e
    exact ⟨fs, F.at (by simp) h fun _ z => by cases z⟩
  refine ⟨_, rfl, (by show 4 ≤ sizeLine; decide), fun t1 ht1 => ⟨_, false, rfl, dct (F1.trans (Fm.new ht1)), .inr ⟨t1, _, _, rfl, upd_same, .cons (.own _) (.cons (.own _) (.cons (.own _) (.cons (.own _) .nil))), Z.t1⟩, ?_⟩⟩
  have F2 := F1.trans (Fm.new (o := .tup [.ref (He.ga K "NoOrder"), .ref (He.ga K "NoMend"), .ref (He.ga K "Busy"), .ref (He.ga K "NoSession")]) ht1 : Fm K [] H1 _)
  have h2 : (upd H1 t1 (.tup [.ref (He.ga K "NoOrder"), .ref (He.ga K "NoMend"), .ref (He.ga K "Busy"), .ref (He.ga K "NoSession")])) q1 = some (.lst [.bl r, .bl (!r)]) := by rw [upd_ne (ne_of_none h1 ht1)]; exact h1
  show _
  generalize hH2 : upd H1 t1 (.tup [.ref (He.ga K "NoOrder"), .ref (He.ga K "NoMend"), .ref (He.ga K "Busy"), .ref (He.ga K "NoSession")]) = H2 at F2 h2
  refine ⟨_, rfl, (by show 3 ≤ sizeLine; decide), fun t2 ht2 => ⟨_, false, rfl, dct (F2.trans (Fm.new ht2)), .inr ⟨t2, _, _, rfl, upd_same, .cons (.own _) (.cons (.own _) (.cons (.own _) .nil)), Z.t2⟩, ?_⟩⟩
  have F3 := F2.trans (Fm.new (o := .tup [.ref (He.ga K "NotAlone"), .ref (He.ga K "BadEvent"), .ref (He.ga K "NoRow")]) ht2 : Fm K [] H2 _)
  have h3 : (upd H2 t2 (.tup [.ref (He.ga K "NotAlone"), .ref (He.ga K "BadEvent"), .ref (He.ga K "NoRow")])) q1 = some (.lst [.bl r, .bl (!r)]) := by rw [upd_ne (ne_of_none h2 ht2)]; exact h2
  generalize hH3 : upd H2 t2 (.tup [.ref (He.ga K "NotAlone"), .ref (He.ga K "BadEvent"), .ref (He.ga K "NoRow")]) = H3 at F3 h3
  refine ⟨(by show 2 ≤ sizeLine; decide), fun q2 hq2 => ?_⟩
  have F4 : Fm K [] H (upd H3 q2 (.lst [.bl false, .bl false])) := F3.trans (Fm.new hq2)
  have h4 : (upd H3 q2 (.lst [.bl false, .bl false])) q1 = some (.lst [.bl r, .bl (!r)]) := by rw [upd_ne (ne_of_none h3 hq2)]; exact h3
  have h5 : (upd H3 q2 (.lst [.bl false, .bl false])) q2 = some (.lst [.bl false, .bl false]) := upd_same
  generalize upd H3 q2 (.lst [.bl false, .bl false]) = H4 at F4 h4 h5
  refine ⟨_, rfl, _, true, rfl, dct F4, .inl ⟨_, .ty _, Z.v⟩, _, rfl, iteF ?_⟩
  refine ⟨_, rfl, q2, _, rfl, .inl (SqL.of h5), rfl, rfl, _, rfl, iteF ?_⟩
  have ec : ((([r, !r] : List Bool).countP fun y => decide (y = true) : Nat) : Int) = 1 := by cases r <;> decide
  refine ⟨_, rfl, .inl ⟨rfl, _, SqL.of h4⟩, q1, [r, !r], true, rfl, rfl, h4, ?_⟩
  rw [ec]
  refine ⟨rfl, _, rfl, iteF ?_⟩
  refine ⟨(by show 2 ≤ sizeLine; decide), fun q3 hq3 => ?_⟩
  have h6 : (upd H4 q3 (.lst [.str "ring", .str "waiting"])) q1 = some (.lst [.bl r, .bl (!r)]) := by rw [upd_ne (ne_of_none h4 hq3)]; exact h4
  have F5 : Fm K [] H (upd H4 q3 (.lst [.str "ring", .str "waiting"])) := F4.trans (Fm.new hq3)
  have kk := k _ F5
  cases r with
  | true => exact ⟨_, rfl, .inl ⟨rfl, _, SqL.of h6⟩, q1, _, .bl true, 0, .bl true, rfl, rfl, SqL.of h6, rfl, rfl, rfl, rfl, (fun m _ h => absurd h (Nat.not_lt_zero _)), q3, _, _, _, rfl, rfl, SqL.of upd_same, rfl, kk⟩
  | false => exact ⟨_, rfl, .inl ⟨rfl, _, SqL.of h6⟩, q1, _, .bl true, 1, .bl true, rfl, rfl, SqL.of h6, rfl, rfl, rfl, rfl, (fun m z h e => by
      have : m = 0 := by omega
      subst this
      cases e
      rfl), q3, _, _, _, rfl, rfl, SqL.of upd_same, rfl, kk⟩
/-! ### told -/
def sptold (K : PySem.W.Frag) (hs ns ps : List Int) : Sp := fun vs H Q _ => ∃ (p d wl b : Addr) (S : LS) (x : Wish), vs = [.ref p, .ref b] ∧ H b = some (.tup x.vs) ∧ LkAt K H p d wl S ∧ WF hs ns ps S ∧ WOk hs ns ps x ∧ Tb K H ∧
  TakeK K p d wl S x H Q (fun cls _ H1 => Q (.str (if cls = Value.ref (He.ga K "Ring") then "ring" else "waiting")) H1)
end
section
variable {X : Cx} {k : Nat} {f C : Addr} {fd : FuncData} {ps : List Str} {sp : Sp} {E : L2.St → XK} {x m : Str} {q pos apos : Pos} {e o : Expr} {es : List Expr} {ta : TE} {t : TA} {CX : CXT}
/-- o.m(e, ..) where an exception may come -/
theorem pe_methT {pl : Sem Bool} (he : PE X o ta) (c : Cls X.K C) (hm : Meth X.K C m f) (F : FnOk X.prog X.w X.K X.mg X.base CX k f fd ps sp) (hr : Room k X.A) (hb : Binds X.K fd ps []) (hx : ∀ σ, PassesAt CX X σ (E σ)) (ha : PA X (e :: es) t)
    (hst : starEach (e :: es) X.env = (false, eval e X.env) :: starEach es X.env := by rfl) (hpl : (backTo pos (starEach es X.env)).any (·.1) = false := by rfl)
    (ht : eval (.Call (.Attribute o m apos) (e :: es) [] pos) X.env = (do
      let ov ← eval o X.env
      standAt apos.atName
      let (f, first) ← holding [ov] (getMethod ov m pl)
      callWith pos f first (backTo pos (starEach (e :: es) X.env)) (backToKw pos (keywordEach [] X.env))) := by rfl) :
    PE X (.Call (.Attribute o m apos) (e :: es) [] pos) (tMethH C m sp E ta t) := by
  refine ⟨fun pins s σ H Q I h => ?_⟩
  refine PySem.W.methodCall_KW (pl := pl) (thn (he.run pins s σ H _ I h) fun u s1 ⟨x, H1, I1, rx, a, dx, fs, ex, ea, l, q⟩ => ?_) ht
  subst ex
  obtain rfl : u = Value.ref a := rx
  refine getmeth_ok I1 ea c hm l ?_
  refine PySem.W.callWith_K (first := [.ref a]) (h₀ := X.base) I.ok.mod.kin hm.kp (thn (ha.run pos pins s1 σ H1 _ I1 q) fun us s2 ⟨vs, H2, I2, r, q2⟩ => ⟨I2.kIn, ?_⟩) hst hpl
  exact run_fnS (us := .ref a :: us) (vs := .ref a :: vs) F hr hb (hx σ) I2 (.cons rfl r) q2
end
section
variable {P : Program} {w : World} {K : PySem.W.Frag} {mg : Str → Option Value} {base : Heap} {hs ns ps : List Int}
theorem room_mark {A : Around} (r : Room 1 A) (h : Option Value) : RoomH 1 (A.mark h) := ⟨r.dp, r.un⟩
theorem sctold : FnScope ["_law_locks", "_law_wish", "_law_told_here", "_law_error"] ["_law_locks", "_law_wish"] (defScope sL_told) := ⟨rfl, rfl, rfl, by decide +kernel, rfl, by decide +kernel, by decide +kernel⟩
theorem ok_told (T : Txt K mg) (X : Tx K mg) (Y : Ty K mg) (TB : LamX.TabB base mg (He.cT K pLong).1 (He.cT K pLong).2) (l1 : hs.length ≤ 10) (l2 : ns.length ≤ 8) (l3 : ps.length ≤ 13) :
    Ok P w K mg base 7 "_law_told" ["_law_locks", "_law_wish"] (sptold K hs ns ps) := by
  obtain ⟨fdT, FT, bT, mT⟩ := ok_take (P := P) (w := w) (base := base) (hs := hs) (ns := ns) (ps := ps) T X TB l1 l2 l3
  obtain ⟨fdW, bW, kW, gW, FW⟩ := ok_word (P := P) (w := w) (base := base) T X Y
  refine T.dL_told.ok sctold (fun _ _ _ _ _ _ us hl => match us, hl with | [_, _], _ => rfl) (fun vs H Q E h => ?_) (fun f cdv A outer s H vs Q E hr h => ?_)
  · obtain ⟨p, d, wl, b, S, x, rfl, _⟩ := h
    rfl
  · obtain ⟨p, d, wl, b, S, x, rfl, hb, L, W, hx, tb, k⟩ := h
    refine ⟨_, (pss_cons (ps_set (i := 2) sctold.nd rfl (Or.inl rfl) pe_non)
      (pss_cons (ps_try_as (i := 3) (tb := fun W => tAsg (tMethH (He.ga K "Locks") "take" (sptake K hs ns ps) (WE W) (tVar 0) (tCons (tOp (rIxT K) (tVar 1) (tC (.int 0))) (tCons (tOp (rIxT K) (tVar 1) (tC (.int 1))) (tCons (tOp (rIxT K) (tVar 1) (tC (.int 2))) (tCons (tOp (rIxT K) (tVar 1) (tC (.int 3))) (tCons (tOp (rIxT K) (tVar 1) (tC (.int 4))) tNil)))))) (gName 2)) (c := .ref (He.ga K "ShelfError")) rfl rfl sctold.nd rfl rfl ⟨rfl, by decide, .inl X.gSE⟩ takes0
        (fun W pn xe tk _ => (pss_one (ps_set (i := 2) sctold.nd rfl (Or.inl rfl) (pe_methT (pv 0) T.cl mT FT (hr.mono (by decide)) bT (fun σ => passAt tk σ) (pa_cons (pe_ix ix_tup (pv 1) pe_int (fun _ _ => rfl)) (pa_cons (pe_ix ix_tup (pv 1) pe_int (fun _ _ => rfl)) (pa_cons (pe_ix ix_tup (pv 1) pe_int (fun _ _ => rfl)) (pa_cons (pe_ix ix_tup (pv 1) pe_int (fun _ _ => rfl)) (pa_cons (pe_ix ix_tup (pv 1) pe_int (fun _ _ => rfl)) pa_nil)))))))))
        (fun a oe cls d pn hz hf => (⟨fun pins s1 σ H1 D I h => by
          obtain ⟨r, C, rfl, Z, h⟩ := h
          exact (pss_one (ps_set (i := 2) sctold.nd rfl (Or.inl rfl) (pe_callP (FW a C oe d r Z hz hf) (room_mark (hr.mono (by decide)) (some (.ref a))) (by simp [Cx.suite]) (by rfl) gW kW bW (pa_cons (pv 3) pa_nil)))).run pins s1 σ H1 D I h⟩ : PSs _ _ (fun D σ H => ∃ r C, cls = .ref C ∧ Ex1 K C r (!r) ∧ (tAsg (tCall (spword K a d r) [] E0 (tCons (tVar 3) tNil)) (gName 2)) D σ H))))
      (pss_one (ps_ret (pv 2))))), ?_⟩
    obtain ⟨⟨dx, h1⟩, _⟩ := id L
    have fl : (flds d wl).lookup ("take" : Str) = none := flds_no d wl (by decide +kernel) (by decide +kernel)
    refine ⟨_, rfl, p, dx, _, rfl, h1, fl, ?_⟩
    refine ⟨_, rfl, b, _, _, _, rfl, rfl, SqT.of hb, wish0, _, rfl, b, _, _, _, rfl, rfl, SqT.of hb, wish1, _, rfl, b, _, _, _, rfl, rfl, SqT.of hb, wish2, _, rfl, b, _, _, _, rfl, rfl, SqT.of hb, wish3, _, rfl, b, _, _, _, rfl, rfl, SqT.of hb, wish4, ?_⟩
    refine ⟨p, d, wl, S, x, rfl, L, W, hx, tb, ?_, ?_, ?_, ?_⟩
    · intro H' hw F
      refine ⟨true, Y.exW, fun _ a ha => ⟨false, _, rfl, Y.wait, _, rfl, rfl, (fun _ z => nomatch z), fun H2 F2 => ?_⟩, fun z => Bool.noConfusion z⟩
      refine ⟨_, rfl, ?_⟩
      have := k.wait H2 hw (F.trans F2)
      rw [if_neg (fun z => Y.ne (Value.ref.inj z).symm)] at this
      exact this
    · intro H' d' fs hw F hd'
      refine ⟨true, Y.exR, fun _ a ha => ⟨true, _, rfl, Y.ring, _, rfl, rfl, (fun a' e => ⟨fs, by cases e; exact hd'⟩), fun H2 F2 => ?_⟩, fun z => Bool.noConfusion z⟩
      refine ⟨_, rfl, ?_⟩
      have := k.ring H2 d' fs hw (F.trans F2) (F2.at (by simp) hd' fun _ z => by cases z)
      rw [if_pos rfl] at this
      exact this
    · intro H' q r S' told a1 a2 a3 a4 a5 a6 a7 a8 a9 a10 a11 a12
      exact ⟨_, rfl, k.held H' q r S' told a1 a2 a3 a4 a5 a6 a7 a8 a9 a10 a11 a12⟩
    · intro H' q r R a1 a2 a3 a4 a5 a6 a7 a8 a9 a10 a11
      exact ⟨_, rfl, k.waits H' q r R a1 a2 a3 a4 a5 a6 a7 a8 a9 a10 a11⟩
end
end FS
/-! F16 -/
namespace FS
open PySem PySem.Spec PyProof.Rows L2
section
variable {P : Program} {w : World} {K : PySem.W.Frag} {mg : Str → Option Value} {base : Heap} {hs ns ps : List Int}
theorem at0 (x : Int) (l : List Int) : atI ((x :: l).map V.int) 0 = some (.int x) := atI_nat (j := 0) rfl
theorem ix0 (x : Int) (l : List Int) : ixN ((x :: l).map V.int).length 0 = some 0 := by
  rw [List.length_map, List.length_cons]
  unfold ixN
  rw [if_pos (Int.le_refl _), if_pos (by omega)]
  rfl
/-! ### numbers of a script -/
def spL_cell_at (K : PySem.W.Frag) : Sp := fun vs H Q _ => ∃ (a : Addr) (xs : List Int) (j : Nat), vs = [.ref a, .int j] ∧ SqL K H a (xs.map V.int) ∧ ∀ c : Int, Q (.int c) H
theorem scL_cell_at : FnScope ["_law_script", "_law_k"] ["_law_script", "_law_k"] (defScope sL_cell_at) := ⟨rfl, rfl, rfl, by decide +kernel, rfl, by decide +kernel, by decide +kernel⟩
theorem ok_L_cell_at (T : Txt K mg) : Ok P w K mg base 1 "_law_cell_at" ["_law_script", "_law_k"] (spL_cell_at K) := by
  refine T.dL_cell_at.ok scL_cell_at (fun _ _ _ _ _ _ us hl => match us, hl with | [_, _], _ => rfl) (fun vs H Q E h => ?_) (fun f cdv A outer s H vs Q E hr h => ?_)
  · obtain ⟨a, xs, j, rfl, _⟩ := h
    rfl
  · obtain ⟨a, xs, j, rfl, ha, k⟩ := h
    refine ⟨_, (pss_cons (ps_if (pt_cmpR op_lt (pv 1) (pe_callB call_len_seq (by rfl) T.len PySem.boot_len (pa_cons (pv 0) pa_nil)) (nomark _))
        (pss_one (ps_ret (pe_ix ix_list (pv 0) (pv 1) (fun _ _ => rfl))))
        pss_nil)
      (pss_one (ps_ret pe_int))), ?_⟩
    refine ⟨_, rfl, _, rfl, a, _, rfl, .inl (ha), _, _, rfl, rfl, _, rfl, ite2 (fun e => ?_) (fun e => k 0)⟩
    have e : j < xs.length := by simpa using e
    refine ⟨_, rfl, _, rfl, a, _, _, .int (xs[j]), rfl, rfl, ha, atI_nat ?_, k _⟩
    rw [List.getElem?_map, List.getElem?_eq_getElem e]
    rfl
def spL_mix (K : PySem.W.Frag) : Sp := fun vs H Q _ => ∃ (c : Int) (j : Int), vs = [.int c, .int j] ∧ 0 ≤ j ∧ j ≤ 100000 ∧ ∀ r : Int, 0 ≤ r → r < 1999999973 → Q (.int r) H
theorem scL_mix : FnScope ["_law_cell", "_law_k", "_law_m"] ["_law_cell", "_law_k"] (defScope sL_mix) := ⟨rfl, rfl, rfl, by decide +kernel, rfl, by decide +kernel, by decide +kernel⟩
theorem ok_L_mix (T : Txt K mg) : Ok P w K mg base 1 "_law_mix" ["_law_cell", "_law_k"] (spL_mix K) := by
  refine T.dL_mix.ok scL_mix (fun _ _ _ _ _ _ us hl => match us, hl with | [_, _], _ => rfl) (fun vs H Q E h => ?_) (fun f cdv A outer s H vs Q E hr h => ?_)
  · obtain ⟨c, j, rfl, _⟩ := h
    rfl
  · obtain ⟨c, j, rfl, h0, h1, k⟩ := h
    refine ⟨_, (pss_cons (ps_set (i := 2) scL_mix.nd rfl (Or.inl rfl) (pe_op op_mod (pe_op op_mul (pe_op op_add (pe_op op_add (pe_op op_mod (pv 0) pe_int) (pe_op op_mul (pe_op op_mul (pv 1) (pv 1)) pe_int)) pe_int) pe_int) pe_int))
      (pss_one (ps_ret (pe_op op_mod (pe_op op_mul (pv 2) (pv 2)) pe_int)))), ?_⟩
    refine ⟨_, rfl, _, _, rfl, rfl, (by show (0:Int) < _; decide), _, rfl, _, rfl, _, _, rfl, rfl, (.inl (by constructor <;> omega)), _, _, rfl, rfl, (.inr (by constructor <;> decide)), _, _, rfl, rfl, _, _, rfl, rfl, _, _, rfl, rfl, (.inr (by constructor <;> decide)), _, _, rfl, rfl, (by show (0:Int) < _; decide), ?_⟩
    generalize hm : (c % 2147483629 + j * j * 7919 + 11) * 48271 % 2147483647 = m
    have m0 : 0 ≤ m := by rw [← hm]; exact Int.emod_nonneg _ (by decide)
    have m1 : m < 2147483647 := by rw [← hm]; exact Int.emod_lt_of_pos _ (by decide)
    refine ⟨_, rfl, _, rfl, _, _, rfl, rfl, (.inl (by constructor <;> omega)), _, _, rfl, rfl, (by show (0:Int) < _; decide), ?_⟩
    exact k _ (Int.emod_nonneg _ (by decide)) (Int.emod_lt_of_pos _ (by decide))
def spL_rich (K : PySem.W.Frag) : Sp := fun vs H Q _ => ∃ (c : Int) (j : Int), vs = [.int c, .int j] ∧ 0 ≤ j ∧ j ≤ 1000 ∧ ∀ r : Int, Q (.int r) H
theorem scL_rich : FnScope ["_law_cell", "_law_k", "_law_number", "_law_j"] ["_law_cell", "_law_k"] (defScope sL_rich) := ⟨rfl, rfl, rfl, by decide +kernel, rfl, by decide +kernel, by decide +kernel⟩
theorem ok_L_rich (T : Txt K mg) : Ok P w K mg base 2 "_law_rich" ["_law_cell", "_law_k"] (spL_rich K) := by
  have G_law_mix : Ok P w K mg base 1 "_law_mix" _ _ := ok_L_mix T
  refine T.dL_rich.ok scL_rich (fun _ _ _ _ _ _ us hl => match us, hl with | [_, _], _ => rfl) (fun vs H Q E h => ?_) (fun f cdv A outer s H vs Q E hr h => ?_)
  · obtain ⟨c, j, rfl, _⟩ := h
    rfl
  · obtain ⟨c, j, rfl, h0, h1, k⟩ := h
    refine ⟨_, (pss_cons (ps_set (i := 2) scL_rich.nd rfl (Or.inl rfl) pe_int)
      (pss_cons (ps_for PassesOwn.never rfl (pi_range1 (by rfl) T.range (pa_cons pe_int pa_nil)) (pg_name (i := 3) scL_rich.nd rfl (Or.inl rfl))
        (pss_one (ps_set (i := 2) scL_rich.nd rfl (Or.inl rfl) (pe_op op_add (pe_op op_mul (pv 2) pe_int) (pe_do G_law_mix (hr.mono (by decide)) (pa_cons (pv 0) (pa_cons (pe_op op_add (pe_op op_mul pe_int (pv 1)) (pv 3)) pa_nil)))))))
      (pss_one (ps_ret (pv 2))))), ?_⟩
    refine ⟨12, rfl, (by decide), (by decide), for_range (lo := 0) (n := 12) (fun i σ H1 => ∃ (r : Int) (v3 : Option V), σ = [some (.int c), some (.int j), some (.int r), v3] ∧ H1 = H)
      ⟨0, none, rfl, rfl⟩ ?_ ?_⟩
    · rintro i σ H1 hi ⟨r, v3, rfl, rfl⟩
      refine ⟨_, rfl, _, _, rfl, rfl, (.inr (by constructor <;> decide)), _, rfl, _, rfl, _, _, rfl, rfl, (.inl (by constructor <;> decide)), _, rfl, _, _, rfl, rfl, c, _, rfl, ?_, ?_, fun m m0 m1 => ⟨_, _, rfl, rfl, _, _, rfl, rfl⟩⟩
      · omega
      · omega
    · rintro σ H1 ⟨r, v3, rfl, rfl⟩
      exact ⟨_, rfl, k r⟩
/-- a new list of numbers -/
def NewL (K : PySem.W.Frag) (H : Hp) (Q : VK) (p : List Int → Prop) : Prop := ∀ H' q ns, Fm K [] H H' → Fresh H q → H' q = some (.lst (ns.map V.int)) → p ns → Q (.ref q) H'
def spL_left (K : PySem.W.Frag) : Sp := fun vs H Q _ => ∃ (c : Int) (j : Int), vs = [.int c, .int j] ∧ 0 ≤ j ∧ j ≤ 500 ∧ NewL K H Q fun ns => ns ≠ []
theorem scL_left : FnScope ["_law_cell", "_law_k", "_law_more"] ["_law_cell", "_law_k"] (defScope sL_left) := ⟨rfl, rfl, rfl, by decide +kernel, rfl, by decide +kernel, by decide +kernel⟩
theorem ok_L_left (T : Txt K mg) : Ok P w K mg base 3 "_law_left" ["_law_cell", "_law_k"] (spL_left K) := by
  have G_law_mix : Ok P w K mg base 1 "_law_mix" _ _ := ok_L_mix T
  have G_law_rich : Ok P w K mg base 2 "_law_rich" _ _ := ok_L_rich T
  refine T.dL_left.ok scL_left (fun _ _ _ _ _ _ us hl => match us, hl with | [_, _], _ => rfl) (fun vs H Q E h => ?_) (fun f cdv A outer s H vs Q E hr h => ?_)
  · obtain ⟨c, j, rfl, _⟩ := h
    rfl
  · obtain ⟨c, j, rfl, h0, h1, k⟩ := h
    refine ⟨_, (pss_cons (ps_set (i := 2) scL_left.nd rfl (Or.inl rfl) (pe_lst (pa_cons (pe_do G_law_rich (hr.mono (by decide)) (pa_cons (pv 0) (pa_cons (pe_op op_add (pv 1) pe_int) pa_nil))) (pa_cons (pe_do G_law_rich (hr.mono (by decide)) (pa_cons (pv 0) (pa_cons (pe_op op_add (pv 1) pe_int) pa_nil))) pa_nil))))
      (pss_cons (ps_if (pt_cmpR op_ge (pv 0) (pe_op op_pow pe_int pe_int) (nomark _))
        (pss_one (ps_ret (pe_op op_cat (pe_lst (pa_cons (pv 0) pa_nil)) (pv 2))))
        pss_nil)
      (pss_one (ps_ret (pe_op op_cat (pe_lst (pa_cons (pe_do G_law_rich (hr.mono (by decide)) (pa_cons (pe_do G_law_mix (hr.mono (by decide)) (pa_cons (pv 0) (pa_cons (pv 1) pa_nil))) (pa_cons (pv 1) pa_nil))) pa_nil)) (pv 2)))))), ?_⟩
    refine ⟨_, rfl, _, rfl, _, _, rfl, rfl, c, _, rfl, by omega, by omega, fun r1 => ⟨_, rfl, _, rfl, _, _, rfl, rfl, c, _, rfl, by omega, by omega, fun r2 => ⟨by show 2 ≤ sizeLine; decide, fun q hq => ?_⟩⟩⟩
    have F1 : Fm K [] H (upd H q (.lst [.int r1, .int r2])) := Fm.new hq
    have h1' : (upd H q (.lst [.int r1, .int r2])) q = some (.lst [.int r1, .int r2]) := upd_same
    generalize upd H q (.lst [.int r1, .int r2]) = H1 at F1 h1'
    have fin : ∀ (r0 : Int) (H2 : Hp) (q2 q3 : Addr), Fm K [] H H2 → H2 q2 = none → (upd H2 q2 (.lst [.int r0])) q3 = none → Q (.ref q3) (upd (upd H2 q2 (.lst [.int r0])) q3 (.lst ([.int r0] ++ [.int r1, .int r2]))) := fun r0 H2 q2 q3 F h2 h3 =>
      k _ q3 [r0, r1, r2] ((F.trans (Fm.new h2)).trans (Fm.new h3)) ((F.trans (Fm.new h2 : Fm K [] _ _)).fresh (by simp) (Fresh.of h3)) upd_same (by simp)
    refine ⟨_, rfl, _, _, rfl, rfl, ⟨by decide, by decide, by decide⟩, _, _, rfl, rfl, _, rfl, ite2 (fun e => ?_) (fun e => ?_)⟩
    · refine ⟨_, rfl, (by show 1 ≤ sizeLine; decide), fun q2 hq2 => ⟨_, rfl, q2, q, _, _, rfl, rfl, upd_same, (by rw [upd_ne (ne_of_none h1' hq2)]; exact h1'), (by show 3 ≤ sizeLine; decide), fun q3 hq3 => fin c H1 q2 q3 F1 hq2 hq3⟩⟩
    · refine ⟨_, rfl, _, rfl, c, j, rfl, h0, by omega, fun m m0 m1 => ⟨_, rfl, m, j, rfl, h0, by omega, fun r0 => ⟨(by show 1 ≤ sizeLine; decide), fun q2 hq2 => ⟨_, rfl, q2, q, _, _, rfl, rfl, upd_same, (by rw [upd_ne (ne_of_none h1' hq2)]; exact h1'), (by show 3 ≤ sizeLine; decide), fun q3 hq3 => fin r0 H1 q2 q3 F1 hq2 hq3⟩⟩⟩⟩
/-! ### pick -/
def spL_pick (K : PySem.W.Frag) : Sp := fun vs H Q _ => ∃ (a : Addr) (xs : List Int) (many : Int), vs = [.ref a, .int many] ∧ H a = some (.lst (xs.map V.int)) ∧ xs ≠ [] ∧ 0 < many ∧ many ≤ 10 ^ 12 ∧
  ∀ H' (x : Int) ys, Fm K [a] H H' → H' a = some (.lst (ys.map V.int)) → ys ≠ [] → 0 ≤ x → x < many → Q (.int x) H'
theorem scL_pick : FnScope ["_law_left_here", "_law_many", "_law_digit"] ["_law_left_here", "_law_many"] (defScope sL_pick) := ⟨rfl, rfl, rfl, by decide +kernel, rfl, by decide +kernel, by decide +kernel⟩
theorem ok_L_pick (T : Txt K mg) : Ok P w K mg base 1 "_law_pick" ["_law_left_here", "_law_many"] (spL_pick K) := by
  refine T.dL_pick.ok scL_pick (fun _ _ _ _ _ _ us hl => match us, hl with | [_, _], _ => rfl) (fun vs H Q E h => ?_) (fun f cdv A outer s H vs Q E hr h => ?_)
  · obtain ⟨a, xs, many, rfl, _⟩ := h
    rfl
  · obtain ⟨a, xs, many, rfl, ha, hne, h0, h1, k⟩ := h
    refine ⟨_, (pss_cons (ps_if (PW.pt (pw_and (pt_cmpR op_eq (pe_ix ix_list (pv 0) pe_int (fun _ _ => rfl)) pe_int (nomark _)) (pw_and1 (pt_cmpR op_gt (pe_callB call_len_seq (by rfl) T.len PySem.boot_len (pa_cons (pv 0) pa_nil)) pe_int (nomark _)))))
        (pss_one (ps_asg (pe_bm0 PySem.F.plainAttrs_list PySem.F.slot_list_pop PySem.F.type_list_pop mt_pop (pv 0)) (pg_sub (pv 0) pe_int set_list)))
        pss_nil)
      (pss_cons (ps_set (i := 2) scL_pick.nd rfl (Or.inl rfl) (pe_op op_mod (pe_ix ix_list (pv 0) pe_int (fun _ _ => rfl)) (pv 1)))
      (pss_cons (ps_asg (pe_op op_fdivW (pe_ix ix_list (pv 0) pe_int (fun _ _ => rfl)) (pv 1)) (pg_sub (pv 0) pe_int set_list))
      (pss_one (ps_ret (pv 2)))))), ?_⟩
    -- the rest, from a list of x and more
    have rest : ∀ (H1 : Hp) (x : Int) (l : List Int), Fm K [a] H H1 → H1 a = some (.lst ((x :: l).map V.int)) → tSeq (tAsg (tOp (rI (fun _ j => 0 < j) fun i j => .int (i % j)) (tOp (rIxL K) (tVar 0) (tC (.int 0))) (tVar 1)) (gName 2)) (tSeq (tAsg (tOp (rI CDivW fun i j => .int (i / j)) (tOp (rIxL K) (tVar 0) (tC (.int 0))) (tVar 1)) (gSub (tVar 0) (tC (.int 0)) rSetL)) (tRet (tVar 2))) { nx := fun _ H' => Q .non H', rt := Q } [some (.ref a), some (.int many), none] H1 := fun H1 x l F1 g => by
      refine ⟨_, rfl, a, _, _, .int x, rfl, rfl, SqL.of g, at0 _ _, _, rfl, _, _, rfl, rfl, h0, ?_⟩
      refine ⟨_, rfl, a, _, _, .int x, rfl, rfl, SqL.of g, at0 _ _, _, rfl, _, _, rfl, rfl, ⟨h0, ?_⟩, ?_⟩
      · have := wide_div (i := x) (b := 60) h0 (by omega) (by decide) (by decide)
        exact this.2
      · refine ⟨_, rfl, a, _, 0, 0, rfl, rfl, g, ix0 _ _, ?_⟩
        refine ⟨_, rfl, k _ (x % many) ((x / many) :: l) (F1.trans (Fm.put g rfl (by simp))) upd_same (by simp) (Int.emod_nonneg _ (by omega)) (Int.emod_lt_of_pos _ h0)⟩
    obtain ⟨x, l, rfl⟩ : ∃ x l, xs = x :: l := by
      cases xs with
      | nil => exact absurd rfl hne
      | cons x l => exact ⟨x, l, rfl⟩
    refine ⟨_, rfl, a, _, _, .int x, rfl, rfl, SqL.of ha, at0 _ _, rfl, _, rfl, ?_⟩
    refine ite2 (fun e => ?_) (fun e => iteF (rest H x l Fm.refl ha))
    refine ⟨_, rfl, a, _, rfl, .inl (SqL.of ha), _, _, rfl, rfl, _, rfl, ite2 (fun e2 => ?_) (fun e2 => rest H x l Fm.refl ha)⟩
    obtain ⟨l0, y, rfl⟩ : ∃ l0 y, l = l0 ++ [y] := by
      cases hl : l.reverse with
      | nil =>
        rw [List.reverse_eq_nil_iff] at hl
        subst hl
        simp at e2
      | cons y r => exact ⟨r.reverse, y, by rw [← List.reverse_reverse l, hl]; simp⟩
    have ed : ((x :: (l0 ++ [y])).map V.int).dropLast = (x :: l0).map V.int := by
      rw [← List.map_dropLast, ← List.cons_append, List.dropLast_concat]
    have ey : ((x :: (l0 ++ [y])).map V.int)[((x :: (l0 ++ [y])).map V.int).length - 1]? = some (.int y) := by
      rw [List.length_map, List.getElem?_map, ← List.cons_append]
      simp
    refine ⟨_, rfl, .inl ⟨rfl, _, SqL.of ha⟩, a, _, _, rfl, rfl, ha, ey, ?_⟩
    rw [ed]
    have F1 : Fm K [a] H (upd H a (.lst ((x :: l0).map V.int))) := Fm.put ha rfl (by simp)
    have g1 : (upd H a (.lst ((x :: l0).map V.int))) a = some (.lst ((x :: l0).map V.int)) := upd_same
    generalize upd H a (.lst ((x :: l0).map V.int)) = H1 at F1 g1
    refine ⟨_, rfl, a, _, 0, 0, rfl, rfl, g1, ix0 _ _, ?_⟩
    exact rest _ y l0 (F1.trans (Fm.put g1 rfl (by simp))) upd_same
end
end FS
/-! F17 -/
namespace FS
open PySem PySem.Spec PyProof.Rows L2
theorem inV_ints (n : Int) (l : List Int) : inV (.int n) (l.map V.int) = decide (n ∈ l) := by
  unfold inV
  rw [List.any_map]
  apply Bool.eq_iff_iff.mpr
  simp [eqV]
theorem flat_ints (l : List Int) : (l.map V.int).all flatV = true := by simp [flatV]
theorem ins_perm {l : List Int} (i : Nat) (y : Int) : (l.take i ++ [y] ++ l.drop i).Perm (y :: l) := by
  have h1 : (l.take i ++ [y] ++ l.drop i).Perm ([y] ++ l.take i ++ l.drop i) := List.Perm.append_right _ List.perm_append_comm
  refine h1.trans ?_
  simp
theorem cnt_lt {n : Int} {l : List Int} (h : n ∈ l) : l.countP (fun x => decide (n + 1 ≤ x)) < l.countP (fun x => decide (n ≤ x)) := by
  induction l with
  | nil => simp at h
  | cons a l ih =>
    have le : l.countP (fun x => decide (n + 1 ≤ x)) ≤ l.countP (fun x => decide (n ≤ x)) := List.countP_mono_left fun x _ hx => by
      simp at hx ⊢
      omega
    rw [List.countP_cons, List.countP_cons]
    rcases List.mem_cons.mp h with e | e
    · subst e
      rw [if_neg (by simp; omega), if_pos (by simp)]
      omega
    · have := ih e
      by_cases h1 : n + 1 ≤ a
      · have h2 : n ≤ a := by omega
        simp [h1, h2]
        exact this
      · by_cases h2 : n ≤ a
        · simp [h1, h2]
          omega
        · simp [h1, h2]
          exact this
section
variable {P : Program} {w : World} {K : PySem.W.Frag} {mg : Str → Option Value} {base : Heap} {hs ns ps : List Int}
/-- what is left of the number at a -/
def LfAt (H : Hp) (a : Addr) : Prop := ∃ xs : List Int, H a = some (.lst (xs.map V.int)) ∧ xs ≠ []
theorem LfAt.fm {H H' : Hp} {a : Addr} {ms : List Addr} (L : LfAt H a) (F : Fm K ms H H') (n : a ∉ ms) : LfAt H' a := by
  obtain ⟨xs, h, e⟩ := L
  exact ⟨xs, F.at n h noT_lst, e⟩
def spL_numbers (K : PySem.W.Frag) : Sp := fun vs H Q _ => ∃ (a : Addr) (n : Nat), vs = [.ref a, .int n] ∧ LfAt H a ∧ n ≤ 20 ∧
  ∀ H' q (ns : List Int), Fm K [a] H H' → LfAt H' a → Fresh H q → H' q = some (.lst (ns.map V.int)) → ns.length = n → ns.Nodup → Q (.ref q) H'
theorem scL_numbers : FnScope ["_law_left_here", "_law_many", "_law_found", "_law_number"] ["_law_left_here", "_law_many"] (defScope sL_numbers) := ⟨rfl, rfl, rfl, by decide +kernel, rfl, by decide +kernel, by decide +kernel⟩
theorem ok_L_numbers (T : Txt K mg) : Ok P w K mg base 2 "_law_numbers" ["_law_left_here", "_law_many"] (spL_numbers K) := by
  have G_law_pick : Ok P w K mg base 1 "_law_pick" _ _ := ok_L_pick T
  refine T.dL_numbers.ok scL_numbers (fun _ _ _ _ _ _ us hl => match us, hl with | [_, _], _ => rfl) (fun vs H Q E h => ?_) (fun f cdv A outer s H vs Q E hr h => ?_)
  · obtain ⟨a, n, rfl, _⟩ := h
    rfl
  · obtain ⟨a, n, rfl, La, hn, k⟩ := h
    refine ⟨_, (pss_cons (ps_set (i := 2) scL_numbers.nd rfl (Or.inl rfl) (pe_lst pa_nil))
      (pss_cons (ps_while PassesOwn.never (pt_cmpR op_lt (pe_callB call_len_seq (by rfl) T.len PySem.boot_len (pa_cons (pv 2) pa_nil)) (pv 1) (nomark _))
        (pss_cons (ps_set (i := 3) scL_numbers.nd rfl (Or.inl rfl) (pe_ix ix_list (pe_lst (pa_cons (pe_do G_law_pick (hr.mono (by decide)) (pa_cons (pv 0) (pa_cons pe_int pa_nil))) (pa_cons (pe_do G_law_pick (hr.mono (by decide)) (pa_cons (pv 0) (pa_cons pe_int pa_nil))) (pa_cons (pe_do G_law_pick (hr.mono (by decide)) (pa_cons (pv 0) (pa_cons (pe_op op_pow pe_int pe_int) pa_nil))) pa_nil)))) (pe_op op_mod (pe_do G_law_pick (hr.mono (by decide)) (pa_cons (pv 0) (pa_cons pe_int pa_nil))) pe_int) (fun _ _ => rfl)))
        (pss_cons (ps_while PassesOwn.never (pt_cmpR op_in_seq (pv 3) (pv 2) (by rfl))
          (pss_one (ps_set (i := 3) scL_numbers.nd rfl (Or.inl rfl) (pe_op op_add (pv 3) pe_int))))
        (pss_one (ps_expr (pe_bm PySem.F.plainAttrs_list PySem.F.slot_list_insert PySem.F.type_list_insert mt_insert (pv 2) (pa_cons (pe_do G_law_pick (hr.mono (by decide)) (pa_cons (pv 0) (pa_cons (pe_op op_add (pe_callB call_len_seq (by rfl) T.len PySem.boot_len (pa_cons (pv 2) pa_nil)) pe_int) pa_nil))) (pa_cons (pv 3) pa_nil))))))))
      (pss_one (ps_ret (pv 2))))), ?_⟩
    refine ⟨by show 0 ≤ sizeLine; decide, fun q hq => ?_⟩
    have naq : a ≠ q := by
      obtain ⟨xs, h, _⟩ := La
      exact ne_of_none h hq
    have F0 : Fm K [a, q] H (upd H q (.lst [])) := Fm.new hq
    have La0 : LfAt (upd H q (.lst [])) a := La.fm (K := K) (ms := []) (Fm.new hq) (by simp)
    refine ⟨fun m σ H1 => ∃ (l : List Int) (v3 : Option V), σ = [some (.ref a), some (.int n), some (.ref q), v3] ∧ Fm K [a, q] H H1 ∧ LfAt H1 a ∧ H1 q = some (.lst (l.map V.int)) ∧ l.Nodup ∧ l.length ≤ n ∧ m = n - l.length,
      ⟨_, [], none, rfl, F0, La0, upd_same, List.nodup_nil, Nat.zero_le _, rfl⟩, ?_⟩
    rintro m σ H1 ⟨l, v3, rfl, F1, L1, hq1, nd, hl, rfl⟩
    refine ⟨_, rfl, q, _, rfl, .inl (SqL.of hq1), _, rfl, _, _, rfl, rfl, _, rfl, ?_⟩
    rw [List.length_map]
    refine ite2 (fun e => ?_) (fun e => ?_)
    · have e : l.length < n := by simpa using e
      refine ⟨fun σ' H' => ∃ m', m' < n - l.length ∧ ∃ (l : List Int) (v3 : Option V), σ' = [some (.ref a), some (.int n), some (.ref q), v3] ∧ Fm K [a, q] H H' ∧ LfAt H' a ∧ H' q = some (.lst (l.map V.int)) ∧ l.Nodup ∧ l.length ≤ n ∧ m' = n - l.length, fun _ _ z => z, ?_⟩
      obtain ⟨xs, hx, xne⟩ := id L1
      refine ⟨_, rfl, a, xs, 12, rfl, hx, xne, by decide, by decide, fun H2 p1 ys F2 hy yne _ _ => ?_⟩
      refine ⟨_, rfl, a, ys, 1000, rfl, hy, yne, by decide, by decide, fun H3 p2 zs F3 hz zne _ _ => ?_⟩
      refine ⟨_, rfl, _, _, rfl, rfl, ⟨by decide, by decide, by decide⟩, a, zs, _, rfl, hz, zne, by decide, by decide, fun H4 p3 us F4 hu une _ _ => ⟨by show 3 ≤ sizeLine; decide, fun t ht => ?_⟩⟩
      have F14 : Fm K [a] H1 H4 := (F2.trans F3).trans F4
      have hu5 : (upd H4 t (.lst [.int p1, .int p2, .int p3])) a = some (.lst (us.map V.int)) := by rw [upd_ne (ne_of_none hu ht)]; exact hu
      refine ⟨_, rfl, a, us, 4, rfl, hu5, une, by decide, by decide, fun H5 c ws F5 hw wne c0 c1 => ⟨_, _, rfl, rfl, (by show (0:Int) < _; decide), ?_⟩⟩
      have nat' : t ≠ a := (ne_of_none hu ht).symm
      have ht5 : H5 t = some (.lst [.int p1, .int p2, .int p3]) := F5.at (by simpa using nat') upd_same noT_lst
      obtain ⟨z, hz⟩ : ∃ z, atI ([.int p1, .int p2, .int p3] : List V) (c % 3) = some (.int z) := by
        have h1 : 0 ≤ c % 3 := Int.emod_nonneg _ (by decide)
        have h2 : c % 3 < 3 := Int.emod_lt_of_pos _ (by decide)
        have : c % 3 = ((0 : Nat) : Int) ∨ c % 3 = ((1 : Nat) : Int) ∨ c % 3 = ((2 : Nat) : Int) := by omega
        rcases this with e | e | e <;> rw [e]
        · exact ⟨p1, atI_nat rfl⟩
        · exact ⟨p2, atI_nat rfl⟩
        · exact ⟨p3, atI_nat rfl⟩
      refine ⟨t, _, _, .int z, rfl, rfl, SqL.of ht5, hz, ?_⟩
      have F15 : Fm K [a] H1 H5 := (F14.trans (Fm.new ht)).trans F5
      have hq5 : H5 q = some (.lst (l.map V.int)) := F15.at (by simpa using naq.symm) hq1 noT_lst
      refine ⟨fun m σ H6 => ∃ y : Int, σ = [some (.ref a), some (.int n), some (.ref q), some (.int y)] ∧ H6 = H5 ∧ m = l.countP fun x => decide (y ≤ x), ⟨_, z, rfl, rfl, rfl⟩, ?_⟩
      rintro m σ H6 ⟨y, rfl, rfl, rfl⟩
      refine ⟨_, rfl, _, rfl, q, _, rfl, .inl (SqL.of hq5), rfl, flat_ints _, _, rfl, ?_⟩
      show if inV (.int y) (l.map V.int) = true then _ else _
      rw [inV_ints]
      refine ite2 (fun e1 => ?_) (fun e1 => ?_)
      · have e1 : y ∈ l := of_decide_eq_true e1
        refine ⟨fun σ' H' => ∃ m', m' < l.countP (fun x => decide (y ≤ x)) ∧ ∃ y : Int, σ' = [some (.ref a), some (.int n), some (.ref q), some (.int y)] ∧ H' = H6 ∧ m' = l.countP fun x => decide (y ≤ x), fun _ _ z => z, ?_⟩
        exact ⟨_, rfl, _, _, rfl, rfl, _, cnt_lt e1, _, rfl, rfl, rfl⟩
      · have e1 : y ∉ l := of_decide_eq_false (by simpa using e1)
        refine ⟨_, rfl, .inl ⟨rfl, _, SqL.of hq5⟩, ?_⟩
        refine ⟨_, rfl, _, rfl, q, _, rfl, .inl (SqL.of hq5), _, _, rfl, rfl, a, ws, _, rfl, hw, wne, ?_, ?_, fun H7 j vs' F7 hv vne j0 j1 => ?_⟩
        · rw [List.length_map]
          omega
        · rw [List.length_map]
          omega
        · rw [List.length_map] at j1
          have hq7 : H7 q = some (.lst (l.map V.int)) := F7.at (by simpa using naq.symm) hq5 noT_lst
          refine ⟨_, rfl, q, _, j, .int y, rfl, rfl, hq7, ?_, j0, by omega, ?_⟩
          · rw [List.length_map]
            exact small_lt (by omega)
          · have pm := ins_perm (l := l) j.toNat y
            have em : (l.map V.int).take j.toNat ++ [.int y] ++ (l.map V.int).drop j.toNat = (l.take j.toNat ++ [y] ++ l.drop j.toNat).map V.int := by simp
            rw [em]
            have F17 : Fm K [a, q] H1 (upd H7 q (.lst ((l.take j.toNat ++ [y] ++ l.drop j.toNat).map V.int))) := ((F15.trans F7).mono (by simp)).trans (Fm.put hq7 rfl (by simp))
            have el : (l.take j.toNat ++ [y] ++ l.drop j.toNat).length = l.length + 1 := by rw [pm.length_eq, List.length_cons]
            refine ⟨_, ?_, l.take j.toNat ++ [y] ++ l.drop j.toNat, _, rfl, F1.trans F17, ⟨vs', ?_, vne⟩, upd_same, pm.nodup_iff.mpr (List.nodup_cons.mpr ⟨e1, nd⟩), ?_, rfl⟩
            · rw [el]
              omega
            · rw [upd_ne naq]
              exact hv
            · rw [el]
              omega
    · have e : l.length = n := by
        have : ¬ (l.length : Int) < n := by simpa using e
        omega
      have Fd : Fm K [a] H H1 := ((F1.mono (by simp)) : Fm K [q, a] H H1).drop (Fresh.of hq)
      exact ⟨_, rfl, k H1 q l Fd L1 (Fresh.of hq) hq1 e nd⟩
/-! ### places -/
def spL_places (K : PySem.W.Frag) : Sp := fun vs H Q _ => ∃ (a : Addr) (n : Nat), vs = [.ref a, .int n] ∧ LfAt H a ∧ 1 ≤ n ∧ n ≤ 20 ∧
  ∀ H' q (ns : List Int), Fm K [a] H H' → LfAt H' a → Fresh H q → H' q = some (.lst (ns.map V.int)) → ns.length = n → ns.Pairwise (· < ·) → Q (.ref q) H'
theorem scL_places : FnScope ["_law_left_here", "_law_many", "_law_found", "_law_k"] ["_law_left_here", "_law_many"] (defScope sL_places) := ⟨rfl, rfl, rfl, by decide +kernel, rfl, by decide +kernel, by decide +kernel⟩
theorem ok_L_places (T : Txt K mg) : Ok P w K mg base 2 "_law_places" ["_law_left_here", "_law_many"] (spL_places K) := by
  have G_law_pick : Ok P w K mg base 1 "_law_pick" _ _ := ok_L_pick T
  refine T.dL_places.ok scL_places (fun _ _ _ _ _ _ us hl => match us, hl with | [_, _], _ => rfl) (fun vs H Q E h => ?_) (fun f cdv A outer s H vs Q E hr h => ?_)
  · obtain ⟨a, n, rfl, _⟩ := h
    rfl
  · obtain ⟨a, n, rfl, La, h1, hn, k⟩ := h
    refine ⟨_, (pss_cons (ps_set (i := 2) scL_places.nd rfl (Or.inl rfl) (pe_lst (pa_cons (pe_do G_law_pick (hr.mono (by decide)) (pa_cons (pv 0) (pa_cons pe_int pa_nil))) pa_nil)))
      (pss_cons (ps_for PassesOwn.never rfl (pi_range1 (by rfl) T.range (pa_cons (pe_op op_sub (pv 1) pe_int) pa_nil)) (pg_name (i := 3) scL_places.nd rfl (Or.inl rfl))
        (pss_one (ps_expr (pe_bm PySem.F.plainAttrs_list PySem.F.slot_list_append PySem.F.type_list_append mt_append (pv 2) (pa_cons (pe_op op_add (pe_op op_add (pe_ix ix_list (pv 2) (pe_un un_neg pe_int) (fun _ _ => rfl)) pe_int) (pe_ix ix_list (pe_lst (pa_cons pe_int (pa_cons (pe_do G_law_pick (hr.mono (by decide)) (pa_cons (pv 0) (pa_cons pe_int pa_nil))) (pa_cons (pe_do G_law_pick (hr.mono (by decide)) (pa_cons (pv 0) (pa_cons (pe_op op_pow pe_int pe_int) pa_nil))) pa_nil)))) (pe_do G_law_pick (hr.mono (by decide)) (pa_cons (pv 0) (pa_cons pe_int pa_nil))) (fun _ _ => rfl))) pa_nil)))))
      (pss_one (ps_ret (pv 2))))), ?_⟩
    obtain ⟨xs, hx, xne⟩ := id La
    refine ⟨_, rfl, a, xs, 3, rfl, hx, xne, by decide, by decide, fun H1 p ys F1 hy yne _ _ => ⟨by show 1 ≤ sizeLine; decide, fun q hq => ?_⟩⟩
    have naq : a ≠ q := ne_of_none hy hq
    have fq : Fresh H q := fun o e n => by
      by_cases z : q = a
      · exact naq z.symm
      · have := F1.at (by simpa using z) e n
        rw [hq] at this
        cases this
    have F2 : Fm K [a, q] H (upd H1 q (.lst [.int p])) := (F1.mono (by simp)).trans (Fm.new hq)
    have La2 : LfAt (upd H1 q (.lst [.int p])) a := ⟨ys, by rw [upd_ne naq]; exact hy, yne⟩
    have hq2 : (upd H1 q (.lst [.int p])) q = some (.lst (([p] : List Int).map V.int)) := upd_same
    refine ⟨_, rfl, _, _, rfl, rfl, _, rfl, by omega, by omega, for_range (lo := 0) (n := ((n : Int) - 1).toNat) (fun i σ H3 => ∃ (l : List Int) (x : Int) (v3 : Option V), σ = [some (.ref a), some (.int n), some (.ref q), v3] ∧ Fm K [a, q] H H3 ∧ LfAt H3 a ∧ H3 q = some (.lst ((l ++ [x]).map V.int)) ∧ l.length = i ∧ (l ++ [x]).Pairwise (· < ·))
      ⟨[], p, none, rfl, F2, La2, hq2, rfl, by simp⟩ ?_ ?_⟩
    · rintro i σ H3 hi ⟨l, x, v3, rfl, F3, La3, hq3, hl, pw⟩
      have hm : ∀ x : Int, ((l ++ [x]).map V.int) = l.map V.int ++ [.int x] := fun x => by simp
      obtain ⟨us, hu, une⟩ := id La3
      refine ⟨_, rfl, .inl ⟨rfl, _, SqL.of hq3⟩, _, rfl, _, rfl, q, _, _, .int x, rfl, rfl, SqL.of hq3, by rw [hm]; exact atI_last _ _, _, _, rfl, rfl, ?_⟩
      refine ⟨_, rfl, a, us, 5, rfl, hu, une, by decide, by decide, fun H4 p1 ws F4 hw wne b0 _ => ?_⟩
      refine ⟨_, rfl, _, _, rfl, rfl, ⟨by decide, by decide, by decide⟩, a, ws, _, rfl, hw, wne, by decide, by decide, fun H5 p2 xs5 F5 hx5 ne5 b1 _ => ⟨by show 3 ≤ sizeLine; decide, fun t ht => ?_⟩⟩
      have hu5 : (upd H5 t (.lst [.int 0, .int p1, .int p2])) a = some (.lst (xs5.map V.int)) := by rw [upd_ne (ne_of_none hx5 ht)]; exact hx5
      refine ⟨_, rfl, a, xs5, 3, rfl, hu5, ne5, by decide, by decide, fun H6 c xs6 F6 hx6 ne6 c0 c1 => ?_⟩
      have nat' : t ≠ a := (ne_of_none hx5 ht).symm
      have ht6 : H6 t = some (.lst [.int 0, .int p1, .int p2]) := F6.at (by simpa using nat') upd_same noT_lst
      obtain ⟨z, hz, z0⟩ : ∃ z : Int, atI ([.int 0, .int p1, .int p2] : List V) c = some (.int z) ∧ 0 ≤ z := by
        have : c = ((0 : Nat) : Int) ∨ c = ((1 : Nat) : Int) ∨ c = ((2 : Nat) : Int) := by omega
        rcases this with e | e | e <;> rw [e]
        · exact ⟨0, atI_nat rfl, Int.le_refl _⟩
        · exact ⟨p1, atI_nat rfl, b0⟩
        · exact ⟨p2, atI_nat rfl, b1⟩
      have F36 : Fm K [a] H3 H6 := ((F4.trans F5).trans (Fm.new ht)).trans F6
      have hq6 := F36.at (by simpa using naq.symm) hq3 noT_lst
      refine ⟨t, _, _, .int z, rfl, rfl, SqL.of ht6, hz, _, _, rfl, rfl, ?_⟩
      refine ⟨q, _, _, rfl, rfl, hq6, ?_, ?_⟩
      · rw [List.length_map, List.length_append]
        exact small_lt (by simp; omega)
      · have em : ((l ++ [x]).map V.int) ++ [.int (x + 1 + z)] = ((l ++ [x]) ++ [x + 1 + z]).map V.int := by simp
        rw [em]
        refine ⟨l ++ [x], x + 1 + z, _, rfl, (F3.trans (F36.mono (by simp))).trans (Fm.put hq6 rfl (by simp)), ⟨xs6, by rw [upd_ne naq]; exact hx6, ne6⟩, upd_same, by simp [hl], ?_⟩
        refine List.pairwise_append.mpr ⟨pw, by simp, fun y hy w' hw' => ?_⟩
        rw [List.mem_singleton] at hw'
        rw [hw']
        have : y ≤ x := by
          rcases List.mem_append.mp hy with hy | hy
          · have := (List.pairwise_append.mp pw).2.2 y hy x (by simp)
            omega
          · rw [List.mem_singleton] at hy
            omega
        omega
    · rintro σ H3 ⟨l, x, v3, rfl, F3, La3, hq3, hl, pw⟩
      have Fd : Fm K [a] H H3 := ((F3.mono (by simp)) : Fm K [q, a] H H3).drop fq
      exact ⟨_, rfl, k H3 q _ Fd La3 fq hq3 (by simp [hl]; omega) pw⟩
end
end FS
/-! F18 -/
namespace FS
open PySem PySem.Spec PyProof.Rows L2
section
variable {P : Program} {w : World} {K : PySem.W.Frag} {mg : Str → Option Value} {base : Heap} {hs ns ps : List Int}
def mk3 (h n : Addr) (wv : V) : List (Key × V) := [(Sum.inr "hands", .ref h), (Sum.inr "names", .ref n), (Sum.inr "wished", wv)]
def mk4 (h n : Addr) (wv : V) (p : Addr) : List (Key × V) := [(Sum.inr "hands", .ref h), (Sum.inr "names", .ref n), (Sum.inr "wished", wv), (Sum.inr "places", .ref p)]
def mk5 (h n : Addr) (wv : V) (p : Addr) (fv : V) : List (Key × V) := [(Sum.inr "hands", .ref h), (Sum.inr "names", .ref n), (Sum.inr "wished", wv), (Sum.inr "places", .ref p), (Sum.inr "files", fv)]
theorem mk3_all (h n : Addr) (wv : V) : mergeK [] (mk3 h n wv) = mk3 h n wv := merge_all (show ([Sum.inr "hands", Sum.inr "names", Sum.inr "wished"] : List Key).Nodup from by decide +kernel)
theorem mk3_put (h n : Addr) (wv : V) (p : Addr) : putK (mk3 h n wv) (Sum.inr "places" : Key) (.ref p) = mk4 h n wv p := putK_new (List.nodup_cons.mp (show ((Sum.inr "places" : Key) :: ([Sum.inr "hands", Sum.inr "names", Sum.inr "wished"] : List Key)).Nodup from by decide +kernel)).1
theorem mk4_put (h n : Addr) (wv : V) (p : Addr) (fv : V) : putK (mk4 h n wv p) (Sum.inr "files" : Key) fv = mk5 h n wv p fv := putK_new (List.nodup_cons.mp (show ((Sum.inr "files" : Key) :: ([Sum.inr "hands", Sum.inr "names", Sum.inr "wished", Sum.inr "places"] : List Key)).Nodup from by decide +kernel)).1
theorem mk4_n (h n : Addr) (wv : V) (p : Addr) : valV (mk4 h n wv p) (Sum.inr "names" : Key) = some (.ref n) := by
  unfold mk4
  rw [valV_neg (show ¬ ((Sum.inr "hands" : Key) = (Sum.inr "names" : Key)) from by decide +kernel), valV_pos rfl]
theorem mk4_p (h n : Addr) (wv : V) (p : Addr) : valV (mk4 h n wv p) (Sum.inr "places" : Key) = some (.ref p) := by
  unfold mk4
  rw [valV_neg (show ¬ ((Sum.inr "hands" : Key) = (Sum.inr "places" : Key)) from by decide +kernel), valV_neg (show ¬ ((Sum.inr "names" : Key) = (Sum.inr "places" : Key)) from by decide +kernel), valV_neg (show ¬ ((Sum.inr "wished" : Key) = (Sum.inr "places" : Key)) from by decide +kernel), valV_pos rfl]
theorem mk5_h (h n : Addr) (wv : V) (p : Addr) (fv : V) : valV (mk5 h n wv p fv) (Sum.inr "hands" : Key) = some (.ref h) := by
  unfold mk5
  rw [valV_pos rfl]
theorem mk5_n (h n : Addr) (wv : V) (p : Addr) (fv : V) : valV (mk5 h n wv p fv) (Sum.inr "names" : Key) = some (.ref n) := by
  unfold mk5
  rw [valV_neg (show ¬ ((Sum.inr "hands" : Key) = (Sum.inr "names" : Key)) from by decide +kernel), valV_pos rfl]
theorem mk5_p (h n : Addr) (wv : V) (p : Addr) (fv : V) : valV (mk5 h n wv p fv) (Sum.inr "places" : Key) = some (.ref p) := by
  unfold mk5
  rw [valV_neg (show ¬ ((Sum.inr "hands" : Key) = (Sum.inr "places" : Key)) from by decide +kernel), valV_neg (show ¬ ((Sum.inr "names" : Key) = (Sum.inr "places" : Key)) from by decide +kernel), valV_neg (show ¬ ((Sum.inr "wished" : Key) = (Sum.inr "places" : Key)) from by decide +kernel), valV_pos rfl]
/-- the dict of the world -/
structure MAt (H : Hp) (m h n p : Addr) (hs ns ps : List Int) : Prop where
  d : ∃ wv fv, H m = some (.dK (mk5 h n wv p fv))
  h : H h = some (.lst (hs.map V.int))
  n : H n = some (.lst (ns.map V.int))
  p : H p = some (.lst (ps.map V.int))
structure MOk (hs ns ps : List Int) : Prop where
  h1 : 1 ≤ hs.length
  h2 : hs.length ≤ 10
  n1 : 1 ≤ ns.length
  n2 : ns.length ≤ 8
  p1 : 2 ≤ ps.length
  p2 : ps.length ≤ 13
  nd : ns.Nodup
  inc : ps.Pairwise (· < ·)
def spL_world (K : PySem.W.Frag) : Sp := fun vs H Q _ => ∃ (a : Addr) (wd : Bool), vs = [.ref a, .bl wd] ∧ LfAt H a ∧
  ∀ H' m h n p hs ns ps, Fm K [a] H H' → LfAt H' a → MAt H' m h n p hs ns ps → MOk hs ns ps → (∀ b ∈ [m, h, n, p], b ≠ a) → Q (.ref m) H'
theorem scL_world : FnScope ["_law_left_here", "_law_wide", "_law_sizes", "_law_m", "_law_name", "_law_place"] ["_law_left_here", "_law_wide"] (defScope sL_world) := ⟨rfl, rfl, rfl, by decide +kernel, rfl, by decide +kernel, by decide +kernel⟩
theorem ok_L_world (T : Txt K mg) : Ok P w K mg base 3 "_law_world" ["_law_left_here", "_law_wide"] (spL_world K) := by
  have G_law_numbers : Ok P w K mg base 2 "_law_numbers" _ _ := ok_L_numbers T
  have G_law_pick : Ok P w K mg base 1 "_law_pick" _ _ := ok_L_pick T
  have G_law_places : Ok P w K mg base 2 "_law_places" _ _ := ok_L_places T
  refine T.dL_world.ok scL_world (fun _ _ _ _ _ _ us hl => match us, hl with | [_, _], _ => rfl) (fun vs H Q E h => ?_) (fun f cdv A outer s H vs Q E hr h => ?_)
  · obtain ⟨a, wd, rfl, _⟩ := h
    rfl
  · obtain ⟨a, wd, rfl, La, k⟩ := h
    have hu := hu_of hr
    refine ⟨_, (pss_cons (ps_set (i := 2) scL_world.nd rfl (Or.inl rfl) (pe_lst (pa_cons (pe_op op_add pe_int (pe_do G_law_pick (hr.mono (by decide)) (pa_cons (pv 0) (pa_cons pe_int pa_nil)))) (pa_cons (pe_op op_add pe_int (pe_do G_law_pick (hr.mono (by decide)) (pa_cons (pv 0) (pa_cons pe_int pa_nil)))) (pa_cons (pe_op op_add pe_int (pe_do G_law_pick (hr.mono (by decide)) (pa_cons (pv 0) (pa_cons pe_int pa_nil)))) pa_nil)))))
      (Evl.pss_cut (ps_if (pt_val (pv 1))
        (pss_one (ps_set (i := 2) scL_world.nd rfl (Or.inl rfl) (pe_lst (pa_cons (pe_op op_add pe_int (pe_do G_law_pick (hr.mono (by decide)) (pa_cons (pv 0) (pa_cons pe_int pa_nil)))) (pa_cons (pe_op op_add pe_int (pe_do G_law_pick (hr.mono (by decide)) (pa_cons (pv 0) (pa_cons pe_int pa_nil)))) (pa_cons (pe_op op_add pe_int (pe_do G_law_pick (hr.mono (by decide)) (pa_cons (pv 0) (pa_cons pe_int pa_nil)))) pa_nil))))))
        pss_nil)
      (pss_cons (ps_set (i := 3) scL_world.nd rfl (Or.inr rfl) (pe_disp (pps_cons pe_str (pe_do G_law_numbers (hr.mono (by decide)) (pa_cons (pv 0) (pa_cons (pe_ix ix_list (pv 2) pe_int (fun _ _ => rfl)) pa_nil))) (pps_cons pe_str (pe_do G_law_numbers (hr.mono (by decide)) (pa_cons (pv 0) (pa_cons (pe_ix ix_list (pv 2) pe_int (fun _ _ => rfl)) pa_nil))) (pps_cons pe_str (pe_lst pa_nil) pps_nil))) (by rfl) (by rfl) (fun z => by cases z) (by decide)))
      (pss_cons (ps_dput hu (pv 3) pe_str (pe_do G_law_places (hr.mono (by decide)) (pa_cons (pv 0) (pa_cons (pe_ix ix_list (pv 2) pe_int (fun _ _ => rfl)) pa_nil))) rfl)
      (pss_cons (ps_dput hu (pv 3) pe_str (pe_callTy (call_dictP rfl) (by rfl) T.dict (by decide +kernel) (pa_cons (pe_lc (own := [("_law_name", 4)]) (g := gName 4) (tt := tYes) (te := tTup (tCons (tVar 4) (tCons (tLc (iList K (tSl (rSlL K) (tDGet (tVar 3) (tC (.str "places"))) (tPart (tC (.int 1))) tNoPart)) (gName 5) tYes tDNewK [5]) tNil))) rfl scL_world.nd (pi_list (pe_dget hu (pv 3) pe_str (fun _ _ => rfl))) (blkOk_by (own := [("_law_name", 4)]) (N := ["_law_left_here", "_law_wide", "_law_sizes", "_law_m", "_law_name", "_law_place"]) (sc := defScope sL_world) (by decide +kernel)) (fun _ _ _ _ _ => (pg_name (i := 4) scL_world.nd rfl (Or.inl rfl))) (fun _ _ _ _ _ => pts_nil) (fun _ _ _ _ _ => (pe_tup (pa_cons (pv 4) (pa_cons (pe_lc (own := [("_law_place", 5)]) (g := gName 5) (tt := tYes) rfl scL_world.nd (pi_list (pe_slice sl_list (pe_dget hu (pv 3) pe_str (fun _ _ => rfl)) (po_some pe_int) po_none)) (blkOk_by (by rfl)) (fun _ _ _ _ _ => (pg_name (i := 5) scL_world.nd rfl (Or.inl rfl))) (fun _ _ _ _ _ => pts_nil) (fun _ _ _ _ _ => pe_dnewK)) pa_nil))))) pa_nil)) rfl)
      (pss_one (ps_ret (pv 3)))))))), ?_⟩
    obtain ⟨xs, hx, xne⟩ := id La
    refine ⟨_, rfl, a, xs, 4, rfl, hx, xne, by decide, by decide, fun H1 p1 ys F1 hy yne b1 c1 => ⟨_, _, rfl, rfl, ?_⟩⟩
    refine ⟨_, rfl, a, ys, 2, rfl, hy, yne, by decide, by decide, fun H2 p2 zs F2 hz zne b2 c2 => ⟨_, _, rfl, rfl, ?_⟩⟩
    refine ⟨_, rfl, a, zs, 5, rfl, hz, zne, by decide, by decide, fun H3 p3 us F3 hu3 une b3 c3 => ⟨_, _, rfl, rfl, by show 3 ≤ sizeLine; decide, fun t ht => ?_⟩⟩
    have nta : a ≠ t := ne_of_none hu3 ht
    have F13 : Fm K [a] H (upd H3 t (.lst [.int (2 + p1), .int (1 + p2), .int (3 + p3)])) := ((F1.trans F2).trans F3).trans (Fm.new ht)
    have ht4 : (upd H3 t (.lst [.int (2 + p1), .int (1 + p2), .int (3 + p3)])) t = some (.lst [.int (2 + p1), .int (1 + p2), .int (3 + p3)]) := upd_same
    have hu4 : (upd H3 t (.lst [.int (2 + p1), .int (1 + p2), .int (3 + p3)])) a = some (.lst (us.map V.int)) := by rw [upd_ne nta]; exact hu3
    generalize upd H3 t (.lst [.int (2 + p1), .int (1 + p2), .int (3 + p3)]) = H4 at F13 ht4 hu4
    refine ⟨fun σ H5 => ∃ (s0 : Addr) (z0 z1 z2 : Nat), σ = [some (.ref a), some (.bl wd), some (.ref s0), none, none, none] ∧ Fm K [a] H H5 ∧ LfAt H5 a ∧ s0 ≠ a ∧ H5 s0 = some (.lst [.int z0, .int z1, .int z2]) ∧ 1 ≤ z0 ∧ z0 ≤ 10 ∧ 1 ≤ z1 ∧ z1 ≤ 8 ∧ 2 ≤ z2 ∧ z2 ≤ 13, ⟨_, rfl, wd, rfl, ?_⟩, ?_⟩
    · refine ite2 (fun e => ?_) (fun e => ?_)
      · refine ⟨_, rfl, a, us, 4, rfl, hu4, une, by decide, by decide, fun H1 q1 ys F1 hy yne b1 c1 => ⟨_, _, rfl, rfl, ?_⟩⟩
        refine ⟨_, rfl, a, ys, 8, rfl, hy, yne, by decide, by decide, fun H2 q2 zs F2 hz zne b2 c2 => ⟨_, _, rfl, rfl, ?_⟩⟩
        refine ⟨_, rfl, a, zs, 6, rfl, hz, zne, by decide, by decide, fun H3 q3 us F3 hu3 une b3 c3 => ⟨_, _, rfl, rfl, by show 3 ≤ sizeLine; decide, fun s1 hs1 => ?_⟩⟩
        have nsa : a ≠ s1 := ne_of_none hu3 hs1
        refine ⟨s1, (7 + q1).toNat, (1 + q2).toNat, (8 + q3).toNat, rfl, ((F13.trans F1).trans (F2.trans F3)).trans (Fm.new hs1), ⟨us, by rw [upd_ne nsa]; exact hu3, une⟩, nsa.symm, ?_, by omega, by omega, by omega, by omega, by omega, by omega⟩
        rw [upd_same, Int.toNat_of_nonneg (by omega), Int.toNat_of_nonneg (by omega), Int.toNat_of_nonneg (by omega)]
      · refine ⟨t, (2 + p1).toNat, (1 + p2).toNat, (3 + p3).toNat, rfl, F13, ⟨us, hu4, une⟩, nta.symm, ?_, by omega, by omega, by omega, by omega, by omega, by omega⟩
        rw [ht4, Int.toNat_of_nonneg (by omega), Int.toNat_of_nonneg (by omega), Int.toNat_of_nonneg (by omega)]
    · clear F13 ht4 hu4 ht nta F1 F2 F3
      rintro σ H5 ⟨s0, z0, z1, z2, rfl, F5, L5, ns0, hs0, a0, a1, a2, a3, a4, a5⟩
      intro m hm
      have nma : a ≠ m := by
        obtain ⟨_, h, _⟩ := L5
        exact ne_of_none h hm
      have F6 : Fm K [a] H (upd H5 m (.dK [])) := F5.trans (Fm.new hm)
      have nsm : s0 ≠ m := ne_of_none hs0 hm
      have hs6 : (upd H5 m (.dK [])) s0 = some (.lst [.int z0, .int z1, .int z2]) := by rw [upd_ne nsm]; exact hs0
      have L6 : LfAt (upd H5 m (.dK [])) a := L5.fm (K := K) (ms := []) (Fm.new hm) (by simp)
      have hm6 : (upd H5 m (.dK [])) m = some (.dK []) := upd_same
      generalize upd H5 m (.dK []) = H6 at F6 hs6 L6 hm6
      refine ⟨_, rfl, _, rfl, s0, _, _, .int z0, rfl, rfl, SqL.of hs6, atI_nat (j := 0) rfl, a, z0, rfl, L6, by omega, fun H7 h hs F7 L7 fh hh lh nh => ?_⟩
      have hs7 := F7.at (by simpa using ns0) hs6 noT_lst
      have hm7 := F7.at (by simpa using nma.symm) hm6 noT_dK
      refine ⟨_, rfl, _, rfl, s0, _, _, .int z1, rfl, rfl, SqL.of hs7, atI_nat (j := 1) rfl, a, z1, rfl, L7, by omega, fun H8 n ns F8 L8 fn hn ln nn => ?_⟩
      have hs8 := F8.at (by simpa using ns0) hs7 noT_lst
      have hm8 := F8.at (by simpa using nma.symm) hm7 noT_dK
      have nha : h ≠ a := fun e => by
        obtain ⟨_, z, _⟩ := L6
        exact fh _ (e ▸ z) noT_lst
      have nna : n ≠ a := fun e => by
        obtain ⟨_, z, _⟩ := L7
        exact fn _ (e ▸ z) noT_lst
      have nhm : h ≠ m := fun e => fh _ (e ▸ hm6) noT_dK
      have nnm : n ≠ m := fun e => fn _ (e ▸ hm7) noT_dK
      have hh8 := F8.at (by simpa using nha) hh noT_lst
      refine ⟨by show 0 ≤ sizeLine; decide, fun wv hwv => ?_⟩
      have F9 : Fm K [a] H8 (upd H8 wv (.lst [])) := Fm.new hwv
      have L9 := L8.fm (K := K) (ms := []) (Fm.new (o := .lst []) hwv) (by simp)
      have hs9 := (Fm.new (K := K) (ms := []) (o := .lst []) hwv).at (by simp) hs8 noT_lst
      have hm9 := (Fm.new (K := K) (ms := []) (o := .lst []) hwv).at (by simp) hm8 noT_dK
      have hh9 := (Fm.new (K := K) (ms := []) (o := .lst []) hwv).at (by simp) hh8 noT_lst
      have hn9 := (Fm.new (K := K) (ms := []) (o := .lst []) hwv).at (by simp) hn noT_lst
      generalize upd H8 wv (.lst []) = H9 at F9 L9 hs9 hm9 hh9 hn9
      have F9' : Fm K [a] H H9 := ((F6.trans F7).trans F8).trans F9
      refine ⟨hm9, (mk3 h n (.ref wv)), rfl, by show 3 ≤ 15; decide, ?_⟩
      rw [mk3_all]
      -- places
      have F10 : Fm K [m] H9 (upd H9 m (.dK (mk3 h n (.ref wv)))) := Fm.put hm9 rfl (by simp)
      have hm10 : (upd H9 m (.dK (mk3 h n (.ref wv)))) m = some (.dK (mk3 h n (.ref wv))) := upd_same
      have L10 := L9.fm F10 (by simpa using nma)
      have hs10 := F10.at (by simpa using nsm) hs9 noT_lst
      have hh10 := F10.at (by simpa using nhm) hh9 noT_lst
      have hn10 := F10.at (by simpa using nnm) hn9 noT_lst
      generalize upd H9 m (.dK (mk3 h n (.ref wv))) = H10 at F10 hm10 L10 hs10 hh10 hn10
      refine ⟨_, rfl, _, rfl, s0, _, _, .int z2, rfl, rfl, SqL.of hs10, atI_nat (j := 2) rfl, a, z2, rfl, L10, by omega, by omega, fun H11 p ps F11 L11 fp hp lp ip => ?_⟩
      have hm11 := F11.at (by simpa using nma.symm) hm10 noT_dK
      have hh11 := F11.at (by simpa using nha) hh10 noT_lst
      have hn11 := F11.at (by simpa using nna) hn10 noT_lst
      have npa : p ≠ a := fun e => by
        obtain ⟨_, z, _⟩ := L10
        exact fp _ (e ▸ z) noT_lst
      have npm : p ≠ m := fun e => fp _ (e ▸ hm10) noT_dK
      refine ⟨_, rfl, m, _, rfl, DPut.k (k := Sum.inr "places") hm11 (by show 3 < sizeLine; decide), ?_⟩
      rw [mk3_put]
      have F12 : Fm K [m] H11 (upd H11 m (.dK (mk4 h n (.ref wv) p))) := Fm.put hm11 rfl (by simp)
      have hm12 : (upd H11 m (.dK (mk4 h n (.ref wv) p))) m = some (.dK (mk4 h n (.ref wv) p)) := upd_same
      have L12 := L11.fm F12 (by simpa using nma)
      have hh12 := F12.at (by simpa using nhm) hh11 noT_lst
      have hn12 := F12.at (by simpa using nnm) hn11 noT_lst
      have hp12 := F12.at (by simpa using npm) hp noT_lst
      generalize upd H11 m (.dK (mk4 h n (.ref wv) p)) = H12 at F12 hm12 L12 hh12 hn12 hp12
      have Fm12 : Fm K [m, a] H H12 := ((F9'.mono (by simp)).trans (F10.mono (by simp))).trans ((F11.mono (by simp)).trans (F12.mono (by simp)))
      -- files
      have gN : ∀ Hx : Hp, Hx m = some (.dK (mk4 h n (.ref wv) p)) → DGet Hx m (.str "names") (some (.ref n)) := fun Hx hx => mk4_n h n (.ref wv) p ▸ DGet.k (k := Sum.inr "names") hx
      have gP : ∀ Hx : Hp, Hx m = some (.dK (mk4 h n (.ref wv) p)) → DGet Hx m (.str "places") (some (.ref p)) := fun Hx hx => mk4_p h n (.ref wv) p ▸ DGet.k (k := Sum.inr "places") hx
      refine ⟨_, rfl, m, .ref n, rfl, gN _ hm12, n, rfl, ⟨_, SqL.of hn12⟩, fun D hD => lc_run (K := K) hD hn12 (fun i acc Hx => acc.length = i ∧ ∃ (as : List Addr) (kvs : List (Key × V)), acc = as.map V.ref ∧ Paired (fun p (kv : Key × V) => Hx p = some (.tup [kV kv.1, kv.2])) as kvs) ⟨rfl, [], [], rfl, .nil⟩ ?_ ?_⟩
      · rintro i x Hx acc hx' Fx hDx ⟨al, as, kvs, rfl, hP⟩
        obtain ⟨z, hz', rfl⟩ : ∃ z, ns[i]? = some z ∧ x = .int z := by
          rw [List.getElem?_map] at hx'
          cases e : ns[i]? with
          | none => rw [e] at hx'; cases hx'
          | some z => rw [e] at hx'; exact ⟨z, rfl, (Option.some.inj hx').symm⟩
        have nmD : m ≠ D := ne_of_none hm12 hD
        have npD : p ≠ D := ne_of_none hp12 hD
        have hmx : Hx m = _ := Fx.at (by simpa using nmD) (by rw [upd_ne nmD]; exact hm12) noT_dK
        have hpx : Hx p = _ := Fx.at (by simpa using npD) (by rw [upd_ne npD]; exact hp12) noT_lst
        refine ⟨rfl, _, rfl, _, rfl, m, .ref p, rfl, gP _ hmx, _, rfl, p, _, rfl, SqL.of hpx, fun sl hsl => ⟨sl, rfl, ⟨_, SqL.of upd_same⟩, fun D2 hD2 => lc_run (K := K) hD2 upd_same (fun j acc2 _ => acc2.length = j) rfl ?_ ?_⟩⟩
        · intro j y Hy acc2 hy Fy hDy e
          refine ⟨rfl, fun nd hnd => ?_⟩
          have hD3 : (upd Hy nd (.dK [])) D2 = some (.lst acc2) := by rw [upd_ne (ne_of_none hDy hnd)]; exact hDy
          refine lc_put (Fy.trans (Fm.new hnd)) hD3 ?_ (by simp [e])
          have : j < (cutV (ps.map V.int) (some 1) none).length := (List.getElem?_eq_some_iff.mp hy).1
          have h3 : (cutV (ps.map V.int) (some 1) none).length ≤ 13 := by
            have := cutV_length (ps.map V.int) (some 1) none
            rw [List.length_map] at this
            omega
          exact small_lt (by omega)
        · intro H14 acc2 F14 fD2 hD14 _
          refine ⟨by show 2 ≤ sizeLine; decide, fun tp htp => ?_⟩
          have Fx2 : Fm K [] Hx H14 := (Fm.new hsl).trans F14
          have hDx2 : H14 D = some (.lst (as.map V.ref)) := Fx2.at (by simp) hDx noT_lst
          have hD15 : (upd H14 tp (.tup [.int z, .ref D2])) D = some (.lst (as.map V.ref)) := by rw [upd_ne (ne_of_none hDx2 htp)]; exact hDx2
          refine lc_put (Fx.trans (Fx2.nil.trans (Fm.new htp))) hD15 ?_ ⟨by simp [← al], as ++ [tp], kvs ++ [(Sum.inl z, .ref D2)], by simp, ?_⟩
          · have : i < (ns.map V.int).length := (List.getElem?_eq_some_iff.mp hx').1
            rw [List.length_map] at this
            exact small_lt (by omega)
          · have st : ∀ b xs, Hx b = some (.tup xs) → (upd (upd H14 tp (.tup [.int z, .ref D2])) D (.lst (as.map V.ref ++ [.ref tp]))) b = some (.tup xs) := fun b xs e => by
              have e2 := Fx2.at (by simp) e noT_tup
              rw [upd_ne (ne_of e2 hDx2 (by intro z; cases z)), upd_ne (ne_of_none e2 htp)]
              exact e2
            refine Paired.app (Paired.mapP hP fun a x e => st a _ e) (.cons ?_ .nil)
            rw [upd_ne (ne_of_none hDx2 htp).symm]
            exact upd_same
      · rintro H13 acc F13 fD hD13 ⟨_, as, kvs, rfl, hP⟩
        refine ⟨D, as, kvs, rfl, SqL.of hD13, Paired.mapP hP fun _ _ e => SqT.of e, fun fa hfa => ?_⟩
        have Fx := F13.trans (Fm.new (o := .dK (mergeK [] kvs)) hfa : Fm K [] H13 _)
        have hmx := Fx.at (by simp) hm12 noT_dK
        have hhx := Fx.at (by simp) hh12 noT_lst
        have hnx := Fx.at (by simp) hn12 noT_lst
        have hpx := Fx.at (by simp) hp12 noT_lst
        have Lx := L12.fm Fx (by simp)
        generalize upd H13 fa (.dK (mergeK [] kvs)) = H14 at Fx hmx hhx hnx hpx Lx
        refine ⟨_, rfl, m, _, rfl, DPut.k (k := Sum.inr "files") hmx (by show 4 < sizeLine; decide), ?_⟩
        rw [mk4_put]
        have F15 : Fm K [m] H14 (upd H14 m (.dK (mk5 h n (.ref wv) p (.ref fa)))) := Fm.put hmx rfl (by simp)
        have Fe : Fm K [m, a] H (upd H14 m (.dK (mk5 h n (.ref wv) p (.ref fa)))) := (Fm12.trans Fx.nil).trans (F15.mono (by simp))
        have fm : Fresh H m := F5.fresh (by simpa using nma.symm) (Fresh.of hm)
        refine ⟨_, rfl, k _ m h n p hs ns ps (Fe.drop fm) (Lx.fm F15 (by simpa using nma)) ⟨⟨_, _, upd_same⟩, by rw [upd_ne nhm]; exact hhx, by rw [upd_ne nnm]; exact hnx, by rw [upd_ne npm]; exact hpx⟩ ⟨by omega, by omega, by omega, by omega, by omega, by omega, nn, ip⟩ ?_⟩
        intro b hb
        simp at hb
        rcases hb with rfl | rfl | rfl | rfl
        · exact nma.symm
        · exact nha
        · exact nna
        · exact npa
end
end FS
/-! F19 -/
namespace FS
open PySem PySem.Spec PyProof.Rows L2
theorem MAt.fm {K : PySem.W.Frag} {H H' : Hp} {m h n p : Addr} {hs ns ps : List Int} {ms : List Addr} (M : MAt H m h n p hs ns ps) (F : Fm K ms H H') (no : ∀ b ∈ [m, h, n, p], b ∉ ms) : MAt H' m h n p hs ns ps := by
  obtain ⟨⟨wv, fv, a1⟩, a2, a3, a4⟩ := M
  exact ⟨⟨wv, fv, F.at (no _ (by simp)) a1 noT_dK⟩, F.at (no _ (by simp)) a2 noT_lst, F.at (no _ (by simp)) a3 noT_lst, F.at (no _ (by simp)) a4 noT_lst⟩
theorem MAt.gh {H : Hp} {m h n p : Addr} {hs ns ps : List Int} (M : MAt H m h n p hs ns ps) : DGet H m (.str "hands") (some (.ref h)) := by
  obtain ⟨⟨wv, fv, a1⟩, _⟩ := M
  exact mk5_h h n wv p fv ▸ DGet.k (k := Sum.inr "hands") a1
theorem MAt.gn {H : Hp} {m h n p : Addr} {hs ns ps : List Int} (M : MAt H m h n p hs ns ps) : DGet H m (.str "names") (some (.ref n)) := by
  obtain ⟨⟨wv, fv, a1⟩, _⟩ := M
  exact mk5_n h n wv p fv ▸ DGet.k (k := Sum.inr "names") a1
theorem MAt.gp {H : Hp} {m h n p : Addr} {hs ns ps : List Int} (M : MAt H m h n p hs ns ps) : DGet H m (.str "places") (some (.ref p)) := by
  obtain ⟨⟨wv, fv, a1⟩, _⟩ := M
  exact mk5_p h n wv p fv ▸ DGet.k (k := Sum.inr "places") a1
theorem at_int {l : List Int} {x : Int} (h0 : 0 ≤ x) (h1 : x < l.length) : ∃ y ∈ l, atI (l.map V.int) x = some (.int y) := by
  have h2 : x.toNat < l.length := by omega
  refine ⟨l[x.toNat], List.getElem_mem h2, ?_⟩
  have e : ((x.toNat : Nat) : Int) = x := by omega
  have z := atI_nat (xs := l.map V.int) (j := x.toNat) (v := .int l[x.toNat]) (by rw [List.getElem?_map, List.getElem?_eq_getElem h2]; rfl)
  rw [e] at z
  exact z
section
variable {P : Program} {w : World} {K : PySem.W.Frag} {mg : Str → Option Value} {base : Heap} {hs ns ps : List Int}
/-! ### stretch -/
def spL_stretch (K : PySem.W.Frag) (hs ns ps : List Int) : Sp := fun vs H Q _ => ∃ (m h n p a : Addr), vs = [.ref m, .ref a] ∧ MAt H m h n p hs ns ps ∧ MOk hs ns ps ∧ LfAt H a ∧ (∀ b ∈ [m, h, n, p], b ≠ a) ∧
  ∀ H' t (hd fl : Int) (wr : Bool) (i j : Nat), Fm K [a] H H' → LfAt H' a → hd ∈ hs → fl ∈ ns → i < j → j < ps.length → H' t = some (.tup [.int hd, .int fl, .str (sortS wr), .int i, .int j]) → Q (.ref t) H'
theorem scL_stretch : FnScope ["_law_m", "_law_left_here", "_law_hand", "_law_file", "_law_low", "_law_high"] ["_law_m", "_law_left_here"] (defScope sL_stretch) := ⟨rfl, rfl, rfl, by decide +kernel, rfl, by decide +kernel, by decide +kernel⟩
theorem ok_L_stretch (T : Txt K mg) : Ok P w K mg base 2 "_law_stretch" ["_law_m", "_law_left_here"] (spL_stretch K hs ns ps) := by
  have G_law_pick : Ok P w K mg base 1 "_law_pick" _ _ := ok_L_pick T
  refine T.dL_stretch.ok scL_stretch (fun _ _ _ _ _ _ us hl => match us, hl with | [_, _], _ => rfl) (fun vs H Q E h => ?_) (fun f cdv A outer s H vs Q E hr h => ?_)
  · obtain ⟨m, h, n, p, a, rfl, _⟩ := h
    rfl
  · obtain ⟨m, h, n, p, a, rfl, M, O, La, no, k⟩ := h
    have hu := hu_of hr
    refine ⟨_, (pss_cons (ps_set (i := 2) scL_stretch.nd rfl (Or.inl rfl) (pe_ix ix_list (pe_dget hu (pv 0) pe_str (fun _ _ => rfl)) (pe_do G_law_pick (hr.mono (by decide)) (pa_cons (pv 1) (pa_cons (pe_callB call_len_seq (by rfl) T.len PySem.boot_len (pa_cons (pe_dget hu (pv 0) pe_str (fun _ _ => rfl)) pa_nil)) pa_nil))) (fun _ _ => rfl)))
      (pss_cons (ps_set (i := 3) scL_stretch.nd rfl (Or.inl rfl) (pe_ix ix_list (pe_dget hu (pv 0) pe_str (fun _ _ => rfl)) (pe_do G_law_pick (hr.mono (by decide)) (pa_cons (pv 1) (pa_cons (pe_callB call_len_seq (by rfl) T.len PySem.boot_len (pa_cons (pe_dget hu (pv 0) pe_str (fun _ _ => rfl)) pa_nil)) pa_nil))) (fun _ _ => rfl)))
      (pss_cons (ps_set (i := 4) scL_stretch.nd rfl (Or.inl rfl) (pe_do G_law_pick (hr.mono (by decide)) (pa_cons (pv 1) (pa_cons (pe_op op_sub (pe_callB call_len_seq (by rfl) T.len PySem.boot_len (pa_cons (pe_dget hu (pv 0) pe_str (fun _ _ => rfl)) pa_nil)) pe_int) pa_nil))))
      (pss_cons (ps_set (i := 5) scL_stretch.nd rfl (Or.inl rfl) (pe_op op_add (pe_op op_add (pv 4) pe_int) (pe_do G_law_pick (hr.mono (by decide)) (pa_cons (pv 1) (pa_cons (pe_op op_sub (pe_op op_sub (pe_callB call_len_seq (by rfl) T.len PySem.boot_len (pa_cons (pe_dget hu (pv 0) pe_str (fun _ _ => rfl)) pa_nil)) pe_int) (pv 4)) pa_nil)))))
      (pss_one (ps_ret (pe_tup (pa_cons (pv 2) (pa_cons (pv 3) (pa_cons (pe_ix ix_list (pe_lst (pa_cons pe_str (pa_cons pe_str pa_nil))) (pe_do G_law_pick (hr.mono (by decide)) (pa_cons (pv 1) (pa_cons pe_int pa_nil))) (fun _ _ => rfl)) (pa_cons (pv 4) (pa_cons (pv 5) pa_nil)))))))))))), ?_⟩
    have no' : ∀ b ∈ [m, h, n, p], b ∉ [a] := fun b hb => by simpa using no b hb
    obtain ⟨xs, hx, xne⟩ := id La
    have lh := O.h1
    have lh2 := O.h2
    have ln := O.n1
    have ln2 := O.n2
    have lp := O.p1
    have lp2 := O.p2
    refine ⟨_, rfl, m, _, rfl, M.gh, _, rfl, _, rfl, m, _, rfl, M.gh, h, _, rfl, .inl (SqL.of M.h), a, xs, _, rfl, hx, xne, by rw [List.length_map]; omega, by rw [List.length_map]; omega, fun H1 x1 ys F1 hy yne b1 c1 => ?_⟩
    rw [List.length_map] at c1
    have M1 := M.fm F1 no'
    obtain ⟨hd, hdm, hat⟩ := at_int b1 c1
    refine ⟨h, _, _, .int hd, rfl, rfl, SqL.of M1.h, hat, ?_⟩
    refine ⟨_, rfl, m, _, rfl, M1.gn, _, rfl, _, rfl, m, _, rfl, M1.gn, n, _, rfl, .inl (SqL.of M1.n), a, ys, _, rfl, hy, yne, by rw [List.length_map]; omega, by rw [List.length_map]; omega, fun H2 x2 zs F2 hz zne b2 c2 => ?_⟩
    rw [List.length_map] at c2
    have M2 := M1.fm F2 no'
    obtain ⟨fl, flm, fat⟩ := at_int b2 c2
    refine ⟨n, _, _, .int fl, rfl, rfl, SqL.of M2.n, fat, ?_⟩
    refine ⟨_, rfl, _, rfl, m, _, rfl, M2.gp, p, _, rfl, .inl (SqL.of M2.p), _, _, rfl, rfl, a, zs, _, rfl, hz, zne, by rw [List.length_map]; omega, by rw [List.length_map]; omega, fun H3 x3 us F3 hus une b3 c3 => ?_⟩
    rw [List.length_map] at c3
    have M3 := M2.fm F3 no'
    refine ⟨_, rfl, _, _, rfl, rfl, _, rfl, _, rfl, m, _, rfl, M3.gp, p, _, rfl, .inl (SqL.of M3.p), _, _, rfl, rfl, _, rfl, _, _, rfl, rfl, a, us, _, rfl, hus, une, by rw [List.length_map]; omega, by rw [List.length_map]; omega, fun H4 x4 vs4 F4 hv vne b4 c4 => ⟨_, _, rfl, rfl, ?_⟩⟩
    rw [List.length_map] at c4
    refine ⟨_, rfl, _, rfl, by show 2 ≤ sizeLine; decide, fun sl hsl => ?_⟩
    have hv5 : (upd H4 sl (.lst [.str "read", .str "write"])) a = some (.lst (vs4.map V.int)) := by rw [upd_ne (ne_of_none hv hsl)]; exact hv
    refine ⟨_, rfl, a, vs4, 2, rfl, hv5, vne, by decide, by decide, fun H5 x5 ws F5 hw wne b5 c5 => ?_⟩
    have nsa : sl ≠ a := (ne_of_none hv hsl).symm
    have hs5 := F5.at (by simpa using nsa) (upd_same (H := H4) (a := sl) (o := .lst [.str "read", .str "write"])) noT_lst
    obtain ⟨wr, hwr⟩ : ∃ wr : Bool, atI ([.str "read", .str "write"] : List V) x5 = some (.str (sortS wr)) := by
      have : x5 = ((0 : Nat) : Int) ∨ x5 = ((1 : Nat) : Int) := by omega
      rcases this with e | e <;> rw [e]
      · exact ⟨false, atI_nat rfl⟩
      · exact ⟨true, atI_nat rfl⟩
    refine ⟨sl, _, _, .str (sortS wr), rfl, rfl, SqL.of hs5, hwr, _, rfl, _, rfl, by show 5 ≤ sizeLine; decide, fun t ht => ?_⟩
    have Fa : Fm K [a] H H5 := (((F1.trans F2).trans (F3.trans F4)).trans (Fm.new hsl)).trans F5
    refine k _ t hd fl wr x3.toNat (x3 + 1 + x4).toNat (Fa.trans (Fm.new ht)) ⟨ws, by rw [upd_ne (ne_of_none hw ht)]; exact hw, wne⟩ hdm flm (by omega) (by omega) ?_
    rw [upd_same, Int.toNat_of_nonneg b3, Int.toNat_of_nonneg (by omega)]
/-! ### told_by -/
def spL_told_by (K : PySem.W.Frag) (hs ns ps : List Int) : Sp := fun vs H Q _ => ∃ (m h n p t : Addr) (hd fl : Int) (wr : Bool) (i j : Nat), vs = [.ref m, .ref t] ∧ MAt H m h n p hs ns ps ∧ MOk hs ns ps ∧ hd ∈ hs ∧ fl ∈ ns ∧ i < j ∧ j < ps.length ∧ H t = some (.tup [.int hd, .int fl, .str (sortS wr), .int i, .int j]) ∧
  ∀ H' q (x : Wish), Fm K [] H H' → H' q = some (.tup x.vs) → WOk hs ns ps x → Q (.ref q) H'
theorem scL_told_by : FnScope ["_law_m", "_law_wish"] ["_law_m", "_law_wish"] (defScope sL_told_by) := ⟨rfl, rfl, rfl, by decide +kernel, rfl, by decide +kernel, by decide +kernel⟩
theorem ok_L_told_by (T : Txt K mg) : Ok P w K mg base 1 "_law_told_by" ["_law_m", "_law_wish"] (spL_told_by K hs ns ps) := by
  refine T.dL_told_by.ok scL_told_by (fun _ _ _ _ _ _ us hl => match us, hl with | [_, _], _ => rfl) (fun vs H Q E h => ?_) (fun f cdv A outer s H vs Q E hr h => ?_)
  · obtain ⟨m, h, n, p, t, hd, fl, wr, i, j, rfl, _⟩ := h
    rfl
  · obtain ⟨m, h, n, p, t, hd, fl, wr, i, j, rfl, M, O, hdm, flm, hij, hj, ht, k⟩ := h
    have hu := hu_of hr
    refine ⟨_, (pss_one (ps_ret (pe_op op_catT (pe_slice sl_tup (pv 1) po_none (po_some pe_int)) (pe_tup (pa_cons (pe_ix ix_list (pe_dget hu (pv 0) pe_str (fun _ _ => rfl)) (pe_ix ix_tup (pv 1) pe_int (fun _ _ => rfl)) (fun _ _ => rfl)) (pa_cons (pe_ix ix_list (pe_dget hu (pv 0) pe_str (fun _ _ => rfl)) (pe_ix ix_tup (pv 1) pe_int (fun _ _ => rfl)) (fun _ _ => rfl)) pa_nil)))))), ?_⟩
    have hi : i < ps.length := by omega
    refine ⟨_, rfl, _, rfl, t, _, rfl, SqT.of ht, (fun z => absurd (show HT.sIx 5 5 (some 3) = 5 from z.2) (by decide)), fun q1 hq1 => ?_⟩
    have cut : cutV [V.int hd, .int fl, .str (sortS wr), .int i, .int j] none (some 3) = [.int hd, .int fl, .str (sortS wr)] := rfl
    rw [cut]
    have F1 : Fm K [] H (upd H q1 (.tup [.int hd, .int fl, .str (sortS wr)])) := Fm.new hq1
    have M1 := M.fm F1 (by simp)
    have ht1 := F1.at (by simp) ht noT_tup
    have hq : (upd H q1 (.tup [.int hd, .int fl, .str (sortS wr)])) q1 = some (.tup [.int hd, .int fl, .str (sortS wr)]) := upd_same
    generalize upd H q1 (.tup [.int hd, .int fl, .str (sortS wr)]) = H1 at F1 M1 ht1 hq
    have at_ : ∀ {x : Nat} (hx : x < ps.length), atI (ps.map V.int) ((x : Nat) : Int) = some (.int ps[x]) := fun {x} hx => atI_nat (by rw [List.getElem?_map, List.getElem?_eq_getElem hx]; rfl)
    refine ⟨_, rfl, m, _, rfl, M1.gp, _, rfl, t, _, _, .int i, rfl, rfl, SqT.of ht1, rfl, p, _, _, .int ps[i], rfl, rfl, SqL.of M1.p, at_ hi, ?_⟩
    refine ⟨_, rfl, m, _, rfl, M1.gp, _, rfl, t, _, _, .int j, rfl, rfl, SqT.of ht1, rfl, p, _, _, .int ps[j], rfl, rfl, SqL.of M1.p, at_ hj, by show 2 ≤ sizeLine; decide, fun q2 hq2 => ?_⟩
    have hq' : (upd H1 q2 (.tup [.int ps[i], .int ps[j]])) q1 = some (.tup [.int hd, .int fl, .str (sortS wr)]) := by rw [upd_ne (ne_of_none hq hq2)]; exact hq
    refine ⟨q1, q2, _, _, rfl, rfl, SqT.of hq', SqT.of upd_same, by simp, by show 5 ≤ sizeLine; decide, (fun z => by cases z), fun _ q3 hq3 => ?_⟩
    refine k _ q3 ⟨hd, fl, wr, ps[i], ps[j]⟩ ((F1.trans (Fm.new hq2)).trans (Fm.new hq3)) upd_same ⟨hdm, flm, List.getElem_mem _, List.getElem_mem _, ?_⟩
    exact List.pairwise_iff_getElem.mp O.inc i j hi hj hij
/-! ### meet -/
def meetB (r q : Row) : Bool := !decide (r.hd = q.hd) && (r.wr || q.wr) && (decide (r.lo < q.hi) && decide (q.lo < r.hi))
def spL_meet (K : PySem.W.Frag) : Sp := fun vs H Q _ => ∃ (x y : V) (r q : Row), vs = [x, y] ∧ RowV H x r ∧ RowV H y q ∧ ∀ H', Fm K [] H H' → Q (.bl (meetB r q)) H'
theorem scL_meet : FnScope ["_law_one", "_law_other"] ["_law_one", "_law_other"] (defScope sL_meet) := ⟨rfl, rfl, rfl, by decide +kernel, rfl, by decide +kernel, by decide +kernel⟩
theorem ok_L_meet (T : Txt K mg) : Ok P w K mg base 1 "_law_meet" ["_law_one", "_law_other"] (spL_meet K) := by
  refine T.dL_meet.ok scL_meet (fun _ _ _ _ _ _ us hl => match us, hl with | [_, _], _ => rfl) (fun vs H Q E h => ?_) (fun f cdv A outer s H vs Q E hr h => ?_)
  · obtain ⟨x, y, r, q, rfl, _⟩ := h
    rfl
  · obtain ⟨x, y, r, q, rfl, ⟨a, rfl, ha⟩, ⟨b, rfl, hb⟩, k⟩ := h
    refine ⟨_, (pss_cons (ps_if (PW.pt (pw_or (pt_cmpR op_eq (pe_ix ix_tup (pv 0) pe_int (fun _ _ => rfl)) (pe_ix ix_tup (pv 1) pe_int (fun _ _ => rfl)) (nomark _)) (pw_or1 (pt_cmpR op_notIn_seq pe_str (pe_tup (pa_cons (pe_ix ix_tup (pv 0) pe_int (fun _ _ => rfl)) (pa_cons (pe_ix ix_tup (pv 1) pe_int (fun _ _ => rfl)) pa_nil))) (by rfl)))))
        (pss_one (ps_ret pe_bl))
        pss_nil)
      (pss_one (ps_ret (pe_and (pe_cmpR op_lt (pe_ix ix_tup (pv 0) pe_int (fun _ _ => rfl)) (pe_ix ix_tup (pv 1) pe_int (fun _ _ => rfl)) (nomark _)) (pe_one (pe_cmpR op_lt (pe_ix ix_tup (pv 1) pe_int (fun _ _ => rfl)) (pe_ix ix_tup (pv 0) pe_int (fun _ _ => rfl)) (nomark _))))))), ?_⟩
    refine ⟨_, rfl, a, _, _, _, rfl, rfl, SqT.of ha, row3, _, rfl, b, _, _, _, rfl, rfl, SqT.of hb, row3, rfl, _, rfl, ite2 (fun e => ?_) (fun e => ?_)⟩
    · have e1 : r.hd = q.hd := by simpa using e
      refine iteT ?_
      have z : meetB r q = false := by
        unfold meetB
        simp [e1]
      exact z ▸ k H Fm.refl
    · have e1 : ¬ r.hd = q.hd := by simpa using e
      refine ⟨_, rfl, a, _, _, _, rfl, rfl, SqT.of ha, row2, _, rfl, b, _, _, _, rfl, rfl, SqT.of hb, row2, (by show 2 ≤ sizeLine; decide), fun p hp => ⟨p, _, rfl, .inr (SqT.of upd_same), rfl, rfl, _, rfl, ?_⟩⟩
      rw [if_pos (rfl : true = true), in_sorts]
      have f : Fm K [] H (upd H p (HO.tup [.str (sortS r.wr), .str (sortS q.wr)])) := Fm.new hp
      have ha' := f.at (by simp) ha noT_tup
      have hb' := f.at (by simp) hb noT_tup
      cases hw : (r.wr || q.wr) with
      | false =>
        refine iteT ?_
        have z : meetB r q = false := by
          unfold meetB
          simp [hw]
        exact z ▸ k _ f
      | true =>
        refine iteF ?_
        refine ⟨_, rfl, a, _, _, _, rfl, rfl, SqT.of ha', row0, _, rfl, b, _, _, _, rfl, rfl, SqT.of hb', row1, _, _, rfl, rfl, ?_⟩
        have z : meetB r q = (decide (r.lo < q.hi) && decide (q.lo < r.hi)) := by
          unfold meetB
          simp [hw, e1]
        rw [z] at k
        refine ⟨_, rfl, ite2 (fun e2 => ?_) (fun e2 => ?_)⟩
        · refine ⟨_, rfl, b, _, _, _, rfl, rfl, SqT.of hb', row0, _, rfl, a, _, _, _, rfl, rfl, SqT.of ha', row1, _, _, rfl, rfl, ?_⟩
          rw [e2, Bool.true_and] at k
          exact k _ f
        · have e3 : decide (r.lo < q.hi) = false := by simpa using e2
          rw [e3, Bool.false_and] at k
          exact k _ f
/-! ### against -/
def spagainst (K : PySem.W.Frag) : Sp := fun vs H Q _ => ∃ (a : Addr) (ys : List V) (rows : List Row), vs = [.ref a] ∧ H a = some (.lst ys) ∧ RowsV H ys rows ∧ rows.length ≤ 100000 ∧ (rows.Pairwise fun r q => hits r q = false) ∧ ∀ H', Fm K [] H H' → Q .non H'
theorem scagainst : FnScope ["rows", "i", "one", "k"] ["rows"] (defScope sagainst) := ⟨rfl, rfl, rfl, by decide +kernel, rfl, by decide +kernel, by decide +kernel⟩
theorem ok_against (T : Txt K mg) : Ok P w K mg base 2 "against" ["rows"] (spagainst K) := by
  have Gare_against : Ok P w K mg base 1 "are_against" _ _ := ok_are_against T
  refine T.dagainst.ok scagainst (fun _ _ _ _ _ _ us hl => match us, hl with | [_], _ => rfl) (fun vs H Q E h => ?_) (fun f cdv A outer s H vs Q E hr h => ?_)
  · obtain ⟨a, ys, rows, rfl, _⟩ := h
    rfl
  · obtain ⟨a, ys, rows, rfl, ha, R, hlen, pw, k⟩ := h
    refine ⟨_, (pss_cons (ps_for PassesOwn.never rfl (pi_enum (by rfl) T.enumerate (pa_cons (pv 0) pa_nil)) (pg_tup rfl (pgs_cons (pg_name (i := 1) scagainst.nd rfl (Or.inl rfl)) (pgs_cons (pg_name (i := 2) scagainst.nd rfl (Or.inl rfl)) pgs_nil)))
        (pss_one (ps_for PassesOwn.never rfl (pi_range2 (by rfl) T.range (pa_cons (pe_op op_add (pv 1) pe_int) (pa_cons (pe_callB call_len_seq (by rfl) T.len PySem.boot_len (pa_cons (pv 0) pa_nil)) pa_nil))) (pg_name (i := 3) scagainst.nd rfl (Or.inl rfl))
          (pss_one (ps_if (pt_val (pe_do Gare_against (hr.mono (by decide)) (pa_cons (pv 2) (pa_cons (pe_ix ix_list (pv 0) (pv 3) (fun _ _ => rfl)) pa_nil))))
            (pss_one (ps_ret (pe_tup (pa_cons (pv 1) (pa_cons (pv 3) pa_nil)))))
            pss_nil)))))
      (pss_one (ps_ret pe_non))), ?_⟩
    have el : ys.length = rows.length := paired_len R
    refine ⟨_, rfl, a, ys, rfl, SqL.of ha, for_it (walk_enum (K := K) (a := a) (xs := ys)) (fun i σ H1 => ∃ v1 v2 v3 : Option V, σ = [some (.ref a), v1, v2, v3] ∧ Fm K [] H H1) ⟨none, none, none, rfl, Fm.refl⟩ (fun i σ H1 _ ⟨_, _, _, _, F⟩ => SqL.of (F.at (by simp) ha noT_lst)) ?_ ?_⟩
    · rintro i x σ H1 H2 hi ⟨v1, v2, v3, rfl, F1⟩ ⟨t, _, y, rfl, ht, rfl, e1, hy⟩
      cases e1
      obtain ⟨r, hr', b, rfl, hb⟩ := Paired.at R hy
      have F2 : Fm K [] H (upd H1 t (.tup [.int (i : Nat), .ref b])) := F1.trans (Fm.new ht)
      have ha2 := F2.at (by simp) ha noT_lst
      refine ⟨t, _, rfl, SqT.of upd_same, rfl, _, _, rfl, _, _, rfl, rfl, ?_⟩
      refine ⟨_, rfl, _, _, rfl, rfl, _, rfl, a, _, rfl, .inl (SqL.of ha2), _, _, rfl, ⟨by omega, by omega, by omega, by omega⟩, ?_⟩
      refine for_range (lo := ((i : Nat) : Int) + 1) (n := ((ys.length : Int) - (((i : Nat) : Int) + 1)).toNat) (fun j σ H3 => ∃ v3 : Option V, σ = [some (.ref a), some (.int (i : Nat)), some (.ref b), v3] ∧ Fm K [] H H3) ⟨_, rfl, F2⟩ ?_ ?_
      · rintro j σ H3 hj ⟨v3, rfl, F3⟩
        have hlt : i + 1 + j < ys.length := by omega
        obtain ⟨y2, hy2⟩ : ∃ y2, ys[i + 1 + j]? = some y2 := ⟨_, List.getElem?_eq_getElem hlt⟩
        obtain ⟨r2, hr2, b2, rfl, hb2⟩ := Paired.at R hy2
        have ej : ((i : Nat) : Int) + 1 + (j : Nat) = ((i + 1 + j : Nat) : Int) := by omega
        rw [ej]
        refine ⟨_, rfl, _, rfl, _, rfl, a, _, _, .ref b2, rfl, rfl, SqL.of (F3.at (by simp) ha noT_lst), atI_nat hy2, ?_⟩
        refine ⟨_, _, r, r2, rfl, ⟨b, rfl, F3.at (by simp) hb noT_tup⟩, ⟨b2, rfl, F3.at (by simp) hb2 noT_tup⟩, fun H4 F4 => ⟨_, rfl, ?_⟩⟩
        have hf : hits r r2 = false := by
          obtain ⟨h1, e1⟩ := List.getElem?_eq_some_iff.mp hr'
          obtain ⟨h2, e2⟩ := List.getElem?_eq_some_iff.mp hr2
          rw [← e1, ← e2]
          exact List.pairwise_iff_getElem.mp pw i (i + 1 + j) h1 h2 (by omega)
        rw [hf]
        exact iteF ⟨_, rfl, F3.trans F4⟩
      · rintro σ H3 ⟨v3, rfl, F3⟩
        exact ⟨_, _, _, rfl, F3⟩
    · rintro σ H1 ⟨v1, v2, v3, rfl, F1⟩
      exact k H1 F1
end
end FS
/-! F20 -/
namespace FS
open PySem PySem.Spec PyProof.Rows L2
/-! ### what the law looks at -/
def HeldV (H : Hp) (S : LS) (L : List Addr) (kv : Key × V) (f : Int) : Prop := kv.1 = .inl f ∧ ∃ b ys, kv.2 = .ref b ∧ b ∈ L ∧ H b = some (.lst ys) ∧ RowsV H ys (asLong (getP S.pieces f))
structure AllAt (H : Hp) (v : V) (S : LS) (ns : List Int) (L : List Addr) : Prop where
  ex : ∃ t wl d ws kvs, v = .ref t ∧ H t = some (.tup [.ref wl, .ref d]) ∧ H wl = some (.lst ws) ∧ WishesV H ws S.wished ∧ H d = some (.dK kvs) ∧ Paired (HeldV H S L) kvs ns ∧ t ∈ L ∧ wl ∈ L ∧ d ∈ L
theorem AllAt.fm {K : PySem.W.Frag} {H H' : Hp} {v : V} {S : LS} {ns : List Int} {L : List Addr} {ms : List Addr} (A : AllAt H v S ns L) (F : Fm K ms H H') (tk : Tk H H') (no : ∀ b ∈ ms, b ∉ L) : AllAt H' v S ns L := by
  obtain ⟨t, wl, d, ws, kvs, e, h1, h2, h3, h4, h5, m1, m2, m3⟩ := A.ex
  have st : ∀ b, b ∈ L → b ∉ ms := fun b hb hm => no b hm hb
  exact ⟨t, wl, d, ws, kvs, e, F.at (st _ m1) h1 noT_tup, F.at (st _ m2) h2 noT_lst, WishesV.tk tk h3, F.at (st _ m3) h4 noT_dK, Paired.mapP h5 fun kv f ⟨a1, b, ys, a2, a3, a4, a5⟩ => ⟨a1, b, ys, a2, a3, F.at (st _ a3) a4 noT_lst, RowsV.tk tk a5⟩, m1, m2, m3⟩
theorem AllAt.fm0 {K : PySem.W.Frag} {H H' : Hp} {v : V} {S : LS} {ns : List Int} {L : List Addr} (A : AllAt H v S ns L) (F : Fm K [] H H') : AllAt H' v S ns L := A.fm F F.tup (by simp)
/-- after[1][name] -/
theorem held_get {H : Hp} {S : LS} {L : List Addr} : ∀ {kvs : List (Key × V)} {ns : List Int} {f : Int}, Paired (HeldV H S L) kvs ns → f ∈ ns → ∃ b ys, valV kvs (Sum.inl f : Key) = some (.ref b) ∧ b ∈ L ∧ H b = some (.lst ys) ∧ RowsV H ys (asLong (getP S.pieces f))
  | _, _, _, .nil, h => by simp at h
  | kv :: kvs, g :: ns, f, .cons ⟨a1, b, ys, a2, a3, a4, a5⟩ t, h => by
    by_cases e : g = f
    · subst e
      exact ⟨b, ys, by rw [valV_pos a1, a2], a3, a4, a5⟩
    · obtain ⟨b, ys, h1, r⟩ := held_get t ((List.mem_cons.mp h).resolve_left (fun z => e z.symm))
      exact ⟨b, ys, by rw [valV_neg (by rw [a1]; intro z; exact e (Sum.inl.inj z))]; exact h1, r⟩
theorem held_keys {H : Hp} {S : LS} {L : List Addr} : ∀ {kvs : List (Key × V)} {ns : List Int}, Paired (HeldV H S L) kvs ns → kvs.map (·.1) = ns.map (Sum.inl : Int → Key)
  | _, _, .nil => rfl
  | _, _, .cons r t => by rw [List.map_cons, List.map_cons, held_keys t, r.1]
section
variable {P : Program} {w : World} {K : PySem.W.Frag} {mg : Str → Option Value} {base : Heap} {hs ns ps : List Int}
def spL_all (K : PySem.W.Frag) (hs ns ps : List Int) : Sp := fun vs H Q _ => ∃ (p d wl m h n q : Addr) (S : LS), vs = [.ref p, .ref m] ∧ LkAt K H p d wl S ∧ Nm S ∧ Tb K H ∧ MAt H m h n q hs ns ps ∧ MOk hs ns ps ∧
  ∀ H' v L, Fm K [] H H' → AllAt H' v S ns L → (∀ b ∈ L, Fresh H b) → Q v H'
theorem scL_all : FnScope ["_law_locks", "_law_m", "_law_name"] ["_law_locks", "_law_m"] (defScope sL_all) := ⟨rfl, rfl, rfl, by decide +kernel, rfl, by decide +kernel, by decide +kernel⟩
theorem ok_L_all (T : Txt K mg) (TB : LamX.TabB base mg (He.cT K pLong).1 (He.cT K pLong).2) : Ok P w K mg base 5 "_law_all" ["_law_locks", "_law_m"] (spL_all K hs ns ps) := by
  have Gheld : Ok P w K mg base 4 "held" _ _ := ok_held T TB
  have Gwishes : Ok P w K mg base 1 "wishes" _ _ := ok_wishes T
  refine T.dL_all.ok scL_all (fun _ _ _ _ _ _ us hl => match us, hl with | [_, _], _ => rfl) (fun vs H Q E h => ?_) (fun f cdv A outer s H vs Q E hr h => ?_)
  · obtain ⟨p, d, wl, m, h, n, q, S, rfl, _⟩ := h
    rfl
  · obtain ⟨p, d, wl, m, h, n, q, S, rfl, Lk, N, tb, M, O, k⟩ := h
    have hu := hu_of hr
    refine ⟨_, (pss_one (ps_ret (pe_tup (pa_cons (pe_do Gwishes (hr.mono (by decide)) (pa_cons (pv 0) pa_nil)) (pa_cons (pe_callTy (call_dictP rfl) (by rfl) T.dict (by decide +kernel) (pa_cons (pe_lc (own := [("_law_name", 2)]) (g := gName 2) (tt := tYes) (te := tTup (tCons (tVar 2) (tCons (tCall (spheld K) [] E0 (tCons (tVar 0) (tCons (tVar 2) tNil))) tNil))) rfl scL_all.nd (pi_list (pe_dget hu (pv 1) pe_str (fun _ _ => rfl))) (blkOk_by (own := [("_law_name", 2)]) (N := ["_law_locks", "_law_m", "_law_name"]) (sc := defScope sL_all) (by decide +kernel)) (fun _ _ _ _ _ => (pg_name (i := 2) scL_all.nd rfl (Or.inl rfl))) (fun _ _ _ _ _ => pts_nil) (fun _ _ _ _ _ => (pe_tup (pa_cons (pv 2) (pa_cons (pe_do Gheld (hr.mono (by decide)) (pa_cons (pv 0) (pa_cons (pv 2) pa_nil))) pa_nil))))) pa_nil)) pa_nil))))), ?_⟩
    refine ⟨_, rfl, p, d, wl, S, rfl, Lk, fun w2 ws hw2 hW => ?_⟩
    have F1 : Fm K [] H (upd H w2 (.lst ws)) := Fm.new hw2
    have Lk1 := Lk.fm F1
    have M1 := M.fm F1 (by simp)
    have hw1 : (upd H w2 (.lst ws)) w2 = some (.lst ws) := upd_same
    generalize upd H w2 (.lst ws) = H1 at F1 Lk1 M1 hw1
    refine ⟨_, rfl, m, _, rfl, M1.gn, n, rfl, ⟨_, SqL.of M1.n⟩, fun D hD => lc_run (K := K) hD M1.n (fun i acc Hx => ∃ (as : List Addr) (kvs : List (Key × V)), acc = as.map V.ref ∧ Paired (fun a (kv : Key × V) => Hx a = some (.tup [kV kv.1, kv.2])) as kvs ∧ ∃ L : List Addr, (∀ b ∈ L, Fresh H b ∧ b ≠ D) ∧ Paired (HeldV Hx S L) kvs (ns.take i)) ⟨[], [], rfl, .nil, [], by simp, .nil⟩ ?_ ?_⟩
    · rintro i x Hx acc hx Fx hDx ⟨as, kvs, rfl, hP, Ls, hL, hH⟩
      obtain ⟨z, hz, rfl⟩ : ∃ z, ns[i]? = some z ∧ x = .int z := by
        rw [List.getElem?_map] at hx
        cases e : ns[i]? with
        | none => rw [e] at hx; cases hx
        | some z => rw [e] at hx; exact ⟨z, rfl, (Option.some.inj hx).symm⟩
      have F1x : Fm K [] H1 Hx := ((Fm.new hD).trans Fx : Fm K [D] H1 Hx).drop (Fresh.of hD)
      have Lkx := Lk1.fm F1x
      refine ⟨rfl, _, rfl, _, rfl, _, rfl, p, d, wl, S, z, rfl, Lkx, N, F1x.tb (F1.tb tb), fun H2 b zs F2 fb hb RZ => ?_⟩
      have hDx2 : H2 D = some (.lst (as.map V.ref)) := F2.at (by simp) hDx noT_lst
      refine ⟨by show 2 ≤ sizeLine; decide, fun tp htp => ?_⟩
      have hD15 : (upd H2 tp (.tup [.int z, .ref b])) D = some (.lst (as.map V.ref)) := by rw [upd_ne (ne_of_none hDx2 htp)]; exact hDx2
      have nbD : b ≠ D := fun e => fb _ (e ▸ hDx) noT_lst
      have fbH : Fresh H b := F1.fresh (by simp) (F1x.fresh (by simp) fb)
      have F3 : Fm K [D] H2 (upd (upd H2 tp (.tup [.int z, .ref b])) D (.lst (as.map V.ref ++ [.ref tp]))) := (Fm.new htp).trans (Fm.put hD15 rfl (by simp))
      have tk3 : Tk H2 (upd (upd H2 tp (.tup [.int z, .ref b])) D (.lst (as.map V.ref ++ [.ref tp]))) := (tk_new htp).trans (tk_lst hD15)
      refine lc_put (Fx.trans (F2.nil.trans (Fm.new htp))) hD15 ?_ ⟨as ++ [tp], kvs ++ [(Sum.inl z, .ref b)], by simp, ?_, b :: Ls, ?_, ?_⟩
      · have h1 : i < ns.length := (List.getElem?_eq_some_iff.mp hz).1
        have h2 := paired_len hP
        have h3 := paired_len hH
        rw [List.length_take] at h3
        have := O.n2
        rw [List.length_map]
        exact small_lt (by omega)
      · refine Paired.app (Paired.mapP hP fun a kv e => tk3 _ _ (F2.at (by simp) e noT_tup)) (.cons ?_ .nil)
        rw [upd_ne (ne_of_none hDx2 htp).symm]
        exact upd_same
      · intro c hc
        rcases List.mem_cons.mp hc with rfl | hc
        · exact ⟨fbH, nbD⟩
        · exact hL c hc
      · rw [take_next hz]
        refine Paired.app (Paired.mapP hH fun kv f ⟨a1, c, ys, a2, a3, a4, a5⟩ => ⟨a1, c, ys, a2, List.mem_cons_of_mem _ a3, F3.at (by simpa using (hL c a3).2) (F2.at (by simp) a4 noT_lst) noT_lst, RowsV.tk (F2.tup.trans tk3) a5⟩) (.cons ⟨rfl, b, zs, rfl, by simp, F3.at (by simpa using nbD) hb noT_lst, RowsV.tk tk3 RZ⟩ .nil)
    · rintro H2 acc F2 fD hD2 ⟨as, kvs, rfl, hP, Ls, hL, hH⟩
      rw [List.length_map, List.take_length] at hH
      refine ⟨D, as, kvs, rfl, SqL.of hD2, Paired.mapP hP fun _ _ e => SqT.of e, fun fa hfa => ⟨by show 2 ≤ sizeLine; decide, fun t ht => ?_⟩⟩
      have hkn : (kvs.map (·.1)).Nodup := by
        have e : kvs.map (·.1) = ns.map (Sum.inl : Int → Key) := held_keys hH
        rw [e]
        exact List.pairwise_map.mpr (O.nd.imp fun h e => h (Sum.inl.inj e))
      rw [merge_all hkn] at ht ⊢
      have F3 : Fm K [] H2 (upd H2 fa (.dK kvs)) := Fm.new hfa
      have hfa3 : (upd H2 fa (.dK kvs)) fa = some (.dK kvs) := upd_same
      have F4 : Fm K [] (upd H2 fa (.dK kvs)) (upd (upd H2 fa (.dK kvs)) t (.tup [.ref w2, .ref fa])) := Fm.new ht
      have fw : Fresh H w2 := Fresh.of hw2
      have F24 := F3.trans F4
      have ff : Fresh H fa := F1.fresh (by simp) (F2.fresh (by simp) (Fresh.of hfa))
      have ft : Fresh H t := F1.fresh (by simp) (F2.fresh (by simp) (F3.fresh (by simp) (Fresh.of ht)))
      refine k _ (.ref t) (t :: w2 :: fa :: Ls) ((F1.trans F2).trans F24) ⟨t, w2, fa, ws, kvs, rfl, upd_same, F24.at (by simp) (F2.at (by simp) hw1 noT_lst) noT_lst, WishesV.tk ((F1.tup.trans F2.tup).trans F24.tup) hW, F4.at (by simp) hfa3 noT_dK, Paired.mapP hH fun kv f ⟨a1, c, ys, a2, a3, a4, a5⟩ => ⟨a1, c, ys, a2, by simp [a3], F24.at (by simp) a4 noT_lst, RowsV.tk F24.tup a5⟩, by simp, by simp, by simp⟩ ?_
      intro b hb
      rcases List.mem_cons.mp hb with rfl | hb
      · exact ft
      rcases List.mem_cons.mp hb with rfl | hb
      · exact fw
      rcases List.mem_cons.mp hb with rfl | hb
      · exact ff
      · exact (hL b hb).1
end
end FS
/-! F21 -/
namespace FS
open PySem PySem.Spec PyProof.Rows L2
def HeldL (S : LS) (x : Wish) : Prop := ∃ r ∈ asLong (getP S.pieces x.fl), In x.row r
theorem sort_dec (a b : Bool) : decide ((V.str (sortS a)) = V.str (sortS b)) = decide (a = b) := by
  by_cases h : a = b
  · simp [h]
  · rw [decide_eq_false h]
    exact decide_eq_false fun z => h (sortS_inj (V.str.inj z))
section
variable {P : Program} {w : World} {K : PySem.W.Frag} {mg : Str → Option Value} {base : Heap} {hs ns ps : List Int}
/-- ahead[1][name], and the like: the list of rows -/
def spL_holds (K : PySem.W.Frag) (ns : List Int) : Sp := fun vs H Q _ => ∃ (va vw : V) (S : LS) (L : List Addr) (x : Wish), vs = [va, vw] ∧ AllAt H va S ns L ∧ WishV H vw x ∧ x.fl ∈ ns ∧ HeldL S x ∧ Q (.bl true) H
theorem scL_holds : FnScope ["_law_after", "_law_wish", "_law_low", "_law_high", "_law_sort", "_law_hand"] ["_law_after", "_law_wish"] (defScope sL_holds) := ⟨rfl, rfl, rfl, by decide +kernel, rfl, by decide +kernel, by decide +kernel⟩
theorem ok_L_holds (T : Txt K mg) : Ok P w K mg base 1 "_law_holds" ["_law_after", "_law_wish"] (spL_holds K ns) := by
  refine T.dL_holds.ok scL_holds (fun _ _ _ _ _ _ us hl => match us, hl with | [_, _], _ => rfl) (fun vs H Q E h => ?_) (fun f cdv A outer s H vs Q E hr h => ?_)
  · obtain ⟨va, vw, S, L, x, rfl, _⟩ := h
    rfl
  · obtain ⟨va, vw, S, L, x, rfl, AA, ⟨q, rfl, hq⟩, hf, hh, k⟩ := h
    have hu := hu_of hr
    refine ⟨_, (pss_cons (ps_for PassesOwn.never rfl (pi_list (pe_dget hu (pe_ix ix_tup (pv 0) pe_int (fun _ _ => rfl)) (pe_ix ix_tup (pv 1) pe_int (fun _ _ => rfl)) (fun _ _ => rfl))) (pg_tup rfl (pgs_cons (pg_name (i := 2) scL_holds.nd rfl (Or.inl rfl)) (pgs_cons (pg_name (i := 3) scL_holds.nd rfl (Or.inl rfl)) (pgs_cons (pg_name (i := 4) scL_holds.nd rfl (Or.inl rfl)) (pgs_cons (pg_name (i := 5) scL_holds.nd rfl (Or.inl rfl)) pgs_nil)))))
        (pss_one (ps_if (PW.pt (pw_and (pt_cmpR op_eq (pv 5) (pe_ix ix_tup (pv 1) pe_int (fun _ _ => rfl)) (nomark _)) (pw_and (pt_cmpR op_eq (pv 4) (pe_ix ix_tup (pv 1) pe_int (fun _ _ => rfl)) (nomark _)) (pw_and (pt_cmpR op_le (pv 2) (pe_ix ix_tup (pv 1) pe_int (fun _ _ => rfl)) (nomark _)) (pw_and1 (pt_cmpR op_le (pe_ix ix_tup (pv 1) pe_int (fun _ _ => rfl)) (pv 3) (nomark _)))))))
          (pss_one (ps_ret pe_bl))
          pss_nil)))
      (pss_one (ps_ret pe_bl))), ?_⟩
    obtain ⟨t, w2, d2, ws, kvs, rfl, h1, h2, h3, h4, h5, m1, m2, m3⟩ := AA.ex
    obtain ⟨b, ys, e1, _, hb, R⟩ := held_get h5 hf
    refine ⟨_, rfl, t, _, _, .ref d2, rfl, rfl, SqT.of h1, rfl, _, rfl, q, _, _, _, rfl, rfl, SqT.of hq, wish1, d2, .ref b, rfl, e1 ▸ DGet.k (k := Sum.inl x.fl) h4, b, rfl, ⟨_, SqL.of hb⟩, for_list (K := K) (a := b) (xs := ys) (fun i σ H1 => ∃ v2 v3 v4 v5 : Option V, σ = [some (.ref t), some (.ref q), v2, v3, v4, v5] ∧ H1 = H ∧ ∀ r ∈ (asLong (getP S.pieces x.fl)).take i, ¬ In x.row r)
      ⟨none, none, none, none, rfl, rfl, by simp⟩ (fun i σ H1 _ ⟨_, _, _, _, _, e, _⟩ => SqL.of (e ▸ hb)) ?_ ?_⟩
    · rintro i y σ H1 hy ⟨v2, v3, v4, v5, rfl, rfl, hn⟩
      obtain ⟨r, hr', c, rfl, hc⟩ := Paired.at R hy
      have stay : ¬ In x.row r → ∀ r' ∈ (asLong (getP S.pieces x.fl)).take (i + 1), ¬ In x.row r' := fun nr r' hr'' => by
        rw [take_next hr', List.mem_append] at hr''
        rcases hr'' with z | z
        · exact hn r' z
        · rw [List.mem_singleton] at z
          rw [z]
          exact nr
      refine ⟨c, _, rfl, SqT.of hc, rfl, _, _, rfl, _, _, rfl, _, _, rfl, _, _, rfl, rfl, ?_⟩
      refine ⟨_, rfl, _, rfl, q, _, _, _, rfl, rfl, SqT.of hq, wish0, rfl, _, rfl, ite2 (fun c1 => ?_) (fun c1 => iteF ⟨_, _, _, _, rfl, rfl, stay fun z => c1 (by simp [z.1, Wish.row])⟩)⟩
      refine ⟨_, rfl, _, rfl, q, _, _, _, rfl, rfl, SqT.of hq, wish2, rfl, _, rfl, ite2 (fun c2 => ?_) (fun c2 => iteF ⟨_, _, _, _, rfl, rfl, stay fun z => c2 (by simp [z.2.1, Wish.row])⟩)⟩
      refine ⟨_, rfl, _, rfl, q, _, _, _, rfl, rfl, SqT.of hq, wish3, _, _, rfl, rfl, _, rfl, ite2 (fun c3 => ?_) (fun c3 => iteF ⟨_, _, _, _, rfl, rfl, stay fun z => c3 (by have := z.2.2.1; simpa [Wish.row] using this)⟩)⟩
      refine ⟨_, rfl, q, _, _, _, rfl, rfl, SqT.of hq, wish4, _, rfl, _, _, rfl, rfl, _, rfl, ite2 (fun c4 => k) (fun c4 => ⟨_, _, _, _, rfl, rfl, stay fun z => c4 (by have := z.2.2.2; simpa [Wish.row] using this)⟩)⟩
    · rintro σ H1 ⟨v2, v3, v4, v5, rfl, rfl, hn⟩
      obtain ⟨r, hr, hi⟩ := hh
      rw [paired_len R, List.take_length] at hn
      exact absurd hi (hn r hr)
end
end FS
/-! F22 -/
namespace FS
open PySem PySem.Spec PyProof.Rows L2
theorem any_wish (w : Wish) (ws : List Wish) : (ws.map wishD).any (fun z => PyData.eqv z (wishD w)) = decide (w ∈ ws) := by
  rw [List.any_map]
  apply Bool.eq_iff_iff.mpr
  simp [eqv_wish]
theorem one_of {l : List Wish} {w : Wish} (nd : (l.map (·.hd)).Nodup) (hw : w ∈ l) : l.filter (fun v => decide (v.hd = w.hd)) = [w] := by
  induction l with
  | nil => simp at hw
  | cons a l ih =>
    rw [List.map_cons, List.nodup_cons] at nd
    rcases List.mem_cons.mp hw with rfl | hw'
    · have e : l.filter (fun v => decide (v.hd = w.hd)) = [] := List.filter_eq_nil_iff.mpr fun v hv z => nd.1 (List.mem_map.mpr ⟨v, hv, by simpa using z⟩)
      rw [List.filter_cons_of_pos (by simp), e]
    · have ne : ¬ a.hd = w.hd := fun z => nd.1 (List.mem_map.mpr ⟨w, hw', z.symm⟩)
      rw [List.filter_cons_of_neg (by simpa using ne)]
      exact ih nd.2 hw'
section
variable {P : Program} {w : World} {K : PySem.W.Frag} {mg : Str → Option Value} {base : Heap} {hs ns ps : List Int}
theorem units65 {k : Nat} {A : Around} (r : Room k A) : A.units + 65 < cLine := by have := r.un; omega
def spL_let (K : PySem.W.Frag) (ns : List Int) : Sp := fun vs H Q _ => ∃ (va vb : V) (l : Addr) (S S' : LS) (L L' : List Addr) (told : List Int), vs = [va, vb, .ref l] ∧ AllAt H va S ns L ∧ AllAt H vb S' ns L' ∧ H l = some (.lst (told.map V.int)) ∧ told.Nodup ∧ told.length < 64 ∧ S.wished.length ≤ 1000 ∧ (S.wished.map (·.hd)).Nodup ∧
  (∀ h ∈ told, ∃ x ∈ S.wished, x.hd = h ∧ x ∉ S'.wished ∧ HeldL S' x ∧ x.fl ∈ ns) ∧ ∀ H', Fm K [] H H' → Q (.bl true) H'
theorem scL_let : FnScope ["_law_ahead", "_law_after", "_law_hands", "_law_hand", "_law_some", "_law_wish"] ["_law_ahead", "_law_after", "_law_hands"] (defScope sL_let) := ⟨rfl, rfl, rfl, by decide +kernel, rfl, by decide +kernel, by decide +kernel⟩
theorem ok_L_let (T : Txt K mg) : Ok P w K mg base 2 "_law_let" ["_law_ahead", "_law_after", "_law_hands"] (spL_let K ns) := by
  have G_law_holds : Ok P w K mg base 1 "_law_holds" _ _ := ok_L_holds (ns := ns) T
  refine T.dL_let.ok scL_let (fun _ _ _ _ _ _ us hl => match us, hl with | [_, _, _], _ => rfl) (fun vs H Q E h => ?_) (fun f cdv A outer s H vs Q E hr h => ?_)
  · obtain ⟨va, vb, l, S, S', L, L', told, rfl, _⟩ := h
    rfl
  · obtain ⟨va, vb, l, S, S', L, L', told, rfl, Aa, Ab, hl, tnd, t64, swl, wnd, hlet, k⟩ := h
    have hu := hu_of hr
    refine ⟨_, (pss_cons (ps_for PassesOwn.never rfl (pi_list (pv 2)) (pg_name (i := 3) scL_let.nd rfl (Or.inr rfl))
        (pss_cons (ps_setLc (i := 4) (own := [("_law_wish", 5)]) (g := gName 5) (tt := tTest (tOp rEq (tOp (rIxT K) (tVar 5) (tC (.int 0))) (tVar 3))) (te := tVar 5) rfl scL_let.nd rfl rfl (sw_true rfl rfl rfl (by decide +kernel)) (pi_list (pe_ix ix_tup (pv 0) pe_int (fun _ _ => rfl))) (blkOk_by (own := [("_law_wish", 5)]) (N := ["_law_ahead", "_law_after", "_law_hands", "_law_hand", "_law_some", "_law_wish"]) (sc := defScope sL_let) (by decide +kernel)) (fun _ _ _ _ _ => (pg_name (i := 5) scL_let.nd rfl (Or.inl rfl))) (fun _ _ _ _ _ => (pts_one (pt_cmpR op_eq (pe_ix ix_tup (pv 5) pe_int (fun _ _ => rfl)) (pv 3) (nomark _)))) (fun _ _ _ _ _ => (pv 5)))
        (pss_one (ps_if (PW.pt (pw_or (pt_cmpR op_ne (pe_callB call_len_seq (by rfl) T.len PySem.boot_len (pa_cons (pv 4) pa_nil)) pe_int (nomark _)) (pw_or (pt_not (pt_val (pe_do G_law_holds (hr.mono (by decide)) (pa_cons (pv 1) (pa_cons (pe_ix ix_list (pv 4) pe_int (fun _ _ => rfl)) pa_nil))))) (pw_or1 (pt_cmpR (op_inD (units65 hr)) (pe_ix ix_list (pv 4) pe_int (fun _ _ => rfl)) (pe_ix ix_tup (pv 1) pe_int (fun _ _ => rfl)) (by rfl))))))
          (pss_one (ps_ret pe_bl))
          pss_nil))))
      (pss_one (ps_ret (pe_cmpR op_eq (RZ.pe_lenSetI (by rfl) T.len (by rfl) T.set (pv 2)) (pe_callB call_len_seq (by rfl) T.len PySem.boot_len (pa_cons (pv 2) pa_nil)) (nomark _))))), ?_⟩
    obtain ⟨ta, wa, da, wsa, kva, rfl, a1, a2, a3, a4, a5, _⟩ := Aa.ex
    obtain ⟨tb, wb, db, wsb, kvb, rfl, b1, b2, b3, b4, b5, _⟩ := Ab.ex
    refine ⟨_, rfl, l, rfl, ⟨_, SqL.of hl⟩, for_list (K := K) (a := l) (xs := told.map V.int) (fun i σ H1 => ∃ v3 v4 : Option V, σ = [some (.ref ta), some (.ref tb), some (.ref l), v3, v4, none] ∧ Fm K [] H H1) ⟨none, none, rfl, Fm.refl⟩ (fun i σ H1 _ ⟨_, _, _, F⟩ => SqL.of (F.at (by simp) hl noT_lst)) ?_ ?_⟩
    · rintro i y σ H1 hy ⟨v3, v4, rfl, F1⟩
      obtain ⟨hd, hhd, rfl⟩ : ∃ z, told[i]? = some z ∧ y = .int z := by
        rw [List.getElem?_map] at hy
        cases e : told[i]? with
        | none => rw [e] at hy; cases hy
        | some z => rw [e] at hy; exact ⟨z, rfl, (Option.some.inj hy).symm⟩
      obtain ⟨x, hx, rfl, xn, xh, xf⟩ := hlet hd (List.mem_of_getElem? hhd)
      have a11 := F1.at (by simp) a1 noT_tup
      have a21 := F1.at (by simp) a2 noT_lst
      have a31 := WishesV.tk F1.tup a3
      refine ⟨_, rfl, ta, _, _, .ref wa, rfl, rfl, SqT.of a11, rfl, wa, rfl, ⟨_, SqL.of a21⟩, fun D hD => lc_run (K := K) hD a21 (fun j acc Hx => WishesV Hx acc ((S.wished.take j).filter fun r => decide (r.hd = x.hd))) .nil ?_ ?_⟩
      · intro j v Hx acc hv Fx hDx G
        obtain ⟨r, hr', b, rfl, hb⟩ := Paired.at a31 hv
        have nbD : b ≠ D := ne_of_none hb hD
        have hb' : Hx b = some (.tup r.vs) := Fx.at (by simpa using nbD) (by rw [upd_ne nbD]; exact hb) noT_tup
        refine ⟨rfl, _, rfl, b, _, _, _, rfl, rfl, SqT.of hb', wish0, _, rfl, rfl, _, rfl, ?_⟩
        refine ite2 (fun e => ?_) (fun e => ?_)
        · have e : r.hd = x.hd := by simpa using e
          refine ⟨_, rfl, lc_put Fx hDx ?_ ?_⟩
          · rw [paired_len G]
            exact small_lt (by have := take_len (fun r : Wish => decide (r.hd = x.hd)) S.wished j; omega)
          · rw [filter_take hr', if_pos (by simp [e])]
            exact Paired.app (WishesV.tk (tk_lst hDx) G) (.cons (WishV.tk (tk_lst hDx) ⟨b, rfl, hb'⟩) .nil)
        · have e : ¬ r.hd = x.hd := by simpa using e
          refine ⟨acc, Fx, hDx, ?_⟩
          show WishesV Hx acc (List.filter (fun r => decide (r.hd = x.hd)) (List.take (j + 1) S.wished))
          rw [filter_take hr', if_neg (by simp [e])]
          exact G
      · intro H2 acc F2 fD hD2 G
        rw [paired_len a31, List.take_length, one_of wnd hx] at G
        cases G with
        | @cons y0 _ rest _ r t =>
        cases t
        obtain ⟨b, rfl, hb⟩ := r
        have F12 := F1.trans F2
        have Ab2 := Ab.fm0 F12
        refine ⟨_, rfl, D, _, rfl, .inl (SqL.of hD2), rfl, _, rfl, iteF ?_⟩
        refine ⟨_, rfl, _, rfl, D, _, _, .ref b, rfl, rfl, SqL.of hD2, atI_nat (j := 0) rfl, _, _, S', L', x, rfl, Ab2, ⟨b, rfl, hb⟩, xf, xh, _, rfl, iteF ?_⟩
        refine ⟨_, rfl, D, _, _, .ref b, rfl, rfl, SqL.of hD2, atI_nat (j := 0) rfl, _, rfl, tb, _, _, .ref wb, rfl, rfl, SqT.of (F12.at (by simp) b1 noT_tup), rfl, wishD x, S'.wished.map wishD, WishV.dp ⟨b, rfl, hb⟩, .lst (SqL.of (F12.at (by simp) b2 noT_lst)) (WishesV.dp (WishesV.tk F12.tup b3)), shaped_wish x, shaped_wishes _, _, rfl, ?_⟩
        rw [any_wish, decide_eq_false xn]
        exact iteF ⟨_, _, rfl, F12⟩
    · rintro σ H1 ⟨v3, v4, rfl, F1⟩
      have hl1 := F1.at (by simp) hl noT_lst
      refine ⟨_, rfl, l, told, rfl, SqL.of hl1, tnd, by omega, _, rfl, l, _, rfl, .inl (SqL.of hl1), rfl, ?_⟩
      have : decide ((V.int (told.length : Int)) = V.int ((told.map V.int).length : Nat)) = true := by simp
      show Q (.bl (decide ((V.int (told.length : Int)) = V.int ((told.map V.int).length : Nat)))) H1
      rw [this]
      exact k H1 F1
end
end FS
/-! F23 -/
namespace FS
open PySem PySem.Spec PyProof.Rows L2
theorem eqv_rowsD (xs ys : List Row) : PyData.eqv (.list (xs.map rowD)) (.list (ys.map rowD)) = decide (xs = ys) := eqv_maps eqv_row xs ys
theorem eqv_wishesD (xs ys : List Wish) : PyData.eqv (.list (xs.map wishD)) (.list (ys.map wishD)) = decide (xs = ys) := eqv_maps eqv_wish xs ys
section
variable {P : Program} {w : World} {K : PySem.W.Frag} {mg : Str → Option Value} {base : Heap} {hs ns ps : List Int}
/-- [row for row in rows if row[3] not in movers] -/
theorem lc_rows {xs : List V} {a l : Addr} {rows : List Row} {mv : List Int} {j : Nat} {vs : List Nat} {σ : L2.St} {H1 : Hp} {D : Addr} {Q : Hp → Prop} (hD : H1 D = none) (ha : H1 a = some (.lst xs)) (R : RowsV H1 xs rows) (hlen : rows.length ≤ 100000)
    (hl : H1 l = some (.lst (mv.map V.int))) (hv : vs = [j]) (hj : j < σ.length) (i3 : Nat) (h3 : (wipe σ vs)[i3]? = some (some (.ref l))) (nj : i3 ≠ j)
    (hd : ∀ H acc, Fm K [] H1 H → Fresh H1 D → H D = some (.lst acc) → RowsV H acc (rows.filter fun r => !decide (r.hd ∈ mv)) → Q H) :
    ∃ W : Nat → Nat → Hp → Prop, (∃ m, W 0 m (upd H1 D (.lst []))) ∧ ∀ i m H, W i m H →
      ((Itl K a).stop i H ∧ Q H) ∨ ((Itl K a).go i H ∧ ∃ Nx : Hp → Prop, (∀ H', Nx H' → ∃ m', m' < m ∧ W (i + 1) m' H') ∧ ∀ x H', (Itl K a).yld i H x H' → gName j x (wipe σ vs) H' fun σ2 H2 => wipe σ2 vs = wipe σ vs ∧ tTest (tOp (rIn K true) (tOp (rIxT K) (tVar j) (tC (.int 3))) (tVar i3)) σ2 H2 fun b H3 =>
        if b = true then tVar j σ2 H3 fun y H4 => ∃ acc, H4 D = some (.lst acc) ∧ acc.length < sizeLine ∧ Nx (upd H4 D (.lst (acc ++ [y]))) else Nx H3) := by
  subst hv
  refine lc_run (K := K) hD ha (fun i acc Hx => RowsV Hx acc ((rows.take i).filter fun r => !decide (r.hd ∈ mv))) .nil ?_ ?_
  · intro i v Hx acc hv Fx hDx G
    obtain ⟨r, hr', b, rfl, hb⟩ := Paired.at R hv
    have nbD : b ≠ D := ne_of_none hb hD
    have nlD : l ≠ D := ne_of_none hl hD
    have hb' : Hx b = some (.tup r.vs) := Fx.at (by simpa using nbD) (by rw [upd_ne nbD]; exact hb) noT_tup
    have hl' : Hx l = some (.lst (mv.map V.int)) := Fx.at (by simpa using nlD) (by rw [upd_ne nlD]; exact hl) noT_lst
    have wj : wipe ((wipe σ [j]).set j (some (V.ref b))) [j] = wipe σ [j] := by simp [wipe]
    have gj : ((wipe σ [j]).set j (some (V.ref b)))[j]? = some (some (.ref b)) := by
      rw [List.getElem?_set_self (by rw [wipe_length]; exact hj)]
    have g3 : ((wipe σ [j]).set j (some (V.ref b)))[i3]? = some (some (.ref l)) := by
      rw [List.getElem?_set_ne (Ne.symm nj)]
      exact h3
    refine ⟨wj, _, gj, b, _, _, _, rfl, rfl, SqT.of hb', row3, _, g3, l, _, rfl, .inl (SqL.of hl'), rfl, flat_ints _, _, rfl, ?_⟩
    rw [if_pos (rfl : true = true), inV_ints]
    refine ite2 (fun e => ?_) (fun e => ?_)
    · have e : ¬ r.hd ∈ mv := by simpa using e
      refine ⟨_, gj, lc_put Fx hDx ?_ ?_⟩
      · rw [paired_len G]
        exact small_lt (by have := take_len (fun r : Row => !decide (r.hd ∈ mv)) rows i; omega)
      · rw [filter_take hr', if_pos (by simp [e])]
        exact Paired.app (RowsV.tk (tk_lst hDx) G) (.cons (RowV.tk (tk_lst hDx) ⟨b, rfl, hb'⟩) .nil)
    · have e : r.hd ∈ mv := by simpa using e
      refine ⟨acc, Fx, hDx, ?_⟩
      show RowsV Hx acc (List.filter (fun r => !decide (r.hd ∈ mv)) (List.take (i + 1) rows))
      rw [filter_take hr', if_neg (by simp [e])]
      exact G
  · intro H acc F fD hDD G
    rw [paired_len R, List.take_length] at G
    exact hd H acc F fD hDD G
/-- [wish for wish in wishes if wish[0] not in movers] -/
theorem lc_wishes {xs : List V} {a l : Addr} {rows : List Wish} {mv : List Int} {j : Nat} {vs : List Nat} {σ : L2.St} {H1 : Hp} {D : Addr} {Q : Hp → Prop} (hD : H1 D = none) (ha : H1 a = some (.lst xs)) (R : WishesV H1 xs rows) (hlen : rows.length ≤ 100000)
    (hl : H1 l = some (.lst (mv.map V.int))) (hv : vs = [j]) (hj : j < σ.length) (i3 : Nat) (h3 : (wipe σ vs)[i3]? = some (some (.ref l))) (nj : i3 ≠ j)
    (hd : ∀ H acc, Fm K [] H1 H → Fresh H1 D → H D = some (.lst acc) → WishesV H acc (rows.filter fun r => !decide (r.hd ∈ mv)) → Q H) :
    ∃ W : Nat → Nat → Hp → Prop, (∃ m, W 0 m (upd H1 D (.lst []))) ∧ ∀ i m H, W i m H →
      ((Itl K a).stop i H ∧ Q H) ∨ ((Itl K a).go i H ∧ ∃ Nx : Hp → Prop, (∀ H', Nx H' → ∃ m', m' < m ∧ W (i + 1) m' H') ∧ ∀ x H', (Itl K a).yld i H x H' → gName j x (wipe σ vs) H' fun σ2 H2 => wipe σ2 vs = wipe σ vs ∧ tTest (tOp (rIn K true) (tOp (rIxT K) (tVar j) (tC (.int 0))) (tVar i3)) σ2 H2 fun b H3 =>
        if b = true then tVar j σ2 H3 fun y H4 => ∃ acc, H4 D = some (.lst acc) ∧ acc.length < sizeLine ∧ Nx (upd H4 D (.lst (acc ++ [y]))) else Nx H3) := by
  subst hv
  refine lc_run (K := K) hD ha (fun i acc Hx => WishesV Hx acc ((rows.take i).filter fun r => !decide (r.hd ∈ mv))) .nil ?_ ?_
  · intro i v Hx acc hv Fx hDx G
    obtain ⟨r, hr', b, rfl, hb⟩ := Paired.at R hv
    have nbD : b ≠ D := ne_of_none hb hD
    have nlD : l ≠ D := ne_of_none hl hD
    have hb' : Hx b = some (.tup r.vs) := Fx.at (by simpa using nbD) (by rw [upd_ne nbD]; exact hb) noT_tup
    have hl' : Hx l = some (.lst (mv.map V.int)) := Fx.at (by simpa using nlD) (by rw [upd_ne nlD]; exact hl) noT_lst
    have wj : wipe ((wipe σ [j]).set j (some (V.ref b))) [j] = wipe σ [j] := by simp [wipe]
    have gj : ((wipe σ [j]).set j (some (V.ref b)))[j]? = some (some (.ref b)) := by
      rw [List.getElem?_set_self (by rw [wipe_length]; exact hj)]
    have g3 : ((wipe σ [j]).set j (some (V.ref b)))[i3]? = some (some (.ref l)) := by
      rw [List.getElem?_set_ne (Ne.symm nj)]
      exact h3
    refine ⟨wj, _, gj, b, _, _, _, rfl, rfl, SqT.of hb', wish0, _, g3, l, _, rfl, .inl (SqL.of hl'), rfl, flat_ints _, _, rfl, ?_⟩
    rw [if_pos (rfl : true = true), inV_ints]
    refine ite2 (fun e => ?_) (fun e => ?_)
    · have e : ¬ r.hd ∈ mv := by simpa using e
      refine ⟨_, gj, lc_put Fx hDx ?_ ?_⟩
      · rw [paired_len G]
        exact small_lt (by have := take_len (fun r : Wish => !decide (r.hd ∈ mv)) rows i; omega)
      · rw [filter_take hr', if_pos (by simp [e])]
        exact Paired.app (WishesV.tk (tk_lst hDx) G) (.cons (WishV.tk (tk_lst hDx) ⟨b, rfl, hb'⟩) .nil)
    · have e : r.hd ∈ mv := by simpa using e
      refine ⟨acc, Fx, hDx, ?_⟩
      show WishesV Hx acc (List.filter (fun r => !decide (r.hd ∈ mv)) (List.take (i + 1) rows))
      rw [filter_take hr', if_neg (by simp [e])]
      exact G
  · intro H acc F fD hDD G
    rw [paired_len R, List.take_length] at G
    exact hd H acc F fD hDD G
def spL_others_stay (K : PySem.W.Frag) (hs ns ps : List Int) : Sp := fun vs H Q _ => ∃ (m h n q l : Addr) (va vb : V) (S S' : LS) (L L' : List Addr) (mv : List Int), vs = [.ref m, va, vb, .ref l] ∧ MAt H m h n q hs ns ps ∧ AllAt H va S ns L ∧ AllAt H vb S' ns L' ∧ H l = some (.lst (mv.map V.int)) ∧ Nm S ∧ Nm S' ∧
  (∀ f ∈ ns, (asLong (getP S.pieces f)).filter (fun r => !decide (r.hd ∈ mv)) = (asLong (getP S'.pieces f)).filter fun r => !decide (r.hd ∈ mv)) ∧ (S.wished.filter (fun r => !decide (r.hd ∈ mv)) = S'.wished.filter fun r => !decide (r.hd ∈ mv)) ∧ ∀ H', Fm K [] H H' → Q (.bl true) H'
theorem scL_others_stay : FnScope ["_law_m", "_law_ahead", "_law_after", "_law_movers", "_law_name", "_law_before", "_law_row", "_law_wish"] ["_law_m", "_law_ahead", "_law_after", "_law_movers"] (defScope sL_others_stay) := ⟨rfl, rfl, rfl, by decide +kernel, rfl, by decide +kernel, by decide +kernel⟩
theorem ok_L_others_stay (T : Txt K mg) : Ok P w K mg base 1 "_law_others_stay" ["_law_m", "_law_ahead", "_law_after", "_law_movers"] (spL_others_stay K hs ns ps) := by
  refine T.dL_others_stay.ok scL_others_stay (fun _ _ _ _ _ _ us hl => match us, hl with | [_, _, _, _], _ => rfl) (fun vs H Q E h => ?_) (fun f cdv A outer s H vs Q E hr h => ?_)
  · obtain ⟨m, h, n, q, l, va, vb, S, S', L, L', mv, rfl, _⟩ := h
    rfl
  · obtain ⟨m, h, n, q, l, va, vb, S, S', L, L', mv, rfl, M, Aa, Ab, hl, N, N', hrow, hwish, k⟩ := h
    have hu := hu_of hr
    refine ⟨_, (pss_cons (ps_for PassesOwn.never rfl (pi_list (pe_dget hu (pv 0) pe_str (fun _ _ => rfl))) (pg_name (i := 4) scL_others_stay.nd rfl (Or.inl rfl))
        (pss_cons (ps_setLc (i := 5) (own := [("_law_row", 6)]) (g := gName 6) (tt := tTest (tOp (rIn K true) (tOp (rIxT K) (tVar 6) (tC (.int 3))) (tVar 3))) (te := tVar 6) rfl scL_others_stay.nd rfl rfl (sw_true rfl rfl rfl (by decide +kernel)) (pi_list (pe_dget hu (pe_ix ix_tup (pv 1) pe_int (fun _ _ => rfl)) (pv 4) (fun _ _ => rfl))) (blkOk_by (own := [("_law_row", 6)]) (N := ["_law_m", "_law_ahead", "_law_after", "_law_movers", "_law_name", "_law_before", "_law_row", "_law_wish"]) (sc := defScope sL_others_stay) (by decide +kernel)) (fun _ _ _ _ _ => (pg_name (i := 6) scL_others_stay.nd rfl (Or.inl rfl))) (fun _ _ _ _ _ => (pts_one (pt_cmpR op_notIn_seq (pe_ix ix_tup (pv 6) pe_int (fun _ _ => rfl)) (pv 3) (by rfl)))) (fun _ _ _ _ _ => (pv 6)))
        (pss_one (ps_if (pt_cmpR (op_neD hr.units) (pv 5) (pe_lc (own := [("_law_row", 6)]) (g := gName 6) (tt := tTest (tOp (rIn K true) (tOp (rIxT K) (tVar 6) (tC (.int 3))) (tVar 3))) (te := tVar 6) rfl scL_others_stay.nd (pi_list (pe_dget hu (pe_ix ix_tup (pv 2) pe_int (fun _ _ => rfl)) (pv 4) (fun _ _ => rfl))) (blkOk_by (own := [("_law_row", 6)]) (N := ["_law_m", "_law_ahead", "_law_after", "_law_movers", "_law_name", "_law_before", "_law_row", "_law_wish"]) (sc := defScope sL_others_stay) (by decide +kernel)) (fun _ _ _ _ _ => (pg_name (i := 6) scL_others_stay.nd rfl (Or.inl rfl))) (fun _ _ _ _ _ => (pts_one (pt_cmpR op_notIn_seq (pe_ix ix_tup (pv 6) pe_int (fun _ _ => rfl)) (pv 3) (by rfl)))) (fun _ _ _ _ _ => (pv 6))) (nomark _))
          (pss_one (ps_ret pe_bl))
          pss_nil))))
      (pss_one (ps_ret (pe_cmpR (op_eqD hr.units) (pe_lc (own := [("_law_wish", 7)]) (g := gName 7) (tt := tTest (tOp (rIn K true) (tOp (rIxT K) (tVar 7) (tC (.int 0))) (tVar 3))) (te := tVar 7) rfl scL_others_stay.nd (pi_list (pe_ix ix_tup (pv 1) pe_int (fun _ _ => rfl))) (blkOk_by (own := [("_law_wish", 7)]) (N := ["_law_m", "_law_ahead", "_law_after", "_law_movers", "_law_name", "_law_before", "_law_row", "_law_wish"]) (sc := defScope sL_others_stay) (by decide +kernel)) (fun _ _ _ _ _ => (pg_name (i := 7) scL_others_stay.nd rfl (Or.inl rfl))) (fun _ _ _ _ _ => (pts_one (pt_cmpR op_notIn_seq (pe_ix ix_tup (pv 7) pe_int (fun _ _ => rfl)) (pv 3) (by rfl)))) (fun _ _ _ _ _ => (pv 7))) (pe_lc (own := [("_law_wish", 7)]) (g := gName 7) (tt := tTest (tOp (rIn K true) (tOp (rIxT K) (tVar 7) (tC (.int 0))) (tVar 3))) (te := tVar 7) rfl scL_others_stay.nd (pi_list (pe_ix ix_tup (pv 2) pe_int (fun _ _ => rfl))) (blkOk_by (own := [("_law_wish", 7)]) (N := ["_law_m", "_law_ahead", "_law_after", "_law_movers", "_law_name", "_law_before", "_law_row", "_law_wish"]) (sc := defScope sL_others_stay) (by decide +kernel)) (fun _ _ _ _ _ => (pg_name (i := 7) scL_others_stay.nd rfl (Or.inl rfl))) (fun _ _ _ _ _ => (pts_one (pt_cmpR op_notIn_seq (pe_ix ix_tup (pv 7) pe_int (fun _ _ => rfl)) (pv 3) (by rfl)))) (fun _ _ _ _ _ => (pv 7))) (nomark _))))), ?_⟩
    have rl : ∀ {S : LS}, Nm S → ∀ f, (asLong (getP S.pieces f)).length ≤ 100000 := fun N f => Nat.le_trans (asLong_len _) (Nat.le_trans (N.rows f) (by decide))
    obtain ⟨ta, wa, da, wsa, kva, rfl, a1, a2, a3, a4, a5, _⟩ := Aa.ex
    obtain ⟨tb, wb, db, wsb, kvb, rfl, b1, b2, b3, b4, b5, _⟩ := Ab.ex
    refine ⟨_, rfl, m, _, rfl, M.gn, n, rfl, ⟨_, SqL.of M.n⟩, for_list (K := K) (a := n) (xs := ns.map V.int) (fun i σ H1 => ∃ v4 v5 : Option V, σ = [some (.ref m), some (.ref ta), some (.ref tb), some (.ref l), v4, v5, none, none] ∧ Fm K [] H H1) ⟨none, none, rfl, Fm.refl⟩ (fun i σ H1 _ ⟨_, _, _, F⟩ => SqL.of (F.at (by simp) M.n noT_lst)) ?_ ?_⟩
    · rintro i y σ H1 hy ⟨v4, v5, rfl, F1⟩
      obtain ⟨f, hf, rfl⟩ : ∃ z, ns[i]? = some z ∧ y = .int z := by
        rw [List.getElem?_map] at hy
        cases e : ns[i]? with
        | none => rw [e] at hy; cases hy
        | some z => rw [e] at hy; exact ⟨z, rfl, (Option.some.inj hy).symm⟩
      have fm := List.mem_of_getElem? hf
      obtain ⟨ba, ysa, ea, _, ha, Ra⟩ := held_get a5 fm
      obtain ⟨bb, ysb, eb, _, hb, Rb⟩ := held_get b5 fm
      have a11 := F1.at (by simp) a1 noT_tup
      have a41 := F1.at (by simp) a4 noT_dK
      have ha1 := F1.at (by simp) ha noT_lst
      have hl1 := F1.at (by simp) hl noT_lst
      refine ⟨_, rfl, ta, _, _, .ref da, rfl, rfl, SqT.of a11, rfl, _, rfl, da, .ref ba, rfl, ea ▸ DGet.k (k := Sum.inl f) a41, ba, rfl, ⟨_, SqL.of ha1⟩, fun D hD => lc_rows (l := l) (mv := mv) hD ha1 (RowsV.tk F1.tup Ra) (rl N f) hl1 rfl (by simp) 3 rfl (by decide) fun H2 acc F2 fD hD2 G => ?_⟩
      have F12 := F1.trans F2
      have b12 := F12.at (by simp) b1 noT_tup
      have b42 := F12.at (by simp) b4 noT_dK
      have hb2 := F12.at (by simp) hb noT_lst
      have hl2 := F12.at (by simp) hl noT_lst
      refine ⟨_, rfl, _, rfl, tb, _, _, .ref db, rfl, rfl, SqT.of b12, rfl, _, rfl, db, .ref bb, rfl, eb ▸ DGet.k (k := Sum.inl f) b42, bb, rfl, ⟨_, SqL.of hb2⟩, fun D2 hD2' => lc_rows (l := l) (mv := mv) hD2' hb2 (RowsV.tk F12.tup Rb) (rl N' f) hl2 rfl (by simp) 3 rfl (by decide) fun H3 acc2 F3 fD2 hD3 G2 => ?_⟩
      refine ⟨_, _, .lst (SqL.of (F3.at (by simp) hD2 noT_lst)) (RowsV.dp (RowsV.tk F3.tup G)), .lst (SqL.of hD3) (RowsV.dp G2), shaped_rows _, shaped_rows _, _, rfl, ?_⟩
      rw [eqv_rowsD, decide_eq_true (hrow f fm)]
      exact iteF ⟨_, _, rfl, F12.trans F3⟩
    · rintro σ H1 ⟨v4, v5, rfl, F1⟩
      have a11 := F1.at (by simp) a1 noT_tup
      have a21 := F1.at (by simp) a2 noT_lst
      have hl1 := F1.at (by simp) hl noT_lst
      refine ⟨_, rfl, ta, _, _, .ref wa, rfl, rfl, SqT.of a11, rfl, wa, rfl, ⟨_, SqL.of a21⟩, fun D hD => lc_wishes (l := l) (mv := mv) hD a21 (WishesV.tk F1.tup a3) (Nat.le_trans N.wl (by decide)) hl1 rfl (by simp) 3 rfl (by decide) fun H2 acc F2 fD hD2 G => ?_⟩
      have F12 := F1.trans F2
      refine ⟨_, rfl, tb, _, _, .ref wb, rfl, rfl, SqT.of (F12.at (by simp) b1 noT_tup), rfl, wb, rfl, ⟨_, SqL.of (F12.at (by simp) b2 noT_lst)⟩, fun D2 hD2' => lc_wishes (l := l) (mv := mv) hD2' (F12.at (by simp) b2 noT_lst) (WishesV.tk F12.tup b3) (Nat.le_trans N'.wl (by decide)) (F12.at (by simp) hl noT_lst) rfl (by simp) 3 rfl (by decide) fun H3 acc2 F3 fD2 hD3 G2 => ?_⟩
      refine ⟨_, _, .lst (SqL.of (F3.at (by simp) hD2 noT_lst)) (WishesV.dp (WishesV.tk F3.tup G)), .lst (SqL.of hD3) (WishesV.dp G2), shaped_wishes _, shaped_wishes _, ?_⟩
      rw [eqv_wishesD, decide_eq_true hwish]
      exact k H3 (F12.trans F3)
end
end FS
/-! F24 -/
namespace FS
open PySem PySem.Spec PyProof.Rows L2
/-! ### the units of a file -/
def unK (ps : List Int) (as : List Addr) : List (Key × V) := List.zipWith (fun p a => ((Sum.inl p : Key), V.ref a)) ps as
theorem unK_snoc {ps : List Int} {as : List Addr} (h : ps.length = as.length) (p : Int) (a : Addr) : unK (ps ++ [p]) (as ++ [a]) = unK ps as ++ [(Sum.inl p, .ref a)] := by
  unfold unK
  rw [List.zipWith_append h]
  rfl
theorem unK_len {ps : List Int} {as : List Addr} (h : as.length = ps.length) : (unK ps as).length = ps.length := by
  unfold unK
  rw [List.length_zipWith]
  omega
theorem unK_keys : ∀ {ps : List Int} {as : List Addr}, as.length = ps.length → (unK ps as).map (·.1) = ps.map (Sum.inl : Int → Key)
  | [], [], _ => rfl
  | p :: ps, a :: as, h => by
    have := unK_keys (ps := ps) (as := as) (by simpa using h)
    show Sum.inl p :: (unK ps as).map (·.1) = _
    rw [this]
    rfl
theorem unK_at : ∀ {ps : List Int} {as : List Addr} {i : Nat} {p : Int} {a : Addr}, ps[i]? = some p → as[i]? = some a → (unK ps as)[i]? = some (Sum.inl p, .ref a) := fun {ps as i p a} h1 h2 => by
  unfold unK
  rw [List.getElem?_zipWith, h1, h2]
theorem unK_val : ∀ {ps : List Int} {as : List Addr} {i : Nat} {p : Int} {a : Addr}, ps.Nodup → ps[i]? = some p → as[i]? = some a → valV (unK ps as) (Sum.inl p : Key) = some (.ref a)
  | [], _, _, _, _, _, h, _ => by simp at h
  | _ :: _, [], _, _, _, _, _, h => by simp at h
  | q :: ps, b :: as, 0, p, a, _, h1, h2 => by
    simp at h1 h2
    subst h1 h2
    exact valV_pos rfl
  | q :: ps, b :: as, i + 1, p, a, nd, h1, h2 => by
    rw [List.nodup_cons] at nd
    have h1' : ps[i]? = some p := by simpa using h1
    have h2' : as[i]? = some a := by simpa using h2
    have ne : ¬ q = p := fun e => nd.1 (e ▸ List.mem_of_getElem? h1')
    have e : valV (unK (q :: ps) (b :: as)) (Sum.inl p : Key) = valV (unK ps as) (Sum.inl p) := valV_neg (fun z => ne (Sum.inl.inj z))
    rw [e]
    exact unK_val nd.2 h1' h2'
/-- (hand, sort) -/
def HsV (H : Hp) (v : V) (r : Row) : Prop := ∃ t, v = .ref t ∧ H t = some (.tup [.int r.hd, .str (sortS r.wr)])
def Un (H : Hp) (as : List Addr) (ps : List Int) (F : Nat → List Row) : Prop := ∀ i a p, as[i]? = some a → ps[i]? = some p → ∃ vs, H a = some (.lst vs) ∧ Paired (HsV H) vs ((F i).filter (cvr p))
theorem HsV.tk {H H' : Hp} {v : V} {r : Row} (t : Tk H H') (h : HsV H v r) : HsV H' v r := by
  obtain ⟨p, e, q⟩ := h
  exact ⟨p, e, t _ _ q⟩
theorem Un.fm {K : PySem.W.Frag} {H H' : Hp} {as : List Addr} {ps : List Int} {F : Nat → List Row} {ms : List Addr} (U : Un H as ps F) (Fr : Fm K ms H H') (tk : Tk H H') (no : ∀ a ∈ as, a ∉ ms) : Un H' as ps F := fun i a p h1 h2 => by
  obtain ⟨vs, e, hP⟩ := U i a p h1 h2
  exact ⟨vs, Fr.at (no a (List.mem_of_getElem? h1)) e noT_lst, Paired.mapP hP fun _ _ => HsV.tk tk⟩
theorem Un.cong {H : Hp} {as : List Addr} {ps : List Int} {F G : Nat → List Row} (U : Un H as ps F) (e : ∀ i p, ps[i]? = some p → (F i).filter (cvr p) = (G i).filter (cvr p)) : Un H as ps G := fun i a p h1 h2 => by
  obtain ⟨vs, h, hP⟩ := U i a p h1 h2
  exact ⟨vs, h, e i p h2 ▸ hP⟩
theorem Tb.putF {K : PySem.W.Frag} {H : Hp} {p : Addr} {o v : HO} {od : Obj} (t : Tb K H) (h : H p = some (.frz od v)) : Tb K (upd H p o) := fun q hq => by
  obtain ⟨ps, h1, h2, h3⟩ := t q hq
  refine ⟨ps, ?_, h2, fun pos cv hc => ?_⟩
  · rw [upd_ne (fun z => by rw [z, h] at h1; cases h1)]
    exact h1
  · obtain ⟨c, e1, e2⟩ := h3 pos cv hc
    refine ⟨c, e1, ?_⟩
    rw [upd_ne (fun z => by rw [z, h] at e2; cases e2)]
    exact e2
theorem Fm.putF {K : PySem.W.Frag} {ms : List Addr} {H : Hp} {p : Addr} {o v : HO} {od : Obj} (h : H p = some (.frz od v)) (hm : p ∈ ms) : Fm K ms H (upd H p o) := ⟨Kp.put hm, fun t => t.putF h⟩
section
variable {P : Program} {w : World} {K : PySem.W.Frag} {mg : Str → Option Value} {base : Heap} {hs ns ps : List Int}
def spL_in_order (K : PySem.W.Frag) (hs ns ps : List Int) : Sp := fun vs H Q _ => ∃ (m h n q b : Addr) (ys : List V) (rows : List Row), vs = [.ref m, .ref b] ∧ MAt H m h n q hs ns ps ∧ MOk hs ns ps ∧ H b = some (.lst ys) ∧ RowsV H ys rows ∧ rows.length ≤ 1000 ∧ Good rows ∧ ∀ H', Fm K [] H H' → Q (.bl true) H'
theorem scL_in_order : FnScope ["_law_m", "_law_rows", "_law_units", "_law_low", "_law_high", "_law_sort", "_law_hand", "_law_place", "_law_hands"] ["_law_m", "_law_rows"] (defScope sL_in_order) := ⟨rfl, rfl, rfl, by decide +kernel, rfl, by decide +kernel, by decide +kernel⟩
theorem ok_L_in_order (T : Txt K mg) : Ok P w K mg base 3 "_law_in_order" ["_law_m", "_law_rows"] (spL_in_order K hs ns ps) := by
  have Gagainst : Ok P w K mg base 2 "against" _ _ := ok_against T
  refine T.dL_in_order.ok scL_in_order (fun _ _ _ _ _ _ us hl => match us, hl with | [_, _], _ => rfl) (fun vs H Q E h => ?_) (fun f cdv A outer s H vs Q E hr h => ?_)
  · obtain ⟨m, h, n, q, b, ys, rows, rfl, _⟩ := h
    rfl
  · obtain ⟨m, h, n, q, b, ys, rows, rfl, M, O, hb, R, rlen, g, k⟩ := h
    have hu := hu_of hr
    refine ⟨_, (pss_cons (ps_set (i := 2) scL_in_order.nd rfl (Or.inl rfl) (pe_callTy (call_dictP rfl) (by rfl) T.dict (by decide +kernel) (pa_cons (pe_lc (own := [("_law_place", 7)]) (g := gName 7) (tt := tYes) rfl scL_in_order.nd (pi_list (pe_dget hu (pv 0) pe_str (fun _ _ => rfl))) (blkOk_by (own := [("_law_place", 7)]) (N := ["_law_m", "_law_rows", "_law_units", "_law_low", "_law_high", "_law_sort", "_law_hand", "_law_place", "_law_hands"]) (sc := defScope sL_in_order) (by decide +kernel)) (fun _ _ _ _ _ => (pg_name (i := 7) scL_in_order.nd rfl (Or.inl rfl))) (fun _ _ _ _ _ => pts_nil) (fun _ _ _ _ _ => (pe_tup (pa_cons (pv 7) (pa_cons (pe_lst pa_nil) pa_nil))))) pa_nil)))
      (pss_cons (ps_for PassesOwn.never rfl (pi_list (pv 1)) (pg_tup rfl (pgs_cons (pg_name (i := 3) scL_in_order.nd rfl (Or.inl rfl)) (pgs_cons (pg_name (i := 4) scL_in_order.nd rfl (Or.inl rfl)) (pgs_cons (pg_name (i := 5) scL_in_order.nd rfl (Or.inl rfl)) (pgs_cons (pg_name (i := 6) scL_in_order.nd rfl (Or.inl rfl)) pgs_nil)))))
        (pss_one (ps_lock (ps_for PassesOwn.never rfl (pi_keys (pv 2)) (pg_name (i := 7) scL_in_order.nd rfl (Or.inl rfl))
          (pss_one (ps_if (PW.pt (pw_and (pt_cmpR op_le (pv 3) (pv 7) (nomark _)) (pw_and1 (pt_cmpR op_lt (pv 7) (pv 4) (nomark _)))))
            (pss_one (ps_expr (pe_bm PySem.F.plainAttrs_list PySem.F.slot_list_append PySem.F.type_list_append mt_append (pe_dget hu (pv 2) (pv 7) (fun _ _ => rfl)) (pa_cons (pe_tup (pa_cons (pv 6) (pa_cons (pv 5) pa_nil))) pa_nil))))
            pss_nil))))))
      (pss_cons (ps_lock (ps_for PassesOwn.never rfl (pi_keys (pv 2)) (pg_name (i := 7) scL_in_order.nd rfl (Or.inl rfl))
        (pss_cons (ps_setLc (i := 8) (own := [("_law_hand", 6), ("_law_sort", 5)]) (g := gTup K 2 (gCons (gName 6) (gCons (gName 5) gNil))) (tt := tYes) rfl scL_in_order.nd rfl rfl (sw_true rfl rfl rfl (by decide +kernel)) (pi_list (pe_dget hu (pv 2) (pv 7) (fun _ _ => rfl))) (blkOk_by (own := [("_law_hand", 6), ("_law_sort", 5)]) (N := ["_law_m", "_law_rows", "_law_units", "_law_low", "_law_high", "_law_sort", "_law_hand", "_law_place", "_law_hands"]) (sc := defScope sL_in_order) (by decide +kernel)) (fun _ _ _ _ _ => (pg_tup rfl (pgs_cons (pg_name (i := 6) scL_in_order.nd rfl (Or.inl rfl)) (pgs_cons (pg_name (i := 5) scL_in_order.nd rfl (Or.inl rfl)) pgs_nil)))) (fun _ _ _ _ _ => pts_nil) (fun _ _ _ _ _ => (pv 6)))
        (pss_one (ps_if (PW.pt (pw_or (pt_cmpR op_ne (RZ.pe_lenSetI (by rfl) T.len (by rfl) T.set (pv 8)) (pe_callB call_len_seq (by rfl) T.len PySem.boot_len (pa_cons (pv 8) pa_nil)) (nomark _)) (pw_or1 (PW.pt (pw_and (pt_cmpR op_gt (pe_callB call_len_seq (by rfl) T.len PySem.boot_len (pa_cons (pv 8) pa_nil)) pe_int (nomark _)) (pw_and1 (pt_cmpR op_in_seq pe_str (pe_lc (own := [("_law_hand", 6), ("_law_sort", 5)]) (g := gTup K 2 (gCons (gName 6) (gCons (gName 5) gNil))) (tt := tYes) rfl scL_in_order.nd (pi_list (pe_dget hu (pv 2) (pv 7) (fun _ _ => rfl))) (blkOk_by (own := [("_law_hand", 6), ("_law_sort", 5)]) (N := ["_law_m", "_law_rows", "_law_units", "_law_low", "_law_high", "_law_sort", "_law_hand", "_law_place", "_law_hands"]) (sc := defScope sL_in_order) (by decide +kernel)) (fun _ _ _ _ _ => (pg_tup rfl (pgs_cons (pg_name (i := 6) scL_in_order.nd rfl (Or.inl rfl)) (pgs_cons (pg_name (i := 5) scL_in_order.nd rfl (Or.inl rfl)) pgs_nil)))) (fun _ _ _ _ _ => pts_nil) (fun _ _ _ _ _ => (pv 5))) (by rfl))))))))
          (pss_one (ps_ret pe_bl))
          pss_nil)))))
      (pss_one (ps_ret (pe_cmpR op_isN (pe_do Gagainst (hr.mono (by decide)) (pa_cons (pv 1) pa_nil)) pe_non (nomark _))))))), ?_⟩
    have pnd : ps.Nodup := O.inc.imp fun h => Int.ne_of_lt h
    have pl := O.p2
    refine ⟨_, rfl, m, _, rfl, M.gp, q, rfl, ⟨_, SqL.of M.p⟩, fun D hD => lc_run (K := K) hD M.p (fun i acc Hx => ∃ (ts as : List Addr), acc = ts.map V.ref ∧ as.length = i ∧ as.Nodup ∧ (∀ a ∈ as, Hx a = some (.lst []) ∧ Fresh H a ∧ a ≠ D) ∧ Paired (fun t (kv : Key × V) => Hx t = some (.tup [kV kv.1, kv.2])) ts (unK (ps.take i) as)) ⟨[], [], rfl, rfl, List.nodup_nil, by simp, .nil⟩ ?_ ?_⟩
    · rintro i x Hx acc hx Fx hDx ⟨ts, as, rfl, al, and, hA, hP⟩
      obtain ⟨z, hz, rfl⟩ : ∃ z, ps[i]? = some z ∧ x = .int z := by
        rw [List.getElem?_map] at hx
        cases e : ps[i]? with
        | none => rw [e] at hx; cases hx
        | some z => rw [e] at hx; exact ⟨z, rfl, (Option.some.inj hx).symm⟩
      have il : i < ps.length := (List.getElem?_eq_some_iff.mp hz).1
      have FHx : Fm K [] H Hx := ((Fm.new hD).trans Fx : Fm K [D] H Hx).drop (Fresh.of hD)
      refine ⟨rfl, _, rfl, (by show 0 ≤ sizeLine; decide), fun a ha => ⟨(by show 2 ≤ sizeLine; decide), fun t ht => ?_⟩⟩
      have naD : a ≠ D := (ne_of_none hDx ha).symm
      have nas : a ∉ as := fun z => by
        have := (hA a z).1
        rw [ha] at this
        cases this
      have hD1 : (upd Hx a (.lst [])) D = some (.lst (ts.map V.ref)) := by rw [upd_ne naD.symm]; exact hDx
      have hD2 : (upd (upd Hx a (.lst [])) t (.tup [.int z, .ref a])) D = some (.lst (ts.map V.ref)) := by rw [upd_ne (ne_of_none hD1 ht)]; exact hD1
      have F3 : Fm K [D] Hx (upd (upd (upd Hx a (.lst [])) t (.tup [.int z, .ref a])) D (.lst (ts.map V.ref ++ [.ref t]))) := ((Fm.new ha).trans (Fm.new ht)).trans (Fm.put hD2 rfl (by simp))
      have tk3 : Tk Hx (upd (upd (upd Hx a (.lst [])) t (.tup [.int z, .ref a])) D (.lst (ts.map V.ref ++ [.ref t]))) := ((tk_new ha).trans (tk_new ht)).trans (tk_lst hD2)
      refine lc_put (Fx.trans ((Fm.new ha).trans (Fm.new ht))) hD2 ?_ ⟨ts ++ [t], as ++ [a], by simp, by simp [al], ?_, ?_, ?_⟩
      · have h2 := paired_len hP
        have h3 : (unK (ps.take i) as).length = i := by
          have : (ps.take i).length = i := by rw [List.length_take]; omega
          rw [unK_len (by rw [this]; exact al), this]
        rw [List.length_map]
        exact small_lt (by omega)
      · exact List.nodup_append.mpr ⟨and, by simp, fun x hx y hy => by rw [List.mem_singleton] at hy; exact fun e => nas (by rw [← hy, ← e]; exact hx)⟩
      · intro c hc
        rcases List.mem_append.mp hc with hc | hc
        · obtain ⟨c1, c2, c3⟩ := hA c hc
          exact ⟨F3.at (by simpa using c3) c1 noT_lst, c2, c3⟩
        · rw [List.mem_singleton] at hc
          subst hc
          refine ⟨?_, FHx.fresh (by simp) (Fresh.of ha), naD⟩
          have h1 : (upd Hx c (.lst [])) c = some (.lst []) := upd_same
          rw [upd_ne naD, upd_ne (ne_of_none h1 ht)]
          exact h1
      · rw [take_next hz, unK_snoc (by rw [List.length_take]; omega)]
        refine Paired.app (Paired.mapP hP fun t kv e => tk3 _ _ e) (.cons ?_ .nil)
        rw [upd_ne (ne_of_none hD1 ht).symm]
        exact upd_same
    · rintro H1 acc F1 fD hD1 ⟨ts, as, rfl, al, and, hA, hP⟩
      rw [List.length_map] at al hP
      rw [List.take_length] at hP
      refine ⟨D, ts, _, rfl, SqL.of hD1, Paired.mapP hP fun _ _ e => SqT.of e, fun d hd => ?_⟩
      rw [merge_all (by rw [unK_keys al]; exact List.pairwise_map.mpr (pnd.imp fun h e => h (Sum.inl.inj e)))]
      have fd : Fresh H d := F1.fresh (by simp) (Fresh.of hd)
      have nda : ∀ a ∈ as, a ≠ d := fun a ha => ne_of_none (hA a ha).1 hd
      have F2 : Fm K [] H (upd H1 d (.dK (unK ps as))) := F1.trans (Fm.new hd)
      have hd2 : (upd H1 d (.dK (unK ps as))) d = some (.dK (unK ps as)) := upd_same
      have U2 : Un (upd H1 d (.dK (unK ps as))) as ps (fun _ => rows.take 0) := fun i a p h1 h2 => ⟨[], by rw [upd_ne (nda a (List.mem_of_getElem? h1))]; exact (hA a (List.mem_of_getElem? h1)).1, .nil⟩
      have fas : ∀ a ∈ as, Fresh H a := fun a ha => (hA a ha).2.1
      clear hP hD1 hA
      generalize upd H1 d (.dK (unK ps as)) = H2 at F2 hd2 U2
      have dropall : ∀ {H' : Hp}, Fm K (d :: as) H H' → Fm K [] H H' := fun F => ⟨fun b o _ e n => F.kp b o (fun z => by
        rcases List.mem_cons.mp z with z | z
        · exact fd o (z ▸ e) n
        · exact fas b z o e n) e n, F.tb⟩
      have hb2 := F2.at (by simp) hb noT_lst
      have R2 := RowsV.tk F2.tup R
      have nbd : b ≠ d := fun e => fd _ (e ▸ hb) noT_lst
      have nba : b ∉ as := fun z => fas b z _ hb noT_lst
      have F2' : Fm K (d :: as) H H2 := F2.nil
      refine ⟨_, rfl, b, rfl, ⟨_, SqL.of hb2⟩, for_list (K := K) (a := b) (xs := ys) (fun i σ H3 => ∃ v3 v4 v5 v6 v7 : Option V, σ = [some (.ref m), some (.ref b), some (.ref d), v3, v4, v5, v6, v7, none] ∧ Fm K (d :: as) H2 H3 ∧ Tk H2 H3 ∧ H3 d = some (.dK (unK ps as)) ∧ Un H3 as ps (fun _ => rows.take i))
        ⟨none, none, none, none, none, rfl, Fm.refl, Tk.refl, hd2, U2⟩ (fun i σ H3 _ ⟨_, _, _, _, _, _, F, _⟩ => SqL.of (F.at (by simp; exact ⟨nbd, nba⟩) hb2 noT_lst)) ?_ ?_⟩
      · rintro i y σ H3 hy ⟨v3, v4, v5, v6, v7, rfl, F3, T3, hd3, U3⟩
        obtain ⟨r, hr', t, rfl, ht⟩ := Paired.at R2 hy
        have ht3 := T3 _ _ ht
        refine ⟨t, _, rfl, SqT.of ht3, rfl, _, _, rfl, _, _, rfl, _, _, rfl, _, _, rfl, rfl, ?_⟩
        refine ⟨d, .dK (unK ps as), hd3, trivial, fun od => ?_⟩
        have hf4 : (upd H3 d (.frz od (.dK (unK ps as)))) d = some (.frz od (.dK (unK ps as))) := upd_same
        have F4 : Fm K (d :: as) H3 (upd H3 d (.frz od (.dK (unK ps as)))) := Fm.put hd3 rfl (by simp)
        have T4 : Tk H3 (upd H3 d (.frz od (.dK (unK ps as)))) := Tk.put hd3 fun _ z => by cases z
        have nad : ∀ a ∈ as, a ≠ d := nda
        have U4 : Un (upd H3 d (.frz od (.dK (unK ps as)))) as ps (fun j => if j < 0 then rows.take (i + 1) else rows.take i) := (U3.fm (ms := [d]) (K := K) (Fm.put hd3 rfl (by simp)) T4 (by simpa using nad)).cong fun j p _ => by rw [if_neg (by omega)]
        refine ⟨_, rfl, d, od, rfl, .inl ⟨_, hf4, for_it walk_keys (fun j σ H5 => ∃ v7 : Option V, σ = [some (.ref m), some (.ref b), some (.ref d), some (.int r.lo), some (.int r.hi), some (.str (sortS r.wr)), some (.int r.hd), v7, none] ∧ Fm K (d :: as) H2 H5 ∧ Tk H2 H5 ∧ H5 d = some (.frz od (.dK (unK ps as))) ∧ Un H5 as ps (fun k => if k < j then rows.take (i + 1) else rows.take i))
          ⟨_, rfl, F3.trans F4, T3.trans T4, hf4, U4⟩ (fun j σ H5 _ ⟨_, _, _, _, e, _⟩ => e) ?_ ?_⟩⟩
        · rintro j x σ H5 H6 hj ⟨v7, rfl, F5, T5, hf5, U5⟩ ⟨rfl, kk, vv, hkv, rfl⟩
          rw [unK_len al] at hj
          have hpj : ps[j]? = some ps[j] := List.getElem?_eq_getElem hj
          have haj : as[j]? = some as[j] := List.getElem?_eq_getElem (by omega)
          have := unK_at hpj haj
          rw [hkv] at this
          cases this
          generalize ps[j] = pl0 at hpj
          generalize as[j] = aj at haj
          have pj : ∀ (G : Nat → List Row), Un H6 as ps (fun k => if k < j then rows.take (i + 1) else rows.take i) → cvr pl0 r = false → Un H6 as ps (fun k => if k < j + 1 then rows.take (i + 1) else rows.take i) := fun _ U nc => U.cong fun k p hp => by
            by_cases h1 : k < j
            · rw [if_pos h1, if_pos (by omega)]
            · by_cases h2 : k = j
              · subst h2
                rw [if_neg h1, if_pos (by omega)]
                rw [hpj] at hp
                cases hp
                rw [filter_take hr', if_neg (by simp [nc])]
              · rw [if_neg h1, if_neg (by omega)]
          refine ⟨_, rfl, _, rfl, _, _, rfl, rfl, _, rfl, ite2 (fun c1 => ?_) (fun c1 => iteF ⟨_, rfl, F5, T5, hf5, pj (fun _ => []) U5 (by unfold cvr; simp at c1 ⊢; omega)⟩)⟩
          refine ⟨_, rfl, _, rfl, _, _, rfl, rfl, _, rfl, ite2 (fun c2 => ?_) (fun c2 => ⟨_, rfl, F5, T5, hf5, pj (fun _ => []) U5 (by unfold cvr; simp at c2 ⊢; omega)⟩)⟩
          have cv : cvr pl0 r = true := by
            unfold cvr
            simp at c1 c2
            simp [c1, c2]
          obtain ⟨vs, hv, hP⟩ := U5 j aj pl0 haj hpj
          replace hP : Paired (HsV H6) vs ((if j < j then rows.take (i + 1) else rows.take i).filter (cvr pl0)) := hP
          rw [if_neg (by omega)] at hP
          have vl : vs.length ≤ 1000 := by
            rw [paired_len hP]
            exact Nat.le_trans (take_len _ _ _) rlen
          refine ⟨_, rfl, _, rfl, d, .ref aj, rfl, .inl ⟨_, Sum.inl pl0, .inr ⟨od, hf5⟩, rfl, (unK_val pnd hpj haj).symm⟩, .inl ⟨rfl, _, SqL.of hv⟩, _, rfl, _, rfl, (by show 2 ≤ sizeLine; decide), fun t2 ht2 => ?_⟩
          have hv7 : (upd H6 t2 (.tup [.int r.hd, .str (sortS r.wr)])) aj = some (.lst vs) := by rw [upd_ne (ne_of_none hv ht2)]; exact hv
          refine ⟨aj, vs, _, rfl, rfl, hv7, small_lt (by omega), ?_⟩
          have ajm := List.mem_of_getElem? haj
          have F7 : Fm K (d :: as) H6 (upd (upd H6 t2 (.tup [.int r.hd, .str (sortS r.wr)])) aj (.lst (vs ++ [.ref t2]))) := (Fm.new ht2).trans (Fm.put hv7 rfl (by simp [ajm]))
          have T7 : Tk H6 (upd (upd H6 t2 (.tup [.int r.hd, .str (sortS r.wr)])) aj (.lst (vs ++ [.ref t2]))) := (tk_new ht2).trans (tk_lst hv7)
          refine ⟨_, rfl, F5.trans F7, T5.trans T7, ?_, ?_⟩
          · rw [upd_ne (nda aj ajm).symm, upd_ne (ne_of_none hf5 ht2)]
            exact hf5
          · intro k a p hk hp
            by_cases h2 : k = j
            · subst h2
              rw [haj] at hk
              rw [hpj] at hp
              cases hk
              cases hp
              refine ⟨_, upd_same, ?_⟩
              show Paired (HsV _) (vs ++ [.ref t2]) ((if k < k + 1 then rows.take (i + 1) else rows.take i).filter (cvr pl0))
              rw [if_pos (by omega), filter_take hr', if_pos cv]
              refine Paired.app (Paired.mapP hP fun _ _ z => HsV.tk T7 z) (.cons ⟨t2, rfl, ?_⟩ .nil)
              rw [upd_ne (ne_of_none hv ht2).symm]
              exact upd_same
            · obtain ⟨us, hus, hPs⟩ := U5 k a p hk hp
              have nka : a ≠ aj := fun e => h2 ((List.getElem?_inj (List.getElem?_eq_some_iff.mp hk).1 and).mp (by rw [hk, haj, e]))
              refine ⟨us, by rw [upd_ne nka, upd_ne (ne_of_none hus ht2)]; exact hus, ?_⟩
              have e : (if k < j then rows.take (i + 1) else rows.take i) = (if k < j + 1 then rows.take (i + 1) else rows.take i) := by
                by_cases h1 : k < j
                · rw [if_pos h1, if_pos (by omega)]
                · rw [if_neg h1, if_neg (by omega)]
              have hPs' := Paired.mapP hPs fun _ _ z => HsV.tk T7 z
              show Paired (HsV _) us ((if k < j + 1 then rows.take (i + 1) else rows.take i).filter (cvr p))
              rw [← e]
              exact hPs'
        · rintro σ H5 ⟨v7, rfl, F5, T5, hf5, U5⟩
          rw [unK_len al] at U5
          have F6 : Fm K (d :: as) H5 (upd H5 d (.dK (unK ps as))) := Fm.putF hf5 (by simp)
          have T6 : Tk H5 (upd H5 d (.dK (unK ps as))) := Tk.put hf5 fun _ z => by cases z
          refine ⟨hf5, _, _, _, _, _, rfl, F5.trans F6, T5.trans T6, upd_same, ?_⟩
          refine (U5.fm (ms := [d]) (K := K) (Fm.putF hf5 (by simp)) T6 (by simpa using nad)).cong fun k p hp => ?_
          rw [if_pos (List.getElem?_eq_some_iff.mp hp).1]
      · rintro σ H3 ⟨v3, v4, v5, v6, v7, rfl, F3, T3, hd3, U3⟩
        rw [paired_len R2, List.take_length] at U3
        refine ⟨d, .dK (unK ps as), hd3, trivial, fun od => ?_⟩
        have hf4 : (upd H3 d (.frz od (.dK (unK ps as)))) d = some (.frz od (.dK (unK ps as))) := upd_same
        have F4 : Fm K (d :: as) H3 (upd H3 d (.frz od (.dK (unK ps as)))) := Fm.put hd3 rfl (by simp)
        have T4 : Tk H3 (upd H3 d (.frz od (.dK (unK ps as)))) := Tk.put hd3 fun _ z => by cases z
        have U4 := U3.fm (ms := [d]) (K := K) (Fm.put hd3 rfl (by simp)) T4 (by simpa using nda)
        have F24 := F3.trans F4
        generalize upd H3 d (.frz od (.dK (unK ps as))) = H4 at hf4 U4 F24
        clear F4 T4
        refine ⟨_, rfl, d, od, rfl, .inl ⟨_, hf4, for_it walk_keys (fun j σ H5 => ∃ v3 v4 v5 v6 v7 v8 : Option V, σ = [some (.ref m), some (.ref b), some (.ref d), v3, v4, v5, v6, v7, v8] ∧ Fm K [] H4 H5) ⟨_, _, _, _, _, _, rfl, Fm.refl⟩ (fun j σ H5 _ ⟨_, _, _, _, _, _, _, F⟩ => F.at (by simp) hf4 noT_frz) ?_ ?_⟩⟩
        · rintro j x σ H5 H6 hj ⟨v3, v4, v5, v6, v7, v8, rfl, F5⟩ ⟨rfl, kk, vv, hkv, rfl⟩
          rw [unK_len al] at hj
          have hpj : ps[j]? = some ps[j] := List.getElem?_eq_getElem hj
          have haj : as[j]? = some as[j] := List.getElem?_eq_getElem (by omega)
          have := unK_at hpj haj
          rw [hkv] at this
          cases this
          generalize ps[j] = pl0 at hpj
          generalize as[j] = aj at haj
          obtain ⟨vs, hv, hP⟩ := U4 j aj pl0 haj hpj
          have hv6 := F5.at (by simp) hv noT_lst
          have hf6 := F5.at (by simp) hf4 noT_frz
          have vl : (rows.filter (cvr pl0)).length ≤ 1000 := Nat.le_trans (List.length_filter_le _ _) rlen
          have gget : ∀ Hx : Hp, Hx d = some (.frz od (.dK (unK ps as))) → DGet Hx d (.int pl0) (some (.ref aj)) := fun Hx hx => .inl ⟨_, Sum.inl pl0, .inr ⟨od, hx⟩, rfl, (unK_val pnd hpj haj).symm⟩
          refine ⟨_, rfl, _, rfl, d, .ref aj, rfl, gget _ hf6, aj, rfl, ⟨_, SqL.of hv6⟩, fun D1 hD1 => lc_run (K := K) hD1 hv6 (fun i acc _ => acc = ((rows.filter (cvr pl0)).take i).map fun r => V.int r.hd) rfl ?_ ?_⟩
          · rintro i y Hx acc hy Fx hDx rfl
            obtain ⟨r, hr', t, rfl, ht⟩ := Paired.at hP hy
            have ht6 := F5.at (by simp) ht noT_tup
            have ntD : t ≠ D1 := ne_of_none ht6 hD1
            have htx : Hx t = some (.tup [.int r.hd, .str (sortS r.wr)]) := Fx.at (by simpa using ntD) (by rw [upd_ne ntD]; exact ht6) noT_tup
            refine ⟨t, _, rfl, SqT.of htx, rfl, _, _, rfl, _, _, rfl, rfl, rfl, _, rfl, lc_put Fx hDx ?_ ?_⟩
            · rw [List.length_map]
              exact small_lt (Nat.le_trans (List.length_take_le' _ _) (by omega))
            · rw [take_next hr', List.map_append]
              rfl
          · rintro H7 acc F7 fD7 hD7 rfl
            rw [paired_len hP, List.take_length] at hD7
            have hD7' : H7 D1 = some (.lst (((rows.filter (cvr pl0)).map (·.hd)).map V.int)) := by rw [hD7, List.map_map]; rfl
            refine ⟨_, rfl, D1, (rows.filter (cvr pl0)).map (·.hd), rfl, SqL.of hD7', cvr_nodup g pl0, by rw [List.length_map]; omega, _, rfl, D1, _, rfl, .inl (SqL.of hD7'), rfl, _, rfl, ?_⟩
            have e0 : (!decide ((V.int ((((rows.filter (cvr pl0)).map (·.hd)).length : Nat) : Int)) = V.int ((((rows.filter (cvr pl0)).map (·.hd)).map V.int).length : Nat))) = false := by simp
            rw [e0]
            refine iteF ?_
            refine ⟨_, rfl, D1, _, rfl, .inl (SqL.of hD7'), _, _, rfl, rfl, _, rfl, ite2 (fun c1 => ?_) (fun c1 => iteF ?_)⟩
            · have c1 : 1 < (rows.filter (cvr pl0)).length := by
                have : (1 : Int) < ((((rows.filter (cvr pl0)).map (·.hd)).map V.int).length : Nat) := by simpa using c1
                rw [List.length_map, List.length_map] at this
                omega
              have hv7 := F7.at (by simp) hv6 noT_lst
              have hf7 := F7.at (by simp) hf6 noT_frz
              refine ⟨_, rfl, _, rfl, d, .ref aj, rfl, gget _ hf7, aj, rfl, ⟨_, SqL.of hv7⟩, fun D2 hD2 => lc_run (K := K) hD2 hv7 (fun i acc _ => acc = ((rows.filter (cvr pl0)).take i).map fun r => V.str (sortS r.wr)) rfl ?_ ?_⟩
              · rintro i y Hx acc hy Fx hDx rfl
                obtain ⟨r, hr', t, rfl, ht⟩ := Paired.at hP hy
                have ht6 := F7.at (by simp) (F5.at (by simp) ht noT_tup) noT_tup
                have ntD : t ≠ D2 := ne_of_none ht6 hD2
                have htx : Hx t = some (.tup [.int r.hd, .str (sortS r.wr)]) := Fx.at (by simpa using ntD) (by rw [upd_ne ntD]; exact ht6) noT_tup
                refine ⟨t, _, rfl, SqT.of htx, rfl, _, _, rfl, _, _, rfl, rfl, rfl, _, rfl, lc_put Fx hDx ?_ ?_⟩
                · rw [List.length_map]
                  exact small_lt (Nat.le_trans (List.length_take_le' _ _) (by omega))
                · rw [take_next hr', List.map_append]
                  rfl
              · rintro H8 acc F8 fD8 hD8 rfl
                rw [paired_len hP, List.take_length] at hD8
                have rd := cvr_reads g pl0 c1
                have ev : inV (.str "write") ((rows.filter (cvr pl0)).map fun r => V.str (sortS r.wr)) = false := by
                  unfold inV
                  rw [List.any_eq_false]
                  intro v hv
                  obtain ⟨r, hr, rfl⟩ := List.mem_map.mp hv
                  rw [rd r hr]
                  decide +kernel
                refine ⟨D2, _, rfl, .inl (SqL.of hD8), rfl, by simp [flatV], _, rfl, ?_⟩
                rw [if_neg Bool.false_ne_true, ev]
                exact iteF ⟨_, _, _, _, _, _, rfl, (F5.trans F7).trans F8⟩
            · exact ⟨_, _, _, _, _, _, rfl, F5.trans F7⟩
        · rintro σ H5 ⟨v3, v4, v5, v6, v7, v8, rfl, F5⟩
          have hf5 := F5.at (by simp) hf4 noT_frz
          refine ⟨hf5, ?_⟩
          have F6 : Fm K (d :: as) H (upd H5 d (.dK (unK ps as))) := ((F2'.trans F24).trans F5.nil).trans (Fm.putF hf5 (by simp))
          have Fa := dropall F6
          have Ra := RowsV.tk Fa.tup R
          refine ⟨_, rfl, b, ys, rows, rfl, Fa.at (by simp) hb noT_lst, Ra, by omega, g.nohit, fun H7 F7 => ⟨rfl, ?_⟩⟩
          exact k H7 (Fa.trans F7)
end
end FS
/-! F25 -/
namespace FS
open PySem PySem.Spec PyProof.Rows L2
section
variable {X : Cx}
/-- d != {} -/
def rNeEmp : R2 := fun x y H Q => ∃ (a b : Addr) (ks : List (Key × V)), x = .ref a ∧ y = .ref b ∧ H a = some (.dK ks) ∧ H b = some (.dK []) ∧ Q (.bl (!decide (ks = []))) H
theorem op_neEmp (hu : X.A.units < cLine) : OpR X (compareOp .NotEq) rNeEmp := by
  intro pins s σ H x y v u Q I rx ry h
  obtain ⟨a, b, ks, rfl, rfl, ha, hb, q⟩ := h
  cases (show v = Value.ref a from rx)
  cases (show u = Value.ref b from ry)
  obtain ⟨_, ya, va, ra, da⟩ := (show ObjOk X.prog X.w H s.heap a (.dK ks) from I.hok a _ ha)
  obtain ⟨_, yb, vb, rb, db⟩ := (show ObjOk X.prog X.w H s.heap b (.dK []) from I.hok b _ hb)
  cases rb
  refine PySem.W.keq_ne (knd := mixKind X.prog X.w) (r := true) ya yb da db hu (fun e => ?_) ?_
  · have : va = [] := List.eq_nil_of_length_eq_zero e
    rw [this]
    exact .nil
  · have e : (!(va.length == ([] : List (Key × Value)).length && true)) = !decide (ks = []) := by
      have := ra.length
      cases va with
      | nil =>
        cases ks with
        | nil => rfl
        | cons _ _ => simp at this
      | cons _ _ =>
        cases ks with
        | nil => simp at this
        | cons _ _ => rfl
    rw [e]
    exact ⟨.bl _, H, I, rfl, q⟩
end
/-- two data that are equal -/
def DEq (K : PySem.W.Frag) (H : Hp) (x y : V) : Prop := ∃ d e, Dp K H x d ∧ Dp K H y e ∧ SeqAt.shaped d = true ∧ SeqAt.shaped e = true ∧ PyData.eqv d e = true
/-- (l, d) == (l', d'), which holds -/
def rEqAll (K : PySem.W.Frag) : R2 := fun x y H Q => ∃ (t1 t2 da db : Addr) (a1 b1 : V), x = .ref t1 ∧ y = .ref t2 ∧ H t1 = some (.tup [a1, .ref da]) ∧ H t2 = some (.tup [b1, .ref db]) ∧ DEq K H a1 b1 ∧
  (da = db ∨ ∃ ka kb, H da = some (.dK ka) ∧ H db = some (.dK kb) ∧ ka.length = kb.length ∧ ∀ p ∈ ka, ∃ u, valV kb p.1 = some u ∧ DEq K H p.2 u) ∧ Q (.bl true) H
section
variable {X : Cx}
theorem deq_run {pins : List (Addr × Obj)} {σ : L2.St} {H : Hp} {s : Shared} (I : Inv X pins σ H s) {A : Around} (hu : A.units + 70 < cLine) {x y : V} {v u : Value} (h : DEq X.K H x y) (rx : RelV x v) (ry : RelV y u) : SeqAt.EqP X.prog X.w A s v u true := by
  obtain ⟨d, e, h1, h2, s1, s2, q⟩ := h
  obtain ⟨as, r1⟩ := Dp.reads I d x v h1 rx
  obtain ⟨bs, r2⟩ := Dp.reads I e y u h2 ry
  have := SeqAt.eqAt_reads d e A s v u as bs r1 r2 (SeqAt.canLay_of_shaped s1) (SeqAt.canLay_of_shaped s2) (SeqAt.room_of_shaped s1 (by omega))
  rw [q] at this
  exact this.eqP
theorem op_eqAll (hu : X.A.units + 80 < cLine) : OpR X (compareOp .Eq) (rEqAll X.K) := by
  intro pins s σ H x y v u Q I rx ry h
  obtain ⟨t1, t2, da, db, a1, b1, rfl, rfl, ht1, ht2, hl, hd, q⟩ := h
  cases (show v = Value.ref t1 from rx)
  cases (show u = Value.ref t2 from ry)
  obtain ⟨us, r1, p1, _⟩ := I.tuple (SqT.of ht1)
  obtain ⟨ws, r2, p2, _⟩ := I.tuple (SqT.of ht2)
  obtain ⟨u1, u2, rfl, ra1, ra2⟩ := vals2 r1
  obtain ⟨w1, w2, rfl, rb1, rb2⟩ := vals2 r2
  cases (show u2 = Value.ref da from ra2)
  cases (show w2 = Value.ref db from rb2)
  refine SeqAt.rcIn_tuples (e := fun _ => true) p1 p2 (by omega) (fun j h1 h2 => ?_) ⟨.bl true, H, I, rfl, q⟩
  have hj : j = 0 ∨ j = 1 := by
    have : j < 2 := by simpa using h1
    omega
  rcases hj with rfl | rfl
  · exact deq_run I (A := X.A.in1) (by show X.A.units + 1 + 70 < _; omega) hl ra1 rb1
  · by_cases e : da = db
    · subst e
      exact (SeqAt.EqAt.same _).eqP
    · obtain ⟨ka, kb, ha, hb, len, hp⟩ := hd.resolve_left e
      obtain ⟨_, ya, va, ra, dda⟩ := (show ObjOk X.prog X.w H s.heap da (.dK ka) from I.hok da _ ha)
      obtain ⟨_, yb, vb, rb, ddb⟩ := (show ObjOk X.prog X.w H s.heap db (.dK kb) from I.hok db _ hb)
      refine SeqAt.eqP_refs e fun E Q' hq => ?_
      refine PySem.W.rcP_dicts (A := X.A.in1) (knd := mixKind X.prog X.w) (r := true) ya yb dda ddb (by show X.A.units + 1 < _; omega) (fun _ => hits_run (F := DEq X.K H) (fun x y v u h rx ry => deq_run I (A := X.A.in1.in1) (by show X.A.units + 1 + 1 + 70 < _; omega) h rx ry) rb ra hp) E Q' ?_
      have el : va.length = vb.length := by rw [← ra.length, ← rb.length]; exact len
      rw [show (va.length == vb.length && true) = true from by rw [el]; simp]
      exact hq
end
end FS
/-! F25b -/
namespace FS
open PySem PySem.Spec PyProof.Rows L2
theorem units0 {k : Nat} {A : Around} (r : Room k A) : A.units < cLine := by have := r.un; omega
theorem units80 {k : Nat} {A : Around} (r : Room k A) : A.units + 80 < cLine := by have := r.un; omega
/-! ### those who wait -/
theorem meet_of {S : LS} {hs ns ps : List Int} (W : WF hs ns ps S) {x : Wish} {y : Int} (h : y ∈ S.hold x) : ∃ r ∈ asLong (getP S.pieces x.fl), r.hd = y ∧ meetB x.row r = true := by
  obtain ⟨r, hr, hh, rfl⟩ := holders_mem.mp h
  obtain ⟨q, hq, e1, e2, e3, e4⟩ := long_in (W.good x.fl) hr
  obtain ⟨h1, h2, h3⟩ := hits_iff.mp hh
  refine ⟨q, hq, e1, ?_⟩
  have a1 : x.row.hd ≠ q.hd := by rw [e1]; exact h1
  have a2 : (x.row.wr || q.wr) = true := by
    rw [e2]
    rcases h2 with h | h <;> simp [h]
  have h4 : x.row.lo < q.hi := by omega
  have h5 : q.lo < x.row.hi := by omega
  unfold meetB
  simp [a1, a2, h4, h5]
theorem min_of {l : List Wish} (f : Wish → Nat) (h : l ≠ []) : ∃ x ∈ l, ∀ y ∈ l, f x ≤ f y := by
  induction l with
  | nil => exact absurd rfl h
  | cons a l ih =>
    by_cases e : l = []
    · subst e
      exact ⟨a, by simp, fun y hy => by rw [List.mem_singleton] at hy; rw [hy]; exact Nat.le_refl _⟩
    · obtain ⟨x, hx, hm⟩ := ih e
      by_cases z : f a ≤ f x
      · refine ⟨a, by simp, fun y hy => ?_⟩
        rcases List.mem_cons.mp hy with rfl | hy
        · exact Nat.le_refl _
        · exact Nat.le_trans z (hm y hy)
      · refine ⟨x, by simp [hx], fun y hy => ?_⟩
        rcases List.mem_cons.mp hy with rfl | hy
        · omega
        · exact hm y hy
/-- whose wait is at an end -/
def rdy (S : LS) (l : List Wish) (x : Wish) : Bool := !((S.hold x).map fun y => decide (y ∈ l.map (·.hd))).any id
theorem rdy_some {S : LS} (R : Ranked S) {l : List Wish} (hl : ∀ x ∈ l, x ∈ S.wished) (h : l ≠ []) : ∃ x ∈ l, rdy S l x = true := by
  obtain ⟨rank, hr⟩ := R
  obtain ⟨x, hx, hm⟩ := min_of (fun w => rank w.hd) h
  refine ⟨x, hx, ?_⟩
  unfold rdy
  rw [Bool.not_eq_true', List.any_eq_false]
  intro b hb
  obtain ⟨y, hy, rfl⟩ := List.mem_map.mp hb
  intro z
  have z : y ∈ l.map (·.hd) := by simpa using z
  obtain ⟨v, hv, rfl⟩ := List.mem_map.mp z
  have := hr x (hl x hx) v (hl v hv) hy
  have := hm v hv
  omega
/-- hand: those it waits for -/
def LfV (H : Hp) (S : LS) (kv : Key × V) (x : Wish) : Prop := kv.1 = .inl x.hd ∧ ∃ a, kv.2 = .ref a ∧ H a = some (.lst ((S.hold x).map V.int))
theorem LfV.fm {K : PySem.W.Frag} {H H' : Hp} {S : LS} {e : Addr} {u : HO} {kvs : List (Key × V)} {l : List Wish} (F : Fm K [e] H H') (he : H e = some u) (hu : ∀ xs, u ≠ .lst xs) (P : Paired (LfV H S) kvs l) : Paired (LfV H' S) kvs l :=
  Paired.mapP P fun kv x ⟨a1, a, a2, a3⟩ => ⟨a1, a, a2, F.at (fun z => by rw [List.mem_singleton] at z; rw [z, he] at a3; exact hu _ (Option.some.inj a3)) a3 noT_lst⟩
theorem lf_get {H : Hp} {S : LS} : ∀ {kvs : List (Key × V)} {l : List Wish} {x : Wish}, Paired (LfV H S) kvs l → (l.map (·.hd)).Nodup → x ∈ l → ∃ a, valV kvs (Sum.inl x.hd : Key) = some (.ref a) ∧ H a = some (.lst ((S.hold x).map V.int))
  | _, _, _, .nil, _, h => by simp at h
  | kv :: kvs, z :: l, x, .cons ⟨a1, a, a2, a3⟩ t, nd, h => by
    rw [List.map_cons, List.nodup_cons] at nd
    rcases List.mem_cons.mp h with rfl | h
    · exact ⟨a, by rw [valV_pos a1, a2], a3⟩
    · have ne : ¬ z.hd = x.hd := fun e => nd.1 (List.mem_map.mpr ⟨x, h, e.symm⟩)
      obtain ⟨b, h1, h2⟩ := lf_get t nd.2 h
      exact ⟨b, by rw [valV_neg (by rw [a1]; intro z; exact ne (Sum.inl.inj z))]; exact h1, h2⟩
theorem lf_in {H : Hp} {S : LS} : ∀ {kvs : List (Key × V)} {l : List Wish} {y : Int}, Paired (LfV H S) kvs l → (valV kvs (Sum.inl y : Key)).isSome = decide (y ∈ l.map (·.hd))
  | _, _, _, .nil => rfl
  | kv :: kvs, z :: l, y, .cons ⟨a1, a, a2, a3⟩ t => by
    by_cases e : z.hd = y
    · have h1 : valV (kv :: kvs) (Sum.inl y : Key) = some kv.2 := valV_pos (by rw [a1, e])
      rw [h1, List.map_cons]
      simp [e]
    · have h1 : valV (kv :: kvs) (Sum.inl y : Key) = valV kvs (Sum.inl y) := valV_neg (by rw [a1]; intro z; exact e (Sum.inl.inj z))
      rw [h1, lf_in t, List.map_cons]
      have : (y = z.hd) = False := by
        rw [eq_iff_iff, iff_false]
        exact fun z => e z.symm
      simp [this]
theorem lf_keys {H : Hp} {S : LS} : ∀ {kvs : List (Key × V)} {l : List Wish}, Paired (LfV H S) kvs l → kvs.map (·.1) = (l.map (·.hd)).map (Sum.inl : Int → Key)
  | _, _, .nil => rfl
  | _, _, .cons r t => by rw [List.map_cons, List.map_cons, List.map_cons, lf_keys t, r.1]
theorem lf_drop {H : Hp} {S : LS} : ∀ {kvs : List (Key × V)} {l : List Wish} {y : Int}, Paired (LfV H S) kvs l → Paired (LfV H S) (dropK kvs (Sum.inl y : Key)) (l.filter fun x => !decide (x.hd = y))
  | _, _, _, .nil => .nil
  | kv :: kvs, z :: l, y, .cons r t => by
    have ih := lf_drop (y := y) t
    by_cases e : z.hd = y
    · have h1 : dropK (kv :: kvs) (Sum.inl y : Key) = dropK kvs (Sum.inl y) := by
        unfold dropK
        rw [List.filter_cons_of_neg (by simp [r.1, e])]
      rw [h1, List.filter_cons_of_neg (by simp [e])]
      exact ih
    · have h1 : dropK (kv :: kvs) (Sum.inl y : Key) = kv :: dropK kvs (Sum.inl y) := by
        unfold dropK
        rw [List.filter_cons_of_pos (by rw [r.1]; simp; exact fun z => e (by simpa using z))]
      rw [h1, List.filter_cons_of_pos (by simp [e])]
      exact .cons r ih
/-- [.. for k in d ..] -/
theorem lc_keys {K : PySem.W.Frag} {d : Addr} {od : Obj} {kvs : List (Key × V)} {g : TG} {tt : TT} {te : TE} {vs : List Nat} {σ : L2.St} {H1 : Hp} {D : Addr} {Q : Hp → Prop} (hD : H1 D = none) (hd : H1 d = some (.frz od (.dK kvs))) (G : Nat → List V → Hp → Prop) (h0 : G 0 [] (upd H1 D (.lst [])))
    (hs : ∀ i k v H acc, kvs[i]? = some (k, v) → Fm K [D] (upd H1 D (.lst [])) H → H D = some (.lst acc) → G i acc H → g (kV k) (wipe σ vs) H fun σ2 H2 => wipe σ2 vs = wipe σ vs ∧ tt σ2 H2 fun b H3 =>
      if b = true then te σ2 H3 fun y H4 => ∃ acc, H4 D = some (.lst acc) ∧ acc.length < sizeLine ∧ LcP K H1 D G (i + 1) (upd H4 D (.lst (acc ++ [y]))) else LcP K H1 D G (i + 1) H3)
    (hq : ∀ H acc, Fm K [] H1 H → Fresh H1 D → H D = some (.lst acc) → G kvs.length acc H → Q H) :
    ∃ W : Nat → Nat → Hp → Prop, (∃ m, W 0 m (upd H1 D (.lst []))) ∧ ∀ i m H, W i m H →
      ((Itk d od kvs).stop i H ∧ Q H) ∨ ((Itk d od kvs).go i H ∧ ∃ Nx : Hp → Prop, (∀ H', Nx H' → ∃ m', m' < m ∧ W (i + 1) m' H') ∧ ∀ x H', (Itk d od kvs).yld i H x H' → g x (wipe σ vs) H' fun σ2 H2 => wipe σ2 vs = wipe σ vs ∧ tt σ2 H2 fun b H3 =>
        if b = true then te σ2 H3 fun y H4 => ∃ acc, H4 D = some (.lst acc) ∧ acc.length < sizeLine ∧ Nx (upd H4 D (.lst (acc ++ [y]))) else Nx H3) := by
  have ndD : d ≠ D := ne_of_none hd hD
  have hd0 : (upd H1 D (.lst [])) d = some (.frz od (.dK kvs)) := by rw [upd_ne ndD]; exact hd
  refine lc_it walk_keys (Qd := Q) (LcP K H1 D G) ⟨[], Fm.refl, upd_same, h0⟩ (fun i H _ ⟨acc, F, _⟩ => F.at (by simpa using ndD) hd0 noT_frz) (fun i x H H' hi ⟨acc, F, h, g⟩ y => ?_) fun H ⟨acc, F, h, g⟩ => ?_
  · obtain ⟨rfl, k, v, hk, rfl⟩ := y
    exact hs i k v _ acc hk F h g
  · exact hq H acc (((Fm.new hD).trans F : Fm K [D] H1 H).drop (Fresh.of hD)) (Fresh.of hD) h g
end FS
/-! F26 -/
namespace FS
open PySem PySem.Spec PyProof.Rows L2
section
variable {P : Program} {w : World} {K : PySem.W.Frag} {mg : Str → Option Value} {base : Heap} {hs ns ps : List Int}
def spL_waiting_right (K : PySem.W.Frag) (hs ns ps : List Int) : Sp := fun vs H Q _ => ∃ (p d wl : Addr) (va : V) (S : LS) (L : List Addr), vs = [.ref p, va] ∧ LkAt K H p d wl S ∧ Nm S ∧ WF hs ns ps S ∧ Blocked S ∧ Ranked S ∧ AllAt H va S ns L ∧ ∀ H', Fm K [] H H' → Q (.bl true) H'
abbrev nWR : List Str := ["_law_locks", "_law_after", "_law_left_here", "_law_hand", "_law_file", "_law_sort", "_law_low", "_law_high", "_law_some", "_law_other", "_law_ready", "_law_row"]
theorem scL_waiting_right : FnScope ["_law_locks", "_law_after", "_law_left_here", "_law_hand", "_law_file", "_law_sort", "_law_low", "_law_high", "_law_some", "_law_other", "_law_ready", "_law_row"] ["_law_locks", "_law_after"] (defScope sL_waiting_right) := ⟨rfl, rfl, rfl, by decide +kernel, rfl, by decide +kernel, by decide +kernel⟩
theorem ok_L_waiting_right (T : Txt K mg) : Ok P w K mg base 4 "_law_waiting_right" ["_law_locks", "_law_after"] (spL_waiting_right K hs ns ps) := by
  have G_law_meet : Ok P w K mg base 1 "_law_meet" _ _ := ok_L_meet T
  have Gwaited_for : Ok P w K mg base 3 "waited_for" _ _ := ok_waited_for T
  refine T.dL_waiting_right.ok scL_waiting_right (fun _ _ _ _ _ _ us hl => match us, hl with | [_, _], _ => rfl) (fun vs H Q E h => ?_) (fun f cdv A outer s H vs Q E hr h => ?_)
  · obtain ⟨p, d, wl, va, S, L, rfl, _⟩ := h
    rfl
  · obtain ⟨p, d, wl, va, S, L, rfl, Lk, N, W, Bl, Rk, AA, k⟩ := h
    have hu := hu_of hr
    refine ⟨_, (pss_cons (ps_set (i := 2) scL_waiting_right.nd rfl (Or.inr rfl) pe_dnewK)
      (pss_cons (ps_for PassesOwn.never rfl (pi_list (pe_ix ix_tup (pv 1) pe_int (fun _ _ => rfl))) (pg_tup rfl (pgs_cons (pg_name (i := 3) scL_waiting_right.nd rfl (Or.inr rfl)) (pgs_cons (pg_name (i := 4) scL_waiting_right.nd rfl (Or.inl rfl)) (pgs_cons (pg_name (i := 5) scL_waiting_right.nd rfl (Or.inr rfl)) (pgs_cons (pg_name (i := 6) scL_waiting_right.nd rfl (Or.inr rfl)) (pgs_cons (pg_name (i := 7) scL_waiting_right.nd rfl (Or.inr rfl)) pgs_nil))))))
        (pss_cons (ps_set (i := 8) scL_waiting_right.nd rfl (Or.inl rfl) (pe_do Gwaited_for (hr.mono (by decide)) (pa_cons (pv 0) (pa_cons (pv 3) pa_nil))))
        (pss_cons (ps_for PassesOwn.never rfl (pi_list (pv 8)) (pg_name (i := 9) scL_waiting_right.nd rfl (Or.inr rfl))
          (pss_one (ps_if (pt_not (pt_val (pe_callB (cr_any rfl) (by rfl) T.any (by decide +kernel) (pa_cons (pe_lc (own := [("_law_row", 11)]) (g := gName 11) (tt := tYes) (te := tAndV (tOp rEq (tOp (rIxT K) (tVar 11) (tC (.int 3))) (tVar 9)) (tCall (spL_meet K) [] E0 (tCons (tTup (tCons (tVar 6) (tCons (tVar 7) (tCons (tVar 5) (tCons (tVar 3) tNil))))) (tCons (tVar 11) tNil)))) rfl scL_waiting_right.nd (pi_list (pe_dget hu (pe_ix ix_tup (pv 1) pe_int (fun _ _ => rfl)) (pv 4) (fun _ _ => rfl))) (blkOk_by (own := [("_law_row", 11)]) (N := nWR) (sc := defScope sL_waiting_right) (by decide +kernel)) (fun _ _ _ _ _ => (pg_name (i := 11) scL_waiting_right.nd rfl (Or.inl rfl))) (fun _ _ _ _ _ => pts_nil) (fun _ _ _ _ _ => (pe_and (pe_cmpR op_eq (pe_ix ix_tup (pv 11) pe_int (fun _ _ => rfl)) (pv 9) (nomark _)) (pe_one (pe_do G_law_meet (hr.mono (by decide)) (pa_cons (pe_tup (pa_cons (pv 6) (pa_cons (pv 7) (pa_cons (pv 5) (pa_cons (pv 3) pa_nil))))) (pa_cons (pv 11) pa_nil))))))) pa_nil))))
            (pss_one (ps_ret pe_bl))
            pss_nil)))
        (pss_cons (ps_if (PW.pt (pw_or (pt_cmpR (op_eqD hr.units) (pv 8) (pe_lst pa_nil) (nomark _)) (pw_or1 (pt_cmp (pc_din hu (pv 3) (pv 2))))))
          (pss_one (ps_ret pe_bl))
          pss_nil)
        (pss_one (ps_dput hu (pv 2) (pv 3) (pv 8) rfl))))))
      (pss_cons (ps_while PassesOwn.never (pt_cmpR (op_neEmp (units0 hr)) (pv 2) pe_dnewK (nomark _))
        (pss_cons (ps_lock (ps_setLc (i := 10) (own := [("_law_hand", 3)]) (g := gName 3) (tt := tNot (tB (tCB (rAny K) (tCons (tLc (iList K (tDGet (tVar 2) (tVar 3))) (gName 9) tYes (tDIn (tVar 9) (tVar 2)) [9]) tNil)))) (te := tVar 3) rfl scL_waiting_right.nd rfl rfl (sw_true rfl rfl rfl (by decide +kernel)) (pi_keys (pv 2)) (blkOk_by (own := [("_law_hand", 3)]) (N := nWR) (sc := defScope sL_waiting_right) (by decide +kernel)) (fun _ _ _ _ _ => (pg_name (i := 3) scL_waiting_right.nd rfl (Or.inl rfl))) (fun _ _ _ _ _ => (pts_one (pt_not (pt_val (pe_callB (cr_any rfl) (by rfl) T.any (by decide +kernel) (pa_cons (pe_lc (own := [("_law_other", 9)]) (g := gName 9) (tt := tYes) rfl scL_waiting_right.nd (pi_list (pe_dget hu (pv 2) (pv 3) (fun _ _ => rfl))) (blkOk_by (by rfl)) (fun _ _ _ _ _ => (pg_name (i := 9) scL_waiting_right.nd rfl (Or.inl rfl))) (fun _ _ _ _ _ => pts_nil) (fun _ _ _ _ _ => (pe_cmp (pc_din hu (pv 9) (pv 2))))) pa_nil)))))) (fun _ _ _ _ _ => (pv 3))))
        (pss_cons (ps_if (pt_cmpR (op_eqD hr.units) (pv 10) (pe_lst pa_nil) (nomark _))
          (pss_one (ps_ret pe_bl))
          pss_nil)
        (pss_one (ps_for PassesOwn.never rfl (pi_list (pv 10)) (pg_name (i := 3) scL_waiting_right.nd rfl (Or.inr rfl))
          (pss_one (ps_expr (pe_dpop1 (pv 2) (pv 3) ⟨rfl, rfl, rfl, rfl⟩))))))))
      (pss_one (ps_ret pe_bl))))), ?_⟩
    obtain ⟨t, wa, da, ws, kva, rfl, h1, h2, h3, h4, h5, _⟩ := AA.ex
    intro e he
    have fe : Fresh H e := Fresh.of he
    have F1 : Fm K [] H (upd H e (.dK [])) := Fm.new he
    have he1 : (upd H e (.dK [])) e = some (.dK []) := upd_same
    have Lk1 := Lk.fm F1
    generalize upd H e (.dK []) = H1 at F1 he1 Lk1
    have FF : ∀ {H' : Hp}, Fm K [e] H1 H' → Fm K [] H H' := fun F => (F1.nil.trans F : Fm K [e] H _).drop fe
    have hh1 := F1.at (by simp) h1 noT_tup
    have hh2 := F1.at (by simp) h2 noT_lst
    have hh3 := WishesV.tk F1.tup h3
    have now : wa ≠ e := fun z => fe _ (z ▸ h2) noT_lst
    refine ⟨_, rfl, t, _, _, .ref wa, rfl, rfl, SqT.of hh1, rfl, wa, rfl, ⟨_, SqL.of hh2⟩, for_list (K := K) (a := wa) (xs := ws) (fun i σ H2 => ∃ (v3 v4 v5 v6 v7 v8 v9 : Option V) (kvs : List (Key × V)), σ = [some (.ref p), some (.ref t), some (.ref e), v3, v4, v5, v6, v7, v8, v9, none, none] ∧ Fm K [e] H1 H2 ∧ H2 e = some (.dK kvs) ∧ Paired (LfV H2 S) kvs (S.wished.take i))
      ⟨none, none, none, none, none, none, none, [], rfl, Fm.refl, he1, .nil⟩ (fun i σ H2 _ ⟨_, _, _, _, _, _, _, _, _, F, _⟩ => SqL.of (F.at (by simpa using now) hh2 noT_lst)) ?_ ?_⟩
    · rintro i y σ H2 hy ⟨v3, v4, v5, v6, v7, v8, v9, kvs, rfl, F2, he2, P2⟩
      obtain ⟨x, hx, tx, rfl, htx⟩ := Paired.at h3 hy
      have hmem := List.mem_of_getElem? hx
      have FH2 := FF F2
      have htx2 := FH2.at (by simp) htx noT_tup
      have Lk2 := Lk.fm FH2
      have sw : S.waits x.hd = S.hold x := waits_of W.wnd hmem
      refine ⟨tx, _, rfl, SqT.of htx2, rfl, _, _, rfl, _, _, rfl, _, _, rfl, _, _, rfl, _, _, rfl, rfl, ?_⟩
      refine ⟨_, rfl, _, rfl, p, d, wl, S, x.hd, rfl, Lk2, N, fun H3 q F3 fq hq => ?_⟩
      rw [sw] at hq
      have he3 := F3.at (by simp) he2 noT_dK
      have P3 := LfV.fm (F3.nil) he2 (fun _ z => by cases z) P2
      have FH3 := FH2.trans F3
      have A3 := AA.fm0 FH3
      refine ⟨_, rfl, q, rfl, ⟨_, SqL.of hq⟩, for_list (K := K) (a := q) (xs := (S.hold x).map V.int) (fun j σ H4 => ∃ v9 : Option V, σ = [some (.ref p), some (.ref t), some (.ref e), some (.int x.hd), some (.int x.fl), some (.str (sortS x.wr)), some (.int x.lo), some (.int x.hi), some (.ref q), v9, none, none] ∧ Fm K [] H3 H4) ⟨_, rfl, Fm.refl⟩ (fun j σ H4 _ ⟨_, _, F⟩ => SqL.of (F.at (by simp) hq noT_lst)) ?_ ?_⟩
      · rintro j y σ H4 hy ⟨v9, rfl, F4⟩
        obtain ⟨o, ho, rfl⟩ : ∃ z, (S.hold x)[j]? = some z ∧ y = .int z := by
          rw [List.getElem?_map] at hy
          cases e : (S.hold x)[j]? with
          | none => rw [e] at hy; cases hy
          | some z => rw [e] at hy; exact ⟨z, rfl, (Option.some.inj hy).symm⟩
        have FH4 := FH3.trans F4
        have h14 := FH4.at (by simp) h1 noT_tup
        have h44 := FH4.at (by simp) h4 noT_dK
        obtain ⟨b, ysb, eb, _, hb, Rb⟩ := held_get h5 (W.wok x hmem).2.1
        have hb4 := FH4.at (by simp) hb noT_lst
        have Rb4 := RowsV.tk FH4.tup Rb
        refine ⟨_, rfl, t, _, _, .ref da, rfl, rfl, SqT.of h14, rfl, _, rfl, da, .ref b, rfl, eb ▸ DGet.k (k := Sum.inl x.fl) h44, b, rfl, ⟨_, SqL.of hb4⟩, fun D hD => lc_run (K := K) hD hb4 (fun i acc _ => acc = ((asLong (getP S.pieces x.fl)).take i).map fun r => V.bl (decide (r.hd = o) && meetB x.row r)) rfl ?_ ?_⟩
        · rintro k0 v Hx acc hv Fx hDx rfl
          obtain ⟨r, hr', c, rfl, hc⟩ := Paired.at Rb4 hv
          have ncD : c ≠ D := ne_of_none hc hD
          have hcx : Hx c = some (.tup r.vs) := Fx.at (by simpa using ncD) (by rw [upd_ne ncD]; exact hc) noT_tup
          have len : (((asLong (getP S.pieces x.fl)).take k0).map fun r => V.bl (decide (r.hd = o) && meetB x.row r)).length < sizeLine := by
            rw [List.length_map]
            have h1 : ((asLong (getP S.pieces x.fl)).take k0).length ≤ (asLong (getP S.pieces x.fl)).length := List.length_take_le' _ _
            have h2 := asLong_len (getP S.pieces x.fl)
            have h3 := N.rows x.fl
            exact small_lt (by omega)
          have nxt : ∀ b : Bool, (decide (r.hd = o) && meetB x.row r) = b → (((asLong (getP S.pieces x.fl)).take k0).map fun r => V.bl (decide (r.hd = o) && meetB x.row r)) ++ [.bl b] = ((asLong (getP S.pieces x.fl)).take (k0 + 1)).map fun r => V.bl (decide (r.hd = o) && meetB x.row r) := fun b hb => by
            rw [take_next hr', List.map_append, List.map_singleton, hb]
          refine ⟨rfl, _, rfl, c, _, _, _, rfl, rfl, SqT.of hcx, row3, _, rfl, rfl, _, rfl, ite2 (fun c1 => ?_) (fun c1 => ?_)⟩
          · have c1 : r.hd = o := by simpa using c1
            refine ⟨_, rfl, _, rfl, _, rfl, _, rfl, (by show 4 ≤ sizeLine; decide), fun tt htt => ⟨_, rfl, ?_⟩⟩
            have hcx2 : (upd Hx tt (.tup x.row.vs)) c = some (.tup r.vs) := by rw [upd_ne (ne_of_none hcx htt)]; exact hcx
            have hDx2 := (Fm.new (K := K) (ms := []) (o := .tup x.row.vs) htt).at (by simp) hDx noT_lst
            refine ⟨.ref tt, .ref c, x.row, r, rfl, ⟨tt, rfl, upd_same⟩, ⟨c, rfl, hcx2⟩, fun H5 F5 => ?_⟩
            refine lc_put (Fx.trans ((Fm.new htt).trans F5.nil)) (F5.at (by simp) hDx2 noT_lst) len ?_
            exact nxt _ (by simp [c1])
          · have c1 : ¬ r.hd = o := by simpa using c1
            exact lc_put Fx hDx len (nxt _ (by simp [c1]))
        · rintro H5 acc F5 fD hD5 rfl
          rw [paired_len Rb4, List.take_length] at hD5
          have hD5' : H5 D = some (.lst (((asLong (getP S.pieces x.fl)).map fun r => decide (r.hd = o) && meetB x.row r).map V.bl)) := by rw [hD5, List.map_map]; rfl
          have any : (((asLong (getP S.pieces x.fl)).map fun r => decide (r.hd = o) && meetB x.row r).any id) = true := by
            obtain ⟨r, hr, e1, e2⟩ := meet_of W (List.mem_of_getElem? ho)
            exact List.any_eq_true.mpr ⟨true, List.mem_map.mpr ⟨r, hr, by simp [e1, e2]⟩, rfl⟩
          refine ⟨D, _, rfl, SqL.of hD5', _, rfl, ?_⟩
          rw [any]
          exact iteF ⟨_, rfl, F4.trans F5⟩
      · rintro σ H4 ⟨v9, rfl, F4⟩
        have hq4 := F4.at (by simp) hq noT_lst
        refine ⟨_, rfl, (by show 0 ≤ sizeLine; decide), fun em hem => ?_⟩
        have F5 : Fm K [] H3 (upd H4 em (.lst [])) := F4.trans (Fm.new hem)
        have hq5 : (upd H4 em (.lst [])) q = some (.lst ((S.hold x).map V.int)) := by rw [upd_ne (ne_of_none hq4 hem)]; exact hq4
        refine ⟨_, _, .lst (SqL.of hq5) (ints_dp _), .lst (SqL.of upd_same) .nil, shaped_ints _, shaped_ints [], _, rfl, ?_⟩
        rw [op_emp, decide_eq_false (Bl x hmem)]
        refine iteF ?_
        generalize upd H4 em (.lst []) = H5 at F5 hq5
        have he5 := F5.at (by simp) he3 noT_dK
        have P5 := LfV.fm (F5.nil) he3 (fun _ z => by cases z) P3
        refine ⟨_, rfl, _, rfl, e, _, rfl, DGet.k (k := Sum.inl x.hd) he5, _, rfl, ?_⟩
        rw [lf_in P5]
        have nin : x.hd ∉ (S.wished.take i).map (·.hd) := fun z => by
          obtain ⟨v, hv, ev⟩ := List.mem_map.mp z
          obtain ⟨j, hj, ej⟩ := List.mem_iff_getElem.mp hv
          rw [List.length_take] at hj
          rw [List.getElem_take] at ej
          have nd := W.wnd
          obtain ⟨hi, ei⟩ := List.getElem?_eq_some_iff.mp hx
          have := List.pairwise_iff_getElem.mp nd j i (by rw [List.length_map]; omega) (by rw [List.length_map]; exact hi) (by omega)
          rw [List.getElem_map, List.getElem_map, ej, ei] at this
          exact this ev
        rw [decide_eq_false nin]
        refine iteF ?_
        have kl : kvs.length < sizeLine := by
          have a1 := paired_len P5
          rw [List.length_take] at a1
          have := N.wl
          exact small_lt (by omega)
        refine ⟨_, rfl, _, rfl, _, rfl, e, _, rfl, DPut.k (k := Sum.inl x.hd) he5 kl, ?_⟩
        have kn : (Sum.inl x.hd : Key) ∉ kvs.map (·.1) := by rw [lf_keys P5]; exact fun z => nin (inl_mem.mp z)
        rw [putK_new kn]
        have F6 : Fm K [e] H5 (upd H5 e (.dK (kvs ++ [(Sum.inl x.hd, .ref q)]))) := Fm.put he5 rfl (by simp)
        refine ⟨_, _, _, _, _, _, _, _, rfl, ((F2.trans F3.nil).trans F5.nil).trans F6, upd_same, ?_⟩
        rw [take_next hx]
        have nqe : q ≠ e := fun z => fq _ (z ▸ he2) noT_dK
        exact Paired.app (LfV.fm F6 he5 (fun _ z => by cases z) P5) (.cons ⟨rfl, q, rfl, F6.at (by simpa using nqe) hq5 noT_lst⟩ .nil)
    · rintro σ H2 ⟨v3, v4, v5, v6, v7, v8, v9, kvs, rfl, F2, he2, P2⟩
      rw [paired_len hh3, List.take_length] at P2
      refine ⟨fun m σ H3 => ∃ (v3 v4 v5 v6 v7 v8 v9 v10 : Option V) (kvs : List (Key × V)) (l : List Wish), σ = [some (.ref p), some (.ref t), some (.ref e), v3, v4, v5, v6, v7, v8, v9, v10, none] ∧ Fm K [e] H1 H3 ∧ H3 e = some (.dK kvs) ∧ Paired (LfV H3 S) kvs l ∧ (∀ x ∈ l, x ∈ S.wished) ∧ (l.map (·.hd)).Nodup ∧ m = l.length,
        ⟨_, _, _, _, _, _, _, _, _, kvs, S.wished, rfl, F2, he2, P2, fun _ h => h, W.wnd, rfl⟩, ?_⟩
      clear F2 he2 P2 v3 v4 v5 v6 v7 v8 v9 kvs
      rintro m σ H3 ⟨v3, v4, v5, v6, v7, v8, v9, v10, kvs, l, rfl, F3, he3, P3, sub, nd, rfl⟩
      refine ⟨_, rfl, fun em hem => ⟨e, em, kvs, rfl, rfl, (by rw [upd_ne (ne_of_none he3 hem)]; exact he3), upd_same, _, rfl, ?_⟩⟩
      have F4 : Fm K [e] H1 (upd H3 em (.dK [])) := F3.trans (Fm.new hem)
      have he4 : (upd H3 em (.dK [])) e = some (.dK kvs) := by rw [upd_ne (ne_of_none he3 hem)]; exact he3
      have P4 := LfV.fm (Fm.new (o := .dK []) hem : Fm K [e] H3 _) he3 (fun _ z => by cases z) P3
      generalize upd H3 em (.dK []) = H4 at F4 he4 P4
      have klen := paired_len P4
      refine ite2 (fun c => ?_) (fun c => ?_)
      · have lne : l ≠ [] := fun z => by
          subst z
          cases P4
          simp at c
        refine ⟨fun σ' H' => ∃ m', m' < l.length ∧ ∃ (v3 v4 v5 v6 v7 v8 v9 v10 : Option V) (kvs : List (Key × V)) (l : List Wish), σ' = [some (.ref p), some (.ref t), some (.ref e), v3, v4, v5, v6, v7, v8, v9, v10, none] ∧ Fm K [e] H1 H' ∧ H' e = some (.dK kvs) ∧ Paired (LfV H' S) kvs l ∧ (∀ x ∈ l, x ∈ S.wished) ∧ (l.map (·.hd)).Nodup ∧ m' = l.length, fun _ _ z => z, ?_⟩
        refine ⟨e, .dK kvs, he4, trivial, fun od => ?_⟩
        have F5 : Fm K [e] H4 (upd H4 e (.frz od (.dK kvs))) := Fm.put he4 rfl (by simp)
        have P5 := LfV.fm F5 he4 (fun _ z => by cases z) P4
        have he5 : (upd H4 e (.frz od (.dK kvs))) e = some (.frz od (.dK kvs)) := upd_same
        generalize upd H4 e (.frz od (.dK kvs)) = H5 at F5 P5 he5
        refine ⟨_, rfl, e, od, rfl, .inl ⟨_, he5, fun D hD => lc_keys (K := K) hD he5 (fun i acc _ => acc = ((l.take i).filter (rdy S l)).map fun x => V.int x.hd) rfl ?_ ?_⟩⟩
        · rintro i kk vv Hx acc hk Fx hDx rfl
          obtain ⟨x, hx, e1, a, e2, ha⟩ := Paired.at P5 hk
          simp only at e1 e2
          subst e1
          subst e2
          have neD : e ≠ D := ne_of_none he5 hD
          have naD : a ≠ D := ne_of_none ha hD
          have hex : Hx e = some (.frz od (.dK kvs)) := Fx.at (by simpa using neD) (by rw [upd_ne neD]; exact he5) noT_frz
          have hax : Hx a = some (.lst ((S.hold x).map V.int)) := Fx.at (by simpa using naD) (by rw [upd_ne naD]; exact ha) noT_lst
          have xl := List.mem_of_getElem? hx
          obtain ⟨a', va, ha'⟩ := lf_get P5 nd xl
          have naD' : a' ≠ D := ne_of_none ha' hD
          have hax' : Hx a' = some (.lst ((S.hold x).map V.int)) := Fx.at (by simpa using naD') (by rw [upd_ne naD']; exact ha') noT_lst
          have xm := sub x xl
          have hold64 := N.hold x
          refine ⟨rfl, _, rfl, _, rfl, e, .ref a', rfl, .inl ⟨_, Sum.inl x.hd, .inr ⟨od, hex⟩, rfl, va.symm⟩, a', rfl, ⟨_, SqL.of hax'⟩, fun D2 hD2 => lc_run (K := K) hD2 hax' (fun j acc _ => acc = ((S.hold x).take j).map fun y => V.bl (decide (y ∈ l.map (·.hd)))) rfl ?_ ?_⟩
          · rintro j v Hy acc2 hv Fy hDy rfl
            obtain ⟨o, ho, rfl⟩ : ∃ z, (S.hold x)[j]? = some z ∧ v = .int z := by
              rw [List.getElem?_map] at hv
              cases e : (S.hold x)[j]? with
              | none => rw [e] at hv; cases hv
              | some z => rw [e] at hv; exact ⟨z, rfl, (Option.some.inj hv).symm⟩
            have neD2 : e ≠ D2 := ne_of_none hex hD2
            have hey : Hy e = some (.frz od (.dK kvs)) := Fy.at (by simpa using neD2) (by rw [upd_ne neD2]; exact hex) noT_frz
            refine ⟨rfl, _, rfl, _, rfl, e, _, rfl, .inl ⟨_, Sum.inl o, .inr ⟨od, hey⟩, rfl, rfl⟩, ?_⟩
            rw [lf_in P5]
            refine lc_put Fy hDy ?_ ?_
            · rw [List.length_map]
              exact small_lt (Nat.le_trans (List.length_take_le' _ _) (by omega))
            · rw [take_next ho, List.map_append]
              rfl
          · rintro H7 acc2 F7 fD2 hD7 rfl
            rw [List.length_map, List.take_length] at hD7
            have hD7' : H7 D2 = some (.lst (((S.hold x).map fun y => decide (y ∈ l.map (·.hd))).map V.bl)) := by rw [hD7, List.map_map]; rfl
            have hDx7 := F7.at (by simp) hDx noT_lst
            refine ⟨D2, _, rfl, SqL.of hD7', _, rfl, ?_⟩
            show if rdy S l x = true then _ else _
            refine ite2 (fun c2 => ?_) (fun c2 => ?_)
            · refine ⟨_, rfl, lc_put (Fx.trans F7.nil) hDx7 ?_ ?_⟩
              · rw [List.length_map]
                have h1 := take_len (rdy S l) l i
                have h2 := nodup_len (nodup_of_map nd) sub
                have := N.wl
                exact small_lt (by omega)
              · rw [filter_take hx, if_pos c2, List.map_append]
                rfl
            · refine ⟨_, Fx.trans F7.nil, hDx7, ?_⟩
              show ((l.take i).filter (rdy S l)).map (fun x => V.int x.hd) = ((l.take (i + 1)).filter (rdy S l)).map fun x => V.int x.hd
              rw [filter_take hx, if_neg c2]
        · rintro H6 acc F6 fD hD6 rfl
          rw [klen, List.take_length] at hD6
          have he6 := F6.at (by simp) he5 noT_frz
          obtain ⟨R, hR⟩ : ∃ R : List Int, R = (l.filter (rdy S l)).map (·.hd) := ⟨_, rfl⟩
          have hD6' : H6 D = some (.lst (R.map V.int)) := by rw [hD6, hR, List.map_map]; rfl
          have Rne : R ≠ [] := by
            obtain ⟨x, hx, c2⟩ := rdy_some Rk sub lne
            intro z
            have : x.hd ∈ R := by rw [hR]; exact List.mem_map.mpr ⟨x, List.mem_filter.mpr ⟨hx, c2⟩, rfl⟩
            rw [z] at this
            simp at this
          have Rnd : R.Nodup := by
            rw [hR]
            exact (List.Sublist.map _ List.filter_sublist).nodup nd
          have Rin : ∀ y ∈ R, ∃ x ∈ l, x.hd = y := fun y hy => by
            rw [hR] at hy
            obtain ⟨x, hx, e⟩ := List.mem_map.mp hy
            exact ⟨x, (List.mem_filter.mp hx).1, e⟩
          refine ⟨he6, ?_⟩
          have neD : D ≠ e := fun z => fD _ (z ▸ he5) noT_frz
          have F7 : Fm K [e] H1 (upd H6 e (.dK kvs)) := (F4.trans (F5.trans F6.nil)).trans (Fm.putF he6 (by simp))
          have P7 : Paired (LfV (upd H6 e (.dK kvs)) S) kvs l := LfV.fm (Fm.putF he6 (by simp) : Fm K [e] H6 _) he6 (fun _ z => by cases z) (LfV.fm (F6.nil : Fm K [e] H5 H6) he5 (fun _ z => by cases z) P5)
          have he7 : (upd H6 e (.dK kvs)) e = some (.dK kvs) := upd_same
          have hD7 : (upd H6 e (.dK kvs)) D = some (.lst (R.map V.int)) := by rw [upd_ne neD]; exact hD6'
          generalize upd H6 e (.dK kvs) = H7 at F7 P7 he7 hD7
          refine ⟨_, rfl, (by show 0 ≤ sizeLine; decide), fun em2 hem2 => ?_⟩
          have hD8 : (upd H7 em2 (.lst [])) D = some (.lst (R.map V.int)) := by rw [upd_ne (ne_of_none hD7 hem2)]; exact hD7
          refine ⟨_, _, .lst (SqL.of hD8) (ints_dp _), .lst (SqL.of upd_same) .nil, shaped_ints _, shaped_ints [], _, rfl, ?_⟩
          rw [op_emp, decide_eq_false Rne]
          refine iteF ?_
          have F8 : Fm K [e] H1 (upd H7 em2 (.lst [])) := F7.trans (Fm.new hem2)
          have he8 : (upd H7 em2 (.lst [])) e = some (.dK kvs) := by rw [upd_ne (ne_of_none he7 hem2)]; exact he7
          have P8 := LfV.fm (Fm.new (o := .lst []) hem2 : Fm K [e] H7 _) he7 (fun _ z => by cases z) P7
          generalize upd H7 em2 (.lst []) = H8 at F8 he8 P8 hD8
          refine ⟨_, rfl, D, rfl, ⟨_, SqL.of hD8⟩, for_list (K := K) (a := D) (xs := R.map V.int) (fun j σ H9 => ∃ (v3 v10 : Option V) (kvs2 : List (Key × V)), σ = [some (.ref p), some (.ref t), some (.ref e), v3, v4, v5, v6, v7, v8, v9, v10, none] ∧ Fm K [e] H8 H9 ∧ H9 e = some (.dK kvs2) ∧ Paired (LfV H9 S) kvs2 (l.filter fun x => !decide (x.hd ∈ R.take j)))
            ⟨_, _, kvs, rfl, Fm.refl, he8, by rw [List.filter_eq_self.mpr (by simp)]; exact P8⟩ (fun j σ H9 _ ⟨_, _, _, _, F, _⟩ => SqL.of (F.at (by simpa using neD) hD8 noT_lst)) ?_ ?_⟩
          · rintro j y σ H9 hy ⟨v3, v10, kvs2, rfl, F9, he9, P9⟩
            obtain ⟨o, ho, rfl⟩ : ∃ z, R[j]? = some z ∧ y = .int z := by
              rw [List.getElem?_map] at hy
              cases e : R[j]? with
              | none => rw [e] at hy; cases hy
              | some z => rw [e] at hy; exact ⟨z, rfl, (Option.some.inj hy).symm⟩
            obtain ⟨x, hx, rfl⟩ := Rin o (List.mem_of_getElem? ho)
            have nt : x.hd ∉ R.take j := fun z => by
              obtain ⟨i2, hi2, e2⟩ := List.mem_iff_getElem.mp z
              rw [List.length_take] at hi2
              rw [List.getElem_take] at e2
              obtain ⟨hj, ej⟩ := List.getElem?_eq_some_iff.mp ho
              exact List.pairwise_iff_getElem.mp Rnd i2 j (by omega) hj (by omega) (by rw [e2, ej])
            have nd9 : ((l.filter fun x => !decide (x.hd ∈ R.take j)).map (·.hd)).Nodup := (List.Sublist.map _ List.filter_sublist).nodup nd
            obtain ⟨a, va, _⟩ := lf_get P9 nd9 (List.mem_filter.mpr ⟨hx, by simp [nt]⟩)
            refine ⟨_, rfl, e, rfl, .inl ⟨kvs2, .inl he9⟩, _, rfl, kvs2, Sum.inl x.hd, .ref a, he9, rfl, va, ?_⟩
            have F10 : Fm K [e] H9 (upd H9 e (.dK (dropK kvs2 (Sum.inl x.hd)))) := Fm.put he9 rfl (by simp)
            refine ⟨_, _, _, rfl, F9.trans F10, upd_same, ?_⟩
            have P10 := LfV.fm F10 he9 (fun _ z => by cases z) (lf_drop (y := x.hd) P9)
            rw [List.filter_filter] at P10
            have ef : (l.filter fun x => !decide (x.hd ∈ R.take (j + 1))) = l.filter fun a => (!decide (a.hd = x.hd)) && (!decide (a.hd ∈ R.take j)) := by
              refine List.filter_congr fun a _ => ?_
              rw [take_next ho]
              by_cases z : a.hd = x.hd <;> by_cases z2 : a.hd ∈ R.take j <;> simp [z, z2]
            rw [ef]
            exact P10
          · rintro σ H9 ⟨v3, v10, kvs2, rfl, F9, he9, P9⟩
            rw [List.length_map, List.take_length] at P9
            refine ⟨_, ?_, _, _, _, _, _, _, _, _, kvs2, _, rfl, F8.trans F9, he9, P9, fun x hx => sub x (List.mem_filter.mp hx).1, (List.Sublist.map _ List.filter_sublist).nodup nd, rfl⟩
            rw [List.length_filter_lt_length_iff_exists]
            obtain ⟨y, rest, eR⟩ : ∃ y r, R = y :: r := by
              cases R with
              | nil => exact absurd rfl Rne
              | cons y r => exact ⟨y, r, rfl⟩
            obtain ⟨x, hx, e2⟩ := Rin y (by rw [eR]; simp)
            exact ⟨x, hx, by rw [e2, eR]; simp⟩
      · exact k _ (FF F4)
end
end FS
/-! F27 -/
namespace FS
open PySem PySem.Spec PyProof.Rows L2
/-! ### what a deed does to the state, as the law asks it -/
section
variable {hs ns ps : List Int} {S S0 S' : LS} {told : List Int} {x : Wish} {h : Int}
theorem heldL_of (W : WF hs ns ps S) (H : Held S x) : HeldL S x := by
  obtain ⟨r, hr, i⟩ := H
  obtain ⟨q, hq, j⟩ := long_in (W.good x.fl) hr
  exact ⟨q, hq, i.trans j⟩
/-- what the law's let asks -/
def LetF (ns : List Int) (S S' : LS) (told : List Int) : Prop := ∀ h ∈ told, ∃ x ∈ S.wished, x.hd = h ∧ x ∉ S'.wished ∧ HeldL S' x ∧ x.fl ∈ ns
theorem let_of (W : WF hs ns ps S) (sub : ∀ v ∈ S0.wished, v ∈ S.wished) (L : LetOk hs ns ps S0 S' told) : LetF ns S S' told := fun h hh => by
  obtain ⟨w, hw, e, n, H⟩ := L.let_ h hh
  exact ⟨w, sub w hw, e, n, heldL_of L.wf H, (W.wok w (sub w hw)).2.1⟩
/-- what the law's others_stay asks -/
def StayF (ns : List Int) (S S' : LS) (mv : List Int) : Prop := (∀ f ∈ ns, (asLong (getP S.pieces f)).filter (fun r => !decide (r.hd ∈ mv)) = (asLong (getP S'.pieces f)).filter fun r => !decide (r.hd ∈ mv)) ∧
  S.wished.filter (fun r => !decide (r.hd ∈ mv)) = S'.wished.filter fun r => !decide (r.hd ∈ mv)
theorem stay_of (W : WF hs ns ps S) (L : LetOk hs ns ps S0 S' told) (cov : ∀ k, k ≠ h → ∀ f s p, Cov (getP S0.pieces f) k s p ↔ Cov (getP S.pieces f) k s p) (wi : S0.wished.filter (fun r => !decide (r.hd ∈ h :: told)) = S.wished.filter fun r => !decide (r.hd ∈ h :: told)) : StayF ns S S' (h :: told) := by
  refine ⟨fun f _ => ?_, ?_⟩
  · refine long_eq (W.good f) (L.wf.good f) (fun k => !decide (k ∈ h :: told)) fun k s p hk => ?_
    have hk : ¬ k ∈ h :: told := by simpa using hk
    rw [List.mem_cons, not_or] at hk
    exact (cov k hk.1 f s p).symm.trans (L.cov k hk.2 f s p).symm
  · rw [← wi]
    exact (L.stay (fun k => !decide (k ∈ h :: told)) (fun k hk => by simp [hk])).symm
theorem told_in (L : LetOk hs ns ps S0 S' told) {k : Int} (hk : k ∈ told) : ∃ v ∈ S0.wished, v.hd = k := by
  obtain ⟨w, hw, e, _⟩ := L.let_ k hk
  exact ⟨w, hw, e⟩
theorem told_len (W : WF hs ns ps S0) (l1 : hs.length ≤ 10) (L : LetOk hs ns ps S0 S' told) : told.length < 64 := by
  have := nodup_len L.tnd (m := hs) (fun k hk => by
    obtain ⟨v, hv, e⟩ := told_in L hk
    exact e ▸ (W.wok v hv).1)
  omega
/-- leave: the hand is nowhere -/
theorem gone_of (W : WF hs ns ps S) (L : LetOk hs ns ps (S.leave h) S' told) : (∀ v ∈ S'.wished, v.hd ≠ h) ∧ ∀ f, ∀ r ∈ asLong (getP S'.pieces f), r.hd ≠ h := by
  have nw : ∀ v ∈ (S.leave h).wished, v.hd ≠ h := fun v hv e => by
    have := (List.mem_filter.mp hv).2
    simp [e] at this
  refine ⟨fun v hv => nw v (L.sub v hv), fun f r hr e => ?_⟩
  have g := long_good (L.wf.good f)
  have c : Cov (asLong (getP S'.pieces f)) h r.wr r.lo := ⟨r, hr, e, rfl, Int.le_refl _, g.pos r hr⟩
  rw [long_cov (L.wf.good f)] at c
  have nt : h ∉ told := fun z => by
    obtain ⟨v, hv, ev⟩ := told_in L z
    exact nw v hv ev
  rw [L.cov h nt, leave_cov] at c
  exact c.2 rfl
theorem blocked_wish (B : Blocked S) (hx : S.hold x ≠ []) : Blocked (S.wish x) := fun v hv => by
  rcases List.mem_append.mp hv with hv | hv
  · exact B v hv
  · rw [List.mem_singleton] at hv
    rw [hv]
    exact hx
theorem waits_wish (nd : ((S.wish x).wished.map (·.hd)).Nodup) : (S.wish x).waits x.hd = S.hold x := waits_of nd (by simp [LS.wish])
end
end FS
/-! F28 -/
namespace FS
open PySem PySem.Spec PyProof.Rows L2
section
variable {X : Cx}
/-- x in (..), data -/
def rInTD (K : PySem.W.Frag) : R2 := fun x y H Q => ∃ d ds, Dp K H x d ∧ Dp K H y (.tuple ds) ∧ SeqAt.shaped d = true ∧ SeqAt.shaped (.tuple ds) = true ∧ Q (.bl (ds.any fun z => PyData.eqv z d)) H
theorem op_inTD (hu : X.A.units + 65 < cLine) : OpR X (compareOp .In) (rInTD X.K) := by
  intro pins s σ H x y v u Q I rx ry h
  obtain ⟨d, ds, hd, he, sd, se, q⟩ := h
  obtain ⟨as, r1⟩ := Dp.reads I d x v hd rx
  obtain ⟨bs, r2⟩ := Dp.reads I (.tuple ds) y u he ry
  exact SeqAt.in_tuple_reads r2 r1 (SeqAt.canLay_of_shaped se) (SeqAt.canLay_of_shaped sd) (room_in_shaped sd hu) ⟨.bl _, H, I, rfl, q⟩
end
abbrev wordsD : PyData := .tuple [.str "ring", .str "waiting"]
theorem shaped_words : SeqAt.shaped wordsD = true := by decide +kernel
def strD (r : Bool) : Str := if r then "ring" else "waiting"
theorem word_in (r : Bool) : ([PyData.str "ring", .str "waiting"].any fun z => PyData.eqv z (.str (strD r))) = true := by cases r <;> decide +kernel
theorem shaped_word (r : Bool) : SeqAt.shaped (.str (strD r)) = true := by cases r <;> decide +kernel
theorem shaped_told (h : Bool) (ns : List Int) : SeqAt.shaped (.tuple [.str (if h then "held" else "waits"), .list (ns.map PyData.int)]) = true := by
  have h1 := shaped_ints ns
  refine shaped_mk ?_ ?_
  · have h2 : PyData.canLay0 (.list (ns.map PyData.int)) = true := SeqAt.canLay_of_shaped h1
    have h3 : PyData.canLay0 (.str (if h then "held" else "waits")) = true := by cases h <;> decide +kernel
    simp [PyData.canLay0, PyData.canLayAll0] at h2 h3 ⊢
    exact ⟨h3, h2⟩
  · have h2 : (PyData.list (ns.map PyData.int)).depth ≤ 1 := depth_lst (n := 0) fun d hd => by
      obtain ⟨n, _, rfl⟩ := List.mem_map.mp hd
      simp [PyData.depth]
    have := depth_tup (n := 1) (ds := [.str (if h then "held" else "waits"), .list (ns.map PyData.int)]) fun d hd => by
      simp at hd
      rcases hd with rfl | rfl
      · simp [PyData.depth]
      · exact h2
    omega
theorem told_not (h : Bool) (ns : List Int) : ([PyData.str "ring", .str "waiting"].any fun z => PyData.eqv z (.tuple [.str (if h then "held" else "waits"), .list (ns.map PyData.int)])) = false := by
  simp [PyData.eqv]
section
variable {P : Program} {w : World} {K : PySem.W.Frag} {mg : Str → Option Value} {base : Heap} {hs ns ps : List Int}
theorem takeK_mk {p d wl : Addr} {S : LS} {x : Wish} {H : Hp} {Q : VK} (ne : He.ga K "Ring" ≠ He.ga K "Waiting")
    (word : ∀ (r : Bool) H1, Fm K [] H H1 → decide (x.hd ∈ S.wished.map (·.hd)) = !r → Q (.str (strD r)) H1)
    (held : ∀ H' q r S' told, (∀ v ∈ S.wished, v.hd ≠ x.hd) → S.hold x = [] → Mv K p d wl wl H H' → LkAt K H' p d wl S' → LetIn (S.put x) S' told → Blocked S' → (Tb K H → Tb K H') → Fresh H q → H' q = some (.tup [.str "held", .ref r]) → Fresh H r → H' r = some (.lst (told.map V.int)) → Off H' p d wl r → Q (.ref q) H')
    (waits : ∀ H' q r R, (∀ v ∈ S.wished, v.hd ≠ x.hd) → S.hold x ≠ [] → NoRing S x.hd (S.hold x) R → Mv K p d wl wl H H' → LkAt K H' p d wl (S.wish x) → (Tb K H → Tb K H') → Fresh H q → H' q = some (.tup [.str "waits", .ref r]) → Fresh H r → H' r = some (.lst ((S.hold x).map V.int)) → Off H' p d wl r → Q (.ref q) H') :
    TakeK K p d wl S x H Q (fun cls _ H1 => Q (.str (if cls = Value.ref (He.ga K "Ring") then "ring" else "waiting")) H1) where
  wait H' hw F := by
    show Q (.str (if Value.ref (He.ga K "Waiting") = Value.ref (He.ga K "Ring") then "ring" else "waiting")) H'
    rw [if_neg (fun z => ne (Value.ref.inj z).symm)]
    obtain ⟨v, hv, e⟩ := hw
    exact word false H' F (by rw [decide_eq_true (List.mem_map.mpr ⟨v, hv, e⟩)]; rfl)
  ring H' d' fs hw F _ := by
    show Q (.str (if Value.ref (He.ga K "Ring") = Value.ref (He.ga K "Ring") then "ring" else "waiting")) H'
    rw [if_pos rfl]
    exact word true H' F (by rw [decide_eq_false fun z => by obtain ⟨v, hv, e⟩ := List.mem_map.mp z; exact hw v hv e]; rfl)
  held := held
  waits := waits
theorem dict_eq {H : Hp} {S S' : LS} {L L' : List Addr} {ka kb : List (Key × V)} {ns : List Int} (h1 : Paired (HeldV H S L) ka ns) (h2 : Paired (HeldV H S' L') kb ns) (e : ∀ f ∈ ns, asLong (getP S.pieces f) = asLong (getP S'.pieces f)) :
    ka.length = kb.length ∧ ∀ p ∈ ka, ∃ u, valV kb p.1 = some u ∧ DEq K H p.2 u := by
  refine ⟨by rw [paired_len h1, paired_len h2], fun p hp => ?_⟩
  obtain ⟨i, hi, ei⟩ := List.mem_iff_getElem.mp hp
  obtain ⟨f, hf, a1, b, ys, a2, _, a4, a5⟩ := Paired.at h1 (List.getElem?_eq_some_iff.mpr ⟨hi, ei⟩)
  have fm := List.mem_of_getElem? hf
  obtain ⟨c, zs, e1, _, hc, R⟩ := held_get h2 fm
  refine ⟨_, by rw [a1]; exact e1, ?_⟩
  rw [a2]
  refine ⟨_, _, .lst (SqL.of a4) (RowsV.dp a5), .lst (SqL.of hc) (RowsV.dp R), shaped_rows _, shaped_rows _, ?_⟩
  rw [eqv_rowsD, e f fm]
  exact decide_eq_true rfl
theorem wishes_deq {H : Hp} {a b : Addr} {xs ys : List V} {ws : List Wish} (h1 : H a = some (.lst xs)) (h2 : WishesV H xs ws) (h3 : H b = some (.lst ys)) (h4 : WishesV H ys ws) : DEq K H (.ref a) (.ref b) := by
  refine ⟨_, _, .lst (SqL.of h1) (WishesV.dp h2), .lst (SqL.of h3) (WishesV.dp h4), shaped_wishes _, shaped_wishes _, ?_⟩
  rw [eqv_wishesD]
  exact decide_eq_true rfl
/-- behind a deed -/
def DeedEnd (K : PySem.W.Frag) (hs ns ps : List Int) (p d wl : Addr) (H : Hp) (Q : VK) : Prop := ∀ H' S' wl', Mv K p d wl wl' H H' → LkAt K H' p d wl' S' → WF hs ns ps S' → Ranked S' → Blocked S' → (Tb K H → Tb K H') → Q (.bl true) H'
def spL_taken_right (K : PySem.W.Frag) (hs ns ps : List Int) : Sp := fun vs H Q _ => ∃ (m h n q p d wl b : Addr) (va : V) (S : LS) (L : List Addr) (x : Wish), vs = [.ref m, .ref p, va, .ref b] ∧ MAt H m h n q hs ns ps ∧ MOk hs ns ps ∧ LkAt K H p d wl S ∧ WF hs ns ps S ∧ Ranked S ∧ Blocked S ∧ Tb K H ∧ AllAt H va S ns L ∧ H b = some (.tup x.vs) ∧ WOk hs ns ps x ∧
  (∀ c ∈ [m, h, n, q] ++ L, Off H p d wl c) ∧ DeedEnd K hs ns ps p d wl H Q
theorem scL_taken_right : FnScope ["_law_m", "_law_locks", "_law_ahead", "_law_wish", "_law_told_here", "_law_after", "_law_one"] ["_law_m", "_law_locks", "_law_ahead", "_law_wish"] (defScope sL_taken_right) := ⟨rfl, rfl, rfl, by decide +kernel, rfl, by decide +kernel, by decide +kernel⟩
theorem ok_L_taken_right (T : Txt K mg) (X : Tx K mg) (Y : Ty K mg) (TB : LamX.TabB base mg (He.cT K pLong).1 (He.cT K pLong).2) (l1 : hs.length ≤ 10) (l2 : ns.length ≤ 8) (l3 : ps.length ≤ 13) : Ok P w K mg base 8 "_law_taken_right" ["_law_m", "_law_locks", "_law_ahead", "_law_wish"] (spL_taken_right K hs ns ps) := by
  have G_law_all : Ok P w K mg base 5 "_law_all" _ _ := ok_L_all (hs := hs) (ns := ns) (ps := ps) T TB
  have G_law_holds : Ok P w K mg base 1 "_law_holds" _ _ := ok_L_holds (ns := ns) T
  have G_law_let : Ok P w K mg base 2 "_law_let" _ _ := ok_L_let (ns := ns) T
  have G_law_others_stay : Ok P w K mg base 1 "_law_others_stay" _ _ := ok_L_others_stay (hs := hs) (ns := ns) (ps := ps) T
  have G_law_told : Ok P w K mg base 7 "_law_told" _ _ := ok_told (hs := hs) (ns := ns) (ps := ps) T X Y TB l1 l2 l3
  have Gwaited_for : Ok P w K mg base 3 "waited_for" _ _ := ok_waited_for T
  refine T.dL_taken_right.ok scL_taken_right (fun _ _ _ _ _ _ us hl => match us, hl with | [_, _, _, _], _ => rfl) (fun vs H Q E h => ?_) (fun f cdv A outer s H vs Q E hr h => ?_)
  · obtain ⟨m, h, n, q, p, d, wl, b, va, S, L, x, rfl, _⟩ := h
    rfl
  · obtain ⟨m, h, n, q, p, d, wl, b, va, S, L, x, rfl, M, O, Lk, W, Rk, Bl, tb, AA, hb, hx, off, k⟩ := h
    have hu := hu_of hr
    refine ⟨_, (pss_cons (ps_set (i := 4) scL_taken_right.nd rfl (Or.inl rfl) (pe_do G_law_told (hr.mono (by decide)) (pa_cons (pv 1) (pa_cons (pv 3) pa_nil))))
      (pss_cons (ps_set (i := 5) scL_taken_right.nd rfl (Or.inl rfl) (pe_do G_law_all (hr.mono (by decide)) (pa_cons (pv 1) (pa_cons (pv 0) pa_nil))))
      (pss_cons (ps_if (pt_cmpR (op_inTD (units65 hr)) (pv 4) (pe_tup (pa_cons pe_str (pa_cons pe_str pa_nil))) (by rfl))
        (pss_one (ps_ret (pe_and (pe_cmpR (op_eqAll (units80 hr)) (pv 5) (pv 2) (nomark _)) (pe_one (pe_cmpR op_eq (pe_cmpR op_eq (pv 4) pe_str (nomark _)) (pe_cmpR op_in_seq (pe_ix ix_tup (pv 3) pe_int (fun _ _ => rfl)) (pe_lc (own := [("_law_one", 6)]) (g := gName 6) (tt := tYes) (te := tOp (rIxT K) (tVar 6) (tC (.int 0))) rfl scL_taken_right.nd (pi_list (pe_ix ix_tup (pv 2) pe_int (fun _ _ => rfl))) (blkOk_by (own := [("_law_one", 6)]) (N := ["_law_m", "_law_locks", "_law_ahead", "_law_wish", "_law_told_here", "_law_after", "_law_one"]) (sc := defScope sL_taken_right) (by decide +kernel)) (fun _ _ _ _ _ => (pg_name (i := 6) scL_taken_right.nd rfl (Or.inl rfl))) (fun _ _ _ _ _ => pts_nil) (fun _ _ _ _ _ => (pe_ix ix_tup (pv 6) pe_int (fun _ _ => rfl)))) (by rfl)) (nomark _))))))
        pss_nil)
      (pss_cons (ps_if (pt_cmpR op_eq (pe_ix ix_tup (pv 4) pe_int (fun _ _ => rfl)) pe_str (nomark _))
        (pss_one (ps_ret (pe_and (pe_cmpR (op_eqAll (units80 hr)) (pv 5) (pe_tup (pa_cons (pe_op op_cat (pe_ix ix_tup (pv 2) pe_int (fun _ _ => rfl)) (pe_lst (pa_cons (pv 3) pa_nil))) (pa_cons (pe_ix ix_tup (pv 2) pe_int (fun _ _ => rfl)) pa_nil))) (nomark _)) (pe_one (pe_cmpR (op_eqD hr.units) (pe_ix ix_tup (pv 4) pe_int (fun _ _ => rfl)) (pe_do Gwaited_for (hr.mono (by decide)) (pa_cons (pv 1) (pa_cons (pe_ix ix_tup (pv 3) pe_int (fun _ _ => rfl)) pa_nil))) (nomark _))))))
        pss_nil)
      (pss_cons (ps_if (PW.pt (pw_or (pt_cmpR op_ne (pe_ix ix_tup (pv 4) pe_int (fun _ _ => rfl)) pe_str (nomark _)) (pw_or1 (pt_not (pt_val (pe_do G_law_holds (hr.mono (by decide)) (pa_cons (pv 5) (pa_cons (pv 3) pa_nil))))))))
        (pss_one (ps_ret pe_bl))
        pss_nil)
      (pss_one (ps_ret (pe_and (pe_do G_law_let (hr.mono (by decide)) (pa_cons (pv 2) (pa_cons (pv 5) (pa_cons (pe_ix ix_tup (pv 4) pe_int (fun _ _ => rfl)) pa_nil)))) (pe_one (pe_do G_law_others_stay (hr.mono (by decide)) (pa_cons (pv 0) (pa_cons (pv 2) (pa_cons (pv 5) (pa_cons (pe_op op_cat (pe_lst (pa_cons (pe_ix ix_tup (pv 3) pe_int (fun _ _ => rfl)) pa_nil)) (pe_ix ix_tup (pv 4) pe_int (fun _ _ => rfl))) pa_nil)))))))))))))), ?_⟩
    refine ⟨_, rfl, _, rfl, p, d, wl, b, S, x, rfl, hb, Lk, W, hx, tb, ?_⟩
    have N := Nm.of W l1 l2 l3
    obtain ⟨ta, wa, da, wsa, kva, rfl, a1, a2, a3, a4, a5, m1, m2, m3⟩ := AA.ex
    refine takeK_mk Y.ne (fun r H1 F1 hw => ?_) ?_ ?_
    · refine ⟨_, rfl, _, rfl, p, d, wl, m, h, n, q, S, rfl, Lk.fm F1, N, F1.tb tb, M.fm F1 (by simp), O, fun H2 v L2 F2 A2 _ => ?_⟩
      refine ⟨_, rfl, (by show 2 ≤ sizeLine; decide), fun tw htw => ⟨.str (strD r), _, .str _, .tup (SqT.of upd_same) (.cons (.str _) (.cons (.str _) .nil)), shaped_word r, shaped_words, _, rfl, ?_⟩⟩
      rw [word_in]
      refine iteT ?_
      have F3 : Fm K [] H2 (upd H2 tw (.tup [.str "ring", .str "waiting"])) := Fm.new htw
      have A3 := A2.fm0 F3
      have FH3 := (F1.trans F2).trans F3
      have AH3 := AA.fm0 FH3
      generalize upd H2 tw (.tup [.str "ring", .str "waiting"]) = H3 at F3 A3 FH3 AH3
      obtain ⟨tb', wb, db, wsb, kvb, rfl, b1, b2, b3, b4, b5, _⟩ := A3.ex
      have a13 := FH3.at (by simp) a1 noT_tup
      have a23 := FH3.at (by simp) a2 noT_lst
      have a33 := WishesV.tk FH3.tup a3
      have a43 := FH3.at (by simp) a4 noT_dK
      have a53 : Paired (HeldV H3 S L) kva ns := Paired.mapP a5 fun kv f ⟨c1, c, ys, c2, c3, c4, c5⟩ => ⟨c1, c, ys, c2, c3, FH3.at (by simp) c4 noT_lst, RowsV.tk FH3.tup c5⟩
      have hb3 := FH3.at (by simp) hb noT_tup
      refine ⟨_, rfl, _, rfl, tb', ta, db, da, _, _, rfl, rfl, b1, a13, wishes_deq b2 b3 a23 a33, .inr ⟨_, _, b4, a43, dict_eq b5 a53 fun _ _ => rfl⟩, _, rfl, iteT ?_⟩
      refine ⟨_, rfl, rfl, _, rfl, b, _, _, _, rfl, rfl, SqT.of hb3, wish0, _, rfl, ta, _, _, .ref wa, rfl, rfl, SqT.of a13, rfl, wa, rfl, ⟨_, SqL.of a23⟩, fun D hD => lc_run (K := K) hD a23 (fun i acc _ => acc = (S.wished.take i).map fun v => V.int v.hd) rfl ?_ ?_⟩
      · rintro i y Hx acc hy Fx hDx rfl
        obtain ⟨v, hv, c, rfl, hc⟩ := Paired.at a33 hy
        have ncD : c ≠ D := ne_of_none hc hD
        have hcx : Hx c = some (.tup v.vs) := Fx.at (by simpa using ncD) (by rw [upd_ne ncD]; exact hc) noT_tup
        refine ⟨rfl, _, rfl, c, _, _, _, rfl, rfl, SqT.of hcx, wish0, lc_put Fx hDx ?_ ?_⟩
        · rw [List.length_map]
          exact small_lt (Nat.le_trans (List.length_take_le' _ _) (Nat.le_trans N.wl (by decide)))
        · rw [take_next hv, List.map_append]
          rfl
      · rintro H4 acc F4 fD hD4 rfl
        rw [paired_len a33, List.take_length] at hD4
        have hD4' : H4 D = some (.lst ((S.wished.map (·.hd)).map V.int)) := by rw [hD4, List.map_map]; rfl
        refine ⟨D, _, rfl, .inl (SqL.of hD4'), rfl, flat_ints _, rfl, ?_⟩
        have e1 : decide ((V.bl (decide ((V.str (strD r)) = V.str "waiting"))) = V.bl (if false = true then !inV (.int x.hd) ((S.wished.map (·.hd)).map V.int) else inV (.int x.hd) ((S.wished.map (·.hd)).map V.int))) = true := by
          rw [if_neg Bool.false_ne_true, inV_ints, hw]
          cases r <;> decide +kernel
        rw [e1]
        have FH4 := FH3.trans F4
        exact k H4 S wl (Mv.fm0 Lk FH4) (Lk.fm FH4) W Rk Bl FH4.tb
    · intro H1 t r S' told hn e0 M1 Lk1 LI B1 tb1 ft ht fr hr of
      have W0 := W.put hx e0
      have LO := LI.ok W0
      have N' := Nm.of LO.wf l1 l2 l3
      have no1 : ∀ c ∈ [p, d, wl], c ∉ L := fun c hc z => by
        have := off c (List.mem_append_right _ z)
        simp at hc
        rcases hc with rfl | rfl | rfl
        · exact this.1 rfl
        · exact this.2.1 rfl
        · exact this.2.2.1 rfl
      have no2 : ∀ c ∈ [m, h, n, q], c ∉ [p, d, wl] := fun c hc => by
        have := off c (List.mem_append_left _ hc)
        simp
        exact ⟨this.1, this.2.1, this.2.2.1⟩
      have tk1 : Tk H H1 := M1.fm.tk Lk.ms
      have M1' := M.fm M1.fm no2
      have AA1 := AA.fm M1.fm tk1 no1
      have hb1 := tk1 _ _ hb
      refine ⟨_, rfl, _, rfl, p, d, wl, m, h, n, q, S', rfl, Lk1, N', tb1 tb, M1', O, fun H2 v L2 F2 A2 _ => ?_⟩
      refine ⟨_, rfl, (by show 2 ≤ sizeLine; decide), fun tw htw => ?_⟩
      have F3 : Fm K [] H1 (upd H2 tw (.tup [.str "ring", .str "waiting"])) := F2.trans (Fm.new htw)
      have A3 := A2.fm0 (Fm.new (o := .tup [.str "ring", .str "waiting"]) htw : Fm K [] H2 _)
      have htw3 : (upd H2 tw (.tup [.str "ring", .str "waiting"])) tw = some (.tup [.str "ring", .str "waiting"]) := upd_same
      generalize upd H2 tw (.tup [.str "ring", .str "waiting"]) = H3 at F3 A3 htw3
      have ht3 := F3.at (by simp) ht noT_tup
      have hr3 := F3.at (by simp) hr noT_lst
      have hb3 := F3.at (by simp) hb1 noT_tup
      have AA3 := AA1.fm0 F3
      have M3 := M1'.fm F3 (by simp)
      refine ⟨.tuple [.str (if true then "held" else "waits"), .list (told.map PyData.int)], _, .tup (SqT.of ht3) (.cons (.str _) (.cons (.lst (SqL.of hr3) (ints_dp _)) .nil)), .tup (SqT.of htw3) (.cons (.str _) (.cons (.str _) .nil)), shaped_told true told, shaped_words, _, rfl, ?_⟩
      rw [told_not]
      refine iteF ?_
      have ne1 : decide ((V.str "held") = V.str "waits") = false := by decide +kernel
      refine ⟨_, rfl, t, _, _, .str "held", rfl, rfl, SqT.of ht3, rfl, rfl, _, rfl, ?_⟩
      rw [ne1]
      refine iteF ?_
      have ne2 : (!decide ((V.str "held") = V.str "held")) = false := by simp
      refine ⟨_, rfl, t, _, _, .str "held", rfl, rfl, SqT.of ht3, rfl, rfl, _, rfl, ?_⟩
      rw [ne2]
      refine iteF ?_
      have xnt : x.hd ∉ told := fun z => by
        obtain ⟨v, hv, e⟩ := told_in LO z
        exact hn v hv e
      have hheld : HeldL S' x := heldL_of LO.wf (LO.held x xnt (Held.put_self W hx.2.2.2.2 e0))
      refine ⟨_, rfl, _, rfl, v, .ref b, S', L2, x, rfl, A3, ⟨b, rfl, hb3⟩, hx.2.1, hheld, _, rfl, iteF ?_⟩
      have lf : LetF ns S S' told := let_of W (S0 := S.put x) (fun _ h => h) LO
      have st : StayF ns S S' (x.hd :: told) := stay_of W LO (fun k hk f s p => put_cov_other W hx.2.2.2.2 e0 hk f s p) rfl
      refine ⟨_, rfl, _, rfl, _, rfl, t, _, _, .ref r, rfl, rfl, SqT.of ht3, rfl, .ref ta, v, r, S, S', L, L2, told, rfl, AA3, A3, hr3, LO.tnd, told_len W0 l1 LO, Nat.le_trans N.wl (by decide), W.wnd, lf, fun H4 F4 => ⟨_, rfl, iteT ?_⟩⟩
      have hb4 := F4.at (by simp) hb3 noT_tup
      have ht4 := F4.at (by simp) ht3 noT_tup
      have hr4 := F4.at (by simp) hr3 noT_lst
      refine ⟨_, rfl, _, rfl, _, rfl, _, rfl, b, _, _, _, rfl, rfl, SqT.of hb4, wish0, (by show 1 ≤ sizeLine; decide), fun q1 hq1 => ⟨_, rfl, t, _, _, .ref r, rfl, rfl, SqT.of ((tk_new hq1) _ _ ht4), rfl, q1, r, _, _, rfl, rfl, upd_same, (by rw [upd_ne (ne_of_none hr4 hq1)]; exact hr4), ?_, fun q2 hq2 => ?_⟩⟩
      · rw [List.length_map]
        have := told_len W0 l1 LO
        exact small_line (by show 1 + told.length ≤ 100000; omega)
      · have F5 : Fm K [] H4 (upd (upd H4 q1 (.lst [.int x.hd])) q2 (.lst ([.int x.hd] ++ told.map V.int))) := (Fm.new hq1).trans (Fm.new hq2)
        have F15 := (F3.trans F4).trans F5
        refine ⟨m, h, n, q, q2, .ref ta, v, S, S', L, L2, x.hd :: told, rfl, M1'.fm F15 (by simp), AA1.fm0 F15, A3.fm0 (F4.trans F5), upd_same, N, N', st.1, st.2, fun H6 F6 => ?_⟩
        have F16 := F15.trans F6
        exact k H6 S' wl (M1.trans (Mv.fm0 Lk1 F16)) (Lk1.fm F16) LO.wf (LO.rk (Rk.put W hx.2.2.2.2 e0 hn)) B1 (fun t => F16.tb (tb1 t))
    · intro H1 t r R hn e0 NR M1 Lk1 tb1 ft ht fr hr of
      have W' := W.wish hx hn
      have N' := Nm.of W' l1 l2 l3
      have no1 : ∀ c ∈ [p, d, wl], c ∉ L := fun c hc z => by
        have := off c (List.mem_append_right _ z)
        simp at hc
        rcases hc with rfl | rfl | rfl
        · exact this.1 rfl
        · exact this.2.1 rfl
        · exact this.2.2.1 rfl
      have no2 : ∀ c ∈ [m, h, n, q], c ∉ [p, d, wl] := fun c hc => by
        have := off c (List.mem_append_left _ hc)
        simp
        exact ⟨this.1, this.2.1, this.2.2.1⟩
      have tk1 : Tk H H1 := M1.fm.tk Lk.ms
      have M1' := M.fm M1.fm no2
      have AA1 := AA.fm M1.fm tk1 no1
      have hb1 := tk1 _ _ hb
      refine ⟨_, rfl, _, rfl, p, d, wl, m, h, n, q, _, rfl, Lk1, N', tb1 tb, M1', O, fun H2 v L2 F2 A2 _ => ?_⟩
      refine ⟨_, rfl, (by show 2 ≤ sizeLine; decide), fun tw htw => ?_⟩
      have F3 : Fm K [] H1 (upd H2 tw (.tup [.str "ring", .str "waiting"])) := F2.trans (Fm.new htw)
      have A3 := A2.fm0 (Fm.new (o := .tup [.str "ring", .str "waiting"]) htw : Fm K [] H2 _)
      have htw3 : (upd H2 tw (.tup [.str "ring", .str "waiting"])) tw = some (.tup [.str "ring", .str "waiting"]) := upd_same
      generalize upd H2 tw (.tup [.str "ring", .str "waiting"]) = H3 at F3 A3 htw3
      have ht3 := F3.at (by simp) ht noT_tup
      have hr3 := F3.at (by simp) hr noT_lst
      have hb3 := F3.at (by simp) hb1 noT_tup
      have AA3 := AA1.fm0 F3
      refine ⟨.tuple [.str (if false then "held" else "waits"), .list ((S.hold x).map PyData.int)], _, .tup (SqT.of ht3) (.cons (.str _) (.cons (.lst (SqL.of hr3) (ints_dp _)) .nil)), .tup (SqT.of htw3) (.cons (.str _) (.cons (.str _) .nil)), shaped_told false _, shaped_words, _, rfl, ?_⟩
      rw [told_not]
      refine iteF ?_
      have e1 : decide ((V.str "waits") = V.str "waits") = true := by simp
      refine ⟨_, rfl, t, _, _, .str "waits", rfl, rfl, SqT.of ht3, rfl, rfl, _, rfl, ?_⟩
      rw [e1]
      refine iteT ?_
      obtain ⟨ta', wa', da', wsa', kva', ee, c1, c2, c3, c4, c5, _⟩ := AA3.ex
      cases ee
      obtain ⟨tb', wb, db, wsb, kvb, rfl, b1, b2, b3, b4, b5, _⟩ := A3.ex
      refine ⟨_, rfl, _, rfl, ta, _, _, .ref wa', rfl, rfl, SqT.of c1, rfl, _, rfl, (by show 1 ≤ sizeLine; decide), fun q1 hq1 => ?_⟩
      have wl' : wsa'.length ≤ 20 := by rw [paired_len c3]; exact N.wl
      refine ⟨wa', q1, _, _, rfl, rfl, (by rw [upd_ne (ne_of_none c2 hq1)]; exact c2), upd_same, small_line (by show wsa'.length + 1 ≤ 100000; omega), fun q2 hq2 => ?_⟩
      have F4 : Fm K [] H3 (upd (upd H3 q1 (.lst [.ref b])) q2 (.lst (wsa' ++ [.ref b]))) := (Fm.new hq1).trans (Fm.new hq2)
      have hq4 : (upd (upd H3 q1 (.lst [.ref b])) q2 (.lst (wsa' ++ [.ref b]))) q2 = some (.lst (wsa' ++ [.ref b])) := upd_same
      generalize upd (upd H3 q1 (.lst [.ref b])) q2 (.lst (wsa' ++ [.ref b])) = H4 at F4 hq4
      refine ⟨_, rfl, ta, _, _, .ref da', rfl, rfl, SqT.of (F4.at (by simp) c1 noT_tup), rfl, (by show 2 ≤ sizeLine; decide), fun q3 hq3 => ?_⟩
      have F5 : Fm K [] H3 (upd H4 q3 (.tup [.ref q2, .ref da'])) := F4.trans (Fm.new hq3)
      have hq5 : (upd H4 q3 (.tup [.ref q2, .ref da'])) q2 = some (.lst (wsa' ++ [.ref b])) := by rw [upd_ne (ne_of_none hq4 hq3)]; exact hq4
      have hq6 : (upd H4 q3 (.tup [.ref q2, .ref da'])) q3 = some (.tup [.ref q2, .ref da']) := upd_same
      generalize upd H4 q3 (.tup [.ref q2, .ref da']) = H5 at F5 hq5 hq6
      have hW5 : WishesV H5 (wsa' ++ [.ref b]) (S.wished ++ [x]) := Paired.app (WishesV.tk F5.tup c3) (.cons ⟨b, rfl, F5.at (by simp) hb3 noT_tup⟩ .nil)
      have b55 : Paired (HeldV H5 (S.wish x) L2) kvb ns := Paired.mapP b5 fun kv f ⟨d1, c, ys, d2, d3, d4, d5⟩ => ⟨d1, c, ys, d2, d3, F5.at (by simp) d4 noT_lst, RowsV.tk F5.tup d5⟩
      have c55 : Paired (HeldV H5 S L) kva' ns := Paired.mapP c5 fun kv f ⟨d1, c, ys, d2, d3, d4, d5⟩ => ⟨d1, c, ys, d2, d3, F5.at (by simp) d4 noT_lst, RowsV.tk F5.tup d5⟩
      refine ⟨tb', q3, db, da', _, _, rfl, rfl, F5.at (by simp) b1 noT_tup, hq6, wishes_deq (F5.at (by simp) b2 noT_lst) (WishesV.tk F5.tup b3) hq5 hW5, .inr ⟨_, _, F5.at (by simp) b4 noT_dK, F5.at (by simp) c4 noT_dK, dict_eq b55 c55 fun _ _ => rfl⟩, _, rfl, iteT ?_⟩
      have F35 := F3.trans F5
      refine ⟨_, rfl, t, _, _, .ref r, rfl, rfl, SqT.of (F35.at (by simp) ht noT_tup), rfl, _, rfl, _, rfl, b, _, _, _, rfl, rfl, SqT.of (F35.at (by simp) hb1 noT_tup), wish0, p, d, wl, _, x.hd, rfl, Lk1.fm F35, N', fun H6 g F6 fg hg => ?_⟩
      have F36 := F35.trans F6
      refine ⟨_, _, .lst (SqL.of (F36.at (by simp) hr noT_lst)) (ints_dp _), .lst (SqL.of hg) (ints_dp _), shaped_ints _, shaped_ints _, ?_⟩
      have ew : PyData.eqv (.list ((S.hold x).map PyData.int)) (.list (((S.wish x).waits x.hd).map PyData.int)) = true := by
        rw [waits_wish W'.wnd, eqv_maps eqv_int]
        exact decide_eq_true rfl
      rw [ew]
      exact k H6 (S.wish x) wl (M1.trans (Mv.fm0 Lk1 F36)) (Lk1.fm F36) W' (Rk.wish W NR hn) (blocked_wish Bl e0) (fun t => F36.tb (tb1 t))
end
end FS
/-! F29 -/
namespace FS
open PySem PySem.Spec PyProof.Rows L2
theorem Off.keep {H H1 : Hp} {p d wl b : Addr} (o : Off H p d wl b) (hd : ∃ kvs, H d = some (.dK kvs) ∧ H1 d = some (.dK kvs)) : Off H1 p d wl b := by
  obtain ⟨kvs, e1, e2⟩ := hd
  refine ⟨o.1, o.2.1, o.2.2.1, fun ⟨ks, k, e, m⟩ => o.2.2.2 ⟨ks, k, ?_, m⟩⟩
  rw [e2] at e
  cases e
  exact e1
section
variable {P : Program} {w : World} {K : PySem.W.Frag} {mg : Str → Option Value} {base : Heap} {hs ns ps : List Int}
def spL_deed_right (K : PySem.W.Frag) (hs ns ps : List Int) : Sp := fun vs H Q _ => ∃ (m h n q p d wl a : Addr) (va : V) (S : LS) (L : List Addr), vs = [.ref m, .ref p, va, .ref a] ∧ MAt H m h n q hs ns ps ∧ MOk hs ns ps ∧ LkAt K H p d wl S ∧ WF hs ns ps S ∧ Ranked S ∧ Blocked S ∧ Tb K H ∧ AllAt H va S ns L ∧ LfAt H a ∧ (∀ b ∈ [m, h, n, q] ++ L, b ≠ a) ∧
  (∀ c ∈ [m, h, n, q] ++ L, Off H p d wl c) ∧ Off H p d wl a ∧ ∀ H' S' wl', Fm K [p, d, wl, a] H H' → (wl' = wl ∨ Fresh H wl') → Ow d H H' → (∀ z, Fresh H' z → Fresh H z) → LkAt K H' p d wl' S' → WF hs ns ps S' → Ranked S' → Blocked S' → (Tb K H → Tb K H') → LfAt H' a → Q (.bl true) H'
theorem scL_deed_right : FnScope ["_law_m", "_law_locks", "_law_ahead", "_law_left_here", "_law_wish", "_law_way", "_law_hands", "_law_after", "_law_there", "_law_one", "_law_name", "_law_row"] ["_law_m", "_law_locks", "_law_ahead", "_law_left_here"] (defScope sL_deed_right) := ⟨rfl, rfl, rfl, by decide +kernel, rfl, by decide +kernel, by decide +kernel⟩
abbrev nDR : List Str := ["_law_m", "_law_locks", "_law_ahead", "_law_left_here", "_law_wish", "_law_way", "_law_hands", "_law_after", "_law_there", "_law_one", "_law_name", "_law_row"]
theorem ok_L_deed_right (T : Txt K mg) (X : Tx K mg) (Y : Ty K mg) (TB : LamX.TabB base mg (He.cT K pLong).1 (He.cT K pLong).2) (l1 : hs.length ≤ 10) (l2 : ns.length ≤ 8) (l3 : ps.length ≤ 13) : Ok P w K mg base 9 "_law_deed_right" ["_law_m", "_law_locks", "_law_ahead", "_law_left_here"] (spL_deed_right K hs ns ps) := by
  have G_law_all : Ok P w K mg base 5 "_law_all" _ _ := ok_L_all (hs := hs) (ns := ns) (ps := ps) T TB
  have G_law_let : Ok P w K mg base 2 "_law_let" _ _ := ok_L_let (ns := ns) T
  have G_law_others_stay : Ok P w K mg base 1 "_law_others_stay" _ _ := ok_L_others_stay (hs := hs) (ns := ns) (ps := ps) T
  have G_law_pick : Ok P w K mg base 1 "_law_pick" _ _ := ok_L_pick T
  have G_law_stretch : Ok P w K mg base 2 "_law_stretch" _ _ := ok_L_stretch (hs := hs) (ns := ns) (ps := ps) T
  have G_law_taken_right : Ok P w K mg base 8 "_law_taken_right" _ _ := ok_L_taken_right (hs := hs) (ns := ns) (ps := ps) T X Y TB l1 l2 l3
  have G_law_told_by : Ok P w K mg base 1 "_law_told_by" _ _ := ok_L_told_by (hs := hs) (ns := ns) (ps := ps) T
  obtain ⟨fdF, FF, bF, mF⟩ := ok_free (P := P) (w := w) (base := base) (hs := hs) (ns := ns) (ps := ps) T TB l1 l2 l3
  obtain ⟨fdL, FL, bL, mL⟩ := ok_leave (P := P) (w := w) (base := base) (hs := hs) (ns := ns) (ps := ps) T TB l1 l2 l3
  refine T.dL_deed_right.ok scL_deed_right (fun _ _ _ _ _ _ us hl => match us, hl with | [_, _, _, _], _ => rfl) (fun vs H Q E h => ?_) (fun f cdv A outer s H vs Q E hr h => ?_)
  · obtain ⟨m, h, n, q, p, d, wl, a, va, S, L, rfl, _⟩ := h
    rfl
  · obtain ⟨m, h, n, q, p, d, wl, a, va, S, L, rfl, M, O, Lk, W, Rk, Bl, tb, AA, La, na, off, offa, k⟩ := h
    have hu := hu_of hr
    refine ⟨_, (pss_cons (ps_set (i := 4) scL_deed_right.nd rfl (Or.inl rfl) (pe_do G_law_told_by (hr.mono (by decide)) (pa_cons (pv 0) (pa_cons (pe_do G_law_stretch (hr.mono (by decide)) (pa_cons (pv 0) (pa_cons (pv 3) pa_nil))) pa_nil))))
      (pss_cons (ps_set (i := 5) scL_deed_right.nd rfl (Or.inl rfl) (pe_do G_law_pick (hr.mono (by decide)) (pa_cons (pv 3) (pa_cons pe_int pa_nil))))
      (pss_cons (ps_if (pt_cmpR op_gt (pv 5) pe_int (nomark _))
        (pss_one (ps_ret (pe_do G_law_taken_right (hr.mono (by decide)) (pa_cons (pv 0) (pa_cons (pv 1) (pa_cons (pv 2) (pa_cons (pv 4) pa_nil)))))))
        pss_nil)
      (Evl.pss_cut (ps_if (pt_cmpR op_eq (pv 5) pe_int (nomark _))
        (pss_one (ps_set (i := 6) scL_deed_right.nd rfl (Or.inl rfl) (pe_meth (pv 1) T.cl mF FF (hr.mono (by decide)) bF .nil pass0 (pa_cons (pe_ix ix_tup (pv 4) pe_int (fun _ _ => rfl)) (pa_cons (pe_ix ix_tup (pv 4) pe_int (fun _ _ => rfl)) (pa_cons (pe_ix ix_tup (pv 4) pe_int (fun _ _ => rfl)) (pa_cons (pe_ix ix_tup (pv 4) pe_int (fun _ _ => rfl)) pa_nil)))))))
        (pss_one (ps_set (i := 6) scL_deed_right.nd rfl (Or.inl rfl) (pe_meth (pv 1) T.cl mL FL (hr.mono (by decide)) bL .nil pass0 (pa_cons (pe_ix ix_tup (pv 4) pe_int (fun _ _ => rfl)) pa_nil)))))
      (pss_cons (ps_set (i := 7) scL_deed_right.nd rfl (Or.inl rfl) (pe_do G_law_all (hr.mono (by decide)) (pa_cons (pv 1) (pa_cons (pv 0) pa_nil))))
      (Evl.pss_cut (ps_if (pt_cmpR op_eq (pv 5) pe_int (nomark _))
        (pss_cons (ps_setLc (i := 8) (own := [("_law_one", 9)]) (g := gName 9) (tt := tYes) (te := tOp (rIxT K) (tVar 9) (tC (.int 0))) rfl scL_deed_right.nd rfl rfl (sw_true rfl rfl rfl (by decide +kernel)) (pi_list (pe_ix ix_tup (pv 7) pe_int (fun _ _ => rfl))) (blkOk_by (own := [("_law_one", 9)]) (N := nDR) (sc := defScope sL_deed_right) (by decide +kernel)) (fun _ _ _ _ _ => (pg_name (i := 9) scL_deed_right.nd rfl (Or.inl rfl))) (fun _ _ _ _ _ => pts_nil) (fun _ _ _ _ _ => (pe_ix ix_tup (pv 9) pe_int (fun _ _ => rfl))))
        (pss_cons (ps_for PassesOwn.never rfl (pi_list (pe_dget hu (pv 0) pe_str (fun _ _ => rfl))) (pg_name (i := 10) scL_deed_right.nd rfl (Or.inl rfl))
          (pss_one (ps_expr (pe_bm PySem.F.plainAttrs_list PySem.F.slot_list_extend PySem.F.type_list_extend mt_extend (pv 8) (pa_cons (pe_lc (own := [("_law_row", 11)]) (g := gName 11) (tt := tYes) (te := tOp (rIxT K) (tVar 11) (tC (.int 3))) rfl scL_deed_right.nd (pi_list (pe_dget hu (pe_ix ix_tup (pv 7) pe_int (fun _ _ => rfl)) (pv 10) (fun _ _ => rfl))) (blkOk_by (own := [("_law_row", 11)]) (N := nDR) (sc := defScope sL_deed_right) (by decide +kernel)) (fun _ _ _ _ _ => (pg_name (i := 11) scL_deed_right.nd rfl (Or.inl rfl))) (fun _ _ _ _ _ => pts_nil) (fun _ _ _ _ _ => (pe_ix ix_tup (pv 11) pe_int (fun _ _ => rfl)))) pa_nil)))))
        (pss_one (ps_if (pt_cmpR op_in_seq (pe_ix ix_tup (pv 4) pe_int (fun _ _ => rfl)) (pv 8) (by rfl))
          (pss_one (ps_ret pe_bl))
          pss_nil))))
        pss_nil)
      (pss_one (ps_ret (pe_and (pe_do G_law_let (hr.mono (by decide)) (pa_cons (pv 2) (pa_cons (pv 7) (pa_cons (pv 6) pa_nil)))) (pe_one (pe_do G_law_others_stay (hr.mono (by decide)) (pa_cons (pv 0) (pa_cons (pv 2) (pa_cons (pv 7) (pa_cons (pe_op op_cat (pe_lst (pa_cons (pe_ix ix_tup (pv 4) pe_int (fun _ _ => rfl)) pa_nil)) (pv 6)) pa_nil))))))))))))))), ?_⟩
    have N := Nm.of W l1 l2 l3
    have na4 : ∀ b ∈ [m, h, n, q], b ≠ a := fun b hb => na b (List.mem_append_left _ hb)
    have naL : ∀ b ∈ L, b ≠ a := fun b hb => na b (List.mem_append_right _ hb)
    obtain ⟨kvs0, hd0⟩ := Lk.hd
    -- what stays while only what is left is written
    have wrt : ∀ {H1 : Hp}, Fm K [a] H H1 → LfAt H1 a → LkAt K H1 p d wl S ∧ Tk H H1 ∧ MAt H1 m h n q hs ns ps ∧ AllAt H1 va S ns L ∧ (∀ b, Off H p d wl b → Off H1 p d wl b) ∧ ∀ z, Fresh H1 z → Fresh H z := fun {H1} F L1 => by
      obtain ⟨xs, hxs, _⟩ := id La
      have tk : Tk H H1 := F.tk fun b hb => by
        rw [List.mem_singleton] at hb
        exact ⟨_, by rw [hb]; exact hxs, rfl⟩
      refine ⟨Lk.off2 F fun b hb => ?_, tk, M.fm F (by simpa using na4), AA.fm F tk (fun b hb z => ?_), fun b o => o.keep ⟨kvs0, hd0, F.at (by simpa using offa.2.1.symm) hd0 noT_dK⟩, fun z => F.fresh2 fun b hb => ?_⟩
      · rw [List.mem_singleton] at hb
        rw [hb]
        exact ⟨⟨_, hxs, rfl⟩, offa⟩
      · rw [List.mem_singleton] at hb
        rw [hb] at z
        exact naL a z rfl
      · rw [List.mem_singleton] at hb
        obtain ⟨ys, hys, _⟩ := L1
        rw [hb]
        exact nf hys noT_lst
    have fin : ∀ {H3 H' : Hp} {S' : LS} {wl' : Addr}, Fm K [a] H H3 → LfAt H3 a → Mv K p d wl wl' H3 H' → LkAt K H' p d wl' S' → WF hs ns ps S' → Ranked S' → Blocked S' → (Tb K H3 → Tb K H') → Q (.bl true) H' := fun {H3 H' S' wl'} F3 L3 Mv' Lk' W' R' B' t' => by
      obtain ⟨_, _, _, _, of3, fr3⟩ := wrt F3 L3
      obtain ⟨ys, hys, yne⟩ := id L3
      obtain ⟨_, hys'⟩ := (of3 a offa).mv Mv' hys noT_lst
      refine k H' S' wl' ((F3.mono (by simp)).trans (Mv'.fm.mono (by simp))) (Mv'.wl.imp id fun f => fr3 _ f) (Ow.trans (Ow.fm F3 ⟨kvs0, hd0⟩ (by simpa using offa.2.1.symm)) Mv'.ow fr3) (fun z hz => fr3 z (Mv'.fr z hz)) Lk' W' R' B' (fun t => t' (F3.tb t)) ⟨ys, hys', yne⟩
    refine ⟨_, rfl, _, rfl, _, rfl, m, h, n, q, a, rfl, M, O, La, na4, fun H1 t hd fl wr i j F1 L1 hdm flm hij hj ht => ?_⟩
    obtain ⟨_, _, M1, _, _, _⟩ := wrt F1 L1
    refine ⟨m, h, n, q, t, hd, fl, wr, i, j, rfl, M1, O, hdm, flm, hij, hj, ht, fun H2 b x F2 hb hx => ?_⟩
    obtain ⟨xs, hxs, xne⟩ := L1.fm F2 (by simp)
    refine ⟨_, rfl, a, xs, 7, rfl, hxs, xne, by decide, by decide, fun H3 wy ys F3 hy yne w0 w1 => ?_⟩
    have F13 : Fm K [a] H H3 := (F1.trans F2.nil).trans F3
    have L3 : LfAt H3 a := ⟨ys, hy, yne⟩
    have hba : b ≠ a := ne_of hb hxs (by intro z; cases z)
    have hb3 := F3.at (by simpa using hba) hb noT_tup
    obtain ⟨Lk3, tk3, M3, AA3, of3, fr3⟩ := wrt F13 L3
    have tb3 := F13.tb tb
    have off3 : ∀ c ∈ [m, h, n, q] ++ L, Off H3 p d wl c := fun c hc => of3 c (off c hc)
    refine ⟨_, rfl, _, _, rfl, rfl, _, rfl, ite2 (fun c1 => ?_) (fun c1 => ?_)⟩
    · exact ⟨_, rfl, _, rfl, _, rfl, _, rfl, m, h, n, q, p, d, wl, b, va, S, L, x, rfl, M3, O, Lk3, W, Rk, Bl, tb3, AA3, hb3, hx, off3, fun H' S' wl' Mv' Lk' W' R' B' t' => fin F13 L3 Mv' Lk' W' R' B' t'⟩
    · obtain ⟨ta, wa, da, wsa, kva, rfl, a1, a2, a3, a4, a5, _⟩ := AA3.ex
      refine ⟨fun σ H' => ∃ (r wl' : Addr) (S0 S' : LS) (told : List Int), σ = [some (.ref m), some (.ref p), some (.ref ta), some (.ref a), some (.ref b), some (.int wy), some (.ref r), none, none, none, none, none] ∧ Mv K p d wl wl' H3 H' ∧ LkAt K H' p d wl' S' ∧ WF hs ns ps S0 ∧ Ranked S0 ∧ (∀ v ∈ S0.wished, v ∈ S.wished) ∧ (∀ k, k ≠ x.hd → ∀ f s p, Cov (getP S0.pieces f) k s p ↔ Cov (getP S.pieces f) k s p) ∧
        (∀ told : List Int, S0.wished.filter (fun r => !decide (r.hd ∈ x.hd :: told)) = S.wished.filter fun r => !decide (r.hd ∈ x.hd :: told)) ∧ (wy = 1 → S0 = S.leave x.hd) ∧ LetOk hs ns ps S0 S' told ∧ Blocked S' ∧ (Tb K H3 → Tb K H') ∧ H' r = some (.lst (told.map V.int)), ?_, ?_⟩
      · obtain ⟨⟨dx, p1⟩, _⟩ := id Lk3
        have fl1 : (flds d wl).lookup ("free" : Str) = none := flds_no d wl (by decide +kernel) (by decide +kernel)
        have fl2 : (flds d wl).lookup ("leave" : Str) = none := flds_no d wl (by decide +kernel) (by decide +kernel)
        refine ⟨_, rfl, rfl, _, rfl, ite2 (fun c2 => ?_) (fun c2 => ?_)⟩
        · have W0 := W.free (h := x.hd) hx.2.1 hx.2.2.1 hx.2.2.2.1 hx.2.2.2.2
          refine ⟨_, rfl, p, dx, _, rfl, p1, fl1, _, rfl, b, _, _, _, rfl, rfl, SqT.of hb3, wish0, _, rfl, b, _, _, _, rfl, rfl, SqT.of hb3, wish1, _, rfl, b, _, _, _, rfl, rfl, SqT.of hb3, wish3, _, rfl, b, _, _, _, rfl, rfl, SqT.of hb3, wish4, p, d, wl, S, x.hd, x.fl, x.lo, x.hi, rfl, Lk3, W, hx.2.1, hx.2.2.1, hx.2.2.2.1, hx.2.2.2.2, tb3, fun H' r S' told wl' Mv' Lk' LI B' fr hr' t' of' => ?_⟩
          refine ⟨r, wl', S.free x.hd x.fl x.lo x.hi, S', told, rfl, Mv', Lk', W0, Rk.free hx.2.2.2.2, fun _ h => h, fun k hk f s p => free_cov_other hx.2.2.2.2 hk, fun _ => rfl, fun e => ?_, LI.ok W0, B', t', hr'⟩
          simp [e] at c2
        · have W0 := W.leave (h := x.hd)
          refine ⟨_, rfl, p, dx, _, rfl, p1, fl2, _, rfl, b, _, _, _, rfl, rfl, SqT.of hb3, wish0, p, d, wl, S, x.hd, rfl, Lk3, W, tb3, fun H' r S' told wl' Mv' Lk' LI B' fr hr' t' of' => ?_⟩
          refine ⟨r, wl', S.leave x.hd, S', told, rfl, Mv', Lk', W0, Rk.leave, fun v hv => (List.mem_filter.mp hv).1, fun k hk f s p => by rw [leave_cov]; exact ⟨fun z => z.1, fun z => ⟨z, hk⟩⟩, fun tl => ?_, fun _ => rfl, LI.ok W0, B', t', hr'⟩
          show (S.wished.filter fun w => !decide (w.hd = x.hd)).filter (fun r => !decide (r.hd ∈ x.hd :: tl)) = _
          rw [List.filter_filter]
          refine List.filter_congr fun v _ => ?_
          by_cases z : v.hd = x.hd <;> simp [z]
      · rintro σ H4 ⟨r, wl', S0, S', told, rfl, Mv4, Lk4, W0, Rk0, sub0, cov0, wi0, lv0, LO, B4, t4, hr4⟩
        have N' := Nm.of LO.wf l1 l2 l3
        have no2 : ∀ c ∈ [m, h, n, q], c ∉ [p, d, wl] := fun c hc => by
          have := off3 c (List.mem_append_left _ hc)
          simp
          exact ⟨this.1, this.2.1, this.2.2.1⟩
        have no1 : ∀ c ∈ [p, d, wl], c ∉ L := fun c hc z => by
          have := off3 c (List.mem_append_right _ z)
          simp at hc
          rcases hc with rfl | rfl | rfl
          · exact this.1 rfl
          · exact this.2.1 rfl
          · exact this.2.2.1 rfl
        have tk4 : Tk H3 H4 := Mv4.fm.tk Lk3.ms
        have M4 := M3.fm Mv4.fm no2
        have AA4 := AA3.fm Mv4.fm tk4 no1
        have hb4 := tk4 _ _ hb3
        refine ⟨_, rfl, _, rfl, p, d, wl', m, h, n, q, S', rfl, Lk4, N', t4 tb3, M4, O, fun H5 v L5 F5 A5 _ => ?_⟩
        obtain ⟨tb', wb, db, wsb, kvb, rfl, b1, b2, b3, b4, b5, _⟩ := A5.ex
        have M5 := M4.fm F5 (by simp)
        have hb5 := F5.at (by simp) hb4 noT_tup
        refine ⟨fun σ H6 => ∃ v8 v10 : Option V, σ = [some (.ref m), some (.ref p), some (.ref ta), some (.ref a), some (.ref b), some (.int wy), some (.ref r), some (.ref tb'), v8, none, v10, none] ∧ Fm K [] H5 H6, ⟨_, rfl, rfl, _, rfl, ite2 (fun c3 => ?_) (fun c3 => ⟨none, none, rfl, Fm.refl⟩)⟩, ?_⟩
        · have c3 : wy = 1 := by simpa using c3
          have e0 := lv0 c3
          subst e0
          obtain ⟨g1, g2⟩ := gone_of W LO
          refine ⟨_, rfl, tb', _, _, .ref wb, rfl, rfl, SqT.of b1, rfl, wb, rfl, ⟨_, SqL.of b2⟩, fun D hD => lc_run (K := K) hD b2 (fun i acc _ => acc = (S'.wished.take i).map fun v => V.int v.hd) rfl ?_ ?_⟩
          · rintro i y Hx acc hy' Fx hDx rfl
            obtain ⟨u, hu', c, rfl, hc⟩ := Paired.at b3 hy'
            have ncD : c ≠ D := ne_of_none hc hD
            have hcx : Hx c = some (.tup u.vs) := Fx.at (by simpa using ncD) (by rw [upd_ne ncD]; exact hc) noT_tup
            refine ⟨rfl, _, rfl, c, _, _, _, rfl, rfl, SqT.of hcx, wish0, lc_put Fx hDx ?_ ?_⟩
            · rw [List.length_map]
              exact small_lt (Nat.le_trans (List.length_take_le' _ _) (Nat.le_trans N'.wl (by decide)))
            · rw [take_next hu', List.map_append]
              rfl
          · rintro H6 acc F6 fD hD6 rfl
            rw [paired_len b3, List.take_length] at hD6
            have hD6' : H6 D = some (.lst ((S'.wished.map (·.hd)).map V.int)) := by rw [hD6, List.map_map]; rfl
            have M6 := M5.fm F6 (by simp)
            have A6 := A5.fm0 F6
            have nD : ∀ c o, H5 c = some o → NoTbl o → c ≠ D := fun c o e nt z => fD o (z ▸ e) nt
            have nnD : n ≠ D := nD n _ M5.n noT_lst
            refine ⟨_, rfl, m, _, rfl, M6.gn, n, rfl, ⟨_, SqL.of M6.n⟩, for_list (K := K) (a := n) (xs := ns.map V.int) (fun i σ H7 => ∃ (v10 : Option V) (l : List Int), σ = [some (.ref m), some (.ref p), some (.ref ta), some (.ref a), some (.ref b), some (.int wy), some (.ref r), some (.ref tb'), some (.ref D), none, v10, none] ∧ Fm K [D] H6 H7 ∧ Tk H6 H7 ∧ H7 D = some (.lst (l.map V.int)) ∧ (∀ z ∈ l, z ≠ x.hd) ∧ l.length ≤ 20 + 1000 * i)
              ⟨none, _, rfl, Fm.refl, Tk.refl, hD6', fun z hz => by
                obtain ⟨u, hu', e⟩ := List.mem_map.mp hz
                exact e ▸ g1 u hu', by rw [List.length_map]; exact N'.wl⟩ (fun i σ H7 _ ⟨_, _, _, F, _⟩ => SqL.of (F.at (by simpa using nnD) M6.n noT_lst)) ?_ ?_⟩
            · rintro i y σ H7 hy' ⟨v10, l, rfl, F7, T7, hD7, hl, ll⟩
              obtain ⟨g, hg, rfl⟩ : ∃ z, ns[i]? = some z ∧ y = .int z := by
                rw [List.getElem?_map] at hy'
                cases e : ns[i]? with
                | none => rw [e] at hy'; cases hy'
                | some z => rw [e] at hy'; exact ⟨z, rfl, (Option.some.inj hy').symm⟩
              obtain ⟨c, ysc, ec, _, hc, Rc⟩ := held_get b5 (List.mem_of_getElem? hg)
              have st : ∀ {b0 o}, H5 b0 = some o → NoTbl o → H7 b0 = some o := fun e nt => F7.at (by simpa using nD _ _ e nt) (F6.at (by simp) e nt) nt
              have hc7 := st hc noT_lst
              have Rc7 := RowsV.tk (F6.tup.trans T7) Rc
              have rl : (asLong (getP S'.pieces g)).length ≤ 1000 := Nat.le_trans (asLong_len _) (N'.rows g)
              refine ⟨_, rfl, .inl ⟨rfl, _, SqL.of hD7⟩, _, rfl, tb', _, _, .ref db, rfl, rfl, SqT.of (st b1 noT_tup), rfl, _, rfl, db, .ref c, rfl, ec ▸ DGet.k (k := Sum.inl g) (st b4 noT_dK), c, rfl, ⟨_, SqL.of hc7⟩, fun D2 hD2 => lc_run (K := K) hD2 hc7 (fun j acc _ => acc = ((asLong (getP S'.pieces g)).take j).map fun r => V.int r.hd) rfl ?_ ?_⟩
              · rintro j y Hx acc hy'' Fx hDx rfl
                obtain ⟨u, hu', e, rfl, he⟩ := Paired.at Rc7 hy''
                have neD : e ≠ D2 := ne_of_none he hD2
                have hex : Hx e = some (.tup u.vs) := Fx.at (by simpa using neD) (by rw [upd_ne neD]; exact he) noT_tup
                refine ⟨rfl, _, rfl, e, _, _, _, rfl, rfl, SqT.of hex, row3, lc_put Fx hDx ?_ ?_⟩
                · rw [List.length_map]
                  exact small_lt (Nat.le_trans (List.length_take_le' _ _) (by omega))
                · rw [take_next hu', List.map_append]
                  rfl
              · rintro H8 acc F8 fD2 hD8 rfl
                rw [paired_len Rc7, List.take_length] at hD8
                have hD78 := F8.at (by simp) hD7 noT_lst
                have i8 : i < 8 := by
                  have h1 := (List.getElem?_eq_some_iff.mp hg).1
                  omega
                refine ⟨D, D2, _, _, rfl, rfl, hD78, hD8, ?_, ?_⟩
                · rw [List.length_map, List.length_map]
                  exact small_line (by omega)
                · have em : (l.map V.int) ++ ((asLong (getP S'.pieces g)).map fun r => V.int r.hd) = (l ++ (asLong (getP S'.pieces g)).map (·.hd)).map V.int := by
                    rw [List.map_append, List.map_map]
                    rfl
                  rw [em]
                  refine ⟨_, _, rfl, F7.trans (F8.nil.trans (Fm.put hD78 rfl (by simp))), T7.trans (F8.tup.trans (tk_lst hD78)), upd_same, fun z hz => ?_, ?_⟩
                  · rcases List.mem_append.mp hz with hz | hz
                    · exact hl z hz
                    · obtain ⟨u, hu', e⟩ := List.mem_map.mp hz
                      exact e ▸ g2 g u hu'
                  · rw [List.length_append, List.length_map]
                    omega
            · rintro σ H7 ⟨v10, l, rfl, F7, T7, hD7, hl, ll⟩
              have hb7 := T7 _ _ (F6.tup _ _ hb5)
              refine ⟨_, rfl, b, _, _, _, rfl, rfl, SqT.of hb7, wish0, _, rfl, D, _, rfl, .inl (SqL.of hD7), rfl, flat_ints _, _, rfl, ?_⟩
              rw [if_neg Bool.false_ne_true, inV_ints, decide_eq_false (fun z => hl _ z rfl)]
              refine iteF ⟨_, _, rfl, ((F6.nil.trans F7 : Fm K [D] H5 H7).drop fD)⟩
        · rintro σ H6 ⟨v8, v10, rfl, F6⟩
          have F46 := F5.trans F6
          have AA6 := AA4.fm0 F46
          have A6 := A5.fm0 F6
          have hr6 := F46.at (by simp) hr4 noT_lst
          have lf : LetF ns S S' told := let_of W (S0 := S0) sub0 LO
          have st : StayF ns S S' (x.hd :: told) := stay_of W LO cov0 (wi0 told)
          refine ⟨_, rfl, _, rfl, _, rfl, .ref ta, .ref tb', r, S, S', L, L5, told, rfl, AA6, A6, hr6, LO.tnd, told_len W0 l1 LO, Nat.le_trans N.wl (by decide), W.wnd, lf, fun H7 F7 => ⟨_, rfl, iteT ?_⟩⟩
          have F47 := F46.trans F7
          have hb7 := F47.at (by simp) hb4 noT_tup
          have hr7 := F7.at (by simp) hr6 noT_lst
          refine ⟨_, rfl, _, rfl, _, rfl, _, rfl, b, _, _, _, rfl, rfl, SqT.of hb7, wish0, (by show 1 ≤ sizeLine; decide), fun q1 hq1 => ⟨_, rfl, q1, r, _, _, rfl, rfl, upd_same, (by rw [upd_ne (ne_of_none hr7 hq1)]; exact hr7), ?_, fun q2 hq2 => ?_⟩⟩
          · rw [List.length_map]
            have := told_len W0 l1 LO
            exact small_line (by show 1 + told.length ≤ 100000; omega)
          · have F8 : Fm K [] H7 (upd (upd H7 q1 (.lst [.int x.hd])) q2 (.lst ([.int x.hd] ++ told.map V.int))) := (Fm.new hq1).trans (Fm.new hq2)
            have F48 := F47.trans F8
            refine ⟨m, h, n, q, q2, .ref ta, .ref tb', S, S', L, L5, x.hd :: told, rfl, M4.fm F48 (by simp), AA4.fm0 F48, A5.fm0 (F6.trans (F7.trans F8)), upd_same, N, N', st.1, st.2, fun H9 F9 => ?_⟩
            have F49 := F48.trans F9
            exact fin F13 L3 (Mv4.trans (Mv.fm0 Lk4 F49)) (Lk4.fm F49) LO.wf (LO.rk Rk0) B4 (fun t => F49.tb (t4 t))
end
end FS
/-! F30 -/
namespace FS
open PySem PySem.Spec PyProof.Rows L2
theorem AllAt.small {H : Hp} {v : V} {S : LS} {ns : List Int} {L : List Addr} (A : AllAt H v S ns L) : ∃ L', (∀ b ∈ L', b ∈ L) ∧ AllAt H v S ns L' ∧ ∀ b ∈ L', ∃ o, H b = some o ∧ NoTbl o := by
  classical
  obtain ⟨t, wl, d, ws, kvs, e, h1, h2, h3, h4, h5, m1, m2, m3⟩ := A.ex
  have mk : ∀ {b o}, b ∈ L → H b = some o → NoTbl o → b ∈ L.filter (fun b => decide (∃ o, H b = some o ∧ NoTbl o)) := fun {b o} hb e n => List.mem_filter.mpr ⟨hb, decide_eq_true ⟨o, e, n⟩⟩
  refine ⟨L.filter (fun b => decide (∃ o, H b = some o ∧ NoTbl o)), fun b hb => (List.mem_filter.mp hb).1, ⟨t, wl, d, ws, kvs, e, h1, h2, h3, h4, Paired.mapP h5 fun kv f ⟨a1, b, ys, a2, a3, a4, a5⟩ => ⟨a1, b, ys, a2, mk a3 a4 noT_lst, a4, a5⟩, mk m1 h1 noT_tup, mk m2 h2 noT_lst, mk m3 h4 noT_dK⟩, fun b hb => of_decide_eq_true (List.mem_filter.mp hb).2⟩
theorem Off.fm0 {K : PySem.W.Frag} {H H1 : Hp} {p d wl b : Addr} {S : LS} (o : Off H p d wl b) (L : LkAt K H p d wl S) (F : Fm K [] H H1) : Off H1 p d wl b := by
  obtain ⟨kvs, e⟩ := L.hd
  exact o.keep ⟨kvs, e, F.at (by simp) e noT_dK⟩
theorem Off.deed {K : PySem.W.Frag} {H H1 : Hp} {p d wl wl1 a b : Addr} {o : HO} (h : Off H p d wl b) (F : Fm K [p, d, wl, a] H H1) (hw : wl1 = wl ∨ Fresh H wl1) (ow : Ow d H H1) (nb : b ≠ a) (hb : H b = some o) (n : NoTbl o) : Off H1 p d wl1 b ∧ H1 b = some o := by
  refine ⟨⟨h.1, h.2.1, ?_, ?_⟩, F.at (by simp; exact ⟨h.1, h.2.1, h.2.2.1, nb⟩) hb n⟩
  · rcases hw with e | f
    · rw [e]
      exact h.2.2.1
    · exact fun e => f o (e ▸ hb) n
  · exact fun z => (ow _ z).elim h.2.2.2 fun f => f o hb n
/-- how it stands ahead of a deed -/
structure WS (K : PySem.W.Frag) (H : Hp) (m h n q p d wl : Addr) (hs ns ps : List Int) (va : V) (S : LS) (L : List Addr) (e : Addr) (cl : List V) : Prop where
  M : MAt H m h n q hs ns ps
  lk : LkAt K H p d wl S
  wf : WF hs ns ps S
  rk : Ranked S
  bl : Blocked S
  tb : Tb K H
  aa : AllAt H va S ns L
  pr : ∀ b ∈ L, ∃ o, H b = some o ∧ NoTbl o
  offL : ∀ c ∈ L, Off H p d wl c
  offM : ∀ c ∈ [m, h, n, q], Off H p d wl c
  offe : Off H p d wl e
  he : H e = some (.lst cl)
theorem MAt.pr {H : Hp} {m h n q : Addr} {hs ns ps : List Int} (M : MAt H m h n q hs ns ps) : ∀ b ∈ [m, h, n, q], ∃ o, H b = some o ∧ NoTbl o := by
  obtain ⟨⟨wv, fv, e⟩, h1, h2, h3⟩ := M
  intro b hb
  simp at hb
  rcases hb with rfl | rfl | rfl | rfl
  · exact ⟨_, e, noT_dK⟩
  · exact ⟨_, h1, noT_lst⟩
  · exact ⟨_, h2, noT_lst⟩
  · exact ⟨_, h3, noT_lst⟩
theorem SqL.cases' {K : PySem.W.Frag} {H : Hp} {a : Addr} {xs : List V} (h : SqL K H a xs) : (∃ o, H a = some o ∧ NoTbl o ∧ ∀ H1 : Hp, H1 a = some o → SqL K H1 a xs) ∨ ∀ H1 : Hp, SqL K H1 a xs := by
  rcases h with (h | ⟨od, h⟩) | h
  · exact .inl ⟨_, h, noT_lst, fun _ e => .inl (.inl e)⟩
  · exact .inl ⟨_, h, noT_frz, fun _ e => .inl (.inr ⟨od, e⟩)⟩
  · exact .inr fun _ => .inr h
end FS
namespace L2
open PySem PySem.Spec PyProof.Rows FS
theorem SqL.fm0 {K : PySem.W.Frag} {H H1 : Hp} {a : Addr} {xs : List V} (h : SqL K H a xs) (F : Fm K [] H H1) : SqL K H1 a xs := by
  rcases FS.SqL.cases' h with ⟨o, e, n, k⟩ | k
  · exact k _ (F.at (by simp) e n)
  · exact k _
theorem SqL.past {K : PySem.W.Frag} {H H1 H2 : Hp} {a lf : Addr} {xs : List V} (h : SqL K H a xs) (F1 : Fm K [] H H1) (f : Fresh H lf) (F2 : Fm K [lf] H1 H2) : SqL K H2 a xs := by
  rcases FS.SqL.cases' h with ⟨o, e, n, k⟩ | k
  · exact k _ (F2.at (by simp only [List.mem_singleton]; exact fun z => f o (z ▸ e) n) (F1.at (by simp) e n) n)
  · exact k _
end L2
namespace FS
open PySem PySem.Spec PyProof.Rows L2
section
variable {K : PySem.W.Frag} {H H1 : Hp} {m h n q p d wl e : Addr} {hs ns ps : List Int} {va : V} {S : LS} {L : List Addr} {cl : List V}
theorem WS.fm0 (W : WS K H m h n q p d wl hs ns ps va S L e cl) (F : Fm K [] H H1) : WS K H1 m h n q p d wl hs ns ps va S L e cl :=
  ⟨W.M.fm F (by simp), W.lk.fm F, W.wf, W.rk, W.bl, F.tb W.tb, W.aa.fm0 F, fun b hb => by
    obtain ⟨o, e, n⟩ := W.pr b hb
    exact ⟨o, F.at (by simp) e n, n⟩, fun c hc => (W.offL c hc).fm0 W.lk F, fun c hc => (W.offM c hc).fm0 W.lk F, W.offe.fm0 W.lk F, F.at (by simp) W.he noT_lst⟩
end
section
variable {P : Program} {w : World} {K : PySem.W.Frag} {mg : Str → Option Value} {base : Heap} {hs ns ps : List Int}
abbrev Dims := {t : List Int × List Int × List Int // t.1.length ≤ 10 ∧ t.2.1.length ≤ 8 ∧ t.2.2.length ≤ 13}
def dims0 : Dims := ⟨([], [], []), by decide, by decide, by decide⟩
def uniD (sp : List Int → List Int → List Int → Sp) : Sp := fun vs H Q E => ∃ i : Dims, sp i.1.1 i.1.2.1 i.1.2.2 vs H Q E
theorem Ok.dims {k : Nat} {x : Str} {xs : List Str} {sp : List Int → List Int → List Int → Sp} (o : ∀ hs ns ps : List Int, hs.length ≤ 10 → ns.length ≤ 8 → ps.length ≤ 13 → Ok P w K mg base k x xs (sp hs ns ps)) : Ok P w K mg base k x xs (uniD sp) :=
  Ok.uni (I := Dims) (sp := fun i => sp i.1.1 i.1.2.1 i.1.2.2) dims0 fun i => o _ _ _ i.2.1 i.2.2.1 i.2.2.2
def splaw (K : PySem.W.Frag) : Sp := fun vs H Q _ => ∃ (a : Addr) (xs : List Int), vs = [.ref a] ∧ SqL K H a (xs.map V.int) ∧ xs.length ≤ 63 ∧ Tb K H ∧ ∀ H', Q (.bl true) H'
theorem sclaw : FnScope ["_law_script", "_law_m", "_law_locks", "_law_ahead", "_law_k", "_law_cell", "_law_left_here", "_law_turn", "_law_after", "_law_name"] ["_law_script"] (defScope slaw) := ⟨rfl, rfl, rfl, by decide +kernel, rfl, by decide +kernel, by decide +kernel⟩
theorem ok_law (T : Txt K mg) (X : Tx K mg) (Y : Ty K mg) (TB : LamX.TabB base mg (He.cT K pLong).1 (He.cT K pLong).2) : Ok P w K mg base 10 "law" ["_law_script"] (splaw K) := by
  have G_law_all : Ok P w K mg base 5 "_law_all" _ (uniD (spL_all K)) := Ok.dims fun hs ns ps _ _ _ => ok_L_all (hs := hs) (ns := ns) (ps := ps) T TB
  have G_law_cell_at : Ok P w K mg base 1 "_law_cell_at" _ _ := ok_L_cell_at T
  have G_law_deed_right : Ok P w K mg base 9 "_law_deed_right" _ (uniD (spL_deed_right K)) := Ok.dims fun hs ns ps l1 l2 l3 => ok_L_deed_right (hs := hs) (ns := ns) (ps := ps) T X Y TB l1 l2 l3
  have G_law_in_order : Ok P w K mg base 3 "_law_in_order" _ (uniD (spL_in_order K)) := Ok.dims fun hs ns ps _ _ _ => ok_L_in_order (hs := hs) (ns := ns) (ps := ps) T
  have G_law_left : Ok P w K mg base 3 "_law_left" _ _ := ok_L_left T
  have G_law_mix : Ok P w K mg base 1 "_law_mix" _ _ := ok_L_mix T
  have G_law_waiting_right : Ok P w K mg base 4 "_law_waiting_right" _ (uniD (spL_waiting_right K)) := Ok.dims fun hs ns ps _ _ _ => ok_L_waiting_right (hs := hs) (ns := ns) (ps := ps) T
  have G_law_world : Ok P w K mg base 3 "_law_world" _ _ := ok_L_world T
  obtain ⟨fdI, FI, bI, mI⟩ := ok_Init (P := P) (w := w) (base := base) T
  refine T.dlaw.ok sclaw (fun _ _ _ _ _ _ us hl => match us, hl with | [_], _ => rfl) (fun vs H Q E h => ?_) (fun f cdv A outer s H vs Q E hr h => ?_)
  · obtain ⟨a, xs, rfl, _⟩ := h
    rfl
  · obtain ⟨a, xs, rfl, ha, xl, tb, k⟩ := h
    have hu := hu_of hr
    refine ⟨_, (pss_cons (ps_set (i := 1) sclaw.nd rfl (Or.inl rfl) (pe_do G_law_world (hr.mono (by decide)) (pa_cons (pe_do G_law_left (hr.mono (by decide)) (pa_cons (pe_do G_law_cell_at (hr.mono (by decide)) (pa_cons (pv 0) (pa_cons pe_int pa_nil))) (pa_cons pe_int pa_nil))) (pa_cons (pe_cmpR op_eq (pe_op op_mod (pe_do G_law_mix (hr.mono (by decide)) (pa_cons (pe_do G_law_cell_at (hr.mono (by decide)) (pa_cons (pv 0) (pa_cons pe_int pa_nil))) (pa_cons pe_int pa_nil))) pe_int) pe_int (nomark _)) pa_nil))))
      (pss_cons (ps_set (i := 2) sclaw.nd rfl (Or.inl rfl) (pe_make0 T.mks FI (hr.mono (by decide)) rfl T.mgL bI .nil pass0))
      (pss_cons (ps_set (i := 3) sclaw.nd rfl (Or.inl rfl) (pe_do G_law_all (hr.mono (by decide)) (pa_cons (pv 2) (pa_cons (pv 1) pa_nil))))
      (pss_cons (ps_for PassesOwn.never rfl (pi_enum (by rfl) T.enumerate (pa_cons (pe_op op_cat (pe_slice sl_list (pv 0) (po_some pe_int) (po_some pe_int)) (pe_lst (pa_cons pe_int pa_nil))) pa_nil)) (pg_tup rfl (pgs_cons (pg_name (i := 4) sclaw.nd rfl (Or.inl rfl)) (pgs_cons (pg_name (i := 5) sclaw.nd rfl (Or.inl rfl)) pgs_nil)))
        (pss_cons (ps_set (i := 6) sclaw.nd rfl (Or.inl rfl) (pe_do G_law_left (hr.mono (by decide)) (pa_cons (pv 5) (pa_cons (pe_op op_add (pv 4) pe_int) pa_nil))))
        (pss_one (ps_for PassesOwn.never rfl (pi_range1 (by rfl) T.range (pa_cons (pe_op op_add pe_int (pe_callTy call_int1 (by rfl) T.int (by decide +kernel) (pa_cons (pe_cmpR op_ge (pv 5) (pe_op op_pow pe_int pe_int) (nomark _)) pa_nil))) pa_nil)) (pg_name (i := 7) sclaw.nd rfl (Or.inl rfl))
          (pss_cons (ps_if (pt_not (pt_val (pe_do G_law_deed_right (hr.mono (by decide)) (pa_cons (pv 1) (pa_cons (pv 2) (pa_cons (pv 3) (pa_cons (pv 6) pa_nil)))))))
            (pss_one (ps_ret pe_bl))
            pss_nil)
          (pss_cons (ps_set (i := 8) sclaw.nd rfl (Or.inl rfl) (pe_do G_law_all (hr.mono (by decide)) (pa_cons (pv 2) (pa_cons (pv 1) pa_nil))))
          (pss_cons (ps_for PassesOwn.never rfl (pi_list (pe_dget hu (pv 1) pe_str (fun _ _ => rfl))) (pg_name (i := 9) sclaw.nd rfl (Or.inl rfl))
            (pss_one (ps_if (PW.pt (pw_and (pt_cmpR (op_neD hr.units) (pe_dget hu (pe_ix ix_tup (pv 8) pe_int (fun _ _ => rfl)) (pv 9) (fun _ _ => rfl)) (pe_dget hu (pe_ix ix_tup (pv 3) pe_int (fun _ _ => rfl)) (pv 9) (fun _ _ => rfl)) (nomark _)) (pw_and1 (pt_not (pt_val (pe_do G_law_in_order (hr.mono (by decide)) (pa_cons (pv 1) (pa_cons (pe_dget hu (pe_ix ix_tup (pv 8) pe_int (fun _ _ => rfl)) (pv 9) (fun _ _ => rfl)) pa_nil))))))))
              (pss_one (ps_ret pe_bl))
              pss_nil)))
          (pss_cons (ps_if (pt_not (pt_val (pe_do G_law_waiting_right (hr.mono (by decide)) (pa_cons (pv 2) (pa_cons (pv 8) pa_nil)))))
            (pss_one (ps_ret pe_bl))
            pss_nil)
          (pss_one (ps_set (i := 3) sclaw.nd rfl (Or.inl rfl) (pv 8)))))))))))
      (pss_one (ps_ret pe_bl)))))), ?_⟩
    refine ⟨_, rfl, a, xs, 0, rfl, ha, fun c0 => ⟨c0, 1, rfl, by decide, by decide, fun H1 lf l1 F1 flf hlf nlf => ?_⟩⟩
    have ha1 := ha.fm0 F1
    refine ⟨_, rfl, a, xs, 0, rfl, ha1, fun c1 => ⟨c1, 2, rfl, by decide, by decide, fun r r0 r1 => ?_⟩⟩
    refine ⟨_, _, rfl, rfl, (by show (0:Int) < _; decide), rfl, lf, _, rfl, ⟨l1, hlf, nlf⟩, fun H2 m h n q hs ns ps F2 Llf M2 O nb2 => ?_⟩
    have ha2 := ha.past F1 flf F2
    have tb2 := F2.tb (F1.tb tb)
    intro x dx hx hdx nxd
    refine ⟨x, dx, rfl, upd_same, fun H3 d wl F3 Lk3 fd fw => ⟨rfl, ?_⟩⟩
    have hx2 : upd H2 dx (.own x) x = none := by rw [upd_ne nxd.symm]; exact hx
    have F23 : Fm K [] H2 H3 := (((Fm.new hdx).trans (Fm.new hx2)).trans F3 : Fm K [x] H2 H3).drop (Fresh.of hx)
    have F2x : Fm K [] H2 (upd (upd H2 dx (.own x)) x (.ins (He.ga K "Locks") dx [])) := (Fm.new hdx).trans (Fm.new hx2)
    have fd2 := F2x.fresh (by simp) fd
    have fw2 := F2x.fresh (by simp) fw
    have M3 := M2.fm F23 (by simp)
    have tb3 := F23.tb tb2
    have offM3 : ∀ c ∈ [m, h, n, q], Off H3 x d wl c := fun c hc => by
      obtain ⟨o, e, nt⟩ := M2.pr c hc
      refine ⟨fun z => ?_, fun z => fd2 _ (z ▸ e) nt, fun z => fw2 _ (z ▸ e) nt, fun ⟨kvs, k, e1, mm⟩ => ?_⟩
      · rw [z, hx] at e
        cases e
      · obtain ⟨kvs', e2, P2⟩ := Lk3.dc
        rw [e1] at e2
        cases e2
        cases P2
        cases mm
    have Rk0 : Ranked LS0 := ⟨fun _ => 0, fun w hw => by cases hw⟩
    have Bl0 : Blocked LS0 := fun w hw => by cases hw
    have W0 : WF hs ns ps LS0 := ⟨fun f => ⟨fun r hr => (nomatch hr), List.Pairwise.nil⟩, fun f r hr => (by cases hr), List.nodup_nil, fun w hw => (by cases hw), List.nodup_nil, fun k hk => (by cases hk)⟩
    have D0 : Dims := ⟨(hs, ns, ps), O.h2, O.n2, O.p2⟩
    have N0 := Nm.of W0 O.h2 O.n2 O.p2
    refine ⟨_, rfl, _, rfl, ⟨(hs, ns, ps), O.h2, O.n2, O.p2⟩, x, d, wl, m, h, n, q, LS0, rfl, Lk3, N0, tb3, M3, O, fun H4 va L4 F4 A4 fL4 => ?_⟩
    obtain ⟨L, sL, A, pr⟩ := A4.small
    have Lk4 := Lk3.fm F4
    have F24 := F23.trans F4
    have ha4 := ha2.fm0 F24
    refine ⟨_, rfl, _, rfl, _, rfl, a, _, rfl, ha4, fun q1 hq1 => ⟨by show 1 ≤ sizeLine; decide, fun q2 hq2 => ?_⟩⟩
    generalize hcv : cutV (xs.map V.int) (some 1) (some 63) = cv at hq2 ⊢
    have cvl : cv.length ≤ 63 := by
      rw [← hcv]
      exact Nat.le_trans (cutV_length _ _ _) (by rw [List.length_map]; exact xl)
    have cvi : ∀ v ∈ cv ++ [V.int 5], ∃ c, v = .int c := fun v hv => by
      rcases List.mem_append.mp hv with hv | hv
      · rw [← hcv] at hv
        unfold cutV at hv
        obtain ⟨c, _, e⟩ := List.mem_map.mp (List.mem_of_mem_drop (List.mem_of_mem_take hv))
        exact ⟨c, e.symm⟩
      · exact ⟨5, List.mem_singleton.mp hv⟩
    have hq12 : upd (upd H4 q1 (.lst cv)) q2 (.lst [.int 5]) q1 = some (.lst cv) := by rw [upd_ne (ne_of_none upd_same hq2)]; exact upd_same
    refine ⟨q1, q2, _, _, rfl, rfl, hq12, upd_same, small_line (by show cv.length + 1 ≤ 100000; omega), fun e he => ?_⟩
    generalize hcl : cv ++ [V.int 5] = cl at cvi ⊢
    have cll : cl.length ≤ 64 := by
      rw [← hcl, List.length_append]
      show cv.length + 1 ≤ 64
      omega
    have F45 : Fm K [] H4 (upd (upd (upd H4 q1 (.lst cv)) q2 (.lst [.int 5])) e (.lst cl)) := ((Fm.new hq1).trans (Fm.new hq2)).trans (Fm.new he)
    have he5 : (upd (upd (upd H4 q1 (.lst cv)) q2 (.lst [.int 5])) e (.lst cl)) e = some (.lst cl) := upd_same
    have fe4 : Fresh H4 e := ((Fm.new hq1).trans (Fm.new hq2) : Fm K [] H4 (upd (upd H4 q1 (.lst cv)) q2 (.lst [.int 5]))).fresh (by simp) (Fresh.of he)
    generalize upd (upd (upd H4 q1 (.lst cv)) q2 (.lst [.int 5])) e (.lst cl) = H5 at F45 he5 ⊢
    have A5 : WS K H5 m h n q x d wl hs ns ps va LS0 L e cl :=
      ⟨(M3.fm F4 (by simp)).fm F45 (by simp), Lk4.fm F45, W0, Rk0, Bl0, F45.tb (F4.tb tb3), A.fm0 F45, fun b hb => by
        obtain ⟨o, e, nt⟩ := pr b hb
        exact ⟨o, F45.at (by simp) e nt, nt⟩, fun c hc => ((Off.new Lk3 (fL4 c (sL c hc))).fm0 Lk3 F4).fm0 Lk4 F45, fun c hc => ((offM3 c hc).fm0 Lk3 F4).fm0 Lk4 F45, (Off.new Lk4 fe4).fm0 Lk4 F45, he5⟩
    refine ⟨e, _, rfl, SqL.of he5, for_it (walk_enum (K := K) (a := e) (xs := cl)) (fun i σ H => ∃ (va : V) (S : LS) (L : List Addr) (wl : Addr) (v4 v5 v6 v7 v8 v9 : Option V), σ = [some (.ref a), some (.ref m), some (.ref x), some va, v4, v5, v6, v7, v8, v9] ∧ WS K H m h n q x d wl hs ns ps va S L e cl)
      ⟨va, LS0, L, wl, none, none, none, none, none, none, rfl, A5⟩ ?_ ?_ ?_⟩
    · rintro i σ H _ ⟨_, _, _, _, _, _, _, _, _, _, _, W⟩
      exact SqL.of W.he
    · rintro i y σ H6 H7 hi ⟨va, S, L, wl, v4, v5, v6, v7, v8, v9, rfl, W6⟩ ⟨t, _, _, rfl, ht, rfl, e1, e2⟩
      cases e1
      obtain ⟨c, rfl⟩ := cvi _ (List.mem_of_getElem? e2)
      have W7 := W6.fm0 (Fm.new ht (o := .tup [.int (i : Nat), .int c]))
      have ht7 : (upd H6 t (.tup [.int (i : Nat), .int c])) t = some (.tup [.int (i : Nat), .int c]) := upd_same
      generalize upd H6 t (.tup [.int (i : Nat), .int c]) = H7 at W7 ht7 ⊢
      refine ⟨t, _, rfl, SqT.of ht7, rfl, _, _, rfl, _, _, rfl, rfl, ?_⟩
      have hi' : i < 64 := Nat.lt_of_lt_of_le hi cll
      refine ⟨_, rfl, _, rfl, _, _, rfl, rfl, c, _, rfl, by omega, by omega, fun H8 lf ns' F8 flf hlf nlf => ?_⟩
      have W8 := W7.fm0 F8
      have offlf : Off H8 x d wl lf := (Off.new W7.lk flf).fm0 W7.lk F8
      have nM : ∀ b ∈ [m, h, n, q], b ≠ lf := fun b hb z => by
        obtain ⟨o, e, nt⟩ := W7.M.pr b hb
        exact flf o (z ▸ e) nt
      have nL : ∀ b ∈ L, b ≠ lf := fun b hb z => by
        obtain ⟨o, e, nt⟩ := W7.pr b hb
        exact flf o (z ▸ e) nt
      have nE : e ≠ lf := fun z => flf _ (z ▸ W7.he) noT_lst
      refine ⟨_, rfl, _, _, rfl, rfl, ⟨by decide, by decide, by decide⟩, _, _, rfl, rfl, .inr ⟨_, rfl, _, _, rfl, rfl, _, rfl, by split <;> decide, by split <;> decide, for_range (lo := 0) (fun i σ H => ∃ (va : V) (S : LS) (L : List Addr) (wl : Addr) (v4 v5 v7 v8 v9 : Option V), σ = [some (.ref a), some (.ref m), some (.ref x), some va, v4, v5, some (.ref lf), v7, v8, v9] ∧ WS K H m h n q x d wl hs ns ps va S L e cl ∧ LfAt H lf ∧ Off H x d wl lf ∧ ∀ b ∈ L, b ≠ lf)
        ⟨va, S, L, wl, _, _, _, _, _, rfl, W8, ⟨ns', hlf, nlf⟩, offlf, nL⟩ ?_ ?_⟩⟩
      · rintro j σ H9 hj ⟨va, S, L, wl, v4, v5, v7, v8, v9, rfl, W9, Llf, offlf, nL⟩
        refine ⟨_, rfl, _, rfl, _, rfl, _, rfl, ⟨(hs, ns, ps), O.h2, O.n2, O.p2⟩, m, h, n, q, x, d, wl, lf, va, S, L, rfl, W9.M, O, W9.lk, W9.wf, W9.rk, W9.bl, W9.tb, W9.aa, Llf, fun b hb => (List.mem_append.mp hb).elim (nM b) (nL b), fun b hb => (List.mem_append.mp hb).elim (W9.offM b) (W9.offL b), offlf, fun H10 S' wl' F10 hwl ow fr Lk' W' R' B' tb' Llf' => ?_⟩
        have M10 : MAt H10 m h n q hs ns ps := W9.M.fm F10 fun b hb => by
          have o := W9.offM b hb
          simp
          exact ⟨o.1, o.2.1, o.2.2.1, nM b hb⟩
        have tk10 : Tk H9 H10 := F10.tk fun b hb => by
          simp at hb
          rcases hb with rfl | rfl | rfl | rfl
          · exact W9.lk.ms _ (by simp)
          · exact W9.lk.ms _ (by simp)
          · exact W9.lk.ms _ (by simp)
          · obtain ⟨xs, hxs, _⟩ := Llf
            exact ⟨_, hxs, rfl⟩
        have A10 : AllAt H10 va S ns L := W9.aa.fm F10 tk10 fun b hb z => by
          have o := W9.offL b z
          simp at hb
          rcases hb with rfl | rfl | rfl | rfl
          · exact o.1 rfl
          · exact o.2.1 rfl
          · exact o.2.2.1 rfl
          · exact nL _ z rfl
        have offM10 : ∀ c ∈ [m, h, n, q], Off H10 x d wl' c := fun c hc => by
          obtain ⟨o, e, nt⟩ := W9.M.pr c hc
          exact ((W9.offM c hc).deed F10 hwl ow (nM c hc) e nt).1
        have offe10 := W9.offe.deed F10 hwl ow nE W9.he noT_lst
        have offlf10 : Off H10 x d wl' lf := by
          obtain ⟨xs, hxs, _⟩ := Llf
          refine ⟨offlf.1, offlf.2.1, ?_, fun z => (ow _ z).elim offlf.2.2.2 fun f => f _ hxs noT_lst⟩
          rcases hwl with e | f
          · rw [e]
            exact offlf.2.2.1
          · exact fun e => f _ (e ▸ hxs) noT_lst
        have tb10 := tb' W9.tb
        have N' := Nm.of W' O.h2 O.n2 O.p2
        refine ⟨_, rfl, iteF ⟨_, rfl, _, rfl, ⟨(hs, ns, ps), O.h2, O.n2, O.p2⟩, x, d, wl', m, h, n, q, S', rfl, Lk', N', tb10, M10, O, fun H11 w8 L5 F11 (A5 : AllAt H11 w8 S' ns L5) fL5 => ?_⟩⟩
        obtain ⟨L6, sL6, A11, pr6⟩ := A5.small
        have W11 : WS K H11 m h n q x d wl' hs ns ps w8 S' L6 e cl :=
          ⟨M10.fm F11 (by simp), Lk'.fm F11, W', R', B', F11.tb tb10, A11, pr6, fun c hc => (Off.new Lk' (fL5 c (sL6 c hc))).fm0 Lk' F11, fun c hc => (offM10 c hc).fm0 Lk' F11, offe10.1.fm0 Lk' F11, F11.at (by simp) offe10.2 noT_lst⟩
        have old11 := A10.fm0 F11
        have Llf11 := Llf'.fm F11 (by simp)
        have offlf11 := offlf10.fm0 Lk' F11
        have nL6 : ∀ b ∈ L6, b ≠ lf := fun b hb z => by
          obtain ⟨xs, hxs, _⟩ := Llf'
          exact fL5 b (sL6 b hb) _ (z ▸ hxs) noT_lst
        have rowsN : ∀ f, (asLong (getP S'.pieces f)).length ≤ 1000 := fun f => Nat.le_trans (asLong_len _) (N'.rows f)
        refine ⟨_, rfl, m, _, rfl, W11.M.gn, n, rfl, ⟨_, SqL.of W11.M.n⟩, for_list (K := K) (a := n) (xs := ns.map V.int) (fun i σ H => ∃ v9 : Option V, σ = [some (.ref a), some (.ref m), some (.ref x), some va, v4, v5, some (.ref lf), some (.int (0 + (j : Nat))), some w8, v9] ∧ Fm K [] H11 H)
          ⟨_, rfl, Fm.refl⟩ (fun i σ H _ ⟨_, _, F⟩ => SqL.of (F.at (by simp) W11.M.n noT_lst)) ?_ ?_⟩
        · rintro i y σ H12 hy ⟨v9, rfl, F12⟩
          obtain ⟨g, hg, rfl⟩ : ∃ z, ns[i]? = some z ∧ y = .int z := by
            rw [List.getElem?_map] at hy
            cases e : ns[i]? with
            | none => rw [e] at hy; cases hy
            | some z => rw [e] at hy; exact ⟨z, rfl, (Option.some.inj hy).symm⟩
          have A12 := A11.fm0 F12
          have O12 := old11.fm0 F12
          obtain ⟨t1, w1, d1, ws1, kv1, rfl, a1, a2, a3, a4, a5, _⟩ := A12.ex
          obtain ⟨t2, w2, d2, ws2, kv2, rfl, b1, b2, b3, b4, b5, _⟩ := O12.ex
          obtain ⟨c1, ys1, ec1, _, hc1, Rc1⟩ := held_get a5 (List.mem_of_getElem? hg)
          obtain ⟨c2, ys2, ec2, _, hc2, Rc2⟩ := held_get b5 (List.mem_of_getElem? hg)
          refine ⟨_, rfl, t1, _, _, .ref d1, rfl, rfl, SqT.of a1, rfl, _, rfl, d1, .ref c1, rfl, ec1 ▸ DGet.k (k := Sum.inl g) a4, _, rfl, t2, _, _, .ref d2, rfl, rfl, SqT.of b1, rfl, _, rfl, d2, .ref c2, rfl, ec2 ▸ DGet.k (k := Sum.inl g) b4, _, _, .lst (SqL.of hc1) (RowsV.dp Rc1), .lst (SqL.of hc2) (RowsV.dp Rc2), shaped_rows _, shaped_rows _, _, rfl, ite2 (fun _ => ?_) (fun _ => iteF ⟨_, rfl, F12⟩)⟩
          have M12 := W11.M.fm F12 (by simp)
          exact ⟨_, rfl, _, rfl, t1, _, _, .ref d1, rfl, rfl, SqT.of a1, rfl, _, rfl, d1, .ref c1, rfl, ec1 ▸ DGet.k (k := Sum.inl g) a4, ⟨(hs, ns, ps), O.h2, O.n2, O.p2⟩, m, h, n, q, c1, ys1, _, rfl, M12, O, hc1, Rc1, rowsN g, long_good (W'.good g), fun H13 F13 => ⟨_, rfl, iteF ⟨_, rfl, F12.trans F13⟩⟩⟩
        · rintro σ H12 ⟨v9, rfl, F12⟩
          have W12 := W11.fm0 F12
          refine ⟨_, rfl, _, rfl, ⟨(hs, ns, ps), O.h2, O.n2, O.p2⟩, x, d, wl', w8, S', L6, rfl, W12.lk, N', W', B', R', W12.aa, fun H13 F13 => ⟨_, rfl, iteF ⟨_, rfl, w8, S', L6, wl', _, _, _, _, _, rfl, W12.fm0 F13, Llf11.fm (F12.trans F13) (by simp), offlf11.fm0 W11.lk (F12.trans F13), nL6⟩⟩⟩
      · rintro σ H9 ⟨va, S, L, wl, v4, v5, v7, v8, v9, rfl, W9, _⟩
        exact ⟨va, S, L, wl, _, _, _, _, _, _, rfl, W9⟩
    · rintro σ H ⟨_, _, _, _, _, _, _, _, _, _, rfl, W⟩
      exact k _
end
end FS
/-! FE -/
namespace FS
open PySem PySem.Spec PyProof.Rows L2
/-! ### what the head tells -/
def dD (x : Str) (st : Stmt) : He.DefD := ⟨(x, none), x, x, defArgs st, defBody st, defScope st, [], []⟩
def dM (C m q : Str) (st : Stmt) : He.DefD := ⟨(C, some m), m, q, defArgs st, defBody st, defScope st, [], []⟩
def fn0 : List He.DefD := [dD "are_against" sare_against, dD "against" sagainst, dD "cut_out" scut_out, dD "as_long" sas_long, dD "wish_of" swish_of, dD "holders" sholders, dD "put_held" sput_held, dD "let_in" slet_in, dD "ring_by" sring_by, dD "way_to" sway_to, dD "held" sheld, dD "wishes" swishes, dD "waited_for" swaited_for, dD "_law_cell_at" sL_cell_at, dD "_law_mix" sL_mix, dD "_law_rich" sL_rich, dD "_law_left" sL_left, dD "_law_pick" sL_pick, dD "_law_numbers" sL_numbers, dD "_law_places" sL_places, dD "_law_world" sL_world, dD "_law_stretch" sL_stretch, dD "_law_told_by" sL_told_by, dD "_law_told" sL_told, dD "_law_word" sL_word, dD "_law_meet" sL_meet, dD "_law_all" sL_all, dD "_law_in_order" sL_in_order, dD "_law_waiting_right" sL_waiting_right, dD "_law_holds" sL_holds]
def fn1 : List He.DefD := [dD "_law_let" sL_let, dD "_law_others_stay" sL_others_stay, dD "_law_taken_right" sL_taken_right, dD "_law_deed_right" sL_deed_right, dD "law" slaw, dM "Locks" "__init__" "Locks.__init__" mInit, dM "Locks" "take" "Locks.take" mTake, dM "Locks" "free" "Locks.free" mFree, dM "Locks" "leave" "Locks.leave" mLeave, dM "Ring" "__init__" "Ring.__init__" mRing]
def fn : List He.DefD := fn0 ++ (fn1)
def fa0 : List He.Fa := [.glo "are_against", .glo "against", .glo "cut_out", .glo "as_long", .glo "wish_of", .glo "holders", .glo "put_held", .glo "let_in", .glo "ring_by", .glo "way_to", .glo "held", .glo "wishes", .glo "waited_for", .glo "_law_cell_at", .glo "_law_mix", .glo "_law_rich", .glo "_law_left", .glo "_law_pick", .glo "_law_numbers", .glo "_law_places", .glo "_law_world", .glo "_law_stretch", .glo "_law_told_by", .glo "_law_told", .glo "_law_word", .glo "_law_meet", .glo "_law_all", .glo "_law_in_order", .glo "_law_waiting_right", .glo "_law_holds"]
def fa1 : List He.Fa := [.glo "_law_let", .glo "_law_others_stay", .glo "_law_taken_right", .glo "_law_deed_right", .glo "law", .free "len", .free "max", .free "min", .free "sorted", .free "range", .free "enumerate", .free "dict", .free "list", .free "reversed", .free "set", .free "any", .free "int", .free "isinstance", .free "ValueError", .glo "ShelfError", .glo "Ring", .glo "Waiting", .glo "NoOrder", .glo "NoMend", .glo "Busy", .glo "NoSession", .glo "NotAlone", .glo "BadEvent", .glo "NoRow", .glo "Locks"]
def fa2 : List He.Fa := [.cls "Locks", .noat "Locks" "pieces", .noat "Locks" "wished", .mkr "Locks", .meth "Locks" "__init__", .meth "Locks" "take", .meth "Locks" "free", .meth "Locks" "leave", .meth "Ring" "__init__", .noat "Ring" "ring", .exc "Waiting", .exm "Ring" "ShelfError" true, .exm "Waiting" "ShelfError" true]
def fa : List He.Fa := fa0 ++ (fa1 ++ (fa2))
def oexB (K : PySem.W.Frag) (C : Addr) : Bool := (match K.lookup C with
  | some ⟨.type t, _, .cls cd, sl⟩ => decide (t = "type") && (cd.hasDict && (!cd.hasDel && ((match cd.mro with
    | .ref c :: bm => decide (c = C) && PySem.HandSPX.refsVE bm
    | _ => false) && (match sl.toList with
    | [_, _, _, _, some (.builtin n), _] => decide (n = "ValueError.__new__")
    | _ => false))))
  | _ => false) && (He.eqO (PySem.W.findIn K (.ref C) "__setattr__") (some (some (.builtin "object.__setattr__"))) && (decide (PySem.W.subIn K (.ref C) (.type "BaseException") = some true) && (decide (PySem.W.typeIn K (.ref C) = some (.type "type")) && PySem.W.keepIn K (.ref C))))
theorem oexB_ok {K : PySem.W.Frag} {C : Addr} (h : oexB K C = true) : OexC K C := by
  obtain ⟨h1, h2⟩ := He.ba h
  obtain ⟨h3, h4⟩ := He.ba h2
  obtain ⟨h5, h6⟩ := He.ba h4
  obtain ⟨h7, h8⟩ := He.ba h6
  refine ⟨?_, He.eqO_ok h3, of_decide_eq_true h5, of_decide_eq_true h7, h8⟩
  cases q : K.lookup C with
  | none => rw [q] at h1; cases h1
  | some o =>
    obtain ⟨oc, od, dt, ⟨sl⟩⟩ := o
    rw [q] at h1
    cases oc with
    | type t =>
      cases dt with
      | cls cd =>
        obtain ⟨nm, bs, mro, ns, qn, hd, sn, sub, ab, col, del⟩ := cd
        obtain ⟨e1, h1⟩ := He.ba h1
        obtain ⟨e2, h1⟩ := He.ba h1
        obtain ⟨e3, h1⟩ := He.ba h1
        obtain ⟨e4, e5⟩ := He.ba h1
        have k1 : t = "type" := of_decide_eq_true e1
        have k2 : hd = true := e2
        have k3 : del = false := by
          cases del with
          | false => rfl
          | true => cases e3
        clear e1 e2 e3
        subst k1 k2 k3
        have e4 : (match (generalizing := false) mro with
          | .ref c :: bm => decide (c = C) && PySem.HandSPX.refsVE bm
          | _ => false) = true := e4
        have e5 : (match (generalizing := false) sl with
          | [_, _, _, _, some (.builtin n), _] => decide (n = "ValueError.__new__")
          | _ => false) = true := e5
        split at e4
        · rename_i c bm
          obtain ⟨f1, f2⟩ := He.ba e4
          have f1 := of_decide_eq_true f1
          subst f1
          split at e5
          · have e6 := of_decide_eq_true e5
            subst e6
            exact ⟨_, _, _, _, _, _, _, _, _, _, _, _, _, _, _, rfl, f2⟩
          · cases e5
        · cases e4
      | _ => cases h1
    | _ => cases dt <;> cases h1
def excB (K : PySem.W.Frag) (D : Addr) : Bool := He.eqO (PySem.W.findIn K (.ref D) "__getattribute__") (some (some (.builtin "BaseException.__getattribute__"))) && (He.eqO (PySem.W.findIn K (.ref D) "__getattr__") (some none) && (decide (PySem.W.subIn K (.ref D) (.type "BaseException") = some true) && (PySem.W.hasDictIn K D && (He.eqO (PySem.W.findIn K (.ref D) "__class__") (some (some (.builtin "object.__class__"))) && (He.eqO (PySem.W.specialIn K (.builtin "object.__class__") "__get__") (some (some (.builtin "getset_descriptor.__get__"))) && (decide (PySem.W.takesIn K (.builtin "object.__class__") = some true) && decide (PySem.W.mroIn K D (.type "object") = some true)))))))
theorem excB_ok {K : PySem.W.Frag} {D : Addr} (h : excB K D = true) : ExcC K D := by
  obtain ⟨h1, h⟩ := He.ba h
  obtain ⟨h2, h⟩ := He.ba h
  obtain ⟨h3, h⟩ := He.ba h
  obtain ⟨h4, h⟩ := He.ba h
  obtain ⟨h5, h⟩ := He.ba h
  obtain ⟨h6, h⟩ := He.ba h
  obtain ⟨h7, h8⟩ := He.ba h
  exact ⟨He.eqO_ok h1, He.eqO_ok h2, of_decide_eq_true h3, h4, He.eqO_ok h5, He.eqO_ok h6, of_decide_eq_true h7, of_decide_eq_true h8⟩
def ex1B (K : PySem.W.Frag) (D : Addr) (r w : Bool) : Bool := excB K D && (decide (PySem.W.kitOne K (.ref D) (.ref (He.ga K "Ring")) = some r) && (decide (PySem.W.kitOne K (.ref D) (.ref (He.ga K "Waiting")) = some w) && (decide (PySem.W.kitOne K (.ref D) (.type "ValueError") = some true) &&
  (decide (PySem.W.kitAny K (.ref D) [.ref (He.ga K "NoOrder"), .ref (He.ga K "NoMend"), .ref (He.ga K "Busy"), .ref (He.ga K "NoSession")] = some false) && decide (PySem.W.kitAny K (.ref D) [.ref (He.ga K "NotAlone"), .ref (He.ga K "BadEvent"), .ref (He.ga K "NoRow")] = some false)))))
theorem ex1B_ok {K : PySem.W.Frag} {D : Addr} {r w : Bool} (h : ex1B K D r w = true) : Ex1 K D r w := by
  obtain ⟨h1, h⟩ := He.ba h
  obtain ⟨h2, h⟩ := He.ba h
  obtain ⟨h3, h⟩ := He.ba h
  obtain ⟨h4, h⟩ := He.ba h
  obtain ⟨h5, h6⟩ := He.ba h
  exact ⟨excB_ok h1, of_decide_eq_true h2, of_decide_eq_true h3, of_decide_eq_true h4, of_decide_eq_true h5, of_decide_eq_true h6⟩
def fclB (K : PySem.W.Frag) (C : Addr) : Bool := match PySem.W.findCls K (.ref C) (.type "type") "__init__" with
  | some (.val (.builtin n)) => decide (n = "ValueError.__init__")
  | _ => false
theorem fclB_ok {K : PySem.W.Frag} {C : Addr} (h : fclB K C = true) : PySem.W.findCls K (.ref C) (.type "type") "__init__" = some (.val (.builtin "ValueError.__init__")) := by
  unfold fclB at h
  split at h
  · rename_i n q
    rw [q, of_decide_eq_true h]
  · cases h
def exB (K : PySem.W.Frag) : Bool := PySem.W.readsIn K (He.ga K "ShelfError") (.type "type") && (He.eqO (PySem.W.specialIn K (.ref (He.ga K "ShelfError")) "__getattribute__") (some (some (.builtin "type.__getattribute__"))) && (fclB K (He.ga K "ShelfError") && (oexB K (He.ga K "Ring") &&
  (decide (PySem.W.typeIn K (.ref (He.ma K (He.ga K "Ring") "__init__")) = some (.type "function")) && (ex1B K (He.ga K "Ring") true false && (ex1B K (He.ga K "Waiting") false true && decide (He.ga K "Ring" ≠ He.ga K "Waiting")))))))
def tf : List He.Defn := [pLong]
section
variable {w : World} {h : Heap} {K : PySem.W.Frag} {mg : Str → Option Value}
theorem txt_of (X : K.In h) (G : h.Ns mainGlobals mg) (c : He.SaysX fa fn [] tf exB w h K) : Txt K mg where
  dare_against := (fun ⟨fd, F⟩ => ⟨fd, F, He.glo_ok X G (c.t.d.fact 0 (f := .glo "are_against") rfl)⟩ : (∃ fd, FunD K "are_against" "are_against" (defArgs sare_against) (defBody sare_against) (defScope sare_against) [] [] (He.ga K "are_against") fd) → Dn K mg "are_against" sare_against) (c.t.d.def_ 0 (d := dD "are_against" sare_against) rfl)
  dagainst := (fun ⟨fd, F⟩ => ⟨fd, F, He.glo_ok X G (c.t.d.fact 1 (f := .glo "against") rfl)⟩ : (∃ fd, FunD K "against" "against" (defArgs sagainst) (defBody sagainst) (defScope sagainst) [] [] (He.ga K "against") fd) → Dn K mg "against" sagainst) (c.t.d.def_ 1 (d := dD "against" sagainst) rfl)
  dcut_out := (fun ⟨fd, F⟩ => ⟨fd, F, He.glo_ok X G (c.t.d.fact 2 (f := .glo "cut_out") rfl)⟩ : (∃ fd, FunD K "cut_out" "cut_out" (defArgs scut_out) (defBody scut_out) (defScope scut_out) [] [] (He.ga K "cut_out") fd) → Dn K mg "cut_out" scut_out) (c.t.d.def_ 2 (d := dD "cut_out" scut_out) rfl)
  das_long := (fun ⟨fd, F⟩ => ⟨fd, F, He.glo_ok X G (c.t.d.fact 3 (f := .glo "as_long") rfl)⟩ : (∃ fd, FunD K "as_long" "as_long" (defArgs sas_long) (defBody sas_long) (defScope sas_long) [] [] (He.ga K "as_long") fd) → Dn K mg "as_long" sas_long) (c.t.d.def_ 3 (d := dD "as_long" sas_long) rfl)
  dwish_of := (fun ⟨fd, F⟩ => ⟨fd, F, He.glo_ok X G (c.t.d.fact 4 (f := .glo "wish_of") rfl)⟩ : (∃ fd, FunD K "wish_of" "wish_of" (defArgs swish_of) (defBody swish_of) (defScope swish_of) [] [] (He.ga K "wish_of") fd) → Dn K mg "wish_of" swish_of) (c.t.d.def_ 4 (d := dD "wish_of" swish_of) rfl)
  dholders := (fun ⟨fd, F⟩ => ⟨fd, F, He.glo_ok X G (c.t.d.fact 5 (f := .glo "holders") rfl)⟩ : (∃ fd, FunD K "holders" "holders" (defArgs sholders) (defBody sholders) (defScope sholders) [] [] (He.ga K "holders") fd) → Dn K mg "holders" sholders) (c.t.d.def_ 5 (d := dD "holders" sholders) rfl)
  dput_held := (fun ⟨fd, F⟩ => ⟨fd, F, He.glo_ok X G (c.t.d.fact 6 (f := .glo "put_held") rfl)⟩ : (∃ fd, FunD K "put_held" "put_held" (defArgs sput_held) (defBody sput_held) (defScope sput_held) [] [] (He.ga K "put_held") fd) → Dn K mg "put_held" sput_held) (c.t.d.def_ 6 (d := dD "put_held" sput_held) rfl)
  dlet_in := (fun ⟨fd, F⟩ => ⟨fd, F, He.glo_ok X G (c.t.d.fact 7 (f := .glo "let_in") rfl)⟩ : (∃ fd, FunD K "let_in" "let_in" (defArgs slet_in) (defBody slet_in) (defScope slet_in) [] [] (He.ga K "let_in") fd) → Dn K mg "let_in" slet_in) (c.t.d.def_ 7 (d := dD "let_in" slet_in) rfl)
  dring_by := (fun ⟨fd, F⟩ => ⟨fd, F, He.glo_ok X G (c.t.d.fact 8 (f := .glo "ring_by") rfl)⟩ : (∃ fd, FunD K "ring_by" "ring_by" (defArgs sring_by) (defBody sring_by) (defScope sring_by) [] [] (He.ga K "ring_by") fd) → Dn K mg "ring_by" sring_by) (c.t.d.def_ 8 (d := dD "ring_by" sring_by) rfl)
  dway_to := (fun ⟨fd, F⟩ => ⟨fd, F, He.glo_ok X G (c.t.d.fact 9 (f := .glo "way_to") rfl)⟩ : (∃ fd, FunD K "way_to" "way_to" (defArgs sway_to) (defBody sway_to) (defScope sway_to) [] [] (He.ga K "way_to") fd) → Dn K mg "way_to" sway_to) (c.t.d.def_ 9 (d := dD "way_to" sway_to) rfl)
  dheld := (fun ⟨fd, F⟩ => ⟨fd, F, He.glo_ok X G (c.t.d.fact 10 (f := .glo "held") rfl)⟩ : (∃ fd, FunD K "held" "held" (defArgs sheld) (defBody sheld) (defScope sheld) [] [] (He.ga K "held") fd) → Dn K mg "held" sheld) (c.t.d.def_ 10 (d := dD "held" sheld) rfl)
  dwishes := (fun ⟨fd, F⟩ => ⟨fd, F, He.glo_ok X G (c.t.d.fact 11 (f := .glo "wishes") rfl)⟩ : (∃ fd, FunD K "wishes" "wishes" (defArgs swishes) (defBody swishes) (defScope swishes) [] [] (He.ga K "wishes") fd) → Dn K mg "wishes" swishes) (c.t.d.def_ 11 (d := dD "wishes" swishes) rfl)
  dwaited_for := (fun ⟨fd, F⟩ => ⟨fd, F, He.glo_ok X G (c.t.d.fact 12 (f := .glo "waited_for") rfl)⟩ : (∃ fd, FunD K "waited_for" "waited_for" (defArgs swaited_for) (defBody swaited_for) (defScope swaited_for) [] [] (He.ga K "waited_for") fd) → Dn K mg "waited_for" swaited_for) (c.t.d.def_ 12 (d := dD "waited_for" swaited_for) rfl)
  dL_cell_at := (fun ⟨fd, F⟩ => ⟨fd, F, He.glo_ok X G (c.t.d.fact 13 (f := .glo "_law_cell_at") rfl)⟩ : (∃ fd, FunD K "_law_cell_at" "_law_cell_at" (defArgs sL_cell_at) (defBody sL_cell_at) (defScope sL_cell_at) [] [] (He.ga K "_law_cell_at") fd) → Dn K mg "_law_cell_at" sL_cell_at) (c.t.d.def_ 13 (d := dD "_law_cell_at" sL_cell_at) rfl)
  dL_mix := (fun ⟨fd, F⟩ => ⟨fd, F, He.glo_ok X G (c.t.d.fact 14 (f := .glo "_law_mix") rfl)⟩ : (∃ fd, FunD K "_law_mix" "_law_mix" (defArgs sL_mix) (defBody sL_mix) (defScope sL_mix) [] [] (He.ga K "_law_mix") fd) → Dn K mg "_law_mix" sL_mix) (c.t.d.def_ 14 (d := dD "_law_mix" sL_mix) rfl)
  dL_rich := (fun ⟨fd, F⟩ => ⟨fd, F, He.glo_ok X G (c.t.d.fact 15 (f := .glo "_law_rich") rfl)⟩ : (∃ fd, FunD K "_law_rich" "_law_rich" (defArgs sL_rich) (defBody sL_rich) (defScope sL_rich) [] [] (He.ga K "_law_rich") fd) → Dn K mg "_law_rich" sL_rich) (c.t.d.def_ 15 (d := dD "_law_rich" sL_rich) rfl)
  dL_left := (fun ⟨fd, F⟩ => ⟨fd, F, He.glo_ok X G (c.t.d.fact 16 (f := .glo "_law_left") rfl)⟩ : (∃ fd, FunD K "_law_left" "_law_left" (defArgs sL_left) (defBody sL_left) (defScope sL_left) [] [] (He.ga K "_law_left") fd) → Dn K mg "_law_left" sL_left) (c.t.d.def_ 16 (d := dD "_law_left" sL_left) rfl)
  dL_pick := (fun ⟨fd, F⟩ => ⟨fd, F, He.glo_ok X G (c.t.d.fact 17 (f := .glo "_law_pick") rfl)⟩ : (∃ fd, FunD K "_law_pick" "_law_pick" (defArgs sL_pick) (defBody sL_pick) (defScope sL_pick) [] [] (He.ga K "_law_pick") fd) → Dn K mg "_law_pick" sL_pick) (c.t.d.def_ 17 (d := dD "_law_pick" sL_pick) rfl)
  dL_numbers := (fun ⟨fd, F⟩ => ⟨fd, F, He.glo_ok X G (c.t.d.fact 18 (f := .glo "_law_numbers") rfl)⟩ : (∃ fd, FunD K "_law_numbers" "_law_numbers" (defArgs sL_numbers) (defBody sL_numbers) (defScope sL_numbers) [] [] (He.ga K "_law_numbers") fd) → Dn K mg "_law_numbers" sL_numbers) (c.t.d.def_ 18 (d := dD "_law_numbers" sL_numbers) rfl)
  dL_places := (fun ⟨fd, F⟩ => ⟨fd, F, He.glo_ok X G (c.t.d.fact 19 (f := .glo "_law_places") rfl)⟩ : (∃ fd, FunD K "_law_places" "_law_places" (defArgs sL_places) (defBody sL_places) (defScope sL_places) [] [] (He.ga K "_law_places") fd) → Dn K mg "_law_places" sL_places) (c.t.d.def_ 19 (d := dD "_law_places" sL_places) rfl)
  dL_world := (fun ⟨fd, F⟩ => ⟨fd, F, He.glo_ok X G (c.t.d.fact 20 (f := .glo "_law_world") rfl)⟩ : (∃ fd, FunD K "_law_world" "_law_world" (defArgs sL_world) (defBody sL_world) (defScope sL_world) [] [] (He.ga K "_law_world") fd) → Dn K mg "_law_world" sL_world) (c.t.d.def_ 20 (d := dD "_law_world" sL_world) rfl)
  dL_stretch := (fun ⟨fd, F⟩ => ⟨fd, F, He.glo_ok X G (c.t.d.fact 21 (f := .glo "_law_stretch") rfl)⟩ : (∃ fd, FunD K "_law_stretch" "_law_stretch" (defArgs sL_stretch) (defBody sL_stretch) (defScope sL_stretch) [] [] (He.ga K "_law_stretch") fd) → Dn K mg "_law_stretch" sL_stretch) (c.t.d.def_ 21 (d := dD "_law_stretch" sL_stretch) rfl)
  dL_told_by := (fun ⟨fd, F⟩ => ⟨fd, F, He.glo_ok X G (c.t.d.fact 22 (f := .glo "_law_told_by") rfl)⟩ : (∃ fd, FunD K "_law_told_by" "_law_told_by" (defArgs sL_told_by) (defBody sL_told_by) (defScope sL_told_by) [] [] (He.ga K "_law_told_by") fd) → Dn K mg "_law_told_by" sL_told_by) (c.t.d.def_ 22 (d := dD "_law_told_by" sL_told_by) rfl)
  dL_told := (fun ⟨fd, F⟩ => ⟨fd, F, He.glo_ok X G (c.t.d.fact 23 (f := .glo "_law_told") rfl)⟩ : (∃ fd, FunD K "_law_told" "_law_told" (defArgs sL_told) (defBody sL_told) (defScope sL_told) [] [] (He.ga K "_law_told") fd) → Dn K mg "_law_told" sL_told) (c.t.d.def_ 23 (d := dD "_law_told" sL_told) rfl)
  dL_word := (fun ⟨fd, F⟩ => ⟨fd, F, He.glo_ok X G (c.t.d.fact 24 (f := .glo "_law_word") rfl)⟩ : (∃ fd, FunD K "_law_word" "_law_word" (defArgs sL_word) (defBody sL_word) (defScope sL_word) [] [] (He.ga K "_law_word") fd) → Dn K mg "_law_word" sL_word) (c.t.d.def_ 24 (d := dD "_law_word" sL_word) rfl)
  dL_meet := (fun ⟨fd, F⟩ => ⟨fd, F, He.glo_ok X G (c.t.d.fact 25 (f := .glo "_law_meet") rfl)⟩ : (∃ fd, FunD K "_law_meet" "_law_meet" (defArgs sL_meet) (defBody sL_meet) (defScope sL_meet) [] [] (He.ga K "_law_meet") fd) → Dn K mg "_law_meet" sL_meet) (c.t.d.def_ 25 (d := dD "_law_meet" sL_meet) rfl)
  dL_all := (fun ⟨fd, F⟩ => ⟨fd, F, He.glo_ok X G (c.t.d.fact 26 (f := .glo "_law_all") rfl)⟩ : (∃ fd, FunD K "_law_all" "_law_all" (defArgs sL_all) (defBody sL_all) (defScope sL_all) [] [] (He.ga K "_law_all") fd) → Dn K mg "_law_all" sL_all) (c.t.d.def_ 26 (d := dD "_law_all" sL_all) rfl)
  dL_in_order := (fun ⟨fd, F⟩ => ⟨fd, F, He.glo_ok X G (c.t.d.fact 27 (f := .glo "_law_in_order") rfl)⟩ : (∃ fd, FunD K "_law_in_order" "_law_in_order" (defArgs sL_in_order) (defBody sL_in_order) (defScope sL_in_order) [] [] (He.ga K "_law_in_order") fd) → Dn K mg "_law_in_order" sL_in_order) (c.t.d.def_ 27 (d := dD "_law_in_order" sL_in_order) rfl)
  dL_waiting_right := (fun ⟨fd, F⟩ => ⟨fd, F, He.glo_ok X G (c.t.d.fact 28 (f := .glo "_law_waiting_right") rfl)⟩ : (∃ fd, FunD K "_law_waiting_right" "_law_waiting_right" (defArgs sL_waiting_right) (defBody sL_waiting_right) (defScope sL_waiting_right) [] [] (He.ga K "_law_waiting_right") fd) → Dn K mg "_law_waiting_right" sL_waiting_right) (c.t.d.def_ 28 (d := dD "_law_waiting_right" sL_waiting_right) rfl)
  dL_holds := (fun ⟨fd, F⟩ => ⟨fd, F, He.glo_ok X G (c.t.d.fact 29 (f := .glo "_law_holds") rfl)⟩ : (∃ fd, FunD K "_law_holds" "_law_holds" (defArgs sL_holds) (defBody sL_holds) (defScope sL_holds) [] [] (He.ga K "_law_holds") fd) → Dn K mg "_law_holds" sL_holds) (c.t.d.def_ 29 (d := dD "_law_holds" sL_holds) rfl)
  dL_let := (fun ⟨fd, F⟩ => ⟨fd, F, He.glo_ok X G (c.t.d.fact 30 (f := .glo "_law_let") rfl)⟩ : (∃ fd, FunD K "_law_let" "_law_let" (defArgs sL_let) (defBody sL_let) (defScope sL_let) [] [] (He.ga K "_law_let") fd) → Dn K mg "_law_let" sL_let) (c.t.d.def_ 30 (d := dD "_law_let" sL_let) rfl)
  dL_others_stay := (fun ⟨fd, F⟩ => ⟨fd, F, He.glo_ok X G (c.t.d.fact 31 (f := .glo "_law_others_stay") rfl)⟩ : (∃ fd, FunD K "_law_others_stay" "_law_others_stay" (defArgs sL_others_stay) (defBody sL_others_stay) (defScope sL_others_stay) [] [] (He.ga K "_law_others_stay") fd) → Dn K mg "_law_others_stay" sL_others_stay) (c.t.d.def_ 31 (d := dD "_law_others_stay" sL_others_stay) rfl)
  dL_taken_right := (fun ⟨fd, F⟩ => ⟨fd, F, He.glo_ok X G (c.t.d.fact 32 (f := .glo "_law_taken_right") rfl)⟩ : (∃ fd, FunD K "_law_taken_right" "_law_taken_right" (defArgs sL_taken_right) (defBody sL_taken_right) (defScope sL_taken_right) [] [] (He.ga K "_law_taken_right") fd) → Dn K mg "_law_taken_right" sL_taken_right) (c.t.d.def_ 32 (d := dD "_law_taken_right" sL_taken_right) rfl)
  dL_deed_right := (fun ⟨fd, F⟩ => ⟨fd, F, He.glo_ok X G (c.t.d.fact 33 (f := .glo "_law_deed_right") rfl)⟩ : (∃ fd, FunD K "_law_deed_right" "_law_deed_right" (defArgs sL_deed_right) (defBody sL_deed_right) (defScope sL_deed_right) [] [] (He.ga K "_law_deed_right") fd) → Dn K mg "_law_deed_right" sL_deed_right) (c.t.d.def_ 33 (d := dD "_law_deed_right" sL_deed_right) rfl)
  dlaw := (fun ⟨fd, F⟩ => ⟨fd, F, He.glo_ok X G (c.t.d.fact 34 (f := .glo "law") rfl)⟩ : (∃ fd, FunD K "law" "law" (defArgs slaw) (defBody slaw) (defScope slaw) [] [] (He.ga K "law") fd) → Dn K mg "law" slaw) (c.t.d.def_ 34 (d := dD "law" slaw) rfl)
  len := He.free_ok X G (c.t.d.fact 35 (f := .free "len") rfl)
  max := He.free_ok X G (c.t.d.fact 36 (f := .free "max") rfl)
  min := He.free_ok X G (c.t.d.fact 37 (f := .free "min") rfl)
  sorted := He.free_ok X G (c.t.d.fact 38 (f := .free "sorted") rfl)
  range := He.free_ok X G (c.t.d.fact 39 (f := .free "range") rfl)
  enumerate := He.free_ok X G (c.t.d.fact 40 (f := .free "enumerate") rfl)
  dict := He.free_ok X G (c.t.d.fact 41 (f := .free "dict") rfl)
  list := He.free_ok X G (c.t.d.fact 42 (f := .free "list") rfl)
  reversed := He.free_ok X G (c.t.d.fact 43 (f := .free "reversed") rfl)
  set := He.free_ok X G (c.t.d.fact 44 (f := .free "set") rfl)
  any := He.free_ok X G (c.t.d.fact 45 (f := .free "any") rfl)
  int := He.free_ok X G (c.t.d.fact 46 (f := .free "int") rfl)
  isinstance := He.free_ok X G (c.t.d.fact 47 (f := .free "isinstance") rfl)
  veB := He.free_ok X G (c.t.d.fact 48 (f := .free "ValueError") rfl)
  mInit := (fun ⟨fd, F⟩ => ⟨fd, F, He.meth_ok (c.t.d.fact 64 (f := .meth "Locks" "__init__") rfl)⟩ : (∃ fd, FunD K "__init__" "Locks.__init__" (defArgs mInit) (defBody mInit) (defScope mInit) [] [] (He.ma K (He.ga K "Locks") "__init__") fd) → Mn K "Locks" "__init__" "Locks.__init__" mInit) (c.t.d.def_ 35 (d := dM "Locks" "__init__" "Locks.__init__" mInit) rfl)
  mTake := (fun ⟨fd, F⟩ => ⟨fd, F, He.meth_ok (c.t.d.fact 65 (f := .meth "Locks" "take") rfl)⟩ : (∃ fd, FunD K "take" "Locks.take" (defArgs mTake) (defBody mTake) (defScope mTake) [] [] (He.ma K (He.ga K "Locks") "take") fd) → Mn K "Locks" "take" "Locks.take" mTake) (c.t.d.def_ 36 (d := dM "Locks" "take" "Locks.take" mTake) rfl)
  mFree := (fun ⟨fd, F⟩ => ⟨fd, F, He.meth_ok (c.t.d.fact 66 (f := .meth "Locks" "free") rfl)⟩ : (∃ fd, FunD K "free" "Locks.free" (defArgs mFree) (defBody mFree) (defScope mFree) [] [] (He.ma K (He.ga K "Locks") "free") fd) → Mn K "Locks" "free" "Locks.free" mFree) (c.t.d.def_ 37 (d := dM "Locks" "free" "Locks.free" mFree) rfl)
  mLeave := (fun ⟨fd, F⟩ => ⟨fd, F, He.meth_ok (c.t.d.fact 67 (f := .meth "Locks" "leave") rfl)⟩ : (∃ fd, FunD K "leave" "Locks.leave" (defArgs mLeave) (defBody mLeave) (defScope mLeave) [] [] (He.ma K (He.ga K "Locks") "leave") fd) → Mn K "Locks" "leave" "Locks.leave" mLeave) (c.t.d.def_ 38 (d := dM "Locks" "leave" "Locks.leave" mLeave) rfl)
  cl := He.cls_ok (c.t.d.fact 60 (f := .cls "Locks") rfl)
  nP := He.noat_ok (c.t.d.fact 61 (f := .noat "Locks" "pieces") rfl)
  nW := He.noat_ok (c.t.d.fact 62 (f := .noat "Locks" "wished") rfl)
  mks := He.mkr_ok (c.t.d.fact 63 (f := .mkr "Locks") rfl)
  mgL := He.glo_ok X G (c.t.d.fact 59 (f := .glo "Locks") rfl)
theorem tx_of (X : K.In h) (G : h.Ns mainGlobals mg) (c : He.SaysX fa fn [] tf exB w h K) : Tx K mg := by
  obtain ⟨e1, e⟩ := He.ba c.more
  obtain ⟨e2, e⟩ := He.ba e
  obtain ⟨e3, e⟩ := He.ba e
  obtain ⟨e4, e⟩ := He.ba e
  obtain ⟨e5, e⟩ := He.ba e
  obtain ⟨w1, w2, w3, w4⟩ := He.exc_ok (c.t.d.fact 70 (f := .exc "Waiting") rfl)
  exact ⟨He.glo_ok X G (c.t.d.fact 49 (f := .glo "ShelfError") rfl), He.glo_ok X G (c.t.d.fact 50 (f := .glo "Ring") rfl), He.glo_ok X G (c.t.d.fact 51 (f := .glo "Waiting") rfl), e1, He.eqO_ok e2, fclB_ok e3, oexB_ok e4, (He.meth_ok (c.t.d.fact 68 (f := .meth "Ring" "__init__") rfl)).at_, of_decide_eq_true e5, c.t.d.def_ 39 (d := dM "Ring" "__init__" "Ring.__init__" mRing) rfl, He.noat_ok (c.t.d.fact 69 (f := .noat "Ring" "ring") rfl), w1, w2, w3, w4⟩
theorem ty_of (X : K.In h) (G : h.Ns mainGlobals mg) (c : He.SaysX fa fn [] tf exB w h K) : Ty K mg := by
  obtain ⟨e1, e⟩ := He.ba c.more
  obtain ⟨e2, e⟩ := He.ba e
  obtain ⟨e3, e⟩ := He.ba e
  obtain ⟨e4, e⟩ := He.ba e
  obtain ⟨e5, e⟩ := He.ba e
  obtain ⟨e6, e⟩ := He.ba e
  obtain ⟨e7, e8⟩ := He.ba e
  exact ⟨ex1B_ok e6, ex1B_ok e7, He.exm_ok (c.t.d.fact 71 (f := .exm "Ring" "ShelfError" true) rfl), He.exm_ok (c.t.d.fact 72 (f := .exm "Waiting" "ShelfError" true) rfl), of_decide_eq_true e8, He.glo_ok X G (c.t.d.fact 52 (f := .glo "NoOrder") rfl), He.glo_ok X G (c.t.d.fact 53 (f := .glo "NoMend") rfl), He.glo_ok X G (c.t.d.fact 54 (f := .glo "Busy") rfl), He.glo_ok X G (c.t.d.fact 55 (f := .glo "NoSession") rfl), He.glo_ok X G (c.t.d.fact 56 (f := .glo "NotAlone") rfl), He.glo_ok X G (c.t.d.fact 57 (f := .glo "BadEvent") rfl), He.glo_ok X G (c.t.d.fact 58 (f := .glo "NoRow") rfl)⟩
end
end FS
/-! F31 -/
set_option maxHeartbeats 0
namespace FS
open PySem PySem.Spec PyProof.Rows L2
/-! ### the head's run -/
abbrev RR : PySem.W.OpenRow := PySem.W.OpenLaw.row PySem.Challenge.rw_farshelf_k82_whole_never_against
/-- what the head looks at: what the names reach, and the statics -/
def seenA (g : Addr → Option Obj) : List Addr := PySem.cStatics :: He.asD g 5
def frS (g : Addr → Option Obj) : PySem.W.Frag := He.frT g (seenA g)
def obS (g : Addr → Option Obj) : He.AlX := (He.obsT fa fn [] (frS g), exB (frS g) && He.tabsB g tf (frS g))
theorem says_at {w : World} {h : Heap} (e : obS h.get? = He.valX fn [] w) : He.SaysX fa fn [] tf exB w h (frS h.get?) := by
  obtain ⟨m, tb⟩ := He.ba (show (exB (frS h.get?) && He.tabsB h.get? tf (frS h.get?)) = true from congrArg Prod.snd e)
  have at1 := List.all_eq_true.mp tb
  have at2 : ∀ p ∈ tf, ∃ u, h.get? (He.cT (frS h.get?) p).2 = some u ∧ He.emptyTab u = true := fun p hp => by
    have z := (He.ba (at1 p hp)).2
    split at z
    · exact ⟨_, ‹_›, z⟩
    · cases z
  refine ⟨congrArg Prod.fst e, m, fun p hp => (He.ba (at1 p hp)).1, fun p hp => ?_, fun p hp => ?_⟩
  · obtain ⟨u, g, z⟩ := at2 p hp
    exact He.frT_none g z
  · obtain ⟨u, g, z⟩ := at2 p hp
    rw [g, He.emptyTab_eq z]
abbrev hk : PySem.W.Hook where
  α := He.AlX
  obs := fun s => obS s.heap.get?
  val := fun w => He.valX fn [] w
  says := fun w h => ∃ K : PySem.W.Frag, K.In h ∧ He.SaysX fa fn [] tf exB w h K
  of := fun _ _ e => ⟨_, He.frT_in, says_at e⟩
  keeps := (He.hookX 5 fa fn [] tf exB).keeps
def ob (s : PySem.W.SharedT) : He.AlX := obS (HandSHeadRun.getT s)
theorem ob_eq (s : PySem.W.SharedT) : ob s = hk.obs s.abs := by
  have e : HandSHeadRun.getT s = s.abs.heap.get? := funext (HandSHeadRun.getT_eq s)
  unfold ob
  rw [e]
def nam0 : List Str := ["ShelfError", "NoOrder", "NoMend", "Waiting", "Ring", "Busy", "NoSession", "NotAlone", "BadEvent", "NoRow", "are_against", "against", "cut_out", "as_long", "Locks", "wish_of", "holders", "put_held", "let_in", "ring_by", "way_to", "held", "wishes", "waited_for", "_law_cell_at"]
def nam1 : List Str := ["_law_mix", "_law_rich", "_law_left", "_law_pick", "_law_numbers", "_law_places", "_law_world", "_law_stretch", "_law_told_by", "_law_told", "_law_word", "_law_meet", "_law_all", "_law_in_order", "_law_waiting_right", "_law_holds", "_law_let", "_law_others_stay", "_law_taken_right", "_law_deed_right"]
def nam : List Str := nam0 ++ nam1
theorem run (w : World) : HandSHeadRun.RunEq RR (PySem.W.view RR.prog [48]) hk ob 4000 nam w := by
  intro os
  kernel_rfl
end FS
/-! F32 -/
namespace FS
open PySem PySem.Spec PyProof.Rows L2
theorem law_at {w : World} {h : Heap} {K : PySem.W.Frag} {mg : Str → Option Value} {f : Addr} (KX : K.In h) (G : h.Ns mainGlobals mg) (c : He.SaysX fa fn [] tf exB w h K) (hf : mg ("law" : Str) = some (.ref f)) :
    LamX.LawAtS PySem.Challenge.rw_farshelf_k82_whole_never_against w K CX0 10 63 "_law_script" mg f h := by
  have T := txt_of KX G c
  have X := tx_of KX G c
  have Y := ty_of KX G c
  obtain ⟨fd, F, g⟩ := T.dlaw
  cases hf.symm.trans g
  obtain ⟨oc, od, osl, lk⟩ : ∃ oc od osl, K.lookup (He.ga K "law") = some ⟨oc, od, .func fd, osl⟩ := by
    obtain ⟨oc, od, _, _, _, _, _, _, _, osl, _, h, _⟩ := F.ex
    exact ⟨oc, od, osl, h⟩
  have b := FunD.bindsA (ps := ["_law_script"]) F fun _ _ _ _ _ _ us hl => match us, hl with | [_], _ => rfl
  have one : ∀ p ∈ [He.cT K pLong], p = He.cT K pLong := fun p hp => List.mem_singleton.mp hp
  have inT : pLong ∈ tf := List.mem_singleton.mpr rfl
  refine ⟨fd, [He.cT K pLong], splaw K, fun p hp => ?_, fun p hp => ?_, fun p hp => ?_, fun s u => b s [u] rfl, fun H a ns hl _ hT hS => ⟨a, ns, rfl, hS, hl, fun p hp => ?_, fun _ => rfl⟩, fun bs KB GB TB => ?_⟩
  · rw [one p hp]
    exact c.empty _ inT
  · rw [one p hp]
    exact c.out _ inT
  · rw [one p hp]
    exact PySem.W.codeHd_of_K KX (c.hd _ inT)
  · rw [show p = ((He.cT K pLong).2, qLam) from List.mem_singleton.mp hp]
    exact LamX.TabS.nil (hT _ (List.mem_singleton.mpr rfl))
  · obtain ⟨fd', F', _, _, _, oc', od', osl', lk'⟩ := ok_law (P := (PySem.Challenge.rw_farshelf_k82_whole_never_against).prog) (w := w) (base := bs) T X Y (TB _ (List.mem_singleton.mpr rfl))
    rw [lk] at lk'
    cases lk'
    exact F'
end FS
open PySem PySem.W PySem.Calls PyProof.Rows
theorem PySem.Challenge.cw_farshelf_k82_whole_never_against_holds : PySem.Challenge.rw_farshelf_k82_whole_never_against.Holds := by
  w_on; o_law
  refine HandSHeadRun.head_any (r := FS.RR) (q := view FS.RR.prog [48]) (H := FS.hk) (ob := FS.ob) (M := 4000) (loose := FS.nam) (d := HandSHeadRun.topDef FS.RR.prog 48) (kwd := []) FS.ob_eq
    (by kernel_rfl) (fun s => by kernel_rfl) FS.run (by kernel_rfl) (by kernel_rfl) (by kernel_rfl) (by rfl) (by first | assumption | decide +kernel) (by decide +kernel) ⟨rfl, rfl, rfl, rfl, rfl, by decide +kernel⟩ ?hw ?hc
  case hw => w_witness2
  case hc =>
    refine LamX.walk_ofTsE (l := PySem.Challenge.rw_farshelf_k82_whole_never_against) (n := 63) (k := 10) (x := "_law_script") (CX := fun _ => L2.CX0) rfl (by decide) (by kernel_rfl) ⟨rfl, by decide, by decide⟩ ?F (fun _ _ _ _ _ z => z)
    intro w mg f h Y G hmg0
    obtain ⟨K, KX, c⟩ := Y
    have hmg : mg ("law" : PySem.Str) = some (.ref f) := by
      have e : (HandSHeadRun.topDef FS.RR.prog 48).name = ("law" : PySem.Str) := by kernel_rfl
      rw [← e]
      exact hmg0
    exact ⟨K, KX, FS.law_at KX G c hmg⟩
