import PyProof.Rows.All
import Wide.All
import OpenK.AllK
import Wide.FinOn
import HandS.ForMost
import HandS.ForExc
import HandS.TupLen
import HandS.Star
import KE.SortData
import HandS.IsInst
import HandS.Defaults
import HandS.NoneIn
import HandS.Style
import HandS.Conv
import HandS.More
import HandS.Steps
import HandS.Text
import HandS.FStr
import HandS.ExcIs
import HandS.ExcOwn
import PySem.Challenge.RW_paironce_k66_whole_renamed_systems
set_option Elab.async false
set_option linter.all false
set_option maxRecDepth 100000
set_option maxHeartbeats 4000000
/-! # Renamed systems: a listed system is renamed by names that are a permutation; renaming composes, goes back, keeps the third points and the written form; names that are none are refused. -/
/-! ## The head: the written part of the program, opened once. -/
section
open PySem PySem.W PyProof.Rows
set_option maxHeartbeats 0
open_top hd for PySem.Challenge.rw_paironce_k66_whole_renamed_systems
end
/-! Plain mathematics of the law: third functions, the sorted list of their threes, renaming. Core Lean alone. -/
namespace PjM

abbrev Tri := Int × Int × Int

/-! ### strictly sorted lists -/
theorem srt_ext {α : Type} {R : α → α → Prop} (as : ∀ x y, R x y → R y x → False) : ∀ {l m : List α}, l.Pairwise R → m.Pairwise R → (∀ x, x ∈ l ↔ x ∈ m) → l = m
  | [], [], _, _, _ => rfl
  | [], y :: m, _, _, h => by
    have q := (h y).mpr List.mem_cons_self
    cases q
  | x :: l, [], _, _, h => by
    have q := (h x).mp List.mem_cons_self
    cases q
  | x :: l, y :: m, hl, hm, h => by
    have hl' := List.pairwise_cons.mp hl
    have hm' := List.pairwise_cons.mp hm
    have e : x = y := by
      rcases List.mem_cons.mp ((h x).mp List.mem_cons_self) with e | h1
      · exact e
      · rcases List.mem_cons.mp ((h y).mpr List.mem_cons_self) with e | h2
        · exact e.symm
        · exact (as _ _ (hm'.1 x h1) (hl'.1 y h2)).elim
    subst e
    refine congrArg (x :: ·) (srt_ext as hl'.2 hm'.2 fun z => ⟨fun hz => ?_, fun hz => ?_⟩)
    · rcases List.mem_cons.mp ((h z).mp (List.mem_cons_of_mem _ hz)) with e | q
      · subst e
        exact (as _ _ (hl'.1 z hz) (hl'.1 z hz)).elim
      · exact q
    · rcases List.mem_cons.mp ((h z).mpr (List.mem_cons_of_mem _ hz)) with e | q
      · subst e
        exact (as _ _ (hm'.1 z hz) (hm'.1 z hz)).elim
      · exact q

def tlt (s t : Tri) : Prop := s.1 < t.1 ∨ (s.1 = t.1 ∧ (s.2.1 < t.2.1 ∨ (s.2.1 = t.2.1 ∧ s.2.2 < t.2.2)))
def tle (s t : Tri) : Prop := ¬ tlt t s
theorem tlt_asymm (s t : Tri) (h1 : tlt s t) (h2 : tlt t s) : False := by
  obtain ⟨a, b, c⟩ := s
  obtain ⟨x, y, z⟩ := t
  simp only [tlt] at h1 h2
  omega
theorem tlt_of {s t : Tri} (h : tle s t) (hn : s ≠ t) : tlt s t := by
  obtain ⟨a, b, c⟩ := s
  obtain ⟨x, y, z⟩ := t
  simp only [tle, tlt] at h ⊢
  have : ¬ (a = x ∧ b = y ∧ c = z) := fun ⟨e1, e2, e3⟩ => hn (by rw [e1, e2, e3])
  omega

/-! ### the threes of a third function -/
def Thd (n : Nat) (f : Int → Int → Int) : Prop := ∀ a b : Int, 0 ≤ a → a < n → 0 ≤ b → b < n → a ≠ b →
  0 ≤ f a b ∧ f a b < n ∧ f a b ≠ a ∧ f a b ≠ b ∧ f b a = f a b ∧ f a (f a b) = b
def rowU (f : Int → Int → Int) (a : Int) (k : Nat) : List Tri :=
  ((List.range k).filter fun i : Nat => decide (a + 1 + (i : Int) < f a (a + 1 + (i : Int)))).map fun i : Nat => (a, a + 1 + (i : Int), f a (a + 1 + (i : Int)))
def colU (n : Nat) (f : Int → Int → Int) (i : Nat) : List Tri := (List.range i).flatMap fun a : Nat => rowU f (a : Int) (n - (a + 1))
def L (n : Nat) (f : Int → Int → Int) : List Tri := colU n f n
theorem rowU_zero (f : Int → Int → Int) (a : Int) : rowU f a 0 = [] := rfl
theorem rowU_yes {f : Int → Int → Int} {a : Int} {k : Nat} (h : a + 1 + (k : Int) < f a (a + 1 + (k : Int))) : rowU f a (k + 1) = rowU f a k ++ [(a, a + 1 + (k : Int), f a (a + 1 + (k : Int)))] := by
  unfold rowU
  rw [List.range_succ, List.filter_append, List.map_append]
  simp [h]
theorem rowU_no {f : Int → Int → Int} {a : Int} {k : Nat} (h : ¬ a + 1 + (k : Int) < f a (a + 1 + (k : Int))) : rowU f a (k + 1) = rowU f a k := by
  unfold rowU
  rw [List.range_succ, List.filter_append, List.map_append]
  simp [h]
theorem colU_zero (n : Nat) (f : Int → Int → Int) : colU n f 0 = [] := rfl
theorem colU_succ (n : Nat) (f : Int → Int → Int) (i : Nat) : colU n f (i + 1) = colU n f i ++ rowU f (i : Int) (n - (i + 1)) := by
  unfold colU
  rw [List.range_succ, List.flatMap_append]
  simp
theorem mem_rowU {f : Int → Int → Int} {a : Int} {k : Nat} {t : Tri} : t ∈ rowU f a k ↔ t.1 = a ∧ a < t.2.1 ∧ t.2.1 < a + 1 + k ∧ t.2.2 = f a t.2.1 ∧ t.2.1 < t.2.2 := by
  unfold rowU
  rw [List.mem_map]
  constructor
  · rintro ⟨i, hi, rfl⟩
    obtain ⟨h1, h2⟩ := List.mem_filter.mp hi
    have h1' := List.mem_range.mp h1
    have h2' := of_decide_eq_true h2
    refine ⟨rfl, ?_, ?_, rfl, h2'⟩
    · show a < a + 1 + (i : Int)
      omega
    · show a + 1 + (i : Int) < a + 1 + k
      omega
  · obtain ⟨x, b, c⟩ := t
    rintro ⟨h1, h2, h3, h4, h5⟩
    dsimp only at h1 h2 h3 h4 h5
    subst h1
    have e : x + 1 + ((b - x - 1).toNat : Int) = b := by omega
    refine ⟨(b - x - 1).toNat, List.mem_filter.mpr ⟨List.mem_range.mpr (by omega), ?_⟩, ?_⟩
    · rw [e, ← h4]
      exact decide_eq_true h5
    · rw [e, ← h4]
theorem mem_L {n : Nat} {f : Int → Int → Int} {t : Tri} : t ∈ L n f ↔ 0 ≤ t.1 ∧ t.1 < t.2.1 ∧ t.2.1 < n ∧ t.2.2 = f t.1 t.2.1 ∧ t.2.1 < t.2.2 := by
  unfold L colU
  rw [List.mem_flatMap]
  constructor
  · rintro ⟨i, hi, h⟩
    have hi' := List.mem_range.mp hi
    obtain ⟨h1, h2, h3, h4, h5⟩ := mem_rowU.mp h
    refine ⟨by omega, by omega, by omega, ?_, h5⟩
    rw [h1]
    exact h4
  · rintro ⟨h1, h2, h3, h4, h5⟩
    have e : ((t.1.toNat : Nat) : Int) = t.1 := by omega
    refine ⟨t.1.toNat, List.mem_range.mpr (by omega), mem_rowU.mpr ?_⟩
    rw [e]
    exact ⟨rfl, h2, by omega, h4, h5⟩
theorem rowU_srt (f : Int → Int → Int) (a : Int) (k : Nat) : (rowU f a k).Pairwise tlt := by
  unfold rowU
  refine List.pairwise_map.mpr ((List.pairwise_lt_range (n := k)).filter _ |>.imp fun {i j} h => Or.inr ⟨rfl, Or.inl ?_⟩)
  show a + 1 + (i : Int) < a + 1 + (j : Int)
  omega
theorem L_srt (n : Nat) (f : Int → Int → Int) : (L n f).Pairwise tlt := by
  unfold L
  suffices h : ∀ i, (colU n f i).Pairwise tlt from h n
  intro i
  induction i with
  | zero => exact .nil
  | succ i ih =>
    rw [colU_succ]
    refine List.pairwise_append.mpr ⟨ih, rowU_srt _ _ _, fun s hs t ht => ?_⟩
    obtain ⟨j, hj, hs'⟩ := List.mem_flatMap.mp hs
    have hj' := List.mem_range.mp hj
    have h1 := (mem_rowU.mp hs').1
    have h2 := (mem_rowU.mp ht).1
    simp only [tlt]
    omega
theorem L_nodup (n : Nat) (f : Int → Int → Int) : (L n f).Nodup := (L_srt n f).imp fun {a b} h e => by
  subst e
  exact tlt_asymm _ _ h h
theorem L_ext {n : Nat} {f : Int → Int → Int} {m : List Tri} (hm : m.Pairwise tlt) (h : ∀ x, x ∈ m ↔ x ∈ L n f) : m = L n f := srt_ext tlt_asymm hm (L_srt n f) h
theorem L_congr {n : Nat} {f g : Int → Int → Int} (h : ∀ a b : Int, 0 ≤ a → a < n → 0 ≤ b → b < n → a ≠ b → f a b = g a b) : L n f = L n g := by
  refine L_ext (L_srt n f) fun x => ?_
  rw [mem_L, mem_L]
  constructor
  · rintro ⟨h1, h2, h3, h4, h5⟩
    refine ⟨h1, h2, h3, ?_, h5⟩
    rw [← h _ _ h1 (by omega) (by omega) h3 (by omega)]
    exact h4
  · rintro ⟨h1, h2, h3, h4, h5⟩
    refine ⟨h1, h2, h3, ?_, h5⟩
    rw [h _ _ h1 (by omega) (by omega) h3 (by omega)]
    exact h4
theorem Thd.congr {n : Nat} {f g : Int → Int → Int} (T : Thd n f) (h : ∀ a b : Int, 0 ≤ a → a < n → 0 ≤ b → b < n → a ≠ b → g a b = f a b) : Thd n g := by
  intro a b ha ha' hb hb' hn
  obtain ⟨t1, t2, t3, t4, t5, t6⟩ := T a b ha ha' hb hb' hn
  rw [h a b ha ha' hb hb' hn, h b a hb hb' ha ha' hn.symm, h a (f a b) ha ha' t1 t2 t3.symm]
  exact ⟨t1, t2, t3, t4, t5, t6⟩
/-- of a three: every two points have the other one as their third -/
theorem Thd.three {n : Nat} {f : Int → Int → Int} (T : Thd n f) {a b c : Int} (ha : 0 ≤ a) (ha' : a < n) (hb : 0 ≤ b) (hb' : b < n) (hn : a ≠ b) (hc : c = f a b) :
    0 ≤ c ∧ c < n ∧ c ≠ a ∧ c ≠ b ∧ f a b = c ∧ f b a = c ∧ f a c = b ∧ f c a = b ∧ f b c = a ∧ f c b = a := by
  obtain ⟨t1, t2, t3, t4, t5, t6⟩ := T a b ha ha' hb hb' hn
  obtain ⟨u1, u2, u3, u4, u5, u6⟩ := T b a hb hb' ha ha' hn.symm
  subst hc
  have r1 := (T a (f a b) ha ha' t1 t2 t3.symm).2.2.2.2.1
  have r2 := (T b (f a b) hb hb' t1 t2 t4.symm).2.2.2.2.1
  have e1 : f b (f a b) = a := by
    rw [← t5]
    exact u6
  exact ⟨t1, t2, t3, t4, rfl, t5, t6, r1.trans t6, e1, r2.trans e1⟩
theorem mem_asc {n : Nat} {f : Int → Int → Int} (T : Thd n f) {t : Tri} (h : t ∈ L n f) : 0 ≤ t.1 ∧ t.1 < t.2.1 ∧ t.2.1 < t.2.2 ∧ t.2.2 < n := by
  obtain ⟨h1, h2, h3, h4, h5⟩ := mem_L.mp h
  obtain ⟨_, q, _⟩ := T.three h1 (by omega) (by omega) h3 (by omega) h4
  exact ⟨h1, h2, h5, q⟩

/-! ### three ints in order -/
def s3 (a b c : Int) : Tri :=
  if a ≤ b then (if b ≤ c then (a, b, c) else if a ≤ c then (a, c, b) else (c, a, b))
  else (if a ≤ c then (b, a, c) else if b ≤ c then (b, c, a) else (c, b, a))
theorem s3_sorted (a b c : Int) : (s3 a b c).1 ≤ (s3 a b c).2.1 ∧ (s3 a b c).2.1 ≤ (s3 a b c).2.2 := by
  unfold s3
  split <;> (repeat' split) <;> (dsimp only; omega)
theorem s3_perm (a b c : Int) : [(s3 a b c).1, (s3 a b c).2.1, (s3 a b c).2.2].Perm [a, b, c] := by
  unfold s3
  split
  · split
    · exact .refl _
    · split
      · exact .cons _ (.swap _ _ _)
      · exact (List.Perm.swap _ _ _).trans (.cons _ (.swap _ _ _))
  · split
    · exact .swap _ _ _
    · split
      · exact (List.Perm.cons _ (.swap _ _ _)).trans (.swap _ _ _)
      · exact (List.Perm.swap _ _ _).trans ((List.Perm.cons _ (.swap _ _ _)).trans (.swap _ _ _))
theorem s3_asc {a b c : Int} (h : a < b) (h' : b < c) : s3 a b c = (a, b, c) := by
  unfold s3
  rw [if_pos (by omega), if_pos (by omega)]

/-! ### sorted lists of ints are told by their members' numbers -/
theorem ile_uniq : ∀ {l m : List Int}, l.Pairwise (· ≤ ·) → m.Pairwise (· ≤ ·) → l.Perm m → l = m
  | [], m, _, _, h => (List.Perm.nil_eq h)
  | x :: l, [], _, _, h => by
    have := h.length_eq
    simp at this
  | x :: l, y :: m, hl, hm, h => by
    have hl' := List.pairwise_cons.mp hl
    have hm' := List.pairwise_cons.mp hm
    have e : x = y := by
      have h1 : x ∈ y :: m := h.mem_iff.mp List.mem_cons_self
      have h2 : y ∈ x :: l := h.mem_iff.mpr List.mem_cons_self
      rcases List.mem_cons.mp h1 with e | h1
      · exact e
      · rcases List.mem_cons.mp h2 with e | h2
        · exact e.symm
        · have a1 := hm'.1 x h1
          have a2 := hl'.1 y h2
          omega
    subst e
    exact congrArg (x :: ·) (ile_uniq hl'.2 hm'.2 h.cons_inv)
theorem s3_of {a b c : Int} {l : List Int} (h : l.Perm [a, b, c]) (hs : l.Pairwise (· ≤ ·)) : l = [(s3 a b c).1, (s3 a b c).2.1, (s3 a b c).2.2] := by
  refine ile_uniq hs ?_ (h.trans (s3_perm a b c).symm)
  have q := s3_sorted a b c
  refine List.pairwise_cons.mpr ⟨fun z hz => ?_, List.pairwise_cons.mpr ⟨fun z hz => ?_, List.pairwise_singleton _ _⟩⟩
  · rcases List.mem_cons.mp hz with e | hz
    · rw [e]; exact q.1
    · rw [List.mem_singleton.mp hz]; omega
  · rw [List.mem_singleton.mp hz]; exact q.2

/-! ### names -/
def iota (n : Nat) : List Int := (List.range n).map fun i : Nat => (i : Int)
theorem mem_iota {n : Nat} {x : Int} : x ∈ iota n ↔ 0 ≤ x ∧ x < n := by
  unfold iota
  rw [List.mem_map]
  constructor
  · rintro ⟨i, hi, rfl⟩
    have := List.mem_range.mp hi
    omega
  · rintro ⟨h1, h2⟩
    exact ⟨x.toNat, List.mem_range.mpr (by omega), by omega⟩
theorem iota_len (n : Nat) : (iota n).length = n := by unfold iota; simp
theorem iota_lt (n : Nat) : (iota n).Pairwise (· < ·) := List.pairwise_map.mpr ((List.pairwise_lt_range (n := n)).imp fun {a b} h => by omega)
theorem iota_le (n : Nat) : (iota n).Pairwise (· ≤ ·) := (iota_lt n).imp fun {a b} h => by omega
theorem iota_nd (n : Nat) : (iota n).Nodup := (iota_lt n).imp fun {a b} h => by omega
theorem iota_get {n i : Nat} (h : i < n) : (iota n)[i]? = some (i : Int) := by
  unfold iota
  rw [List.getElem?_map, List.getElem?_range h]
  rfl
theorem iota_succ (n : Nat) : iota (n + 1) = iota n ++ [(n : Int)] := by
  unfold iota
  rw [List.range_succ, List.map_append]
  rfl
def Nm (n : Nat) (xs : List Int) : Prop := xs.Perm (iota n)
def pOf (xs : List Int) (i : Int) : Int := xs.getD i.toNat 0
def qOf (xs : List Int) (x : Int) : Int := (xs.idxOf x : Int)
section
variable {n : Nat} {xs ys : List Int}
theorem Nm.len (h : Nm n xs) : xs.length = n := h.length_eq.trans (iota_len n)
theorem Nm.nd (h : Nm n xs) : xs.Nodup := h.nodup_iff.mpr (iota_nd n)
theorem Nm.mem (h : Nm n xs) {x : Int} : x ∈ xs ↔ 0 ≤ x ∧ x < n := h.mem_iff.trans mem_iota
theorem Nm.get (h : Nm n xs) {i : Int} (h0 : 0 ≤ i) (h1 : i < n) : xs[i.toNat]? = some (pOf xs i) := by
  have hl : i.toNat < xs.length := by rw [h.len]; omega
  unfold pOf
  rw [List.getD_eq_getElem?_getD, List.getElem?_eq_getElem hl]
  rfl
theorem Nm.p (h : Nm n xs) {i : Int} (h0 : 0 ≤ i) (h1 : i < n) : 0 ≤ pOf xs i ∧ pOf xs i < n := h.mem.mp (List.mem_of_getElem? (h.get h0 h1))
theorem Nm.q (h : Nm n xs) {x : Int} (h0 : 0 ≤ x) (h1 : x < n) : 0 ≤ qOf xs x ∧ qOf xs x < n := by
  have q := List.idxOf_lt_length_of_mem (h.mem.mpr ⟨h0, h1⟩)
  rw [h.len] at q
  unfold qOf
  omega
theorem Nm.pq (h : Nm n xs) {x : Int} (h0 : 0 ≤ x) (h1 : x < n) : pOf xs (qOf xs x) = x := by
  have q := List.idxOf_lt_length_of_mem (h.mem.mpr ⟨h0, h1⟩)
  have e : (qOf xs x).toNat = xs.idxOf x := by unfold qOf; omega
  unfold pOf
  rw [e, List.getD_eq_getElem?_getD, List.getElem?_eq_getElem q]
  exact List.getElem_idxOf q
theorem Nm.inj (h : Nm n xs) {i j : Int} (h0 : 0 ≤ i) (h1 : i < n) (k0 : 0 ≤ j) (k1 : j < n) (e : pOf xs i = pOf xs j) : i = j := by
  have a := h.get h0 h1
  have b := h.get k0 k1
  rw [← e] at b
  obtain ⟨a1, a2⟩ := List.getElem?_eq_some_iff.mp a
  obtain ⟨b1, b2⟩ := List.getElem?_eq_some_iff.mp b
  have := (List.getElem_inj h.nd).mp (a2.trans b2.symm)
  omega
theorem Nm.qp (h : Nm n xs) {i : Int} (h0 : 0 ≤ i) (h1 : i < n) : qOf xs (pOf xs i) = i := by
  have p := h.p h0 h1
  have q := h.q p.1 p.2
  exact h.inj q.1 q.2 h0 h1 (h.pq p.1 p.2)
/-- the third function under other names -/
def cj (xs : List Int) (f : Int → Int → Int) : Int → Int → Int := fun x y => pOf xs (f (qOf xs x) (qOf xs y))
theorem Nm.q_ne (h : Nm n xs) {x y : Int} (h0 : 0 ≤ x) (h1 : x < n) (k0 : 0 ≤ y) (k1 : y < n) (hn : x ≠ y) : qOf xs x ≠ qOf xs y := fun e => hn (by
  have := congrArg (pOf xs) e
  rwa [h.pq h0 h1, h.pq k0 k1] at this)
theorem Thd.cj {f : Int → Int → Int} (T : Thd n f) (h : Nm n xs) : Thd n (cj xs f) := by
  intro x y hx hx' hy hy' hn
  have qx := h.q hx hx'
  have qy := h.q hy hy'
  have t := T.three qx.1 qx.2 qy.1 qy.2 (h.q_ne hx hx' hy hy' hn) rfl
  generalize hc : f (qOf xs x) (qOf xs y) = c at t
  obtain ⟨c0, c1, c2, c3, c4, c5, c6, c7, c8, c9⟩ := t
  have pc := h.p c0 c1
  unfold PjM.cj
  rw [c5, hc, h.qp c0 c1, c6, h.pq hy hy']
  refine ⟨pc.1, pc.2, fun e => c2 ?_, fun e => c3 ?_, rfl, rfl⟩
  · rw [← h.qp c0 c1, e]
  · rw [← h.qp c0 c1, e]
theorem cj_p {f : Int → Int → Int} (h : Nm n xs) {a b : Int} (ha : 0 ≤ a) (ha' : a < n) (hb : 0 ≤ b) (hb' : b < n) : PjM.cj xs f (pOf xs a) (pOf xs b) = pOf xs (f a b) := by
  unfold PjM.cj
  rw [h.qp ha ha', h.qp hb hb']

def renT (xs : List Int) (T : List Tri) : List Tri := T.map fun t => s3 (pOf xs t.1) (pOf xs t.2.1) (pOf xs t.2.2)
theorem pair_eq {x y z a b c : Int} : ((x, y, z) : Tri) = (a, b, c) ↔ x = a ∧ y = b ∧ z = c := by
  rw [Prod.mk.injEq, Prod.mk.injEq]
/-- a three of pairwise unlike names, in order, is a three of the renamed system -/
theorem s3_mem {f : Int → Int → Int} (T : Thd n f) {a b c : Int} (ha : 0 ≤ a) (ha' : a < n) (hb : 0 ≤ b) (hb' : b < n) (hn : a ≠ b) (hc : c = f a b) : s3 a b c ∈ L n f := by
  obtain ⟨c0, c1, c2, c3, c4, c5, c6, c7, c8, c9⟩ := T.three ha ha' hb hb' hn hc
  rw [mem_L]
  unfold s3
  split <;> (repeat' split) <;> (dsimp only; omega)
theorem s3_comm12 (a b c : Int) : s3 b a c = s3 a b c := by
  unfold s3
  split <;> split <;> (repeat' split) <;> (rw [pair_eq]; omega)
theorem s3_comm23 (a b c : Int) : s3 a c b = s3 a b c := by
  unfold s3
  split <;> split <;> (repeat' split) <;> (rw [pair_eq]; omega)
/-- what the sort of three leaves does not hang on their order, also behind a map -/
theorem s3_map (g : Int → Int) (a b c : Int) : s3 (g (s3 a b c).1) (g (s3 a b c).2.1) (g (s3 a b c).2.2) = s3 (g a) (g b) (g c) := by
  generalize hx : s3 a b c = t
  unfold s3 at hx
  split at hx <;> (repeat' split at hx) <;> (subst hx; dsimp only)
  · rw [s3_comm23]
  · rw [s3_comm12, s3_comm23]
  · rw [s3_comm12]
  · rw [s3_comm23, s3_comm12]
  · rw [s3_comm12, s3_comm23, s3_comm12]
theorem ren_mem {f : Int → Int → Int} (T : Thd n f) (h : Nm n xs) {x : Tri} : x ∈ renT xs (L n f) ↔ x ∈ L n (PjM.cj xs f) := by
  constructor
  · intro hx
    obtain ⟨t, ht, rfl⟩ := List.mem_map.mp hx
    obtain ⟨a, b, c⟩ := t
    obtain ⟨h1, h2, h3, h4⟩ := mem_asc T ht
    have e := (mem_L.mp ht).2.2.2.1
    dsimp only at h1 h2 h3 h4 e ⊢
    have pa := h.p h1 (show a < n by omega)
    have pb := h.p (show 0 ≤ b by omega) (show b < n by omega)
    refine s3_mem (T.cj h) pa.1 pa.2 pb.1 pb.2 (fun e => ?_) ?_
    · have := h.inj h1 (by omega) (by omega) (by omega) e
      omega
    · rw [cj_p h h1 (by omega) (by omega) (by omega), e]
  · intro hx
    have hm := mem_L.mp hx
    have ha := mem_asc (T.cj h) hx
    obtain ⟨x, y, z⟩ := x
    dsimp only at hm ha
    obtain ⟨h1, h2, h3, h4⟩ := ha
    have e := hm.2.2.2.1
    have qx := h.q h1 (show x < n by omega)
    have qy := h.q (show 0 ≤ y by omega) (show y < n by omega)
    have hne := h.q_ne h1 (show x < n by omega) (show 0 ≤ y by omega) (show y < n by omega) (show x ≠ y by omega)
    refine List.mem_map.mpr ⟨s3 (qOf xs x) (qOf xs y) (f (qOf xs x) (qOf xs y)), s3_mem T qx.1 qx.2 qy.1 qy.2 hne rfl, ?_⟩
    rw [s3_map, h.pq h1 (by omega), h.pq (by omega) (by omega)]
    show s3 x y (PjM.cj xs f x y) = (x, y, z)
    rw [← e]
    exact s3_asc h2 h3
theorem ren_nd {f : Int → Int → Int} (T : Thd n f) (h : Nm n xs) : (renT xs (L n f)).Nodup := by
  have back : ∀ t ∈ L n f, s3 (qOf xs (s3 (pOf xs t.1) (pOf xs t.2.1) (pOf xs t.2.2)).1) (qOf xs (s3 (pOf xs t.1) (pOf xs t.2.1) (pOf xs t.2.2)).2.1) (qOf xs (s3 (pOf xs t.1) (pOf xs t.2.1) (pOf xs t.2.2)).2.2) = t := by
    intro t ht
    obtain ⟨h1, h2, h3, h4⟩ := mem_asc T ht
    rw [s3_map, h.qp h1 (by omega), h.qp (by omega) (by omega), h.qp (by omega) h4]
    exact s3_asc h2 h3
  unfold renT
  refine List.pairwise_map.mpr ((List.Pairwise.and_mem.mp (L_nodup n f)).imp fun {s t} h e => h.2.2 ?_)
  rw [← back s h.1, ← back t h.2.1, e]
theorem srt_strict {l : List Tri} (hs : l.Pairwise tle) (hn : l.Nodup) : l.Pairwise tlt := (hs.and hn).imp fun {a b} h => tlt_of h.1 h.2
/-- THE renamed list: however the names of the threes are put in order -/
theorem ren_eq {f : Int → Int → Int} (T : Thd n f) (h : Nm n xs) {R : List Tri} (hp : R.Perm (renT xs (L n f))) (hs : R.Pairwise tle) : R = L n (PjM.cj xs f) :=
  L_ext (srt_strict hs (hp.nodup_iff.mpr (ren_nd T h))) fun _ => hp.mem_iff.trans (ren_mem T h)
theorem ren_len {f : Int → Int → Int} (T : Thd n f) (h : Nm n xs) : (L n (PjM.cj xs f)).length = (L n f).length := by
  have p : (renT xs (L n f)).Perm (L n (PjM.cj xs f)) := by
    refine List.perm_iff_count.mpr fun x => ?_
    have e1 := (ren_nd T h).count (a := x)
    have e2 := (L_nodup n (PjM.cj xs f)).count (a := x)
    rw [e1, e2]
    by_cases q : x ∈ L n (PjM.cj xs f)
    · rw [if_pos q, if_pos ((ren_mem T h).mpr q)]
    · rw [if_neg q, if_neg fun z => q ((ren_mem T h).mp z)]
  rw [← p.length_eq]
  unfold renT
  rw [List.length_map]
/-! names one after another, turned back, the identity -/
def cmpN (xs ys : List Int) : List Int := xs.map (pOf ys)
theorem cmpN_get (h : Nm n xs) {i : Int} (h0 : 0 ≤ i) (h1 : i < n) : pOf (cmpN xs ys) i = pOf ys (pOf xs i) := by
  have q := h.get h0 h1
  show (cmpN xs ys).getD i.toNat 0 = _
  unfold cmpN
  rw [List.getD_eq_getElem?_getD, List.getElem?_map, q]
  rfl
theorem perm_sub : ∀ {l m : List Int}, l.Nodup → (∀ x ∈ l, x ∈ m) → m.length ≤ l.length → l.Perm m
  | [], m, _, _, h => by
    have e : m = [] := List.length_eq_zero_iff.mp (Nat.le_zero.mp h)
    rw [e]
  | x :: l, m, hn, hs, h => by
    have hn' := List.nodup_cons.mp hn
    have hx : x ∈ m := hs x List.mem_cons_self
    have ih : l.Perm (m.erase x) := perm_sub hn'.2 (fun z hz => (List.mem_erase_of_ne (fun e => hn'.1 (by rw [← e]; exact hz))).mpr (hs z (List.mem_cons_of_mem _ hz))) (by
      rw [List.length_erase_of_mem hx]
      rw [List.length_cons] at h
      omega)
    exact (ih.cons x).trans (List.perm_cons_erase hx).symm
theorem nm_of {zs : List Int} (hl : zs.length = n) (hn : zs.Nodup) (hm : ∀ x ∈ zs, 0 ≤ x ∧ x < n) : Nm n zs := by
  exact perm_sub hn (fun x hx => mem_iota.mpr (hm x hx)) (by rw [iota_len, hl]; exact Nat.le_refl _)
theorem cmpN_nm (h : Nm n xs) (h' : Nm n ys) : Nm n (cmpN xs ys) := by
  refine nm_of (by unfold cmpN; rw [List.length_map]; exact h.len) ?_ fun x hx => ?_
  · unfold cmpN
    refine List.pairwise_map.mpr ((List.Pairwise.and_mem.mp h.nd).imp fun {s t} k e => k.2.2 ?_)
    have a := h.mem.mp k.1
    have b := h.mem.mp k.2.1
    exact h'.inj a.1 a.2 b.1 b.2 e
  · obtain ⟨y, hy, rfl⟩ := List.mem_map.mp hx
    have a := h.mem.mp hy
    exact h'.p a.1 a.2
theorem cmpN_q (h : Nm n xs) (h' : Nm n ys) {x : Int} (h0 : 0 ≤ x) (h1 : x < n) : qOf (cmpN xs ys) x = qOf xs (qOf ys x) := by
  have C := cmpN_nm h h'
  have a := h'.q h0 h1
  have b := h.q a.1 a.2
  have c := C.q h0 h1
  refine C.inj c.1 c.2 b.1 b.2 ?_
  rw [C.pq h0 h1, cmpN_get h b.1 b.2, h.pq a.1 a.2, h'.pq h0 h1]
theorem cj_cmp {f : Int → Int → Int} (T : Thd n f) (h : Nm n xs) (h' : Nm n ys) : L n (PjM.cj ys (PjM.cj xs f)) = L n (PjM.cj (cmpN xs ys) f) := by
  refine L_congr fun a b ha ha' hb hb' hn => ?_
  have qa := h'.q ha ha'
  have qb := h'.q hb hb'
  have ra := h.q qa.1 qa.2
  have rb := h.q qb.1 qb.2
  have t := T _ _ ra.1 ra.2 rb.1 rb.2 (h.q_ne qa.1 qa.2 qb.1 qb.2 (h'.q_ne ha ha' hb hb' hn))
  show pOf ys (pOf xs (f (qOf xs (qOf ys a)) (qOf xs (qOf ys b)))) = pOf (cmpN xs ys) (f (qOf (cmpN xs ys) a) (qOf (cmpN xs ys) b))
  rw [cmpN_q h h' ha ha', cmpN_q h h' hb hb', cmpN_get h t.1 t.2.1]
theorem nm_iota (n : Nat) : Nm n (iota n) := .refl _
theorem pOf_iota {i : Int} (h0 : 0 ≤ i) (h1 : i < n) : pOf (iota n) i = i := by
  unfold pOf
  rw [List.getD_eq_getElem?_getD, iota_get (by omega)]
  show ((i.toNat : Nat) : Int) = i
  omega
theorem cj_id {f : Int → Int → Int} (T : Thd n f) (h : Nm n xs) (hid : ∀ i : Int, 0 ≤ i → i < n → pOf xs i = i) : L n (PjM.cj xs f) = L n f := by
  refine L_congr fun a b ha ha' hb hb' hn => ?_
  have e : ∀ x : Int, 0 ≤ x → x < n → qOf xs x = x := fun x h0 h1 => by
    have := h.qp h0 h1
    rwa [hid x h0 h1] at this
  have t := T a b ha ha' hb hb' hn
  show pOf xs (f (qOf xs a) (qOf xs b)) = f a b
  rw [e a ha ha', e b hb hb', hid _ t.1 t.2.1]
/-- turned back: zs has at each name its point -/
theorem back_nm (h : Nm n xs) {zs : List Int} (hl : zs.length = n) (hz : ∀ i : Int, 0 ≤ i → i < n → zs[(pOf xs i).toNat]? = some i) : Nm n zs ∧ cmpN xs zs = iota n := by
  have at' : ∀ j : Nat, j < n → zs[j]? = some (qOf xs j) := fun j hj => by
    have q := h.q (show (0 : Int) ≤ j by omega) (show (j : Int) < n by omega)
    have r := hz _ q.1 q.2
    rw [h.pq (by omega) (by omega)] at r
    exact r
  have e : zs = (iota n).map (qOf xs) := by
    refine List.ext_getElem? fun j => ?_
    by_cases hj : j < n
    · rw [at' j hj, List.getElem?_map, iota_get hj]
      rfl
    · rw [List.getElem?_eq_none (by omega), List.getElem?_eq_none (by rw [List.length_map, iota_len]; omega)]
  have nm : Nm n zs := by
    refine nm_of hl ?_ fun x hx => ?_
    · rw [e]
      refine List.pairwise_map.mpr ((List.Pairwise.and_mem.mp (iota_nd n)).imp fun {s t} k e => ?_)
      have a := mem_iota.mp k.1
      have b := mem_iota.mp k.2.1
      exact h.q_ne a.1 a.2 b.1 b.2 k.2.2 e
    · rw [e] at hx
      obtain ⟨y, hy, rfl⟩ := List.mem_map.mp hx
      have a := mem_iota.mp hy
      exact h.q a.1 a.2
  refine ⟨nm, List.ext_getElem? fun j => ?_⟩
  unfold cmpN
  rw [List.getElem?_map]
  by_cases hj : j < n
  · have g := h.get (show (0 : Int) ≤ j by omega) (show (j : Int) < n by omega)
    have e0 : (j : Int).toNat = j := by omega
    rw [e0] at g
    rw [g, iota_get hj]
    show some (pOf zs (pOf xs j)) = some (j : Int)
    have r := hz j (by omega) (by omega)
    unfold pOf at r ⊢
    rw [List.getD_eq_getElem?_getD, r]
    rfl
  · rw [List.getElem?_eq_none (by rw [h.len]; omega), List.getElem?_eq_none (by rw [iota_len]; omega)]
    rfl
end

/-! ### the listed system's own third function -/
def inT (x : Int) (t : Tri) : Bool := decide (x = t.1) || (decide (x = t.2.1) || decide (x = t.2.2))
def thdL (T : List Tri) (a b : Int) : Int := ((T.filter fun t => inT a t && inT b t).map fun t => t.1 + t.2.1 + t.2.2 - a - b).headD 0
theorem thdL_eq {n : Nat} {f : Int → Int → Int} (H : Thd n f) {a b : Int} (ha : 0 ≤ a) (ha' : a < n) (hb : 0 ≤ b) (hb' : b < n) (hn : a ≠ b) :
    ∃ t, ((L n f).filter fun t => inT a t && inT b t) = [t] ∧ t.1 + t.2.1 + t.2.2 - a - b = f a b := by
  have hm := s3_mem H ha ha' hb hb' hn rfl
  have t := H.three ha ha' hb hb' hn rfl
  generalize hc : f a b = c at t hm
  obtain ⟨c0, c1, c2, c3, c4, c5, c6, c7, c8, c9⟩ := t
  have uniq : ∀ s ∈ L n f, inT a s = true → inT b s = true → s = s3 a b c := by
    intro s hs h1 h2
    have k := mem_asc H hs
    have kk := (mem_L.mp hs).2.2.2.1
    obtain ⟨x, y, z⟩ := s
    dsimp only at k kk
    have r := H.three k.1 (by omega) (by omega) (by omega) (by omega) kk
    obtain ⟨r0, r1, r2, r3, r4, r5, r6, r7, r8, r9⟩ := r
    simp only [inT, Bool.or_eq_true, decide_eq_true_eq] at h1 h2
    have hz : (a = x ∧ b = y ∧ c = z) ∨ (a = x ∧ b = z ∧ c = y) ∨ (a = y ∧ b = x ∧ c = z) ∨ (a = y ∧ b = z ∧ c = x) ∨ (a = z ∧ b = x ∧ c = y) ∨ (a = z ∧ b = y ∧ c = x) := by
      rcases h1 with e | e | e <;> rcases h2 with e' | e' | e' <;> subst e e' <;> first
        | exact absurd rfl hn
        | (rw [← hc]; omega)
    rcases hz with ⟨rfl, rfl, rfl⟩ | ⟨rfl, rfl, rfl⟩ | ⟨rfl, rfl, rfl⟩ | ⟨rfl, rfl, rfl⟩ | ⟨rfl, rfl, rfl⟩ | ⟨rfl, rfl, rfl⟩ <;> (unfold s3; (repeat' split) <;> (rw [pair_eq]; omega))
  have ina : inT a (s3 a b c) = true ∧ inT b (s3 a b c) = true ∧ (s3 a b c).1 + (s3 a b c).2.1 + (s3 a b c).2.2 - a - b = c := by
    simp only [inT, Bool.or_eq_true, decide_eq_true_eq]
    unfold s3
    split <;> (repeat' split) <;> (dsimp only; omega)
  refine ⟨s3 a b c, ?_, ina.2.2⟩
  have h1 : ((L n f).filter fun t => inT a t && inT b t).Nodup := (L_nodup n f).filter _
  have h2 : ∀ s, s ∈ ((L n f).filter fun t => inT a t && inT b t) ↔ s = s3 a b c := fun s => by
    rw [List.mem_filter, Bool.and_eq_true]
    constructor
    · rintro ⟨hs, k1, k2⟩
      exact uniq s hs k1 k2
    · rintro rfl
      exact ⟨hm, ina.1, ina.2.1⟩
  generalize (L n f).filter (fun t => inT a t && inT b t) = l at h1 h2
  match l, h1, h2 with
  | [], _, h2 => exact absurd ((h2 _).mpr rfl) (by simp)
  | [x], _, h2 => rw [(h2 x).mp List.mem_cons_self]
  | x :: y :: r, h1, h2 =>
    have e1 := (h2 x).mp List.mem_cons_self
    have e2 := (h2 y).mp (List.mem_cons_of_mem _ List.mem_cons_self)
    exact absurd (e1.trans e2.symm) (fun e => (List.pairwise_cons.mp h1).1 y List.mem_cons_self e)
theorem thdL_is {n : Nat} {f : Int → Int → Int} (H : Thd n f) {a b : Int} (ha : 0 ≤ a) (ha' : a < n) (hb : 0 ≤ b) (hb' : b < n) (hn : a ≠ b) : thdL (L n f) a b = f a b := by
  obtain ⟨t, e1, e2⟩ := thdL_eq H ha ha' hb hb' hn
  unfold thdL
  rw [e1]
  exact e2
/-- two threes with two points in common are one -/
def prs (t : Tri) : List (Int × Int) := [(t.1, t.2.1), (t.1, t.2.2), (t.2.1, t.2.2)]
theorem prs_one {n : Nat} {f : Int → Int → Int} (H : Thd n f) {s t : Tri} (hs : s ∈ L n f) (ht : t ∈ L n f) {p : Int × Int} (h1 : p ∈ prs s) (h2 : p ∈ prs t) : s = t := by
  have k := mem_asc H hs
  have e := (mem_L.mp hs).2.2.2.1
  have k' := mem_asc H ht
  have e' := (mem_L.mp ht).2.2.2.1
  obtain ⟨x, y, z⟩ := s
  obtain ⟨x', y', z'⟩ := t
  dsimp only at k e k' e'
  obtain ⟨r0, r1, r2, r3, r4, r5, r6, r7, r8, r9⟩ := H.three k.1 (by omega) (by omega) (by omega) (by omega) e
  obtain ⟨q0, q1, q2, q3, q4, q5, q6, q7, q8, q9⟩ := H.three k'.1 (by omega) (by omega) (by omega) (by omega) e'
  simp only [prs, List.mem_cons, List.not_mem_nil, or_false] at h1 h2
  rcases h1 with rfl | rfl | rfl <;> rcases h2 with h | h | h <;> (rw [Prod.mk.injEq] at h; obtain ⟨rfl, rfl⟩ := h; rw [pair_eq]; omega)
theorem prs_nd {n : Nat} {f : Int → Int → Int} (H : Thd n f) {t : Tri} (ht : t ∈ L n f) : (prs t).Nodup := by
  have k := mem_asc H ht
  obtain ⟨x, y, z⟩ := t
  dsimp only at k
  simp only [prs, List.nodup_cons, List.mem_cons, List.not_mem_nil, or_false, Prod.mk.injEq, not_or, not_and, List.nodup_nil, and_true, not_false_eq_true]
  omega
end PjM
/-! Words and rules of this proof's own over the hand layer: data under heaps that grow, a callee in one hypothesis, sorted of data. -/
namespace Pj
open PySem PySem.Spec PyProof.Rows L2
/-! ### heaps that grow -/
theorem same_new {H : Hp} {p : Addr} {o : HO} (h : H p = none) : Same H (upd H p o) := fun b u e => by
  rw [upd_ne (ne_of_none e h)]
  exact e
theorem same_mut {H H' : Hp} {p : Addr} {o : HO} (e : Same H H') (h : H p = none) : Same H (upd H' p o) := fun a u ha => by
  rw [upd_ne (ne_of_none ha h)]
  exact e a u ha
theorem same_sqT {K : PySem.W.Frag} {H H' : Hp} {a : Addr} {xs : List V} (e : Same H H') (h : SqT K H a xs) : SqT K H' a xs := by
  rcases h with (h | ⟨o, h⟩) | h
  · exact .inl (.inl (e _ _ h))
  · exact .inl (.inr ⟨o, e _ _ h⟩)
  · exact .inr h
/-! ### data -/
mutual
theorem dp_same {K : PySem.W.Frag} {H H' : Hp} (e : Same H H') : ∀ (d : PyData) (v : V), Dp K H v d → Dp K H' v d
  | .none, _, h => by cases h; exact .non
  | .bool _, _, h => by cases h; exact .bl _
  | .int _, _, h => by cases h; exact .int _
  | .str _, _, h => by cases h; exact .str _
  | .list ds, _, h => by
    cases h with
    | lst hs ha => exact .lst (e.seq hs) (dps_same e ds _ ha)
  | .tuple ds, _, h => by
    cases h with
    | tup hs ha => exact .tup (same_sqT e hs) (dps_same e ds _ ha)
  | .dict _, _, h => by cases h
theorem dps_same {K : PySem.W.Frag} {H H' : Hp} (e : Same H H') : ∀ (ds : List PyData) (vs : List V), DpAll K H vs ds → DpAll K H' vs ds
  | [], _, h => by cases h; exact .nil
  | d :: ds, _, h => by
    cases h with
    | cons h1 h2 => exact .cons (dp_same e d _ h1) (dps_same e ds _ h2)
end
mutual
/-- no list within -/
def tOnly : PyData → Bool
  | .list _ => false
  | .tuple ds => tOnlyAll ds
  | .dict _ => false
  | _ => true
def tOnlyAll : List PyData → Bool
  | [] => true
  | d :: ds => tOnly d && tOnlyAll ds
end
/-- no tuple is read at D -/
def NT (H : Hp) (D : Addr) : Prop := ∀ xs, ¬ Rd H D (.tup xs)
theorem nt_lst {H : Hp} {D : Addr} {zs : List V} (h : H D = some (.lst zs)) : NT H D := fun xs r => by
  rcases r with r | ⟨o, r⟩ <;> (rw [h] at r; cases r)
theorem nt_dT {H : Hp} {D : Addr} {zs : List (List Key × V)} (h : H D = some (.dT zs)) : NT H D := fun xs r => by
  rcases r with r | ⟨o, r⟩ <;> (rw [h] at r; cases r)
theorem nt_ne {H : Hp} {D a : Addr} {xs : List V} (hD : NT H D) (h : Rd H a (.tup xs)) : a ≠ D := fun e => hD xs (by rw [← e]; exact h)
theorem tup_mut {K : PySem.W.Frag} {H : Hp} {D a : Addr} {o : HO} {xs : List V} (hD : NT H D) (h : SqT K H a xs) : SqT K (upd H D o) a xs := by
  rcases h with h | h
  · have ne := nt_ne hD h
    rcases h with h | ⟨ob, h⟩
    · exact .inl (.inl (by rw [upd_ne ne]; exact h))
    · exact .inl (.inr ⟨ob, by rw [upd_ne ne]; exact h⟩)
  · exact .inr h
mutual
theorem dp_mut {K : PySem.W.Frag} {H : Hp} {D : Addr} {o : HO} (hD : NT H D) : ∀ (d : PyData) (v : V), tOnly d = true → Dp K H v d → Dp K (upd H D o) v d
  | .none, _, _, h => by cases h; exact .non
  | .bool _, _, _, h => by cases h; exact .bl _
  | .int _, _, _, h => by cases h; exact .int _
  | .str _, _, _, h => by cases h; exact .str _
  | .list ds, _, t, h => absurd t (by simp [tOnly])
  | .tuple ds, _, t, h => by
    cases h with
    | tup hs ha => exact .tup (tup_mut hD hs) (dps_mut hD ds _ (by rwa [tOnly] at t) ha)
  | .dict _, _, _, h => by cases h
theorem dps_mut {K : PySem.W.Frag} {H : Hp} {D : Addr} {o : HO} (hD : NT H D) : ∀ (ds : List PyData) (vs : List V), tOnlyAll ds = true → DpAll K H vs ds → DpAll K (upd H D o) vs ds
  | [], _, _, h => by cases h; exact .nil
  | d :: ds, _, t, h => by
    cases h with
    | cons h1 h2 =>
      rw [tOnlyAll, Bool.and_eq_true] at t
      exact .cons (dp_mut hD d _ t.1 h1) (dps_mut hD ds _ t.2 h2)
end
section
variable {K : PySem.W.Frag} {H : Hp}
theorem dps_len : ∀ {vs : List V} {ds : List PyData}, DpAll K H vs ds → vs.length = ds.length
  | _, _, .nil => rfl
  | _, _, .cons _ t => congrArg (· + 1) (dps_len t)
theorem dps_app : ∀ {vs ws : List V} {ds es : List PyData}, DpAll K H vs ds → DpAll K H ws es → DpAll K H (vs ++ ws) (ds ++ es)
  | _, _, _, _, .nil, h => h
  | _, _, _, _, .cons a t, h => .cons a (dps_app t h)
theorem dps_snoc {vs : List V} {ds : List PyData} {v : V} {d : PyData} (h : DpAll K H vs ds) (h' : Dp K H v d) : DpAll K H (vs ++ [v]) (ds ++ [d]) := dps_app h (.cons h' .nil)
theorem dps_ints : ∀ ns : List Int, DpAll K H (ns.map V.int) (ns.map PyData.int)
  | [] => .nil
  | n :: r => .cons (.int n) (dps_ints r)
theorem dps_int_inv : ∀ {ns : List Int} {vs : List V}, DpAll K H vs (ns.map PyData.int) → vs = ns.map V.int
  | [], _, h => by cases h; rfl
  | n :: r, _, h => by
    cases h with
    | cons h1 h2 =>
      cases h1
      rw [dps_int_inv h2]
      rfl
theorem dps_get : ∀ {vs : List V} {ds : List PyData} {i : Nat} {v : V}, DpAll K H vs ds → vs[i]? = some v → ∃ d, ds[i]? = some d ∧ Dp K H v d
  | _, _, _, _, .nil, e => by simp at e
  | _, _, 0, v, .cons h _, e => by
    have q := Option.some.inj e
    subst q
    exact ⟨_, rfl, h⟩
  | _, _, i + 1, v, .cons _ t, e => dps_get (i := i) t e
theorem dps_zip : ∀ {vs : List V} {ds : List PyData}, DpAll K H vs ds → ∀ q ∈ vs.zip ds, Dp K H q.1 q.2
  | _, _, .nil, _, h => by cases h
  | _, _, .cons h t, q, m => by
    rcases List.mem_cons.mp m with e | m
    · rw [e]; exact h
    · exact dps_zip t q m
theorem dps_of_zip : ∀ {zs : List (V × PyData)}, (∀ q ∈ zs, Dp K H q.1 q.2) → DpAll K H (zs.map (·.1)) (zs.map (·.2))
  | [], _ => .nil
  | q :: r, h => .cons (h q List.mem_cons_self) (dps_of_zip fun x m => h x (List.mem_cons_of_mem _ m))
theorem dps_rep (d : PyData) (v : V) (h : Dp K H v d) : ∀ n, DpAll K H (List.replicate n v) (List.replicate n d)
  | 0 => .nil
  | n + 1 => .cons h (dps_rep d v h n)
/-- a list or a tuple that is read -/
def SqR (K : PySem.W.Frag) (H : Hp) (a : Addr) (xs : List V) : Prop := SqL K H a xs ∨ SqT K H a xs
theorem SqR.same {H' : Hp} {a : Addr} {xs : List V} (e : Same H H') (h : SqR K H a xs) : SqR K H' a xs := h.elim (fun h => .inl (e.seq h)) fun h => .inr (same_sqT e h)
end
/-! ### a def that may be called, in one word -/
def Cal (P : Program) (w : World) (K : PySem.W.Frag) (mg : Str → Option Value) (base : Heap) (CX : CXT) (k : Nat) (x : Str) (ps : List Str) (dvs : List V) (sp : Sp) : Prop :=
  ∃ (f : Addr) (fd : FuncData) (ds : List Value), FnOk P w K mg base CX k f fd ps sp ∧ mg x = some (.ref f) ∧ PySem.W.keepIn K (.ref f) = true ∧ Binds K fd ps ds ∧ Vals dvs ds
section
variable {P : Program} {w : World} {K : PySem.W.Frag} {mg : Str → Option Value} {base : Heap} {CX : CXT} {k j : Nat} {x qual : Str} {ps : List Str} {sp : Sp} {dvs : List V}
theorem Cal.mono (C : Cal P w K mg base CX k x ps dvs sp) (h : k ≤ j) : Cal P w K mg base CX j x ps dvs sp := by
  obtain ⟨f, fd, ds, a, b, c, d, e⟩ := C
  exact ⟨f, fd, ds, a.mono h, b, c, d, e⟩
theorem Cal.imp {sp' : Sp} (C : Cal P w K mg base CX k x ps dvs sp) (h : ∀ vs H Q E, sp' vs H Q E → sp vs H Q E) : Cal P w K mg base CX k x ps dvs sp' := by
  obtain ⟨f, fd, ds, a, b, c, d, e⟩ := C
  exact ⟨f, fd, ds, a.imp h, b, c, d, e⟩
/-- how the text's def becomes one -/
theorem Cal.of {st : Stmt} {f : Addr} {fd : FuncData} (F : Fun K x qual st f fd) (m : mg x = some (.ref f)) (b : Binds K fd ps []) (ok : FnOk P w K mg base CX k f fd ps sp) : Cal P w K mg base CX k x ps [] sp := ⟨f, fd, [], ok, m, F.kp, b, .nil⟩
end
section
variable {X : Cx} {CX : CXT} {k : Nat} {ps : List Str} {sp : Sp} {dvs : List V} {E : XK} {x : Str} {p pos : Pos} {e : Expr} {es : List Expr} {t : TA}
theorem pe_c (C : Cal X.prog X.w X.K X.mg X.base CX k x ps dvs sp) (hr : Room k X.A) (hx : Passes CX X E) (ha : PA X (e :: es) t) (hg : Gl X x := by rfl) (hdb : (x == ("__debug__" : Str)) = false := by decide)
    (he : starEach (e :: es) X.env = (false, eval e X.env) :: starEach es X.env := by rfl) (hpl : (backTo pos (starEach es X.env)).any (·.1) = false := by rfl) : PE X (.Call (.Name x p) (e :: es) [] pos) (tCall sp dvs E t) := by
  obtain ⟨f, fd, ds, F, m, kp, b, d⟩ := C
  exact pe_call F hr hg m kp b d hx ha hdb he hpl
end
/-! ### a written test's two ways -/
theorem ifb {c : Bool} {A B : Prop} (h1 : c = true → A) (h2 : c = false → B) : if c = true then A else B := by
  cases c with
  | true => rw [if_pos rfl]; exact h1 rfl
  | false => rw [if_neg Bool.false_ne_true]; exact h2 rfl
/-! ### sorted of data -/
open PySem.W (EachIs dataLe dataLt AllAlike Sortable) in
theorem each_self {R : Value → (V × PyData) → Prop} : ∀ {us : List Value} {zs : List (V × PyData)}, Vals (zs.map (·.1)) us → (∀ v z, z ∈ zs → RelV z.1 v → R v z) → PySem.W.EachIs R us zs
  | us, [], r, _ => by
    cases r
    exact .nil
  | us, z :: zs, r, h => by
    cases r with
    | cons a b => exact .cons (h _ z List.mem_cons_self a) (each_self b fun v y m q => h v y (List.mem_cons_of_mem _ m) q)
theorem vals_each : ∀ {us : List Value} {zs : List (V × PyData)}, PySem.W.EachIs (fun v (z : V × PyData) => RelV z.1 v) us zs → Vals (zs.map (·.1)) us
  | _, _, .nil => .nil
  | _, _, .cons a b => .cons a (vals_each b)
theorem zip_fst : ∀ {vs : List V} {ds : List PyData}, vs.length = ds.length → (vs.zip ds).map (·.1) = vs
  | [], [], _ => rfl
  | v :: vs, d :: ds, h => congrArg (v :: ·) (zip_fst (Nat.succ.inj h))
  | [], _ :: _, h => by simp at h
  | _ :: _, [], h => by simp at h
theorem zip_snd : ∀ {vs : List V} {ds : List PyData}, vs.length = ds.length → (vs.zip ds).map (·.2) = ds
  | [], [], _ => rfl
  | v :: vs, d :: ds, h => congrArg (d :: ·) (zip_snd (Nat.succ.inj h))
  | [], _ :: _, h => by simp at h
  | _ :: _, [], h => by simp at h
/-- sorted(xs), xs a list or a tuple of data that are alike: a new list of the same values, in order -/
def rSortD (K : PySem.W.Frag) : List V → Hp → VK → Prop := fun vs H Q => ∃ (a : Addr) (xs : List V) (ds : List PyData), vs = [V.ref a] ∧ SqR K H a xs ∧ DpAll K H xs ds ∧ PySem.W.AllAlike ds ∧ PySem.W.Sortable ds ∧ (∀ d ∈ ds, d.depth ≤ 10) ∧
  ∀ (zs : List (V × PyData)) (p : Addr), zs.Perm (xs.zip ds) → zs.Pairwise (fun y z => PySem.W.dataLt z.2 y.2 = false) → H p = none → Q (.ref p) (upd H p (.lst (zs.map (·.1))))
section
variable {X : Cx}
theorem seq_at {pins : List (Addr × Obj)} {σ : L2.St} {H : Hp} {s : Shared} {a : Addr} {xs : List V} (I : Inv X pins σ H s) (h : SqR X.K H a xs) :
    ∃ (T : String) (o : Obj) (its : List Value) (n : Nat), (T = "list" ∨ T = "tuple") ∧ s.heap.get? a = some o ∧ o.cls = .type T ∧ o.data = .seq its.toArray n ∧ Vals xs its ∧ xs.length ≤ sizeLine := by
  rcases h with h | h
  · obtain ⟨its, rv, pl, hz⟩ := I.list h
    obtain ⟨o, ho, hc, n, hd⟩ := pl.isList
    exact ⟨"list", o, its, n, .inl rfl, ho, hc, hd, rv, hz⟩
  · obtain ⟨its, rv, ⟨o, ho, hc, n, hd⟩, hz⟩ := I.tuple h
    exact ⟨"tuple", o, its, n, .inr rfl, ho, hc, hd, rv, hz⟩
theorem cr_sortD {k : Nat} (hr : Room k X.A) : CallR X (.builtin "sorted") (rSortD X.K) := by
  intro pins s σ H vs us Q I r h
  obtain ⟨a, xs, ds, rfl, hrow, hdp, hal, hso, hde, q⟩ := h
  obtain ⟨T, o, its, n, hT, ho, hc, hd, rv, hz⟩ := seq_at I hrow
  rw [Vals.ref1 r]
  have hlen := dps_len hdp
  have hits : its.length ≤ sizeLine := by rw [← rv.length]; exact hz
  refine Calls.call_function_entry PyProof.Rows.kind_sorted PyProof.Rows.plain_sorted PyProof.Rows.entry_sorted (PyProof.Rows.args_sorted1 _) ?_
  unfold Builtin.«sorted»
  refine wpAny_bind (m := checkCount "sorted" 1 1 _) (wpAny_pure ?_)
  refine wpAny_bind (wpAny_collect_seq a hT ho hc hd (fun h1 hk => ?_) (by rw [List.size_toArray]; exact hits))
  have e0 : its.toArray.toList = its := by simp
  rw [e0]
  refine wpAny_bind (wpAny_newList ?_ hits)
  have I1 : Inv X pins σ H { s with heap := h1 } := I.kept (t' := s.toks) hk
  have k2 : ∀ b u, h1.get? b = some u → (h1.push (PyProof.Rows.seqObj "list" its.toArray 0)).get? b = some u := fun b u e => Heap.get?_push_of_some _ e
  have oL : (h1.push (PyProof.Rows.seqObj "list" its.toArray 0)).get? h1.objs.size = some (PyProof.Rows.seqObj "list" its.toArray 0) := Heap.get?_push_size _ rfl
  have ez : (xs.zip ds).map (·.1) = xs := zip_fst hlen
  have ed : (xs.zip ds).map (·.2) = ds := zip_snd hlen
  have hR : PySem.W.EachIs (fun v (z : V × PyData) => RelV z.1 v) its (xs.zip ds) := each_self (by rw [ez]; exact rv) fun _ _ _ q => q
  have hE : PySem.W.EachIs (fun v (z : V × PyData) => ∃ as, Reads (h1.push (PyProof.Rows.seqObj "list" its.toArray 0)) v z.2 as ∧ h1.objs.size ∉ as) its (xs.zip ds) := each_self (by rw [ez]; exact rv) fun v z m q => by
    obtain ⟨as, ra⟩ := Dp.reads I1 z.2 z.1 v (dps_zip hdp z m) q
    refine ⟨as, PyProof.Rows.Reads.keeps k2 ra, fun hm => ?_⟩
    obtain ⟨u, hu⟩ := PyProof.On.reads_mem_get ra _ hm
    exact absurd (Heap.lt_size hu) (Nat.lt_irrefl _)
  refine wpAny_bind (wpAny_holding (PySem.W.list_sort_data (s := { s with heap := h1.push (PyProof.Rows.seqObj "list" its.toArray 0) }) (bs := xs.zip ds) (enc := fun z => z.2) oL hR hE (by rw [ed]; exact hal) (by rw [ed]; exact hso) (by rw [List.length_zip, hlen, Nat.min_self, ← hlen]; exact hz) (fun b hb => ?_) fun out hl he => ?_))
  · have hd' := hde b.2 (List.of_mem_zip hb).2
    have hu := hr.un
    show X.A.units + 1 + 1 + b.2.depth < cLine
    omega
  · refine wpAny_pure ⟨_, rfl, ?_⟩
    obtain ⟨ep, hat⟩ := PyProof.Rows.sortedHeap_at (out := out.toArray) oL
    have hp := List.mergeSort_perm (xs.zip ds) (PySem.W.dataLe false fun z => z.2)
    have rvo := vals_each he
    refine ⟨.ref h1.objs.size, upd H h1.objs.size (.lst (((xs.zip ds).mergeSort (PySem.W.dataLe false fun z => z.2)).map (·.1))), I1.laid (h' := PyProof.Rows.sortedHeap (h1.push (PyProof.Rows.seqObj "list" its.toArray 0)) h1.objs.size its out.toArray) (t' := s.toks) (fun b u e => ?_) (Nat.le_refl _) ⟨?_, out, ep, rvo, hat⟩, rfl, q _ _ hp ?_ (I1.hok.fresh (Nat.le_refl _))⟩
    · have hlt := Heap.lt_size e
      exact (PyProof.Rows.sortedHeap_old (Nat.ne_of_lt hlt) (by rw [Heap.size_push]; exact Nat.lt_succ_of_lt hlt)).trans (k2 b u e)
    · rw [List.length_map, hp.length_eq, List.length_zip, hlen, Nat.min_self, ← hlen]
      exact hz
    · refine (PySem.W.sort_pairwise (PySem.W.sortLe_total _ false _) (xs.zip ds)).imp fun {y z} h => ?_
      have h' : (!PySem.W.dataLt z.2 y.2) = true := h
      simpa using h'
/-- the same as in the layer, by name -/
def rTupOf (K : PySem.W.Frag) : List V → Hp → VK → Prop := fun xs H Q => ∃ p ys, xs = [.ref p] ∧ ((SqL K H p ys ∧ ∀ l, H l = none → Q (.ref l) (upd H l (.tup ys))) ∨ (SqT K H p ys ∧ Q (.ref p) H))
theorem call_tupOf : CallR X (.type "tuple") (rTupOf X.K) := call_tuple_of
def rLenSq (K : PySem.W.Frag) : List V → Hp → VK → Prop := fun xs H Q => ∃ p ys, xs = [.ref p] ∧ (SqL K H p ys ∨ SqT K H p ys) ∧ Q (.int ys.length) H
theorem call_lenSq : CallR X (.builtin "len") (rLenSq X.K) := call_len_seq
/-- xs[i], a list or a tuple -/
def rIxR (K : PySem.W.Frag) : R2 := fun x y H Q => ∃ p xs i v, x = .ref p ∧ y = .int i ∧ SqR K H p xs ∧ atI xs i = some v ∧ Q v H
theorem ix_row : IxR X (rIxR X.K) := by
  intro value slice pins s σ H x y v u Q I rx ry h hs
  obtain ⟨p, xs, i, z, e1, e2, hr, ha, q⟩ := h
  rcases hr with hr | hr
  · exact ix_list value slice pins s σ H x y v u Q I rx ry ⟨p, xs, i, z, e1, e2, hr, ha, q⟩ hs
  · exact ix_tup value slice pins s σ H x y v u Q I rx ry ⟨p, xs, i, z, e1, e2, hr, ha, q⟩ hs
/-- sum(xs), xs a tuple of ints -/
def rSumT (K : PySem.W.Frag) : List V → Hp → VK → Prop := fun vs H Q => ∃ (a : Addr) (ns : List Int), vs = [V.ref a] ∧ SqT K H a (ns.map V.int) ∧ Q (.int ns.sum) H
theorem cr_sumT (hc : X.calm = true) : CallR X (.builtin "sum") (rSumT X.K) := by
  intro pins s σ H vs us Q I r h
  obtain ⟨a, ns, rfl, hs, q⟩ := h
  obtain ⟨its, rv, ht, _⟩ := I.tuple hs
  rw [Vals.ref1 r]
  obtain ⟨xs, e⟩ := rv.ints.allInts.items
  have hn : numsOf (intItems xs).toList = ns := by rw [← e]; exact rv.ints.numsOf
  rw [nums_intItems] at hn
  have ht' : s.heap.IsTuple a (intItems xs) := by rw [← e]; exact ht
  refine call_sum_walkG (wpAny_pyIter_tuple ht' ?_)
  have hlt : a < s.heap.objs.size := by
    obtain ⟨o, ho, _⟩ := ht'
    exact Heap.lt_size ho
  have hne : a ≠ s.heap.objs.size := Nat.ne_of_lt hlt
  refine ⟨_, _, _, _, _, _, numAt xs, rfl, Walks.tuple (A := X.A.in1) (I.ok.hd hc) s.heap.objs.size a hne (intItems xs), ⟨⟨_, Heap.get?_push_size _ rfl, rfl, rfl⟩, ?_⟩, fun b hb => ?_, fun _ _ => intItems_at, fun h' tk t' hk => ?_⟩
  · obtain ⟨o, ho, hc, hd⟩ := ht'
    exact ⟨o, Heap.get?_push_of_some _ ho, hc, hd⟩
  · have hb' : b = s.heap.objs.size ∨ b = a := by simpa using hb
    rw [Heap.size_push]
    rcases hb' with e | e
    · rw [e]; exact Nat.lt_succ_self _
    · rw [e]; exact Nat.lt_succ_of_lt hlt
  · have kk : ∀ b u, s.heap.get? b = some u → h'.get? b = some u := fun b u e => hk b u (fun hm => by
      have hb' : b = s.heap.objs.size := by simpa using hm
      exact absurd (Heap.lt_size e) (by rw [hb']; exact Nat.lt_irrefl _)) (Heap.get?_push_of_some _ e)
    refine ⟨.int ns.sum, H, I.kept kk, ⟨t', ?_⟩, q⟩
    rw [← hn, preSum_eq, List.take_of_length_le (by simp [intItems])]
end
end Pj
/-! The mirror: trees, their sizes and third functions, as plain functions; the data that they are in Python. -/
namespace Pj
open PySem PjM
/-! ### the mirror -/
inductive Tree where
  | bose (n : Nat) | skolem (n : Nat) | affine (k : Nat) | binary (k : Nat)
  | listed (n : Nat) (T : List Tri)
  | dbl (t : Tree)
  | prod (s t : Tree)
namespace Tree
def sz : Tree → Nat
  | bose n => n
  | skolem n => n
  | affine k => 3 ^ k
  | binary k => 2 ^ k - 1
  | listed n _ => n
  | dbl t => 2 * t.sz + 1
  | prod s t => s.sz * t.sz
def ht : Tree → Nat
  | dbl t => t.ht + 1
  | prod s t => max s.ht t.ht + 1
  | _ => 1
def parts : Tree → Nat
  | dbl t => t.parts + 1
  | prod s t => s.parts + t.parts + 1
  | _ => 1
end Tree
def pointAt (size x level : Int) : Int := x + size * (level % 3)
def inOrder (size a b : Int) : Int × Int × Int :=
  if (a / size + 1) % 3 = b / size then (a % size, a / size, b % size) else (b % size, b / size, a % size)
def tBose (size a b : Int) : Int :=
  if a / size = b / size then pointAt size ((a % size + b % size) * ((size + 1) / 2) % size) (a / size + 1)
  else if a % size = b % size then pointAt size (a % size) (3 - a / size - b / size)
  else pointAt size ((2 * (inOrder size a b).2.2 - (inOrder size a b).1) % size) (inOrder size a b).2.1
def halfOf (size number : Int) : Int := number % size / 2 + (if number % size % 2 = 1 then size / 2 else 0)
def twiceOf (size number : Int) : Int := if number < size / 2 then 2 * number else 2 * number - size + 1
def tSkolem (size a b : Int) : Int :=
  if a = 3 * size ∨ b = 3 * size then
    (if size / 2 ≤ (a + b - 3 * size) % size then pointAt size ((a + b - 3 * size) % size - size / 2) ((a + b - 3 * size) / size + 1)
     else pointAt size ((a + b - 3 * size) % size + size / 2) ((a + b - 3 * size) / size - 1))
  else if a / size = b / size then pointAt size (halfOf size (a % size + b % size)) (a / size + 1)
  else if (inOrder size a b).1 = (inOrder size a b).2.2 ∧ (inOrder size a b).1 < size / 2 then pointAt size (inOrder size a b).1 ((inOrder size a b).2.1 + 2)
  else if size / 2 ≤ (inOrder size a b).1 ∧ (inOrder size a b).2.2 = (inOrder size a b).1 - size / 2 then 3 * size
  else pointAt size ((twiceOf size (inOrder size a b).2.2 - (inOrder size a b).1) % size) (inOrder size a b).2.1
def figs : Nat → Int → Int → Int
  | 0, _, _ => 0
  | k + 1, a, b => if 0 < a ∨ 0 < b then (-(a % 3 + b % 3)) % 3 + 3 * figs k (a / 3) (b / 3) else 0
def tXor (a b : Int) : Int := (((a + 1).toNat ^^^ (b + 1).toNat : Nat) : Int) - 1
def tDouble (size : Int) (f : Int → Int → Int) (a b : Int) : Int :=
  if a = 2 * size ∨ b = 2 * size then (if a + b - 2 * size < size then a + b - 2 * size + size else a + b - 2 * size - size)
  else if a % size = b % size then 2 * size
  else f (a % size) (b % size) + (if decide (a < size) = decide (b < size) then 0 else size)
def bothOf (f : Int → Int → Int) (a b : Int) : Int := if a = b then a else f a b
def thd : Tree → Int → Int → Int
  | .bose n, a, b => tBose ((n : Int) / 3) a b
  | .skolem n, a, b => tSkolem (((n : Int) - 1) / 3) a b
  | .affine _, a, b => figs 12 a b
  | .binary _, a, b => tXor a b
  | .listed _ T, a, b => thdL T a b
  | .dbl t, a, b => tDouble (t.sz : Int) (thd t) a b
  | .prod s t, a, b => bothOf (thd s) (a / (t.sz : Int)) (b / (t.sz : Int)) * (t.sz : Int) + bothOf (thd t) (a % (t.sz : Int)) (b % (t.sz : Int))
/-! ### as data -/
def eTri (t : Tri) : PyData := .tuple [.int t.1, .int t.2.1, .int t.2.2]
def eTris (T : List Tri) : PyData := .tuple (T.map eTri)
def enc : Tree → PyData
  | .bose n => .tuple [.str "bose", .int n]
  | .skolem n => .tuple [.str "skolem", .int n]
  | .affine n => .tuple [.str "affine", .int n]
  | .binary n => .tuple [.str "binary", .int n]
  | .listed n T => .tuple [.str "listed", .int n, eTris T]
  | .dbl t => .tuple [.str "double", enc t]
  | .prod s t => .tuple [.str "product", enc s, enc t]
/-- the listed ones that the program makes: all threes of a third function -/
def Cnt (n : Nat) (f : Int → Int → Int) : Prop := 3 * (L n f).length = n * (n - 1) / 2
def GoodL (n : Nat) (T : List Tri) : Prop := 1 ≤ n ∧ n ≤ 60 ∧ ∃ f, Thd n f ∧ Cnt n f ∧ T = L n f
/-- a tree that the checks let through -/
def Ok : Tree → Prop
  | .bose n => 3 ≤ n ∧ n ≤ 60 ∧ n % 6 = 3
  | .skolem n => 7 ≤ n ∧ n ≤ 60 ∧ n % 6 = 1
  | .affine k => 1 ≤ k ∧ k ≤ 5
  | .binary k => 2 ≤ k ∧ k ≤ 6
  | .listed n T => GoodL n T
  | .dbl t => Ok t ∧ t.sz ≤ 1000 ∧ t.parts ≤ 5
  | .prod s t => Ok s ∧ Ok t ∧ s.sz ≤ 1000 ∧ t.sz ≤ 1000 ∧ s.parts + t.parts ≤ 5
theorem sz_pos : ∀ {t : Tree}, Ok t → 1 ≤ t.sz
  | .bose n, h => by have := h.1; show 1 ≤ n; omega
  | .skolem n, h => by have := h.1; show 1 ≤ n; omega
  | .affine k, h => Nat.one_le_pow _ _ (by decide)
  | .binary k, h => by
    have : 2 ^ 2 ≤ 2 ^ k := Nat.pow_le_pow_right (by decide) h.1
    show 1 ≤ 2 ^ k - 1
    omega
  | .listed n T, h => h.1
  | .dbl t, h => by show 1 ≤ 2 * t.sz + 1; omega
  | .prod s t, h => Nat.mul_pos (sz_pos h.1) (sz_pos h.2.1)
theorem thd_listed {n : Nat} {f : Int → Int → Int} (T : Thd n f) {a b : Int} (ha : 0 ≤ a) (ha' : a < n) (hb : 0 ≤ b) (hb' : b < n) (hn : a ≠ b) : thd (.listed n (L n f)) a b = f a b := thdL_is T ha ha' hb hb' hn
theorem L_listed {n : Nat} {f : Int → Int → Int} (T : Thd n f) : L n (thd (.listed n (L n f))) = L n f := L_congr fun a b ha ha' hb hb' hn => thd_listed T ha ha' hb hb' hn
theorem thd_listed_thd {n : Nat} {f : Int → Int → Int} (T : Thd n f) : Thd n (thd (.listed n (L n f))) := T.congr fun a b ha ha' hb hb' hn => thd_listed T ha ha' hb hb' hn
end Pj
/-! The defs of the thirds that reckon with ints alone. -/
namespace Pj
open PySem PySem.Spec PyProof.Rows L2 PjM
def top (i : Nat) : Stmt := PySem.Challenge.pw_paironce_k66_whole_renamed_systems.main.body.getD i (.Pass ⟨0, 0, 0, 0⟩)
/-- built-in names that the text leaves alone -/
structure Blt (mg : Str → Option Value) : Prop where
  len : mg "len" = none
  all : mg "all" = none
  sorted : mg "sorted" = none
  tuple : mg "tuple" = none
  list : mg "list" = none
  range : mg "range" = none
  int : mg "int" = none
  str : mg "str" = none
  isinstance : mg "isinstance" = none
  bool : mg "bool" = none
  sum : mg "sum" = none
  abs : mg "abs" = none
  max : mg "max" = none
  enumerate : mg "enumerate" = none
  ValueError : mg "ValueError" = none
def IsI (mg : Str → Option Value) (x : Str) (i : Int) : Prop := ∃ t, mg x = some (.int i t)
def IsS (mg : Str → Option Value) (x : Str) (z : Str) : Prop := ∃ t, mg x = some (.str z t)
theorem pe_gi {X : Cx} {x : Str} {i : Int} {pos : Pos} (h : IsI X.mg x i) (hg : Gl X x := by rfl) (hd : (x == ("__debug__" : Str)) = false := by decide) : PE X (.Name x pos) (tC (.int i)) := by
  obtain ⟨t, h⟩ := h
  exact pe_glob hg h ⟨t, rfl⟩ hd
theorem pe_gs {X : Cx} {x z : Str} {pos : Pos} (h : IsS X.mg x z) (hg : Gl X x := by rfl) (hd : (x == ("__debug__" : Str)) = false := by decide) : PE X (.Name x pos) (tC (.str z)) := by
  obtain ⟨t, h⟩ := h
  exact pe_glob hg h ⟨t, rfl⟩ hd
theorem ip_mul {X : Cx} : PIp X .Mult (rI CMul fun i j => .int (i * j)) := fun pins s σ H x y v u Q I rx ry h => iop_mul pins s σ H x y v u Q I rx ry h
theorem ip_fdiv {X : Cx} : PIp X .FloorDiv (rI CDiv fun i j => .int (i / j)) := fun pins s σ H x y v u Q I rx ry h => iop_fdiv pins s σ H x y v u Q I rx ry h
theorem ip_ext {X : Cx} : PIp X .Add rExt2 := fun pins s σ H x y v u Q I rx ry h => iop_ext pins s σ H x y v u Q I rx ry h
section
variable {P : Program} {w : World} {K : PySem.W.Frag} {mg : Str → Option Value} {base : Heap}
/-! ### power_of -/
abbrev N_power_of : List Str := ["base", "many", "found", "_"]
abbrev s_power_of : Stmt := top 21
theorem sc_power_of : FnScope N_power_of ["base", "many"] (defScope s_power_of) := ⟨rfl, rfl, rfl, by decide +kernel, rfl, by decide +kernel, by decide +kernel⟩
def spPow : Sp := fun vs H Q _ => ∃ b k : Nat, vs = [.int b, .int k] ∧ b ≤ 3 ∧ k ≤ 10 ∧ Q (.int ((b ^ k : Nat) : Int)) H
theorem ok_power_of {f : Addr} {fd : FuncData} (F : Fun K "power_of" "power_of" s_power_of f fd) (B : Blt mg) : FnOk P w K mg base CX0 1 f fd ["base", "many"] spPow := by
  refine F.ok sc_power_of (fun vs H Q E h => ?_) (fun cdv A outer s H vs Q E hr h => ?_)
  · obtain ⟨b, k, rfl, _⟩ := h
    rfl
  obtain ⟨b, k, rfl, hb, hk, q⟩ := h
  refine ⟨_, (pss_cons (ps_set (i := 2) sc_power_of.nd rfl (Or.inl rfl) pe_int)
    (pss_cons (ps_for PassesOwn.never rfl (pi_range1 (by rfl) B.range (pa_cons (pv 1) pa_nil)) (pg_name (i := 3) sc_power_of.nd rfl (Or.inl rfl)) (pss_one (ps_aug (i := 2) sc_power_of.nd rfl (Or.inl rfl) (pv 0) ip_mul)))
    (pss_one (ps_ret (pv 2))))), ?_⟩
  refine ⟨_, rfl, (k : Int), rfl, by omega, by omega, ?_⟩
  refine for_range (lo := 0) (n := k) (fun i σ H' => ∃ v, σ = [some (.int b), some (.int k), some (.int ((b ^ i : Nat) : Int)), v] ∧ H' = H) ⟨none, rfl, rfl⟩ (fun i σ H' hi hp => ?_) (fun σ H' hp => ?_)
  · obtain ⟨v, rfl, rfl⟩ := hp
    refine ⟨_, rfl, _, rfl, _, _, rfl, rfl, .inr ⟨by omega, by omega⟩, some (.int (0 + (i : Int))), ?_, rfl⟩
    rw [Nat.pow_succ, Int.natCast_mul]
    rfl
  · obtain ⟨v, rfl, rfl⟩ := hp
    exact ⟨_, rfl, q⟩
/-! ### point_at -/
structure Glo (mg : Str → Option Value) : Prop where
  MOST_POINTS : IsI mg "MOST_POINTS" (10 ^ 30)
  MOST_PARTS : IsI mg "MOST_PARTS" 12
  MOST_LISTED : IsI mg "MOST_LISTED" 60
  MOST_AFFINE : IsI mg "MOST_AFFINE" 60
  MOST_BINARY : IsI mg "MOST_BINARY" 99
  LEVELS : IsI mg "LEVELS" 3
  MOST_DIGITS : IsI mg "MOST_DIGITS" 31
  DIGITS : IsS mg "DIGITS" "0123456789"
abbrev N_point_at : List Str := ["size", "x", "level"]
abbrev s_point_at : Stmt := top 28
theorem sc_point_at : FnScope N_point_at ["size", "x", "level"] (defScope s_point_at) := ⟨rfl, rfl, rfl, by decide +kernel, rfl, by decide +kernel, by decide +kernel⟩
def spPoint : Sp := fun vs H Q _ => ∃ size x level : Int, vs = [.int size, .int x, .int level] ∧ 0 < size ∧ size < 100000 ∧ Q (.int (pointAt size x level)) H
theorem ok_point_at {f : Addr} {fd : FuncData} (F : Fun K "point_at" "point_at" s_point_at f fd) (G : Glo mg) : FnOk P w K mg base CX0 1 f fd ["size", "x", "level"] spPoint := by
  refine F.ok sc_point_at (fun vs H Q E h => ?_) (fun cdv A outer s H vs Q E hr h => ?_)
  · obtain ⟨a, b, c, rfl, _⟩ := h
    rfl
  obtain ⟨size, x, level, rfl, h0, h1, q⟩ := h
  refine ⟨_, (pss_one (ps_ret (pe_op op_add (pv 1) (pe_op op_mul (pv 0) (pe_op op_mod (pv 2) (pe_gi G.LEVELS)))))), ?_⟩
  exact ⟨_, rfl, _, rfl, _, rfl, _, _, rfl, rfl, (by decide : (0 : Int) < 3), _, _, rfl, rfl, .inl ⟨by omega, by omega⟩, _, _, rfl, rfl, q⟩
/-! ### in_order -/
abbrev N_in_order : List Str := ["size", "a", "b", "x", "i", "y", "j"]
abbrev s_in_order : Stmt := top 29
theorem sc_in_order : FnScope N_in_order ["size", "a", "b"] (defScope s_in_order) := ⟨rfl, rfl, rfl, by decide +kernel, rfl, by decide +kernel, by decide +kernel⟩
theorem cdiv {i j : Int} (h0 : 0 < j) (h1 : j < 100000) : CDiv i j := ⟨by omega, by omega⟩
def spOrder (K : PySem.W.Frag) : Sp := fun vs H Q _ => ∃ size a b : Int, vs = [.int size, .int a, .int b] ∧ 0 < size ∧ size < 100000 ∧
  ∀ p H', Same H H' → H' p = some (.tup [.int (inOrder size a b).1, .int (inOrder size a b).2.1, .int (inOrder size a b).2.2]) → Q (.ref p) H'
theorem ok_in_order {f : Addr} {fd : FuncData} (F : Fun K "in_order" "in_order" s_in_order f fd) (G : Glo mg) : FnOk P w K mg base CX0 1 f fd ["size", "a", "b"] (spOrder K) := by
  refine F.ok sc_in_order (fun vs H Q E h => ?_) (fun cdv A outer s H vs Q E hr h => ?_)
  · obtain ⟨a, b, c, rfl, _⟩ := h
    rfl
  obtain ⟨size, a, b, rfl, h0, h1, q⟩ := h
  refine ⟨_, (pss_cons (ps_par (i := 3) (j := 4) rfl sc_in_order.nd rfl rfl (by decide) rfl rfl (pa_cons (pe_op op_mod (pv 1) (pv 0)) (pa_cons (pe_op op_fdiv (pv 1) (pv 0)) pa_nil)) (by rfl))
    (pss_cons (ps_par (i := 5) (j := 6) rfl sc_in_order.nd rfl rfl (by decide) rfl rfl (pa_cons (pe_op op_mod (pv 2) (pv 0)) (pa_cons (pe_op op_fdiv (pv 2) (pv 0)) pa_nil)) (by rfl))
    (pss_one (ps_ret (pe_ifExp (pt_cmpR op_eq (pe_op op_mod (pe_op op_add (pv 4) pe_int) (pe_gi G.LEVELS)) (pv 6) (nomark _)) (pe_tup (pa_cons (pv 3) (pa_cons (pv 4) (pa_cons (pv 5) pa_nil)))) (pe_tup (pa_cons (pv 5) (pa_cons (pv 6) (pa_cons (pv 3) pa_nil))))))))), ?_⟩
  refine ⟨_, rfl, _, rfl, _, _, rfl, rfl, h0, _, rfl, _, rfl, _, _, rfl, rfl, cdiv h0 h1, _, _, rfl, ?_⟩
  refine ⟨_, rfl, _, rfl, _, _, rfl, rfl, h0, _, rfl, _, rfl, _, _, rfl, rfl, cdiv h0 h1, _, _, rfl, ?_⟩
  refine ⟨_, rfl, _, _, rfl, rfl, _, _, rfl, rfl, (by decide : (0 : Int) < 3), _, rfl, rfl, _, rfl, ifb (fun e => ?_) (fun e => ?_)⟩
  · have e' : (a / size + 1) % 3 = b / size := V.int.inj (of_decide_eq_true e)
    refine ⟨_, rfl, _, rfl, _, rfl, by show 3 ≤ sizeLine; decide, fun p hp => q p _ (same_new hp) ?_⟩
    unfold inOrder
    rw [if_pos e']
    exact upd_same
  · have e' : ¬ (a / size + 1) % 3 = b / size := fun z => of_decide_eq_false e (congrArg V.int z)
    refine ⟨_, rfl, _, rfl, _, rfl, by show 3 ≤ sizeLine; decide, fun p hp => q p _ (same_new hp) ?_⟩
    unfold inOrder
    rw [if_neg e']
    exact upd_same
end
end Pj
/-! The third points of bose, skolem and affine systems. -/
namespace Pj
open PySem PySem.Spec PyProof.Rows L2 PjM
theorem dec_t {p : Prop} [Decidable p] (e : decide p = true) : p := of_decide_eq_true e
theorem dec_f {p : Prop} [Decidable p] (e : decide p = false) : ¬ p := of_decide_eq_false e
theorem vint_t {i j : Int} (e : decide (V.int i = V.int j) = true) : i = j := V.int.inj (of_decide_eq_true e)
theorem vint_f {i j : Int} (e : decide (V.int i = V.int j) = false) : ¬ i = j := fun z => of_decide_eq_false e (congrArg V.int z)
theorem mod_lt' {a s : Int} (h : 0 < s) : 0 ≤ a % s ∧ a % s < s := ⟨Int.emod_nonneg _ (by omega), Int.emod_lt_of_pos _ h⟩
section
variable {P : Program} {w : World} {K : PySem.W.Frag} {mg : Str → Option Value} {base : Heap}
/-! ### third_in_bose -/
abbrev N_third_in_bose : List Str := ["size", "a", "b", "half", "x", "i", "y", "j"]
abbrev s_third_in_bose : Stmt := top 30
theorem sc_third_in_bose : FnScope N_third_in_bose ["size", "a", "b"] (defScope s_third_in_bose) := ⟨rfl, rfl, rfl, by decide +kernel, rfl, by decide +kernel, by decide +kernel⟩
def spInt3 (g : Int → Int → Int → Int) : Sp := fun vs H Q _ => ∃ size a b : Int, vs = [.int size, .int a, .int b] ∧ 0 < size ∧ size < 10000 ∧ ∀ H', Same H H' → Q (.int (g size a b)) H'
theorem ok_third_in_bose {f : Addr} {fd : FuncData} (F : Fun K "third_in_bose" "third_in_bose" s_third_in_bose f fd) (G : Glo mg) (C_point_at : Cal P w K mg base CX0 1 "point_at" ["size", "x", "level"] [] spPoint) (C_in_order : Cal P w K mg base CX0 1 "in_order" ["size", "a", "b"] [] (spOrder K)) :
    FnOk P w K mg base CX0 2 f fd ["size", "a", "b"] (spInt3 tBose) := by
  refine F.ok sc_third_in_bose (fun vs H Q E h => ?_) (fun cdv A outer s H vs Q E hr h => ?_)
  · obtain ⟨a, b, c, rfl, _⟩ := h
    rfl
  obtain ⟨size, a, b, rfl, h0, h1, q⟩ := h
  refine ⟨_, (pss_cons (ps_set (i := 3) sc_third_in_bose.nd rfl (Or.inl rfl) (pe_op op_fdiv (pe_op op_add (pv 0) pe_int) pe_int))
    (pss_cons (ps_par (i := 4) (j := 5) rfl sc_third_in_bose.nd rfl rfl (by decide) rfl rfl (pa_cons (pe_op op_mod (pv 1) (pv 0)) (pa_cons (pe_op op_fdiv (pv 1) (pv 0)) pa_nil)) (by rfl))
    (pss_cons (ps_par (i := 6) (j := 7) rfl sc_third_in_bose.nd rfl rfl (by decide) rfl rfl (pa_cons (pe_op op_mod (pv 2) (pv 0)) (pa_cons (pe_op op_fdiv (pv 2) (pv 0)) pa_nil)) (by rfl))
    (pss_cons (ps_if (pt_cmpR op_eq (pv 5) (pv 7) (nomark _)) (pss_one (ps_ret (pe_c (C_point_at.mono (by omega)) hr pass0 (pa_cons (pv 0) (pa_cons (pe_op op_mod (pe_op op_mul (pe_op op_add (pv 4) (pv 6)) (pv 3)) (pv 0)) (pa_cons (pe_op op_add (pv 5) pe_int) pa_nil)))))) pss_nil)
    (pss_cons (ps_if (pt_cmpR op_eq (pv 4) (pv 6) (nomark _)) (pss_one (ps_ret (pe_c (C_point_at.mono (by omega)) hr pass0 (pa_cons (pv 0) (pa_cons (pv 4) (pa_cons (pe_op op_sub (pe_op op_sub (pe_gi G.LEVELS) (pv 5)) (pv 7)) pa_nil)))))) pss_nil)
    (pss_cons (ps_asg (pe_c (C_in_order.mono (by omega)) hr pass0 (pa_cons (pv 0) (pa_cons (pv 1) (pa_cons (pv 2) pa_nil)))) (pg_tup rfl (pgs_cons (pg_name (i := 4) sc_third_in_bose.nd rfl (Or.inl rfl)) (pgs_cons (pg_name (i := 5) sc_third_in_bose.nd rfl (Or.inl rfl)) (pgs_cons (pg_name (i := 6) sc_third_in_bose.nd rfl (Or.inl rfl)) pgs_nil)))))
    (pss_one (ps_ret (pe_c (C_point_at.mono (by omega)) hr pass0 (pa_cons (pv 0) (pa_cons (pe_op op_mod (pe_op op_sub (pe_op op_mul pe_int (pv 6)) (pv 4)) (pv 0)) (pa_cons (pv 5) pa_nil)))))))))))), ?_⟩
  have ma := mod_lt' (a := a) h0
  have mb := mod_lt' (a := b) h0
  refine ⟨_, rfl, _, _, rfl, rfl, _, _, rfl, rfl, ⟨by decide, by decide⟩, ?_⟩
  refine ⟨_, rfl, _, rfl, _, _, rfl, rfl, h0, _, rfl, _, rfl, _, _, rfl, rfl, cdiv h0 (by omega), _, _, rfl, ?_⟩
  refine ⟨_, rfl, _, rfl, _, _, rfl, rfl, h0, _, rfl, _, rfl, _, _, rfl, rfl, cdiv h0 (by omega), _, _, rfl, ?_⟩
  refine ⟨_, rfl, _, rfl, rfl, _, rfl, ifb (fun e => ?_) (fun e => ?_)⟩
  · have e' := vint_t e
    refine ⟨_, rfl, _, rfl, _, rfl, _, _, rfl, rfl, _, rfl, _, _, rfl, rfl, .inl ⟨by omega, by omega⟩, _, rfl, _, _, rfl, rfl, h0, _, rfl, _, _, rfl, rfl, ?_⟩
    refine ⟨_, _, _, rfl, h0, by omega, ?_⟩
    have := q H (.refl H)
    unfold tBose at this
    rw [if_pos e'] at this
    exact this
  have e1 := vint_f e
  refine ⟨_, rfl, _, rfl, rfl, _, rfl, ifb (fun e => ?_) (fun e => ?_)⟩
  · have e' := vint_t e
    refine ⟨_, rfl, _, rfl, _, rfl, _, _, rfl, rfl, _, rfl, _, _, rfl, rfl, ?_⟩
    refine ⟨_, _, _, rfl, h0, by omega, ?_⟩
    have := q H (.refl H)
    unfold tBose at this
    rw [if_neg e1, if_pos e'] at this
    exact this
  have e2 := vint_f e
  refine ⟨_, rfl, _, rfl, _, rfl, _, _, _, rfl, h0, by omega, fun p H1 s1 hp => ?_⟩
  refine ⟨p, _, rfl, .of hp, rfl, _, _, rfl, _, _, rfl, _, _, rfl, rfl, ?_⟩
  refine ⟨_, rfl, _, rfl, _, _, rfl, rfl, .inl ⟨by decide, by decide⟩, _, rfl, _, _, rfl, rfl, _, rfl, _, _, rfl, rfl, h0, _, rfl, ?_⟩
  refine ⟨_, _, _, rfl, h0, by omega, ?_⟩
  have := q H1 s1
  unfold tBose at this
  rw [if_neg e1, if_neg e2] at this
  exact this
/-! ### half_of, twice_of -/
abbrev N_half_of : List Str := ["size", "number", "rest"]
abbrev s_half_of : Stmt := top 31
theorem sc_half_of : FnScope N_half_of ["size", "number"] (defScope s_half_of) := ⟨rfl, rfl, rfl, by decide +kernel, rfl, by decide +kernel, by decide +kernel⟩
def spInt2 (g : Int → Int → Int) : Sp := fun vs H Q _ => ∃ size a : Int, vs = [.int size, .int a] ∧ 0 < size ∧ size < 10000 ∧ Q (.int (g size a)) H
theorem ok_half_of {f : Addr} {fd : FuncData} (F : Fun K "half_of" "half_of" s_half_of f fd) : FnOk P w K mg base CX0 1 f fd ["size", "number"] (spInt2 halfOf) := by
  refine F.ok sc_half_of (fun vs H Q E h => ?_) (fun cdv A outer s H vs Q E hr h => ?_)
  · obtain ⟨a, b, rfl, _⟩ := h
    rfl
  obtain ⟨size, a, rfl, h0, h1, q⟩ := h
  refine ⟨_, (pss_cons (ps_set (i := 2) sc_half_of.nd rfl (Or.inl rfl) (pe_op op_mod (pv 1) (pv 0)))
    (pss_one (ps_ret (pe_op op_add (pe_op op_fdiv (pv 2) pe_int) (pe_ifExp (pt_cmpR op_eq (pe_op op_mod (pv 2) pe_int) pe_int (nomark _)) (pe_op op_fdiv (pv 0) pe_int) pe_int))))), ?_⟩
  refine ⟨_, rfl, _, rfl, _, _, rfl, rfl, h0, ?_⟩
  refine ⟨_, rfl, _, _, rfl, rfl, ⟨by decide, by decide⟩, ?_⟩
  refine ⟨_, rfl, _, _, rfl, rfl, (by decide : (0 : Int) < 2), rfl, _, rfl, ifb (fun e => ?_) (fun e => ?_)⟩
  · refine ⟨_, rfl, _, _, rfl, rfl, ⟨by decide, by decide⟩, _, _, rfl, rfl, ?_⟩
    unfold halfOf at q
    rw [if_pos (vint_t e)] at q
    exact q
  · refine ⟨_, _, rfl, rfl, ?_⟩
    unfold halfOf at q
    rw [if_neg (vint_f e)] at q
    exact q
abbrev N_twice_of : List Str := ["size", "number"]
abbrev s_twice_of : Stmt := top 32
theorem sc_twice_of : FnScope N_twice_of ["size", "number"] (defScope s_twice_of) := ⟨rfl, rfl, rfl, by decide +kernel, rfl, by decide +kernel, by decide +kernel⟩
theorem ok_twice_of {f : Addr} {fd : FuncData} (F : Fun K "twice_of" "twice_of" s_twice_of f fd) : FnOk P w K mg base CX0 1 f fd ["size", "number"] (spInt2 twiceOf) := by
  refine F.ok sc_twice_of (fun vs H Q E h => ?_) (fun cdv A outer s H vs Q E hr h => ?_)
  · obtain ⟨a, b, rfl, _⟩ := h
    rfl
  obtain ⟨size, a, rfl, h0, h1, q⟩ := h
  refine ⟨_, (pss_one (ps_ret (pe_ifExp (pt_cmpR op_lt (pv 1) (pe_op op_fdiv (pv 0) pe_int) (nomark _)) (pe_op op_mul pe_int (pv 1)) (pe_op op_add (pe_op op_sub (pe_op op_mul pe_int (pv 1)) (pv 0)) pe_int)))), ?_⟩
  refine ⟨_, rfl, _, rfl, _, _, rfl, rfl, ⟨by decide, by decide⟩, _, _, rfl, rfl, _, rfl, ifb (fun e => ?_) (fun e => ?_)⟩
  · refine ⟨_, rfl, _, _, rfl, rfl, .inl ⟨by decide, by decide⟩, ?_⟩
    unfold twiceOf at q
    rw [if_pos (dec_t e)] at q
    exact q
  · refine ⟨_, rfl, _, _, rfl, rfl, .inl ⟨by decide, by decide⟩, _, rfl, _, _, rfl, rfl, _, _, rfl, rfl, ?_⟩
    unfold twiceOf at q
    rw [if_neg (dec_f e)] at q
    exact q
/-! ### third_in_skolem -/
theorem inV_two {x a b : Int} : inV (.int x) [.int a, .int b] = true ↔ a = x ∨ b = x := by
  unfold inV
  simp [eqV]
abbrev N_third_in_skolem : List Str := ["size", "a", "b", "odd", "middle", "point", "x", "i", "y"]
abbrev s_third_in_skolem : Stmt := top 33
theorem sc_third_in_skolem : FnScope N_third_in_skolem ["size", "a", "b"] (defScope s_third_in_skolem) := ⟨rfl, rfl, rfl, by decide +kernel, rfl, by decide +kernel, by decide +kernel⟩
theorem ok_third_in_skolem {f : Addr} {fd : FuncData} (F : Fun K "third_in_skolem" "third_in_skolem" s_third_in_skolem f fd) (G : Glo mg) (C_point_at : Cal P w K mg base CX0 1 "point_at" ["size", "x", "level"] [] spPoint)
    (C_in_order : Cal P w K mg base CX0 1 "in_order" ["size", "a", "b"] [] (spOrder K)) (C_half_of : Cal P w K mg base CX0 1 "half_of" ["size", "number"] [] (spInt2 halfOf)) (C_twice_of : Cal P w K mg base CX0 1 "twice_of" ["size", "number"] [] (spInt2 twiceOf)) :
    FnOk P w K mg base CX0 2 f fd ["size", "a", "b"] (spInt3 tSkolem) := by
  refine F.ok sc_third_in_skolem (fun vs H Q E h => ?_) (fun cdv A outer s H vs Q E hr h => ?_)
  · obtain ⟨a, b, c, rfl, _⟩ := h
    rfl
  obtain ⟨size, a, b, rfl, h0, h1, q⟩ := h
  refine ⟨_, (pss_cons (ps_set (i := 3) sc_third_in_skolem.nd rfl (Or.inl rfl) (pe_op op_mul (pe_gi G.LEVELS) (pv 0)))
    (pss_cons (ps_set (i := 4) sc_third_in_skolem.nd rfl (Or.inl rfl) (pe_op op_fdiv (pv 0) pe_int))
    (pss_cons (ps_if (pt_cmpR (show OpR _ _ (rIn K false) from op_in_seq) (pv 3) (pe_tup (pa_cons (pv 1) (pa_cons (pv 2) pa_nil))) rfl) (pss_cons (ps_set (i := 5) sc_third_in_skolem.nd rfl (Or.inl rfl) (pe_op op_sub (pe_op op_add (pv 1) (pv 2)) (pv 3)))
    (pss_cons (ps_par (i := 6) (j := 7) rfl sc_third_in_skolem.nd rfl rfl (by decide) rfl rfl (pa_cons (pe_op op_mod (pv 5) (pv 0)) (pa_cons (pe_op op_fdiv (pv 5) (pv 0)) pa_nil)) (by rfl))
    (pss_one (ps_ret (pe_ifExp (pt_cmpR op_ge (pv 6) (pv 4) (nomark _)) (pe_c (C_point_at.mono (by omega)) hr pass0 (pa_cons (pv 0) (pa_cons (pe_op op_sub (pv 6) (pv 4)) (pa_cons (pe_op op_add (pv 7) pe_int) pa_nil)))) (pe_c (C_point_at.mono (by omega)) hr pass0 (pa_cons (pv 0) (pa_cons (pe_op op_add (pv 6) (pv 4)) (pa_cons (pe_op op_sub (pv 7) pe_int) pa_nil))))))))) pss_nil)
    (pss_cons (ps_if (pt_cmpR op_eq (pe_op op_fdiv (pv 1) (pv 0)) (pe_op op_fdiv (pv 2) (pv 0)) (nomark _)) (pss_one (ps_ret (pe_c (C_point_at.mono (by omega)) hr pass0 (pa_cons (pv 0) (pa_cons (pe_c (C_half_of.mono (by omega)) hr pass0 (pa_cons (pv 0) (pa_cons (pe_op op_add (pe_op op_mod (pv 1) (pv 0)) (pe_op op_mod (pv 2) (pv 0))) pa_nil))) (pa_cons (pe_op op_add (pe_op op_fdiv (pv 1) (pv 0)) pe_int) pa_nil)))))) pss_nil)
    (pss_cons (ps_asg (pe_c (C_in_order.mono (by omega)) hr pass0 (pa_cons (pv 0) (pa_cons (pv 1) (pa_cons (pv 2) pa_nil)))) (pg_tup rfl (pgs_cons (pg_name (i := 6) sc_third_in_skolem.nd rfl (Or.inl rfl)) (pgs_cons (pg_name (i := 7) sc_third_in_skolem.nd rfl (Or.inl rfl)) (pgs_cons (pg_name (i := 8) sc_third_in_skolem.nd rfl (Or.inl rfl)) pgs_nil)))))
    (pss_cons (ps_if (PW.pt (pw_and (pt_cmpR op_eq (pv 6) (pv 8) (nomark _)) (pw_and1 (pt_cmpR op_lt (pv 6) (pv 4) (nomark _))))) (pss_one (ps_ret (pe_c (C_point_at.mono (by omega)) hr pass0 (pa_cons (pv 0) (pa_cons (pv 6) (pa_cons (pe_op op_add (pv 7) pe_int) pa_nil)))))) pss_nil)
    (pss_cons (ps_if (PW.pt (pw_and (pt_cmpR op_ge (pv 6) (pv 4) (nomark _)) (pw_and1 (pt_cmpR op_eq (pv 8) (pe_op op_sub (pv 6) (pv 4)) (nomark _))))) (pss_one (ps_ret (pv 3))) pss_nil)
    (pss_one (ps_ret (pe_c (C_point_at.mono (by omega)) hr pass0 (pa_cons (pv 0) (pa_cons (pe_op op_mod (pe_op op_sub (pe_c (C_twice_of.mono (by omega)) hr pass0 (pa_cons (pv 0) (pa_cons (pv 8) pa_nil))) (pv 6)) (pv 0)) (pa_cons (pv 7) pa_nil))))))))))))), ?_⟩
  refine ⟨_, rfl, _, _, rfl, rfl, .inl ⟨by decide, by decide⟩, ?_⟩
  refine ⟨_, rfl, _, _, rfl, rfl, ⟨by decide, by decide⟩, ?_⟩
  refine ⟨_, rfl, _, rfl, _, rfl, by show 2 ≤ sizeLine; decide, fun p hp => ?_⟩
  have s1 : Same H (upd H p (.tup [.int a, .int b])) := same_new hp
  refine ⟨p, _, rfl, .inr (.of upd_same), rfl, rfl, _, rfl, ifb (fun e => ?_) (fun e => ?_)⟩
  · have e' : a = 3 * size ∨ b = 3 * size := inV_two.mp e
    refine ⟨_, rfl, _, rfl, _, _, rfl, rfl, _, rfl, _, _, rfl, rfl, ?_⟩
    refine ⟨_, rfl, _, rfl, _, _, rfl, rfl, h0, _, rfl, _, rfl, _, _, rfl, rfl, cdiv h0 (by omega), _, _, rfl, ?_⟩
    refine ⟨_, rfl, _, rfl, _, _, rfl, rfl, _, rfl, ifb (fun e => ?_) (fun e => ?_)⟩
    · refine ⟨_, rfl, _, rfl, _, rfl, _, _, rfl, rfl, _, rfl, _, _, rfl, rfl, _, _, _, rfl, h0, by omega, ?_⟩
      have := q _ s1
      unfold tSkolem at this
      rw [if_pos e', if_pos (dec_t e)] at this
      exact this
    · refine ⟨_, rfl, _, rfl, _, rfl, _, _, rfl, rfl, _, rfl, _, _, rfl, rfl, _, _, _, rfl, h0, by omega, ?_⟩
      have := q _ s1
      unfold tSkolem at this
      rw [if_pos e', if_neg (dec_f e)] at this
      exact this
  have e1 : ¬ (a = 3 * size ∨ b = 3 * size) := fun z => by
    have z' := inV_two.mpr z
    rw [show inV (V.int (3 * size)) [V.int a, V.int b] = false from e] at z'
    cases z'
  refine ⟨_, rfl, _, rfl, _, _, rfl, rfl, cdiv h0 (by omega), _, rfl, _, rfl, _, _, rfl, rfl, cdiv h0 (by omega), rfl, _, rfl, ifb (fun e => ?_) (fun e => ?_)⟩
  · refine ⟨_, rfl, _, rfl, _, rfl, _, rfl, _, _, rfl, rfl, h0, _, rfl, _, rfl, _, _, rfl, rfl, h0, _, _, rfl, rfl, _, _, rfl, h0, h1, ?_⟩
    refine ⟨_, rfl, _, rfl, _, _, rfl, rfl, cdiv h0 (by omega), _, _, rfl, rfl, _, _, _, rfl, h0, by omega, ?_⟩
    have := q _ s1
    unfold tSkolem at this
    rw [if_neg e1, if_pos (vint_t e)] at this
    exact this
  have e2 := vint_f e
  refine ⟨_, rfl, _, rfl, _, rfl, _, _, _, rfl, h0, by omega, fun p2 H1 s2 hp2 => ?_⟩
  refine ⟨p2, _, rfl, .of hp2, rfl, _, _, rfl, _, _, rfl, _, _, rfl, rfl, ?_⟩
  have s3 := s1.trans s2
  refine ans_and2 (ans_eq (val_var rfl) (val_var rfl) rfl rfl) (ans_cmp (val_var rfl) (val_var rfl) (fun Q q => ⟨_, _, rfl, rfl, q⟩)) _ ?_
  refine ifb (fun e3 => ?_) (fun e3 => ?_)
  · have e' := Bool.and_eq_true_iff.mp e3
    refine ⟨_, rfl, _, rfl, _, rfl, _, _, rfl, rfl, _, _, _, rfl, h0, by omega, ?_⟩
    have := q _ s3
    unfold tSkolem at this
    rw [if_neg e1, if_neg e2, if_pos ⟨vint_t e'.1, dec_t e'.2⟩] at this
    exact this
  have n3 : ¬ ((inOrder size a b).1 = (inOrder size a b).2.2 ∧ (inOrder size a b).1 < size / 2) := fun z => by
    have : (decide (V.int (inOrder size a b).1 = V.int (inOrder size a b).2.2) && decide ((inOrder size a b).1 < size / 2)) = true := Bool.and_eq_true_iff.mpr ⟨decide_eq_true (congrArg V.int z.1), decide_eq_true z.2⟩
    rw [this] at e3
    cases e3
  refine ans_and2 (ans_cmp (val_var rfl) (val_var rfl) (fun Q q => ⟨_, _, rfl, rfl, q⟩)) (ans_eq (val_var rfl) (val_op (val_var rfl) (val_var rfl) (fun Q q => ⟨_, _, rfl, rfl, q⟩)) rfl rfl) _ ?_
  refine ifb (fun e4 => ?_) (fun e4 => ?_)
  · have e' := Bool.and_eq_true_iff.mp e4
    refine ⟨_, rfl, ?_⟩
    have := q _ s3
    unfold tSkolem at this
    rw [if_neg e1, if_neg e2, if_neg n3, if_pos ⟨dec_t e'.1, vint_t e'.2⟩] at this
    exact this
  have n4 : ¬ (size / 2 ≤ (inOrder size a b).1 ∧ (inOrder size a b).2.2 = (inOrder size a b).1 - size / 2) := fun z => by
    have : (decide (size / 2 ≤ (inOrder size a b).1) && decide (V.int (inOrder size a b).2.2 = V.int ((inOrder size a b).1 - size / 2))) = true := Bool.and_eq_true_iff.mpr ⟨decide_eq_true z.1, decide_eq_true (congrArg V.int z.2)⟩
    rw [this] at e4
    cases e4
  refine ⟨_, rfl, _, rfl, _, rfl, _, _, rfl, h0, h1, ?_⟩
  refine ⟨_, rfl, _, _, rfl, rfl, _, rfl, _, _, rfl, rfl, h0, _, rfl, _, _, _, rfl, h0, by omega, ?_⟩
  have := q _ s3
  unfold tSkolem at this
  rw [if_neg e1, if_neg e2, if_neg n3, if_neg n4] at this
  exact this
/-! ### figures_apart -/
abbrev N_figures_apart : List Str := ["a", "b", "found", "step"]
abbrev s_figures_apart : Stmt := top 34
theorem sc_figures_apart : FnScope N_figures_apart ["a", "b"] (defScope s_figures_apart) := ⟨rfl, rfl, rfl, by decide +kernel, rfl, by decide +kernel, by decide +kernel⟩
def spFigs : Sp := fun vs H Q _ => ∃ a b : Int, vs = [.int a, .int b] ∧ 0 ≤ a ∧ a < 100000 ∧ 0 ≤ b ∧ b < 100000 ∧ Q (.int (figs 12 a b)) H
theorem figs_zero : ∀ k : Nat, figs k 0 0 = 0
  | 0 => rfl
  | k + 1 => by
    unfold figs
    rw [if_neg (by omega)]
theorem ok_figures_apart {f : Addr} {fd : FuncData} (F : Fun K "figures_apart" "figures_apart" s_figures_apart f fd) : FnOk P w K mg base CX0 1 f fd ["a", "b"] spFigs := by
  refine F.ok sc_figures_apart (fun vs H Q E h => ?_) (fun cdv A outer s H vs Q E hr h => ?_)
  · obtain ⟨a, b, rfl, _⟩ := h
    rfl
  obtain ⟨a, b, rfl, ha, ha', hb, hb', q⟩ := h
  refine ⟨_, (pss_cons (ps_set (i := 2) sc_figures_apart.nd rfl (Or.inl rfl) pe_int)
    (pss_cons (ps_set (i := 3) sc_figures_apart.nd rfl (Or.inl rfl) pe_int)
    (pss_cons (ps_while PassesOwn.never (PW.pt (pw_or (pt_cmpR op_gt (pv 0) pe_int (nomark _)) (pw_or1 (pt_cmpR op_gt (pv 1) pe_int (nomark _))))) (pss_cons (ps_aug (i := 2) sc_figures_apart.nd rfl (Or.inl rfl) (pe_op op_mul (pe_op op_mod (pe_un un_neg (pe_op op_add (pe_op op_mod (pv 0) pe_int) (pe_op op_mod (pv 1) pe_int))) pe_int) (pv 3)) ip_add)
    (pss_cons (ps_aug (i := 0) sc_figures_apart.nd rfl (Or.inl rfl) pe_int ip_fdiv)
    (pss_cons (ps_aug (i := 1) sc_figures_apart.nd rfl (Or.inl rfl) pe_int ip_fdiv)
    (pss_one (ps_aug (i := 3) sc_figures_apart.nd rfl (Or.inl rfl) pe_int ip_mul))))))
    (pss_one (ps_ret (pv 2)))))), ?_⟩
  refine ⟨fun k σ H' => ∃ (x y fo : Int) (st : Nat), σ = [some (.int x), some (.int y), some (.int fo), some (.int st)] ∧ H' = H ∧ 0 ≤ x ∧ 0 ≤ y ∧ x < 3 ^ k ∧ y < 3 ^ k ∧ k ≤ 12 ∧ st = 3 ^ (12 - k) ∧ fo + st * figs k x y = figs 12 a b,
    ⟨12, a, b, 0, 1, rfl, rfl, ha, hb, by omega, by omega, by decide, rfl, by omega⟩, fun k σ H' hW => ?_⟩
  obtain ⟨x, y, fo, st, rfl, rfl, hx, hy, hx', hy', hk, hst, hv⟩ := hW
  have hsb : (st : Int) ≤ 531441 := by
    have : 3 ^ (12 - k) ≤ 3 ^ 12 := Nat.pow_le_pow_right (by decide) (by omega)
    omega
  have tst : Ans (tOr (tTest (tOp (rI0 fun i j => .bl (decide (j < i))) (tVar 0) (tC (.int 0)))) (tTest (tOp (rI0 fun i j => .bl (decide (j < i))) (tVar 1) (tC (.int 0))))) [some (.int x), some (.int y), some (.int fo), some (.int (st : Int))] H' (decide (0 < x ∨ 0 < y)) := by
    by_cases h1 : 0 < x
    · rw [decide_eq_true (Or.inl h1)]
      exact ans_or1 (ans_cmp (val_var rfl) val_c fun Q q => ⟨_, _, rfl, rfl, (by show Q (V.bl (decide (0 < x))) H'; rw [decide_eq_true h1]; exact q)⟩)
    · have e0 : decide (0 < x ∨ 0 < y) = decide (0 < y) := by
        by_cases h2 : 0 < y <;> simp [h1, h2]
      rw [e0]
      exact ans_or (ans_cmp (val_var rfl) val_c fun Q q => ⟨_, _, rfl, rfl, (by show Q (V.bl (decide (0 < x))) H'; rw [decide_eq_false h1]; exact q)⟩) (ans_cmp (val_var rfl) val_c fun Q q => ⟨_, _, rfl, rfl, q⟩)
  refine tst _ (ifb (fun e => ?_) (fun e => ?_))
  · have e' := dec_t e
    obtain ⟨k, rfl⟩ : ∃ j, k = j + 1 := by
      cases k with
      | zero => exact absurd e' (by simp at hx' hy'; omega)
      | succ j => exact ⟨j, rfl⟩
    have hf : figs (k + 1) x y = (-(x % 3 + y % 3)) % 3 + 3 * figs k (x / 3) (y / 3) := by
      rw [figs, if_pos e']
    have m1 := mod_lt' (a := -(x % 3 + y % 3)) (show (0 : Int) < 3 by decide)
    have hst2 : st * 3 = 3 ^ (12 - k) := by
      rw [hst, show 12 - k = (12 - (k + 1)) + 1 by omega, Nat.pow_succ]
    have hpow : (3 : Int) ^ (k + 1) = 3 ^ k * 3 := Int.pow_succ _ _
    refine ⟨fun σ' H'' => ∃ (x y fo : Int) (st : Nat), σ' = [some (.int x), some (.int y), some (.int fo), some (.int st)] ∧ H'' = H' ∧ 0 ≤ x ∧ 0 ≤ y ∧ x < 3 ^ k ∧ y < 3 ^ k ∧ k ≤ 12 ∧ st = 3 ^ (12 - k) ∧ fo + st * figs k x y = figs 12 a b, fun σ' H'' hN => ⟨k, Nat.lt_succ_self _, hN⟩, ?_⟩
    refine ⟨_, rfl, _, rfl, _, _, rfl, rfl, (by decide : (0 : Int) < 3), _, rfl, _, _, rfl, rfl, (by decide : (0 : Int) < 3), _, _, rfl, rfl, _, rfl, _, _, rfl, rfl, (by decide : (0 : Int) < 3), _, rfl, _, _, rfl, rfl, .inl ⟨by omega, by omega⟩, _, _, rfl, rfl, ?_⟩
    refine ⟨_, rfl, _, _, rfl, rfl, ⟨by decide, by decide⟩, ?_⟩
    refine ⟨_, rfl, _, _, rfl, rfl, ⟨by decide, by decide⟩, ?_⟩
    refine ⟨_, rfl, _, _, rfl, rfl, .inr ⟨by decide, by decide⟩, ?_⟩
    refine ⟨x / 3, y / 3, fo + -(x % 3 + y % 3) % 3 * st, st * 3, by rw [Int.natCast_mul] <;> rfl, rfl, by omega, by omega, by omega, by omega, by omega, hst2, ?_⟩
    rw [← hv, hf, Int.natCast_mul, Int.mul_add, Int.mul_comm (st : Int) (-(x % 3 + y % 3) % 3), Int.mul_assoc, Int.add_assoc]
    rfl
  · have e' := dec_f e
    have ex : x = 0 := by omega
    have ey : y = 0 := by omega
    subst ex ey
    rw [figs_zero] at hv
    refine ⟨_, rfl, ?_⟩
    have : fo = figs 12 a b := by
      rw [← hv]
      simp
    rw [this]
    exact q
end
end Pj
/-! Comprehensions over tuples and lists, told by data; data taken apart. -/
namespace Pj
open PySem PySem.Spec PyProof.Rows L2 PjM
section
variable {K : PySem.W.Frag} {H : Hp} {v : V}
theorem dp_int {i : Int} (h : Dp K H v (.int i)) : v = .int i := by cases h; rfl
theorem dp_str {x : Str} (h : Dp K H v (.str x)) : v = .str x := by cases h; rfl
theorem dp_bool {b : Bool} (h : Dp K H v (.bool b)) : v = .bl b := by cases h; rfl
theorem dp_tup {ds : List PyData} (h : Dp K H v (.tuple ds)) : ∃ a xs, v = .ref a ∧ SqT K H a xs ∧ DpAll K H xs ds := by
  cases h with
  | tup hs ha => exact ⟨_, _, rfl, hs, ha⟩
theorem dp_tup2 {d e : PyData} (h : Dp K H v (.tuple [d, e])) : ∃ a x y, v = .ref a ∧ SqT K H a [x, y] ∧ Dp K H x d ∧ Dp K H y e := by
  obtain ⟨a, xs, rfl, hs, ha⟩ := dp_tup h
  cases ha with
  | cons h1 t =>
    cases t with
    | cons h2 t =>
      cases t
      exact ⟨a, _, _, rfl, hs, h1, h2⟩
theorem dp_tup3 {d e g : PyData} (h : Dp K H v (.tuple [d, e, g])) : ∃ a x y z, v = .ref a ∧ SqT K H a [x, y, z] ∧ Dp K H x d ∧ Dp K H y e ∧ Dp K H z g := by
  obtain ⟨a, xs, rfl, hs, ha⟩ := dp_tup h
  cases ha with
  | cons h1 t =>
    cases t with
    | cons h2 t =>
      cases t with
      | cons h3 t =>
        cases t
        exact ⟨a, _, _, _, rfl, hs, h1, h2, h3⟩
theorem dp_tri {t : Tri} (h : Dp K H v (eTri t)) : ∃ a, v = .ref a ∧ SqT K H a [.int t.1, .int t.2.1, .int t.2.2] := by
  obtain ⟨a, x, y, z, rfl, hs, h1, h2, h3⟩ := dp_tup3 h
  rw [dp_int h1, dp_int h2, dp_int h3] at hs
  exact ⟨a, rfl, hs⟩
theorem dp_tri_of {a : Addr} {t : Tri} (h : SqT K H a [.int t.1, .int t.2.1, .int t.2.2]) : Dp K H (.ref a) (eTri t) := .tup h (.cons (.int _) (.cons (.int _) (.cons (.int _) .nil)))
theorem tOnly_tri (t : Tri) : tOnly (eTri t) = true := rfl
theorem tOnlyAll_map {α : Type} (g : α → PyData) (h : ∀ a, tOnly (g a) = true) : ∀ l : List α, tOnlyAll (l.map g) = true
  | [] => rfl
  | a :: l => by
    show (tOnly (g a) && tOnlyAll (l.map g)) = true
    rw [h a, tOnlyAll_map g h l]
    rfl
theorem enc_ref : ∀ {t : Tree}, Dp K H v (enc t) → ∃ a xs, v = .ref a ∧ SqT K H a xs ∧ xs ≠ []
  | .bose n, h => by obtain ⟨a, x, y, e, hs, _⟩ := dp_tup2 h; exact ⟨a, _, e, hs, by simp⟩
  | .skolem n, h => by obtain ⟨a, x, y, e, hs, _⟩ := dp_tup2 h; exact ⟨a, _, e, hs, by simp⟩
  | .affine n, h => by obtain ⟨a, x, y, e, hs, _⟩ := dp_tup2 h; exact ⟨a, _, e, hs, by simp⟩
  | .binary n, h => by obtain ⟨a, x, y, e, hs, _⟩ := dp_tup2 h; exact ⟨a, _, e, hs, by simp⟩
  | .listed n T, h => by obtain ⟨a, x, y, z, e, hs, _⟩ := dp_tup3 h; exact ⟨a, _, e, hs, by simp⟩
  | .dbl t, h => by obtain ⟨a, x, y, e, hs, _⟩ := dp_tup2 h; exact ⟨a, _, e, hs, by simp⟩
  | .prod s t, h => by obtain ⟨a, x, y, z, e, hs, _⟩ := dp_tup3 h; exact ⟨a, _, e, hs, by simp⟩
end
/-! ### comprehensions -/
theorem wipe1 (σ : L2.St) (j : Nat) (x : Option V) : wipe ((wipe σ [j]).set j x) [j] = wipe σ [j] := by
  show ((σ.set j none).set j x).set j none = σ.set j none
  rw [List.set_set, List.set_set]
section
variable {K : PySem.W.Frag} {σ : L2.St} {H : Hp} {Q : Addr → Hp → Prop} {a : Addr} {xs : List V} {j : Nat} {te : TE}
/-- what a comprehension asks behind its iterator, over any walk of xs, no test: R what is made at turn i, D the new list -/
theorem lc_gen {J : It} (hgo : ∀ i H', Same H H' → i < xs.length → J.go i H') (hstop : ∀ H', Same H H' → J.stop xs.length H')
    (hy : ∀ i x H1 H2, Same H H1 → i < xs.length → J.yld i H1 x H2 → H2 = H1 ∧ xs[i]? = some x)
    (R : Addr → Nat → V → Hp → Prop) (hz : xs.length ≤ 100000) (ms : ∀ D i y H1 H2, Same H1 H2 → R D i y H1 → R D i y H2) (mu : ∀ D i y H1 zs o, H1 D = some (.lst zs) → R D i y H1 → R D i y (upd H1 D o))
    (he : ∀ D i x H1 zs, H D = none → Same H H1 → H1 D = some (.lst zs) → xs[i]? = some x → ∀ Q : VK, (∀ y H2, Same H1 H2 → R D i y H2 → Q y H2) → te ((wipe σ [j]).set j (some x)) H1 Q)
    (k : ∀ D ys H2, H D = none → Same H H2 → H2 D = some (.lst ys) → ys.length = xs.length → (∀ i y, ys[i]? = some y → R D i y H2) → Q D H2) :
    ∀ D, H D = none → ∃ W : Nat → Nat → Hp → Prop, (∃ m, W 0 m (upd H D (.lst []))) ∧ ∀ i m H, W i m H →
      (J.stop i H ∧ Q D H) ∨ (J.go i H ∧ ∃ Nx : Hp → Prop, (∀ H', Nx H' → ∃ m', m' < m ∧ W (i + 1) m' H') ∧ ∀ x H', J.yld i H x H' → gName j x (wipe σ [j]) H' fun σ2 H2 => wipe σ2 [j] = wipe σ [j] ∧ tYes σ2 H2 fun b H3 =>
        if b = true then te σ2 H3 fun y H4 => ∃ acc, H4 D = some (.lst acc) ∧ acc.length < sizeLine ∧ Nx (upd H4 D (.lst (acc ++ [y]))) else Nx H3) := by
  intro D hD
  refine ⟨fun i m H' => m = xs.length - i ∧ i ≤ xs.length ∧ Same H H' ∧ ∃ ys, H' D = some (.lst ys) ∧ ys.length = i ∧ ∀ l y, ys[l]? = some y → R D l y H', ⟨xs.length, by simp, Nat.zero_le _, same_new hD, [], upd_same, rfl, fun l y e => by simp at e⟩, ?_⟩
  rintro i m H' ⟨rfl, hi, hs, ys, hy0, hl, hR⟩
  by_cases hlt : i < xs.length
  · refine .inr ⟨hgo i H' hs hlt, fun H2 => Same H H2 ∧ ∃ ys, H2 D = some (.lst ys) ∧ ys.length = i + 1 ∧ ∀ l y, ys[l]? = some y → R D l y H2, fun H2 h2 => ⟨xs.length - (i + 1), by omega, rfl, hlt, h2⟩, fun x H2 hx => ?_⟩
    obtain ⟨rfl, ex⟩ := hy i x H' H2 hs hlt hx
    refine ⟨wipe1 σ j _, ?_⟩
    show te ((wipe σ [j]).set j (some x)) H2 _
    refine he D i x H2 ys hD hs hy0 ex _ fun y H4 s4 r4 => ⟨ys, s4 _ _ hy0, ?_, same_mut (hs.trans s4) hD, ys ++ [y], upd_same, by rw [List.length_append, hl]; rfl, fun l z e => ?_⟩
    · rw [hl]
      exact Nat.lt_of_lt_of_le (Nat.lt_of_lt_of_le hlt hz) (by decide)
    · refine mu D l z H4 ys _ (s4 _ _ hy0) ?_
      by_cases hl' : l < ys.length
      · rw [List.getElem?_append_left hl'] at e
        exact ms D l z _ _ s4 (hR l z e)
      · rw [List.getElem?_append_right (by omega)] at e
        have e0 : l - ys.length = 0 := by
          cases q : l - ys.length with
          | zero => rfl
          | succ n => rw [q] at e; simp at e
        rw [e0] at e
        have ez : y = z := Option.some.inj e
        subst ez
        have el : l = i := by omega
        subst el
        exact r4
  · have ei : i = xs.length := by omega
    subst ei
    exact .inl ⟨hstop H' hs, k D ys H' hD hs hy0 hl hR⟩
theorem itt_go (hx : SqT K H a xs) : (∀ i H', Same H H' → i < xs.length → (Itt K a).go i H') ∧ (∀ H', Same H H' → (Itt K a).stop xs.length H') :=
  ⟨fun i H' s h => ⟨xs, xs[i], same_sqT s hx, by simp [h]⟩, fun H' s => ⟨xs, same_sqT s hx, Nat.le_refl _⟩⟩
theorem itl_go (hx : SqL K H a xs) : (∀ i H', Same H H' → i < xs.length → (Itl K a).go i H') ∧ (∀ H', Same H H' → (Itl K a).stop xs.length H') :=
  ⟨fun i H' s h => ⟨xs, xs[i], s.seq hx, by simp [h]⟩, fun H' s => ⟨xs, s.seq hx, Nat.le_refl _⟩⟩
theorem ofRange {α : Type} {d : Nat → α} {l : Nat} {i : Nat} (h : i < l) : ((List.range l).map d)[i]? = some (d i) := by
  rw [List.getElem?_map, List.getElem?_range h]
  rfl
theorem dps_of_get : ∀ {ys : List V} {ds : List PyData}, ys.length = ds.length → (∀ (i : Nat) y d, ys[i]? = some y → ds[i]? = some d → Dp K H y d) → DpAll K H ys ds
  | [], [], _, _ => .nil
  | y :: ys, d :: ds, hl, h => .cons (h 0 y d rfl rfl) (dps_of_get (Nat.succ.inj hl) fun i y' d' e1 e2 => h (i + 1) y' d' e1 e2)
  | [], _ :: _, hl, _ => by simp at hl
  | _ :: _, [], hl, _ => by simp at hl
/-- each turn makes a datum without lists: over a tuple -/
theorem lc_tup_dp (hx : SqT K H a xs) (hz : xs.length ≤ 100000) (d : Nat → PyData) (ht : ∀ i, tOnly (d i) = true)
    (he : ∀ D i x H1 zs, H D = none → Same H H1 → H1 D = some (.lst zs) → xs[i]? = some x → ∀ Q : VK, (∀ y H2, Same H1 H2 → Dp K H2 y (d i) → Q y H2) → te ((wipe σ [j]).set j (some x)) H1 Q)
    (k : ∀ D ys H2, H D = none → Same H H2 → H2 D = some (.lst ys) → DpAll K H2 ys ((List.range xs.length).map d) → Q D H2) :
    ∃ a', V.ref a = V.ref a' ∧ (∃ xs, SqT K H a' xs) ∧ ∀ D, H D = none → ∃ W : Nat → Nat → Hp → Prop, (∃ m, W 0 m (upd H D (.lst []))) ∧ ∀ i m H, W i m H →
      ((Itt K a').stop i H ∧ Q D H) ∨ ((Itt K a').go i H ∧ ∃ Nx : Hp → Prop, (∀ H', Nx H' → ∃ m', m' < m ∧ W (i + 1) m' H') ∧ ∀ x H', (Itt K a').yld i H x H' → gName j x (wipe σ [j]) H' fun σ2 H2 => wipe σ2 [j] = wipe σ [j] ∧ tYes σ2 H2 fun b H3 =>
        if b = true then te σ2 H3 fun y H4 => ∃ acc, H4 D = some (.lst acc) ∧ acc.length < sizeLine ∧ Nx (upd H4 D (.lst (acc ++ [y]))) else Nx H3) :=
  ⟨a, rfl, ⟨xs, hx⟩, lc_gen (itt_go hx).1 (itt_go hx).2 (fun i x H1 H2 s _ y => ⟨y.1, y.2 xs (same_sqT s hx)⟩) (fun _ i y H' => Dp K H' y (d i)) hz (fun _ _ _ _ _ s h => dp_same s _ _ h) (fun _ i _ _ _ _ hD h => dp_mut (nt_lst hD) _ _ (ht i) h) he
    fun D ys H2 hD s e hl hR => k D ys H2 hD s e (dps_of_get (by rw [List.length_map, List.length_range, hl]) fun i y d' e1 e2 => by
      have hi : i < xs.length := by rw [← hl]; exact (List.getElem?_eq_some_iff.mp e1).1
      rw [ofRange hi] at e2
      rw [← Option.some.inj e2]
      exact hR i y e1)⟩
/-- over a list -/
theorem lc_lst_dp (hx : SqL K H a xs) (hz : xs.length ≤ 100000) (d : Nat → PyData) (ht : ∀ i, tOnly (d i) = true)
    (he : ∀ D i x H1 zs, H D = none → Same H H1 → H1 D = some (.lst zs) → xs[i]? = some x → ∀ Q : VK, (∀ y H2, Same H1 H2 → Dp K H2 y (d i) → Q y H2) → te ((wipe σ [j]).set j (some x)) H1 Q)
    (k : ∀ D ys H2, H D = none → Same H H2 → H2 D = some (.lst ys) → DpAll K H2 ys ((List.range xs.length).map d) → Q D H2) :
    ∃ a', V.ref a = V.ref a' ∧ (∃ xs, SqL K H a' xs) ∧ ∀ D, H D = none → ∃ W : Nat → Nat → Hp → Prop, (∃ m, W 0 m (upd H D (.lst []))) ∧ ∀ i m H, W i m H →
      ((Itl K a').stop i H ∧ Q D H) ∨ ((Itl K a').go i H ∧ ∃ Nx : Hp → Prop, (∀ H', Nx H' → ∃ m', m' < m ∧ W (i + 1) m' H') ∧ ∀ x H', (Itl K a').yld i H x H' → gName j x (wipe σ [j]) H' fun σ2 H2 => wipe σ2 [j] = wipe σ [j] ∧ tYes σ2 H2 fun b H3 =>
        if b = true then te σ2 H3 fun y H4 => ∃ acc, H4 D = some (.lst acc) ∧ acc.length < sizeLine ∧ Nx (upd H4 D (.lst (acc ++ [y]))) else Nx H3) :=
  ⟨a, rfl, ⟨xs, hx⟩, lc_gen (itl_go hx).1 (itl_go hx).2 (fun i x H1 H2 s _ y => ⟨y.1, y.2 xs (s.seq hx)⟩) (fun _ i y H' => Dp K H' y (d i)) hz (fun _ _ _ _ _ s h => dp_same s _ _ h) (fun _ i _ _ _ _ hD h => dp_mut (nt_lst hD) _ _ (ht i) h) he
    fun D ys H2 hD s e hl hR => k D ys H2 hD s e (dps_of_get (by rw [List.length_map, List.length_range, hl]) fun i y d' e1 e2 => by
      have hi : i < xs.length := by rw [← hl]; exact (List.getElem?_eq_some_iff.mp e1).1
      rw [ofRange hi] at e2
      rw [← Option.some.inj e2]
      exact hR i y e1)⟩
theorem map_of_get {α β : Type} {l : List α} {g : α → β} {d : Nat → β} (h : ∀ (i : Nat) (x : α), l[i]? = some x → d i = g x) : (List.range l.length).map d = l.map g := by
  refine List.ext_getElem? fun i => ?_
  by_cases hi : i < l.length
  · rw [ofRange hi, List.getElem?_map, List.getElem?_eq_getElem hi]
    exact congrArg some (h i _ (List.getElem?_eq_getElem hi))
  · rw [List.getElem?_eq_none (by rw [List.length_map, List.length_range]; omega), List.getElem?_eq_none (by rw [List.length_map]; omega)]
end
/-! ### what sorted leaves -/
section
def gInt (n : Int) : V × PyData := (V.int n, PyData.int n)
def uInt (z : V × PyData) : Int := match z.2 with
  | .int n => n
  | _ => 0
theorem zip_ints (ns : List Int) : (ns.map V.int).zip (ns.map PyData.int) = ns.map gInt := by
  induction ns with
  | nil => rfl
  | cons n r ih => exact congrArg (gInt n :: ·) ih
theorem unmap {α β : Type} {g : α → β} {u : β → α} (h : ∀ a, u (g a) = a) {zs : List β} {l : List α} (hp : zs.Perm (l.map g)) : zs = (zs.map u).map g ∧ (zs.map u).Perm l := by
  refine ⟨?_, ?_⟩
  · rw [List.map_map]
    refine (List.map_id zs).symm.trans (List.map_congr_left fun z hz => ?_)
    obtain ⟨a, _, rfl⟩ := List.mem_map.mp (hp.mem_iff.mp hz)
    show g a = g (u (g a))
    rw [h]
  · have q := hp.map u
    rw [List.map_map] at q
    have e : l.map (u ∘ g) = l := (List.map_congr_left fun a _ => h a).trans (List.map_id l)
    rwa [e] at q
theorem sort_ints {ns : List Int} {zs : List (V × PyData)} (hp : zs.Perm ((ns.map V.int).zip (ns.map PyData.int))) (hs : zs.Pairwise fun y z => PySem.W.dataLt z.2 y.2 = false) :
    ∃ ns' : List Int, ns'.Perm ns ∧ ns'.Pairwise (· ≤ ·) ∧ zs.map (·.1) = ns'.map V.int := by
  rw [zip_ints] at hp
  obtain ⟨e, p⟩ := unmap (u := uInt) (fun _ => rfl) hp
  refine ⟨zs.map uInt, p, ?_, ?_⟩
  · rw [e] at hs
    refine (List.pairwise_map.mp hs).imp fun {a b} h => ?_
    have h' : PySem.W.dataLt (.int b) (.int a) = false := h
    rw [PySem.W.dataLt_int] at h'
    have := of_decide_eq_false h'
    omega
  · conv => lhs; rw [e]
    rw [List.map_map]
    rfl
theorem sort3 {a b c : Int} {zs : List (V × PyData)} (hp : zs.Perm (([a, b, c].map V.int).zip ([a, b, c].map PyData.int))) (hs : zs.Pairwise fun y z => PySem.W.dataLt z.2 y.2 = false) :
    zs.map (·.1) = [V.int (s3 a b c).1, V.int (s3 a b c).2.1, V.int (s3 a b c).2.2] := by
  obtain ⟨ns, p, q, e⟩ := sort_ints hp hs
  rw [e, s3_of p q]
  rfl
theorem alike_is (ns : List Int) : PySem.W.AllAlike (ns.map PyData.int) := PySem.W.AllAlike.of fun _ _ => rfl
theorem sortable_is (ns : List Int) : PySem.W.Sortable (ns.map PyData.int) := PySem.W.Sortable.others fun _ => ⟨fun e => (by cases e), fun _ e => (by cases e)⟩
theorem depth_is {ns : List Int} : ∀ d ∈ ns.map PyData.int, d.depth ≤ 10 := fun d hd => by
  obtain ⟨n, _, rfl⟩ := List.mem_map.mp hd
  exact Nat.zero_le _
/-! threes -/
def uTri (d : PyData) : Tri := match d with
  | .tuple [.int a, .int b, .int c] => (a, b, c)
  | _ => (0, 0, 0)
theorem uTri_e (t : Tri) : uTri (eTri t) = t := rfl
theorem dataLt_tri (s t : Tri) (h : PySem.W.dataLt (eTri s) (eTri t) = false) : ¬ tlt s t := by
  obtain ⟨a, b, c⟩ := s
  obtain ⟨x, y, z⟩ := t
  have e : PySem.W.dataLt (eTri (a, b, c)) (eTri (x, y, z)) = PySem.W.rowLt ([a, b, c].map PyData.int) ([x, y, z].map PyData.int) := rfl
  rw [e, PySem.W.dataLt_ints] at h
  have h' := of_decide_eq_false h
  intro hl
  apply h'
  simp only [tlt] at hl
  rw [List.cons_lt_cons_iff, List.cons_lt_cons_iff, List.cons_lt_cons_iff]
  rcases hl with h1 | ⟨h1, h2 | ⟨h2, h3⟩⟩
  · exact .inl h1
  · exact .inr ⟨h1, .inl h2⟩
  · exact .inr ⟨h1, .inr ⟨h2, .inl h3⟩⟩
theorem sort_tris {K : PySem.W.Frag} {H : Hp} {xs : List V} {T : List Tri} {zs : List (V × PyData)} (hd : DpAll K H xs (T.map eTri)) (hp : zs.Perm (xs.zip (T.map eTri))) (hs : zs.Pairwise fun y z => PySem.W.dataLt z.2 y.2 = false) :
    ∃ R : List Tri, R.Perm T ∧ R.Pairwise tle ∧ DpAll K H (zs.map (·.1)) (R.map eTri) := by
  have hl : xs.length = (T.map eTri).length := dps_len hd
  have hp2 := hp.map (·.2)
  rw [zip_snd hl] at hp2
  obtain ⟨e, p⟩ := unmap uTri_e hp2
  refine ⟨(zs.map (·.2)).map uTri, p, ?_, ?_⟩
  · have hs' : (zs.map (·.2)).Pairwise fun y z => PySem.W.dataLt z y = false := List.pairwise_map.mpr hs
    rw [e] at hs'
    exact (List.pairwise_map.mp hs').imp fun {a b} h => dataLt_tri _ _ h
  · rw [← e]
    exact dps_of_zip fun q hq => dps_zip hd q (hp.mem_iff.mp hq)
theorem alike_tris (T : List Tri) : PySem.W.AllAlike (T.map eTri) := PySem.W.AllAlike.of fun _ _ => rfl
theorem sortable_tris (T : List Tri) : PySem.W.Sortable (T.map eTri) := PySem.W.Sortable.tuples fun t => ⟨_, _, rfl⟩
theorem depth_tris {T : List Tri} : ∀ d ∈ T.map eTri, d.depth ≤ 10 := fun d hd => by
  obtain ⟨n, _, rfl⟩ := List.mem_map.mp hd
  exact (by decide : (1 : Nat) ≤ 10)
theorem dps_bool_inv {K : PySem.W.Frag} {H : Hp} : ∀ {bs : List Bool} {vs : List V}, DpAll K H vs (bs.map PyData.bool) → vs = bs.map V.bl
  | [], _, h => by cases h; rfl
  | n :: r, _, h => by
    cases h with
    | cons h1 h2 =>
      cases h1
      rw [dps_bool_inv h2]
      rfl
theorem all_true {K : PySem.W.Frag} {H : Hp} {D : Addr} {ys : List V} {n : Nat} (e : H D = some (.lst ys)) (h : DpAll K H ys ((List.range n).map fun _ => PyData.bool true)) : ∃ bs : List Bool, SqL K H D (bs.map V.bl) ∧ bs.all id = true := by
  have q : (List.range n).map (fun _ => PyData.bool true) = (List.replicate n true).map PyData.bool := by
    refine List.ext_getElem? fun i => ?_
    by_cases hi : i < n
    · simp [hi]
    · simp [hi]
  rw [q] at h
  rw [dps_bool_inv h] at e
  exact ⟨List.replicate n true, .of e, by simp⟩
end
end Pj
/-! size_of and the third points of any tree. -/
namespace Pj
open PySem PySem.Spec PyProof.Rows L2 PjM
section
variable {P : Program} {w : World} {K : PySem.W.Frag} {mg : Str → Option Value} {base : Heap}
/-! ### size_of -/
abbrev N_size_of : List Str := ["tree", "kind"]
abbrev s_size_of : Stmt := top 20
theorem sc_size_of : FnScope N_size_of ["tree"] (defScope s_size_of) := ⟨rfl, rfl, rfl, by decide +kernel, rfl, by decide +kernel, by decide +kernel⟩
def spSize (K : PySem.W.Frag) (h : Nat) : Sp := fun vs H Q _ => ∃ (t : Tree) (v : V), vs = [v] ∧ Ok t ∧ t.ht ≤ h ∧ Dp K H v (enc t) ∧ Q (.int (t.sz : Int)) H
theorem ok_size_one {f : Addr} {fd : FuncData} (h : Nat) (F : Fun K "size_of" "size_of" s_size_of f fd) (B : Blt mg) (C_power_of : Cal P w K mg base CX0 1 "power_of" ["base", "many"] [] spPow)
    (C_size_of : Cal P w K mg base CX0 (h + 1) "size_of" ["tree"] [] (spSize K h)) : FnOk P w K mg base CX0 (h + 2) f fd ["tree"] (spSize K (h + 1)) := by
  refine F.ok sc_size_of (fun vs H Q E h => ?_) (fun cdv A outer s H vs Q E hr h => ?_)
  · obtain ⟨t, v, rfl, _⟩ := h
    rfl
  obtain ⟨t, v, rfl, ok, hh, hd, q⟩ := h
  refine ⟨_, (pss_cons (ps_set (i := 1) sc_size_of.nd rfl (Or.inl rfl) (pe_ix (show IxR _ (rIxT K) from ix_tup) (pv 0) pe_int (fun _ _ => rfl)))
    (pss_cons (ps_if (pt_cmpR op_eq (pv 1) pe_str (nomark _)) (pss_one (ps_ret (pe_c (C_power_of.mono (by omega)) hr pass0 (pa_cons pe_int (pa_cons (pe_ix (show IxR _ (rIxT K) from ix_tup) (pv 0) pe_int (fun _ _ => rfl)) pa_nil))))) pss_nil)
    (pss_cons (ps_if (pt_cmpR op_eq (pv 1) pe_str (nomark _)) (pss_one (ps_ret (pe_op op_sub (pe_c (C_power_of.mono (by omega)) hr pass0 (pa_cons pe_int (pa_cons (pe_ix (show IxR _ (rIxT K) from ix_tup) (pv 0) pe_int (fun _ _ => rfl)) pa_nil))) pe_int))) pss_nil)
    (pss_cons (ps_if (pt_cmpR op_eq (pv 1) pe_str (nomark _)) (pss_one (ps_ret (pe_op op_add (pe_op op_mul pe_int (pe_c (C_size_of.mono (by omega)) hr pass0 (pa_cons (pe_ix (show IxR _ (rIxT K) from ix_tup) (pv 0) pe_int (fun _ _ => rfl)) pa_nil))) pe_int))) pss_nil)
    (pss_cons (ps_if (pt_cmpR op_eq (pv 1) pe_str (nomark _)) (pss_one (ps_ret (pe_op op_mul (pe_c (C_size_of.mono (by omega)) hr pass0 (pa_cons (pe_ix (show IxR _ (rIxT K) from ix_tup) (pv 0) pe_int (fun _ _ => rfl)) pa_nil)) (pe_c (C_size_of.mono (by omega)) hr pass0 (pa_cons (pe_ix (show IxR _ (rIxT K) from ix_tup) (pv 0) pe_int (fun _ _ => rfl)) pa_nil))))) pss_nil)
    (pss_one (ps_ret (pe_ix (show IxR _ (rIxT K) from ix_tup) (pv 0) pe_int (fun _ _ => rfl))))))))), ?_⟩
  cases t with
  | bose n =>
    obtain ⟨a, x, y, rfl, hs, h1, h2⟩ := dp_tup2 hd
    obtain rfl := dp_str h1
    obtain rfl := dp_int h2
    refine ⟨_, rfl, a, _, 0, _, rfl, rfl, hs, atI_nat (j := 0) rfl, ?_⟩
    refine ⟨_, rfl, rfl, _, rfl, ifb (fun e => absurd e (by decide +kernel)) (fun _ => ?_)⟩
    refine ⟨_, rfl, rfl, _, rfl, ifb (fun e => absurd e (by decide +kernel)) (fun _ => ?_)⟩
    refine ⟨_, rfl, rfl, _, rfl, ifb (fun e => absurd e (by decide +kernel)) (fun _ => ?_)⟩
    refine ⟨_, rfl, rfl, _, rfl, ifb (fun e => absurd e (by decide +kernel)) (fun _ => ?_)⟩
    exact ⟨_, rfl, a, _, 1, _, rfl, rfl, hs, atI_nat (j := 1) rfl, q⟩
  | skolem n =>
    obtain ⟨a, x, y, rfl, hs, h1, h2⟩ := dp_tup2 hd
    obtain rfl := dp_str h1
    obtain rfl := dp_int h2
    refine ⟨_, rfl, a, _, 0, _, rfl, rfl, hs, atI_nat (j := 0) rfl, ?_⟩
    refine ⟨_, rfl, rfl, _, rfl, ifb (fun e => absurd e (by decide +kernel)) (fun _ => ?_)⟩
    refine ⟨_, rfl, rfl, _, rfl, ifb (fun e => absurd e (by decide +kernel)) (fun _ => ?_)⟩
    refine ⟨_, rfl, rfl, _, rfl, ifb (fun e => absurd e (by decide +kernel)) (fun _ => ?_)⟩
    refine ⟨_, rfl, rfl, _, rfl, ifb (fun e => absurd e (by decide +kernel)) (fun _ => ?_)⟩
    exact ⟨_, rfl, a, _, 1, _, rfl, rfl, hs, atI_nat (j := 1) rfl, q⟩
  | affine n =>
    obtain ⟨a, x, y, rfl, hs, h1, h2⟩ := dp_tup2 hd
    obtain rfl := dp_str h1
    obtain rfl := dp_int h2
    have hk : n ≤ 5 := ok.2
    refine ⟨_, rfl, a, _, 0, _, rfl, rfl, hs, atI_nat (j := 0) rfl, ?_⟩
    refine ⟨_, rfl, rfl, _, rfl, ifb (fun _ => ?_) (fun e => absurd e (by decide +kernel))⟩
    exact ⟨_, rfl, a, _, 1, _, rfl, rfl, hs, atI_nat (j := 1) rfl, 3, n, rfl, by decide, by omega, q⟩
  | binary n =>
    obtain ⟨a, x, y, rfl, hs, h1, h2⟩ := dp_tup2 hd
    obtain rfl := dp_str h1
    obtain rfl := dp_int h2
    have hk : n ≤ 6 := ok.2
    refine ⟨_, rfl, a, _, 0, _, rfl, rfl, hs, atI_nat (j := 0) rfl, ?_⟩
    refine ⟨_, rfl, rfl, _, rfl, ifb (fun e => absurd e (by decide +kernel)) (fun _ => ?_)⟩
    refine ⟨_, rfl, rfl, _, rfl, ifb (fun _ => ?_) (fun e => absurd e (by decide +kernel))⟩
    refine ⟨_, rfl, a, _, 1, _, rfl, rfl, hs, atI_nat (j := 1) rfl, 2, n, rfl, by decide, by omega, _, _, rfl, rfl, ?_⟩
    have e : ((Tree.sz (.binary n) : Nat) : Int) = ((2 ^ n : Nat) : Int) - 1 := by
      have : 1 ≤ 2 ^ n := Nat.one_le_pow _ _ (by decide)
      show ((2 ^ n - 1 : Nat) : Int) = _
      omega
    rw [e] at q
    exact q
  | listed n T =>
    obtain ⟨a, x, y, z, rfl, hs, h1, h2, h3⟩ := dp_tup3 hd
    obtain rfl := dp_str h1
    obtain rfl := dp_int h2
    refine ⟨_, rfl, a, _, 0, _, rfl, rfl, hs, atI_nat (j := 0) rfl, ?_⟩
    refine ⟨_, rfl, rfl, _, rfl, ifb (fun e => absurd e (by decide +kernel)) (fun _ => ?_)⟩
    refine ⟨_, rfl, rfl, _, rfl, ifb (fun e => absurd e (by decide +kernel)) (fun _ => ?_)⟩
    refine ⟨_, rfl, rfl, _, rfl, ifb (fun e => absurd e (by decide +kernel)) (fun _ => ?_)⟩
    refine ⟨_, rfl, rfl, _, rfl, ifb (fun e => absurd e (by decide +kernel)) (fun _ => ?_)⟩
    exact ⟨_, rfl, a, _, 1, _, rfl, rfl, hs, atI_nat (j := 1) rfl, q⟩
  | dbl t =>
    obtain ⟨a, x, y, rfl, hs, h1, h2⟩ := dp_tup2 hd
    obtain rfl := dp_str h1
    have hb : t.sz ≤ 1000 := ok.2.1
    have hh' : t.ht ≤ h := Nat.le_of_succ_le_succ hh
    refine ⟨_, rfl, a, _, 0, _, rfl, rfl, hs, atI_nat (j := 0) rfl, ?_⟩
    refine ⟨_, rfl, rfl, _, rfl, ifb (fun e => absurd e (by decide +kernel)) (fun _ => ?_)⟩
    refine ⟨_, rfl, rfl, _, rfl, ifb (fun e => absurd e (by decide +kernel)) (fun _ => ?_)⟩
    refine ⟨_, rfl, rfl, _, rfl, ifb (fun _ => ?_) (fun e => absurd e (by decide +kernel))⟩
    refine ⟨_, rfl, a, _, 1, _, rfl, rfl, hs, atI_nat (j := 1) rfl, t, _, rfl, ok.1, hh', h2, _, _, rfl, rfl, .inl ⟨by decide, by decide⟩, _, _, rfl, rfl, ?_⟩
    have e : ((Tree.sz (.dbl t) : Nat) : Int) = 2 * (t.sz : Int) + 1 := by
      show ((2 * t.sz + 1 : Nat) : Int) = _
      omega
    rw [e] at q
    exact q
  | prod s0 t =>
    obtain ⟨a, x, y, z, rfl, hs, h1, h2, h3⟩ := dp_tup3 hd
    obtain rfl := dp_str h1
    obtain ⟨ok1, ok2, b1, b2, _⟩ := ok
    have hh1 : s0.ht ≤ h := Nat.le_trans (Nat.le_max_left _ _) (Nat.le_of_succ_le_succ hh)
    have hh2 : t.ht ≤ h := Nat.le_trans (Nat.le_max_right _ _) (Nat.le_of_succ_le_succ hh)
    refine ⟨_, rfl, a, _, 0, _, rfl, rfl, hs, atI_nat (j := 0) rfl, ?_⟩
    refine ⟨_, rfl, rfl, _, rfl, ifb (fun e => absurd e (by decide +kernel)) (fun _ => ?_)⟩
    refine ⟨_, rfl, rfl, _, rfl, ifb (fun e => absurd e (by decide +kernel)) (fun _ => ?_)⟩
    refine ⟨_, rfl, rfl, _, rfl, ifb (fun e => absurd e (by decide +kernel)) (fun _ => ?_)⟩
    refine ⟨_, rfl, rfl, _, rfl, ifb (fun _ => ?_) (fun e => absurd e (by decide +kernel))⟩
    refine ⟨_, rfl, a, _, 1, _, rfl, rfl, hs, atI_nat (j := 1) rfl, s0, _, rfl, ok1, hh1, h2, ?_⟩
    refine ⟨_, rfl, a, _, 2, _, rfl, rfl, hs, atI_nat (j := 2) rfl, t, _, rfl, ok2, hh2, h3, _, _, rfl, rfl, .inl ⟨by omega, by omega⟩, ?_⟩
    have e : ((Tree.sz (.prod s0 t) : Nat) : Int) = (s0.sz : Int) * (t.sz : Int) := Int.natCast_mul _ _
    rw [e] at q
    exact q
theorem ht_pos : ∀ t : Tree, 1 ≤ t.ht
  | .bose _ => Nat.le_refl 1
  | .skolem _ => Nat.le_refl 1
  | .affine _ => Nat.le_refl 1
  | .binary _ => Nat.le_refl 1
  | .listed _ _ => Nat.le_refl 1
  | .dbl _ => Nat.le_add_left _ _
  | .prod _ _ => Nat.le_add_left _ _
theorem ok_size_of {f : Addr} {fd : FuncData} (F : Fun K "size_of" "size_of" s_size_of f fd) (b : Binds K fd ["tree"] []) (m : mg "size_of" = some (.ref f)) (B : Blt mg) (C_power_of : Cal P w K mg base CX0 1 "power_of" ["base", "many"] [] spPow) :
    ∀ h : Nat, FnOk P w K mg base CX0 (h + 1) f fd ["tree"] (spSize K h)
  | 0 => by
    have no : ∀ vs H Q E, ¬ spSize K 0 vs H Q E := fun vs H Q E h => by
      obtain ⟨t, v, _, _, hh, _⟩ := h
      have := ht_pos t
      omega
    exact ⟨fun vs H Q E h => absurd h (no vs H Q E), fun A outer s H args us vs Q E _ _ _ _ h => absurd h (no vs H Q E)⟩
  | h + 1 => ok_size_one h F B C_power_of (Cal.of F m b (ok_size_of F b m B C_power_of h))
end
end Pj
/-! third_of, both, third_in_double, third_in_product: by the height of the tree. -/
namespace Pj
open PySem PySem.Spec PyProof.Rows L2 PjM
section
variable {P : Program} {w : World} {K : PySem.W.Frag} {mg : Str → Option Value} {base : Heap}
def spThird (K : PySem.W.Frag) (h : Nat) : Sp := fun vs H Q _ => ∃ (t : Tree) (v : V) (a b : Int), vs = [v, .int a, .int b] ∧ Ok t ∧ t.ht ≤ h ∧ Dp K H v (enc t) ∧ (0 ≤ a ∧ a < t.sz ∧ 0 ≤ b ∧ b < t.sz ∧ a ≠ b) ∧ ∀ H', Same H H' → Q (.int (thd t a b)) H'
def spBoth (K : PySem.W.Frag) (h : Nat) : Sp := fun vs H Q _ => ∃ (t : Tree) (v : V) (a b : Int), vs = [v, .int a, .int b] ∧ Ok t ∧ t.ht ≤ h ∧ Dp K H v (enc t) ∧ (0 ≤ a ∧ a < t.sz ∧ 0 ≤ b ∧ b < t.sz) ∧ ∀ H', Same H H' → Q (.int (bothOf (thd t) a b)) H'
def spDouble (K : PySem.W.Frag) (h : Nat) : Sp := fun vs H Q _ => ∃ (t : Tree) (v : V) (a b : Int), vs = [v, .int a, .int b] ∧ Ok t ∧ t.sz ≤ 1000 ∧ t.ht ≤ h ∧ Dp K H v (enc t) ∧ (0 ≤ a ∧ a < 2 * t.sz + 1 ∧ 0 ≤ b ∧ b < 2 * t.sz + 1 ∧ a ≠ b) ∧ ∀ H', Same H H' → Q (.int (tDouble t.sz (thd t) a b)) H'
def spProduct (K : PySem.W.Frag) (h : Nat) : Sp := fun vs H Q _ => ∃ (s t : Tree) (u v : V) (a b : Int), vs = [u, v, .int a, .int b] ∧ Ok s ∧ Ok t ∧ s.sz ≤ 1000 ∧ t.sz ≤ 1000 ∧ s.ht ≤ h ∧ t.ht ≤ h ∧ Dp K H u (enc s) ∧ Dp K H v (enc t) ∧
  (0 ≤ a ∧ a < s.sz * t.sz ∧ 0 ≤ b ∧ b < s.sz * t.sz) ∧ ∀ H', Same H H' → Q (.int (thd (.prod s t) a b)) H'
theorem vbl_ne {a b : Bool} (e : (!decide (V.bl a = V.bl b)) = true) : ¬ a = b := fun z => by
  subst z
  simp at e
theorem vbl_eq {a b : Bool} (e : (!decide (V.bl a = V.bl b)) = false) : a = b := by
  cases a <;> cases b <;> first
    | rfl
    | exact absurd e (by decide)
/-! ### both -/
abbrev N_both : List Str := ["tree", "a", "b"]
abbrev s_both : Stmt := top 27
theorem sc_both : FnScope N_both ["tree", "a", "b"] (defScope s_both) := ⟨rfl, rfl, rfl, by decide +kernel, rfl, by decide +kernel, by decide +kernel⟩
theorem ok_both {f : Addr} {fd : FuncData} {h l : Nat} (F : Fun K "both" "both" s_both f fd) (C_third_of : Cal P w K mg base CX0 l "third_of" ["tree", "a", "b"] [] (spThird K h)) : FnOk P w K mg base CX0 (l + 1) f fd ["tree", "a", "b"] (spBoth K h) := by
  refine F.ok sc_both (fun vs H Q E h => ?_) (fun cdv A outer s H vs Q E hr h => ?_)
  · obtain ⟨t, v, a, b, rfl, _⟩ := h
    rfl
  obtain ⟨t, v, a, b, rfl, ok, hh, hd, hb, q⟩ := h
  refine ⟨_, (pss_one (ps_ret (pe_ifExp (pt_cmpR op_eq (pv 1) (pv 2) (nomark _)) (pv 1) (pe_c (C_third_of.mono (by omega)) hr pass0 (pa_cons (pv 0) (pa_cons (pv 1) (pa_cons (pv 2) pa_nil))))))), ?_⟩
  refine ⟨_, rfl, _, rfl, rfl, _, rfl, ifb (fun e => ?_) (fun e => ?_)⟩
  · have := q H (.refl H)
    unfold bothOf at this
    rw [if_pos (vint_t e)] at this
    exact ⟨_, rfl, this⟩
  · refine ⟨_, rfl, _, rfl, _, rfl, t, v, a, b, rfl, ok, hh, hd, ⟨hb.1, hb.2.1, hb.2.2.1, hb.2.2.2, vint_f e⟩, fun H1 s1 => ?_⟩
    have := q H1 s1
    unfold bothOf at this
    rw [if_neg (vint_f e)] at this
    exact this
/-! ### third_in_double -/
abbrev N_third_in_double : List Str := ["part", "a", "b", "size", "odd", "point", "first", "second"]
abbrev s_third_in_double : Stmt := top 35
theorem sc_third_in_double : FnScope N_third_in_double ["part", "a", "b"] (defScope s_third_in_double) := ⟨rfl, rfl, rfl, by decide +kernel, rfl, by decide +kernel, by decide +kernel⟩
theorem ok_double {f : Addr} {fd : FuncData} {h l : Nat} (hl : h + 1 ≤ l) (F : Fun K "third_in_double" "third_in_double" s_third_in_double f fd) (C_size_of : Cal P w K mg base CX0 (h + 1) "size_of" ["tree"] [] (spSize K h))
    (C_third_of : Cal P w K mg base CX0 l "third_of" ["tree", "a", "b"] [] (spThird K h)) : FnOk P w K mg base CX0 (l + 1) f fd ["part", "a", "b"] (spDouble K h) := by
  refine F.ok sc_third_in_double (fun vs H Q E h => ?_) (fun cdv A outer s H vs Q E hr h => ?_)
  · obtain ⟨t, v, a, b, rfl, _⟩ := h
    rfl
  obtain ⟨t, v, a, b, rfl, ok, hsz, hh, hd, ⟨a0, a1, b0, b1, hn⟩, q⟩ := h
  refine ⟨_, (pss_cons (ps_set (i := 3) sc_third_in_double.nd rfl (Or.inl rfl) (pe_c (C_size_of.mono (by omega)) hr pass0 (pa_cons (pv 0) pa_nil)))
    (pss_cons (ps_set (i := 4) sc_third_in_double.nd rfl (Or.inl rfl) (pe_op op_mul pe_int (pv 3)))
    (pss_cons (ps_if (pt_cmpR (show OpR _ _ (rIn K false) from op_in_seq) (pv 4) (pe_tup (pa_cons (pv 1) (pa_cons (pv 2) pa_nil))) rfl) (pss_cons (ps_set (i := 5) sc_third_in_double.nd rfl (Or.inl rfl) (pe_op op_sub (pe_op op_add (pv 1) (pv 2)) (pv 4)))
    (pss_one (ps_ret (pe_ifExp (pt_cmpR op_lt (pv 5) (pv 3) (nomark _)) (pe_op op_add (pv 5) (pv 3)) (pe_op op_sub (pv 5) (pv 3)))))) pss_nil)
    (pss_cons (ps_par (i := 6) (j := 7) rfl sc_third_in_double.nd rfl rfl (by decide) rfl rfl (pa_cons (pe_op op_mod (pv 1) (pv 3)) (pa_cons (pe_op op_mod (pv 2) (pv 3)) pa_nil)) (by rfl))
    (pss_cons (ps_if (pt_cmpR op_eq (pv 6) (pv 7) (nomark _)) (pss_one (ps_ret (pv 4))) pss_nil)
    (pss_one (ps_ret (pe_op op_add (pe_c (C_third_of.mono (by omega)) hr pass0 (pa_cons (pv 0) (pa_cons (pv 6) (pa_cons (pv 7) pa_nil)))) (pe_ifExp (pt_cmpR op_ne (pe_cmpR op_lt (pv 1) (pv 3) (nomark _)) (pe_cmpR op_lt (pv 2) (pv 3) (nomark _)) (nomark _)) (pv 3) pe_int))))))))), ?_⟩
  have hp : (1 : Int) ≤ t.sz := by have := sz_pos ok; omega
  generalize hz : (t.sz : Int) = z at *
  refine ⟨_, rfl, t, v, rfl, ok, hh, hd, ?_⟩
  rw [hz]
  refine ⟨_, rfl, _, _, rfl, rfl, .inl ⟨by decide, by decide⟩, ?_⟩
  refine ⟨_, rfl, _, rfl, _, rfl, by show 2 ≤ sizeLine; decide, fun p hp0 => ?_⟩
  have s1 : Same H (upd H p (.tup [.int a, .int b])) := same_new hp0
  refine ⟨p, _, rfl, .inr (.of upd_same), rfl, rfl, _, rfl, ifb (fun e => ?_) (fun e => ?_)⟩
  · have e' : a = 2 * z ∨ b = 2 * z := inV_two.mp e
    refine ⟨_, rfl, _, rfl, _, _, rfl, rfl, _, rfl, _, _, rfl, rfl, ?_⟩
    refine ⟨_, rfl, _, rfl, _, _, rfl, rfl, _, rfl, ifb (fun e2 => ?_) (fun e2 => ?_)⟩
    · have := q _ s1
      unfold tDouble at this
      rw [if_pos e', if_pos (dec_t e2)] at this
      exact ⟨_, rfl, _, rfl, _, _, rfl, rfl, this⟩
    · have := q _ s1
      unfold tDouble at this
      rw [if_pos e', if_neg (dec_f e2)] at this
      exact ⟨_, rfl, _, rfl, _, _, rfl, rfl, this⟩
  have e1 : ¬ (a = 2 * z ∨ b = 2 * z) := fun y => by
    have y' := inV_two.mpr y
    rw [show inV (V.int (2 * z)) [V.int a, V.int b] = false from e] at y'
    cases y'
  have hz0 : 0 < z := by omega
  refine ⟨_, rfl, _, rfl, _, _, rfl, rfl, hz0, _, rfl, _, rfl, _, _, rfl, rfl, hz0, _, _, rfl, ?_⟩
  refine ⟨_, rfl, _, rfl, rfl, _, rfl, ifb (fun e2 => ?_) (fun e2 => ?_)⟩
  · have := q _ s1
    unfold tDouble at this
    rw [if_neg e1, if_pos (vint_t e2)] at this
    exact ⟨_, rfl, this⟩
  have ma := mod_lt' (a := a) hz0
  have mb := mod_lt' (a := b) hz0
  refine ⟨_, rfl, _, rfl, _, rfl, t, v, _, _, rfl, ok, hh, dp_same s1 _ _ hd, ⟨ma.1, by rw [hz]; exact ma.2, mb.1, by rw [hz]; exact mb.2, vint_f e2⟩, fun H1 s2 => ?_⟩
  have := q _ (s1.trans s2)
  unfold tDouble at this
  rw [if_neg e1, if_neg (vint_f e2)] at this
  refine ⟨_, rfl, _, rfl, _, _, rfl, rfl, _, rfl, _, rfl, _, _, rfl, rfl, rfl, _, rfl, ifb (fun e3 => ?_) (fun e3 => ?_)⟩
  · have e3' : ¬ decide (a < z) = decide (b < z) := vbl_ne e3
    rw [if_neg e3'] at this
    exact ⟨_, rfl, _, _, rfl, rfl, this⟩
  · have e3' : decide (a < z) = decide (b < z) := vbl_eq e3
    rw [if_pos e3'] at this
    exact ⟨_, _, rfl, rfl, this⟩
/-! ### third_in_product -/
abbrev N_third_in_product : List Str := ["one", "other", "a", "b", "size"]
abbrev s_third_in_product : Stmt := top 36
theorem sc_third_in_product : FnScope N_third_in_product ["one", "other", "a", "b"] (defScope s_third_in_product) := ⟨rfl, rfl, rfl, by decide +kernel, rfl, by decide +kernel, by decide +kernel⟩
theorem div_lt {a s t : Int} (ht : 0 < t) (h0 : 0 ≤ a) (h : a < s * t) : 0 ≤ a / t ∧ a / t < s := ⟨Int.ediv_nonneg h0 (by omega), Int.ediv_lt_of_lt_mul ht h⟩
theorem ok_product {f : Addr} {fd : FuncData} {h l : Nat} (hl : h + 1 ≤ l) (F : Fun K "third_in_product" "third_in_product" s_third_in_product f fd) (C_size_of : Cal P w K mg base CX0 (h + 1) "size_of" ["tree"] [] (spSize K h))
    (C_both : Cal P w K mg base CX0 l "both" ["tree", "a", "b"] [] (spBoth K h)) : FnOk P w K mg base CX0 (l + 1) f fd ["one", "other", "a", "b"] (spProduct K h) := by
  refine F.ok sc_third_in_product (fun vs H Q E h => ?_) (fun cdv A outer s H vs Q E hr h => ?_)
  · obtain ⟨t, u, v, _, a, b, rfl, _⟩ := h
    rfl
  obtain ⟨s0, t, u, v, a, b, rfl, ok1, ok2, z1, z2, h1, h2, d1, d2, ⟨a0, a1, b0, b1⟩, q⟩ := h
  refine ⟨_, (pss_cons (ps_set (i := 4) sc_third_in_product.nd rfl (Or.inl rfl) (pe_c (C_size_of.mono (by omega)) hr pass0 (pa_cons (pv 1) pa_nil)))
    (pss_one (ps_ret (pe_op op_add (pe_op op_mul (pe_c (C_both.mono (by omega)) hr pass0 (pa_cons (pv 0) (pa_cons (pe_op op_fdiv (pv 2) (pv 4)) (pa_cons (pe_op op_fdiv (pv 3) (pv 4)) pa_nil)))) (pv 4)) (pe_c (C_both.mono (by omega)) hr pass0 (pa_cons (pv 1) (pa_cons (pe_op op_mod (pv 2) (pv 4)) (pa_cons (pe_op op_mod (pv 3) (pv 4)) pa_nil)))))))), ?_⟩
  have hp : (1 : Int) ≤ t.sz := by have := sz_pos ok2; omega
  have hz0 : (0 : Int) < t.sz := by omega
  have da := div_lt hz0 a0 a1
  have db := div_lt hz0 b0 b1
  have ma := mod_lt' (a := a) hz0
  have mb := mod_lt' (a := b) hz0
  refine ⟨_, rfl, t, v, rfl, ok2, h2, d2, ?_⟩
  refine ⟨_, rfl, _, rfl, _, rfl, _, _, rfl, rfl, cdiv hz0 (by omega), _, rfl, _, rfl, _, _, rfl, rfl, cdiv hz0 (by omega), s0, u, _, _, rfl, ok1, h1, d1, ⟨da.1, da.2, db.1, db.2⟩, fun H1 s1 => ?_⟩
  refine ⟨_, rfl, _, _, rfl, rfl, .inr ⟨by omega, by omega⟩, ?_⟩
  refine ⟨_, rfl, _, rfl, _, rfl, _, _, rfl, rfl, hz0, _, rfl, _, rfl, _, _, rfl, rfl, hz0, t, v, _, _, rfl, ok2, h2, dp_same s1 _ _ d2, ⟨ma.1, ma.2, mb.1, mb.2⟩, fun H2 s2 => ?_⟩
  exact ⟨_, _, rfl, rfl, q H2 (s1.trans s2)⟩
/-! ### third_of -/
theorem inV_three {x a b c : Int} : inV (.int x) [.int a, .int b, .int c] = inT x (a, b, c) := by
  have e : ∀ y : Int, eqV (V.int y) (V.int x) = decide (x = y) := fun y => by
    show (y == x) = _
    rw [Bool.beq_eq_decide_eq]
    exact decide_eq_decide.mpr eq_comm
  unfold inV inT
  simp only [List.any_cons, List.any_nil, e, Bool.or_false]
abbrev N_third_of : List Str := ["tree", "a", "b", "kind", "three"]
abbrev s_third_of : Stmt := top 26
theorem sc_third_of : FnScope N_third_of ["tree", "a", "b"] (defScope s_third_of) := ⟨rfl, rfl, rfl, by decide +kernel, rfl, by decide +kernel, by decide +kernel⟩
theorem ok_third_one {f : Addr} {fd : FuncData} {h l : Nat} (hl : 2 ≤ l) (F : Fun K "third_of" "third_of" s_third_of f fd) (B : Blt mg) (C_third_in_bose : Cal P w K mg base CX0 2 "third_in_bose" ["size", "a", "b"] [] (spInt3 tBose))
    (C_third_in_skolem : Cal P w K mg base CX0 2 "third_in_skolem" ["size", "a", "b"] [] (spInt3 tSkolem)) (C_figures_apart : Cal P w K mg base CX0 1 "figures_apart" ["a", "b"] [] spFigs)
    (C_third_in_double : Cal P w K mg base CX0 l "third_in_double" ["part", "a", "b"] [] (spDouble K h)) (C_third_in_product : Cal P w K mg base CX0 l "third_in_product" ["one", "other", "a", "b"] [] (spProduct K h)) :
    FnOk P w K mg base CX0 (l + 1) f fd ["tree", "a", "b"] (spThird K (h + 1)) := by
  refine F.ok sc_third_of (fun vs H Q E h => ?_) (fun cdv A outer s H vs Q E hr h => ?_)
  · obtain ⟨t, v, a, b, rfl, _⟩ := h
    rfl
  obtain ⟨t, v, a, b, rfl, ok, hh, hd, ⟨a0, a1, b0, b1, hn⟩, q⟩ := h
  refine ⟨_, (pss_cons (ps_set (i := 3) sc_third_of.nd rfl (Or.inl rfl) (pe_ix (show IxR _ (rIxT K) from ix_tup) (pv 0) pe_int (fun _ _ => rfl)))
    (pss_cons (ps_if (pt_cmpR op_eq (pv 3) pe_str (nomark _)) (pss_one (ps_ret (pe_c (C_third_in_bose.mono (by omega)) hr pass0 (pa_cons (pe_op op_fdiv (pe_ix (show IxR _ (rIxT K) from ix_tup) (pv 0) pe_int (fun _ _ => rfl)) pe_int) (pa_cons (pv 1) (pa_cons (pv 2) pa_nil)))))) pss_nil)
    (pss_cons (ps_if (pt_cmpR op_eq (pv 3) pe_str (nomark _)) (pss_one (ps_ret (pe_c (C_third_in_skolem.mono (by omega)) hr pass0 (pa_cons (pe_op op_fdiv (pe_op op_sub (pe_ix (show IxR _ (rIxT K) from ix_tup) (pv 0) pe_int (fun _ _ => rfl)) pe_int) pe_int) (pa_cons (pv 1) (pa_cons (pv 2) pa_nil)))))) pss_nil)
    (pss_cons (ps_if (pt_cmpR op_eq (pv 3) pe_str (nomark _)) (pss_one (ps_ret (pe_c (C_figures_apart.mono (by omega)) hr pass0 (pa_cons (pv 1) (pa_cons (pv 2) pa_nil))))) pss_nil)
    (pss_cons (ps_if (pt_cmpR op_eq (pv 3) pe_str (nomark _)) (pss_one (ps_ret (pe_op op_sub (pe_op op_xor (pe_op op_add (pv 1) pe_int) (pe_op op_add (pv 2) pe_int)) pe_int))) pss_nil)
    (pss_cons (ps_if (pt_cmpR op_eq (pv 3) pe_str (nomark _)) (pss_one (ps_ret (pe_ix (show IxR _ (rIxL K) from ix_list) (pe_lc (own := [("three", 4)]) (g := gName 4) rfl sc_third_of.nd (pi_tup (pe_ix (show IxR _ (rIxT K) from ix_tup) (pv 0) pe_int (fun _ _ => rfl))) (blkOk_by (N := N_third_of) (sc := defScope s_third_of) (by decide +kernel)) (fun _ _ _ _ _ => pg_name (i := 4) sc_third_of.nd rfl (Or.inl rfl)) (fun _ _ _ _ _ => (pts_one (PW.pt (pw_and (pt_cmpR (show OpR _ _ (rIn K false) from op_in_seq) (pv 1) (pv 4) rfl) (pw_and1 (pt_cmpR (show OpR _ _ (rIn K false) from op_in_seq) (pv 2) (pv 4) rfl)))))) (fun _ _ _ _ _ => (pe_op op_sub (pe_op op_sub (pe_callB (show CallR _ _ (rSumT K) from cr_sumT rfl) (by rfl) B.sum (by decide +kernel) (pa_cons (pv 4) pa_nil)) (pv 1)) (pv 2)))) pe_int (fun _ _ => rfl)))) pss_nil)
    (pss_cons (ps_if (pt_cmpR op_eq (pv 3) pe_str (nomark _)) (pss_one (ps_ret (pe_c (C_third_in_double.mono (by omega)) hr pass0 (pa_cons (pe_ix (show IxR _ (rIxT K) from ix_tup) (pv 0) pe_int (fun _ _ => rfl)) (pa_cons (pv 1) (pa_cons (pv 2) pa_nil)))))) pss_nil)
    (pss_one (ps_ret (pe_c (C_third_in_product.mono (by omega)) hr pass0 (pa_cons (pe_ix (show IxR _ (rIxT K) from ix_tup) (pv 0) pe_int (fun _ _ => rfl)) (pa_cons (pe_ix (show IxR _ (rIxT K) from ix_tup) (pv 0) pe_int (fun _ _ => rfl)) (pa_cons (pv 1) (pa_cons (pv 2) pa_nil)))))))))))))), ?_⟩
  cases t with
  | bose n =>
    obtain ⟨p, x, y, rfl, hs, h1, h2⟩ := dp_tup2 hd
    obtain rfl := dp_str h1
    obtain rfl := dp_int h2
    obtain ⟨o1, o2, o3⟩ := ok
    refine ⟨_, rfl, p, _, 0, _, rfl, rfl, hs, atI_nat (j := 0) rfl, ?_⟩
    refine ⟨_, rfl, rfl, _, rfl, ifb (fun _ => ?_) (fun e => absurd e (by decide +kernel))⟩
    exact ⟨_, rfl, p, _, 1, _, rfl, rfl, hs, atI_nat (j := 1) rfl, _, _, rfl, rfl, ⟨by decide, by decide⟩, _, rfl, _, rfl, _, _, _, rfl, by omega, by omega, q⟩
  | skolem n =>
    obtain ⟨p, x, y, rfl, hs, h1, h2⟩ := dp_tup2 hd
    obtain rfl := dp_str h1
    obtain rfl := dp_int h2
    obtain ⟨o1, o2, o3⟩ := ok
    refine ⟨_, rfl, p, _, 0, _, rfl, rfl, hs, atI_nat (j := 0) rfl, ?_⟩
    refine ⟨_, rfl, rfl, _, rfl, ifb (fun e => absurd e (by decide +kernel)) (fun _ => ?_)⟩
    refine ⟨_, rfl, rfl, _, rfl, ifb (fun _ => ?_) (fun e => absurd e (by decide +kernel))⟩
    exact ⟨_, rfl, p, _, 1, _, rfl, rfl, hs, atI_nat (j := 1) rfl, _, _, rfl, rfl, _, _, rfl, rfl, ⟨by decide, by decide⟩, _, rfl, _, rfl, _, _, _, rfl, by omega, by omega, q⟩
  | affine n =>
    obtain ⟨p, x, y, rfl, hs, h1, h2⟩ := dp_tup2 hd
    obtain rfl := dp_str h1
    obtain rfl := dp_int h2
    have hz : Tree.sz (.affine n) ≤ 243 := Nat.le_trans (Nat.pow_le_pow_right (by decide) ok.2) (by decide : 3 ^ 5 ≤ 243)
    refine ⟨_, rfl, p, _, 0, _, rfl, rfl, hs, atI_nat (j := 0) rfl, ?_⟩
    refine ⟨_, rfl, rfl, _, rfl, ifb (fun e => absurd e (by decide +kernel)) (fun _ => ?_)⟩
    refine ⟨_, rfl, rfl, _, rfl, ifb (fun e => absurd e (by decide +kernel)) (fun _ => ?_)⟩
    refine ⟨_, rfl, rfl, _, rfl, ifb (fun _ => ?_) (fun e => absurd e (by decide +kernel))⟩
    exact ⟨_, rfl, _, rfl, a, b, rfl, a0, by omega, b0, by omega, q H (.refl H)⟩
  | binary n =>
    obtain ⟨p, x, y, rfl, hs, h1, h2⟩ := dp_tup2 hd
    obtain rfl := dp_str h1
    obtain rfl := dp_int h2
    refine ⟨_, rfl, p, _, 0, _, rfl, rfl, hs, atI_nat (j := 0) rfl, ?_⟩
    refine ⟨_, rfl, rfl, _, rfl, ifb (fun e => absurd e (by decide +kernel)) (fun _ => ?_)⟩
    refine ⟨_, rfl, rfl, _, rfl, ifb (fun e => absurd e (by decide +kernel)) (fun _ => ?_)⟩
    refine ⟨_, rfl, rfl, _, rfl, ifb (fun e => absurd e (by decide +kernel)) (fun _ => ?_)⟩
    refine ⟨_, rfl, rfl, _, rfl, ifb (fun _ => ?_) (fun e => absurd e (by decide +kernel))⟩
    refine ⟨_, rfl, _, _, rfl, rfl, _, rfl, _, _, rfl, rfl, _, _, rfl, rfl, _, _, rfl, rfl, ?_⟩
    have := q H (.refl H)
    unfold thd tXor at this
    rw [← Bits.bitXor_pp (by omega) (by omega)] at this
    exact this
  | listed n T =>
    obtain ⟨p, x, y, z, rfl, hs, h1, h2, h3⟩ := dp_tup3 hd
    obtain rfl := dp_str h1
    obtain rfl := dp_int h2
    obtain ⟨p2, xs, rfl, hs2, hda⟩ := dp_tup h3
    obtain ⟨o1, o2, g, hT, hC, rfl⟩ := ok
    refine ⟨_, rfl, p, _, 0, _, rfl, rfl, hs, atI_nat (j := 0) rfl, ?_⟩
    refine ⟨_, rfl, rfl, _, rfl, ifb (fun e => absurd e (by decide +kernel)) (fun _ => ?_)⟩
    refine ⟨_, rfl, rfl, _, rfl, ifb (fun e => absurd e (by decide +kernel)) (fun _ => ?_)⟩
    refine ⟨_, rfl, rfl, _, rfl, ifb (fun e => absurd e (by decide +kernel)) (fun _ => ?_)⟩
    refine ⟨_, rfl, rfl, _, rfl, ifb (fun e => absurd e (by decide +kernel)) (fun _ => ?_)⟩
    refine ⟨_, rfl, rfl, _, rfl, ifb (fun _ => ?_) (fun e => absurd e (by decide +kernel))⟩
    refine ⟨_, rfl, p, _, 2, _, rfl, rfl, hs, atI_nat (j := 2) rfl, p2, rfl, ⟨xs, hs2⟩, fun D hD => ?_⟩
    obtain ⟨t0, et, ev⟩ := thdL_eq hT a0 a1 b0 b1 hn
    have hlen : xs.length = (L n g).length := by
      rw [dps_len hda, List.length_map]
    have hsm : (L n g).length ≤ 100000 := by
      have : 3 * (L n g).length = n * (n - 1) / 2 := hC
      have : n * (n - 1) ≤ 60 * 60 := Nat.mul_le_mul o2 (by omega)
      omega
    refine lc_tup (xs := xs) (fun i H' => Same H H' ∧ H' D = some (.lst ((((L n g).take i).filter fun t => inT a t && inT b t).map fun t => .int (t.1 + t.2.1 + t.2.2 - a - b)))) ⟨same_new hD, upd_same⟩ (fun i H' _ hp => same_sqT hp.1 hs2) (fun i x H' hi hp => ?_) (fun H' hp => ?_)
    · obtain ⟨hsame, hDl⟩ := hp
      obtain ⟨d, hd2, hdx⟩ := dps_get hda hi
      rw [List.getElem?_map] at hd2
      cases et2 : (L n g)[i]? with
      | none => rw [et2] at hd2; cases hd2
      | some t =>
      rw [et2] at hd2
      have edt : eTri t = d := Option.some.inj hd2
      subst edt
      obtain ⟨ax, rfl, hsx⟩ := dp_tri hdx
      have hsx' : SqT K H' ax [.int t.1, .int t.2.1, .int t.2.2] := same_sqT hsame hsx
      have htake : (L n g).take (i + 1) = (L n g).take i ++ [t] := by
        rw [List.take_add_one, et2]
        rfl
      refine ⟨wipe1 _ 4 _, ?_⟩
      have hlt : i < (L n g).length := (List.getElem?_eq_some_iff.mp et2).1
      refine ⟨_, rfl, _, rfl, ax, _, rfl, .inr hsx', rfl, rfl, _, rfl, ?_⟩
      show (if inV (V.int a) [V.int t.1, V.int t.2.1, V.int t.2.2] = true then _ else _)
      rw [inV_three]
      refine ifb (fun i1 => ?_) (fun i1 => ?_)
      · refine ⟨_, rfl, _, rfl, ax, _, rfl, .inr hsx', rfl, rfl, _, rfl, ?_⟩
        show (if inV (V.int b) [V.int t.1, V.int t.2.1, V.int t.2.2] = true then _ else _)
        rw [inV_three]
        refine ifb (fun i2 => ?_) (fun i2 => ?_)
        · refine ⟨_, rfl, ax, [t.1, t.2.1, t.2.2], rfl, hsx', _, rfl, _, _, rfl, rfl, _, rfl, _, _, rfl, rfl, _, hDl, ?_, same_mut hsame hD, ?_⟩
          · rw [List.length_map]
            refine Nat.lt_of_le_of_lt (List.length_filter_le _ _) ?_
            rw [List.length_take]
            exact Nat.lt_of_le_of_lt (Nat.min_le_right _ _) (Nat.lt_of_le_of_lt hsm (by decide))
          · rw [upd_same, htake, List.filter_append, List.map_append]
            have e : [t].filter (fun t => inT a t && inT b t) = [t] := by
              rw [List.filter_cons, if_pos (by rw [show inT a t = true from i1, show inT b t = true from i2]; rfl)]
              rfl
            rw [e]
            have e2 : [t.1, t.2.1, t.2.2].sum - a - b = t.1 + t.2.1 + t.2.2 - a - b := by
              simp only [List.sum_cons, List.sum_nil]
              omega
            show some (HO.lst (_ ++ [V.int ([t.1, t.2.1, t.2.2].sum - a - b)])) = _
            rw [e2]
            rfl
        · refine ⟨hsame, ?_⟩
          rw [hDl, htake, List.filter_append]
          have e : [t].filter (fun t => inT a t && inT b t) = [] := by
            rw [List.filter_cons, if_neg (by rw [show inT a t = true from i1, show inT b t = false from i2]; decide)]
            rfl
          rw [e, List.append_nil]
      · refine ⟨hsame, ?_⟩
        rw [hDl, htake, List.filter_append]
        have e : [t].filter (fun t => inT a t && inT b t) = [] := by
          rw [List.filter_cons, if_neg (by rw [show inT a t = false from i1]; exact Bool.false_ne_true)]
          rfl
        rw [e, List.append_nil]
    · obtain ⟨hsame, hDl⟩ := hp
      rw [hlen, List.take_length, et] at hDl
      refine ⟨D, _, 0, _, rfl, rfl, .of hDl, atI_nat (j := 0) rfl, ?_⟩
      have := q H' hsame
      rw [thd_listed hT a0 a1 b0 b1 hn, ← ev] at this
      exact this
  | dbl t =>
    obtain ⟨p, x, y, rfl, hs, h1, h2⟩ := dp_tup2 hd
    obtain rfl := dp_str h1
    have hh' : t.ht ≤ h := Nat.le_of_succ_le_succ hh
    have hz2 : ((Tree.sz (.dbl t) : Nat) : Int) = 2 * (t.sz : Int) + 1 := by
      show ((2 * t.sz + 1 : Nat) : Int) = _
      omega
    refine ⟨_, rfl, p, _, 0, _, rfl, rfl, hs, atI_nat (j := 0) rfl, ?_⟩
    refine ⟨_, rfl, rfl, _, rfl, ifb (fun e => absurd e (by decide +kernel)) (fun _ => ?_)⟩
    refine ⟨_, rfl, rfl, _, rfl, ifb (fun e => absurd e (by decide +kernel)) (fun _ => ?_)⟩
    refine ⟨_, rfl, rfl, _, rfl, ifb (fun e => absurd e (by decide +kernel)) (fun _ => ?_)⟩
    refine ⟨_, rfl, rfl, _, rfl, ifb (fun e => absurd e (by decide +kernel)) (fun _ => ?_)⟩
    refine ⟨_, rfl, rfl, _, rfl, ifb (fun e => absurd e (by decide +kernel)) (fun _ => ?_)⟩
    refine ⟨_, rfl, rfl, _, rfl, ifb (fun _ => ?_) (fun e => absurd e (by decide +kernel))⟩
    exact ⟨_, rfl, p, _, 1, _, rfl, rfl, hs, atI_nat (j := 1) rfl, _, rfl, _, rfl, t, _, a, b, rfl, ok.1, ok.2.1, hh', h2, ⟨a0, by omega, b0, by omega, hn⟩, q⟩
  | prod s0 t =>
    obtain ⟨p, x, y, z, rfl, hs, h1, h2, h3⟩ := dp_tup3 hd
    obtain rfl := dp_str h1
    obtain ⟨ok1, ok2, b1', b2', _⟩ := ok
    have hh1 : s0.ht ≤ h := Nat.le_trans (Nat.le_max_left _ _) (Nat.le_of_succ_le_succ hh)
    have hh2 : t.ht ≤ h := Nat.le_trans (Nat.le_max_right _ _) (Nat.le_of_succ_le_succ hh)
    have e : ((Tree.sz (.prod s0 t) : Nat) : Int) = (s0.sz : Int) * (t.sz : Int) := Int.natCast_mul _ _
    rw [e] at a1 b1
    refine ⟨_, rfl, p, _, 0, _, rfl, rfl, hs, atI_nat (j := 0) rfl, ?_⟩
    refine ⟨_, rfl, rfl, _, rfl, ifb (fun e => absurd e (by decide +kernel)) (fun _ => ?_)⟩
    refine ⟨_, rfl, rfl, _, rfl, ifb (fun e => absurd e (by decide +kernel)) (fun _ => ?_)⟩
    refine ⟨_, rfl, rfl, _, rfl, ifb (fun e => absurd e (by decide +kernel)) (fun _ => ?_)⟩
    refine ⟨_, rfl, rfl, _, rfl, ifb (fun e => absurd e (by decide +kernel)) (fun _ => ?_)⟩
    refine ⟨_, rfl, rfl, _, rfl, ifb (fun e => absurd e (by decide +kernel)) (fun _ => ?_)⟩
    refine ⟨_, rfl, rfl, _, rfl, ifb (fun e => absurd e (by decide +kernel)) (fun _ => ?_)⟩
    exact ⟨_, rfl, p, _, 1, _, rfl, rfl, hs, atI_nat (j := 1) rfl, _, rfl, p, _, 2, _, rfl, rfl, hs, atI_nat (j := 2) rfl, _, rfl, _, rfl, s0, t, _, _, a, b, rfl, ok1, ok2, b1', b2', hh1, hh2, h2, h3, ⟨a0, a1, b0, b1⟩, q⟩
/-- the four, by the height -/
theorem ok_third_of {f fb fdd fp : Addr} {fd fdb fddd fdp : FuncData} (F : Fun K "third_of" "third_of" s_third_of f fd) (b : Binds K fd ["tree", "a", "b"] []) (m : mg "third_of" = some (.ref f))
    (Fb : Fun K "both" "both" s_both fb fdb) (bb : Binds K fdb ["tree", "a", "b"] []) (mb : mg "both" = some (.ref fb))
    (Fd : Fun K "third_in_double" "third_in_double" s_third_in_double fdd fddd) (bd : Binds K fddd ["part", "a", "b"] []) (md : mg "third_in_double" = some (.ref fdd))
    (Fp : Fun K "third_in_product" "third_in_product" s_third_in_product fp fdp) (bp : Binds K fdp ["one", "other", "a", "b"] []) (mp : mg "third_in_product" = some (.ref fp))
    (B : Blt mg) (C_size_of : ∀ h, Cal P w K mg base CX0 (h + 1) "size_of" ["tree"] [] (spSize K h)) (C_third_in_bose : Cal P w K mg base CX0 2 "third_in_bose" ["size", "a", "b"] [] (spInt3 tBose))
    (C_third_in_skolem : Cal P w K mg base CX0 2 "third_in_skolem" ["size", "a", "b"] [] (spInt3 tSkolem)) (C_figures_apart : Cal P w K mg base CX0 1 "figures_apart" ["a", "b"] [] spFigs) :
    ∀ h : Nat, Cal P w K mg base CX0 (3 * h + 3) "third_of" ["tree", "a", "b"] [] (spThird K h)
  | 0 => by
    have no : ∀ vs H Q E, ¬ spThird K 0 vs H Q E := fun vs H Q E h => by
      obtain ⟨t, v, _, _, _, _, hh, _⟩ := h
      have := ht_pos t
      omega
    exact Cal.of F m b ⟨fun vs H Q E h => absurd h (no vs H Q E), fun A outer s H args us vs Q E _ _ _ _ h => absurd h (no vs H Q E)⟩
  | h + 1 => by
    have ih := ok_third_of F b m Fb bb mb Fd bd md Fp bp mp B C_size_of C_third_in_bose C_third_in_skolem C_figures_apart h
    have cb := Cal.of Fb mb bb (ok_both Fb ih)
    have cd := Cal.of Fd md bd (ok_double (by omega) Fd (C_size_of h) ih)
    have cp := Cal.of Fp mp bp (ok_product (by omega) Fp (C_size_of h) cb)
    exact Cal.of F m b (ok_third_one (l := 3 * h + 5) (by omega) F B C_third_in_bose C_third_in_skolem C_figures_apart (cd.mono (by omega)) (cp.mono (by omega)))
end
end Pj
/-! is_row, is_integer, require, checked_threes. -/
namespace Pj
open PySem PySem.Spec PyProof.Rows L2 PjM
theorem tyX_tup {K : PySem.W.Frag} {H : Hp} {a : Addr} {xs : List V} (h : SqT K H a xs) : TyX K H (.ref a) (.type "tuple") := by
  rcases h with (h | ⟨o, h⟩) | ⟨o, its, n, h, c, _⟩
  · exact .base (.tup h)
  · exact .fTuple h
  · exact .kTuple h c
section
variable {P : Program} {w : World} {K : PySem.W.Frag} {mg : Str → Option Value} {base : Heap}
abbrev N_is_row : List Str := ["value"]
abbrev s_is_row : Stmt := top 13
theorem sc_is_row : FnScope N_is_row ["value"] (defScope s_is_row) := ⟨rfl, rfl, rfl, by decide +kernel, rfl, by decide +kernel, by decide +kernel⟩
def spIsRow (K : PySem.W.Frag) : Sp := fun vs H Q _ => ∃ (a : Addr) (xs : List V), vs = [.ref a] ∧ SqT K H a xs ∧ ∀ H', Same H H' → Q (.bl true) H'
theorem ok_is_row {f : Addr} {fd : FuncData} (F : Fun K "is_row" "is_row" s_is_row f fd) (B : Blt mg) : FnOk P w K mg base CX0 1 f fd ["value"] (spIsRow K) := by
  refine F.ok sc_is_row (fun vs H Q E h => ?_) (fun cdv A outer s H vs Q E hr h => ?_)
  · obtain ⟨a, xs, rfl, _⟩ := h
    rfl
  obtain ⟨a, xs, rfl, hs, q⟩ := h
  refine ⟨_, (pss_one (ps_ret (pe_callB (show CallR _ _ (rIsiT K) from call_isiT) (by rfl) B.isinstance (by decide +kernel) (pa_cons (pv 0) (pa_cons (pe_tup (pa_cons (pe_bltn (v := .ty "tuple") (by rfl) B.tuple (by decide +kernel) rfl) (pa_cons (pe_bltn (v := .ty "list") (by rfl) B.list (by decide +kernel) rfl) pa_nil))) pa_nil))))), ?_⟩
  refine ⟨_, rfl, by show 2 ≤ sizeLine; decide, fun p hp => ?_⟩
  have s1 : Same H (upd H p (.tup [.ty "tuple", .ty "list"])) := same_new hp
  exact ⟨_, p, _, .type "tuple", [.type "tuple", .type "list"], true, rfl, upd_same, .cons (.ty _) (.cons (.ty _) .nil), tyX_tup (same_sqT s1 hs), kitAny_cons (b := true) (kit_ty (by decide +kernel)) (fun e => nomatch e) (fun _ => rfl), q _ s1⟩
abbrev N_is_integer : List Str := ["value"]
abbrev s_is_integer : Stmt := top 14
theorem sc_is_integer : FnScope N_is_integer ["value"] (defScope s_is_integer) := ⟨rfl, rfl, rfl, by decide +kernel, rfl, by decide +kernel, by decide +kernel⟩
def spIsInt : Sp := fun vs H Q _ => ∃ i : Int, vs = [.int i] ∧ Q (.bl true) H
theorem ok_is_integer {f : Addr} {fd : FuncData} (F : Fun K "is_integer" "is_integer" s_is_integer f fd) (B : Blt mg) : FnOk P w K mg base CX0 1 f fd ["value"] spIsInt := by
  refine F.ok sc_is_integer (fun vs H Q E h => ?_) (fun cdv A outer s H vs Q E hr h => ?_)
  · obtain ⟨i, rfl, _⟩ := h
    rfl
  obtain ⟨i, rfl, q⟩ := h
  refine ⟨_, (pss_one (ps_ret (pe_and (pe_callB (show CallR _ _ (rIsi K) from call_isi) (by rfl) B.isinstance (by decide +kernel) (pa_cons (pv 0) (pa_cons (pe_bltn (v := .ty "int") (by rfl) B.int (by decide +kernel) rfl) pa_nil))) (pe_one (pe_not (pe_callB (show CallR _ _ (rIsi K) from call_isi) (by rfl) B.isinstance (by decide +kernel) (pa_cons (pv 0) (pa_cons (pe_bltn (v := .ty "bool") (by rfl) B.bool (by decide +kernel) rfl) pa_nil)))))))), ?_⟩
  refine ⟨_, rfl, _, _, .type "int", .type "int", true, rfl, .ty _, .base (.int i), kit_ty (by decide +kernel), true, rfl, iteT ?_⟩
  exact ⟨_, rfl, _, _, .type "int", .type "bool", false, rfl, .ty _, .base (.int i), kit_ty (by decide +kernel), false, rfl, q⟩
abbrev N_require : List Str := ["holds"]
abbrev s_require : Stmt := top 15
theorem sc_require : FnScope N_require ["holds"] (defScope s_require) := ⟨rfl, rfl, rfl, by decide +kernel, rfl, by decide +kernel, by decide +kernel⟩
def spReq : Sp := fun vs H Q _ => vs = [.bl true] ∧ Q .non H
theorem ok_require {f : Addr} {fd : FuncData} (F : Fun K "require" "require" s_require f fd) : FnOk P w K mg base CX0 1 f fd ["holds"] spReq := by
  refine F.ok sc_require (fun vs H Q E h => ?_) (fun cdv A outer s H vs Q E hr h => ?_)
  · obtain ⟨rfl, _⟩ := h
    rfl
  obtain ⟨rfl, q⟩ := h
  refine ⟨_, (pss_one (ps_if (pt_not (pt_val (pv 0))) (pss_one ps_never) pss_nil)), ?_⟩
  exact ⟨_, rfl, true, rfl, q⟩
/-! ### the pairs of points, a dict -/
def dkv (ps : List (Int × Int)) : List (List Key × V) := ps.map fun p => ([Sum.inl p.1, Sum.inl p.2], V.bl true)
theorem dkv_none {ps : List (Int × Int)} {a b : Int} (h : (a, b) ∉ ps) : valV (dkv ps) [Sum.inl a, Sum.inl b] = none := by
  unfold valV dkv
  rw [List.find?_map]
  have e : ps.find? ((fun kv : List Key × V => decide (kv.1 = [Sum.inl a, Sum.inl b])) ∘ fun p => ([Sum.inl p.1, Sum.inl p.2], V.bl true)) = none := by
    refine List.find?_eq_none.mpr fun p hp q => h ?_
    have q' := of_decide_eq_true q
    injection q' with q1 q2
    injection q2 with q2 _
    have e1 := Sum.inl.inj q1
    have e2 := Sum.inl.inj q2
    rw [← e1, ← e2]
    exact hp
  rw [e]
  rfl
theorem dkv_put {ps : List (Int × Int)} {a b : Int} (h : (a, b) ∉ ps) : putK (dkv ps) [Sum.inl a, Sum.inl b] (V.bl true) = dkv (ps ++ [(a, b)]) := by
  unfold putK
  rw [if_neg]
  · unfold dkv
    rw [List.map_append]
    rfl
  · intro q
    obtain ⟨kv, hk, e⟩ := List.any_eq_true.mp q
    obtain ⟨p, hp, rfl⟩ := List.mem_map.mp hk
    have q' := of_decide_eq_true e
    injection q' with q1 q2
    injection q2 with q2 _
    have e1 := Sum.inl.inj q1
    have e2 := Sum.inl.inj q2
    apply h
    rw [← e1, ← e2]
    exact hp
theorem dkv_len (ps : List (Int × Int)) : (dkv ps).length = ps.length := List.length_map _
/-! ### checked_threes -/
abbrev N_checked_threes : List Str := ["count", "threes", "found", "pairs", "three", "a", "b", "c", "pair", "point"]
abbrev s_checked_threes : Stmt := top 16
theorem sc_checked_threes : FnScope N_checked_threes ["count", "threes"] (defScope s_checked_threes) := ⟨rfl, rfl, rfl, by decide +kernel, rfl, by decide +kernel, by decide +kernel⟩
def spCThrees (K : PySem.W.Frag) : Sp := fun vs H Q _ => ∃ (n : Nat) (g : Int → Int → Int) (v : V), vs = [.int n, v] ∧ 1 ≤ n ∧ n ≤ 60 ∧ Thd n g ∧ Cnt n g ∧ Dp K H v (eTris (L n g)) ∧ ∀ v' H', Same H H' → Dp K H' v' (eTris (L n g)) → Q v' H'
theorem all_prs {T : List Tri} : (T.flatMap prs).length = 3 * T.length := by
  induction T with
  | nil => rfl
  | cons t r ih =>
    rw [List.flatMap_cons, List.length_append, ih, List.length_cons]
    show 3 + 3 * r.length = _
    omega
theorem cnt_le {n : Nat} {g : Int → Int → Int} (hn : n ≤ 60) (h : Cnt n g) : (L n g).length ≤ 1000 := by
  have : 3 * (L n g).length = n * (n - 1) / 2 := h
  have : n * (n - 1) ≤ 60 * 60 := Nat.mul_le_mul hn (by omega)
  omega
theorem tris_get {K : PySem.W.Frag} {H : Hp} {xs : List V} {T : List Tri} (h : DpAll K H xs (T.map eTri)) {i : Nat} {x : V} (e : xs[i]? = some x) : ∃ t a, T[i]? = some t ∧ x = .ref a ∧ SqT K H a [.int t.1, .int t.2.1, .int t.2.2] := by
  obtain ⟨d, hd, hdx⟩ := dps_get h e
  rw [List.getElem?_map] at hd
  cases et : T[i]? with
  | none => rw [et] at hd; cases hd
  | some t =>
    rw [et] at hd
    have q : eTri t = d := Option.some.inj hd
    subst q
    obtain ⟨a, rfl, hs⟩ := dp_tri hdx
    exact ⟨t, a, rfl, rfl, hs⟩
/-- the pairs of a three that come behind j of them are new -/
theorem prs_new {n : Nat} {g : Int → Int → Int} (hT : Thd n g) {i : Nat} {t : Tri} (ht : (L n g)[i]? = some t) {j : Nat} {p : Int × Int} (hp : (prs t)[j]? = some p) : p ∉ ((L n g).take i).flatMap prs ++ (prs t).take j := by
  intro hm
  have hmem : t ∈ L n g := List.mem_of_getElem? ht
  rcases List.mem_append.mp hm with hm | hm
  · obtain ⟨s, hs, hps⟩ := List.mem_flatMap.mp hm
    have e := prs_one hT (List.mem_of_mem_take hs) hmem hps (List.mem_of_getElem? hp)
    rw [e] at hs
    obtain ⟨k, hk, ek⟩ := List.mem_take_iff_getElem.mp hs
    obtain ⟨hi, ei⟩ := List.getElem?_eq_some_iff.mp ht
    have := (List.getElem_inj (L_nodup n g)).mp (ek.trans ei.symm)
    omega
  · obtain ⟨k, hk, ek⟩ := List.mem_take_iff_getElem.mp hm
    obtain ⟨hj, ej⟩ := List.getElem?_eq_some_iff.mp hp
    have := (List.getElem_inj (prs_nd hT hmem)).mp (ek.trans ej.symm)
    omega
theorem ok_checked_threes {f : Addr} {fd : FuncData} (F : Fun K "checked_threes" "checked_threes" s_checked_threes f fd) (B : Blt mg) (C_is_row : Cal P w K mg base CX0 1 "is_row" ["value"] [] (spIsRow K)) (C_is_integer : Cal P w K mg base CX0 1 "is_integer" ["value"] [] spIsInt)
    (C_require : Cal P w K mg base CX0 1 "require" ["holds"] [] spReq) : FnOk P w K mg base CX0 2 f fd ["count", "threes"] (spCThrees K) := by
  refine F.ok sc_checked_threes (fun vs H Q E h => ?_) (fun cdv A outer s H vs Q E hr h => ?_)
  · obtain ⟨n, g, v, rfl, _⟩ := h
    rfl
  obtain ⟨n, g, v, rfl, n1, n60, hT, hC, hd, q⟩ := h
  obtain ⟨av, xs, rfl, hs, hda⟩ := dp_tup hd
  have hlen : xs.length = (L n g).length := by rw [dps_len hda, List.length_map]
  have hsm := cnt_le n60 hC
  refine ⟨_, (pss_cons (ps_expr (pe_c (C_require.mono (by omega)) hr pass0 (pa_cons (pe_c (C_is_row.mono (by omega)) hr pass0 (pa_cons (pv 1) pa_nil)) pa_nil)))
    (pss_cons (ps_set (i := 2) sc_checked_threes.nd rfl (Or.inl rfl) (pe_lst pa_nil))
    (pss_cons (ps_set (i := 3) sc_checked_threes.nd rfl (Or.inl rfl) pe_dnewT)
    (pss_cons (ps_for PassesOwn.never rfl (pi_tup (pv 1)) (pg_name (i := 4) sc_checked_threes.nd rfl (Or.inl rfl)) (pss_cons (ps_expr (pe_c (C_require.mono (by omega)) hr pass0 (pa_cons (pe_and (pe_c (C_is_row.mono (by omega)) hr pass0 (pa_cons (pv 4) pa_nil)) (pe_one (pe_callB (show CallR _ _ (rAll K) from cr_all rfl) (by rfl) B.all (by decide +kernel) (pa_cons (pe_lc (own := [("point", 9)]) (g := gName 9) rfl sc_checked_threes.nd (pi_tup (pv 4)) (blkOk_by (N := N_checked_threes) (sc := defScope s_checked_threes) (by decide +kernel)) (fun _ _ _ _ _ => pg_name (i := 9) sc_checked_threes.nd rfl (Or.inl rfl)) (fun _ _ _ _ _ => pts_nil) (fun _ _ _ _ _ => (pe_c (C_is_integer.mono (by omega)) hr pass0 (pa_cons (pv 9) pa_nil)))) pa_nil)))) pa_nil)))
    (pss_cons (ps_expr (pe_c (C_require.mono (by omega)) hr pass0 (pa_cons (pe_and (pe_cmpR op_eq (pe_callB (show CallR _ _ (rLenSq K) from call_lenSq) (by rfl) B.len (by decide +kernel) (pa_cons (pv 4) pa_nil)) pe_int (nomark _)) (pe_one (pe_callB (show CallR _ _ (rAll K) from cr_all rfl) (by rfl) B.all (by decide +kernel) (pa_cons (pe_lc (own := [("point", 9)]) (g := gName 9) rfl sc_checked_threes.nd (pi_tup (pv 4)) (blkOk_by (N := N_checked_threes) (sc := defScope s_checked_threes) (by decide +kernel)) (fun _ _ _ _ _ => pg_name (i := 9) sc_checked_threes.nd rfl (Or.inl rfl)) (fun _ _ _ _ _ => pts_nil) (fun _ _ _ _ _ => (pe_chain op_le op_lt pe_int (pv 9) (pv 0)))) pa_nil)))) pa_nil)))
    (pss_cons (ps_asg (pe_callB (show CallR _ _ (rSortD K) from cr_sortD hr) (by rfl) B.sorted (by decide +kernel) (pa_cons (pv 4) pa_nil)) (pg_lst rfl (pgs_cons (pg_name (i := 5) sc_checked_threes.nd rfl (Or.inl rfl)) (pgs_cons (pg_name (i := 6) sc_checked_threes.nd rfl (Or.inl rfl)) (pgs_cons (pg_name (i := 7) sc_checked_threes.nd rfl (Or.inl rfl)) pgs_nil)))))
    (pss_cons (ps_for PassesOwn.never rfl (pi_tup (pe_tup (pa_cons (pe_tup (pa_cons (pv 5) (pa_cons (pv 6) pa_nil))) (pa_cons (pe_tup (pa_cons (pv 5) (pa_cons (pv 7) pa_nil))) (pa_cons (pe_tup (pa_cons (pv 6) (pa_cons (pv 7) pa_nil))) pa_nil))))) (pg_name (i := 8) sc_checked_threes.nd rfl (Or.inl rfl)) (pss_cons (ps_expr (pe_c (C_require.mono (by omega)) hr pass0 (pa_cons (pe_and (pe_cmpR op_lt (pe_ix (show IxR _ (rIxT K) from ix_tup) (pv 8) pe_int (fun _ _ => rfl)) (pe_ix (show IxR _ (rIxT K) from ix_tup) (pv 8) pe_int (fun _ _ => rfl)) (nomark _)) (pe_one (pe_cmp (pc_dnotin (hu_of hr) (pv 8) (pv 3)) (by rfl)))) pa_nil)))
    (pss_one (ps_dput (hu_of hr) (pv 3) (pv 8) pe_bl rfl))))
    (pss_one (ps_expr (pe_bm PySem.F.plainAttrs_list PySem.F.slot_list_append PySem.F.type_list_append mt_append (pv 2) (pa_cons (pe_tup (pa_cons (pv 5) (pa_cons (pv 6) (pa_cons (pv 7) pa_nil)))) pa_nil)))))))))
    (pss_cons (ps_expr (pe_c (C_require.mono (by omega)) hr pass0 (pa_cons (pe_cmpR op_eq (pe_callB call_len_dT (by rfl) B.len (by decide +kernel) (pa_cons (pv 3) pa_nil)) (pe_op op_fdiv (pe_op op_mul (pv 0) (pe_op op_sub (pv 0) pe_int)) pe_int) (nomark _)) pa_nil)))
    (pss_one (ps_ret (pe_callTy (show CallR _ _ (rTupOf K) from call_tupOf) (by rfl) B.tuple (by decide +kernel) (pa_cons (pv 2) pa_nil))))))))), ?_⟩
  refine ⟨_, rfl, av, xs, rfl, hs, fun H1 s1 => ⟨rfl, ?_⟩⟩
  refine ⟨Nat.zero_le _, fun fo hfo => ?_⟩
  have s2 : Same H (upd H1 fo (.lst [])) := s1.trans (same_new hfo)
  intro pd hpd
  have nfp : fo ≠ pd := fun e => by rw [← e, upd_same] at hpd; cases hpd
  have s3 : Same H (upd (upd H1 fo (.lst [])) pd (.dT [])) := s2.trans (same_new hpd)
  have hHfo : H fo = none := s1.free hfo
  have hHpd : H pd = none := s2.free hpd
  refine ⟨_, rfl, av, rfl, ⟨xs, same_sqT s3 hs⟩, for_tup (xs := xs) (fun i σ H' => ∃ y4 y5 y6 y7 y8, σ = [some (.int n), some (.ref av), some (.ref fo), some (.ref pd), y4, y5, y6, y7, y8, none] ∧ Same H H' ∧
    ∃ ys, H' fo = some (.lst ys) ∧ DpAll K H' ys (((L n g).take i).map eTri) ∧ H' pd = some (.dT (dkv (((L n g).take i).flatMap prs)))) ⟨none, none, none, none, none, rfl, s3, [], by rw [upd_ne nfp, upd_same], .nil, upd_same⟩
    (fun i σ H' _ hp => by obtain ⟨_, _, _, _, _, _, sm, _⟩ := hp; exact same_sqT sm hs) (fun i x σ H' hi hp => ?_) (fun σ H' hp => ?_)⟩
  · obtain ⟨y4, y5, y6, y7, y8, rfl, sm, ys, hfo', hys, hpd'⟩ := hp
    obtain ⟨t, ax, et, rfl, hsx⟩ := tris_get hda hi
    have hmem : t ∈ L n g := List.mem_of_getElem? et
    obtain ⟨t0, t1, t2, t3⟩ := mem_asc hT hmem
    have hsx1 := same_sqT sm hsx
    -- require(is_row(three) and all([is_integer(..)]))
    refine ⟨_, rfl, ax, _, rfl, hsx1, fun H2 sm2 => ⟨true, rfl, iteT ?_⟩⟩
    refine ⟨_, rfl, lc_tup_dp (K := K) (a := ax) (xs := [.int t.1, .int t.2.1, .int t.2.2]) (same_sqT sm2 hsx1) (by show 3 ≤ 100000; decide) (fun _ => .bool true) (fun _ => rfl) (fun D i x H3 zs _ _ _ ex Q' hQ' => ?_) (fun D ys3 H3 hD sm3 e3 hd3 => ?_)⟩
    · obtain ⟨k, rfl⟩ : ∃ k, x = V.int k := by
        match i, ex with
        | 0, ex => exact ⟨_, (Option.some.inj ex).symm⟩
        | 1, ex => exact ⟨_, (Option.some.inj ex).symm⟩
        | 2, ex => exact ⟨_, (Option.some.inj ex).symm⟩
        | _ + 3, ex => simp at ex
      exact ⟨_, rfl, k, rfl, hQ' _ _ (.refl _) (.bl true)⟩
    obtain ⟨bs, hbs, eall⟩ := all_true e3 hd3
    refine ⟨D, bs, rfl, hbs, ?_⟩
    rw [eall]
    refine ⟨rfl, ?_⟩
    have sm03 := sm2.trans sm3
    have hsx3 := same_sqT sm03 hsx1
    -- require(len(three) == 3 and all([0 <= point < count ..]))
    refine ⟨_, rfl, ax, _, rfl, .inr hsx3, rfl, true, congrArg V.bl (decide_eq_true rfl), iteT ?_⟩
    refine ⟨_, rfl, lc_tup_dp (K := K) (a := ax) (xs := [.int t.1, .int t.2.1, .int t.2.2]) hsx3 (by show 3 ≤ 100000; decide) (fun _ => .bool true) (fun _ => rfl) (fun D i x H4 zs _ _ _ ex Q' hQ' => ?_) (fun D2 ys4 H4 hD2 sm4 e4 hd4 => ?_)⟩
    · obtain ⟨k, rfl, k0, k1⟩ : ∃ k : Int, x = V.int k ∧ 0 ≤ k ∧ k < n := by
        match i, ex with
        | 0, ex => exact ⟨_, (Option.some.inj ex).symm, by omega, by omega⟩
        | 1, ex => exact ⟨_, (Option.some.inj ex).symm, by omega, by omega⟩
        | 2, ex => exact ⟨_, (Option.some.inj ex).symm, by omega, by omega⟩
        | _ + 3, ex => simp at ex
      refine ⟨_, rfl, _, _, rfl, rfl, true, congrArg V.bl (decide_eq_true k0), iteT ⟨_, rfl, _, _, rfl, rfl, ?_⟩⟩
      have := hQ' (.bl true) H4 (.refl _) (.bl true)
      rw [← decide_eq_true k1] at this
      exact this
    obtain ⟨bs2, hbs2, eall2⟩ := all_true e4 hd4
    refine ⟨D2, bs2, rfl, hbs2, ?_⟩
    rw [eall2]
    refine ⟨rfl, ?_⟩
    have sm04 := sm03.trans sm4
    have hsx4 := same_sqT sm04 hsx1
    -- a, b, c = sorted(three)
    refine ⟨_, rfl, ax, [t.1, t.2.1, t.2.2].map V.int, [t.1, t.2.1, t.2.2].map PyData.int, rfl, .inr hsx4, dps_ints _, alike_is _, sortable_is _, depth_is, fun zs p hzp hzs hp0 => ?_⟩
    have ez := sort3 hzp hzs
    rw [s3_asc t1 t2] at ez
    rw [ez]
    have sm05 : Same H' (upd H4 p (.lst [.int t.1, .int t.2.1, .int t.2.2])) := sm04.trans (same_new hp0)
    refine ⟨p, _, rfl, .of upd_same, rfl, _, _, rfl, _, _, rfl, _, _, rfl, rfl, ?_⟩
    generalize upd H4 p (.lst [.int t.1, .int t.2.1, .int t.2.2]) = H5 at *
    -- ((a, b), (a, c), (b, c))
    refine ⟨_, rfl, _, rfl, by show 2 ≤ sizeLine; decide, fun p1 hp1 => ?_⟩
    have u1 := same_new (o := .tup [.int t.1, .int t.2.1]) hp1
    refine ⟨_, rfl, _, rfl, by show 2 ≤ sizeLine; decide, fun p2 hp2 => ?_⟩
    have u2 := same_new (o := .tup [.int t.1, .int t.2.2]) hp2
    refine ⟨_, rfl, _, rfl, by show 2 ≤ sizeLine; decide, fun p3 hp3 => ?_⟩
    have u3 := same_new (o := .tup [.int t.2.1, .int t.2.2]) hp3
    refine ⟨by show 3 ≤ sizeLine; decide, fun p4 hp4 => ?_⟩
    have u4 := same_new (o := .tup [.ref p1, .ref p2, .ref p3]) hp4
    have f1 := u4 _ _ (u3 _ _ (u2 p1 _ upd_same))
    have f2 := u4 _ _ (u3 p2 _ upd_same)
    have f3 := u4 p3 _ upd_same
    have f4 : (upd (upd (upd (upd H5 p1 (.tup [.int t.1, .int t.2.1])) p2 (.tup [.int t.1, .int t.2.2])) p3 (.tup [.int t.2.1, .int t.2.2])) p4 (.tup [.ref p1, .ref p2, .ref p3])) p4 = some (.tup [.ref p1, .ref p2, .ref p3]) := upd_same
    have sm09 := sm05.trans (u1.trans (u2.trans (u3.trans u4)))
    generalize upd (upd (upd (upd H5 p1 (.tup [.int t.1, .int t.2.1])) p2 (.tup [.int t.1, .int t.2.2])) p3 (.tup [.int t.2.1, .int t.2.2])) p4 (.tup [.ref p1, .ref p2, .ref p3]) = H9 at *
    have hpd9 := sm09 _ _ hpd'
    have hfo9 := sm09 _ _ hfo'
    have hys9 := dps_same sm09 _ _ hys
    have tne : ∀ {b zs}, H9 b = some (.tup zs) → b ≠ pd := fun h => ne_of h hpd9 (fun z => nomatch z)
    have hprs : ∀ (j : Nat) (x : V), ([.ref p1, .ref p2, .ref p3] : List V)[j]? = some x → ∃ (b : Addr) (pr : Int × Int), x = .ref b ∧ (prs t)[j]? = some pr ∧ pr.1 < pr.2 ∧ H9 b = some (.tup [.int pr.1, .int pr.2]) := fun j x ex => by
      match j, ex with
      | 0, ex => exact ⟨p1, (t.1, t.2.1), (Option.some.inj ex).symm, rfl, t1, f1⟩
      | 1, ex => exact ⟨p2, (t.1, t.2.2), (Option.some.inj ex).symm, rfl, by show t.1 < t.2.2; omega, f2⟩
      | 2, ex => exact ⟨p3, (t.2.1, t.2.2), (Option.some.inj ex).symm, rfl, t2, f3⟩
      | _ + 3, ex => simp at ex
    refine ⟨p4, rfl, ⟨_, .of f4⟩, for_tup (xs := [.ref p1, .ref p2, .ref p3]) (fun j σ H' => ∃ y8, σ = [some (.int n), some (.ref av), some (.ref fo), some (.ref pd), some (.ref ax), some (.int t.1), some (.int t.2.1), some (.int t.2.2), y8, none] ∧
      (∀ b, b ≠ pd → H' b = H9 b) ∧ H' pd = some (.dT (dkv (((L n g).take i).flatMap prs ++ (prs t).take j)))) ⟨_, rfl, fun _ _ => rfl, by rw [hpd9, List.take_zero, List.append_nil]⟩
      (fun j σ H' _ hp => by obtain ⟨_, _, e, _⟩ := hp; exact .of ((e p4 (tne f4)).trans f4)) (fun j x σ H' hj hp => ?_) (fun σ H' hp => ?_)⟩
    · obtain ⟨y8, rfl, hoth, hpdj⟩ := hp
      obtain ⟨b, pr, rfl, epr, hlt, hb9⟩ := hprs j x hj
      have hb := (hoth b (tne hb9)).trans hb9
      have hnew := prs_new hT et epr
      refine ⟨_, rfl, b, _, 0, _, rfl, rfl, .of hb, atI_nat (j := 0) rfl, _, rfl, b, _, 1, _, rfl, rfl, .of hb, atI_nat (j := 1) rfl, _, _, rfl, rfl, true, congrArg V.bl (decide_eq_true hlt), iteT ?_⟩
      refine ⟨_, rfl, _, rfl, pd, _, rfl, DGet.t (k := [Sum.inl pr.1, Sum.inl pr.2]) hpdj hb, ?_⟩
      rw [dkv_none hnew]
      refine ⟨rfl, ?_⟩
      refine ⟨_, rfl, _, rfl, pd, _, rfl, DPut.t (k := [Sum.inl pr.1, Sum.inl pr.2]) hpdj hb ?_, ?_⟩
      · rw [dkv_len, List.length_append, all_prs, List.length_take, List.length_take]
        have : min j (prs t).length ≤ 3 := Nat.min_le_right _ _
        have : min i (L n g).length ≤ 1000 := Nat.le_trans (Nat.min_le_right _ _) hsm
        exact Nat.lt_of_le_of_lt (by omega : _ ≤ 5000) (by decide)
      · refine ⟨_, rfl, fun c hc => by rw [upd_ne hc]; exact hoth c hc, ?_⟩
        rw [upd_same, dkv_put hnew, List.append_assoc, List.take_add_one, epr]
        rfl
    · obtain ⟨y8, rfl, hoth, hpdj⟩ := hp
      have hpd10 : H' pd = some (.dT (dkv (((L n g).take (i + 1)).flatMap prs))) := by
        rw [hpdj, List.take_add_one, et, List.flatMap_append]
        show some (HO.dT (dkv (_ ++ (prs t).take 3))) = some (HO.dT (dkv (_ ++ [t].flatMap prs)))
        rw [List.flatMap_cons, List.flatMap_nil, List.append_nil]
        rfl
      have hfo10 : H' fo = some (.lst ys) := (hoth fo nfp).trans hfo9
      have hHH : Same H H' := fun b o e => by
        have e9 := sm09 b o (sm b o e)
        have : b ≠ pd := fun z => by rw [z, hHpd] at e; cases e
        exact (hoth b this).trans e9
      have hys10 : DpAll K H' ys (((L n g).take i).map eTri) := by
        have e : H' = upd H9 pd (.dT (dkv (((L n g).take (i + 1)).flatMap prs))) := funext fun b => by
          by_cases hb : b = pd
          · rw [hb, upd_same]; exact hpd10
          · rw [upd_ne hb]; exact hoth b hb
        rw [e]
        exact dps_mut (nt_dT hpd9) _ _ (tOnlyAll_map eTri tOnly_tri _) hys9
      -- found.append((a, b, c))
      refine ⟨_, rfl, .inl ⟨rfl, _, SqL.of hfo10⟩, _, rfl, _, rfl, _, rfl, by show 3 ≤ sizeLine; decide, fun pt hpt => ?_⟩
      have u5 := same_new (o := .tup [.int t.1, .int t.2.1, .int t.2.2]) hpt
      have hfo11 := u5 _ _ hfo10
      refine ⟨fo, ys, _, rfl, rfl, hfo11, ?_, ?_⟩
      · rw [dps_len hys10, List.length_map, List.length_take]
        exact Nat.lt_of_le_of_lt (Nat.min_le_right _ _) (Nat.lt_of_le_of_lt hsm (by decide))
      · refine ⟨_, _, _, _, _, rfl, same_mut (hHH.trans u5) hHfo, _, upd_same, ?_, ?_⟩
        · have ek : ((L n g).take (i + 1)).map eTri = ((L n g).take i).map eTri ++ [eTri t] := by
            rw [List.take_add_one, et, List.map_append]
            rfl
          refine dps_mut (nt_lst hfo11) _ _ (tOnlyAll_map eTri tOnly_tri _) ?_
          rw [ek]
          exact dps_snoc (dps_same u5 _ _ hys10) (dp_tri_of (.of upd_same))
        · rw [upd_ne nfp.symm]
          exact u5 _ _ hpd10
  · obtain ⟨y4, y5, y6, y7, y8, rfl, sm, ys, hfo', hys, hpd'⟩ := hp
    rw [hlen, List.take_length] at hys hpd'
    refine ⟨_, rfl, pd, _, rfl, hpd', _, rfl, _, rfl, _, _, rfl, rfl, _, _, rfl, rfl, .inl ⟨by omega, by omega⟩, _, _, rfl, rfl, ⟨by decide, by decide⟩, rfl, ?_⟩
    have ecnt : ((dkv ((L n g).flatMap prs)).length : Int) = (n : Int) * ((n : Int) - 1) / 2 := by
      rw [dkv_len, all_prs, hC]
      have e1 : ((n * (n - 1) : Nat) : Int) = (n : Int) * ((n : Int) - 1) := by
        rw [Int.natCast_mul, Int.natCast_sub n1]
        rfl
      rw [← e1]
      rfl
    refine ⟨(by rw [decide_eq_true (congrArg V.int ecnt)]; rfl), ?_⟩
    exact ⟨_, rfl, fo, ys, rfl, .inl ⟨.of hfo', fun l hl => q _ _ (sm.trans (same_new hl)) (.tup (.of upd_same) (dps_same (same_new hl) _ _ hys))⟩⟩
end
end Pj
/-! checked_leaf, checked_part, checked, size, is_system. -/
namespace Pj
open PySem PySem.Spec PyProof.Rows L2 PjM
def armsL : List (Str × Int) := [("bose", 0), ("skolem", 0), ("affine", 0), ("binary", 0), ("listed", 0), ("double", 1), ("product", 2)]
/-- the table of the kinds, at dA -/
structure Arms (K : PySem.W.Frag) (w : World) (mg : Str → Option Value) (dA : Addr) : Prop where
  m : mg "ARMS" = some (.ref dA)
  D : ∃ es n, KDict K w dA es n
  k : ∀ p ∈ armsL, ∃ t, PySem.W.nsIn K dA p.1 = some (some (.int p.2 t))
def rInKD (K : PySem.W.Frag) (d : Addr) : R2 := fun x y H Q => ∃ (z : Str) (r : Option Value), x = .str z ∧ y = .ref d ∧ PySem.W.nsIn K d z = some r ∧ Q (.bl r.isSome) H
def rNotInKD (K : PySem.W.Frag) (d : Addr) : R2 := fun x y H Q => ∃ (z : Str) (r : Option Value), x = .str z ∧ y = .ref d ∧ PySem.W.nsIn K d z = some r ∧ Q (.bl (!r.isSome)) H
theorem op_inA {X : Cx} {d : Addr} (D : ∃ es n, KDict X.K X.w d es n) : OpR X (compareOp .In) (rInKD X.K d) := by
  obtain ⟨es, n, D⟩ := D
  exact op_in_kd D
theorem op_notInA {X : Cx} {d : Addr} (D : ∃ es n, KDict X.K X.w d es n) : OpR X (compareOp .NotIn) (rNotInKD X.K d) := by
  obtain ⟨es, n, D⟩ := D
  exact op_notIn_kd D
theorem Arms.ix {K : PySem.W.Frag} {w : World} {mg : Str → Option Value} {dA : Addr} (A : Arms K w mg dA) {x : Str} {i : Int} (h : (x, i) ∈ armsL) : KDct K w dA x (.int i) := by
  obtain ⟨es, n, D⟩ := A.D
  obtain ⟨t, e⟩ := A.k _ h
  exact ⟨es, n, .int i t, D.at_, D.lit, e, t, rfl⟩
section
variable {P : Program} {w : World} {K : PySem.W.Frag} {mg : Str → Option Value} {base : Heap} {dA : Addr}
def isLeaf : Tree → Bool
  | .dbl _ => false
  | .prod _ _ => false
  | _ => true
abbrev N_checked_leaf : List Str := ["tree", "kind", "number"]
abbrev s_checked_leaf : Stmt := top 17
theorem sc_checked_leaf : FnScope N_checked_leaf ["tree"] (defScope s_checked_leaf) := ⟨rfl, rfl, rfl, by decide +kernel, rfl, by decide +kernel, by decide +kernel⟩
def spCLeaf (K : PySem.W.Frag) : Sp := fun vs H Q _ => ∃ (t : Tree) (v : V), vs = [v] ∧ isLeaf t = true ∧ Ok t ∧ Dp K H v (enc t) ∧ ∀ v' H', Same H H' → Dp K H' v' (enc t) → Q v' H'
theorem blt_true {p : Prop} [Decidable p] (h : p) : V.bl (decide p) = V.bl true := congrArg V.bl (decide_eq_true h)
theorem rq {p : Prop} [Decidable p] (h : p) : [V.bl (decide p)] = [V.bl true] := by rw [decide_eq_true h]
theorem ok_checked_leaf {f : Addr} {fd : FuncData} (F : Fun K "checked_leaf" "checked_leaf" s_checked_leaf f fd) (B : Blt mg) (G : Glo mg) (C_is_integer : Cal P w K mg base CX0 1 "is_integer" ["value"] [] spIsInt)
    (C_require : Cal P w K mg base CX0 1 "require" ["holds"] [] spReq) (C_checked_threes : Cal P w K mg base CX0 2 "checked_threes" ["count", "threes"] [] (spCThrees K)) : FnOk P w K mg base CX0 3 f fd ["tree"] (spCLeaf K) := by
  refine F.ok sc_checked_leaf (fun vs H Q E h => ?_) (fun cdv A outer s H vs Q E hr h => ?_)
  · obtain ⟨t, v, rfl, _⟩ := h
    rfl
  obtain ⟨t, v, rfl, lf, ok, hd, q⟩ := h
  refine ⟨_, (pss_cons (ps_set (i := 1) sc_checked_leaf.nd rfl (Or.inl rfl) (pe_ix (show IxR _ (rIxT K) from ix_tup) (pv 0) pe_int (fun _ _ => rfl)))
    (pss_cons (ps_expr (pe_c (C_require.mono (by omega)) hr pass0 (pa_cons (pe_and (pe_cmpR op_eq (pe_callB (show CallR _ _ (rLenSq K) from call_lenSq) (by rfl) B.len (by decide +kernel) (pa_cons (pv 0) pa_nil)) (pe_ifExp (pt_cmpR op_eq (pv 1) pe_str (nomark _)) pe_int pe_int) (nomark _)) (pe_one (pe_c (C_is_integer.mono (by omega)) hr pass0 (pa_cons (pe_ix (show IxR _ (rIxT K) from ix_tup) (pv 0) pe_int (fun _ _ => rfl)) pa_nil)))) pa_nil)))
    (pss_cons (ps_if (pt_cmpR op_eq (pv 1) pe_str (nomark _)) (pss_cons (ps_expr (pe_c (C_require.mono (by omega)) hr pass0 (pa_cons (pe_chain op_le op_le pe_int (pe_ix (show IxR _ (rIxT K) from ix_tup) (pv 0) pe_int (fun _ _ => rfl)) (pe_gi G.MOST_LISTED)) pa_nil)))
    (pss_one (ps_ret (pe_tup (pa_cons (pv 1) (pa_cons (pe_ix (show IxR _ (rIxT K) from ix_tup) (pv 0) pe_int (fun _ _ => rfl)) (pa_cons (pe_c (C_checked_threes.mono (by omega)) hr pass0 (pa_cons (pe_ix (show IxR _ (rIxT K) from ix_tup) (pv 0) pe_int (fun _ _ => rfl)) (pa_cons (pe_ix (show IxR _ (rIxT K) from ix_tup) (pv 0) pe_int (fun _ _ => rfl)) pa_nil))) pa_nil))))))) pss_nil)
    (pss_cons (ps_set (i := 2) sc_checked_leaf.nd rfl (Or.inl rfl) (pe_ix (show IxR _ (rIxT K) from ix_tup) (pv 0) pe_int (fun _ _ => rfl)))
    (pss_cons (ps_if (pt_cmpR op_eq (pv 1) pe_str (nomark _)) (pss_one (ps_expr (pe_c (C_require.mono (by omega)) hr pass0 (pa_cons (pe_and (pe_chain op_le op_le pe_int (pv 2) (pe_gi G.MOST_POINTS)) (pe_one (pe_cmpR op_eq (pe_op op_mod (pv 2) pe_int) pe_int (nomark _)))) pa_nil)))) (pss_one (ps_if (pt_cmpR op_eq (pv 1) pe_str (nomark _)) (pss_one (ps_expr (pe_c (C_require.mono (by omega)) hr pass0 (pa_cons (pe_and (pe_chain op_le op_le pe_int (pv 2) (pe_gi G.MOST_POINTS)) (pe_one (pe_cmpR op_eq (pe_op op_mod (pv 2) pe_int) pe_int (nomark _)))) pa_nil)))) (pss_one (ps_if (pt_cmpR op_eq (pv 1) pe_str (nomark _)) (pss_one (ps_expr (pe_c (C_require.mono (by omega)) hr pass0 (pa_cons (pe_chain op_le op_le pe_int (pv 2) (pe_gi G.MOST_AFFINE)) pa_nil)))) (pss_one (ps_expr (pe_c (C_require.mono (by omega)) hr pass0 (pa_cons (pe_chain op_le op_le pe_int (pv 2) (pe_gi G.MOST_BINARY)) pa_nil)))))))))
    (pss_one (ps_ret (pe_tup (pa_cons (pv 1) (pa_cons (pv 2) pa_nil)))))))))), ?_⟩
  cases t with
  | dbl t => cases lf
  | prod s t => cases lf
  | listed n T =>
    obtain ⟨p, x, y, z, rfl, hs, h1, h2, h3⟩ := dp_tup3 hd
    obtain rfl := dp_str h1
    obtain rfl := dp_int h2
    obtain ⟨n1, n60, g, hT, hC, rfl⟩ := ok
    have it0 := atI_nat (xs := [V.str "listed", V.int n, z]) (j := 0) rfl
    have it1 := atI_nat (xs := [V.str "listed", V.int n, z]) (j := 1) rfl
    have it2 := atI_nat (xs := [V.str "listed", V.int n, z]) (j := 2) rfl
    refine ⟨_, rfl, p, _, 0, _, rfl, rfl, hs, it0, ?_⟩
    refine ⟨_, rfl, p, _, rfl, .inr hs, _, rfl, rfl, _, rfl, ifb (fun _ => ?_) (fun e => absurd e (by decide +kernel))⟩
    refine ⟨rfl, true, blt_true rfl, iteT ⟨_, rfl, p, _, 1, _, rfl, rfl, hs, it1, n, rfl, rfl, ?_⟩⟩
    refine ⟨_, rfl, rfl, _, rfl, ifb (fun _ => ?_) (fun e => absurd e (by decide +kernel))⟩
    refine ⟨_, rfl, p, _, 1, _, rfl, rfl, hs, it1, _, _, rfl, rfl, true, blt_true (by omega), iteT ⟨_, _, rfl, rfl, rq (by omega), ?_⟩⟩
    refine ⟨_, rfl, _, rfl, p, _, 1, _, rfl, rfl, hs, it1, _, rfl, p, _, 1, _, rfl, rfl, hs, it1, _, rfl, p, _, 2, _, rfl, rfl, hs, it2, n, g, z, rfl, n1, n60, hT, hC, h3, fun v' H1 s1 hd1 => ?_⟩
    refine ⟨by show 3 ≤ sizeLine; decide, fun a ha => q _ _ (s1.trans (same_new ha)) (.tup (.of upd_same) (.cons (.str _) (.cons (.int _) (.cons (dp_same (same_new ha) _ _ hd1) .nil))))⟩
  | bose n =>
    obtain ⟨p, x, y, rfl, hs, h1, h2⟩ := dp_tup2 hd
    obtain rfl := dp_str h1
    obtain rfl := dp_int h2
    obtain ⟨n1, n60, hm⟩ := ok
    have it0 := atI_nat (xs := [V.str "bose", V.int n]) (j := 0) rfl
    have it1 := atI_nat (xs := [V.str "bose", V.int n]) (j := 1) rfl
    refine ⟨_, rfl, p, _, 0, _, rfl, rfl, hs, it0, ?_⟩
    refine ⟨_, rfl, p, _, rfl, .inr hs, _, rfl, rfl, _, rfl, ifb (fun e => absurd e (by decide +kernel)) (fun _ => ?_)⟩
    refine ⟨rfl, true, blt_true rfl, iteT ⟨_, rfl, p, _, 1, _, rfl, rfl, hs, it1, n, rfl, rfl, ?_⟩⟩
    refine ⟨_, rfl, rfl, _, rfl, ifb (fun e => absurd e (by decide +kernel)) (fun _ => ?_)⟩
    refine ⟨_, rfl, p, _, 1, _, rfl, rfl, hs, it1, ?_⟩
    refine ⟨_, rfl, rfl, _, rfl, ifb (fun _ => ?_) (fun e => absurd e (by decide +kernel))⟩
    refine ⟨_, rfl, _, _, rfl, rfl, true, blt_true (by omega), iteT ⟨_, _, rfl, rfl, true, blt_true (by omega), iteT ⟨_, rfl, _, _, rfl, rfl, (by decide : (0 : Int) < 6), rfl, rq (congrArg V.int (by omega)), ?_⟩⟩⟩
    exact ⟨_, rfl, _, rfl, by show 2 ≤ sizeLine; decide, fun a ha => q _ _ (same_new ha) (.tup (.of upd_same) (.cons (.str _) (.cons (.int _) .nil)))⟩
  | skolem n =>
    obtain ⟨p, x, y, rfl, hs, h1, h2⟩ := dp_tup2 hd
    obtain rfl := dp_str h1
    obtain rfl := dp_int h2
    obtain ⟨n1, n60, hm⟩ := ok
    have it0 := atI_nat (xs := [V.str "skolem", V.int n]) (j := 0) rfl
    have it1 := atI_nat (xs := [V.str "skolem", V.int n]) (j := 1) rfl
    refine ⟨_, rfl, p, _, 0, _, rfl, rfl, hs, it0, ?_⟩
    refine ⟨_, rfl, p, _, rfl, .inr hs, _, rfl, rfl, _, rfl, ifb (fun e => absurd e (by decide +kernel)) (fun _ => ?_)⟩
    refine ⟨rfl, true, blt_true rfl, iteT ⟨_, rfl, p, _, 1, _, rfl, rfl, hs, it1, n, rfl, rfl, ?_⟩⟩
    refine ⟨_, rfl, rfl, _, rfl, ifb (fun e => absurd e (by decide +kernel)) (fun _ => ?_)⟩
    refine ⟨_, rfl, p, _, 1, _, rfl, rfl, hs, it1, ?_⟩
    refine ⟨_, rfl, rfl, _, rfl, ifb (fun e => absurd e (by decide +kernel)) (fun _ => ?_)⟩
    refine ⟨_, rfl, rfl, _, rfl, ifb (fun _ => ?_) (fun e => absurd e (by decide +kernel))⟩
    refine ⟨_, rfl, _, _, rfl, rfl, true, blt_true (by omega), iteT ⟨_, _, rfl, rfl, true, blt_true (by omega), iteT ⟨_, rfl, _, _, rfl, rfl, (by decide : (0 : Int) < 6), rfl, rq (congrArg V.int (by omega)), ?_⟩⟩⟩
    exact ⟨_, rfl, _, rfl, by show 2 ≤ sizeLine; decide, fun a ha => q _ _ (same_new ha) (.tup (.of upd_same) (.cons (.str _) (.cons (.int _) .nil)))⟩
  | affine n =>
    obtain ⟨p, x, y, rfl, hs, h1, h2⟩ := dp_tup2 hd
    obtain rfl := dp_str h1
    obtain rfl := dp_int h2
    obtain ⟨n1, n60⟩ := ok
    have it0 := atI_nat (xs := [V.str "affine", V.int n]) (j := 0) rfl
    have it1 := atI_nat (xs := [V.str "affine", V.int n]) (j := 1) rfl
    refine ⟨_, rfl, p, _, 0, _, rfl, rfl, hs, it0, ?_⟩
    refine ⟨_, rfl, p, _, rfl, .inr hs, _, rfl, rfl, _, rfl, ifb (fun e => absurd e (by decide +kernel)) (fun _ => ?_)⟩
    refine ⟨rfl, true, blt_true rfl, iteT ⟨_, rfl, p, _, 1, _, rfl, rfl, hs, it1, n, rfl, rfl, ?_⟩⟩
    refine ⟨_, rfl, rfl, _, rfl, ifb (fun e => absurd e (by decide +kernel)) (fun _ => ?_)⟩
    refine ⟨_, rfl, p, _, 1, _, rfl, rfl, hs, it1, ?_⟩
    refine ⟨_, rfl, rfl, _, rfl, ifb (fun e => absurd e (by decide +kernel)) (fun _ => ?_)⟩
    refine ⟨_, rfl, rfl, _, rfl, ifb (fun e => absurd e (by decide +kernel)) (fun _ => ?_)⟩
    refine ⟨_, rfl, rfl, _, rfl, ifb (fun _ => ?_) (fun e => absurd e (by decide +kernel))⟩
    refine ⟨_, rfl, _, _, rfl, rfl, true, blt_true (by omega), iteT ⟨_, _, rfl, rfl, rq (by omega), ?_⟩⟩
    exact ⟨_, rfl, _, rfl, by show 2 ≤ sizeLine; decide, fun a ha => q _ _ (same_new ha) (.tup (.of upd_same) (.cons (.str _) (.cons (.int _) .nil)))⟩
  | binary n =>
    obtain ⟨p, x, y, rfl, hs, h1, h2⟩ := dp_tup2 hd
    obtain rfl := dp_str h1
    obtain rfl := dp_int h2
    obtain ⟨n1, n60⟩ := ok
    have it0 := atI_nat (xs := [V.str "binary", V.int n]) (j := 0) rfl
    have it1 := atI_nat (xs := [V.str "binary", V.int n]) (j := 1) rfl
    refine ⟨_, rfl, p, _, 0, _, rfl, rfl, hs, it0, ?_⟩
    refine ⟨_, rfl, p, _, rfl, .inr hs, _, rfl, rfl, _, rfl, ifb (fun e => absurd e (by decide +kernel)) (fun _ => ?_)⟩
    refine ⟨rfl, true, blt_true rfl, iteT ⟨_, rfl, p, _, 1, _, rfl, rfl, hs, it1, n, rfl, rfl, ?_⟩⟩
    refine ⟨_, rfl, rfl, _, rfl, ifb (fun e => absurd e (by decide +kernel)) (fun _ => ?_)⟩
    refine ⟨_, rfl, p, _, 1, _, rfl, rfl, hs, it1, ?_⟩
    refine ⟨_, rfl, rfl, _, rfl, ifb (fun e => absurd e (by decide +kernel)) (fun _ => ?_)⟩
    refine ⟨_, rfl, rfl, _, rfl, ifb (fun e => absurd e (by decide +kernel)) (fun _ => ?_)⟩
    refine ⟨_, rfl, rfl, _, rfl, ifb (fun e => absurd e (by decide +kernel)) (fun _ => ?_)⟩
    refine ⟨_, rfl, _, _, rfl, rfl, true, blt_true (by omega), iteT ⟨_, _, rfl, rfl, rq (by omega), ?_⟩⟩
    exact ⟨_, rfl, _, rfl, by show 2 ≤ sizeLine; decide, fun a ha => q _ _ (same_new ha) (.tup (.of upd_same) (.cons (.str _) (.cons (.int _) .nil)))⟩

/-! ### checked_part -/
def kdOf : Tree → Str
  | .bose _ => "bose"
  | .skolem _ => "skolem"
  | .affine _ => "affine"
  | .binary _ => "binary"
  | .listed _ _ => "listed"
  | .dbl _ => "double"
  | .prod _ _ => "product"
def armsOf : Tree → List Tree
  | .dbl t => [t]
  | .prod s t => [s, t]
  | _ => []
theorem kd_in : ∀ t : Tree, (kdOf t, ((armsOf t).length : Int)) ∈ armsL
  | .bose _ => by show (("bose" : Str), (0 : Int)) ∈ armsL; decide +kernel
  | .skolem _ => by show (("skolem" : Str), (0 : Int)) ∈ armsL; decide +kernel
  | .affine _ => by show (("affine" : Str), (0 : Int)) ∈ armsL; decide +kernel
  | .binary _ => by show (("binary" : Str), (0 : Int)) ∈ armsL; decide +kernel
  | .listed _ _ => by show (("listed" : Str), (0 : Int)) ∈ armsL; decide +kernel
  | .dbl _ => by show (("double" : Str), (1 : Int)) ∈ armsL; decide +kernel
  | .prod _ _ => by show (("product" : Str), (2 : Int)) ∈ armsL; decide +kernel
theorem leaf_arms : ∀ {t : Tree}, isLeaf t = true → armsOf t = [] ∧ t.parts = 1
  | .bose _, _ => ⟨rfl, rfl⟩
  | .skolem _, _ => ⟨rfl, rfl⟩
  | .affine _, _ => ⟨rfl, rfl⟩
  | .binary _, _ => ⟨rfl, rfl⟩
  | .listed _ _, _ => ⟨rfl, rfl⟩
theorem enc_arms : ∀ {t : Tree}, isLeaf t = false → enc t = .tuple (.str (kdOf t) :: (armsOf t).map enc) ∧ 1 ≤ (armsOf t).length ∧ (armsOf t).length ≤ 2
  | .dbl _, _ => ⟨rfl, Nat.le_refl 1, Nat.le_succ 1⟩
  | .prod _ _, _ => ⟨rfl, Nat.le_succ _, Nat.le_refl _⟩
theorem enc_kd : ∀ {t : Tree}, ∃ ds, enc t = .tuple (.str (kdOf t) :: ds)
  | .bose _ => ⟨_, rfl⟩
  | .skolem _ => ⟨_, rfl⟩
  | .affine _ => ⟨_, rfl⟩
  | .binary _ => ⟨_, rfl⟩
  | .listed _ _ => ⟨_, rfl⟩
  | .dbl _ => ⟨_, rfl⟩
  | .prod _ _ => ⟨_, rfl⟩
theorem arms_ok : ∀ {t : Tree}, Ok t → ∀ u ∈ armsOf t, Ok u ∧ u.sz ≤ 1000 ∧ u.ht + 1 ≤ t.ht
  | .dbl t, h, u, hu => by
    obtain rfl := List.mem_singleton.mp hu
    exact ⟨h.1, h.2.1, Nat.le_refl _⟩
  | .prod s t, h, u, hu => by
    rcases List.mem_cons.mp hu with rfl | hu
    · exact ⟨h.1, h.2.2.1, Nat.succ_le_succ (Nat.le_max_left _ _)⟩
    · obtain rfl := List.mem_singleton.mp hu
      exact ⟨h.2.1, h.2.2.2.1, Nat.succ_le_succ (Nat.le_max_right _ _)⟩
def sumP (l : List Tree) : Nat := (l.map Tree.parts).sum
theorem parts_sum : ∀ {t : Tree}, t.parts = 1 + sumP (armsOf t)
  | .bose _ => rfl
  | .skolem _ => rfl
  | .affine _ => rfl
  | .binary _ => rfl
  | .listed _ _ => rfl
  | .dbl t => by show t.parts + 1 = 1 + (t.parts + 0); omega
  | .prod s t => by show s.parts + t.parts + 1 = 1 + (s.parts + (t.parts + 0)); omega
theorem parts_le : ∀ {t : Tree}, Ok t → t.parts ≤ 6
  | .bose _, _ => by show 1 ≤ 6; decide
  | .skolem _, _ => by show 1 ≤ 6; decide
  | .affine _, _ => by show 1 ≤ 6; decide
  | .binary _, _ => by show 1 ≤ 6; decide
  | .listed _ _, _ => by show 1 ≤ 6; decide
  | .dbl t, h => Nat.succ_le_succ h.2.2
  | .prod s t, h => Nat.succ_le_succ h.2.2.2.2
theorem sumP_take (l : List Tree) (i : Nat) : sumP (l.take i) ≤ sumP l := by
  have e : sumP l = sumP (l.take i) + sumP (l.drop i) := by
    unfold sumP
    rw [← List.sum_append, ← List.map_append, List.take_append_drop]
  omega
theorem sumP_succ {l : List Tree} {i : Nat} {u : Tree} (h : l[i]? = some u) : sumP (l.take (i + 1)) = sumP (l.take i) + u.parts := by
  unfold sumP
  rw [List.take_add_one, h, List.map_append, List.sum_append]
  rfl
theorem tOnly_enc : ∀ t : Tree, tOnly (enc t) = true
  | .bose _ => rfl
  | .skolem _ => rfl
  | .affine _ => rfl
  | .binary _ => rfl
  | .listed _ T => by
    show (tOnlyAll (T.map eTri) && true) = true
    rw [tOnlyAll_map eTri tOnly_tri]
    rfl
  | .dbl t => by
    show (tOnly (enc t) && true) = true
    rw [tOnly_enc t]
    rfl
  | .prod s t => by
    show (tOnly (enc s) && (tOnly (enc t) && true)) = true
    rw [tOnly_enc s, tOnly_enc t]
    rfl
abbrev N_checked_part : List Str := ["tree", "depth", "many_arms", "leaf", "found", "parts", "sizes", "arm", "part", "many", "points"]
abbrev s_checked_part : Stmt := top 18
theorem sc_checked_part : FnScope N_checked_part ["tree", "depth"] (defScope s_checked_part) := ⟨rfl, rfl, rfl, by decide +kernel, rfl, by decide +kernel, by decide +kernel⟩
def spPart (K : PySem.W.Frag) (h : Nat) : Sp := fun vs H Q _ => ∃ (t : Tree) (v : V) (d : Int), vs = [v, .int d] ∧ Ok t ∧ t.ht ≤ h ∧ 1 ≤ d ∧ d + t.ht ≤ 13 ∧ Dp K H v (enc t) ∧ ∀ v' H', Same H H' → Dp K H' v' (.tuple [enc t, .int t.parts, .int t.sz]) → Q v' H'
theorem ok_part_one {f : Addr} {fd : FuncData} {dvs : List V} {kws : List (Str × V)} (h : Nat) (F : FunD K "checked_part" "checked_part" (defArgs s_checked_part) (defBody s_checked_part) (defScope s_checked_part) dvs kws f fd) (B : Blt mg) (G : Glo mg) (AR : Arms K w mg dA)
    (C_is_row : Cal P w K mg base CX0 1 "is_row" ["value"] [] (spIsRow K)) (C_require : Cal P w K mg base CX0 1 "require" ["holds"] [] spReq) (C_checked_leaf : Cal P w K mg base CX0 3 "checked_leaf" ["tree"] [] (spCLeaf K))
    (C_size_of : Cal P w K mg base CX0 (h + 2) "size_of" ["tree"] [] (spSize K (h + 1))) (C_checked_part : Cal P w K mg base CX0 (h + 3) "checked_part" ["tree", "depth"] [] (spPart K h)) : FnOk P w K mg base CX0 (h + 4) f fd ["tree", "depth"] (spPart K (h + 1)) := by
  refine F.ok sc_checked_part (fun vs H Q E h => ?_) (fun cdv A outer s H vs Q E hr h => ?_)
  · obtain ⟨t, v, d, rfl, _⟩ := h
    rfl
  obtain ⟨t, v, d, rfl, ok, hh, d1, d13, hd, q⟩ := h
  refine ⟨_, PSs.nox (pss_cons (ps_expr (pe_c (C_require.mono (by omega)) hr pass0 (pa_cons (pe_and (pe_cmpR op_le (pv 1) (pe_gi G.MOST_PARTS) (nomark _)) (pe_and (pe_c (C_is_row.mono (by omega)) hr pass0 (pa_cons (pv 0) pa_nil)) (pe_one (pe_cmpR op_gt (pe_callB (show CallR _ _ (rLenSq K) from call_lenSq) (by rfl) B.len (by decide +kernel) (pa_cons (pv 0) pa_nil)) pe_int (nomark _))))) pa_nil)))
    (pss_cons (ps_expr (pe_c (C_require.mono (by omega)) hr pass0 (pa_cons (pe_and (pe_callB (show CallR _ _ (rIsi K) from call_isi) (by rfl) B.isinstance (by decide +kernel) (pa_cons (pe_ix (show IxR _ (rIxT K) from ix_tup) (pv 0) pe_int (fun _ _ => rfl)) (pa_cons (pe_bltn (v := .ty "str") (by rfl) B.str (by decide +kernel) rfl) pa_nil))) (pe_one (pe_cmpR (show OpR _ _ (rInKD K dA) from op_inA AR.D) (pe_ix (show IxR _ (rIxT K) from ix_tup) (pv 0) pe_int (fun _ _ => rfl)) (pe_glob (v := .ref dA) (by rfl) AR.m rfl) rfl))) pa_nil)))
    (pss_cons (ps_set (i := 2) sc_checked_part.nd rfl (Or.inl rfl) (pe_ix (show IxR _ (rIxD K w) from ix_kdict) (pe_glob (v := .ref dA) (by rfl) AR.m rfl) (pe_ix (show IxR _ (rIxT K) from ix_tup) (pv 0) pe_int (fun _ _ => rfl)) (fun _ _ => rfl)))
    (pss_cons (ps_if (pt_cmpR op_eq (pv 2) pe_int (nomark _)) (pss_cons (ps_set (i := 3) sc_checked_part.nd rfl (Or.inl rfl) (pe_c (C_checked_leaf.mono (by omega)) hr pass0 (pa_cons (pv 0) pa_nil)))
    (pss_one (ps_ret (pe_tup (pa_cons (pv 3) (pa_cons pe_int (pa_cons (pe_c (C_size_of.mono (by omega)) hr pass0 (pa_cons (pv 3) pa_nil)) pa_nil))))))) pss_nil)
    (pss_cons (ps_expr (pe_c (C_require.mono (by omega)) hr pass0 (pa_cons (pe_cmpR op_eq (pe_callB (show CallR _ _ (rLenSq K) from call_lenSq) (by rfl) B.len (by decide +kernel) (pa_cons (pv 0) pa_nil)) (pe_op op_add (pv 2) pe_int) (nomark _)) pa_nil)))
    (pss_cons (ps_set (i := 4) sc_checked_part.nd rfl (Or.inl rfl) (pe_lst (pa_cons (pe_ix (show IxR _ (rIxT K) from ix_tup) (pv 0) pe_int (fun _ _ => rfl)) pa_nil)))
    (pss_cons (ps_set (i := 5) sc_checked_part.nd rfl (Or.inl rfl) pe_int)
    (pss_cons (ps_set (i := 6) sc_checked_part.nd rfl (Or.inl rfl) (pe_lst pa_nil))
    (pss_cons (ps_for PassesOwn.never rfl (pi_tup (pe_slice (show SlR _ (rSlT K) from sl_tup) (pv 0) (po_some pe_int) po_none)) (pg_name (i := 7) sc_checked_part.nd rfl (Or.inl rfl)) (pss_cons (ps_asg (pe_c (C_checked_part.mono (by omega)) hr pass0 (pa_cons (pv 7) (pa_cons (pe_op op_add (pv 1) pe_int) pa_nil))) (pg_tup rfl (pgs_cons (pg_name (i := 8) sc_checked_part.nd rfl (Or.inl rfl)) (pgs_cons (pg_name (i := 9) sc_checked_part.nd rfl (Or.inl rfl)) (pgs_cons (pg_name (i := 10) sc_checked_part.nd rfl (Or.inl rfl)) pgs_nil)))))
    (pss_cons (ps_expr (pe_bm PySem.F.plainAttrs_list PySem.F.slot_list_append PySem.F.type_list_append mt_append (pv 4) (pa_cons (pv 8) pa_nil)))
    (pss_cons (ps_aug (i := 5) sc_checked_part.nd rfl (Or.inl rfl) (pv 9) ip_add)
    (pss_cons (ps_expr (pe_bm PySem.F.plainAttrs_list PySem.F.slot_list_append PySem.F.type_list_append mt_append (pv 6) (pa_cons (pv 10) pa_nil)))
    (pss_one (ps_expr (pe_c (C_require.mono (by omega)) hr pass0 (pa_cons (pe_cmpR op_le (pv 5) (pe_gi G.MOST_PARTS) (nomark _)) pa_nil)))))))))
    (pss_cons (ps_set (i := 10) sc_checked_part.nd rfl (Or.inl rfl) (pe_ifExp (pt_cmpR op_eq (pe_ix (show IxR _ (rIxT K) from ix_tup) (pv 0) pe_int (fun _ _ => rfl)) pe_str (nomark _)) (pe_op op_add (pe_op op_mul pe_int (pe_ix (show IxR _ (rIxL K) from ix_list) (pv 6) pe_int (fun _ _ => rfl))) pe_int) (pe_op op_mul (pe_ix (show IxR _ (rIxL K) from ix_list) (pv 6) pe_int (fun _ _ => rfl)) (pe_ix (show IxR _ (rIxL K) from ix_list) (pv 6) pe_int (fun _ _ => rfl)))))
    (pss_cons (ps_expr (pe_c (C_require.mono (by omega)) hr pass0 (pa_cons (pe_cmpR op_le (pv 10) (pe_gi G.MOST_POINTS) (nomark _)) pa_nil)))
    (pss_one (ps_ret (pe_tup (pa_cons (pe_callTy (show CallR _ _ (rTupOf K) from call_tupOf) (by rfl) B.tuple (by decide +kernel) (pa_cons (pv 4) pa_nil)) (pa_cons (pv 5) (pa_cons (pv 10) pa_nil))))))))))))))))), ?_⟩
  have hp := ht_pos t
  obtain ⟨ds0, e0⟩ := @enc_kd t
  obtain ⟨av, xs, rfl, hs, hda⟩ := dp_tup (e0 ▸ hd)
  obtain ⟨x0, xr, rfl, hx0, hxr⟩ : ∃ x0 xr, xs = x0 :: xr ∧ Dp K H x0 (.str (kdOf t)) ∧ DpAll K H xr ds0 := by
    cases hda with
    | cons a b => exact ⟨_, _, rfl, a, b⟩
  obtain rfl := dp_str hx0
  have it0 := atI_nat (xs := V.str (kdOf t) :: xr) (j := 0) rfl
  refine ⟨_, rfl, _, _, rfl, rfl, true, blt_true (by omega : d ≤ 12), iteT ⟨_, rfl, av, _, rfl, hs, fun H1 s1 => ⟨true, rfl, iteT ?_⟩⟩⟩
  have hs1 := same_sqT s1 hs
  refine ⟨_, rfl, av, _, rfl, .inr hs1, _, _, rfl, rfl, rq (by rw [List.length_cons]; omega), ?_⟩
  have kin := kd_in t
  obtain ⟨tk, ek⟩ := AR.k _ kin
  have kix := AR.ix kin
  refine ⟨_, rfl, av, _, 0, _, rfl, rfl, hs1, it0, _, _, .type "str", .type "str", true, rfl, .ty _, .base (.str _), kit_ty (by decide +kernel), true, rfl, iteT ⟨_, rfl, av, _, 0, _, rfl, rfl, hs1, it0, _, _, rfl, rfl, ek, rfl, ?_⟩⟩
  refine ⟨_, rfl, av, _, 0, _, rfl, rfl, hs1, it0, _, _, _, rfl, rfl, kix, ?_⟩
  cases lf : isLeaf t with
  | true =>
    obtain ⟨ea, ep⟩ := leaf_arms lf
    rw [ea]
    refine ⟨_, rfl, rfl, _, rfl, ifb (fun _ => ?_) (fun e => absurd e (by decide +kernel))⟩
    refine ⟨_, rfl, t, _, rfl, lf, ok, dp_same s1 _ _ hd, fun v1 H2 s2 hd2 => ?_⟩
    refine ⟨_, rfl, _, rfl, t, _, rfl, ok, hh, hd2, ?_⟩
    refine ⟨by show 3 ≤ sizeLine; decide, fun p hp => q _ _ ((s1.trans s2).trans (same_new hp)) ?_⟩
    rw [ep]
    exact .tup (.of upd_same) (.cons (dp_same (same_new hp) _ _ hd2) (.cons (.int _) (.cons (.int _) .nil)))
  | false =>
    obtain ⟨ee, l1, l2⟩ := enc_arms lf
    have hpart := parts_le ok
    have eds : ds0 = (armsOf t).map enc := by
      have := e0.symm.trans ee
      injection this with this
      injection this
    subst eds
    have hlen : xr.length = (armsOf t).length := by rw [dps_len hxr, List.length_map]
    refine ⟨_, rfl, rfl, _, rfl, ifb (fun e => absurd (vint_t e) (by omega)) (fun _ => ?_)⟩
    refine ⟨_, rfl, av, _, rfl, .inr hs1, ?_⟩
    refine ⟨_, rfl, _, _, rfl, rfl, rfl, rq (by rw [List.length_cons, hlen]; rfl), ?_⟩
    refine ⟨_, rfl, av, _, 0, _, rfl, rfl, hs1, it0, ?_⟩
    refine ⟨by show 1 ≤ sizeLine; decide, fun fo hfo => ?_⟩
    have hHfo : H fo = none := s1.free hfo
    have s2 : Same H (upd H1 fo (.lst [.str (kdOf t)])) := s1.trans (same_new hfo)
    refine ⟨by show 0 ≤ sizeLine; decide, fun so hso => ?_⟩
    have nfs : fo ≠ so := fun e => by rw [← e, upd_same] at hso; cases hso
    have hHso : H so = none := s2.free hso
    have s3 := s2.trans (same_new (o := .lst []) hso)
    refine ⟨_, rfl, 1, rfl, av, _, rfl, same_sqT s3 hs, fun y => ?_, fun ps hps => ?_⟩
    · have y1 : min 1 (xr.length + 1) = 0 := y.1
      omega
    have ecut : cutV (V.str (kdOf t) :: xr) (some 1) none = xr := by
      show List.take (xr.length + 1 - min 1 (xr.length + 1)) (List.drop (min 1 (xr.length + 1)) (V.str (kdOf t) :: xr)) = xr
      rw [Nat.min_eq_left (by omega)]
      show List.take (xr.length + 1 - 1) xr = xr
      exact List.take_of_length_le (by omega)
    rw [ecut]
    have s4 := s3.trans (same_new (o := .tup xr) hps)
    have hHps : H ps = none := s3.free hps
    have nps : so ≠ ps := fun e => by rw [← e, upd_same] at hps; cases hps
    have npf : fo ≠ ps := fun e => by rw [← e, upd_ne nfs, upd_same] at hps; cases hps
    refine ⟨ps, rfl, ⟨xr, .of upd_same⟩, for_tup (xs := xr) (fun i σ H' => ∃ y3 y7 y8 y9 y10, σ = [some (.ref av), some (.int d), some (.int (armsOf t).length), y3, some (.ref fo), some (.int ((1 + sumP ((armsOf t).take i) : Nat) : Int)), some (.ref so), y7, y8, y9, y10] ∧ Same H H' ∧ H' ps = some (.tup xr) ∧
      (∃ ys, H' fo = some (.lst (.str (kdOf t) :: ys)) ∧ DpAll K H' ys (((armsOf t).take i).map enc)) ∧ H' so = some (.lst (((armsOf t).take i).map fun u => .int u.sz))) ⟨none, none, none, none, none, rfl, s4, upd_same, ⟨[], by rw [upd_ne npf, upd_ne nfs, upd_same], .nil⟩, by rw [upd_ne nps, upd_same]; rfl⟩
      (fun i σ H' _ hp => by obtain ⟨_, _, _, _, _, _, _, h', _⟩ := hp; exact .of h') (fun i x σ H' hi hp => ?_) (fun σ H' hp => ?_)⟩
    · obtain ⟨y3, y7, y8, y9, y10, rfl, sm, hps', ⟨ys, hfo', hys⟩, hso'⟩ := hp
      obtain ⟨dd, hdd, hdx⟩ := dps_get hxr hi
      rw [List.getElem?_map] at hdd
      obtain ⟨u, eu, rfl⟩ : ∃ u, (armsOf t)[i]? = some u ∧ enc u = dd := by
        cases eu : (armsOf t)[i]? with
        | none => rw [eu] at hdd; cases hdd
        | some u => rw [eu] at hdd; exact ⟨u, rfl, Option.some.inj hdd⟩
      have hmem := List.mem_of_getElem? eu
      obtain ⟨oku, szu, htu⟩ := arms_ok ok u hmem
      refine ⟨_, rfl, _, rfl, _, _, rfl, rfl, u, _, _, rfl, oku, by omega, by omega, by omega, dp_same sm _ _ hdx, fun v' H2 sm2 hd2 => ?_⟩
      obtain ⟨rv, r1, r2, r3, rfl, hrs, e1, e2, e3⟩ := dp_tup3 hd2
      obtain rfl := dp_int e2
      obtain rfl := dp_int e3
      refine ⟨rv, _, rfl, hrs, rfl, _, _, rfl, _, _, rfl, _, _, rfl, rfl, ?_⟩
      have hfo2 := sm2 _ _ hfo'
      have hso2 := sm2 _ _ hso'
      have hps2 := sm2 _ _ hps'
      have smH := sm.trans sm2
      have etk : (armsOf t).take (i + 1) = (armsOf t).take i ++ [u] := by rw [List.take_add_one, eu]; rfl
      have hil : i < (armsOf t).length := (List.getElem?_eq_some_iff.mp eu).1
      have esum := sumP_succ eu
      have hsum := sumP_take (armsOf t) (i + 1)
      have hpt := @parts_sum t
      have epar : ((1 + sumP ((armsOf t).take i) : Nat) : Int) + (u.parts : Int) = ((1 + sumP ((armsOf t).take (i + 1)) : Nat) : Int) := by omega
      have hlys : (V.str (kdOf t) :: ys).length < sizeLine := by
        rw [List.length_cons, dps_len hys, List.length_map, List.length_take]
        exact Nat.lt_of_le_of_lt (by omega : _ ≤ 3) (by decide)
      refine ⟨_, rfl, .inl ⟨rfl, _, SqL.of hfo2⟩, _, rfl, fo, _, _, rfl, rfl, hfo2, hlys, ?_⟩
      refine ⟨_, rfl, _, rfl, _, _, rfl, rfl, ?_⟩
      have hso3 : upd H2 fo (.lst (V.str (kdOf t) :: ys ++ [r1])) so = some (.lst (((armsOf t).take i).map fun u => .int u.sz)) := by rw [upd_ne nfs.symm]; exact hso2
      have hlso : (((armsOf t).take i).map fun u => V.int u.sz).length < sizeLine := by
        rw [List.length_map, List.length_take]
        exact Nat.lt_of_le_of_lt (by omega : _ ≤ 3) (by decide)
      refine ⟨_, rfl, .inl ⟨rfl, _, SqL.of hso3⟩, _, rfl, so, _, _, rfl, rfl, hso3, hlso, ?_⟩
      refine ⟨_, rfl, _, _, rfl, rfl, rq (show ((1 + sumP ((armsOf t).take i) : Nat) : Int) + (u.parts : Int) ≤ 12 by omega), ?_⟩
      have smf : Same H (upd (upd H2 fo (.lst (V.str (kdOf t) :: ys ++ [r1]))) so (.lst (((armsOf t).take i).map (fun u => V.int u.sz) ++ [.int u.sz]))) := same_mut (same_mut smH hHfo) hHso
      rw [← epar]
      refine ⟨_, _, _, _, _, rfl, smf, by rw [upd_ne nps.symm, upd_ne npf.symm]; exact hps2, ⟨ys ++ [r1], by rw [upd_ne nfs, upd_same]; rfl, ?_⟩, by rw [upd_same, etk, List.map_append]; rfl⟩
      refine dps_mut (nt_lst hso3) _ _ (tOnlyAll_map enc tOnly_enc _) (dps_mut (nt_lst hfo2) _ _ (tOnlyAll_map enc tOnly_enc _) ?_)
      rw [etk, List.map_append]
      exact dps_snoc (dps_same sm2 _ _ hys) e1
    · obtain ⟨y3, y7, y8, y9, y10, rfl, sm, hps', ⟨ys, hfo', hys⟩, hso'⟩ := hp
      rw [hlen, List.take_length] at hys hso'
      rw [hlen, List.take_length]
      have hs' := same_sqT sm hs
      have epar : ((1 + sumP (armsOf t) : Nat) : Int) = (t.parts : Int) := by rw [@parts_sum t]
      rw [epar]
      have fin : ∀ {H' : Hp} {ys : List V}, Same H H' → H' fo = some (.lst (.str (kdOf t) :: ys)) → DpAll K H' ys ((armsOf t).map enc) → ∀ p1, H' p1 = none → ∀ p2, upd H' p1 (.tup (.str (kdOf t) :: ys)) p2 = none →
          Q (.ref p2) (upd (upd H' p1 (.tup (.str (kdOf t) :: ys))) p2 (.tup [.ref p1, .int t.parts, .int t.sz])) := fun {H' ys} sm hfo' hys p1 hp1 p2 hp2 => by
        refine q _ _ (sm.trans ((same_new hp1).trans (same_new hp2))) (.tup (.of upd_same) (.cons (dp_same (same_new hp2) _ _ ?_) (.cons (.int _) (.cons (.int _) .nil))))
        rw [ee]
        exact .tup (.of upd_same) (.cons (.str _) (dps_same (same_new hp1) _ _ hys))
      cases t with
      | bose n => cases lf
      | skolem n => cases lf
      | affine n => cases lf
      | binary n => cases lf
      | listed n T => cases lf
      | dbl t =>
        have hb : t.sz ≤ 1000 := ok.2.1
        refine ⟨_, rfl, av, _, 0, _, rfl, rfl, hs', it0, rfl, _, rfl, ifb (fun _ => ?_) (fun e => absurd (show decide (V.str "double" = V.str "double") = false from e) (by decide +kernel))⟩
        refine ⟨_, rfl, so, _, 0, _, rfl, rfl, .of hso', atI_nat (j := 0) rfl, _, _, rfl, rfl, .inl ⟨by decide, by decide⟩, _, _, rfl, rfl, ?_⟩
        have h30 : (10 : Int) ^ 30 = 1000000000000000000000000000000 := by decide +kernel
        refine ⟨_, rfl, _, _, rfl, rfl, rq (show 2 * (t.sz : Int) + 1 ≤ 10 ^ 30 by omega), ?_⟩
        refine ⟨_, rfl, fo, _, rfl, .inl ⟨.of hfo', fun p1 hp1 => ⟨_, rfl, _, rfl, by show 3 ≤ sizeLine; decide, fun p2 hp2 => ?_⟩⟩⟩
        have := fin sm hfo' hys p1 hp1 p2 hp2
        have e : ((Tree.sz (.dbl t) : Nat) : Int) = 2 * (t.sz : Int) + 1 := by
          show ((2 * t.sz + 1 : Nat) : Int) = _
          omega
        rw [e] at this
        exact this
      | prod s0 t =>
        have b1 : s0.sz ≤ 1000 := ok.2.2.1
        have b2 : t.sz ≤ 1000 := ok.2.2.2.1
        have b3 : s0.sz * t.sz ≤ 1000 * 1000 := Nat.mul_le_mul b1 b2
        have e : ((Tree.sz (.prod s0 t) : Nat) : Int) = (s0.sz : Int) * (t.sz : Int) := Int.natCast_mul _ _
        refine ⟨_, rfl, av, _, 0, _, rfl, rfl, hs', it0, rfl, _, rfl, ifb (fun e => absurd (show decide (V.str "product" = V.str "double") = true from e) (by decide +kernel)) (fun _ => ?_)⟩
        refine ⟨_, rfl, so, _, 0, _, rfl, rfl, .of hso', atI_nat (j := 0) rfl, _, rfl, so, _, 1, _, rfl, rfl, .of hso', atI_nat (j := 1) rfl, _, _, rfl, rfl, .inl ⟨by omega, by omega⟩, ?_⟩
        have h30 : (10 : Int) ^ 30 = 1000000000000000000000000000000 := by decide +kernel
        have hle : (s0.sz : Int) * (t.sz : Int) ≤ 10 ^ 30 := by rw [← Int.natCast_mul]; omega
        refine ⟨_, rfl, _, _, rfl, rfl, rq hle, ?_⟩
        refine ⟨_, rfl, fo, _, rfl, .inl ⟨.of hfo', fun p1 hp1 => ⟨_, rfl, _, rfl, by show 3 ≤ sizeLine; decide, fun p2 hp2 => ?_⟩⟩⟩
        have := fin sm hfo' hys p1 hp1 p2 hp2
        rw [e] at this
        exact this
theorem part_b1 {f : Addr} {fd : FuncData} (F : FunD K "checked_part" "checked_part" (defArgs s_checked_part) (defBody s_checked_part) (defScope s_checked_part) [.int 1] [] f fd) : ∃ ds, Vals [V.int 1] ds ∧ Binds K fd ["tree", "depth"] ds :=
  F.binds1 1 0 (by simp) rfl fun T kV doc pm an cdv ct us its h1 h2 => by
    obtain ⟨u, rfl⟩ := List.length_eq_one_iff.mp h1
    obtain ⟨i, rfl⟩ := List.length_eq_one_iff.mp h2
    exact ⟨_, rfl, rfl⟩
theorem part_b2 {f : Addr} {fd : FuncData} (F : FunD K "checked_part" "checked_part" (defArgs s_checked_part) (defBody s_checked_part) (defScope s_checked_part) [.int 1] [] f fd) : ∃ ds, Vals ([] : List V) ds ∧ Binds K fd ["tree", "depth"] ds :=
  F.binds1 2 1 (by simp) rfl fun T kV doc pm an cdv ct us its h1 h2 => by
    obtain ⟨u, v, rfl⟩ : ∃ u v, us = [u, v] := by
      match us, h1 with
      | [u, v], _ => exact ⟨u, v, rfl⟩
    obtain ⟨i, rfl⟩ := List.length_eq_one_iff.mp h2
    exact ⟨_, rfl, rfl⟩
theorem ok_checked_part {f : Addr} {fd : FuncData} (F : FunD K "checked_part" "checked_part" (defArgs s_checked_part) (defBody s_checked_part) (defScope s_checked_part) [.int 1] [] f fd) (m : mg "checked_part" = some (.ref f)) (B : Blt mg) (G : Glo mg) (AR : Arms K w mg dA)
    (C_is_row : Cal P w K mg base CX0 1 "is_row" ["value"] [] (spIsRow K)) (C_require : Cal P w K mg base CX0 1 "require" ["holds"] [] spReq) (C_checked_leaf : Cal P w K mg base CX0 3 "checked_leaf" ["tree"] [] (spCLeaf K))
    (C_size_of : ∀ h, Cal P w K mg base CX0 (h + 1) "size_of" ["tree"] [] (spSize K h)) : ∀ h : Nat, FnOk P w K mg base CX0 (h + 3) f fd ["tree", "depth"] (spPart K h)
  | 0 => by
    have no : ∀ vs H Q E, ¬ spPart K 0 vs H Q E := fun vs H Q E h => by
      obtain ⟨t, v, d, _, _, hh, _⟩ := h
      have := ht_pos t
      omega
    exact ⟨fun vs H Q E h => absurd h (no vs H Q E), fun A outer s H args us vs Q E _ _ _ _ h => absurd h (no vs H Q E)⟩
  | h + 1 => by
    obtain ⟨ds, hv, hb⟩ := part_b2 F
    exact ok_part_one h F B G AR C_is_row C_require C_checked_leaf (C_size_of (h + 1)) ⟨f, fd, ds, ok_checked_part F m B G AR C_is_row C_require C_checked_leaf C_size_of h, m, F.kp, hb, hv⟩
/-! ### checked, size, is_system -/
abbrev N_checked : List Str := ["tree"]
abbrev s_checked : Stmt := top 19
theorem sc_checked : FnScope N_checked ["tree"] (defScope s_checked) := ⟨rfl, rfl, rfl, by decide +kernel, rfl, by decide +kernel, by decide +kernel⟩
def spChecked (K : PySem.W.Frag) : Sp := fun vs H Q _ => ∃ (t : Tree) (v : V), vs = [v] ∧ Ok t ∧ t.ht ≤ 3 ∧ Dp K H v (enc t) ∧ ∀ v' H', Same H H' → Dp K H' v' (enc t) → Q v' H'
theorem ok_checked {f : Addr} {fd : FuncData} (F : Fun K "checked" "checked" s_checked f fd) (C_checked_part1 : Cal P w K mg base CX0 6 "checked_part" ["tree", "depth"] [.int 1] (spPart K 3)) : FnOk P w K mg base CX0 7 f fd ["tree"] (spChecked K) := by
  refine F.ok sc_checked (fun vs H Q E h => ?_) (fun cdv A outer s H vs Q E hr h => ?_)
  · obtain ⟨t, v, rfl, _⟩ := h
    rfl
  obtain ⟨t, v, rfl, ok, hh, hd, q⟩ := h
  refine ⟨_, (pss_one (ps_ret (pe_ix (show IxR _ (rIxT K) from ix_tup) (pe_c (C_checked_part1.mono (by omega)) hr pass0 (pa_cons (pv 0) pa_nil)) pe_int (fun _ _ => rfl)))), ?_⟩
  refine ⟨_, rfl, t, v, 1, rfl, ok, hh, by decide, by omega, hd, fun v' H' s1 hd1 => ?_⟩
  obtain ⟨a, x, y, z, rfl, hs, e1, e2, e3⟩ := dp_tup3 hd1
  exact ⟨a, _, 0, _, rfl, rfl, hs, atI_nat (j := 0) rfl, q _ _ s1 e1⟩
abbrev N_size : List Str := ["tree"]
abbrev s_size : Stmt := top 23
theorem sc_size : FnScope N_size ["tree"] (defScope s_size) := ⟨rfl, rfl, rfl, by decide +kernel, rfl, by decide +kernel, by decide +kernel⟩
def spSizeTop (K : PySem.W.Frag) : Sp := fun vs H Q _ => ∃ (t : Tree) (v : V), vs = [v] ∧ Ok t ∧ t.ht ≤ 3 ∧ Dp K H v (enc t) ∧ ∀ H', Same H H' → Q (.int t.sz) H'
theorem ok_size {f : Addr} {fd : FuncData} (F : Fun K "size" "size" s_size f fd) (C_checked_part1 : Cal P w K mg base CX0 6 "checked_part" ["tree", "depth"] [.int 1] (spPart K 3)) : FnOk P w K mg base CX0 7 f fd ["tree"] (spSizeTop K) := by
  refine F.ok sc_size (fun vs H Q E h => ?_) (fun cdv A outer s H vs Q E hr h => ?_)
  · obtain ⟨t, v, rfl, _⟩ := h
    rfl
  obtain ⟨t, v, rfl, ok, hh, hd, q⟩ := h
  refine ⟨_, (pss_one (ps_ret (pe_ix (show IxR _ (rIxT K) from ix_tup) (pe_c (C_checked_part1.mono (by omega)) hr pass0 (pa_cons (pv 0) pa_nil)) pe_int (fun _ _ => rfl)))), ?_⟩
  refine ⟨_, rfl, t, v, 1, rfl, ok, hh, by decide, by omega, hd, fun v' H' s1 hd1 => ?_⟩
  obtain ⟨a, x, y, z, rfl, hs, e1, e2, e3⟩ := dp_tup3 hd1
  obtain rfl := dp_int e3
  exact ⟨a, _, 2, _, rfl, rfl, hs, atI_nat (j := 2) rfl, q _ s1⟩
abbrev N_is_system : List Str := ["tree"]
abbrev s_is_system : Stmt := top 22
theorem sc_is_system : FnScope N_is_system ["tree"] (defScope s_is_system) := ⟨rfl, rfl, rfl, by decide +kernel, rfl, by decide +kernel, by decide +kernel⟩
def spIsSystem (K : PySem.W.Frag) : Sp := fun vs H Q _ => ∃ (t : Tree) (v : V), vs = [v] ∧ Ok t ∧ t.ht ≤ 3 ∧ Dp K H v (enc t) ∧ ∀ H', Same H H' → Q (.bl true) H'
theorem ok_is_system {f : Addr} {fd : FuncData} (F : Fun K "is_system" "is_system" s_is_system f fd) (C_checked : Cal P w K mg base CX0 7 "checked" ["tree"] [] (spChecked K)) : FnOk P w K mg base CX0 8 f fd ["tree"] (spIsSystem K) := by
  refine F.ok sc_is_system (fun vs H Q E h => ?_) (fun cdv A outer s H vs Q E hr h => ?_)
  · obtain ⟨t, v, rfl, _⟩ := h
    rfl
  obtain ⟨t, v, rfl, ok, hh, hd, q⟩ := h
  refine ⟨_, (pss_cons (ps_try_thru0 (pss_one (ps_expr (pe_c (C_checked.mono (by omega)) hr pass0 (pa_cons (pv 0) pa_nil)))))
    (pss_one (ps_ret pe_bl))), ?_⟩
  exact ⟨_, rfl, t, v, rfl, ok, hh, hd, fun v' H' s1 hd1 => q _ s1⟩
end
end Pj
/-! checked_points, third, checked_small, listed. -/
namespace Pj
open PySem PySem.Spec PyProof.Rows L2 PjM
section
variable {P : Program} {w : World} {K : PySem.W.Frag} {mg : Str → Option Value} {base : Heap}
abbrev N_checked_points : List Str := ["tree", "points", "whole", "count", "point"]
abbrev s_checked_points : Stmt := top 37
theorem sc_checked_points : FnScope N_checked_points ["tree", "points"] (defScope s_checked_points) := ⟨rfl, rfl, rfl, by decide +kernel, rfl, by decide +kernel, by decide +kernel⟩
def spPoints (K : PySem.W.Frag) : Sp := fun vs H Q _ => ∃ (t : Tree) (v : V) (a : Addr) (ns : List Int), vs = [v, .ref a] ∧ Ok t ∧ t.ht ≤ 3 ∧ Dp K H v (enc t) ∧ SqT K H a (ns.map V.int) ∧ (∀ n ∈ ns, 0 ≤ n ∧ n < t.sz) ∧ ∀ v' H', Same H H' → Dp K H' v' (enc t) → Q v' H'
theorem ok_checked_points {f : Addr} {fd : FuncData} (F : Fun K "checked_points" "checked_points" s_checked_points f fd) (C_checked : Cal P w K mg base CX0 7 "checked" ["tree"] [] (spChecked K)) (C_size_of : Cal P w K mg base CX0 4 "size_of" ["tree"] [] (spSize K 3)) :
    FnOk P w K mg base CX0 8 f fd ["tree", "points"] (spPoints K) := by
  refine F.ok sc_checked_points (fun vs H Q E h => ?_) (fun cdv A outer s H vs Q E hr h => ?_)
  · obtain ⟨t, v, a, ns, rfl, _⟩ := h
    rfl
  obtain ⟨t, v, a, ns, rfl, ok, hh, hd, hs, hb, q⟩ := h
  refine ⟨_, PSs.nox (pss_cons (ps_set (i := 2) sc_checked_points.nd rfl (Or.inl rfl) (pe_c (C_checked.mono (by omega)) hr pass0 (pa_cons (pv 0) pa_nil)))
    (pss_cons (ps_set (i := 3) sc_checked_points.nd rfl (Or.inl rfl) (pe_c (C_size_of.mono (by omega)) hr pass0 (pa_cons (pv 2) pa_nil)))
    (pss_cons (ps_for PassesOwn.never rfl (pi_tup (pv 1)) (pg_name (i := 4) sc_checked_points.nd rfl (Or.inl rfl)) (pss_one (ps_if (pt_not (pt_chain op_le op_lt pe_int (pv 4) (pv 3))) (pss_one ps_never) pss_nil)))
    (pss_one (ps_ret (pv 2)))))), ?_⟩
  refine ⟨_, rfl, t, v, rfl, ok, hh, hd, fun v1 H1 s1 hd1 => ?_⟩
  refine ⟨_, rfl, t, v1, rfl, ok, hh, hd1, ?_⟩
  refine ⟨_, rfl, a, rfl, ⟨_, same_sqT s1 hs⟩, for_tup (xs := ns.map V.int) (fun i σ H' => ∃ y4, σ = [some v, some (.ref a), some v1, some (.int t.sz), y4] ∧ H' = H1) ⟨none, rfl, rfl⟩
    (fun i σ H' _ hp => by obtain ⟨_, _, rfl⟩ := hp; exact same_sqT s1 hs) (fun i x σ H' hi hp => ?_) (fun σ H' hp => ?_)⟩
  · obtain ⟨y4, rfl, rfl⟩ := hp
    rw [List.getElem?_map] at hi
    obtain ⟨n, en, rfl⟩ : ∃ n, ns[i]? = some n ∧ V.int n = x := by
      cases e : ns[i]? with
      | none => rw [e] at hi; cases hi
      | some n => rw [e] at hi; exact ⟨n, rfl, Option.some.inj hi⟩
    obtain ⟨n0, n1⟩ := hb n (List.mem_of_getElem? en)
    refine ⟨_, rfl, _, _, rfl, rfl, true, congrArg V.bl (decide_eq_true n0), iteT ⟨_, rfl, _, _, rfl, rfl, _, rfl, ifb (fun e => ?_) (fun e => ?_)⟩⟩
    · exact absurd e (by rw [decide_eq_true n1]; decide)
    · exact ⟨_, rfl, rfl⟩
  · obtain ⟨y4, rfl, rfl⟩ := hp
    exact ⟨_, rfl, q _ _ s1 hd1⟩
abbrev N_third : List Str := ["tree", "a", "b", "whole"]
abbrev s_third : Stmt := top 38
theorem sc_third : FnScope N_third ["tree", "a", "b"] (defScope s_third) := ⟨rfl, rfl, rfl, by decide +kernel, rfl, by decide +kernel, by decide +kernel⟩
def spThirdTop (K : PySem.W.Frag) : Sp := fun vs H Q _ => ∃ (t : Tree) (v : V) (a b : Int), vs = [v, .int a, .int b] ∧ Ok t ∧ t.ht ≤ 3 ∧ Dp K H v (enc t) ∧ (0 ≤ a ∧ a < t.sz ∧ 0 ≤ b ∧ b < t.sz ∧ a ≠ b) ∧ ∀ H', Same H H' → Q (.int (thd t a b)) H'
theorem ok_third {f : Addr} {fd : FuncData} (F : Fun K "third" "third" s_third f fd) (C_checked_points : Cal P w K mg base CX0 8 "checked_points" ["tree", "points"] [] (spPoints K)) (C_third_of : Cal P w K mg base CX0 12 "third_of" ["tree", "a", "b"] [] (spThird K 3)) :
    FnOk P w K mg base CX0 13 f fd ["tree", "a", "b"] (spThirdTop K) := by
  refine F.ok sc_third (fun vs H Q E h => ?_) (fun cdv A outer s H vs Q E hr h => ?_)
  · obtain ⟨t, v, a, b, rfl, _⟩ := h
    rfl
  obtain ⟨t, v, a, b, rfl, ok, hh, hd, ⟨a0, a1, b0, b1, hn⟩, q⟩ := h
  refine ⟨_, (pss_cons (ps_set (i := 3) sc_third.nd rfl (Or.inl rfl) (pe_c (C_checked_points.mono (by omega)) hr pass0 (pa_cons (pv 0) (pa_cons (pe_tup (pa_cons (pv 1) (pa_cons (pv 2) pa_nil))) pa_nil))))
    (pss_cons (ps_if (pt_cmpR op_eq (pv 1) (pv 2) (nomark _)) (pss_one ps_never) pss_nil)
    (pss_one (ps_ret (pe_c (C_third_of.mono (by omega)) hr pass0 (pa_cons (pv 3) (pa_cons (pv 1) (pa_cons (pv 2) pa_nil)))))))), ?_⟩
  refine ⟨_, rfl, _, rfl, _, rfl, by show 2 ≤ sizeLine; decide, fun p hp => ?_⟩
  have s1 : Same H (upd H p (.tup [.int a, .int b])) := same_new hp
  refine ⟨t, v, p, [a, b], rfl, ok, hh, dp_same s1 _ _ hd, .of upd_same, fun n hm => ?_, fun v1 H1 s2 hd1 => ?_⟩
  · rcases List.mem_cons.mp hm with rfl | hm
    · exact ⟨a0, a1⟩
    · obtain rfl := List.mem_singleton.mp hm
      exact ⟨b0, b1⟩
  refine ⟨_, rfl, _, rfl, rfl, _, rfl, ifb (fun e => absurd (vint_t e) hn) (fun _ => ?_)⟩
  exact ⟨_, rfl, _, rfl, _, rfl, t, v1, a, b, rfl, ok, hh, hd1, ⟨a0, a1, b0, b1, hn⟩, fun H2 s3 => q H2 ((s1.trans s2).trans s3)⟩
abbrev N_checked_small : List Str := ["tree", "whole"]
abbrev s_checked_small : Stmt := top 40
theorem sc_checked_small : FnScope N_checked_small ["tree"] (defScope s_checked_small) := ⟨rfl, rfl, rfl, by decide +kernel, rfl, by decide +kernel, by decide +kernel⟩
def spSmall (K : PySem.W.Frag) : Sp := fun vs H Q _ => ∃ (t : Tree) (v : V), vs = [v] ∧ Ok t ∧ t.ht ≤ 3 ∧ t.sz ≤ 60 ∧ Dp K H v (enc t) ∧ ∀ v' H', Same H H' → Dp K H' v' (enc t) → Q v' H'
theorem ok_checked_small {f : Addr} {fd : FuncData} (F : Fun K "checked_small" "checked_small" s_checked_small f fd) (G : Glo mg) (C_checked : Cal P w K mg base CX0 7 "checked" ["tree"] [] (spChecked K)) (C_size_of : Cal P w K mg base CX0 4 "size_of" ["tree"] [] (spSize K 3)) :
    FnOk P w K mg base CX0 8 f fd ["tree"] (spSmall K) := by
  refine F.ok sc_checked_small (fun vs H Q E h => ?_) (fun cdv A outer s H vs Q E hr h => ?_)
  · obtain ⟨t, v, rfl, _⟩ := h
    rfl
  obtain ⟨t, v, rfl, ok, hh, hz, hd, q⟩ := h
  refine ⟨_, (pss_cons (ps_set (i := 1) sc_checked_small.nd rfl (Or.inl rfl) (pe_c (C_checked.mono (by omega)) hr pass0 (pa_cons (pv 0) pa_nil)))
    (pss_cons (ps_if (pt_cmpR op_gt (pe_c (C_size_of.mono (by omega)) hr pass0 (pa_cons (pv 1) pa_nil)) (pe_gi G.MOST_LISTED) (nomark _)) (pss_one ps_never) pss_nil)
    (pss_one (ps_ret (pv 1))))), ?_⟩
  refine ⟨_, rfl, t, v, rfl, ok, hh, hd, fun v1 H1 s1 hd1 => ?_⟩
  refine ⟨_, rfl, t, v1, rfl, ok, hh, hd1, _, _, rfl, rfl, _, rfl, ifb (fun e => absurd (of_decide_eq_true e) (by omega)) (fun _ => ?_)⟩
  exact ⟨_, rfl, q _ _ s1 hd1⟩
theorem rowU_len (f : Int → Int → Int) (a : Int) (k : Nat) : (rowU f a k).length ≤ k := by
  unfold rowU
  rw [List.length_map]
  exact Nat.le_trans (List.length_filter_le _ _) (by rw [List.length_range]; exact Nat.le_refl _)
theorem colU_len (n : Nat) (f : Int → Int → Int) : ∀ i, (colU n f i).length ≤ i * n
  | 0 => by rw [colU_zero]; exact Nat.zero_le _
  | i + 1 => by
    rw [colU_succ, List.length_append, Nat.succ_mul]
    have := colU_len n f i
    have := rowU_len f (i : Int) (n - (i + 1))
    omega
abbrev N_listed : List Str := ["tree", "whole", "count", "found", "a", "b", "c"]
abbrev s_listed : Stmt := top 41
theorem sc_listed : FnScope N_listed ["tree"] (defScope s_listed) := ⟨rfl, rfl, rfl, by decide +kernel, rfl, by decide +kernel, by decide +kernel⟩
def encL (n : Nat) (T : List Tri) : PyData := enc (.listed n T)
def spListed (K : PySem.W.Frag) : Sp := fun vs H Q _ => ∃ (t : Tree) (v : V), vs = [v] ∧ Ok t ∧ t.ht ≤ 3 ∧ t.sz ≤ 60 ∧ Dp K H v (enc t) ∧ ∀ v' H', Same H H' → Dp K H' v' (encL t.sz (L t.sz (thd t))) → Q v' H'
theorem ok_listed {f : Addr} {fd : FuncData} (F : Fun K "listed" "listed" s_listed f fd) (B : Blt mg) (C_checked_small : Cal P w K mg base CX0 8 "checked_small" ["tree"] [] (spSmall K)) (C_size_of : Cal P w K mg base CX0 4 "size_of" ["tree"] [] (spSize K 3))
    (C_third_of : Cal P w K mg base CX0 12 "third_of" ["tree", "a", "b"] [] (spThird K 3)) : FnOk P w K mg base CX0 13 f fd ["tree"] (spListed K) := by
  refine F.ok sc_listed (fun vs H Q E h => ?_) (fun cdv A outer s H vs Q E hr h => ?_)
  · obtain ⟨t, v, rfl, _⟩ := h
    rfl
  obtain ⟨t, v, rfl, ok, hh, hz, hd, q⟩ := h
  refine ⟨_, PSs.nox (pss_cons (ps_set (i := 1) sc_listed.nd rfl (Or.inl rfl) (pe_c (C_checked_small.mono (by omega)) hr pass0 (pa_cons (pv 0) pa_nil)))
    (pss_cons (ps_set (i := 2) sc_listed.nd rfl (Or.inl rfl) (pe_c (C_size_of.mono (by omega)) hr pass0 (pa_cons (pv 1) pa_nil)))
    (pss_cons (ps_set (i := 3) sc_listed.nd rfl (Or.inl rfl) (pe_lst pa_nil))
    (pss_cons (ps_for PassesOwn.never rfl (pi_range1 (by rfl) B.range (pa_cons (pv 2) pa_nil)) (pg_name (i := 4) sc_listed.nd rfl (Or.inl rfl)) (pss_one (ps_for PassesOwn.never rfl (pi_range2 (by rfl) B.range (pa_cons (pe_op op_add (pv 4) pe_int) (pa_cons (pv 2) pa_nil))) (pg_name (i := 5) sc_listed.nd rfl (Or.inl rfl)) (pss_cons (ps_set (i := 6) sc_listed.nd rfl (Or.inl rfl) (pe_c (C_third_of.mono (by omega)) hr pass0 (pa_cons (pv 1) (pa_cons (pv 4) (pa_cons (pv 5) pa_nil)))))
    (pss_one (ps_if (pt_cmpR op_gt (pv 6) (pv 5) (nomark _)) (pss_one (ps_expr (pe_bm PySem.F.plainAttrs_list PySem.F.slot_list_append PySem.F.type_list_append mt_append (pv 3) (pa_cons (pe_tup (pa_cons (pv 4) (pa_cons (pv 5) (pa_cons (pv 6) pa_nil)))) pa_nil)))) pss_nil))))))
    (pss_one (ps_ret (pe_tup (pa_cons pe_str (pa_cons (pv 2) (pa_cons (pe_callTy (show CallR _ _ (rTupOf K) from call_tupOf) (by rfl) B.tuple (by decide +kernel) (pa_cons (pv 3) pa_nil)) pa_nil)))))))))), ?_⟩
  refine ⟨_, rfl, t, v, rfl, ok, hh, hz, hd, fun v1 H1 s1 hd1 => ?_⟩
  refine ⟨_, rfl, t, v1, rfl, ok, hh, hd1, ?_⟩
  have hp := sz_pos ok
  refine ⟨by show 0 ≤ sizeLine; decide, fun fo hfo => ?_⟩
  have hHfo : H fo = none := s1.free hfo
  have s2 : Same H (upd H1 fo (.lst [])) := s1.trans (same_new hfo)
  have hd2 : Dp K (upd H1 fo (.lst [])) v1 (enc t) := dp_same (same_new hfo) _ _ hd1
  have f2 : upd H1 fo (.lst []) fo = some (.lst []) := upd_same
  generalize upd H1 fo (.lst []) = H2 at *
  refine ⟨_, rfl, _, rfl, by omega, by omega, for_range (lo := 0) (n := t.sz) (fun i σ H' => ∃ y4 y5 y6, σ = [some v, some v1, some (.int t.sz), some (.ref fo), y4, y5, y6] ∧ Same H H' ∧ Dp K H' v1 (enc t) ∧ ∃ ys, H' fo = some (.lst ys) ∧ DpAll K H' ys ((colU t.sz (thd t) i).map eTri))
    ⟨none, none, none, rfl, s2, hd2, [], f2, .nil⟩ (fun i σ H' hi hp => ?_) (fun σ H' hp => ?_)⟩
  · obtain ⟨y4, y5, y6, rfl, sm, hdv, ys, hfo', hys⟩ := hp
    have e0 : (0 : Int) + (i : Int) = (i : Int) := by omega
    rw [e0]
    have ek : ((t.sz : Int) - ((i : Int) + 1)).toNat = t.sz - (i + 1) := by omega
    refine ⟨_, rfl, _, _, rfl, rfl, _, rfl, _, _, rfl, ⟨by omega, by omega, by omega, by omega⟩, for_range (lo := (i : Int) + 1) (n := ((t.sz : Int) - ((i : Int) + 1)).toNat) (fun j σ H' => ∃ y5 y6, σ = [some v, some v1, some (.int t.sz), some (.ref fo), some (.int i), y5, y6] ∧ Same H H' ∧ Dp K H' v1 (enc t) ∧
      ∃ ys, H' fo = some (.lst ys) ∧ DpAll K H' ys ((colU t.sz (thd t) i ++ rowU (thd t) (i : Int) j).map eTri)) ⟨y5, y6, rfl, sm, hdv, ys, hfo', by rw [rowU_zero, List.append_nil]; exact hys⟩ (fun j σ H' hj hp => ?_) (fun σ H' hp => ?_)⟩
    · obtain ⟨y5, y6, rfl, sm, hdv, ys, hfo', hys⟩ := hp
      refine ⟨_, rfl, _, rfl, _, rfl, t, v1, (i : Int), (i : Int) + 1 + (j : Int), rfl, ok, hh, hdv, ⟨by omega, by omega, by omega, by omega, by omega⟩, fun H3 s3 => ?_⟩
      have hfo3 := s3 _ _ hfo'
      have hdv3 := dp_same s3 _ _ hdv
      have hys3 := dps_same s3 _ _ hys
      have sm3 := sm.trans s3
      refine ⟨_, rfl, _, rfl, _, _, rfl, rfl, _, rfl, ifb (fun e => ?_) (fun e => ?_)⟩
      · have e' : (i : Int) + 1 + (j : Int) < thd t i ((i : Int) + 1 + (j : Int)) := of_decide_eq_true e
        refine ⟨_, rfl, .inl ⟨rfl, _, SqL.of hfo3⟩, _, rfl, _, rfl, _, rfl, by show 3 ≤ sizeLine; decide, fun pt hpt => ?_⟩
        have u5 := same_new (o := .tup [.int i, .int ((i : Int) + 1 + (j : Int)), .int (thd t i ((i : Int) + 1 + (j : Int)))]) hpt
        have hfo4 := u5 _ _ hfo3
        refine ⟨fo, ys, _, rfl, rfl, hfo4, ?_, ?_⟩
        · rw [dps_len hys3, List.length_map, List.length_append]
          have l1 := colU_len t.sz (thd t) i
          have l2 := rowU_len (thd t) (i : Int) j
          have l3 : i * t.sz ≤ 60 * 60 := Nat.mul_le_mul (by omega) hz
          exact Nat.lt_of_le_of_lt (by omega : _ ≤ 4000) (by decide)
        · refine ⟨_, _, rfl, same_mut (sm3.trans u5) hHfo, dp_mut (nt_lst hfo4) _ _ (tOnly_enc t) (dp_same u5 _ _ hdv3), _, upd_same, ?_⟩
          rw [rowU_yes e', ← List.append_assoc, List.map_append]
          exact dps_mut (nt_lst hfo4) _ _ (by rw [← List.map_append]; exact tOnlyAll_map eTri tOnly_tri _) (dps_snoc (dps_same u5 _ _ hys3) (dp_tri_of (t := ((i : Int), (i : Int) + 1 + (j : Int), thd t i ((i : Int) + 1 + (j : Int)))) (.of upd_same)))
      · have e' : ¬ (i : Int) + 1 + (j : Int) < thd t i ((i : Int) + 1 + (j : Int)) := of_decide_eq_false e
        exact ⟨_, _, rfl, sm3, hdv3, ys, hfo3, by rw [rowU_no e']; exact hys3⟩
    · obtain ⟨y5, y6, rfl, sm, hdv, ys, hfo', hys⟩ := hp
      rw [ek] at hys
      exact ⟨_, _, _, rfl, sm, hdv, ys, hfo', by rw [colU_succ]; exact hys⟩
  · obtain ⟨y4, y5, y6, rfl, sm, hdv, ys, hfo', hys⟩ := hp
    refine ⟨_, rfl, _, rfl, fo, ys, rfl, .inl ⟨.of hfo', fun p1 hp1 => ⟨by show 3 ≤ sizeLine; decide, fun p2 hp2 => q _ _ (sm.trans ((same_new hp1).trans (same_new hp2))) ?_⟩⟩⟩
    exact .tup (.of upd_same) (.cons (.str _) (.cons (.int _) (.cons (dp_same (same_new hp2) _ _ (.tup (.of upd_same) (dps_same (same_new hp1) _ _ hys))) .nil)))
end
end Pj
/-! are_names, check_names, renamed, turned_back, one_after_another, same_threes. -/
namespace Pj
open PySem PySem.Spec PyProof.Rows L2 PjM
/-! ### equality of data -/
theorem eqvs_ints : ∀ ns ms : List Int, PyData.eqvAll (ns.map PyData.int) (ms.map PyData.int) = decide (ns = ms)
  | [], [] => by simp [PyData.eqvAll]
  | [], m :: ms => by simp [PyData.eqvAll]
  | n :: ns, [] => by simp [PyData.eqvAll]
  | n :: ns, m :: ms => by
    show PyData.eqvAll (PyData.int n :: ns.map PyData.int) (PyData.int m :: ms.map PyData.int) = _
    rw [PyData.eqvAll, eqvs_ints ns ms, PyData.eqv]
    by_cases h : n = m <;> by_cases h' : ns = ms <;> simp [h, h']
theorem lay_ints : ∀ ns : List Int, PyData.canLayAll0 (ns.map PyData.int) = true
  | [] => by simp [PyData.canLayAll0]
  | n :: ns => by
    show PyData.canLayAll0 (PyData.int n :: ns.map PyData.int) = true
    rw [PyData.canLayAll0, lay_ints ns]
    rfl
theorem dep_ints : ∀ ns : List Int, PyData.depthAll (ns.map PyData.int) = 0
  | [] => rfl
  | n :: ns => by
    show PyData.depthAll (PyData.int n :: ns.map PyData.int) = 0
    rw [PyData.depthAll, dep_ints ns]
    rfl
theorem shaped_ints (ns : List Int) : SeqAt.shaped (.list (ns.map PyData.int)) = true := by
  unfold SeqAt.shaped
  rw [PyData.canLay0, lay_ints, PyData.depth, dep_ints]
  rfl
theorem lay_tri (t : Tri) : PyData.canLay0 (eTri t) = true := by
  show PyData.canLay0 (.tuple [.int t.1, .int t.2.1, .int t.2.2]) = true
  simp [PyData.canLay0, PyData.canLayAll0]
theorem lay_tris : ∀ T : List Tri, PyData.canLayAll0 (T.map eTri) = true
  | [] => by simp [PyData.canLayAll0]
  | t :: T => by
    show PyData.canLayAll0 (eTri t :: T.map eTri) = true
    rw [PyData.canLayAll0, lay_tris T, lay_tri]
    rfl
theorem dep_tri (t : Tri) : PyData.depth (eTri t) = 1 := rfl
theorem dep_tris : ∀ T : List Tri, PyData.depthAll (T.map eTri) ≤ 1
  | [] => by show 0 ≤ 1; decide
  | t :: T => by
    show PyData.depthAll (eTri t :: T.map eTri) ≤ 1
    rw [PyData.depthAll, dep_tri]
    exact Nat.max_le.mpr ⟨Nat.le_refl _, dep_tris T⟩
theorem shaped_encL (n : Nat) (T : List Tri) : SeqAt.shaped (encL n T) = true := by
  have h := dep_tris T
  have e1 : PyData.canLay0 (encL n T) = true := by
    show PyData.canLay0 (.tuple [.str "listed", .int n, .tuple (T.map eTri)]) = true
    simp only [PyData.canLay0, PyData.canLayAll0, lay_tris]
    decide +kernel
  have e2 : PyData.depth (encL n T) ≤ 64 := by
    show PyData.depth (.tuple [.str "listed", .int n, .tuple (T.map eTri)]) ≤ 64
    simp only [PyData.depth, PyData.depthAll]
    omega
  unfold SeqAt.shaped
  rw [e1, decide_eq_true e2]
  rfl
theorem eqv_encL (n : Nat) (T : List Tri) : PyData.eqv (encL n T) (encL n T) = true := by
  have e1 := shaped_encL n T
  exact SeqAt.eqv_refl _ (SeqAt.canLay_of_shaped e1)
/-- the error that is raised, at CQ -/
structure ExcQ (K : PySem.W.Frag) (mg : Str → Option Value) (CQ : Addr) : Prop where
  g : mg "InvalidQuestion" = some (.ref CQ)
  x : PySem.W.excIn K CQ [.type "ValueError", .type "Exception", .type "BaseException", .type "object"] "ValueError.__new__" = true
  k : PySem.W.keepIn K (.ref CQ) = true
  b : PySem.W.subIn K (.ref CQ) (.type "BaseException") = some true
  t : PySem.W.typeIn K (.ref CQ) = some (.type "type")
instance (n : Nat) (ns : List Int) : Decidable (Nm n ns) := inferInstanceAs (Decidable (ns.Perm (iota n)))
section
variable {P : Program} {w : World} {K : PySem.W.Frag} {mg : Str → Option Value} {base : Heap} {CQ : Addr}
abbrev N_are_names : List Str := ["names"]
abbrev s_are_names : Stmt := top 42
theorem sc_are_names : FnScope N_are_names ["names"] (defScope s_are_names) := ⟨rfl, rfl, rfl, by decide +kernel, rfl, by decide +kernel, by decide +kernel⟩
def spAre (K : PySem.W.Frag) : Sp := fun vs H Q _ => ∃ (a : Addr) (ns : List Int), vs = [.ref a] ∧ SqR K H a (ns.map V.int) ∧ ns.length ≤ 100 ∧ ∀ H', Same H H' → Q (.bl (decide (Nm ns.length ns))) H'
theorem rgV_iota (n : Nat) : rgV 0 (n : Int) = (iota n).map V.int := by
  unfold rgV iota
  rw [List.map_map]
  have e : ((n : Int) - 0).toNat = n := by omega
  rw [e]
  refine List.map_congr_left fun i _ => ?_
  show V.int (0 + (i : Int)) = V.int (i : Int)
  rw [Int.zero_add]
theorem ok_are_names {f : Addr} {fd : FuncData} (F : Fun K "are_names" "are_names" s_are_names f fd) (B : Blt mg) : FnOk P w K mg base CX0 1 f fd ["names"] (spAre K) := by
  refine F.ok sc_are_names (fun vs H Q E h => ?_) (fun cdv A outer s H vs Q E hr h => ?_)
  · obtain ⟨a, ns, rfl, _⟩ := h
    rfl
  obtain ⟨a, ns, rfl, hs, hl, q⟩ := h
  refine ⟨_, (pss_one (ps_ret (pe_cmpR (show OpR _ _ (rEqD K) from op_eqD hr.units) (pe_callB (show CallR _ _ (rSortD K) from cr_sortD hr) (by rfl) B.sorted (by decide +kernel) (pa_cons (pv 0) pa_nil)) (pe_listRg rfl (by rfl) B.list (prg_1 (by rfl) B.range (pe_callB (show CallR _ _ (rLenSq K) from call_lenSq) (by rfl) B.len (by decide +kernel) (pa_cons (pv 0) pa_nil)))) (nomark _)))), ?_⟩
  refine ⟨_, rfl, a, ns.map V.int, ns.map PyData.int, rfl, hs, dps_ints _, alike_is _, sortable_is _, depth_is, fun zs p hzp hzs hp0 => ?_⟩
  obtain ⟨ns', p1, p2, e1⟩ := sort_ints hzp hzs
  rw [e1]
  have s1 : Same H (upd H p (.lst (ns'.map V.int))) := same_new hp0
  refine ⟨_, rfl, a, _, rfl, hs.same s1, _, rfl, RgOk.of_le (by omega) ?_ (by omega) (by omega), fun p3 hp3 => ?_⟩
  · rw [List.length_map]
    omega
  rw [List.length_map, rgV_iota]
  have s2 := s1.trans (same_new (o := .lst ((iota ns.length).map V.int)) hp3)
  refine ⟨.list (ns'.map .int), .list ((iota ns.length).map .int), .lst (.of (same_new hp3 _ _ upd_same)) (dps_ints _), .lst (.of upd_same) (dps_ints _), shaped_ints _, shaped_ints _, ?_⟩
  have e : PyData.eqv (.list (ns'.map .int)) (.list ((iota ns.length).map .int)) = decide (Nm ns.length ns) := by
    rw [PyData.eqv, eqvs_ints]
    refine decide_eq_decide.mpr ⟨fun h => ?_, fun h => ile_uniq p2 (iota_le _) (p1.trans h)⟩
    rw [h] at p1
    exact p1.symm
  rw [e]
  exact q _ s2
abbrev N_check_names : List Str := ["names"]
abbrev s_check_names : Stmt := top 43
theorem sc_check_names : FnScope N_check_names ["names"] (defScope s_check_names) := ⟨rfl, rfl, rfl, by decide +kernel, rfl, by decide +kernel, by decide +kernel⟩
def spCheck (K : PySem.W.Frag) (CQ : Addr) : Sp := fun vs H Q E => ∃ (a : Addr) (ns : List Int), vs = [.ref a] ∧ SqR K H a (ns.map V.int) ∧ ns.length ≤ 100 ∧ (Nm ns.length ns → ∀ H', Same H H' → Q .non H') ∧ (¬ Nm ns.length ns → ∀ H', Same H H' → E (.ref CQ) none H')
theorem ok_check_names {f : Addr} {fd : FuncData} (F : Fun K "check_names" "check_names" s_check_names f fd) (XQ : ExcQ K mg CQ) (C_are_names : Cal P w K mg base CX0 1 "are_names" ["names"] [] (spAre K)) : FnOk P w K mg base (L2.CX P w) 2 f fd ["names"] (spCheck K CQ) := by
  refine F.okX sc_check_names (fun vs H Q E h => ?_) (fun cdv A outer s H vs Q E hr h => ?_)
  · obtain ⟨a, ns, rfl, _⟩ := h
    rfl
  obtain ⟨a, ns, rfl, hs, hl, q1, q2⟩ := h
  refine ⟨_, (pss_one (ps_if (pt_not (pt_val (pe_c (C_are_names.mono (by omega)) hr pass0 (pa_cons (pv 0) pa_nil)))) (pss_one (ps_raise rfl (takes_of rfl rfl rfl rfl) (pmk_own PySem.F.excBase_ValueError XQ.x XQ.g XQ.k (raises_own XQ.b XQ.t) (by exact rfl)))) pss_nil)), ?_⟩
  refine ⟨_, rfl, a, ns, rfl, hs, hl, fun H1 s1 => ⟨_, rfl, ifb (fun e => ?_) (fun e => ?_)⟩⟩
  · have e' : ¬ Nm ns.length ns := fun y => by
      rw [decide_eq_true y] at e
      cases e
    exact q2 e' H1 s1
  · have e' : Nm ns.length ns := Decidable.byContradiction fun y => by
      rw [decide_eq_false y] at e
      cases e
    exact q1 e' H1 s1
/-! ### renamed -/
theorem vne_t {a b : Int} (e : (!decide (V.int a = V.int b)) = true) : a ≠ b := fun z => by
  subst z
  simp at e
theorem vne_f {a b : Int} (e : (!decide (V.int a = V.int b)) = false) : a = b := by
  by_cases h : a = b
  · exact h
  · simp [h] at e
abbrev N_renamed : List Str := ["tree", "names", "whole", "threes", "three", "point"]
abbrev s_renamed : Stmt := top 44
theorem sc_renamed : FnScope N_renamed ["tree", "names"] (defScope s_renamed) := ⟨rfl, rfl, rfl, by decide +kernel, rfl, by decide +kernel, by decide +kernel⟩
def spRen (K : PySem.W.Frag) (CQ : Addr) : Sp := fun vs H Q E => ∃ (t : Tree) (v : V) (a : Addr) (ns : List Int), vs = [v, .ref a] ∧ Ok t ∧ t.ht ≤ 3 ∧ t.sz ≤ 60 ∧ Thd t.sz (thd t) ∧ Dp K H v (enc t) ∧ SqR K H a (ns.map V.int) ∧ ns.length ≤ 100 ∧
  (Nm t.sz ns → ∀ v' H', Same H H' → Dp K H' v' (encL t.sz (L t.sz (cj ns (thd t)))) → Q v' H') ∧ (¬ Nm t.sz ns → ∀ H', Same H H' → E (.ref CQ) none H')
/-- names[point] -/
theorem names_at {n : Nat} {ns : List Int} (h : Nm n ns) {i : Int} (h0 : 0 ≤ i) (h1 : i < n) : atI (ns.map V.int) i = some (V.int (pOf ns i)) := by
  obtain ⟨j, rfl⟩ : ∃ j : Nat, i = (j : Int) := ⟨i.toNat, by omega⟩
  refine atI_nat (j := j) ?_
  have := h.get h0 h1
  rw [List.getElem?_map]
  rw [show ((j : Int)).toNat = j from rfl] at this
  rw [this]
  rfl
theorem ok_renamed {f : Addr} {fd : FuncData} (F : Fun K "renamed" "renamed" s_renamed f fd) (B : Blt mg) (XQ : ExcQ K mg CQ) (C_listed : Cal P w K mg base CX0 13 "listed" ["tree"] [] (spListed K))
    (C_check_names : Cal P w K mg base (L2.CX P w) 2 "check_names" ["names"] [] (spCheck K CQ)) : FnOk P w K mg base (L2.CX P w) 14 f fd ["tree", "names"] (spRen K CQ) := by
  refine F.okX sc_renamed (fun vs H Q E h => ?_) (fun cdv A outer s H vs Q E hr h => ?_)
  · obtain ⟨t, v, a, ns, rfl, _⟩ := h
    rfl
  obtain ⟨t, v, a, ns, rfl, ok, hh, hz, hT, hd, hs, hl, q1, q2⟩ := h
  refine ⟨_, (pss_cons (ps_set (i := 2) sc_renamed.nd rfl (Or.inl rfl) (pe_c (C_listed.mono (by omega)) hr pass0 (pa_cons (pv 0) pa_nil)))
    (pss_cons (ps_if (pt_cmpR op_ne (pe_callB (show CallR _ _ (rLenSq K) from call_lenSq) (by rfl) B.len (by decide +kernel) (pa_cons (pv 1) pa_nil)) (pe_ix (show IxR _ (rIxT K) from ix_tup) (pv 2) pe_int (fun _ _ => rfl)) (nomark _)) (pss_one (ps_raise rfl (takes_of rfl rfl rfl rfl) (pmk_own PySem.F.excBase_ValueError XQ.x XQ.g XQ.k (raises_own XQ.b XQ.t) (by exact rfl)))) pss_nil)
    (pss_cons (ps_expr (pe_c (C_check_names.mono (by omega)) hr (passes_call (takes_of rfl rfl rfl rfl) (fun _ _ _ _ h => h)) (pa_cons (pv 1) pa_nil)))
    (pss_cons (ps_setLc (i := 3) (own := [("three", 4)]) (g := gName 4) rfl sc_renamed.nd rfl rfl (sw_true rfl rfl rfl (by decide +kernel)) (pi_tup (pe_ix (show IxR _ (rIxT K) from ix_tup) (pv 2) pe_int (fun _ _ => rfl))) (blkOk_by (N := N_renamed) (sc := defScope s_renamed) (by decide +kernel)) (fun _ _ _ _ _ => pg_name (i := 4) sc_renamed.nd rfl (Or.inl rfl)) (fun _ _ _ _ _ => pts_nil) (fun _ _ _ _ _ => (pe_callTy (show CallR _ _ (rTupOf K) from call_tupOf) (by rfl) B.tuple (by decide +kernel) (pa_cons (pe_callB (show CallR _ _ (rSortD K) from cr_sortD hr) (by rfl) B.sorted (by decide +kernel) (pa_cons (pe_lc (own := [("point", 5)]) (g := gName 5) rfl sc_renamed.nd (show PI _ _ _ (iTup K _) from pi_tup (pv 4)) (blkOk_by (N := N_renamed) (sc := { kind := .function, names := [(".0", .local), ("three", .local), ("tuple", .globalImplicit), ("sorted", .globalImplicit), ("names", .cell)], isGenerator := false, isCoroutine := false }) (by decide +kernel)) (fun _ _ _ _ _ => pg_name (i := 5) sc_renamed.nd rfl (Or.inl rfl)) (fun _ _ _ _ _ => pts_nil) (fun _ _ _ _ _ => (pe_ix (show IxR _ (rIxR K) from ix_row) (pv 1) (pv 5) (fun _ _ => rfl)))) pa_nil)) pa_nil))))
    (pss_one (ps_ret (pe_tup (pa_cons pe_str (pa_cons (pe_ix (show IxR _ (rIxT K) from ix_tup) (pv 2) pe_int (fun _ _ => rfl)) (pa_cons (pe_callTy (show CallR _ _ (rTupOf K) from call_tupOf) (by rfl) B.tuple (by decide +kernel) (pa_cons (pe_callB (show CallR _ _ (rSortD K) from cr_sortD hr) (by rfl) B.sorted (by decide +kernel) (pa_cons (pv 3) pa_nil)) pa_nil)) pa_nil)))))))))), ?_⟩
  refine ⟨_, rfl, t, v, rfl, ok, hh, hz, hd, fun v1 H1 s1 hd1 => ?_⟩
  obtain ⟨pw, x1, x2, x3, rfl, hsw, e1, e2, e3⟩ := dp_tup3 hd1
  obtain rfl := dp_str e1
  obtain rfl := dp_int e2
  obtain ⟨pT, xs, rfl, hsT, hdT⟩ := dp_tup e3
  have iw1 := atI_nat (xs := [V.str "listed", V.int t.sz, V.ref pT]) (j := 1) rfl
  have iw2 := atI_nat (xs := [V.str "listed", V.int t.sz, V.ref pT]) (j := 2) rfl
  refine ⟨_, rfl, a, _, rfl, hs.same s1, _, rfl, pw, _, 1, _, rfl, rfl, hsw, iw1, rfl, _, rfl, ifb (fun e => ?_) (fun e => ?_)⟩
  · exact q2 (fun y => vne_t e (by rw [List.length_map, y.len])) H1 s1
  have hln : ns.length = t.sz := by
    have := vne_f e
    rw [List.length_map] at this
    omega
  have hs1 := hs.same s1
  refine ⟨_, rfl, a, ns, rfl, hs1, hl, fun hn H2 s2 => ?_, fun hn H2 s2 => q2 (fun y => hn (by rw [hln]; exact y)) H2 (s1.trans s2)⟩
  rw [hln] at hn
  have hs2 := hs1.same s2
  have hsw2 := same_sqT s2 hsw
  have hsT2 := same_sqT s2 hsT
  have hdT2 := dps_same s2 _ _ hdT
  have hcnt : (L t.sz (thd t)).length ≤ 100000 := Nat.le_trans (colU_len _ _ _) (Nat.le_trans (Nat.mul_le_mul hz hz) (by decide))
  have hxl : xs.length = (L t.sz (thd t)).length := by rw [dps_len hdT, List.length_map]
  have hrl : (renT ns (L t.sz (thd t))).length = (L t.sz (thd t)).length := List.length_map _
  refine ⟨_, rfl, pw, _, 2, _, rfl, rfl, hsw2, iw2, lc_tup_dp (K := K) (a := pT) (xs := xs) hsT2 (by rw [hxl]; exact hcnt) (fun i => eTri ((renT ns (L t.sz (thd t))).getD i (0, 0, 0))) (fun _ => rfl) (fun D i x H3 zs hD s3 hD3 ex Q' hQ' => ?_) (fun D ys H3 hD s3 e3 hd3 => ?_)⟩
  · obtain ⟨u, ax, eu, rfl, hsx⟩ := tris_get hdT2 ex
    have hmem : u ∈ L t.sz (thd t) := List.mem_of_getElem? eu
    obtain ⟨t0, t1, t2, t3⟩ := mem_asc hT hmem
    have hsx3 := same_sqT s3 hsx
    have hs3 := hs2.same s3
    have eg : (renT ns (L t.sz (thd t))).getD i (0, 0, 0) = PjM.s3 (pOf ns u.1) (pOf ns u.2.1) (pOf ns u.2.2) := by
      unfold renT
      rw [List.getD_eq_getElem?_getD, List.getElem?_map, eu]
      rfl
    rw [eg] at hQ'
    refine ⟨_, rfl, lc_tup_dp (K := K) (a := ax) (xs := [.int u.1, .int u.2.1, .int u.2.2]) hsx3 (by show 3 ≤ 100000; decide) (fun j => .int ([pOf ns u.1, pOf ns u.2.1, pOf ns u.2.2].getD j 0)) (fun _ => rfl) (fun D2 j x H4 zs2 hD2 s4 hD4 ex2 Q2 hQ2 => ?_) (fun D2 ys2 H4 hD2 s4 e4 hd4 => ?_)⟩
    · obtain ⟨k, rfl, k0, k1, ek⟩ : ∃ k : Int, x = V.int k ∧ 0 ≤ k ∧ k < t.sz ∧ [pOf ns u.1, pOf ns u.2.1, pOf ns u.2.2].getD j 0 = pOf ns k := by
        match j, ex2 with
        | 0, ex => exact ⟨_, (Option.some.inj ex).symm, by omega, by omega, rfl⟩
        | 1, ex => exact ⟨_, (Option.some.inj ex).symm, by omega, by omega, rfl⟩
        | 2, ex => exact ⟨_, (Option.some.inj ex).symm, by omega, by omega, rfl⟩
        | _ + 3, ex => simp at ex
      rw [ek] at hQ2
      exact ⟨_, rfl, _, rfl, a, _, k, _, rfl, rfl, hs3.same s4, names_at hn k0 k1, hQ2 _ _ (.refl _) (.int _)⟩
    · have ev : ys2 = [pOf ns u.1, pOf ns u.2.1, pOf ns u.2.2].map V.int := dps_int_inv hd4
      rw [ev] at e4
      refine ⟨D2, [pOf ns u.1, pOf ns u.2.1, pOf ns u.2.2].map V.int, [pOf ns u.1, pOf ns u.2.1, pOf ns u.2.2].map PyData.int, rfl, .inl (.of e4), dps_ints _, alike_is _, sortable_is _, depth_is, fun zs3 p hzp hzs hp0 => ?_⟩
      rw [sort3 hzp hzs]
      refine ⟨p, _, rfl, .inl ⟨.of upd_same, fun p2 hp2 => hQ' _ _ (s4.trans ((same_new hp0).trans (same_new hp2))) ?_⟩⟩
      exact dp_tri_of (.of upd_same)
  · have ed : (List.range xs.length).map (fun i => eTri ((renT ns (L t.sz (thd t))).getD i (0, 0, 0))) = (renT ns (L t.sz (thd t))).map eTri := by
      rw [hxl, ← hrl]
      exact map_of_get fun i x ex => by rw [List.getD_eq_getElem?_getD, ex]; rfl
    rw [ed] at hd3
    have hsw3 := same_sqT s3 hsw2
    refine ⟨_, rfl, pw, _, 1, _, rfl, rfl, hsw3, iw1, ?_⟩
    refine ⟨_, rfl, D, ys, (renT ns (L t.sz (thd t))).map eTri, rfl, .inl (.of e3), hd3, alike_tris _, sortable_tris _, depth_tris, fun zs p hzp hzs hp0 => ?_⟩
    obtain ⟨R, r1, r2, r3⟩ := sort_tris hd3 hzp hzs
    have eR := ren_eq hT hn r1 r2
    subst eR
    refine ⟨p, _, rfl, .inl ⟨.of upd_same, fun p1 hp1 => ⟨by show 3 ≤ sizeLine; decide, fun p2 hp2 => q1 hn _ _ (((s1.trans s2).trans s3).trans ((same_new hp0).trans ((same_new hp1).trans (same_new hp2)))) ?_⟩⟩⟩
    exact .tup (.of upd_same) (.cons (.str _) (.cons (.int _) (.cons (dp_same (same_new hp2) _ _ (.tup (.of upd_same) (dps_same ((same_new hp0).trans (same_new hp1)) _ _ r3))) .nil)))
/-! ### turned_back -/
theorem for_enum {a : Addr} {xs : List V} {g : TG} {tb : TS} {D : Ends} {σ : L2.St} {H : Hp} (Pv : Nat → L2.St → Hp → Prop) (h0 : Pv 0 σ H) (hl : ∀ i σ H, i ≤ xs.length → Pv i σ H → SqL K H a xs)
    (hs : ∀ i x σ H T, xs[i]? = some x → Pv i σ H → H T = none → g (.ref T) σ (upd H T (.tup [.int (i : Nat), x])) fun σ2 H2 => tb { D with nx := Pv (i + 1), ct := Pv (i + 1), bk := D.nx } σ2 H2) (hd : ∀ σ H, Pv xs.length σ H → D.nx σ H) :
    ∃ W : Nat → Nat → L2.St → Hp → Prop, (∃ m, W 0 m σ H) ∧ ∀ i m σ H, W i m σ H →
      ((Ite K a).stop i H ∧ D.nx σ H) ∨ ((Ite K a).go i H ∧ ∃ N : L2.St → Hp → Prop, (∀ σ' H', N σ' H' → ∃ m', m' < m ∧ W (i + 1) m' σ' H') ∧ ∀ x H', (Ite K a).yld i H x H' → g x σ H' fun σ2 H2 => tb { D with nx := N, ct := N, bk := D.nx } σ2 H2) := by
  refine ⟨fun i m σ H => m = xs.length - i ∧ i ≤ xs.length ∧ Pv i σ H, ⟨xs.length, by simp, Nat.zero_le _, h0⟩, ?_⟩
  rintro i m σ H ⟨rfl, hi, p⟩
  have q := hl i σ H hi p
  by_cases hlt : i < xs.length
  · refine .inr ⟨⟨xs, xs[i], q, by simp [hlt]⟩, Pv (i + 1), fun σ' H' p' => ⟨xs.length - (i + 1), by omega, rfl, hlt, p'⟩, fun x H' y => ?_⟩
    obtain ⟨T, z, rfl, hT, rfl, y⟩ := y
    exact hs i z σ H T (y xs q) p hT
  · have e : i = xs.length := by omega
    subst e
    exact .inl ⟨⟨xs, q, Nat.le_refl _⟩, hd σ H p⟩
abbrev N_turned_back : List Str := ["names", "found", "point", "name"]
abbrev s_turned_back : Stmt := top 45
theorem sc_turned_back : FnScope N_turned_back ["names"] (defScope s_turned_back) := ⟨rfl, rfl, rfl, by decide +kernel, rfl, by decide +kernel, by decide +kernel⟩
def spBack (K : PySem.W.Frag) : Sp := fun vs H Q _ => ∃ (a : Addr) (n : Nat) (ns : List Int), vs = [.ref a] ∧ SqL K H a (ns.map V.int) ∧ Nm n ns ∧ n ≤ 60 ∧ ∀ zs, Nm n zs → cmpN ns zs = iota n → ∀ a' H', Same H H' → SqT K H' a' (zs.map V.int) → Q (.ref a') H'
theorem nth_set {zs : List Int} {i j : Nat} {x : Int} : (zs.set i x)[j]? = if i = j then (if i < zs.length then some x else none) else zs[j]? := by
  by_cases h : i = j
  · subst h
    rw [if_pos rfl]
    by_cases h' : i < zs.length
    · rw [if_pos h', List.getElem?_set_self h']
    · rw [if_neg h', List.getElem?_eq_none (by rw [List.length_set]; omega)]
  · rw [if_neg h, List.getElem?_set_ne h]
theorem ok_turned_back {f : Addr} {fd : FuncData} (F : Fun K "turned_back" "turned_back" s_turned_back f fd) (B : Blt mg) (C_check_names : Cal P w K mg base (L2.CX P w) 2 "check_names" ["names"] [] (spCheck K CQ)) : FnOk P w K mg base CX0 3 f fd ["names"] (spBack K) := by
  refine F.ok sc_turned_back (fun vs H Q E h => ?_) (fun cdv A outer s H vs Q E hr h => ?_)
  · obtain ⟨a, n, ns, rfl, _⟩ := h
    rfl
  obtain ⟨a, n, ns, rfl, hs, hn, h60, q⟩ := h
  have hl := hn.len
  refine ⟨_, PSs.nox (pss_cons (ps_expr (pe_c (C_check_names.mono (by omega)) hr passL (pa_cons (pv 0) pa_nil)))
    (pss_cons (ps_set (i := 1) sc_turned_back.nd rfl (Or.inl rfl) (pe_op op_rep (pe_lst (pa_cons pe_int pa_nil)) (pe_callB (show CallR _ _ (rLenSq K) from call_lenSq) (by rfl) B.len (by decide +kernel) (pa_cons (pv 0) pa_nil))))
    (pss_cons (ps_for PassesOwn.never rfl (pi_enum (by rfl) B.enumerate (pa_cons (pv 0) pa_nil)) (pg_tup rfl (pgs_cons (pg_name (i := 2) sc_turned_back.nd rfl (Or.inl rfl)) (pgs_cons (pg_name (i := 3) sc_turned_back.nd rfl (Or.inl rfl)) pgs_nil))) (pss_one (ps_asg (pv 2) (pg_sub (pv 1) (pv 3) set_list))))
    (pss_one (ps_ret (pe_callTy (show CallR _ _ (rTupOf K) from call_tupOf) (by rfl) B.tuple (by decide +kernel) (pa_cons (pv 1) pa_nil))))))), ?_⟩
  refine ⟨_, rfl, a, ns, rfl, .inl hs, by omega, fun _ H1 s1 => ?_, fun y => absurd (by rw [hl]; exact hn) y⟩
  have hs1 := s1.seq hs
  refine ⟨by show 1 ≤ sizeLine; decide, fun p0 hp0 => ?_⟩
  have s2 := s1.trans (same_new (o := .lst [.int 0]) hp0)
  refine ⟨_, rfl, a, _, rfl, .inl (s2.seq hs), p0, _, _, rfl, rfl, upd_same, by rw [List.length_map]; omega, by rw [List.length_map]; omega, ?_, fun fo hfo => ?_⟩
  · show 1 * _ ≤ sizeLine
    rw [List.length_map, Nat.one_mul]
    exact Nat.le_trans (by omega : _ ≤ 60) (by decide)
  have hHfo : H fo = none := s2.free hfo
  have e0 : (List.replicate ((ns.map V.int).length : Int).toNat [V.int 0]).flatten = (List.replicate n (0 : Int)).map V.int := by
    rw [List.length_map, hl]
    show (List.replicate n [V.int 0]).flatten = _
    rw [List.map_replicate]
    clear hn h60 q hl
    induction n with
    | zero => rfl
    | succ n ih => rw [List.replicate_succ, List.flatten_cons, ih]; rfl
  rw [e0]
  have s3 := s2.trans (same_new (o := .lst ((List.replicate n (0 : Int)).map V.int)) hfo)
  refine ⟨_, rfl, a, _, rfl, s3.seq hs, for_enum (xs := ns.map V.int) (fun i σ H' => ∃ y2 y3 zs, σ = [some (.ref a), some (.ref fo), y2, y3] ∧ Same H H' ∧ H' fo = some (.lst (zs.map V.int)) ∧ zs.length = n ∧ ∀ j : Int, 0 ≤ j → j < i → zs[(pOf ns j).toNat]? = some j)
    ⟨none, none, List.replicate n 0, rfl, s3, upd_same, List.length_replicate, fun j h h' => absurd h' (by omega)⟩ (fun i σ H' _ hp => by obtain ⟨_, _, _, _, sm, _⟩ := hp; exact sm.seq hs) (fun i x σ H' T hi hp hT => ?_) (fun σ H' hp => ?_)⟩
  · obtain ⟨y2, y3, zs, rfl, sm, hfo', hzl, hz⟩ := hp
    have hin : i < n := by
      have := (List.getElem?_eq_some_iff.mp hi).1
      rw [List.length_map, hl] at this
      exact this
    have ex : x = V.int (pOf ns i) := by
      have e1 := hn.get (i := (i : Int)) (by omega) (by omega)
      rw [List.getElem?_map, show ns[i]? = some (pOf ns i) from e1] at hi
      exact (Option.some.inj hi).symm
    subst ex
    obtain ⟨p1, p2⟩ := hn.p (i := (i : Int)) (by omega) (by omega)
    have u1 := same_new (o := .tup [.int (i : Nat), .int (pOf ns i)]) hT
    have hfo1 := u1 _ _ hfo'
    have hix : ixN (zs.map V.int).length (pOf ns i) = some (pOf ns i).toNat := by
      unfold ixN
      rw [List.length_map, if_pos p1, if_pos (by omega)]
    refine ⟨T, _, rfl, .of upd_same, rfl, _, _, rfl, _, _, rfl, rfl, ?_⟩
    refine ⟨_, rfl, _, rfl, _, rfl, fo, _, _, _, rfl, rfl, hfo1, hix, ?_⟩
    refine ⟨_, _, zs.set (pOf ns i).toNat (i : Int), rfl, same_mut (sm.trans u1) hHfo, by rw [upd_same, List.map_set], by rw [List.length_set, hzl], fun j j0 j1 => ?_⟩
    rw [nth_set]
    by_cases ej : j = (i : Int)
    · subst ej
      rw [if_pos rfl, if_pos (by omega)]
    · have hne : ¬ (pOf ns i).toNat = (pOf ns j).toNat := fun z => by
        obtain ⟨r1, r2⟩ := hn.p (i := j) j0 (by omega)
        exact ej (hn.inj j0 (by omega) (by omega) (by omega) (by omega))
      rw [if_neg hne]
      exact hz j j0 (by omega)
  · obtain ⟨y2, y3, zs, rfl, sm, hfo', hzl, hz⟩ := hp
    rw [List.length_map, hl] at hz
    obtain ⟨b1, b2⟩ := back_nm hn hzl hz
    exact ⟨_, rfl, fo, _, rfl, .inl ⟨.of hfo', fun p1 hp1 => q zs b1 b2 _ _ (sm.trans (same_new hp1)) (.of upd_same)⟩⟩
/-! ### one_after_another -/
abbrev N_one_after_another : List Str := ["first", "second", "name"]
abbrev s_one_after_another : Stmt := top 46
theorem sc_one_after_another : FnScope N_one_after_another ["first", "second"] (defScope s_one_after_another) := ⟨rfl, rfl, rfl, by decide +kernel, rfl, by decide +kernel, by decide +kernel⟩
def spAfter (K : PySem.W.Frag) : Sp := fun vs H Q _ => ∃ (a b : Addr) (n : Nat) (ns ms : List Int), vs = [.ref a, .ref b] ∧ SqL K H a (ns.map V.int) ∧ SqR K H b (ms.map V.int) ∧ Nm n ns ∧ Nm n ms ∧ n ≤ 60 ∧ ∀ a' H', Same H H' → SqT K H' a' ((cmpN ns ms).map V.int) → Q (.ref a') H'
theorem ok_one_after_another {f : Addr} {fd : FuncData} (F : Fun K "one_after_another" "one_after_another" s_one_after_another f fd) (B : Blt mg) (C_check_names : Cal P w K mg base (L2.CX P w) 2 "check_names" ["names"] [] (spCheck K CQ)) : FnOk P w K mg base CX0 3 f fd ["first", "second"] (spAfter K) := by
  refine F.ok sc_one_after_another (fun vs H Q E h => ?_) (fun cdv A outer s H vs Q E hr h => ?_)
  · obtain ⟨a, b, n, ns, ms, rfl, _⟩ := h
    rfl
  obtain ⟨a, b, n, ns, ms, rfl, hs, hb, hn, hm, h60, q⟩ := h
  have hl := hn.len
  have hl2 := hm.len
  refine ⟨_, (pss_cons (ps_expr (pe_c (C_check_names.mono (by omega)) hr passL (pa_cons (pv 0) pa_nil)))
    (pss_cons (ps_expr (pe_c (C_check_names.mono (by omega)) hr passL (pa_cons (pv 1) pa_nil)))
    (pss_cons (ps_if (pt_cmpR op_ne (pe_callB (show CallR _ _ (rLenSq K) from call_lenSq) (by rfl) B.len (by decide +kernel) (pa_cons (pv 0) pa_nil)) (pe_callB (show CallR _ _ (rLenSq K) from call_lenSq) (by rfl) B.len (by decide +kernel) (pa_cons (pv 1) pa_nil)) (nomark _)) (pss_one ps_never) pss_nil)
    (pss_one (ps_ret (pe_callTy (show CallR _ _ (rTupOf K) from call_tupOf) (by rfl) B.tuple (by decide +kernel) (pa_cons (pe_lc (own := [("name", 2)]) (g := gName 2) rfl sc_one_after_another.nd (pi_list (pv 0)) (blkOk_by (N := N_one_after_another) (sc := defScope s_one_after_another) (by decide +kernel)) (fun _ _ _ _ _ => pg_name (i := 2) sc_one_after_another.nd rfl (Or.inl rfl)) (fun _ _ _ _ _ => pts_nil) (fun _ _ _ _ _ => (pe_ix (show IxR _ (rIxR K) from ix_row) (pv 1) (pv 2) (fun _ _ => rfl)))) pa_nil))))))), ?_⟩
  refine ⟨_, rfl, a, ns, rfl, .inl hs, by omega, fun _ H1 s1 => ?_, fun y => absurd (by rw [hl]; exact hn) y⟩
  refine ⟨_, rfl, b, ms, rfl, hb.same s1, by omega, fun _ H2 s2 => ?_, fun y => absurd (by rw [hl2]; exact hm) y⟩
  have s12 := s1.trans s2
  refine ⟨_, rfl, a, _, rfl, .inl (s12.seq hs), _, rfl, b, _, rfl, hb.same s12, rfl, _, rfl, ifb (fun e => absurd (vne_t e) (fun z => z (by rw [List.length_map, List.length_map, hl, hl2]))) (fun _ => ?_)⟩
  refine ⟨_, rfl, lc_lst_dp (K := K) (a := a) (xs := ns.map V.int) (s12.seq hs) (by rw [List.length_map]; omega) (fun i => .int ((cmpN ns ms).getD i 0)) (fun _ => rfl) (fun D i x H3 zs hD s3 hD3 ex Q' hQ' => ?_) (fun D ys H3 hD s3 e3 hd3 => ?_)⟩
  · have hin : i < n := by
      have := (List.getElem?_eq_some_iff.mp ex).1
      rw [List.length_map, hl] at this
      exact this
    have e1 := hn.get (i := (i : Int)) (by omega) (by omega)
    have ex' : x = V.int (pOf ns i) := by
      rw [List.getElem?_map, show ns[i]? = some (pOf ns i) from e1] at ex
      exact (Option.some.inj ex).symm
    subst ex'
    obtain ⟨p1, p2⟩ := hn.p (i := (i : Int)) (by omega) (by omega)
    have eg : (cmpN ns ms).getD i 0 = pOf ms (pOf ns i) := by
      unfold cmpN
      rw [List.getD_eq_getElem?_getD, List.getElem?_map, show ns[i]? = some (pOf ns i) from e1]
      rfl
    rw [eg] at hQ'
    exact ⟨_, rfl, _, rfl, b, _, _, _, rfl, rfl, (hb.same s12).same s3, names_at hm p1 p2, hQ' _ _ (.refl _) (.int _)⟩
  · have ed : (List.range (ns.map V.int).length).map (fun i => PyData.int ((cmpN ns ms).getD i 0)) = (cmpN ns ms).map PyData.int := by
      have e : (ns.map V.int).length = (cmpN ns ms).length := by unfold cmpN; rw [List.length_map, List.length_map]
      rw [e]
      exact map_of_get fun i x ex => by rw [List.getD_eq_getElem?_getD, ex]; rfl
    rw [ed] at hd3
    rw [dps_int_inv hd3] at e3
    exact ⟨D, _, rfl, .inl ⟨.of e3, fun p1 hp1 => q _ _ ((s12.trans s3).trans (same_new hp1)) (.of upd_same)⟩⟩
/-! ### same_threes -/
abbrev N_same_threes : List Str := ["one", "other"]
abbrev s_same_threes : Stmt := top 47
theorem sc_same_threes : FnScope N_same_threes ["one", "other"] (defScope s_same_threes) := ⟨rfl, rfl, rfl, by decide +kernel, rfl, by decide +kernel, by decide +kernel⟩
def spSame (K : PySem.W.Frag) : Sp := fun vs H Q _ => ∃ (t u : Tree) (v z : V), vs = [v, z] ∧ (Ok t ∧ t.ht ≤ 3 ∧ t.sz ≤ 60 ∧ Dp K H v (enc t)) ∧ (Ok u ∧ u.ht ≤ 3 ∧ u.sz ≤ 60 ∧ Dp K H z (enc u)) ∧ t.sz = u.sz ∧ L t.sz (thd t) = L t.sz (thd u) ∧ ∀ H', Same H H' → Q (.bl true) H'
theorem ok_same_threes {f : Addr} {fd : FuncData} (F : Fun K "same_threes" "same_threes" s_same_threes f fd) (C_listed : Cal P w K mg base CX0 13 "listed" ["tree"] [] (spListed K)) : FnOk P w K mg base CX0 14 f fd ["one", "other"] (spSame K) := by
  refine F.ok sc_same_threes (fun vs H Q E h => ?_) (fun cdv A outer s H vs Q E hr h => ?_)
  · obtain ⟨t, u, v, z, rfl, _⟩ := h
    rfl
  obtain ⟨t, u, v, z, rfl, ⟨o1, o2, o3, o4⟩, ⟨r1, r2, r3, r4⟩, e1, e2, q⟩ := h
  refine ⟨_, (pss_one (ps_ret (pe_cmpR (show OpR _ _ (rEqD K) from op_eqD hr.units) (pe_c (C_listed.mono (by omega)) hr pass0 (pa_cons (pv 0) pa_nil)) (pe_c (C_listed.mono (by omega)) hr pass0 (pa_cons (pv 1) pa_nil)) (nomark _)))), ?_⟩
  refine ⟨_, rfl, t, v, rfl, o1, o2, o3, o4, fun v1 H1 s1 hd1 => ⟨_, rfl, u, z, rfl, r1, r2, r3, dp_same s1 _ _ r4, fun v2 H2 s2 hd2 => ?_⟩⟩
  rw [← e1, ← e2] at hd2
  refine ⟨_, _, dp_same s2 _ _ hd1, hd2, shaped_encL _ _, shaped_encL _ _, ?_⟩
  rw [eqv_encL]
  exact q _ (s1.trans s2)
end
end Pj
/-! The written form: texts of numbers, lines, their splitting. -/
namespace Pj
open PySem PySem.Spec PyProof.Rows L2 PjM TL
def wd (i : Int) : Str := toString i
/-- the signs of a written number -/
def numW (z : Str) : Bool := decide (1 ≤ z.length) && decide (z.length ≤ 31) && z.cps.toList.all (fun c => decide (c ∈ ("0123456789" : Str).cps.toList)) && (decide (z = "0") || !decide (z.cps.toList.head? = some 48))
def goodW (z : Str) : Bool := decide (z.length ≤ 20) && !decide (32 ∈ tl z) && !decide (10 ∈ tl z)
theorem wd_facts : ∀ k ∈ List.range 61, (numW (wd (k : Nat)) && decide (PySem.intText? (wd (k : Nat)) = some (k : Int)) && goodW (wd (k : Nat))) = true := by decide +kernel
structure WdF (i : Int) : Prop where
  num : numW (wd i) = true
  int : PySem.intText? (wd i) = some i
  len : (wd i).length ≤ 20
  sp : 32 ∉ tl (wd i)
  nl : 10 ∉ tl (wd i)
theorem wdF {i : Int} (h0 : 0 ≤ i) (h1 : i ≤ 60) : WdF i := by
  obtain ⟨k, rfl⟩ : ∃ k : Nat, i = (k : Int) := ⟨i.toNat, by omega⟩
  have h := wd_facts k (List.mem_range.mpr (by omega))
  simp only [Bool.and_eq_true, decide_eq_true_eq] at h
  obtain ⟨⟨h1, h2⟩, h3⟩ := h
  unfold goodW at h3
  simp only [Bool.and_eq_true, decide_eq_true_eq, Bool.not_eq_true', decide_eq_false_iff_not] at h3
  exact ⟨h1, h2, h3.1.1, h3.1.2, h3.2⟩
theorem mem_joinL {S : List Nat} {c : Nat} : ∀ {ps : List (List Nat)}, c ∈ joinL S ps → c ∈ S ∨ ∃ p ∈ ps, c ∈ p
  | [], h => by cases h
  | [p], h => .inr ⟨p, List.mem_cons_self, h⟩
  | p :: q :: r, h => by
    have h' : c ∈ p ++ (S ++ joinL S (q :: r)) := h
    rcases List.mem_append.mp h' with h | h
    · exact .inr ⟨p, List.mem_cons_self, h⟩
    · rcases List.mem_append.mp h with h | h
      · exact .inl h
      · rcases mem_joinL h with h | ⟨x, hx, hc⟩
        · exact .inl h
        · exact .inr ⟨x, List.mem_cons_of_mem _ hx, hc⟩
theorem len_joinL {S : List Nat} : ∀ {ps : List (List Nat)}, (joinL S ps).length ≤ (ps.map List.length).sum + ps.length * S.length
  | [] => Nat.zero_le _
  | [p] => by
    show p.length ≤ p.length + 0 + 1 * S.length
    omega
  | p :: q :: r => by
    show (p ++ (S ++ joinL S (q :: r))).length ≤ _
    have ih := @len_joinL S (q :: r)
    have e1 : ((p :: q :: r).map List.length).sum = p.length + ((q :: r).map List.length).sum := rfl
    have e2 : (p :: q :: r).length * S.length = (q :: r).length * S.length + S.length := Nat.succ_mul _ _
    rw [List.length_append, List.length_append, e1, e2]
    omega
theorem tl_txt (y : Str) (parts : List Str) : tl (Txt.join y parts) = joinL (tl y) (parts.map tl) := by rw [join_eq, tl_join]
theorem not_mem_txt {c : Nat} {y : Str} {parts : List Str} (h : c ∉ tl y) (hp : ∀ p ∈ parts, c ∉ tl p) : c ∉ tl (Txt.join y parts) := fun hm => by
  rw [tl_txt] at hm
  rcases mem_joinL hm with h' | ⟨x, hx, hc⟩
  · exact h h'
  · obtain ⟨p, hp', rfl⟩ := List.mem_map.mp hx
    exact hp p hp' hc
theorem len_txt (y : Str) (parts : List Str) : (Txt.join y parts).length ≤ (parts.map (·.length)).sum + parts.length * y.length := by
  rw [len_tl, tl_txt]
  refine Nat.le_trans len_joinL ?_
  rw [List.length_map, List.map_map]
  have e1 : parts.map (List.length ∘ tl) = parts.map (·.length) := List.map_congr_left fun p _ => (len_tl p).symm
  rw [e1, len_tl y]
  exact Nat.le_refl _
def lnHead (n : Nat) : Str := Txt.join " " ["listed", wd n]
def lnTri (t : Tri) : Str := Txt.join " " ["three", wd t.1, wd t.2.1, wd t.2.2]
def lnsOf (n : Nat) (T : List Tri) : List Str := lnHead n :: T.map lnTri
def text (n : Nat) (T : List Tri) : Str := Txt.join "\n" ("system" :: lnsOf n T)
/-- threes of points below 60 -/
def TriOk (T : List Tri) : Prop := ∀ t ∈ T, (0 ≤ t.1 ∧ t.1 ≤ 60) ∧ (0 ≤ t.2.1 ∧ t.2.1 ≤ 60) ∧ 0 ≤ t.2.2 ∧ t.2.2 ≤ 60
theorem tl_sp : tl " " = [32] := by decide +kernel
theorem tl_nl : tl "\n" = [10] := by decide +kernel
theorem split_words {parts : List Str} (hne : parts ≠ []) (hp : ∀ p ∈ parts, 32 ∉ tl p) : Txt.split (Txt.join " " parts) " " = parts := split_join tl_sp (by decide +kernel) hne hp
theorem w_head {n : Nat} (h : n ≤ 60) : ∀ p ∈ (["listed", wd n] : List Str), 32 ∉ tl p ∧ 10 ∉ tl p ∧ p.length ≤ 20 := by
  have f := wdF (i := (n : Int)) (by omega) (by omega)
  intro p hp
  rcases List.mem_cons.mp hp with rfl | hp
  · exact ⟨by decide +kernel, by decide +kernel, by decide +kernel⟩
  · obtain rfl := List.mem_singleton.mp hp
    exact ⟨f.sp, f.nl, f.len⟩
theorem w_tri {T : List Tri} (h : TriOk T) {t : Tri} (ht : t ∈ T) : ∀ p ∈ (["three", wd t.1, wd t.2.1, wd t.2.2] : List Str), 32 ∉ tl p ∧ 10 ∉ tl p ∧ p.length ≤ 20 := by
  obtain ⟨h1, h2, h3⟩ := h t ht
  have f1 := wdF h1.1 h1.2
  have f2 := wdF h2.1 h2.2
  have f3 := wdF h3.1 h3.2
  intro p hp
  rcases List.mem_cons.mp hp with rfl | hp
  · exact ⟨by decide +kernel, by decide +kernel, by decide +kernel⟩
  · rcases List.mem_cons.mp hp with rfl | hp
    · exact ⟨f1.sp, f1.nl, f1.len⟩
    · rcases List.mem_cons.mp hp with rfl | hp
      · exact ⟨f2.sp, f2.nl, f2.len⟩
      · obtain rfl := List.mem_singleton.mp hp
        exact ⟨f3.sp, f3.nl, f3.len⟩
theorem split_head {n : Nat} (h : n ≤ 60) : Txt.split (lnHead n) " " = (["listed", wd n] : List Str) := split_words (by simp) fun p hp => (w_head h p hp).1
theorem split_tri {T : List Tri} (h : TriOk T) {t : Tri} (ht : t ∈ T) : Txt.split (lnTri t) " " = (["three", wd t.1, wd t.2.1, wd t.2.2] : List Str) := split_words (by simp) fun p hp => (w_tri h ht p hp).1
theorem join_one (y x : Str) : Txt.join y [x] = x := by rw [join_eq]; rfl
theorem split_sys : Txt.split "system" " " = (["system"] : List Str) := by
  have h := split_words (parts := ["system"]) (by simp) fun p hp => by
    obtain rfl := List.mem_singleton.mp hp
    decide +kernel
  rw [join_one] at h
  exact h
theorem len_lines {n : Nat} {T : List Tri} (h : n ≤ 60) (hT : TriOk T) : ∀ p ∈ ("system" :: lnsOf n T : List Str), 10 ∉ tl p ∧ p.length ≤ 100 := by
  intro p hp
  rcases List.mem_cons.mp hp with rfl | hp
  · exact ⟨by decide +kernel, by decide +kernel⟩
  rcases List.mem_cons.mp hp with rfl | hp
  · refine ⟨not_mem_txt (by rw [tl_sp]; decide) fun p hp => (w_head h p hp).2.1, Nat.le_trans (len_txt _ _) ?_⟩
    have f := (w_head h _ (List.mem_cons_of_mem _ List.mem_cons_self)).2.2
    show ("listed" : Str).length + ((wd n).length + 0) + 2 * (" " : Str).length ≤ 100
    have e1 : ("listed" : Str).length = 6 := by decide +kernel
    have e2 : (" " : Str).length = 1 := by decide +kernel
    rw [e1, e2]
    omega
  · obtain ⟨t, ht, rfl⟩ := List.mem_map.mp hp
    refine ⟨not_mem_txt (by rw [tl_sp]; decide) fun p hp => (w_tri hT ht p hp).2.1, Nat.le_trans (len_txt _ _) ?_⟩
    have f1 := (w_tri hT ht (wd t.1) (by simp)).2.2
    have f2 := (w_tri hT ht (wd t.2.1) (by simp)).2.2
    have f3 := (w_tri hT ht (wd t.2.2) (by simp)).2.2
    show ("three" : Str).length + ((wd t.1).length + ((wd t.2.1).length + ((wd t.2.2).length + 0))) + 4 * (" " : Str).length ≤ 100
    have e1 : ("three" : Str).length = 5 := by decide +kernel
    have e2 : (" " : Str).length = 1 := by decide +kernel
    rw [e1, e2]
    omega
theorem sum_le {l : List Str} {b : Nat} (h : ∀ p ∈ l, p.length ≤ b) : (l.map (·.length)).sum ≤ l.length * b := by
  induction l with
  | nil => exact Nat.zero_le _
  | cons x r ih =>
    have h1 := h x List.mem_cons_self
    have h2 := ih fun p hp => h p (List.mem_cons_of_mem _ hp)
    show x.length + (r.map (·.length)).sum ≤ (r.length + 1) * b
    rw [Nat.succ_mul]
    omega
theorem lines_fit {n : Nat} {T : List Tri} (h : n ≤ 60) (hT : TriOk T) (hl : T.length ≤ 1000) : (("system" :: lnsOf n T : List Str).map (·.length)).sum + ("system" :: lnsOf n T : List Str).length * ("\n" : Str).length ≤ 200000 := by
  have h1 := sum_le fun p hp => (len_lines h hT p hp).2
  have e : ("system" :: lnsOf n T : List Str).length = T.length + 2 := by
    show (T.map lnTri).length + 1 + 1 = _
    rw [List.length_map]
  have e2 : ("\n" : Str).length = 1 := by decide +kernel
  rw [e] at h1
  rw [e, e2]
  omega
theorem text_len {n : Nat} {T : List Tri} (h : n ≤ 60) (hT : TriOk T) (hl : T.length ≤ 1000) : (text n T).length ≤ 200000 := Nat.le_trans (len_txt _ _) (lines_fit h hT hl)
theorem split_text {n : Nat} {T : List Tri} (h : n ≤ 60) (hT : TriOk T) : Txt.split (text n T) "\n" = ("system" :: lnsOf n T : List Str) := split_join tl_nl (by decide +kernel) (by simp) fun p hp => (len_lines h hT p hp).1
/-- the words of the lines -/
def wrds (n : Nat) (T : List Tri) : List (List Str) := ["system"] :: ["listed", wd n] :: T.map fun t => ["three", wd t.1, wd t.2.1, wd t.2.2]
end Pj
/-! lines_of, format_system, is_number, is_three, is_head, joined, threes_from, parse_system. -/
namespace Pj
open PySem PySem.Spec PyProof.Rows L2 PjM TL
def tJoinK (K : PySem.W.Frag) (to te : TE) : TE := tM1 (fun x xs H Q => ∃ a p, ∃ ys : List Str, x = .str a ∧ xs = [.ref p] ∧ (SqL K H p (ys.map V.str) ∨ SqT K H p (ys.map V.str)) ∧ (ys.map (·.length)).sum + ys.length * a.length ≤ 16777216 ∧ Q (.str (Txt.join a ys)) H) to te
theorem pe_joinK {X : Cx} {o e : Expr} {to te : TE} {apos pos : Pos} (ho : PE X o to) (he : PE X e te) (hs : starEach [e] X.env = [(false, eval e X.env)] := by rfl) (hbase : attributeBase o "join" X.env (eval o X.env) = eval o X.env := by rfl) (hline : (apos.endLine == pos.line) = true := by rfl) :
    PE X (.Call (.Attribute o "join" apos) [e] [] pos) (tJoinK X.K to te) := pe_join ho he hs hbase hline
theorem dps_str_inv {K : PySem.W.Frag} {H : Hp} : ∀ {ss : List Str} {vs : List V}, DpAll K H vs (ss.map PyData.str) → vs = ss.map V.str
  | [], _, h => by cases h; rfl
  | n :: r, _, h => by
    cases h with
    | cons h1 h2 =>
      cases h1
      rw [dps_str_inv h2]
      rfl
theorem head_eq (n : Nat) : ((Str.empty ++ Str.ofString "listed") ++ Str.ofString " ") ++ Str.ofString (toString (n : Int)) = lnHead n := by
  refine ext_tl ?_
  unfold lnHead
  rw [tl_txt, tl_append, tl_append, tl_append]
  show ([] ++ tl (Str.ofString "listed") ++ tl (Str.ofString " ")) ++ tl (wd n) = tl (Str.ofString "listed") ++ (tl (Str.ofString " ") ++ tl (wd n))
  rw [List.nil_append, List.append_assoc]
theorem fit_str {x : Str} (h : x.length ≤ 200000) : x.length ≤ sizeLine := Nat.le_trans h (by decide)
section
variable {P : Program} {w : World} {K : PySem.W.Frag} {mg : Str → Option Value} {base : Heap} {dA : Addr}
abbrev N_lines_of : List Str := ["tree", "found", "arm", "three", "point"]
abbrev s_lines_of : Stmt := top 51
theorem sc_lines_of : FnScope N_lines_of ["tree"] (defScope s_lines_of) := ⟨rfl, rfl, rfl, by decide +kernel, rfl, by decide +kernel, by decide +kernel⟩
def spLines (K : PySem.W.Frag) : Sp := fun vs H Q _ => ∃ (n : Nat) (T : List Tri) (v : V), vs = [v] ∧ n ≤ 60 ∧ TriOk T ∧ T.length ≤ 1000 ∧ Dp K H v (encL n T) ∧ ∀ a H', Same H H' → H' a = some (.lst ((lnsOf n T).map V.str)) → Q (.ref a) H'
theorem ok_lines_of {f : Addr} {fd : FuncData} (F : Fun K "lines_of" "lines_of" s_lines_of f fd) (B : Blt mg) (AR : Arms K w mg dA) : FnOk P w K mg base CX0 1 f fd ["tree"] (spLines K) := by
  refine F.ok sc_lines_of (fun vs H Q E h => ?_) (fun cdv A outer s H vs Q E hr h => ?_)
  · obtain ⟨n, T, v, rfl, _⟩ := h
    rfl
  obtain ⟨n, T, v, rfl, n60, hT, hl, hd, q⟩ := h
  refine ⟨_, (pss_cons (ps_if (pt_cmpR op_gt (pe_ix (show IxR _ (rIxD K w) from ix_kdict) (pe_glob (v := .ref dA) (by rfl) AR.m rfl) (pe_ix (show IxR _ (rIxT K) from ix_tup) (pv 0) pe_int (fun _ _ => rfl)) (fun _ _ => rfl)) pe_int (nomark _)) pss_never pss_nil)
    (pss_cons (ps_set (i := 1) sc_lines_of.nd rfl (Or.inl rfl) (pe_lst (pa_cons (pe_joined (.cons (pe_fmt (pe_ix (show IxR _ (rIxT K) from ix_tup) (pv 0) pe_int (fun _ _ => rfl))) (.cons pe_str (.cons (pe_fmt (pe_ix (show IxR _ (rIxT K) from ix_tup) (pv 0) pe_int (fun _ _ => rfl))) .nil)))) pa_nil)))
    (pss_cons (ps_if (pt_cmpR op_eq (pe_ix (show IxR _ (rIxT K) from ix_tup) (pv 0) pe_int (fun _ _ => rfl)) pe_str (nomark _)) (pss_one (ps_aug (i := 1) sc_lines_of.nd rfl (Or.inl rfl) (pe_lc (own := [("three", 3)]) (g := gName 3) rfl sc_lines_of.nd (pi_tup (pe_ix (show IxR _ (rIxT K) from ix_tup) (pv 0) pe_int (fun _ _ => rfl))) (blkOk_by (N := N_lines_of) (sc := defScope s_lines_of) (by decide +kernel)) (fun _ _ _ _ _ => pg_name (i := 3) sc_lines_of.nd rfl (Or.inl rfl)) (fun _ _ _ _ _ => pts_nil) (fun _ _ _ _ _ => (show PE _ _ (tJoinK K _ _) from pe_joinK pe_str (pe_op op_cat (pe_lst (pa_cons pe_str pa_nil)) (pe_lc (own := [("point", 4)]) (g := gName 4) rfl sc_lines_of.nd (show PI _ _ _ (iTup K _) from pi_tup (pv 3)) (blkOk_by (N := N_lines_of) (sc := { kind := .function, names := [(".0", .local), ("three", .local)], isGenerator := false, isCoroutine := false }) (by decide +kernel)) (fun _ _ _ _ _ => pg_name (i := 4) sc_lines_of.nd rfl (Or.inl rfl)) (fun _ _ _ _ _ => pts_nil) (fun _ _ _ _ _ => (pe_callTy call_str_int (by rfl) B.str (by decide +kernel) (pa_cons (pv 4) pa_nil)))))))) ip_ext)) pss_nil)
    (pss_one (ps_ret (pv 1)))))), ?_⟩
  obtain ⟨p, x, y, z, rfl, hs, h1, h2, h3⟩ := dp_tup3 hd
  obtain rfl := dp_str h1
  obtain rfl := dp_int h2
  obtain ⟨pT, xs, rfl, hsT, hdT⟩ := dp_tup h3
  have it0 := atI_nat (xs := [V.str "listed", V.int n, V.ref pT]) (j := 0) rfl
  have it1 := atI_nat (xs := [V.str "listed", V.int n, V.ref pT]) (j := 1) rfl
  have it2 := atI_nat (xs := [V.str "listed", V.int n, V.ref pT]) (j := 2) rfl
  have kix := AR.ix (x := "listed") (i := 0) (by decide +kernel)
  refine ⟨_, rfl, p, _, 0, _, rfl, rfl, hs, it0, _, _, _, rfl, rfl, kix, _, _, rfl, rfl, _, rfl, ifb (fun e => absurd e (by decide)) (fun _ => ?_)⟩
  refine ⟨_, rfl, p, _, 0, _, rfl, rfl, hs, it0, .inl ⟨_, rfl, by show ("listed" : Str).length ≤ sizeLine; exact Nat.le_trans (by decide +kernel : _ ≤ 6) (by decide), ?_⟩⟩
  have fw := wdF (i := (n : Int)) (by omega) (by omega)
  have hlen : (lnHead n).length ≤ 100 := (len_lines n60 hT (lnHead n) (List.mem_cons_of_mem _ List.mem_cons_self)).2
  refine ⟨_, rfl, fit_str (by decide +kernel), _, rfl, fit_str (by decide +kernel), ?_⟩
  refine ⟨_, rfl, p, _, 1, _, rfl, rfl, hs, it1, .inr ⟨_, rfl, ?_, _, rfl, ?_, ?_⟩⟩
  · have : n.log2 ≤ n := Nat.log2_le_self n
    show n.log2 < 1920
    omega
  · rw [head_eq]
    exact fit_str (by omega)
  rw [head_eq]
  refine ⟨by show 1 ≤ sizeLine; decide, fun fo hfo => ?_⟩
  have s1 : Same H (upd H fo (.lst [.str (lnHead n)])) := same_new hfo
  refine ⟨_, rfl, p, _, 0, _, rfl, rfl, same_sqT s1 hs, it0, rfl, _, rfl, ifb (fun _ => ?_) (fun e => absurd e (by decide +kernel))⟩
  have hxl : xs.length = T.length := by rw [dps_len hdT, List.length_map]
  refine ⟨_, rfl, _, rfl, p, _, 2, _, rfl, rfl, same_sqT s1 hs, it2, lc_tup_dp (K := K) (a := pT) (xs := xs) (same_sqT s1 hsT) (by omega) (fun i => .str ((T.map lnTri).getD i Str.empty)) (fun _ => rfl) (fun D i x H3 zs hD s3 hD3 ex Q' hQ' => ?_) (fun D ys H3 hD s3 e3 hd3 => ?_)⟩
  · obtain ⟨dd, hdd, hdx⟩ := dps_get hdT ex
    rw [List.getElem?_map] at hdd
    obtain ⟨u, eu, rfl⟩ : ∃ u, T[i]? = some u ∧ eTri u = dd := by
      cases eu : T[i]? with
      | none => rw [eu] at hdd; cases hdd
      | some u => rw [eu] at hdd; exact ⟨u, rfl, Option.some.inj hdd⟩
    obtain ⟨ax, rfl, hsx⟩ := dp_tri hdx
    have hmem : u ∈ T := List.mem_of_getElem? eu
    have eg : (T.map lnTri).getD i Str.empty = lnTri u := by
      rw [List.getD_eq_getElem?_getD, List.getElem?_map, eu]
      rfl
    rw [eg] at hQ'
    obtain ⟨t1, t2, t3⟩ := hT u hmem
    refine ⟨⟨_, rfl⟩, by show 1 ≤ sizeLine; decide, fun l0 hl0 => ?_⟩
    have s4 := same_new (o := .lst [V.str "three"]) hl0
    have sx := (s1.trans s3).trans s4
    refine ⟨_, rfl, lc_tup_dp (K := K) (a := ax) (xs := [.int u.1, .int u.2.1, .int u.2.2]) (same_sqT sx hsx) (by show 3 ≤ 100000; decide) (fun j => .str (wd ([u.1, u.2.1, u.2.2].getD j 0))) (fun _ => rfl) (fun D2 j x H4 zs2 hD2 s4' hD4 ex2 Q2 hQ2 => ?_) (fun D2 ys2 H4 hD2 s5 e4 hd4 => ?_)⟩
    · obtain ⟨k, rfl, k0, k1, ek⟩ : ∃ k : Int, x = V.int k ∧ 0 ≤ k ∧ k ≤ 60 ∧ [u.1, u.2.1, u.2.2].getD j 0 = k := by
        match j, ex2 with
        | 0, ex => exact ⟨_, (Option.some.inj ex).symm, by omega, by omega, rfl⟩
        | 1, ex => exact ⟨_, (Option.some.inj ex).symm, by omega, by omega, rfl⟩
        | 2, ex => exact ⟨_, (Option.some.inj ex).symm, by omega, by omega, rfl⟩
        | _ + 3, ex => simp at ex
      rw [ek] at hQ2
      refine ⟨_, rfl, k, rfl, ?_, hQ2 _ _ (.refl _) (.str _)⟩
      have : k.natAbs.log2 ≤ k.natAbs := Nat.log2_le_self _
      omega
    · have ev : ys2 = ([wd u.1, wd u.2.1, wd u.2.2] : List Str).map V.str := dps_str_inv hd4
      rw [ev] at e4
      refine ⟨l0, D2, _, _, rfl, rfl, s5 _ _ upd_same, e4, by show 4 ≤ sizeLine; decide, fun l1 hl1 => ?_⟩
      refine ⟨_, l1, ["three", wd u.1, wd u.2.1, wd u.2.2], rfl, rfl, .inl (.of upd_same), ?_, hQ' _ _ ((s4.trans s5).trans (same_new hl1)) (.str _)⟩
      have f := w_tri hT hmem
      have f1 := (f (wd u.1) (by simp)).2.2
      have f2 := (f (wd u.2.1) (by simp)).2.2
      have f3 := (f (wd u.2.2) (by simp)).2.2
      show ("three" : Str).length + ((wd u.1).length + ((wd u.2.1).length + ((wd u.2.2).length + 0))) + 4 * (" " : Str).length ≤ 16777216
      have e1 : ("three" : Str).length = 5 := by decide +kernel
      have e2 : (" " : Str).length = 1 := by decide +kernel
      rw [e1, e2]
      omega
  · have ed : (List.range xs.length).map (fun i => PyData.str ((T.map lnTri).getD i Str.empty)) = (T.map lnTri).map PyData.str := by
      rw [hxl, ← List.length_map (f := lnTri) (as := T)]
      exact map_of_get fun i x ex => by rw [List.getD_eq_getElem?_getD, ex]; rfl
    rw [ed] at hd3
    rw [dps_str_inv hd3] at e3
    have hfo3 := s3 _ _ (upd_same : upd H fo (.lst [.str (lnHead n)]) fo = _)
    have hHfo : H fo = none := hfo
    refine ⟨fo, D, _, _, rfl, rfl, hfo3, e3, ?_, ?_⟩
    · show 1 + _ ≤ sizeLine
      rw [List.length_map, List.length_map]
      exact Nat.le_trans (by omega : _ ≤ 2000) (by decide)
    · exact ⟨_, rfl, q _ _ (same_mut (s1.trans s3) hHfo) upd_same⟩
/-! ### format_system -/
abbrev N_format_system : List Str := ["tree"]
abbrev s_format_system : Stmt := top 52
theorem sc_format_system : FnScope N_format_system ["tree"] (defScope s_format_system) := ⟨rfl, rfl, rfl, by decide +kernel, rfl, by decide +kernel, by decide +kernel⟩
def spFormat (K : PySem.W.Frag) : Sp := fun vs H Q _ => ∃ (n : Nat) (T : List Tri) (v : V), vs = [v] ∧ Ok (.listed n T) ∧ TriOk T ∧ T.length ≤ 1000 ∧ Dp K H v (encL n T) ∧ ∀ H', Same H H' → Q (.str (text n T)) H'
theorem ok_format_system {f : Addr} {fd : FuncData} (F : Fun K "format_system" "format_system" s_format_system f fd) (C_checked : Cal P w K mg base CX0 7 "checked" ["tree"] [] (spChecked K)) (C_lines_of : Cal P w K mg base CX0 1 "lines_of" ["tree"] [] (spLines K)) : FnOk P w K mg base CX0 8 f fd ["tree"] (spFormat K) := by
  refine F.ok sc_format_system (fun vs H Q E h => ?_) (fun cdv A outer s H vs Q E hr h => ?_)
  · obtain ⟨n, T, v, rfl, _⟩ := h
    rfl
  obtain ⟨n, T, v, rfl, ok, hT, hl, hd, q⟩ := h
  refine ⟨_, (pss_one (ps_ret (show PE _ _ (tJoinK K _ _) from pe_joinK pe_str (pe_op op_cat (pe_lst (pa_cons pe_str pa_nil)) (pe_c (C_lines_of.mono (by omega)) hr pass0 (pa_cons (pe_c (C_checked.mono (by omega)) hr pass0 (pa_cons (pv 0) pa_nil)) pa_nil)))))), ?_⟩
  refine ⟨⟨_, rfl⟩, by show 1 ≤ sizeLine; decide, fun l0 hl0 => ?_⟩
  have s1 := same_new (o := .lst [V.str "system"]) hl0
  have n60 : n ≤ 60 := ok.2.1
  refine ⟨_, rfl, _, v, rfl, ok, by show 1 ≤ 3; decide, dp_same s1 _ _ hd, fun v1 H1 s2 hd1 => ?_⟩
  refine ⟨n, T, v1, rfl, n60, hT, hl, hd1, fun a H2 s3 ha => ?_⟩
  refine ⟨l0, a, _, _, rfl, rfl, s3 _ _ (s2 _ _ upd_same), ha, ?_, fun l1 hl1 => ?_⟩
  · show 1 + ((lnsOf n T).map V.str).length ≤ sizeLine
    rw [List.length_map]
    show 1 + ((T.map lnTri).length + 1) ≤ sizeLine
    rw [List.length_map]
    exact Nat.le_trans (by omega : _ ≤ 2000) (by decide)
  refine ⟨_, l1, "system" :: lnsOf n T, rfl, rfl, .inl (.of upd_same), Nat.le_trans (lines_fit n60 hT hl) (by decide), q _ (((s1.trans s2).trans s3).trans (same_new hl1))⟩
end
end Pj
/-! is_number, is_three, is_head, joined, threes_from, parse_system. -/
namespace Pj
open PySem PySem.Spec PyProof.Rows L2 PjM TL
theorem iteF {A B : Prop} (h : B) : if false = true then A else B := by rw [if_neg Bool.false_ne_true]; exact h
theorem all_bl {ys : List V} (h : ∀ (i : Nat) y, ys[i]? = some y → y = V.bl true) : ys = (List.replicate ys.length true).map V.bl := by
  refine List.ext_getElem? fun i => ?_
  by_cases hi : i < ys.length
  · rw [List.getElem?_map, List.getElem?_replicate, if_pos hi, List.getElem?_eq_getElem hi, h i _ (List.getElem?_eq_getElem hi)]
    rfl
  · rw [List.getElem?_eq_none (by omega), List.getElem?_eq_none (by rw [List.length_map, List.length_replicate]; omega)]
section
variable {P : Program} {w : World} {K : PySem.W.Frag} {mg : Str → Option Value} {base : Heap} {dA : Addr}
abbrev N_is_number : List Str := ["word", "char"]
abbrev s_is_number : Stmt := top 53
theorem sc_is_number : FnScope N_is_number ["word"] (defScope s_is_number) := ⟨rfl, rfl, rfl, by decide +kernel, rfl, by decide +kernel, by decide +kernel⟩
def spNum : Sp := fun vs H Q _ => ∃ z : Str, vs = [.str z] ∧ numW z = true ∧ ∀ H', Same H H' → Q (.bl true) H'
theorem ok_is_number {f : Addr} {fd : FuncData} (F : Fun K "is_number" "is_number" s_is_number f fd) (B : Blt mg) (G : Glo mg) : FnOk P w K mg base CX0 1 f fd ["word"] spNum := by
  refine F.ok sc_is_number (fun vs H Q E h => ?_) (fun cdv A outer s H vs Q E hr h => ?_)
  · obtain ⟨z, rfl, _⟩ := h
    rfl
  obtain ⟨z, rfl, hz, q⟩ := h
  refine ⟨_, (pss_cons (ps_if (PW.pt (pw_or (pt_not (pt_chain op_le op_le pe_int (pe_callB call_len_str (by rfl) B.len (by decide +kernel) (pa_cons (pv 0) pa_nil)) (pe_gi G.MOST_DIGITS))) (pw_or1 (pt_not (pt_val (pe_callB (show CallR _ _ (rAll K) from cr_all rfl) (by rfl) B.all (by decide +kernel) (pa_cons (pe_lc (own := [("char", 1)]) (g := gName 1) rfl sc_is_number.nd (pi_str (pv 0)) (blkOk_by (N := N_is_number) (sc := defScope s_is_number) (by decide +kernel)) (fun _ _ _ _ _ => pg_name (i := 1) sc_is_number.nd rfl (Or.inl rfl)) (fun _ _ _ _ _ => pts_nil) (fun _ _ _ _ _ => (pe_cmpR op_in_sign (pv 1) (pe_gs G.DIGITS) rfl))) pa_nil))))))) pss_never pss_nil)
    (pss_one (ps_ret (pe_or (pe_cmpR op_eq (pv 0) pe_str (nomark _)) (pe_one (pe_cmpR op_ne (pe_ix ix_str (pv 0) pe_int (fun _ _ => rfl)) pe_str (nomark _))))))), ?_⟩
  unfold numW at hz
  simp only [Bool.and_eq_true, decide_eq_true_eq] at hz
  obtain ⟨⟨⟨z1, z2⟩, z3⟩, z4⟩ := hz
  have zf : z.length ≤ sizeLine := fit_str (by omega)
  refine ⟨_, rfl, z, rfl, zf, _, _, rfl, rfl, true, congrArg V.bl (decide_eq_true (by omega)), iteT ⟨_, _, rfl, rfl, _, rfl, ?_⟩⟩
  rw [decide_eq_true (show (z.length : Int) ≤ 31 by omega)]
  refine ifb (fun e => absurd e (by decide)) (fun _ => ?_)
  refine ⟨_, rfl, z, rfl, lc_gen (J := Its z) (xs := z.cps.toList.map fun c => V.str ⟨#[c]⟩) (fun i H' _ hi => ?_) (fun H' _ => ?_) (fun i x H1 H2 _ hi hy => ?_) (fun _ _ y _ => y = V.bl true) (by rw [List.length_map]; show z.cps.toList.length ≤ _; rw [Array.length_toList]; exact Nat.le_trans z2 (by decide)) (fun _ _ _ _ _ _ h => h) (fun _ _ _ _ _ _ _ h => h) (fun D i x H1 zs _ _ _ ex Q' hQ' => ?_) (fun D ys H2 hD s2 e2 hl hR => ?_)⟩
  · rw [List.length_map, Array.length_toList] at hi
    exact hi
  · show z.cps.size ≤ _
    rw [List.length_map, Array.length_toList]
    exact Nat.le_refl _
  · obtain ⟨e, c, ec, rfl⟩ := hy
    refine ⟨e, ?_⟩
    rw [List.getElem?_map, Array.getElem?_toList, ec]
    rfl
  · rw [List.getElem?_map] at ex
    obtain ⟨c, ec, rfl⟩ : ∃ c, z.cps.toList[i]? = some c ∧ V.str ⟨#[c]⟩ = x := by
      cases e : z.cps.toList[i]? with
      | none => rw [e] at ex; cases ex
      | some c => rw [e] at ex; exact ⟨c, rfl, Option.some.inj ex⟩
    have hc := of_decide_eq_true (List.all_eq_true.mp z3 c (List.mem_of_getElem? ec))
    refine ⟨_, rfl, c, _, rfl, rfl, ?_⟩
    rw [decide_eq_true hc]
    exact hQ' _ _ (.refl _) rfl
  · have ey := all_bl hR
    rw [ey] at e2
    refine ⟨D, _, rfl, .of e2, _, rfl, ?_⟩
    have ea : (List.replicate ys.length true).all id = true := by simp
    rw [ea]
    refine ifb (fun e => absurd e (by decide)) (fun _ => ?_)
    refine ⟨_, rfl, rfl, _, rfl, ifb (fun _ => q _ s2) (fun e => ?_)⟩
    have hz0 : z ≠ "0" := fun y => by
      subst y
      exact absurd e (by decide +kernel)
    have z5 : ¬ z.cps.toList.head? = some 48 := by
      rcases Bool.or_eq_true _ _ |>.mp z4 with h | h
      · exact absurd (of_decide_eq_true h) hz0
      · simpa using h
    obtain ⟨c, hc⟩ : ∃ c, z.cps.toList[0]? = some c := by
      have : 0 < z.cps.toList.length := by
        rw [Array.length_toList]
        exact z1
      exact ⟨_, List.getElem?_eq_getElem this⟩
    refine ⟨_, rfl, z, _, c, rfl, rfl, zf, atI_nat (j := 0) hc, rfl, ?_⟩
    have hne : (V.str ⟨#[c]⟩ = V.str "0") → False := fun y => by
      have y' : (⟨#[c]⟩ : Str) = Str.ofString "0" := V.str.inj y
      have y2 := congrArg tl y'
      have y3 : tl (Str.ofString "0") = [48] := by decide +kernel
      rw [y3] at y2
      have y4 : c = 48 := (List.cons.inj y2).1
      subst y4
      apply z5
      rw [List.head?_eq_getElem?]
      exact hc
    rw [decide_eq_false hne]
    exact q _ s2
/-! ### is_three -/
abbrev N_is_three : List Str := ["words", "word"]
abbrev s_is_three : Stmt := top 54
theorem sc_is_three : FnScope N_is_three ["words"] (defScope s_is_three) := ⟨rfl, rfl, rfl, by decide +kernel, rfl, by decide +kernel, by decide +kernel⟩
def spIsThree (K : PySem.W.Frag) : Sp := fun vs H Q _ => ∃ (a : Addr) (x y z : Str), vs = [.ref a] ∧ SqL K H a [.str "three", .str x, .str y, .str z] ∧ numW x = true ∧ numW y = true ∧ numW z = true ∧ ∀ H', Same H H' → Q (.bl true) H'
theorem ok_is_three {f : Addr} {fd : FuncData} (F : Fun K "is_three" "is_three" s_is_three f fd) (B : Blt mg) (C_is_number : Cal P w K mg base CX0 1 "is_number" ["word"] [] spNum) : FnOk P w K mg base CX0 2 f fd ["words"] (spIsThree K) := by
  refine F.ok sc_is_three (fun vs H Q E h => ?_) (fun cdv A outer s H vs Q E hr h => ?_)
  · obtain ⟨a, x, y, z, rfl, _⟩ := h
    rfl
  obtain ⟨a, x, y, z, rfl, hs, hx, hy, hz, q⟩ := h
  refine ⟨_, (pss_one (ps_ret (pe_and (pe_cmpR op_eq (pe_callB (show CallR _ _ (rLenSq K) from call_lenSq) (by rfl) B.len (by decide +kernel) (pa_cons (pv 0) pa_nil)) pe_int (nomark _)) (pe_and (pe_cmpR op_eq (pe_ix (show IxR _ (rIxL K) from ix_list) (pv 0) pe_int (fun _ _ => rfl)) pe_str (nomark _)) (pe_one (pe_callB (show CallR _ _ (rAll K) from cr_all rfl) (by rfl) B.all (by decide +kernel) (pa_cons (pe_lc (own := [("word", 1)]) (g := gName 1) rfl sc_is_three.nd (pi_list (pe_slice (show SlR _ (rSlL K) from sl_list) (pv 0) (po_some pe_int) po_none)) (blkOk_by (N := N_is_three) (sc := defScope s_is_three) (by decide +kernel)) (fun _ _ _ _ _ => pg_name (i := 1) sc_is_three.nd rfl (Or.inl rfl)) (fun _ _ _ _ _ => pts_nil) (fun _ _ _ _ _ => (pe_c (C_is_number.mono (by omega)) hr pass0 (pa_cons (pv 1) pa_nil)))) pa_nil))))))), ?_⟩
  refine ⟨_, rfl, a, _, rfl, .inl hs, rfl, true, rfl, iteT ?_⟩
  refine ⟨_, rfl, a, _, 0, _, rfl, rfl, hs, atI_nat (j := 0) rfl, rfl, true, congrArg V.bl (by decide +kernel), iteT ?_⟩
  refine ⟨_, rfl, 1, rfl, a, _, rfl, hs, fun p hp => ?_⟩
  have s1 := same_new (o := .lst [.str x, .str y, .str z]) hp
  have ec : cutV [V.str "three", .str x, .str y, .str z] (some 1) none = [.str x, .str y, .str z] := rfl
  rw [ec]
  refine ⟨p, rfl, ⟨_, .of upd_same⟩, ?_⟩
  refine (lc_lst_dp (K := K) (a := p) (xs := [.str x, .str y, .str z]) (.of upd_same) (by show 3 ≤ 100000; decide) (fun _ => .bool true) (fun _ => rfl) (fun D i x1 H1 zs _ _ _ ex Q' hQ' => ?_) (fun D ys H2 hD s2 e2 hd2 => ?_)).elim fun a' h => by
    obtain ⟨e, h1, h2⟩ := h
    cases e
    exact h2
  · obtain ⟨k, rfl, hk⟩ : ∃ k : Str, x1 = V.str k ∧ numW k = true := by
      match i, ex with
      | 0, ex => exact ⟨_, (Option.some.inj ex).symm, hx⟩
      | 1, ex => exact ⟨_, (Option.some.inj ex).symm, hy⟩
      | 2, ex => exact ⟨_, (Option.some.inj ex).symm, hz⟩
      | _ + 3, ex => simp at ex
    exact ⟨_, rfl, k, rfl, hk, fun H2 s2 => hQ' _ _ s2 (.bl true)⟩
  · obtain ⟨bs, hbs, eall⟩ := all_true e2 hd2
    refine ⟨D, bs, rfl, hbs, ?_⟩
    rw [eall]
    exact q _ (s1.trans s2)
/-! ### is_head -/
abbrev N_is_head : List Str := ["words"]
abbrev s_is_head : Stmt := top 55
theorem sc_is_head : FnScope N_is_head ["words"] (defScope s_is_head) := ⟨rfl, rfl, rfl, by decide +kernel, rfl, by decide +kernel, by decide +kernel⟩
def spIsHead (K : PySem.W.Frag) : Sp := fun vs H Q _ => ∃ (a : Addr) (x : Str), vs = [.ref a] ∧ SqL K H a [.str "listed", .str x] ∧ numW x = true ∧ ∀ H', Same H H' → Q (.bl true) H'
theorem ok_is_head {f : Addr} {fd : FuncData} (F : Fun K "is_head" "is_head" s_is_head f fd) (B : Blt mg) (AR : Arms K w mg dA) (C_is_number : Cal P w K mg base CX0 1 "is_number" ["word"] [] spNum) : FnOk P w K mg base CX0 2 f fd ["words"] (spIsHead K) := by
  refine F.ok sc_is_head (fun vs H Q E h => ?_) (fun cdv A outer s H vs Q E hr h => ?_)
  · obtain ⟨a, x, rfl, _⟩ := h
    rfl
  obtain ⟨a, x, rfl, hs, hx, q⟩ := h
  refine ⟨_, (pss_cons (ps_if (pt_cmpR (show OpR _ _ (rNotInKD K dA) from op_notInA AR.D) (pe_ix (show IxR _ (rIxL K) from ix_list) (pv 0) pe_int (fun _ _ => rfl)) (pe_glob (v := .ref dA) (by rfl) AR.m rfl) rfl) pss_never pss_nil)
    (pss_cons (ps_if (pt_cmpR op_gt (pe_ix (show IxR _ (rIxD K w) from ix_kdict) (pe_glob (v := .ref dA) (by rfl) AR.m rfl) (pe_ix (show IxR _ (rIxL K) from ix_list) (pv 0) pe_int (fun _ _ => rfl)) (fun _ _ => rfl)) pe_int (nomark _)) pss_never pss_nil)
    (pss_one (ps_ret (pe_and (pe_cmpR op_eq (pe_callB (show CallR _ _ (rLenSq K) from call_lenSq) (by rfl) B.len (by decide +kernel) (pa_cons (pv 0) pa_nil)) pe_int (nomark _)) (pe_one (pe_c (C_is_number.mono (by omega)) hr pass0 (pa_cons (pe_ix (show IxR _ (rIxL K) from ix_list) (pv 0) pe_int (fun _ _ => rfl)) pa_nil)))))))), ?_⟩
  have kin : (("listed" : Str), (0 : Int)) ∈ armsL := by decide +kernel
  obtain ⟨tk, ek⟩ := AR.k _ kin
  have kix := AR.ix kin
  refine ⟨_, rfl, a, _, 0, _, rfl, rfl, hs, atI_nat (j := 0) rfl, _, _, rfl, rfl, ek, _, rfl, ifb (fun e => absurd e Bool.false_ne_true) (fun _ => ?_)⟩
  refine ⟨_, rfl, a, _, 0, _, rfl, rfl, hs, atI_nat (j := 0) rfl, _, _, _, rfl, rfl, kix, _, _, rfl, rfl, _, rfl, ifb (fun e => absurd e (by decide)) (fun _ => ?_)⟩
  refine ⟨_, rfl, a, _, rfl, .inl hs, rfl, true, rfl, iteT ?_⟩
  exact ⟨_, rfl, a, _, 1, _, rfl, rfl, hs, atI_nat (j := 1) rfl, x, rfl, hx, q⟩
/-! ### joined -/
abbrev N_joined : List Str := ["waiting", "part"]
abbrev s_joined : Stmt := top 56
theorem sc_joined : FnScope N_joined ["waiting", "part"] (defScope s_joined) := ⟨rfl, rfl, rfl, by decide +kernel, rfl, by decide +kernel, by decide +kernel⟩
def spJoined (K : PySem.W.Frag) : Sp := fun vs H Q _ => ∃ (a : Addr) (v : V), vs = [.ref a, v] ∧ SqL K H a [] ∧ Q v H
theorem ok_joined {f : Addr} {fd : FuncData} (F : Fun K "joined" "joined" s_joined f fd) : FnOk P w K mg base CX0 1 f fd ["waiting", "part"] (spJoined K) := by
  refine F.ok sc_joined (fun vs H Q E h => ?_) (fun cdv A outer s H vs Q E hr h => ?_)
  · obtain ⟨a, v, rfl, _⟩ := h
    rfl
  obtain ⟨a, v, rfl, hs, q⟩ := h
  refine ⟨_, PSs.nox (pss_cons (ps_while PassesOwn.never (pt_truth (pv 0) (by intro _; rfl)) pss_never)
    (pss_one (ps_ret (pv 1)))), ?_⟩
  refine ⟨fun m σ H' => σ = [some (.ref a), some v] ∧ H' = H, ⟨0, rfl, rfl⟩, fun m σ H' h => ?_⟩
  obtain ⟨rfl, rfl⟩ := h
  refine ⟨_, rfl, false, .inl ⟨[], hs, rfl⟩, ?_⟩
  exact iteF ⟨_, rfl, q⟩
/-! ### threes_from -/
/-- lists of texts, one for each line -/
def Lns (K : PySem.W.Frag) (H : Hp) (xs : List V) (Ws : List (List Str)) : Prop := xs.length = Ws.length ∧ ∀ (i : Nat) ws, Ws[i]? = some ws → ∃ p, xs[i]? = some (.ref p) ∧ SqL K H p (ws.map V.str)
theorem Lns.same {H H' : Hp} {xs : List V} {Ws : List (List Str)} (h : Lns K H xs Ws) (e : Same H H') : Lns K H' xs Ws := ⟨h.1, fun i ws hw => by
  obtain ⟨p, h1, h2⟩ := h.2 i ws hw
  exact ⟨p, h1, e.seq h2⟩⟩
theorem wrds_len (n : Nat) (T : List Tri) : (wrds n T).length = T.length + 2 := by
  show (T.map _).length + 1 + 1 = _
  rw [List.length_map]
theorem wrds_tri {n : Nat} {T : List Tri} {i : Nat} {t : Tri} (h : T[i]? = some t) : (wrds n T)[2 + i]? = some ((["three", wd t.1, wd t.2.1, wd t.2.2] : List Str)) := by
  have e : (wrds n T)[2 + i]? = (T.map fun t => (["three", wd t.1, wd t.2.1, wd t.2.2] : List Str))[i]? := by
    rw [Nat.add_comm]
    rfl
  rw [e, List.getElem?_map, h]
  rfl
abbrev N_threes_from : List Str := ["lines", "at", "found", "word"]
abbrev s_threes_from : Stmt := top 57
theorem sc_threes_from : FnScope N_threes_from ["lines", "at"] (defScope s_threes_from) := ⟨rfl, rfl, rfl, by decide +kernel, rfl, by decide +kernel, by decide +kernel⟩
def spFrom (K : PySem.W.Frag) : Sp := fun vs H Q _ => ∃ (a : Addr) (xs : List V) (n : Nat) (T : List Tri), vs = [.ref a, .int 2] ∧ SqL K H a xs ∧ Lns K H xs (wrds n T) ∧ TriOk T ∧ T.length ≤ 1000 ∧ ∀ v' H', Same H H' → Dp K H' v' (eTris T) → Q v' H'
theorem ok_threes_from {f : Addr} {fd : FuncData} (F : Fun K "threes_from" "threes_from" s_threes_from f fd) (B : Blt mg) (C_is_three : Cal P w K mg base CX0 2 "is_three" ["words"] [] (spIsThree K)) : FnOk P w K mg base CX0 3 f fd ["lines", "at"] (spFrom K) := by
  refine F.ok sc_threes_from (fun vs H Q E h => ?_) (fun cdv A outer s H vs Q E hr h => ?_)
  · obtain ⟨a, xs, n, T, rfl, _⟩ := h
    rfl
  obtain ⟨a, xs, n, T, rfl, hs, hL, hT, hl, q⟩ := h
  have hxl : xs.length = T.length + 2 := hL.1.trans (wrds_len n T)
  refine ⟨_, PSs.nox (pss_cons (ps_set (i := 2) sc_threes_from.nd rfl (Or.inl rfl) (pe_lst pa_nil))
    (pss_cons (ps_while PassesOwn.never (PW.pt (pw_and (pt_cmpR op_lt (pv 1) (pe_callB (show CallR _ _ (rLenSq K) from call_lenSq) (by rfl) B.len (by decide +kernel) (pa_cons (pv 0) pa_nil)) (nomark _)) (pw_and1 (pt_val (pe_c (C_is_three.mono (by omega)) hr pass0 (pa_cons (pe_ix (show IxR _ (rIxL K) from ix_list) (pv 0) (pv 1) (fun _ _ => rfl)) pa_nil)))))) (pss_cons (ps_expr (pe_bm PySem.F.plainAttrs_list PySem.F.slot_list_append PySem.F.type_list_append mt_append (pv 2) (pa_cons (pe_callTy (show CallR _ _ (rTupOf K) from call_tupOf) (by rfl) B.tuple (by decide +kernel) (pa_cons (pe_lc (own := [("word", 3)]) (g := gName 3) rfl sc_threes_from.nd (pi_list (pe_slice (show SlR _ (rSlL K) from sl_list) (pe_ix (show IxR _ (rIxL K) from ix_list) (pv 0) (pv 1) (fun _ _ => rfl)) (po_some pe_int) po_none)) (blkOk_by (N := N_threes_from) (sc := defScope s_threes_from) (by decide +kernel)) (fun _ _ _ _ _ => pg_name (i := 3) sc_threes_from.nd rfl (Or.inl rfl)) (fun _ _ _ _ _ => pts_nil) (fun _ _ _ _ _ => (pe_callTy call_int_str (by rfl) B.int (by decide +kernel) (pa_cons (pv 3) pa_nil)))) pa_nil)) pa_nil)))
    (pss_one (ps_aug (i := 1) sc_threes_from.nd rfl (Or.inl rfl) pe_int ip_add))))
    (pss_one (ps_ret (pe_callTy (show CallR _ _ (rTupOf K) from call_tupOf) (by rfl) B.tuple (by decide +kernel) (pa_cons (pv 2) pa_nil)))))), ?_⟩
  refine ⟨by show 0 ≤ sizeLine; decide, fun fo hfo => ?_⟩
  have hHfo : H fo = none := hfo
  have s0 := same_new (o := .lst []) hfo
  refine ⟨fun m σ H' => ∃ i, m = T.length - i ∧ i ≤ T.length ∧ σ = [some (.ref a), some (.int ((2 + i : Nat) : Int)), some (.ref fo), none] ∧ Same H H' ∧ ∃ ys, H' fo = some (.lst ys) ∧ DpAll K H' ys ((T.take i).map eTri), ⟨T.length, 0, rfl, Nat.zero_le _, rfl, s0, [], upd_same, .nil⟩, fun m σ H' h => ?_⟩
  obtain ⟨i, rfl, hi, rfl, sm, ys, hfo', hys⟩ := h
  have hs' := sm.seq hs
  refine ⟨_, rfl, _, rfl, a, _, rfl, .inl hs', _, _, rfl, rfl, _, rfl, ?_⟩
  rw [hxl]
  by_cases hlt : i < T.length
  · rw [decide_eq_true (show ((2 + i : Nat) : Int) < ((T.length + 2 : Nat) : Int) by omega)]
    obtain ⟨t, et⟩ : ∃ t, T[i]? = some t := ⟨_, List.getElem?_eq_getElem hlt⟩
    have hmem : t ∈ T := List.mem_of_getElem? et
    obtain ⟨t1, t2, t3⟩ := hT t hmem
    have f1 := wdF t1.1 t1.2
    have f2 := wdF t2.1 t2.2
    have f3 := wdF t3.1 t3.2
    obtain ⟨pl, ep, hpl⟩ := (hL.same sm).2 _ _ (wrds_tri et)
    refine iteT ⟨_, rfl, _, rfl, a, _, _, _, rfl, rfl, hs', atI_nat ep, pl, _, _, _, rfl, hpl, f1.num, f2.num, f3.num, fun H1 s1 => ⟨true, rfl, iteT ?_⟩⟩
    refine ⟨fun σ' H2 => σ' = [some (.ref a), some (.int ((2 + (i + 1) : Nat) : Int)), some (.ref fo), none] ∧ Same H H2 ∧ ∃ ys, H2 fo = some (.lst ys) ∧ DpAll K H2 ys ((T.take (i + 1)).map eTri), fun σ' H2 h2 => ⟨T.length - (i + 1), by omega, i + 1, rfl, hlt, h2⟩, ?_⟩
    have sm1 := sm.trans s1
    have hfo1 := s1 _ _ hfo'
    refine ⟨_, rfl, .inl ⟨rfl, _, SqL.of hfo1⟩, ?_⟩
    refine ⟨_, rfl, _, rfl, a, _, _, _, rfl, rfl, sm1.seq hs, atI_nat ep, 1, rfl, pl, _, rfl, s1.seq hpl, fun p1 hp1 => ?_⟩
    have ec : cutV (((["three", wd t.1, wd t.2.1, wd t.2.2] : List Str)).map V.str) (some 1) none = [V.str (wd t.1), .str (wd t.2.1), .str (wd t.2.2)] := rfl
    rw [ec]
    have s2 := same_new (o := .lst [V.str (wd t.1), .str (wd t.2.1), .str (wd t.2.2)]) hp1
    refine ⟨p1, rfl, ⟨_, .of upd_same⟩, ?_⟩
    refine (lc_lst_dp (K := K) (a := p1) (xs := [V.str (wd t.1), .str (wd t.2.1), .str (wd t.2.2)]) (.of upd_same) (by show 3 ≤ 100000; decide) (fun j => .int ([t.1, t.2.1, t.2.2].getD j 0)) (fun _ => rfl) (fun D j x1 H2 zs _ _ _ ex Q' hQ' => ?_) (fun D ws H2 hD s3 e3 hd3 => ?_)).elim fun a' h => by
      obtain ⟨e, h1, h2⟩ := h
      cases e
      exact h2
    · obtain ⟨k, rfl, fk, ek⟩ : ∃ k : Int, x1 = V.str (wd k) ∧ WdF k ∧ [t.1, t.2.1, t.2.2].getD j 0 = k := by
        match j, ex with
        | 0, ex => exact ⟨_, (Option.some.inj ex).symm, f1, rfl⟩
        | 1, ex => exact ⟨_, (Option.some.inj ex).symm, f2, rfl⟩
        | 2, ex => exact ⟨_, (Option.some.inj ex).symm, f3, rfl⟩
        | _ + 3, ex => simp at ex
      rw [ek] at hQ'
      exact ⟨_, rfl, _, k, rfl, fk.int, Nat.le_trans fk.len (by decide), hQ' _ _ (.refl _) (.int _)⟩
    · have ev : ws = [t.1, t.2.1, t.2.2].map V.int := dps_int_inv hd3
      rw [ev] at e3
      refine ⟨D, _, rfl, .inl ⟨.of e3, fun p2 hp2 => ?_⟩⟩
      have s4 := (s2.trans s3).trans (same_new (o := .tup [.int t.1, .int t.2.1, .int t.2.2]) hp2)
      have hfo4 := s4 _ _ hfo1
      have hlen : ys.length = i := by rw [dps_len hys, List.length_map, List.length_take]; omega
      refine ⟨fo, ys, _, rfl, rfl, hfo4, by rw [hlen]; exact Nat.lt_of_le_of_lt (by omega : _ ≤ 1000) (by decide), ?_⟩
      refine ⟨_, rfl, _, _, rfl, rfl, ?_⟩
      have e1 : ((2 + i : Nat) : Int) + 1 = ((2 + (i + 1) : Nat) : Int) := by omega
      refine ⟨by rw [← e1]; rfl, same_mut (sm1.trans s4) hHfo, _, upd_same, ?_⟩
      refine dps_mut (nt_lst hfo4) _ _ (tOnlyAll_map eTri tOnly_tri _) ?_
      rw [List.take_add_one, et, List.map_append]
      exact dps_snoc (dps_same (s1.trans s4) _ _ hys) (dp_tri_of (.of upd_same))
  · rw [decide_eq_false (show ¬ ((2 + i : Nat) : Int) < ((T.length + 2 : Nat) : Int) by omega)]
    have ei : i = T.length := by omega
    subst ei
    rw [List.take_length] at hys
    refine iteF (iteF ?_)
    exact ⟨_, rfl, fo, _, rfl, .inl ⟨.of hfo', fun p1 hp1 => q _ _ (sm.trans (same_new hp1)) (.tup (.of upd_same) (dps_same (same_new hp1) _ _ hys))⟩⟩
/-! ### parse_system -/
theorem line_words {n : Nat} {T : List Tri} (h : n ≤ 60) (hT : TriOk T) {i : Nat} {x : Str} (e : ("system" :: lnsOf n T : List Str)[i]? = some x) : (wrds n T)[i]? = some (Txt.split x " ") := by
  match i, e with
  | 0, e =>
    obtain rfl := (Option.some.inj e).symm
    rw [split_sys]
    rfl
  | 1, e =>
    obtain rfl := (Option.some.inj e).symm
    rw [split_head h]
    rfl
  | j + 2, e =>
    have e' : (T.map lnTri)[j]? = some x := e
    rw [List.getElem?_map] at e'
    obtain ⟨t, et, rfl⟩ : ∃ t, T[j]? = some t ∧ lnTri t = x := by
      cases et : T[j]? with
      | none => rw [et] at e'; cases e'
      | some t => rw [et] at e'; exact ⟨t, rfl, Option.some.inj e'⟩
    rw [split_tri hT (List.mem_of_getElem? et), Nat.add_comm]
    exact wrds_tri et
abbrev N_parse_system : List Str := ["text", "lines", "at", "tree", "waiting", "words", "part", "threes", "line"]
abbrev s_parse_system : Stmt := top 58
theorem sc_parse_system : FnScope N_parse_system ["text"] (defScope s_parse_system) := ⟨rfl, rfl, rfl, by decide +kernel, rfl, by decide +kernel, by decide +kernel⟩
def spParse (K : PySem.W.Frag) : Sp := fun vs H Q _ => ∃ (n : Nat) (T : List Tri), vs = [.str (text n T)] ∧ Ok (.listed n T) ∧ TriOk T ∧ T.length ≤ 1000 ∧ ∀ v' H', Same H H' → Dp K H' v' (encL n T) → Q v' H'
theorem ok_parse_system {f : Addr} {fd : FuncData} (F : Fun K "parse_system" "parse_system" s_parse_system f fd) (B : Blt mg) (AR : Arms K w mg dA) (C_is_head : Cal P w K mg base CX0 2 "is_head" ["words"] [] (spIsHead K)) (C_threes_from : Cal P w K mg base CX0 3 "threes_from" ["lines", "at"] [] (spFrom K))
    (C_joined : Cal P w K mg base CX0 1 "joined" ["waiting", "part"] [] (spJoined K)) (C_checked : Cal P w K mg base CX0 7 "checked" ["tree"] [] (spChecked K)) : FnOk P w K mg base CX0 8 f fd ["text"] (spParse K) := by
  refine F.ok sc_parse_system (fun vs H Q E h => ?_) (fun cdv A outer s H vs Q E hr h => ?_)
  · obtain ⟨n, T, rfl, _⟩ := h
    rfl
  obtain ⟨n, T, rfl, ok, hT, hl, q⟩ := h
  have n60 : n ≤ 60 := ok.2.1
  have hr' := hr
  refine ⟨_, PSs.nox (pss_cons (ps_setLc (i := 1) (own := [("line", 8)]) (g := gName 8) rfl sc_parse_system.nd rfl rfl (sw_true rfl rfl rfl (by decide +kernel)) (pi_list (pe_split (pv 0) pe_str)) (blkOk_by (N := N_parse_system) (sc := defScope s_parse_system) (by decide +kernel)) (fun _ _ _ _ _ => pg_name (i := 8) sc_parse_system.nd rfl (Or.inl rfl)) (fun _ _ _ _ _ => pts_nil) (fun _ _ _ _ _ => (pe_split (pv 8) pe_str)))
    (pss_cons (ps_if (pt_cmpR (show OpR _ _ (rNeD K) from op_neD hr.units) (pe_ix (show IxR _ (rIxL K) from ix_list) (pv 1) pe_int (fun _ _ => rfl)) (pe_lst (pa_cons pe_str pa_nil)) (nomark _)) pss_never pss_nil)
    (pss_cons (ps_set (i := 2) sc_parse_system.nd rfl (Or.inl rfl) pe_int)
    (pss_cons (ps_set (i := 3) sc_parse_system.nd rfl (Or.inl rfl) pe_non)
    (pss_cons (ps_set (i := 4) sc_parse_system.nd rfl (Or.inl rfl) (pe_lst pa_nil))
    (pss_cons (ps_while PassesOwn.never (pt_cmpR op_isN (pv 3) pe_non (nomark _)) (pss_cons (ps_if (PW.pt (pw_or (pt_cmpR op_eq (pv 2) (pe_callB (show CallR _ _ (rLenSq K) from call_lenSq) (by rfl) B.len (by decide +kernel) (pa_cons (pv 1) pa_nil)) (nomark _)) (pw_or1 (pt_not (pt_val (pe_c (C_is_head.mono (by omega)) hr pass0 (pa_cons (pe_ix (show IxR _ (rIxL K) from ix_list) (pv 1) (pv 2) (fun _ _ => rfl)) pa_nil))))))) pss_never pss_nil)
    (pss_cons (ps_set (i := 5) sc_parse_system.nd rfl (Or.inl rfl) (pe_ix (show IxR _ (rIxL K) from ix_list) (pv 1) (pv 2) (fun _ _ => rfl)))
    (pss_cons (ps_aug (i := 2) sc_parse_system.nd rfl (Or.inl rfl) pe_int ip_add)
    (pss_cons (ps_if (pt_cmpR op_gt (pe_ix (show IxR _ (rIxD K w) from ix_kdict) (pe_glob (v := .ref dA) (by rfl) AR.m rfl) (pe_ix (show IxR _ (rIxL K) from ix_list) (pv 5) pe_int (fun _ _ => rfl)) (fun _ _ => rfl)) pe_int (nomark _)) pss_never pss_nil)
    (pss_cons (ps_set (i := 6) sc_parse_system.nd rfl (Or.inl rfl) (pe_tup (pa_cons (pe_ix (show IxR _ (rIxL K) from ix_list) (pv 5) pe_int (fun _ _ => rfl)) (pa_cons (pe_callTy call_int_str (by rfl) B.int (by decide +kernel) (pa_cons (pe_ix (show IxR _ (rIxL K) from ix_list) (pv 5) pe_int (fun _ _ => rfl)) pa_nil)) pa_nil))))
    (pss_cons (ps_if (pt_cmpR op_eq (pe_ix (show IxR _ (rIxL K) from ix_list) (pv 5) pe_int (fun _ _ => rfl)) pe_str (nomark _)) (pss_cons (ps_set (i := 7) sc_parse_system.nd rfl (Or.inl rfl) (pe_c (C_threes_from.mono (by omega)) hr pass0 (pa_cons (pv 1) (pa_cons (pv 2) pa_nil))))
    (pss_cons (ps_aug (i := 2) sc_parse_system.nd rfl (Or.inl rfl) (pe_callB (show CallR _ _ (rLenSq K) from call_lenSq) (by rfl) B.len (by decide +kernel) (pa_cons (pv 7) pa_nil)) ip_add)
    (pss_one (ps_set (i := 6) sc_parse_system.nd rfl (Or.inl rfl) (pe_tup (StX.pa_star (pv 6) (pa_cons (pv 7) pa_nil))))))) pss_nil)
    (pss_one (ps_set (i := 3) sc_parse_system.nd rfl (Or.inl rfl) (pe_c (C_joined.mono (by omega)) hr pass0 (pa_cons (pv 4) (pa_cons (pv 6) pa_nil))))))))))))
    (pss_cons (ps_if (pt_cmpR op_lt (pv 2) (pe_callB (show CallR _ _ (rLenSq K) from call_lenSq) (by rfl) B.len (by decide +kernel) (pa_cons (pv 1) pa_nil)) (nomark _)) pss_never pss_nil)
    (pss_one (ps_ret (pe_c (C_checked.mono (by omega)) hr pass0 (pa_cons (pv 3) pa_nil))))))))))), ?_⟩
  have fn := wdF (i := (n : Int)) (by omega) (by omega)
  refine ⟨_, rfl, ⟨_, rfl⟩, _, _, rfl, rfl, by decide +kernel, Nat.le_trans (Nat.add_le_add_right (text_len n60 hT hl) 2) (by decide), fun p0 hp0 => ?_⟩
  rw [split_text n60 hT]
  have s0 := same_new (o := .lst (("system" :: lnsOf n T : List Str).map V.str)) hp0
  have hlen : (("system" :: lnsOf n T : List Str).map V.str).length = T.length + 2 := by
    rw [List.length_map]
    show (T.map lnTri).length + 1 + 1 = _
    rw [List.length_map]
  refine ⟨p0, rfl, ⟨_, .of upd_same⟩, ?_⟩
  have hs0 : SqL K (upd H p0 (.lst (("system" :: lnsOf n T : List Str).map V.str))) p0 (("system" :: lnsOf n T : List Str).map V.str) := .of upd_same
  generalize upd H p0 (.lst (("system" :: lnsOf n T : List Str).map V.str)) = H0 at *
  refine lc_gen (itl_go hs0).1 (itl_go hs0).2 (fun i x H1 H2 s _ y => ⟨y.1, y.2 _ (s.seq hs0)⟩) (fun D i y H' => ∃ pl ws, y = .ref pl ∧ pl ≠ D ∧ (wrds n T)[i]? = some ws ∧ H' pl = some (.lst (ws.map V.str))) (by rw [hlen]; omega)
    (fun D i y H1 H2 s h => by obtain ⟨pl, ws, a, b, c, d⟩ := h; exact ⟨pl, ws, a, b, c, s _ _ d⟩) (fun D i y H1 zs o _ h => by obtain ⟨pl, ws, a, b, c, d⟩ := h; exact ⟨pl, ws, a, b, c, by rw [upd_ne b]; exact d⟩)
    (fun D i x H1 zs hD s1 hD1 ex Q' hQ' => ?_) (fun D xs H1 hD s1 e1 hl1 hR => ?_)
  · rw [List.getElem?_map] at ex
    obtain ⟨l, el, rfl⟩ : ∃ l, ("system" :: lnsOf n T : List Str)[i]? = some l ∧ V.str l = x := by
      cases e : ("system" :: lnsOf n T : List Str)[i]? with
      | none => rw [e] at ex; cases ex
      | some l => rw [e] at ex; exact ⟨l, rfl, Option.some.inj ex⟩
    have hl100 := (len_lines n60 hT l (List.mem_of_getElem? el)).2
    refine ⟨_, rfl, ⟨_, rfl⟩, _, _, rfl, rfl, by decide +kernel, Nat.le_trans (Nat.add_le_add_right hl100 2) (by decide), fun pl hpl => hQ' _ _ (same_new hpl) ⟨pl, _, rfl, fun z => ?_, line_words n60 hT el, upd_same⟩⟩
    rw [z, hD1] at hpl
    cases hpl
  have sH1 := s0.trans s1
  have hL : Lns K H1 xs (wrds n T) := by
    refine ⟨by rw [hl1, hlen, wrds_len], fun i ws hw => ?_⟩
    have hi : i < xs.length := by
      rw [hl1, hlen, ← wrds_len n]
      exact (List.getElem?_eq_some_iff.mp hw).1
    obtain ⟨pl, ws', h1, _, h3, h4⟩ := hR i _ (List.getElem?_eq_getElem hi)
    rw [hw] at h3
    obtain rfl := Option.some.inj h3
    exact ⟨pl, by rw [List.getElem?_eq_getElem hi, h1], .of h4⟩
  have hxl : xs.length = T.length + 2 := by rw [hl1, hlen]
  have hs1 : SqL K H1 D xs := .of e1
  -- lines[0] != ["system"]
  obtain ⟨pa, ea, hpa⟩ := hL.2 0 ["system"] rfl
  obtain ⟨pb, eb, hpb⟩ := hL.2 1 ["listed", wd n] rfl
  refine ⟨_, rfl, D, _, 0, _, rfl, rfl, hs1, atI_nat ea, by show 1 ≤ sizeLine; decide, fun p2 hp2 => ?_⟩
  have s2 := same_new (o := .lst [V.str "system"]) hp2
  refine ⟨.list [.str "system"], .list [.str "system"], .lst (s2.seq hpa) (.cons (.str _) .nil), .lst (.of upd_same) (.cons (.str _) .nil), by decide +kernel, by decide +kernel, _, rfl, ?_⟩
  refine ifb (fun e => absurd e (by decide +kernel)) (fun _ => ?_)
  generalize upd H1 p2 (.lst [V.str "system"]) = H2 at *
  refine ⟨by show 0 ≤ sizeLine; decide, fun wa hwa => ?_⟩
  have s3 := s2.trans (same_new (o := .lst []) hwa)
  have hw3 : upd H2 wa (.lst []) wa = some (.lst []) := upd_same
  generalize upd H2 wa (.lst []) = H3 at *
  have hs3 := s3.seq hs1
  have hpb3 := s3.seq hpb
  have hL3 := hL.same s3
  have sH3 := sH1.trans s3
  refine ⟨fun m σ H' => (m = 1 ∧ σ = [some (.str (text n T)), some (.ref D), some (.int 1), some .non, some (.ref wa), none, none, none, none] ∧ H' = H3) ∨
    (m = 0 ∧ ∃ y5 y6 y7 v, σ = [some (.str (text n T)), some (.ref D), some (.int ((T.length + 2 : Nat) : Int)), some v, some (.ref wa), y5, y6, y7, none] ∧ Same H H' ∧ SqL K H' D xs ∧ Dp K H' v (encL n T)), ⟨1, .inl ⟨rfl, rfl, rfl⟩⟩, fun m σ H' h => ?_⟩
  rcases h with ⟨rfl, rfl, rfl⟩ | ⟨rfl, y5, y6, y7, v, rfl, sm, hsD, hdv⟩
  · refine ⟨_, rfl, rfl, true, rfl, iteT ⟨fun σ' H2 => ∃ y5 y6 y7 v, σ' = [some (.str (text n T)), some (.ref D), some (.int ((T.length + 2 : Nat) : Int)), some v, some (.ref wa), y5, y6, y7, none] ∧ Same H H2 ∧ SqL K H2 D xs ∧ Dp K H2 v (encL n T), fun σ' H2 h2 => ⟨0, by decide, .inr ⟨rfl, h2⟩⟩, ?_⟩⟩
    refine ⟨_, rfl, _, rfl, D, _, rfl, .inl hs3, rfl, _, rfl, ifb (fun e => absurd (vint_t e) (by rw [hxl]; omega)) (fun _ => ?_)⟩
    refine ⟨_, rfl, _, rfl, D, _, _, _, rfl, rfl, hs3, atI_nat (j := 1) eb, pb, _, rfl, hpb3, fn.num, fun H4 s4 => ⟨true, rfl, ifb (fun e => absurd e (by decide)) (fun _ => ?_)⟩⟩
    have hs4 := s4.seq hs3
    have hpb4 := s4.seq hpb3
    refine ⟨_, rfl, _, rfl, D, _, _, _, rfl, rfl, hs4, atI_nat (j := 1) eb, ?_⟩
    refine ⟨_, rfl, _, _, rfl, rfl, ?_⟩
    have kix := AR.ix (x := "listed") (i := 0) (by decide +kernel)
    refine ⟨_, rfl, pb, _, 0, _, rfl, rfl, hpb4, atI_nat (j := 0) rfl, _, _, _, rfl, rfl, kix, _, _, rfl, rfl, _, rfl, ifb (fun e => absurd e (by decide)) (fun _ => ?_)⟩
    refine ⟨_, rfl, pb, _, 0, _, rfl, rfl, hpb4, atI_nat (j := 0) rfl, _, rfl, pb, _, 1, _, rfl, rfl, hpb4, atI_nat (j := 1) rfl, _, _, rfl, fn.int, Nat.le_trans fn.len (by decide), by show 2 ≤ sizeLine; decide, fun p5 hp5 => ?_⟩
    have s5 := s4.trans (same_new (o := .tup [V.str "listed", .int n]) hp5)
    refine ⟨_, rfl, pb, _, 0, _, rfl, rfl, s5.seq hpb3, atI_nat (j := 0) rfl, rfl, _, rfl, ifb (fun _ => ?_) (fun e => absurd e (by decide +kernel))⟩
    refine ⟨_, rfl, _, rfl, D, xs, n, T, rfl, s5.seq hs3, hL3.same s5, hT, hl, fun v6 H6 s6 hd6 => ?_⟩
    obtain ⟨pt, ys, rfl, hys, hda⟩ := dp_tup hd6
    have hyl : ys.length = T.length := by rw [dps_len hda, List.length_map]
    refine ⟨_, rfl, _, rfl, pt, ys, rfl, .inr hys, _, _, rfl, rfl, ?_⟩
    have hp56 : H6 p5 = some (.tup [V.str "listed", .int n]) := s6 _ _ upd_same
    refine ⟨_, rfl, p5, _, rfl, .inl (.of hp56), _, rfl, by show 3 ≤ sizeLine; decide, fun p7 hp7 => ?_⟩
    have s7 := same_new (o := .tup [V.str "listed", .int n, .ref pt]) hp7
    have s37 := (s5.trans s6).trans s7
    refine ⟨_, rfl, _, rfl, wa, _, rfl, .of (s37 _ _ hw3), ?_⟩
    refine ⟨some (.ref pb), some (.ref p7), some (.ref pt), .ref p7, ?_, sH3.trans s37, s37.seq hs3, .tup (.of upd_same) (.cons (.str _) (.cons (.int _) (.cons (dp_same s7 _ _ hd6) .nil)))⟩
    have e2 : (1 : Int) + 1 + (ys.length : Int) = ((T.length + 2 : Nat) : Int) := by omega
    rw [← e2]
    rfl
  · obtain ⟨pv, zs, rfl, hzs, _⟩ := dp_tup hdv
    refine ⟨_, rfl, rfl, false, rfl, iteF ?_⟩
    refine ⟨_, rfl, _, rfl, D, _, rfl, .inl hsD, _, _, rfl, rfl, _, rfl, ifb (fun e => absurd (of_decide_eq_true e) (by rw [hxl]; omega)) (fun _ => ?_)⟩
    exact ⟨_, rfl, _, _, rfl, ok, by show 1 ≤ 3; decide, hdv, fun v8 H8 s8 hd8 => q _ _ (sm.trans s8) hd8⟩
end
end Pj
/-! The trees that the law draws: checked one by one. -/
namespace Pj
open PySem PjM
def partsL : List Tree := [.bose 9, .skolem 7, .affine 1, .binary 3, .listed 3 [(0, 1, 2)], .listed 1 []]
def menu : List Tree := (List.range 5).map (fun i => .bose (6 * i + 3)) ++ ((List.range 5).map (fun i => .skolem (6 * i + 7)) ++ ((List.range 3).map (fun i => .affine (1 + i)) ++ ((List.range 4).map (fun i => .binary (2 + i)) ++
  (partsL.map .dbl ++ (partsL.map (fun p => .dbl (.dbl p)) ++ (partsL.map (.prod (.affine 1)) ++ partsL.map (fun p => .prod p (.bose 3))))))))
def thdB (n : Nat) (f : Int → Int → Int) : Bool := (List.range n).all fun a => (List.range n).all fun b => (a == b) || (let c := f a b; decide (0 ≤ c) && decide (c < n) && decide (c ≠ a) && decide (c ≠ b) && decide (f b a = c) && decide (f a c = b))
theorem thdB_ok {n : Nat} {f : Int → Int → Int} (h : thdB n f = true) : Thd n f := by
  intro a b a0 a1 b0 b1 hn
  obtain ⟨i, rfl⟩ : ∃ i : Nat, a = (i : Int) := ⟨a.toNat, by omega⟩
  obtain ⟨j, rfl⟩ : ∃ j : Nat, b = (j : Int) := ⟨b.toNat, by omega⟩
  have h1 := List.all_eq_true.mp h i (List.mem_range.mpr (by omega))
  have h2 := List.all_eq_true.mp h1 j (List.mem_range.mpr (by omega))
  rcases Bool.or_eq_true _ _ |>.mp h2 with h3 | h3
  · have : i = j := by simpa using h3
    exact absurd (congrArg _ this) hn
  · simp only [Bool.and_eq_true, decide_eq_true_eq] at h3
    obtain ⟨⟨⟨⟨⟨c1, c2⟩, c3⟩, c4⟩, c5⟩, c6⟩ := h3
    exact ⟨c1, c2, c3, c4, c5, c6⟩
def cntB (n : Nat) (f : Int → Int → Int) : Bool := decide (3 * (L n f).length = n * (n - 1) / 2)
theorem cntB_ok {n : Nat} {f : Int → Int → Int} (h : cntB n f = true) : Cnt n f := by
  unfold cntB at h
  have h' : 3 * (L n f).length = n * (n - 1) / 2 := of_decide_eq_true h
  exact h'
def okB : Tree → Bool
  | .bose n => decide (3 ≤ n) && decide (n ≤ 60) && decide (n % 6 = 3)
  | .skolem n => decide (7 ≤ n) && decide (n ≤ 60) && decide (n % 6 = 1)
  | .affine k => decide (1 ≤ k) && decide (k ≤ 5)
  | .binary k => decide (2 ≤ k) && decide (k ≤ 6)
  | .listed n T => decide (1 ≤ n) && decide (n ≤ 60) && (thdB n (thdL T) && (cntB n (thdL T) && decide (T = L n (thdL T))))
  | .dbl t => okB t && decide (t.sz ≤ 1000) && decide (t.parts ≤ 5)
  | .prod s t => okB s && (okB t && (decide (s.sz ≤ 1000) && (decide (t.sz ≤ 1000) && decide (s.parts + t.parts ≤ 5))))
theorem okB_ok : ∀ {t : Tree}, okB t = true → Ok t
  | .bose n, h => by simpa [okB, Ok, and_assoc] using h
  | .skolem n, h => by simpa [okB, Ok, and_assoc] using h
  | .affine n, h => by simpa [okB, Ok, and_assoc] using h
  | .binary n, h => by simpa [okB, Ok, and_assoc] using h
  | .listed n T, h => by
    unfold okB at h
    simp only [Bool.and_eq_true, decide_eq_true_eq] at h
    obtain ⟨⟨h1, h2⟩, h3, h4, h5⟩ := h
    exact ⟨h1, h2, thdL T, thdB_ok h3, cntB_ok h4, h5⟩
  | .dbl t, h => by
    unfold okB at h
    simp only [Bool.and_eq_true, decide_eq_true_eq] at h
    exact ⟨okB_ok h.1.1, h.1.2, h.2⟩
  | .prod s t, h => by
    unfold okB at h
    simp only [Bool.and_eq_true, decide_eq_true_eq] at h
    obtain ⟨h1, h2, h3, h4, h5⟩ := h
    exact ⟨okB_ok h1, okB_ok h2, h3, h4, h5⟩
def chk (t : Tree) : Bool := okB t && (decide (t.ht ≤ 3) && (decide (t.sz ≤ 43) && (thdB t.sz (thd t) && cntB t.sz (thd t))))
theorem menu_chk : menu.all chk = true := by decide +kernel
structure Good (t : Tree) : Prop where
  ok : Ok t
  ht : t.ht ≤ 3
  sz : t.sz ≤ 43
  thd : Thd t.sz (thd t)
  cnt : Cnt t.sz (Pj.thd t)
theorem menu_good {t : Tree} (h : t ∈ menu) : Good t := by
  have e := List.all_eq_true.mp menu_chk t h
  unfold chk at e
  simp only [Bool.and_eq_true, decide_eq_true_eq] at e
  obtain ⟨h1, h2, h3, h4, h5⟩ := e
  exact ⟨okB_ok h1, h2, h3, thdB_ok h4, cntB_ok h5⟩
end Pj
/-! The law's own defs. -/
namespace Pj
open PySem PySem.Spec PyProof.Rows L2 PjM TL
section
variable {P : Program} {w : World} {K : PySem.W.Frag} {mg : Str → Option Value} {base : Heap} {dA CQ : Addr}
def NatsB (ns : List Int) : Prop := ∀ x ∈ ns, 0 ≤ x ∧ x < 1009
theorem NatsB.snoc {ns : List Int} {x : Int} (h : NatsB ns) (h0 : 0 ≤ x) (h1 : x < 1009) : NatsB (ns ++ [x]) := fun y hy => by
  rcases List.mem_append.mp hy with hy | hy
  · exact h y hy
  · obtain rfl := List.mem_singleton.mp hy
    exact ⟨h0, h1⟩
abbrev N_law_row : List Str := ["_law_cell", "_law_many", "_law_row_here", "_law_rest", "_law_mixed", "_law_k"]
abbrev s_law_row : Stmt := top 60
theorem sc_law_row : FnScope N_law_row ["_law_cell", "_law_many"] (defScope s_law_row) := ⟨rfl, rfl, rfl, by decide +kernel, rfl, by decide +kernel, by decide +kernel⟩
def spRow : Sp := fun vs H Q _ => ∃ (c : Int) (m : Nat), vs = [.int c, .int m] ∧ m ≤ 1000 ∧ ∀ a H' ns, Same H H' → H a = none → H' a = some (.lst (ns.map V.int)) → ns.length = m → NatsB ns → Q (.ref a) H'
theorem ok_law_row {f : Addr} {fd : FuncData} (F : Fun K "_law_row" "_law_row" s_law_row f fd) (B : Blt mg) : FnOk P w K mg base CX0 1 f fd ["_law_cell", "_law_many"] spRow := by
  refine F.ok sc_law_row (fun vs H Q E h => ?_) (fun cdv A outer s H vs Q E hr h => ?_)
  · obtain ⟨c, m, rfl, _⟩ := h
    rfl
  obtain ⟨c, m, rfl, hm, q⟩ := h
  refine ⟨_, PSs.nox (pss_cons (ps_set (i := 2) sc_law_row.nd rfl (Or.inl rfl) (pe_lst pa_nil))
    (pss_cons (ps_set (i := 3) sc_law_row.nd rfl (Or.inl rfl) (pe_callB call_abs (by rfl) B.abs (by decide +kernel) (pa_cons (pv 0) pa_nil)))
    (pss_cons (ps_set (i := 4) sc_law_row.nd rfl (Or.inl rfl) (pe_op op_mod (pe_callTy call_int1 (by rfl) B.int (by decide +kernel) (pa_cons (pe_op op_add (pe_op op_mul (pv 3) pe_int) pe_int) pa_nil)) pe_int))
    (pss_cons (ps_for PassesOwn.never rfl (pi_range1 (by rfl) B.range (pa_cons (pv 1) pa_nil)) (pg_name (i := 5) sc_law_row.nd rfl (Or.inl rfl)) (pss_cons (ps_set (i := 4) sc_law_row.nd rfl (Or.inl rfl) (pe_op op_mod (pe_callTy call_int1 (by rfl) B.int (by decide +kernel) (pa_cons (pe_op op_add (pe_op op_mul (pv 4) pe_int) (pe_op op_mul pe_int (pe_op op_add (pv 5) pe_int))) pa_nil)) pe_int))
    (pss_one (ps_if (pt_cmpR op_ge (pe_callB call_abs (by rfl) B.abs (by decide +kernel) (pa_cons (pv 0) pa_nil)) (pe_op op_pow pe_int pe_int) (nomark _)) (pss_cons (ps_expr (pe_bm PySem.F.plainAttrs_list PySem.F.slot_list_append PySem.F.type_list_append mt_append (pv 2) (pa_cons (pe_op op_mod (pe_callTy call_int1 (by rfl) B.int (by decide +kernel) (pa_cons (pv 3) pa_nil)) pe_int) pa_nil)))
    (pss_one (ps_set (i := 3) sc_law_row.nd rfl (Or.inl rfl) (pe_op op_fdiv (pv 3) pe_int)))) (pss_one (ps_expr (pe_bm PySem.F.plainAttrs_list PySem.F.slot_list_append PySem.F.type_list_append mt_append (pv 2) (pa_cons (pe_op op_mod (pe_callTy call_int1 (by rfl) B.int (by decide +kernel) (pa_cons (pe_op op_fdiv (pv 4) pe_int) pa_nil)) pe_int) pa_nil))))))))
    (pss_one (ps_ret (pv 2))))))), ?_⟩
  refine ⟨by show 0 ≤ sizeLine; decide, fun fo hfo => ?_⟩
  have hHfo : H fo = none := hfo
  refine ⟨_, rfl, c, rfl, ?_⟩
  refine ⟨_, rfl, _, _, rfl, rfl, .inr ⟨by decide, by decide⟩, _, _, rfl, rfl, .inl ⟨_, rfl, _, _, rfl, rfl, (show (0 : Int) < 2147483647 by decide), ?_⟩⟩
  have h0 : 0 ≤ (if c < 0 then -c else c) := by split <;> omega
  generalize (if c < 0 then -c else c) = ac at *
  have hx0 := Int.emod_nonneg (ac * 48271 + 69621) (show (2147483647 : Int) ≠ 0 by decide)
  have hx1 := Int.emod_lt_of_pos (ac * 48271 + 69621) (show (0 : Int) < 2147483647 by decide)
  refine ⟨_, rfl, _, rfl, by omega, by omega, for_range (lo := 0) (n := m) (fun i σ H' => ∃ (r x : Int) (y5 : Option V) (ns : List Int), σ = [some (.int c), some (.int m), some (.ref fo), some (.int r), some (.int x), y5] ∧ 0 ≤ r ∧ (0 ≤ x ∧ x < 2147483647) ∧ Same H H' ∧ H' fo = some (.lst (ns.map V.int)) ∧ ns.length = i ∧ NatsB ns)
    ⟨_, _, none, [], rfl, h0, ⟨hx0, hx1⟩, same_new hfo, upd_same, rfl, fun _ h => by cases h⟩ (fun i σ H' hi hp => ?_) (fun σ H' hp => ?_)⟩
  · obtain ⟨r, x, y5, ns, rfl, r0, ⟨x0, x1⟩, sm, hfo', hnl, hnb⟩ := hp
    refine ⟨_, rfl, _, _, rfl, rfl, .inr ⟨by decide, by decide⟩, _, rfl, _, _, rfl, rfl, _, _, rfl, rfl, .inl ⟨by decide, by decide⟩, _, _, rfl, rfl, .inl ⟨_, rfl, _, _, rfl, rfl, (show (0 : Int) < 2147483629 by decide), ?_⟩⟩
    have m0 := Int.emod_nonneg (x * 16807 + 271 * (0 + (i : Int) + 3)) (show (2147483629 : Int) ≠ 0 by decide)
    have m1 := Int.emod_lt_of_pos (x * 16807 + 271 * (0 + (i : Int) + 3)) (show (0 : Int) < 2147483629 by decide)
    have hlt : (ns.map V.int).length < sizeLine := by
      rw [List.length_map, hnl]
      exact Nat.lt_of_le_of_lt (by omega : _ ≤ 1000) (by decide)
    refine ⟨_, rfl, c, rfl, _, _, rfl, rfl, ⟨by decide, by decide, by decide⟩, _, _, rfl, rfl, _, rfl, ifb (fun _ => ?_) (fun _ => ?_)⟩
    · refine ⟨_, rfl, .inl ⟨rfl, _, SqL.of hfo'⟩, _, rfl, .inl ⟨_, rfl, _, _, rfl, rfl, (show (0 : Int) < 1009 by decide), fo, _, _, rfl, rfl, hfo', hlt, ?_⟩⟩
      refine ⟨_, rfl, _, _, rfl, rfl, ⟨by decide, by decide⟩, ?_⟩
      exact ⟨_, _, _, ns ++ [r % 1009], rfl, Int.ediv_nonneg r0 (by decide), ⟨m0, by omega⟩, same_mut sm hHfo, by rw [upd_same, List.map_append]; rfl, by rw [List.length_append, hnl]; rfl, hnb.snoc (Int.emod_nonneg _ (by decide)) (Int.emod_lt_of_pos _ (by decide))⟩
    · refine ⟨_, rfl, .inl ⟨rfl, _, SqL.of hfo'⟩, _, rfl, _, _, rfl, rfl, ⟨by decide, by decide⟩, .inl ⟨_, rfl, _, _, rfl, rfl, (show (0 : Int) < 1009 by decide), fo, _, _, rfl, rfl, hfo', hlt, ?_⟩⟩
      exact ⟨_, _, _, ns ++ [_ / 7 % 1009], rfl, r0, ⟨m0, by omega⟩, same_mut sm hHfo, by rw [upd_same, List.map_append]; rfl, by rw [List.length_append, hnl]; rfl, hnb.snoc (Int.emod_nonneg _ (by decide)) (Int.emod_lt_of_pos _ (by decide))⟩
  · obtain ⟨r, x, y5, ns, rfl, r0, hx, sm, hfo', hnl, hnb⟩ := hp
    exact ⟨_, rfl, q fo H' ns sm hHfo hfo' hnl hnb⟩
/-! ### _law_numbers -/
abbrev N_law_numbers : List Str := ["_law_script", "_law_many", "_law_cells", "_law_each", "_law_numbers_here", "_law_cell", "_law_number"]
abbrev s_law_numbers : Stmt := top 61
theorem sc_law_numbers : FnScope N_law_numbers ["_law_script", "_law_many"] (defScope s_law_numbers) := ⟨rfl, rfl, rfl, by decide +kernel, rfl, by decide +kernel, by decide +kernel⟩
def spNumbers (K : PySem.W.Frag) : Sp := fun vs H Q _ => ∃ (a : Addr) (ns : List Int), vs = [.ref a, .int 100] ∧ SqL K H a (ns.map V.int) ∧ ns.length ≤ 63 ∧ ∀ a' H' zs, Same H H' → H' a' = some (.lst (zs.map V.int)) → zs.length = 100 → NatsB zs → Q (.ref a') H'
theorem cut_to (xs : List V) (k : Nat) : cutV xs none (some (k : Int)) = xs.take k := by
  unfold cutV
  rw [HT.sIx_nat]
  show (xs.drop 0).take (min k xs.length - 0) = xs.take k
  rw [List.drop_zero, Nat.sub_zero]
  by_cases h : k ≤ xs.length
  · rw [Nat.min_eq_left h]
  · rw [Nat.min_eq_right (by omega), List.take_of_length_le (Nat.le_refl _), List.take_of_length_le (by omega)]
theorem NatsB.take {ns : List Int} (h : NatsB ns) (k : Nat) : NatsB (ns.take k) := fun x hx => h x (List.mem_of_mem_take hx)
theorem NatsB.app {ns ms : List Int} (h : NatsB ns) (h' : NatsB ms) : NatsB (ns ++ ms) := fun x hx => by
  rcases List.mem_append.mp hx with hx | hx
  · exact h x hx
  · exact h' x hx
theorem ok_law_numbers {f : Addr} {fd : FuncData} (F : Fun K "_law_numbers" "_law_numbers" s_law_numbers f fd) (B : Blt mg) (C_law_row : Cal P w K mg base CX0 1 "_law_row" ["_law_cell", "_law_many"] [] spRow) : FnOk P w K mg base CX0 2 f fd ["_law_script", "_law_many"] (spNumbers K) := by
  refine F.ok sc_law_numbers (fun vs H Q E h => ?_) (fun cdv A outer s H vs Q E hr h => ?_)
  · obtain ⟨a, ns, rfl, _⟩ := h
    rfl
  obtain ⟨a, ns, rfl, hs, hl, q⟩ := h
  refine ⟨_, PSs.nox (pss_cons (ps_set (i := 2) sc_law_numbers.nd rfl (Or.inl rfl) (pe_slice (show SlR _ (rSlL K) from sl_list) (pv 0) po_none (po_some pe_int)))
    (pss_cons (ps_set (i := 3) sc_law_numbers.nd rfl (Or.inl rfl) (pe_op op_add pe_int (pe_op op_fdiv (pv 1) (pe_callB (call_max2 rfl) (by rfl) B.max (by decide +kernel) (pa_cons pe_int (pa_cons (pe_callB (show CallR _ _ (rLenSq K) from call_lenSq) (by rfl) B.len (by decide +kernel) (pa_cons (pv 2) pa_nil)) pa_nil))))))
    (pss_cons (ps_set (i := 4) sc_law_numbers.nd rfl (Or.inl rfl) (pe_lst pa_nil))
    (pss_cons (ps_for PassesOwn.never rfl (pi_list (pv 2)) (pg_name (i := 5) sc_law_numbers.nd rfl (Or.inl rfl)) (pss_one (ps_for PassesOwn.never rfl (pi_list (pe_c (C_law_row.mono (by omega)) hr pass0 (pa_cons (pv 5) (pa_cons (pv 3) pa_nil)))) (pg_name (i := 6) sc_law_numbers.nd rfl (Or.inl rfl)) (pss_one (ps_expr (pe_bm PySem.F.plainAttrs_list PySem.F.slot_list_append PySem.F.type_list_append mt_append (pv 4) (pa_cons (pv 6) pa_nil)))))))
    (pss_cons (ps_while PassesOwn.never (pt_cmpR op_lt (pe_callB (show CallR _ _ (rLenSq K) from call_lenSq) (by rfl) B.len (by decide +kernel) (pa_cons (pv 4) pa_nil)) (pv 1) (nomark _)) (pss_one (ps_expr (pe_bm PySem.F.plainAttrs_list PySem.F.slot_list_append PySem.F.type_list_append mt_append (pv 4) (pa_cons pe_int pa_nil)))))
    (pss_one (ps_ret (pe_slice (show SlR _ (rSlL K) from sl_list) (pv 4) po_none (po_some (pv 1)))))))))), ?_⟩
  refine ⟨_, rfl, 63, rfl, a, _, rfl, hs, fun pc hpc => ?_⟩
  have ec : cutV (ns.map V.int) none (some (63 : Int)) = ns.map V.int := (cut_to _ 63).trans (List.take_of_length_le (by rw [List.length_map]; exact hl))
  rw [ec]
  have s1 := same_new (o := .lst (ns.map V.int)) hpc
  have hpc1 : upd H pc (.lst (ns.map V.int)) pc = some (.lst (ns.map V.int)) := upd_same
  generalize upd H pc (.lst (ns.map V.int)) = H1 at *
  obtain ⟨e, he, he1⟩ : ∃ e : Nat, 1 + (100 : Int) / (if ((ns.length : Nat) : Int) > 1 then ((ns.length : Nat) : Int) else 1) = (e : Int) ∧ e ≤ 101 := by
    have h1 : (1 : Int) ≤ (if ((ns.length : Nat) : Int) > 1 then ((ns.length : Nat) : Int) else 1) := by split <;> omega
    have h2 := Int.ediv_nonneg (show (0 : Int) ≤ 100 by decide) (by omega : (0 : Int) ≤ (if ((ns.length : Nat) : Int) > 1 then ((ns.length : Nat) : Int) else 1))
    have h3 := Int.ediv_le_self (if ((ns.length : Nat) : Int) > 1 then ((ns.length : Nat) : Int) else 1) (show (0 : Int) ≤ 100 by decide)
    exact ⟨(1 + (100 : Int) / (if ((ns.length : Nat) : Int) > 1 then ((ns.length : Nat) : Int) else 1)).toNat, by omega, by omega⟩
  refine ⟨_, rfl, _, rfl, pc, _, rfl, .inl (.of hpc1), _, _, rfl, _, _, rfl, rfl, ⟨?_, ?_⟩, _, _, rfl, rfl, ?_⟩
  · split <;> omega
  · rw [List.length_map]
    split <;> omega
  rw [List.length_map]
  refine ⟨by show 0 ≤ sizeLine; decide, fun fo hfo => ?_⟩
  have s2 := s1.trans (same_new (o := .lst []) hfo)
  have hHfo : H fo = none := s1.free hfo
  have nfc : fo ≠ pc := fun z => by rw [z, hpc1] at hfo; cases hfo
  refine ⟨_, rfl, pc, rfl, ⟨_, .of (by rw [upd_ne nfc.symm]; exact hpc1)⟩, for_list (xs := ns.map V.int) (fun i σ H' => ∃ (y5 y6 : Option V) (zs : List Int), σ = [some (.ref a), some (.int 100), some (.ref pc), some (.int e), some (.ref fo), y5, y6] ∧ Same H H' ∧ H' pc = some (.lst (ns.map V.int)) ∧ H' fo = some (.lst (zs.map V.int)) ∧ zs.length = i * e ∧ NatsB zs)
    ⟨none, none, [], by rw [← he]; rfl, s2, by rw [upd_ne nfc.symm]; exact hpc1, upd_same, by rw [Nat.zero_mul]; rfl, fun _ h => by cases h⟩ (fun i σ H' _ hp => by obtain ⟨_, _, _, _, _, h, _⟩ := hp; exact .of h) (fun i x σ H' hi hp => ?_) (fun σ H' hp => ?_)⟩
  · obtain ⟨y5, y6, zs, rfl, sm, hpc', hfo', hzl, hzb⟩ := hp
    have hi63 : i < 63 := by
      have := (List.getElem?_eq_some_iff.mp hi).1
      rw [List.length_map] at this
      omega
    obtain ⟨c, rfl⟩ : ∃ c, x = V.int c := by
      rw [List.getElem?_map] at hi
      cases en : ns[i]? with
      | none => rw [en] at hi; cases hi
      | some n => rw [en] at hi; exact ⟨n, (Option.some.inj hi).symm⟩
    refine ⟨_, rfl, _, rfl, c, e, rfl, by omega, fun pr H2 row s3 hpr hpr2 hrl hrb => ?_⟩
    have npr : pr ≠ fo := fun z => by rw [z, hfo'] at hpr; cases hpr
    refine ⟨pr, rfl, ⟨_, .of hpr2⟩, for_list (xs := row.map V.int) (fun j σ H' => ∃ (y5 y6 : Option V), σ = [some (.ref a), some (.int 100), some (.ref pc), some (.int e), some (.ref fo), y5, y6] ∧ Same H H' ∧ H' pc = some (.lst (ns.map V.int)) ∧ H' pr = some (.lst (row.map V.int)) ∧ H' fo = some (.lst ((zs ++ row.take j).map V.int)))
      ⟨_, y6, rfl, sm.trans s3, s3 _ _ hpc', hpr2, by rw [List.take_zero, List.append_nil]; exact s3 _ _ hfo'⟩ (fun j σ H' _ hp => by obtain ⟨_, _, _, _, _, h, _⟩ := hp; exact .of h) (fun j x σ H' hj hp => ?_) (fun σ H' hp => ?_)⟩
    · obtain ⟨y5, y6, rfl, sm, hpc', hpr', hfo'⟩ := hp
      have hj' : j < e := by
        have := (List.getElem?_eq_some_iff.mp hj).1
        rw [List.length_map, hrl] at this
        exact this
      obtain ⟨c2, ec2, rfl⟩ : ∃ c, row[j]? = some c ∧ V.int c = x := by
        rw [List.getElem?_map] at hj
        cases en : row[j]? with
        | none => rw [en] at hj; cases hj
        | some n => rw [en] at hj; exact ⟨n, rfl, Option.some.inj hj⟩
      refine ⟨_, rfl, .inl ⟨rfl, _, SqL.of hfo'⟩, _, rfl, fo, _, _, rfl, rfl, hfo', ?_, ?_⟩
      · rw [List.length_map, List.length_append, hzl, List.length_take]
        have : i * e ≤ 63 * 101 := Nat.mul_le_mul (by omega) he1
        exact Nat.lt_of_le_of_lt (by omega : _ ≤ 10000) (by decide)
      · exact ⟨_, _, rfl, same_mut sm hHfo, by rw [upd_ne nfc.symm]; exact hpc', by rw [upd_ne npr]; exact hpr', by rw [upd_same, List.take_add_one, ec2, ← List.append_assoc, List.map_append (l₁ := zs ++ _)]; rfl⟩
    · obtain ⟨y5, y6, rfl, sm, hpc', hpr', hfo'⟩ := hp
      rw [List.length_map, List.take_length] at hfo'
      exact ⟨_, _, _, rfl, sm, hpc', hfo', by rw [List.length_append, hzl, hrl, Nat.succ_mul], hzb.app hrb⟩
  · obtain ⟨y5, y6, zs, rfl, sm, hpc', hfo', hzl, hzb⟩ := hp
    rw [List.length_map] at hzl
    have hz7 : zs.length ≤ 10000 := by
      have : ns.length * e ≤ 63 * 101 := Nat.mul_le_mul hl he1
      omega
    refine ⟨fun m σ H' => ∃ zs : List Int, m = 100 - zs.length ∧ σ = [some (.ref a), some (.int 100), some (.ref pc), some (.int e), some (.ref fo), y5, y6] ∧ Same H H' ∧ H' fo = some (.lst (zs.map V.int)) ∧ zs.length ≤ 10000 ∧ NatsB zs, ⟨_, zs, rfl, rfl, sm, hfo', hz7, hzb⟩, fun m σ H' h => ?_⟩
    obtain ⟨zs, rfl, rfl, sm, hfo', hz7, hzb⟩ := h
    refine ⟨_, rfl, fo, _, rfl, .inl (.of hfo'), _, rfl, _, _, rfl, rfl, _, rfl, ?_⟩
    rw [List.length_map]
    by_cases hlt : zs.length < 100
    · rw [decide_eq_true (show ((zs.length : Nat) : Int) < 100 by omega)]
      refine iteT ⟨fun σ' H2 => ∃ zs2 : List Int, 100 - zs2.length < 100 - zs.length ∧ σ' = [some (.ref a), some (.int 100), some (.ref pc), some (.int e), some (.ref fo), y5, y6] ∧ Same H H2 ∧ H2 fo = some (.lst (zs2.map V.int)) ∧ zs2.length ≤ 10000 ∧ NatsB zs2, fun σ' H2 h2 => ?_, ?_⟩
      · obtain ⟨zs2, h1, h2⟩ := h2
        exact ⟨_, h1, zs2, rfl, h2⟩
      · refine ⟨_, rfl, .inl ⟨rfl, _, SqL.of hfo'⟩, fo, _, _, rfl, rfl, hfo', ?_, ?_⟩
        · rw [List.length_map]
          exact Nat.lt_of_le_of_lt hz7 (by decide)
        · exact ⟨zs ++ [0], by rw [List.length_append]; show 100 - (zs.length + 1) < _; omega, rfl, same_mut sm hHfo, by rw [upd_same, List.map_append]; rfl, by rw [List.length_append]; show zs.length + 1 ≤ _; omega, hzb.snoc (by decide) (by decide)⟩
    · rw [decide_eq_false (show ¬ ((zs.length : Nat) : Int) < 100 by omega)]
      refine iteF ⟨_, rfl, _, rfl, 100, rfl, fo, _, rfl, .of hfo', fun p1 hp1 => ?_⟩
      have e2 : cutV (zs.map V.int) none (some (100 : Int)) = (zs.take 100).map V.int := (cut_to _ 100).trans (by rw [List.map_take])
      rw [e2]
      exact q p1 _ (zs.take 100) (sm.trans (same_new hp1)) upd_same (by rw [List.length_take]; omega) (hzb.take _)
/-! ### _law_names -/
theorem map_erase {α β : Type} (g : α → β) : ∀ (l : List α) (i : Nat), (l.map g).eraseIdx i = (l.eraseIdx i).map g
  | [], _ => rfl
  | _ :: _, 0 => rfl
  | a :: l, i + 1 => congrArg (g a :: ·) (map_erase g l i)
theorem get_erase_perm {α : Type} : ∀ {l : List α} {i : Nat} (h : i < l.length), (l[i] :: l.eraseIdx i).Perm l
  | _ :: _, 0, _ => .refl _
  | a :: l, i + 1, h => (List.Perm.swap _ _ _).trans ((get_erase_perm (l := l) (i := i) (Nat.lt_of_succ_lt_succ h)).cons a)
abbrev N_law_names : List Str := ["_law_numbers_here", "_law_at", "_law_count", "_law_left", "_law_found", "_law_k"]
abbrev s_law_names : Stmt := top 63
theorem sc_law_names : FnScope N_law_names ["_law_numbers_here", "_law_at", "_law_count"] (defScope s_law_names) := ⟨rfl, rfl, rfl, by decide +kernel, rfl, by decide +kernel, by decide +kernel⟩
def spNames (K : PySem.W.Frag) : Sp := fun vs H Q _ => ∃ (a : Addr) (ns : List Int) (p c : Nat), vs = [.ref a, .int p, .int c] ∧ SqL K H a (ns.map V.int) ∧ NatsB ns ∧ p + c ≤ ns.length ∧ c ≤ 100 ∧ ∀ a' H' zs, Same H H' → H' a' = some (.lst (zs.map V.int)) → Nm c zs → Q (.ref a') H'
theorem seq_nat {n : Nat} {i : Int} (h0 : 0 ≤ i) (h1 : i < n) : seqIndex? i n = some i.toNat := by
  unfold seqIndex?
  rw [if_neg (by omega : ¬ i < 0)]
  simp [h0, h1]
theorem ok_law_names {f : Addr} {fd : FuncData} (F : Fun K "_law_names" "_law_names" s_law_names f fd) (B : Blt mg) : FnOk P w K mg base CX0 1 f fd ["_law_numbers_here", "_law_at", "_law_count"] (spNames K) := by
  refine F.ok sc_law_names (fun vs H Q E h => ?_) (fun cdv A outer s H vs Q E hr h => ?_)
  · obtain ⟨a, ns, p, c, rfl, _⟩ := h
    rfl
  obtain ⟨a, ns, p, c, rfl, hs, hnb, hpc, hc, q⟩ := h
  refine ⟨_, PSs.nox (pss_cons (ps_set (i := 3) sc_law_names.nd rfl (Or.inl rfl) (pe_listRg rfl (by rfl) B.list (prg_1 (by rfl) B.range (pv 2))))
    (pss_cons (ps_set (i := 4) sc_law_names.nd rfl (Or.inl rfl) (pe_lst pa_nil))
    (pss_cons (ps_for PassesOwn.never rfl (pi_range1 (by rfl) B.range (pa_cons (pv 2) pa_nil)) (pg_name (i := 5) sc_law_names.nd rfl (Or.inl rfl)) (pss_one (ps_expr (pe_bm PySem.F.plainAttrs_list PySem.F.slot_list_append PySem.F.type_list_append mt_append (pv 4) (pa_cons (pe_bm PySem.F.plainAttrs_list PySem.F.slot_list_pop PySem.F.type_list_pop mt_popAt (pv 3) (pa_cons (pe_op op_mod (pe_callTy call_int1 (by rfl) B.int (by decide +kernel) (pa_cons (pe_ix (show IxR _ (rIxL K) from ix_list) (pv 0) (pe_op op_add (pv 1) (pv 5)) (fun _ _ => rfl)) pa_nil)) (pe_callB (show CallR _ _ (rLenSq K) from call_lenSq) (by rfl) B.len (by decide +kernel) (pa_cons (pv 3) pa_nil))) pa_nil)) pa_nil)))))
    (pss_one (ps_ret (pv 4)))))), ?_⟩
  refine ⟨_, rfl, _, rfl, RgOk.of_le (by omega) (by omega) (by omega) (by omega), fun pl hpl => ?_⟩
  rw [rgV_iota]
  have s1 := same_new (o := .lst ((iota c).map V.int)) hpl
  have hHpl : H pl = none := hpl
  refine ⟨by show 0 ≤ sizeLine; decide, fun pf hpf => ?_⟩
  have hHpf : H pf = none := s1.free hpf
  have nlf : pl ≠ pf := fun z => by rw [← z, upd_same] at hpf; cases hpf
  have s2 := s1.trans (same_new (o := .lst []) hpf)
  refine ⟨_, rfl, _, rfl, by omega, by omega, for_range (lo := 0) (n := c) (fun i σ H' => ∃ (y5 : Option V) (xs zs : List Int), σ = [some (.ref a), some (.int p), some (.int c), some (.ref pl), some (.ref pf), y5] ∧ Same H H' ∧ H' pl = some (.lst (xs.map V.int)) ∧ H' pf = some (.lst (zs.map V.int)) ∧ zs.length = i ∧ (zs ++ xs).Perm (iota c))
    ⟨none, iota c, [], rfl, s2, by rw [upd_ne nlf, upd_same], upd_same, rfl, .refl _⟩ (fun i σ H' hi hp => ?_) (fun σ H' hp => ?_)⟩
  · obtain ⟨y5, xs, zs, rfl, sm, hpl', hpf', hzl, hperm⟩ := hp
    have hxl : zs.length + xs.length = c := by
      have := hperm.length_eq
      rw [List.length_append, iota_len] at this
      exact this
    have hx0 : 0 < xs.length := by omega
    have hix : ns[p + i]? = some (ns[p + i]'(by omega)) := List.getElem?_eq_getElem (by omega)
    obtain ⟨b0, b1⟩ := hnb _ (List.mem_of_getElem? hix)
    generalize ns[p + i]'(by omega) = b at *
    have hat : atI (ns.map V.int) ((p : Int) + (0 + (i : Int))) = some (V.int b) := by
      have e : (p : Int) + (0 + (i : Int)) = ((p + i : Nat) : Int) := by omega
      rw [e]
      refine atI_nat ?_
      rw [List.getElem?_map, hix]
      rfl
    have k0 := Int.emod_nonneg b (show (xs.length : Int) ≠ 0 by omega)
    have k1 := Int.emod_lt_of_pos b (show (0 : Int) < xs.length by omega)
    have hk : (b % (xs.length : Int)).toNat < xs.length := by omega
    have hget : (xs.map V.int)[(b % (xs.length : Int)).toNat]? = some (V.int (xs[(b % (xs.length : Int)).toNat]'hk)) := by
      rw [List.getElem?_map, List.getElem?_eq_getElem hk]
      rfl
    have hsq : seqIndex? (b % (xs.length : Int)) (xs.map V.int).length = some (b % (xs.length : Int)).toNat := by
      rw [List.length_map]
      exact seq_nat k0 k1
    refine ⟨_, rfl, .inl ⟨rfl, _, SqL.of hpf'⟩, _, rfl, .inl ⟨rfl, _, SqL.of hpl'⟩, _, rfl, _, rfl, _, rfl, _, _, rfl, rfl, a, _, _, _, rfl, rfl, sm.seq hs, hat, .inl ⟨_, rfl, _, rfl, pl, _, rfl, .inl (.of hpl'), _, _, rfl, rfl, ?_, ?_⟩⟩
    · show (0 : Int) < ((xs.map V.int).length : Int)
      rw [List.length_map]
      omega
    have el : ((xs.map V.int).length : Int) = (xs.length : Int) := by rw [List.length_map]
    refine ⟨pl, _, b % (xs.length : Int), (b % (xs.length : Int)).toNat, _, rfl, by rw [el], hpl', by omega, by omega, hsq, hget, ?_⟩
    have hpf2 : ∀ o, upd H' pl o pf = some (.lst (zs.map V.int)) := fun o => by rw [upd_ne nlf.symm]; exact hpf'
    refine ⟨pf, _, _, rfl, rfl, hpf2 _, ?_, ?_⟩
    · rw [List.length_map, hzl]
      exact Nat.lt_of_le_of_lt (by omega : _ ≤ 100) (by decide)
    · refine ⟨_, xs.eraseIdx (b % (xs.length : Int)).toNat, zs ++ [xs[(b % (xs.length : Int)).toNat]'hk], rfl, same_mut (same_mut sm hHpl) hHpf, by rw [upd_ne nlf, upd_same, map_erase], by rw [upd_same, List.map_append]; rfl, by rw [List.length_append, hzl]; rfl, ?_⟩
      rw [List.append_assoc]
      exact ((get_erase_perm hk).append_left zs).trans hperm
  · obtain ⟨y5, xs, zs, rfl, sm, hpl', hpf', hzl, hperm⟩ := hp
    have hx0 : xs = [] := by
      have := hperm.length_eq
      rw [List.length_append, iota_len] at this
      exact List.length_eq_zero_iff.mp (by omega)
    subst hx0
    rw [List.append_nil] at hperm
    exact ⟨_, rfl, q pf H' zs sm hpf' hperm⟩
/-! ### _law_small -/
theorem dp_int_of {K : PySem.W.Frag} {H : Hp} {i j : Int} (h : i = j) : Dp K H (.int i) (.int j) := by
  rw [h]
  exact .int j
theorem mem_bose {m : Nat} (h : m < 5) : Tree.bose (6 * m + 3) ∈ menu := List.mem_append.mpr (.inl (List.mem_map.mpr ⟨m, List.mem_range.mpr h, rfl⟩))
theorem mem_skolem {m : Nat} (h : m < 5) : Tree.skolem (6 * m + 7) ∈ menu := List.mem_append.mpr (.inr (List.mem_append.mpr (.inl (List.mem_map.mpr ⟨m, List.mem_range.mpr h, rfl⟩))))
theorem mem_affine {m : Nat} (h : m < 3) : Tree.affine (1 + m) ∈ menu := List.mem_append.mpr (.inr (List.mem_append.mpr (.inr (List.mem_append.mpr (.inl (List.mem_map.mpr ⟨m, List.mem_range.mpr h, rfl⟩))))))
theorem mem_binary {m : Nat} (h : m < 4) : Tree.binary (2 + m) ∈ menu := List.mem_append.mpr (.inr (List.mem_append.mpr (.inr (List.mem_append.mpr (.inr (List.mem_append.mpr (.inl (List.mem_map.mpr ⟨m, List.mem_range.mpr h, rfl⟩))))))))
theorem mem_rest {t : Tree} (h : t ∈ (partsL.map .dbl ++ (partsL.map (fun p => .dbl (.dbl p)) ++ (partsL.map (.prod (.affine 1)) ++ partsL.map (fun p => .prod p (.bose 3)))) : List Tree)) : t ∈ menu := List.mem_append.mpr (.inr (List.mem_append.mpr (.inr (List.mem_append.mpr (.inr (List.mem_append.mpr (.inr h)))))))
theorem mem_dbl {t : Tree} (h : t ∈ partsL) : Tree.dbl t ∈ menu := mem_rest (List.mem_append.mpr (.inl (List.mem_map.mpr ⟨t, h, rfl⟩)))
theorem mem_dbl2 {t : Tree} (h : t ∈ partsL) : Tree.dbl (.dbl t) ∈ menu := mem_rest (List.mem_append.mpr (.inr (List.mem_append.mpr (.inl (List.mem_map.mpr ⟨t, h, rfl⟩)))))
theorem mem_pa {t : Tree} (h : t ∈ partsL) : Tree.prod (.affine 1) t ∈ menu := mem_rest (List.mem_append.mpr (.inr (List.mem_append.mpr (.inr (List.mem_append.mpr (.inl (List.mem_map.mpr ⟨t, h, rfl⟩)))))))
theorem mem_pb {t : Tree} (h : t ∈ partsL) : Tree.prod t (.bose 3) ∈ menu := mem_rest (List.mem_append.mpr (.inr (List.mem_append.mpr (.inr (List.mem_append.mpr (.inr (List.mem_map.mpr ⟨t, h, rfl⟩)))))))
abbrev N_law_small : List Str := ["_law_numbers_here", "_law_at", "_law_kind", "_law_number", "_law_part"]
abbrev s_law_small : Stmt := top 62
theorem sc_law_small : FnScope N_law_small ["_law_numbers_here", "_law_at"] (defScope s_law_small) := ⟨rfl, rfl, rfl, by decide +kernel, rfl, by decide +kernel, by decide +kernel⟩
def spSmallT (K : PySem.W.Frag) : Sp := fun vs H Q _ => ∃ (a : Addr) (ns : List Int), vs = [.ref a, .int 0] ∧ SqL K H a (ns.map V.int) ∧ NatsB ns ∧ ns.length = 100 ∧ ∀ t v' H', t ∈ menu → Same H H' → Dp K H' v' (enc t) → Q v' H'
theorem ok_law_small {f : Addr} {fd : FuncData} (F : Fun K "_law_small" "_law_small" s_law_small f fd) (B : Blt mg) : FnOk P w K mg base CX0 1 f fd ["_law_numbers_here", "_law_at"] (spSmallT K) := by
  refine F.ok sc_law_small (fun vs H Q E h => ?_) (fun cdv A outer s H vs Q E hr h => ?_)
  · obtain ⟨a, ns, rfl, _⟩ := h
    rfl
  obtain ⟨a, ns, rfl, hs, hnb, hl, q⟩ := h
  refine ⟨_, (pss_cons (ps_set (i := 2) sc_law_small.nd rfl (Or.inl rfl) (pe_op op_mod (pe_callTy call_int1 (by rfl) B.int (by decide +kernel) (pa_cons (pe_ix (show IxR _ (rIxL K) from ix_list) (pv 0) (pv 1) (fun _ _ => rfl)) pa_nil)) pe_int))
    (pss_cons (ps_set (i := 3) sc_law_small.nd rfl (Or.inl rfl) (pe_callTy call_int1 (by rfl) B.int (by decide +kernel) (pa_cons (pe_ix (show IxR _ (rIxL K) from ix_list) (pv 0) (pe_op op_add (pv 1) pe_int) (fun _ _ => rfl)) pa_nil)))
    (pss_cons (ps_set (i := 4) sc_law_small.nd rfl (Or.inl rfl) (pe_ix (show IxR _ (rIxL K) from ix_list) (pe_lst (pa_cons (pe_tup (pa_cons pe_str (pa_cons pe_int pa_nil))) (pa_cons (pe_tup (pa_cons pe_str (pa_cons pe_int pa_nil))) (pa_cons (pe_tup (pa_cons pe_str (pa_cons pe_int pa_nil))) (pa_cons (pe_tup (pa_cons pe_str (pa_cons pe_int pa_nil))) (pa_cons (pe_tup (pa_cons pe_str (pa_cons pe_int (pa_cons (pe_tup (pa_cons (pe_tup (pa_cons pe_int (pa_cons pe_int (pa_cons pe_int pa_nil)))) pa_nil)) pa_nil)))) (pa_cons (pe_tup (pa_cons pe_str (pa_cons pe_int (pa_cons (pe_tup pa_nil) pa_nil)))) pa_nil))))))) (pe_op op_mod (pe_callTy call_int1 (by rfl) B.int (by decide +kernel) (pa_cons (pe_ix (show IxR _ (rIxL K) from ix_list) (pv 0) (pe_op op_add (pv 1) pe_int) (fun _ _ => rfl)) pa_nil)) pe_int) (fun _ _ => rfl)))
    (pss_cons (ps_if (pt_cmpR op_eq (pv 2) pe_int (nomark _)) (pss_one (ps_ret (pe_tup (pa_cons pe_str (pa_cons (pe_op op_add (pe_op op_mul pe_int (pe_op op_mod (pv 3) pe_int)) pe_int) pa_nil))))) pss_nil)
    (pss_cons (ps_if (pt_cmpR op_eq (pv 2) pe_int (nomark _)) (pss_one (ps_ret (pe_tup (pa_cons pe_str (pa_cons (pe_op op_add (pe_op op_mul pe_int (pe_op op_mod (pv 3) pe_int)) pe_int) pa_nil))))) pss_nil)
    (pss_cons (ps_if (pt_cmpR op_eq (pv 2) pe_int (nomark _)) (pss_one (ps_ret (pe_tup (pa_cons pe_str (pa_cons (pe_op op_add pe_int (pe_op op_mod (pv 3) pe_int)) pa_nil))))) pss_nil)
    (pss_cons (ps_if (pt_cmpR op_eq (pv 2) pe_int (nomark _)) (pss_one (ps_ret (pe_tup (pa_cons pe_str (pa_cons (pe_op op_add pe_int (pe_op op_mod (pv 3) pe_int)) pa_nil))))) pss_nil)
    (pss_cons (ps_if (pt_cmpR op_eq (pv 2) pe_int (nomark _)) (pss_one (ps_ret (pe_tup (pa_cons pe_str (pa_cons (pv 4) pa_nil))))) pss_nil)
    (pss_cons (ps_if (pt_cmpR op_eq (pv 2) pe_int (nomark _)) (pss_one (ps_ret (pe_tup (pa_cons pe_str (pa_cons (pe_tup (pa_cons pe_str (pa_cons (pv 4) pa_nil))) pa_nil))))) pss_nil)
    (pss_cons (ps_if (pt_cmpR op_eq (pv 2) pe_int (nomark _)) (pss_one (ps_ret (pe_tup (pa_cons pe_str (pa_cons (pe_tup (pa_cons pe_str (pa_cons pe_int pa_nil))) (pa_cons (pv 4) pa_nil)))))) pss_nil)
    (pss_one (ps_ret (pe_tup (pa_cons pe_str (pa_cons (pv 4) (pa_cons (pe_tup (pa_cons pe_str (pa_cons pe_int pa_nil))) pa_nil)))))))))))))))), ?_⟩
  have hat : ∀ i : Nat, i < 100 → ∃ b : Int, atI (ns.map V.int) (i : Int) = some (V.int b) ∧ 0 ≤ b := fun i hi => by
    have hix : ns[i]? = some (ns[i]'(by omega)) := List.getElem?_eq_getElem (by omega)
    obtain ⟨b0, b1⟩ := hnb _ (List.mem_of_getElem? hix)
    refine ⟨_, atI_nat (j := i) ?_, b0⟩
    rw [List.getElem?_map, hix]
    rfl
  obtain ⟨k, ek, k0⟩ := hat 0 (by decide)
  obtain ⟨x, ex, x0⟩ := hat 1 (by decide)
  obtain ⟨y, ey, y0⟩ := hat 2 (by decide)
  refine ⟨_, rfl, _, rfl, a, _, _, _, rfl, rfl, hs, ek, .inl ⟨_, rfl, _, _, rfl, rfl, (show (0 : Int) < 8 by decide), ?_⟩⟩
  refine ⟨_, rfl, _, rfl, _, _, rfl, rfl, a, _, _, _, rfl, rfl, hs, ex, .inl ⟨_, rfl, ?_⟩⟩
  -- the parts
  refine ⟨by show 2 ≤ sizeLine; decide, fun p1 h1 => ?_⟩
  have s1 := same_new (o := .tup [V.str "bose", .int 9]) h1
  have d1 : Dp K (upd H p1 (.tup [V.str "bose", .int 9])) (.ref p1) (enc (.bose 9)) := .tup (.of upd_same) (.cons (.str _) (.cons (.int _) .nil))
  generalize upd H p1 (.tup [V.str "bose", .int 9]) = H1 at *
  refine ⟨by show 2 ≤ sizeLine; decide, fun p2 h2 => ?_⟩
  have s2 := same_new (o := .tup [V.str "skolem", .int 7]) h2
  have d2 : Dp K (upd H1 p2 (.tup [V.str "skolem", .int 7])) (.ref p2) (enc (.skolem 7)) := .tup (.of upd_same) (.cons (.str _) (.cons (.int _) .nil))
  replace d1 := dp_same s2 _ _ d1
  replace s2 := s1.trans s2
  generalize upd H1 p2 (.tup [V.str "skolem", .int 7]) = H2 at *
  refine ⟨by show 2 ≤ sizeLine; decide, fun p3 h3 => ?_⟩
  have s3 := same_new (o := .tup [V.str "affine", .int 1]) h3
  have d3 : Dp K (upd H2 p3 (.tup [V.str "affine", .int 1])) (.ref p3) (enc (.affine 1)) := .tup (.of upd_same) (.cons (.str _) (.cons (.int _) .nil))
  replace d1 := dp_same s3 _ _ d1
  replace d2 := dp_same s3 _ _ d2
  replace s3 := s2.trans s3
  generalize upd H2 p3 (.tup [V.str "affine", .int 1]) = H3 at *
  refine ⟨by show 2 ≤ sizeLine; decide, fun p4 h4 => ?_⟩
  have s4 := same_new (o := .tup [V.str "binary", .int 3]) h4
  have d4 : Dp K (upd H3 p4 (.tup [V.str "binary", .int 3])) (.ref p4) (enc (.binary 3)) := .tup (.of upd_same) (.cons (.str _) (.cons (.int _) .nil))
  replace d1 := dp_same s4 _ _ d1
  replace d2 := dp_same s4 _ _ d2
  replace d3 := dp_same s4 _ _ d3
  replace s4 := s3.trans s4
  generalize upd H3 p4 (.tup [V.str "binary", .int 3]) = H4 at *
  refine ⟨by show 3 ≤ sizeLine; decide, fun p5 h5 => ?_⟩
  have s5 := same_new (o := .tup [V.int 0, .int 1, .int 2]) h5
  have d5 : Dp K (upd H4 p5 (.tup [V.int 0, .int 1, .int 2])) (.ref p5) (eTri (0, 1, 2)) := .tup (.of upd_same) (.cons (.int _) (.cons (.int _) (.cons (.int _) .nil)))
  replace d1 := dp_same s5 _ _ d1
  replace d2 := dp_same s5 _ _ d2
  replace d3 := dp_same s5 _ _ d3
  replace d4 := dp_same s5 _ _ d4
  replace s5 := s4.trans s5
  generalize upd H4 p5 (.tup [V.int 0, .int 1, .int 2]) = H5 at *
  refine ⟨by show 1 ≤ sizeLine; decide, fun p6 h6 => ?_⟩
  have s6 := same_new (o := .tup [V.ref p5]) h6
  have d6 : Dp K (upd H5 p6 (.tup [V.ref p5])) (.ref p6) (eTris [(0, 1, 2)]) := .tup (.of upd_same) (.cons (dp_same s6 _ _ d5) .nil)
  replace d1 := dp_same s6 _ _ d1
  replace d2 := dp_same s6 _ _ d2
  replace d3 := dp_same s6 _ _ d3
  replace d4 := dp_same s6 _ _ d4
  replace s6 := s5.trans s6
  generalize upd H5 p6 (.tup [V.ref p5]) = H6 at *
  refine ⟨by show 3 ≤ sizeLine; decide, fun p7 h7 => ?_⟩
  have s7 := same_new (o := .tup [V.str "listed", .int 3, .ref p6]) h7
  have d7 : Dp K (upd H6 p7 (.tup [V.str "listed", .int 3, .ref p6])) (.ref p7) (enc (.listed 3 [(0, 1, 2)])) := .tup (.of upd_same) (.cons (.str _) (.cons (.int _) (.cons (dp_same s7 _ _ d6) .nil)))
  replace d1 := dp_same s7 _ _ d1
  replace d2 := dp_same s7 _ _ d2
  replace d3 := dp_same s7 _ _ d3
  replace d4 := dp_same s7 _ _ d4
  replace s7 := s6.trans s7
  generalize upd H6 p7 (.tup [V.str "listed", .int 3, .ref p6]) = H7 at *
  refine ⟨by show 0 ≤ sizeLine; decide, fun p8 h8 => ?_⟩
  have s8 := same_new (o := .tup []) h8
  have d8 : Dp K (upd H7 p8 (.tup [])) (.ref p8) (eTris []) := .tup (.of upd_same) .nil
  replace d1 := dp_same s8 _ _ d1
  replace d2 := dp_same s8 _ _ d2
  replace d3 := dp_same s8 _ _ d3
  replace d4 := dp_same s8 _ _ d4
  replace d7 := dp_same s8 _ _ d7
  replace s8 := s7.trans s8
  generalize upd H7 p8 (.tup []) = H8 at *
  refine ⟨by show 3 ≤ sizeLine; decide, fun p9 h9 => ?_⟩
  have s9 := same_new (o := .tup [V.str "listed", .int 1, .ref p8]) h9
  have d9 : Dp K (upd H8 p9 (.tup [V.str "listed", .int 1, .ref p8])) (.ref p9) (enc (.listed 1 [])) := .tup (.of upd_same) (.cons (.str _) (.cons (.int _) (.cons (dp_same s9 _ _ d8) .nil)))
  replace d1 := dp_same s9 _ _ d1
  replace d2 := dp_same s9 _ _ d2
  replace d3 := dp_same s9 _ _ d3
  replace d4 := dp_same s9 _ _ d4
  replace d7 := dp_same s9 _ _ d7
  replace s9 := s8.trans s9
  generalize upd H8 p9 (.tup [V.str "listed", .int 1, .ref p8]) = H9 at *
  refine ⟨by show 6 ≤ sizeLine; decide, fun pL hpL => ?_⟩
  have sL := same_new (o := .lst [V.ref p1, .ref p2, .ref p3, .ref p4, .ref p7, .ref p9]) hpL
  have dL : DpAll K H9 [V.ref p1, .ref p2, .ref p3, .ref p4, .ref p7, .ref p9] (partsL.map enc) := .cons d1 (.cons d2 (.cons d3 (.cons d4 (.cons d7 (.cons d9 .nil)))))
  replace dL := dps_same sL _ _ dL
  have hL : upd H9 pL (.lst [V.ref p1, .ref p2, .ref p3, .ref p4, .ref p7, .ref p9]) pL = some (.lst [V.ref p1, .ref p2, .ref p3, .ref p4, .ref p7, .ref p9]) := upd_same
  have sX := s9.trans sL
  generalize upd H9 pL (.lst [V.ref p1, .ref p2, .ref p3, .ref p4, .ref p7, .ref p9]) = HX at *
  have i0 := Int.emod_nonneg y (show (6 : Int) ≠ 0 by decide)
  have i1 := Int.emod_lt_of_pos y (show (0 : Int) < 6 by decide)
  obtain ⟨j, ej, hj⟩ : ∃ j : Nat, y % 6 = (j : Int) ∧ j < 6 := ⟨(y % 6).toNat, by omega, by omega⟩
  obtain ⟨v, ev⟩ : ∃ v, [V.ref p1, .ref p2, .ref p3, .ref p4, .ref p7, .ref p9][j]? = some v := ⟨_, List.getElem?_eq_getElem (by exact hj)⟩
  obtain ⟨dd, hdd, hdv⟩ := dps_get dL ev
  rw [List.getElem?_map] at hdd
  obtain ⟨t, et, rfl⟩ : ∃ t, partsL[j]? = some t ∧ enc t = dd := by
    cases et : partsL[j]? with
    | none => rw [et] at hdd; cases hdd
    | some t => rw [et] at hdd; exact ⟨t, rfl, Option.some.inj hdd⟩
  have htm : t ∈ partsL := List.mem_of_getElem? et
  have hev := atI_nat ev
  rw [← ej] at hev
  refine ⟨_, rfl, _, rfl, _, _, rfl, rfl, a, _, _, _, rfl, rfl, sX.seq hs, ey, .inl ⟨_, rfl, _, _, rfl, rfl, (show (0 : Int) < 6 by decide), pL, _, _, _, rfl, rfl, .of hL, hev, ?_⟩⟩
  have ne : ∀ {n : Int}, 0 < n → ∃ m : Nat, x % n = (m : Int) ∧ (m : Int) < n := fun {n} hn => by
    have h0 := Int.emod_nonneg x (show n ≠ 0 by omega)
    have h1 := Int.emod_lt_of_pos x hn
    exact ⟨(x % n).toNat, by omega, by omega⟩
  obtain ⟨m5, e5, l5⟩ := ne (n := 5) (by decide)
  obtain ⟨m3, e3, l3⟩ := ne (n := 3) (by decide)
  obtain ⟨m4, e4, l4⟩ := ne (n := 4) (by decide)
  refine ⟨_, rfl, rfl, _, rfl, ifb (fun _ => ?_) (fun _ => ?_)⟩
  · refine ⟨_, rfl, _, _, rfl, rfl, (show (0 : Int) < 5 by decide), _, _, rfl, rfl, .inl ⟨by decide, by decide⟩, _, _, rfl, rfl, by show 2 ≤ sizeLine; decide, fun p hp => q (.bose (6 * m5 + 3)) _ _ (mem_bose (by omega)) (sX.trans (same_new hp)) (.tup (.of upd_same) (.cons (.str _) (.cons (dp_int_of ?_) .nil)))⟩
    show 6 * (x % 5) + 3 = ((6 * m5 + 3 : Nat) : Int)
    omega
  refine ⟨_, rfl, rfl, _, rfl, ifb (fun _ => ?_) (fun _ => ?_)⟩
  · refine ⟨_, rfl, _, _, rfl, rfl, (show (0 : Int) < 5 by decide), _, _, rfl, rfl, .inl ⟨by decide, by decide⟩, _, _, rfl, rfl, by show 2 ≤ sizeLine; decide, fun p hp => q (.skolem (6 * m5 + 7)) _ _ (mem_skolem (by omega)) (sX.trans (same_new hp)) (.tup (.of upd_same) (.cons (.str _) (.cons (dp_int_of ?_) .nil)))⟩
    show 6 * (x % 5) + 7 = ((6 * m5 + 7 : Nat) : Int)
    omega
  refine ⟨_, rfl, rfl, _, rfl, ifb (fun _ => ?_) (fun _ => ?_)⟩
  · refine ⟨_, rfl, _, _, rfl, rfl, (show (0 : Int) < 3 by decide), _, _, rfl, rfl, by show 2 ≤ sizeLine; decide, fun p hp => q (.affine (1 + m3)) _ _ (mem_affine (by omega)) (sX.trans (same_new hp)) (.tup (.of upd_same) (.cons (.str _) (.cons (dp_int_of ?_) .nil)))⟩
    show 1 + x % 3 = ((1 + m3 : Nat) : Int)
    omega
  refine ⟨_, rfl, rfl, _, rfl, ifb (fun _ => ?_) (fun _ => ?_)⟩
  · refine ⟨_, rfl, _, _, rfl, rfl, (show (0 : Int) < 4 by decide), _, _, rfl, rfl, by show 2 ≤ sizeLine; decide, fun p hp => q (.binary (2 + m4)) _ _ (mem_binary (by omega)) (sX.trans (same_new hp)) (.tup (.of upd_same) (.cons (.str _) (.cons (dp_int_of ?_) .nil)))⟩
    show 2 + x % 4 = ((2 + m4 : Nat) : Int)
    omega
  refine ⟨_, rfl, rfl, _, rfl, ifb (fun _ => ?_) (fun _ => ?_)⟩
  · exact ⟨_, rfl, by show 2 ≤ sizeLine; decide, fun p hp => q (.dbl t) _ _ (mem_dbl htm) (sX.trans (same_new hp)) (.tup (.of upd_same) (.cons (.str _) (.cons (dp_same (same_new hp) _ _ hdv) .nil)))⟩
  refine ⟨_, rfl, rfl, _, rfl, ifb (fun _ => ?_) (fun _ => ?_)⟩
  · exact ⟨_, rfl, by show 2 ≤ sizeLine; decide, fun p hp => ⟨by show 2 ≤ sizeLine; decide, fun p' hp' => q (.dbl (.dbl t)) _ _ (mem_dbl2 htm) (sX.trans ((same_new hp).trans (same_new hp'))) (.tup (.of upd_same) (.cons (.str _) (.cons (dp_same (same_new hp') _ _ (.tup (.of upd_same) (.cons (.str _) (.cons (dp_same (same_new hp) _ _ hdv) .nil)))) .nil)))⟩⟩
  refine ⟨_, rfl, rfl, _, rfl, ifb (fun _ => ?_) (fun _ => ?_)⟩
  · exact ⟨by show 2 ≤ sizeLine; decide, fun p hp => ⟨_, rfl, by show 3 ≤ sizeLine; decide, fun p' hp' => q (.prod (.affine 1) t) _ _ (mem_pa htm) (sX.trans ((same_new hp).trans (same_new hp'))) (.tup (.of upd_same) (.cons (.str _) (.cons (dp_same (same_new hp') _ _ (.tup (.of upd_same) (.cons (.str _) (.cons (.int _) .nil)))) (.cons (dp_same ((same_new hp).trans (same_new hp')) _ _ hdv) .nil))))⟩⟩
  · exact ⟨_, rfl, by show 2 ≤ sizeLine; decide, fun p hp => ⟨by show 3 ≤ sizeLine; decide, fun p' hp' => q (.prod t (.bose 3)) _ _ (mem_pb htm) (sX.trans ((same_new hp).trans (same_new hp'))) (.tup (.of upd_same) (.cons (.str _) (.cons (dp_same ((same_new hp).trans (same_new hp')) _ _ hdv) (.cons (dp_same (same_new hp') _ _ (.tup (.of upd_same) (.cons (.str _) (.cons (.int _) .nil)))) .nil))))⟩⟩
end
end Pj
/-! _law_refused, law. -/
namespace Pj
open PySem PySem.Spec PyProof.Rows L2 PjM TL
section
variable {P : Program} {w : World} {K : PySem.W.Frag} {mg : Str → Option Value} {base : Heap} {dA CQ CS : Addr}
/-- what is asked of the errors' classes -/
structure ExcR (K : PySem.W.Frag) (mg : Str → Option Value) (CQ CS : Addr) : Prop extends ExcQ K mg CQ where
  c : ExcC K CQ
  self : PySem.W.exmOne K (.ref CQ) (.ref CQ) = some true
  val : PySem.W.kitOne K (.ref CQ) (.type "ValueError") = some true
  gS : mg "InvalidSystem" = some (.ref CS)
  sys : PySem.W.kitOne K (.ref CQ) (.ref CS) = some false
def rIsQ (K : PySem.W.Frag) (CQ a : Addr) (cls : Value) (d : Option Addr) : List V → Hp → VK → Prop := fun xs H Q => cls = .ref CQ ∧ d = none ∧ rIsE K CQ a xs H Q
theorem call_isQ {X : Cx} {a D : Addr} {cls : Value} {d : Option Addr} {oe : Obj} {pn : List (Addr × Obj)} (C : ExcC X.K D) (hz : Zc cls d oe) (hf : ∃ vs, oe.data = .fields vs) : CallR (X.suite a ((a, oe) :: pn)) (.builtin "isinstance") (rIsQ X.K D a cls d) := by
  intro pins s σ H xs us Q I r h
  obtain ⟨rfl, rfl, h⟩ := h
  exact call_isE C hz hf pins s σ H xs us Q I r h
abbrev N_law_refused : List Str := ["_law_tree", "_law_names_here", "e"]
abbrev s_law_refused : Stmt := top 64
theorem sc_law_refused : FnScope N_law_refused ["_law_tree", "_law_names_here"] (defScope s_law_refused) := ⟨rfl, rfl, rfl, by decide +kernel, rfl, by decide +kernel, by decide +kernel⟩
def spRef (K : PySem.W.Frag) : Sp := fun vs H Q _ => ∃ (t : Tree) (v : V) (a : Addr) (ns : List Int), vs = [v, .ref a] ∧ Ok t ∧ t.ht ≤ 3 ∧ t.sz ≤ 60 ∧ Thd t.sz (thd t) ∧ Dp K H v (enc t) ∧ SqR K H a (ns.map V.int) ∧ ns.length ≤ 100 ∧ ¬ Nm t.sz ns ∧ ∀ H', Same H H' → Q (.bl true) H'
def t_isQ (K : PySem.W.Frag) (CQ CS : Addr) : Addr → Value → Option Addr → TS := fun a cls d => tRet (tAndV (tCB (rIsQ K CQ a cls d) (tCons (tVar 2) (tCons (tC (.ty "ValueError")) tNil))) (tNotV (tCB (rIsQ K CQ a cls d) (tCons (tVar 2) (tCons (tC (.ref CS)) tNil)))))
theorem ok_law_refused {f : Addr} {fd : FuncData} (F : Fun K "_law_refused" "_law_refused" s_law_refused f fd) (B : Blt mg) (XR : ExcR K mg CQ CS) (C_renamed : Cal P w K mg base (L2.CX P w) 14 "renamed" ["tree", "names"] [] (spRen K CQ)) : FnOk P w K mg base CX0 15 f fd ["_law_tree", "_law_names_here"] (spRef K) := by
  refine F.ok sc_law_refused (fun vs H Q E h => ?_) (fun cdv A outer s H vs Q E hr h => ?_)
  · obtain ⟨t, v, a, ns, rfl, _⟩ := h
    rfl
  obtain ⟨t, v, a, ns, rfl, ok, hh, hz, hT, hd, hs, hl, hn, q⟩ := h
  obtain ⟨f2, fd2, ds2, GR, mR, kR, bR, vR⟩ := C_renamed
  cases vR
  refine ⟨_, pss_cons (ps_try_as (i := 2) (tb := fun W => tDrop (tCallS (spRen K CQ) (WE W) (tCons (tVar 0) (tCons (tVar 1) tNil)))) (ts := t_isQ K CQ CS) (Wout := fun _ _ _ _ => False) rfl rfl sc_law_refused.nd rfl rfl ⟨rfl, by decide, Or.inl XR.g⟩ takes0
      (fun W pn xe tk _ => pss_one (ps_expr (by exact (pe_callS GR hr rfl mR kR bR (fun σ => passAt tk σ) (by exact (pa_cons (pv 0) (pa_cons (pv 1) pa_nil)))))))
      (fun a oe cls d pn hz hf => pss_one (ps_ret (by exact (pe_and (pe_callB (call_isQ XR.c hz hf) (by rfl) B.isinstance (by decide +kernel) (pa_cons (pv 2) (pa_cons (pe_bltn (v := .ty "ValueError") (by rfl) B.ValueError (by decide +kernel) rfl) pa_nil)))
        (pe_one (pe_not (pe_callB (call_isQ XR.c hz hf) (by rfl) B.isinstance (by decide +kernel) (pa_cons (pv 2) (pa_cons (pe_glob (v := .ref CS) (by rfl) XR.gS rfl) pa_nil)))))))))) pss_never, ?_⟩
  refine ⟨_, rfl, _, rfl, t, v, a, ns, rfl, ok, hh, hz, hT, hd, hs, hl, fun y => absurd y hn, fun _ H1 s1 => ⟨true, XR.self, fun _ e he => ?_, fun y => nomatch y⟩⟩
  refine ⟨_, rfl, rfl, rfl, _, _, true, rfl, fun u hu => hu, XR.val, true, rfl, iteT ⟨_, rfl, rfl, rfl, _, _, false, rfl, fun u hu => hu, XR.sys, false, rfl, q _ s1⟩⟩
end
end Pj
/-! The plain law: what the walk needs of renamed systems and of bad names. -/
namespace Pj
open PySem PySem.Spec PyProof.Rows L2 PjM TL
theorem cj_congr {n : Nat} {ms : List Int} (h : Nm n ms) {f g : Int → Int → Int} (e : ∀ a b : Int, 0 ≤ a → a < n → 0 ≤ b → b < n → a ≠ b → f a b = g a b) : L n (cj ms f) = L n (cj ms g) := L_congr fun a b a0 a1 b0 b1 hn => by
  obtain ⟨q0, q1⟩ := h.q a0 a1
  obtain ⟨r0, r1⟩ := h.q b0 b1
  unfold cj
  rw [e _ _ q0 q1 r0 r1 (h.q_ne a0 a1 b0 b1 hn)]
structure LG (n : Nat) (g : Int → Int → Int) : Prop where
  n1 : 1 ≤ n
  n60 : n ≤ 60
  thd : Thd n g
  cnt : Cnt n g
namespace LG
variable {n : Nat} {g : Int → Int → Int} {ms : List Int}
theorem ok (G : LG n g) : Ok (.listed n (L n g)) := ⟨G.n1, G.n60, g, G.thd, G.cnt, rfl⟩
theorem thd' (G : LG n g) : Thd n (Pj.thd (.listed n (L n g))) := thd_listed_thd G.thd
theorem ren (G : LG n g) (h : Nm n ms) : L n (PjM.cj ms (Pj.thd (.listed n (L n g)))) = L n (PjM.cj ms g) := cj_congr h fun a b a0 a1 b0 b1 hn => thd_listed G.thd a0 a1 b0 b1 hn
theorem cj (G : LG n g) (h : Nm n ms) : LG n (PjM.cj ms g) := ⟨G.n1, G.n60, G.thd.cj h, by
  have c : 3 * (L n g).length = n * (n - 1) / 2 := G.cnt
  show 3 * (L n (PjM.cj ms g)).length = n * (n - 1) / 2
  rw [ren_len G.thd h]
  exact c⟩
theorem tri (G : LG n g) : TriOk (L n g) := fun t ht => by
  obtain ⟨t0, t1, t2, t3⟩ := mem_asc G.thd ht
  have := G.n60
  exact ⟨⟨by omega, by omega⟩, ⟨by omega, by omega⟩, by omega, by omega⟩
theorem len (G : LG n g) : (L n g).length ≤ 1000 := cnt_le G.n60 G.cnt
end LG
theorem Good.lg {t : Tree} (G : Good t) : LG t.sz (Pj.thd t) := ⟨sz_pos G.ok, by have := G.sz; omega, G.thd, G.cnt⟩
theorem cutFrom (xs : List V) (k : Nat) : cutV xs (some (k : Int)) none = xs.drop k := by
  unfold cutV
  rw [HT.sIx_nat]
  show (xs.drop (min k xs.length)).take (xs.length - min k xs.length) = xs.drop k
  rw [List.take_of_length_le (by rw [List.length_drop]; exact Nat.le_refl _)]
  by_cases h : k ≤ xs.length
  · rw [Nat.min_eq_left h]
  · rw [Nat.min_eq_right (by omega), List.drop_eq_nil_of_le (Nat.le_refl _), List.drop_eq_nil_of_le (by omega)]
def bads (n : Nat) (ns : List Int) : List (List Int) := [ns.drop 1, ns ++ [(n : Int)], ns.take (n - 1) ++ [(n : Int)], ns.take (n - 1) ++ [-1], ns ++ ns.take 1, ns.take 1 ++ ns.take 1 ++ ns.drop 2]
theorem bads_not {n : Nat} {ns : List Int} (h : Nm n ns) (n1 : 1 ≤ n) (n60 : n ≤ 60) : ∀ b ∈ bads n ns, ¬ Nm n b ∧ b.length ≤ 100 := by
  have hl := h.len
  intro b hb
  unfold bads at hb
  simp only [List.mem_cons, List.not_mem_nil, or_false] at hb
  rcases hb with rfl | rfl | rfl | rfl | rfl | rfl
  · exact ⟨fun y => by have := y.len; rw [List.length_drop] at this; omega, by rw [List.length_drop]; omega⟩
  · exact ⟨fun y => by have := y.len; rw [List.length_append] at this; simp at this; omega, by rw [List.length_append]; simp; omega⟩
  · exact ⟨fun y => by have := (y.mem (x := (n : Int))).mp (by simp); omega, by rw [List.length_append, List.length_take]; simp; omega⟩
  · exact ⟨fun y => by have := (y.mem (x := (-1 : Int))).mp (by simp); omega, by rw [List.length_append, List.length_take]; simp; omega⟩
  · exact ⟨fun y => by have := y.len; rw [List.length_append, List.length_take] at this; omega, by rw [List.length_append, List.length_take]; omega⟩
  · refine ⟨fun y => ?_, by rw [List.length_append, List.length_append, List.length_take, List.length_drop]; omega⟩
    cases ns with
    | nil => simp at hl; omega
    | cons x r =>
      have nd := y.nd
      have e : (x :: r).take 1 = [x] := rfl
      rw [e] at nd
      simp at nd
end Pj
/-! The law. -/
namespace Pj
open PySem PySem.Spec PyProof.Rows L2 PjM TL
section
variable {P : Program} {w : World} {K : PySem.W.Frag} {mg : Str → Option Value} {base : Heap} {dA CQ CS : Addr}
/-- renamed of a listed system that the program made -/
theorem sp_ren {n : Nat} {g : Int → Int → Int} {H : Hp} {v : V} {a : Addr} {ms : List Int} {Q : VK} {E : XK} (G : LG n g) (hd : Dp K H v (encL n (L n g))) (hs : SqR K H a (ms.map V.int)) (h : Nm n ms)
    (q : ∀ v' H', Same H H' → Dp K H' v' (encL n (L n (cj ms g))) → Q v' H') : spRen K CQ [v, .ref a] H Q E := by
  have hl := h.len
  have := G.n60
  refine ⟨.listed n (L n g), v, a, ms, rfl, G.ok, (by show 1 ≤ 3; decide), G.n60, G.thd', hd, hs, by omega, fun _ v' H' s hd' => q v' H' s ?_, fun y => absurd h y⟩
  have e : L n (cj ms (thd (.listed n (L n g)))) = L n (cj ms g) := G.ren h
  have hd2 : Dp K H' v' (encL n (L n (cj ms (thd (.listed n (L n g)))))) := hd'
  rw [e] at hd2
  exact hd2
/-- .. of a drawn tree -/
theorem sp_renT {t : Tree} {H : Hp} {v : V} {a : Addr} {ms : List Int} {Q : VK} {E : XK} (G : Good t) (hd : Dp K H v (enc t)) (hs : SqR K H a (ms.map V.int)) (h : Nm t.sz ms)
    (q : ∀ v' H', Same H H' → Dp K H' v' (encL t.sz (L t.sz (cj ms (thd t)))) → Q v' H') : spRen K CQ [v, .ref a] H Q E := by
  have hl := h.len
  have := G.sz
  exact ⟨t, v, a, ms, rfl, G.ok, G.ht, by omega, G.thd, hd, hs, by omega, fun _ v' H' s hd' => q v' H' s hd', fun y => absurd h y⟩
theorem ne_enc {H : Hp} {x y : V} {n : Nat} {T : List Tri} {Q : Bool → Hp → Prop} (h1 : Dp K H x (encL n T)) (h2 : Dp K H y (encL n T)) (q : Q false H) : rNeD K x y H fun z H3 => ∃ b, z = .bl b ∧ Q b H3 := by
  refine ⟨_, _, h1, h2, shaped_encL _ _, shaped_encL _ _, ?_⟩
  rw [eqv_encL]
  exact ⟨false, rfl, q⟩
abbrev N_law : List Str := ["_law_script", "_law_numbers_here", "_law_tree", "_law_count", "_law_names_here", "_law_more", "_law_told", "_law_whole", "_law_due", "_law_k", "_law_a", "_law_b", "_law_bad", "_law_three", "_law_point"]
abbrev s_law : Stmt := top 65
theorem sc_law : FnScope N_law ["_law_script"] (defScope s_law) := ⟨rfl, rfl, rfl, by decide +kernel, rfl, by decide +kernel, by decide +kernel⟩
def spLaw (K : PySem.W.Frag) : Sp := fun vs H Q _ => ∃ (a : Addr) (ns : List Int), vs = [.ref a] ∧ SqL K H a (ns.map V.int) ∧ ns.length ≤ 63 ∧ ∀ H', Q (.bl true) H'
theorem ok_law {f : Addr} {fd : FuncData} (F : Fun K "law" "law" s_law f fd) (B : Blt mg)
    (C_law_numbers : Cal P w K mg base CX0 2 "_law_numbers" ["_law_script", "_law_many"] [] (spNumbers K)) (C_law_small : Cal P w K mg base CX0 1 "_law_small" ["_law_numbers_here", "_law_at"] [] (spSmallT K))
    (C_size : Cal P w K mg base CX0 7 "size" ["tree"] [] (spSizeTop K)) (C_law_names : Cal P w K mg base CX0 1 "_law_names" ["_law_numbers_here", "_law_at", "_law_count"] [] (spNames K))
    (C_renamed : Cal P w K mg base (L2.CX P w) 14 "renamed" ["tree", "names"] [] (spRen K CQ)) (C_listed : Cal P w K mg base CX0 13 "listed" ["tree"] [] (spListed K)) (C_is_system : Cal P w K mg base CX0 8 "is_system" ["tree"] [] (spIsSystem K))
    (C_third : Cal P w K mg base CX0 13 "third" ["tree", "a", "b"] [] (spThirdTop K)) (C_turned_back : Cal P w K mg base CX0 3 "turned_back" ["names"] [] (spBack K)) (C_one_after_another : Cal P w K mg base CX0 3 "one_after_another" ["first", "second"] [] (spAfter K))
    (C_parse_system : Cal P w K mg base CX0 8 "parse_system" ["text"] [] (spParse K)) (C_format_system : Cal P w K mg base CX0 8 "format_system" ["tree"] [] (spFormat K)) (C_same_threes : Cal P w K mg base CX0 14 "same_threes" ["one", "other"] [] (spSame K))
    (C_law_refused : Cal P w K mg base CX0 15 "_law_refused" ["_law_tree", "_law_names_here"] [] (spRef K)) : FnOk P w K mg base CX0 16 f fd ["_law_script"] (spLaw K) := by
  refine F.ok sc_law (fun vs H Q E h => ?_) (fun cdv A outer s H vs Q E hr h => ?_)
  · obtain ⟨a, ns, rfl, _⟩ := h
    rfl
  obtain ⟨a, scr, rfl, hs, hl, q⟩ := h
  refine ⟨_, PSs.nox (pss_cons (ps_set (i := 1) sc_law.nd rfl (Or.inl rfl) (pe_c (C_law_numbers.mono (by omega)) hr pass0 (pa_cons (pv 0) (pa_cons pe_int pa_nil))))
    (pss_cons (ps_set (i := 2) sc_law.nd rfl (Or.inl rfl) (pe_c (C_law_small.mono (by omega)) hr pass0 (pa_cons (pv 1) (pa_cons pe_int pa_nil))))
    (pss_cons (ps_set (i := 3) sc_law.nd rfl (Or.inl rfl) (pe_c (C_size.mono (by omega)) hr pass0 (pa_cons (pv 2) pa_nil)))
    (pss_cons (ps_set (i := 4) sc_law.nd rfl (Or.inr rfl) (pe_c (C_law_names.mono (by omega)) hr pass0 (pa_cons (pv 1) (pa_cons pe_int (pa_cons (pv 3) pa_nil)))))
    (pss_cons (ps_set (i := 5) sc_law.nd rfl (Or.inl rfl) (pe_c (C_law_names.mono (by omega)) hr pass0 (pa_cons (pv 1) (pa_cons pe_int (pa_cons (pv 3) pa_nil)))))
    (pss_cons (ps_set (i := 6) sc_law.nd rfl (Or.inl rfl) (pe_c (C_renamed.mono (by omega)) hr passL (pa_cons (pv 2) (pa_cons (pv 4) pa_nil))))
    (pss_cons (ps_set (i := 7) sc_law.nd rfl (Or.inl rfl) (pe_c (C_listed.mono (by omega)) hr pass0 (pa_cons (pv 2) pa_nil)))
    (pss_cons (ps_set (i := 8) sc_law.nd rfl (Or.inl rfl) (pe_callB (show CallR _ _ (rSortD K) from cr_sortD hr) (by rfl) B.sorted (by decide +kernel) (pa_cons (pe_lc (own := [("_law_three", 13)]) (g := gName 13) rfl sc_law.nd (pi_tup (pe_ix (show IxR _ (rIxT K) from ix_tup) (pv 7) pe_int (fun _ _ => rfl))) (blkOk_by (N := N_law) (sc := defScope s_law) (by decide +kernel)) (fun _ _ _ _ _ => pg_name (i := 13) sc_law.nd rfl (Or.inl rfl)) (fun _ _ _ _ _ => pts_nil) (fun _ _ _ _ _ => (pe_callTy (show CallR _ _ (rTupOf K) from call_tupOf) (by rfl) B.tuple (by decide +kernel) (pa_cons (pe_callB (show CallR _ _ (rSortD K) from cr_sortD hr) (by rfl) B.sorted (by decide +kernel) (pa_cons (pe_lc (own := [("_law_point", 14)]) (g := gName 14) rfl sc_law.nd (show PI _ _ _ (iTup K _) from pi_tup (pv 13)) (blkOk_by (N := N_law) (sc := { kind := .function, names := [(".0", .local), ("_law_three", .local), ("tuple", .globalImplicit), ("sorted", .globalImplicit), ("_law_names_here", .cell)], isGenerator := false, isCoroutine := false }) (by decide +kernel)) (fun _ _ _ _ _ => pg_name (i := 14) sc_law.nd rfl (Or.inl rfl)) (fun _ _ _ _ _ => pts_nil) (fun _ _ _ _ _ => (pe_ix (show IxR _ (rIxL K) from ix_list) (pv 4) (pv 14) (fun _ _ => rfl)))) pa_nil)) pa_nil)))) pa_nil)))
    (pss_cons (ps_if (PW.pt (pw_or (pt_cmpR (show OpR _ _ (rNeD K) from op_neD hr.units) (pv 6) (pe_tup (pa_cons pe_str (pa_cons (pv 3) (pa_cons (pe_callTy (show CallR _ _ (rTupOf K) from call_tupOf) (by rfl) B.tuple (by decide +kernel) (pa_cons (pv 8) pa_nil)) pa_nil)))) (nomark _)) (pw_or (pt_not (pt_val (pe_c (C_is_system.mono (by omega)) hr pass0 (pa_cons (pv 6) pa_nil)))) (pw_or1 (pt_cmpR (show OpR _ _ (rNeD K) from op_neD hr.units) (pe_c (C_renamed.mono (by omega)) hr passL (pa_cons (pv 7) (pa_cons (pe_callTy (show CallR _ _ (rTupOf K) from call_tupOf) (by rfl) B.tuple (by decide +kernel) (pa_cons (pv 4) pa_nil)) pa_nil))) (pv 6) (nomark _)))))) pss_never pss_nil)
    (pss_cons (ps_for PassesOwn.never rfl (pi_range1 (by rfl) B.range (pa_cons pe_int pa_nil)) (pg_name (i := 9) sc_law.nd rfl (Or.inl rfl)) (pss_cons (ps_set (i := 10) sc_law.nd rfl (Or.inl rfl) (pe_op op_mod (pe_callTy call_int1 (by rfl) B.int (by decide +kernel) (pa_cons (pe_ix (show IxR _ (rIxL K) from ix_list) (pv 1) (pe_op op_add pe_int (pv 9)) (fun _ _ => rfl)) pa_nil)) (pv 3)))
    (pss_cons (ps_set (i := 11) sc_law.nd rfl (Or.inl rfl) (pe_op op_mod (pe_callTy call_int1 (by rfl) B.int (by decide +kernel) (pa_cons (pe_ix (show IxR _ (rIxL K) from ix_list) (pv 1) (pe_op op_add pe_int (pv 9)) (fun _ _ => rfl)) pa_nil)) (pv 3)))
    (pss_one (ps_if (PW.pt (pw_and (pt_cmpR op_ne (pv 10) (pv 11) (nomark _)) (pw_and1 (pt_cmpR op_ne (pe_c (C_third.mono (by omega)) hr pass0 (pa_cons (pv 6) (pa_cons (pe_ix (show IxR _ (rIxL K) from ix_list) (pv 4) (pv 10) (fun _ _ => rfl)) (pa_cons (pe_ix (show IxR _ (rIxL K) from ix_list) (pv 4) (pv 11) (fun _ _ => rfl)) pa_nil)))) (pe_ix (show IxR _ (rIxL K) from ix_list) (pv 4) (pe_c (C_third.mono (by omega)) hr pass0 (pa_cons (pv 2) (pa_cons (pv 10) (pa_cons (pv 11) pa_nil)))) (fun _ _ => rfl)) (nomark _))))) pss_never pss_nil)))))
    (pss_cons (ps_if (PW.pt (pw_or (pt_cmpR (show OpR _ _ (rNeD K) from op_neD hr.units) (pe_c (C_renamed.mono (by omega)) hr passL (pa_cons (pv 6) (pa_cons (pe_c (C_turned_back.mono (by omega)) hr pass0 (pa_cons (pv 4) pa_nil)) pa_nil))) (pv 7) (nomark _)) (pw_or1 (pt_cmpR (show OpR _ _ (rNeD K) from op_neD hr.units) (pe_c (C_renamed.mono (by omega)) hr passL (pa_cons (pv 6) (pa_cons (pv 5) pa_nil))) (pe_c (C_renamed.mono (by omega)) hr passL (pa_cons (pv 2) (pa_cons (pe_c (C_one_after_another.mono (by omega)) hr pass0 (pa_cons (pv 4) (pa_cons (pv 5) pa_nil))) pa_nil))) (nomark _))))) pss_never pss_nil)
    (pss_cons (ps_if (PW.pt (pw_or (pt_cmpR (show OpR _ _ (rNeD K) from op_neD hr.units) (pe_c (C_renamed.mono (by omega)) hr passL (pa_cons (pv 2) (pa_cons (pe_listRg rfl (by rfl) B.list (prg_1 (by rfl) B.range (pv 3))) pa_nil))) (pv 7) (nomark _)) (pw_or (pt_cmpR (show OpR _ _ (rNeD K) from op_neD hr.units) (pe_c (C_parse_system.mono (by omega)) hr pass0 (pa_cons (pe_c (C_format_system.mono (by omega)) hr pass0 (pa_cons (pv 6) pa_nil)) pa_nil)) (pv 6) (nomark _)) (pw_or1 (pt_not (pt_val (pe_c (C_same_threes.mono (by omega)) hr pass0 (pa_cons (pv 6) (pa_cons (pe_c (C_renamed.mono (by omega)) hr passL (pa_cons (pv 2) (pa_cons (pv 4) pa_nil))) pa_nil))))))))) pss_never pss_nil)
    (pss_cons (ps_for PassesOwn.never rfl (pi_list (pe_lst (pa_cons (pe_slice (show SlR _ (rSlL K) from sl_list) (pv 4) (po_some pe_int) po_none) (pa_cons (pe_op op_cat (pv 4) (pe_lst (pa_cons (pv 3) pa_nil))) (pa_cons (pe_op op_cat (pe_slice (show SlR _ (rSlL K) from sl_list) (pv 4) po_none (po_some (pe_op op_sub (pv 3) pe_int))) (pe_lst (pa_cons (pv 3) pa_nil))) (pa_cons (pe_op op_cat (pe_slice (show SlR _ (rSlL K) from sl_list) (pv 4) po_none (po_some (pe_op op_sub (pv 3) pe_int))) (pe_lst (pa_cons (pe_un un_neg pe_int) pa_nil))) (pa_cons (pe_op op_cat (pv 4) (pe_slice (show SlR _ (rSlL K) from sl_list) (pv 4) po_none (po_some pe_int))) (pa_cons (pe_op op_cat (pe_op op_cat (pe_slice (show SlR _ (rSlL K) from sl_list) (pv 4) po_none (po_some pe_int)) (pe_slice (show SlR _ (rSlL K) from sl_list) (pv 4) po_none (po_some pe_int))) (pe_slice (show SlR _ (rSlL K) from sl_list) (pv 4) (po_some pe_int) po_none)) pa_nil)))))))) (pg_name (i := 12) sc_law.nd rfl (Or.inl rfl)) (pss_one (ps_if (pt_not (pt_val (pe_c (C_law_refused.mono (by omega)) hr pass0 (pa_cons (pv 2) (pa_cons (pv 12) pa_nil))))) pss_never pss_nil)))
    (pss_one (ps_ret pe_bl))))))))))))))), ?_⟩
  clear C_law_numbers C_law_small C_size C_law_names C_renamed C_listed C_is_system C_third C_turned_back C_one_after_another C_parse_system C_format_system C_same_threes C_law_refused
  refine ⟨_, rfl, a, scr, rfl, hs, hl, fun pN H1 N s1 hN1 hNl hNb => ?_⟩
  refine ⟨_, rfl, pN, N, rfl, .of hN1, hNb, hNl, fun t vt H2 htm s2 hdt2 => ?_⟩
  have G := menu_good htm
  have hsz := G.sz
  have hp := sz_pos G.ok
  refine ⟨_, rfl, t, vt, rfl, G.ok, G.ht, hdt2, fun H3 s3 => ?_⟩
  have s13 := s2.trans s3
  refine ⟨_, rfl, _, rfl, pN, N, 5, t.sz, rfl, .of (s13 _ _ hN1), hNb, by omega, by omega, fun pn H4 ns s4 hn4 hns => ?_⟩
  have s14 := s13.trans s4
  refine ⟨_, rfl, _, rfl, pN, N, 48, t.sz, rfl, .of (s14 _ _ hN1), hNb, by omega, by omega, fun pm H5 ms s5 hm5 hms => ?_⟩
  have s15 := s14.trans s5
  have hn5 := s5 _ _ hn4
  have hN5 := s15 _ _ hN1
  have hdt5 := dp_same ((s3.trans s4).trans s5) _ _ hdt2
  clear s1 s2 s3 s4 s5 s13 s14 s15 hN1 hdt2 hn4 hs
  have hnl := hns.len
  have hml := hms.len
  refine ⟨_, rfl, _, rfl, sp_renT G hdt5 (.inl (.of hn5)) hns fun vu H6 s6 hu6 => ?_⟩
  refine ⟨_, rfl, t, vt, rfl, G.ok, G.ht, by omega, dp_same s6 _ _ hdt5, fun vw H7 s7 hw7 => ?_⟩
  have s57 := s6.trans s7
  have hu7 := dp_same s7 _ _ hu6
  have hn7 := s57 _ _ hn5
  have hm7 := s57 _ _ hm5
  have hN7 := s57 _ _ hN5
  have hdt7 := dp_same s57 _ _ hdt5
  clear s6 s7 s57 hu6 hn5 hm5 hN5 hdt5
  have GL := G.lg
  have hT := G.thd
  have n60 := GL.n60
  -- due
  have hw7' := hw7
  obtain ⟨pw, x1, x2, x3, rfl, hsw, e1, e2, e3⟩ := dp_tup3 hw7'
  obtain ⟨pT, xs, rfl, hsT, hdT⟩ := dp_tup e3
  clear e1 e2 e3 hw7'
  have hxl : xs.length = (L t.sz (thd t)).length := by rw [dps_len hdT, List.length_map]
  have hrl : (renT ns (L t.sz (thd t))).length = (L t.sz (thd t)).length := List.length_map _
  have hcnt := GL.len
  refine ⟨_, rfl, pw, _, 2, _, rfl, rfl, hsw, atI_nat (j := 2) rfl, lc_tup_dp (K := K) (a := pT) (xs := xs) hsT (by omega) (fun i => eTri ((renT ns (L t.sz (thd t))).getD i (0, 0, 0))) (fun _ => rfl) (fun D i x H3 zs hD s3 hD3 ex Q' hQ' => ?_) (fun D ys H3 hD s3 e3 hd3 => ?_)⟩
  · obtain ⟨u, ax, eu, rfl, hsx⟩ := tris_get hdT ex
    have hmem : u ∈ L t.sz (thd t) := List.mem_of_getElem? eu
    obtain ⟨t0, t1, t2, t3⟩ := mem_asc hT hmem
    have hsx3 := same_sqT s3 hsx
    have hn3 := s3 _ _ hn7
    have eg : (renT ns (L t.sz (thd t))).getD i (0, 0, 0) = PjM.s3 (pOf ns u.1) (pOf ns u.2.1) (pOf ns u.2.2) := by
      unfold renT
      rw [List.getD_eq_getElem?_getD, List.getElem?_map, eu]
      rfl
    rw [eg] at hQ'
    refine ⟨_, rfl, lc_tup_dp (K := K) (a := ax) (xs := [.int u.1, .int u.2.1, .int u.2.2]) hsx3 (by show 3 ≤ 100000; decide) (fun j => .int ([pOf ns u.1, pOf ns u.2.1, pOf ns u.2.2].getD j 0)) (fun _ => rfl) (fun D2 j x H4 zs2 hD2 s4 hD4 ex2 Q2 hQ2 => ?_) (fun D2 ys2 H4 hD2 s4 e4 hd4 => ?_)⟩
    · obtain ⟨k, rfl, k0, k1, ek⟩ : ∃ k : Int, x = V.int k ∧ 0 ≤ k ∧ k < t.sz ∧ [pOf ns u.1, pOf ns u.2.1, pOf ns u.2.2].getD j 0 = pOf ns k := by
        match j, ex2 with
        | 0, ex => exact ⟨_, (Option.some.inj ex).symm, by omega, by omega, rfl⟩
        | 1, ex => exact ⟨_, (Option.some.inj ex).symm, by omega, by omega, rfl⟩
        | 2, ex => exact ⟨_, (Option.some.inj ex).symm, by omega, by omega, rfl⟩
        | _ + 3, ex => simp at ex
      rw [ek] at hQ2
      exact ⟨_, rfl, _, rfl, pn, _, k, _, rfl, rfl, .of (s4 _ _ hn3), names_at hns k0 k1, hQ2 _ _ (.refl _) (.int _)⟩
    · have ev : ys2 = [pOf ns u.1, pOf ns u.2.1, pOf ns u.2.2].map V.int := dps_int_inv hd4
      rw [ev] at e4
      refine ⟨D2, [pOf ns u.1, pOf ns u.2.1, pOf ns u.2.2].map V.int, [pOf ns u.1, pOf ns u.2.1, pOf ns u.2.2].map PyData.int, rfl, .inl (.of e4), dps_ints _, alike_is _, sortable_is _, depth_is, fun zs3 p hzp hzs hp0 => ?_⟩
      rw [sort3 hzp hzs]
      refine ⟨p, _, rfl, .inl ⟨.of upd_same, fun p2 hp2 => hQ' _ _ (s4.trans ((same_new hp0).trans (same_new hp2))) ?_⟩⟩
      exact dp_tri_of (.of upd_same)
  have ed : (List.range xs.length).map (fun i => eTri ((renT ns (L t.sz (thd t))).getD i (0, 0, 0))) = (renT ns (L t.sz (thd t))).map eTri := by
    rw [hxl, ← hrl]
    exact map_of_get fun i x ex => by rw [List.getD_eq_getElem?_getD, ex]; rfl
  rw [ed] at hd3
  refine ⟨D, ys, (renT ns (L t.sz (thd t))).map eTri, rfl, .inl (.of e3), hd3, alike_tris _, sortable_tris _, depth_tris, fun zs pd hzp hzs hp0 => ?_⟩
  obtain ⟨R, r1, r2, r3⟩ := sort_tris hd3 hzp hzs
  have eR := ren_eq hT hns r1 r2
  subst eR
  have s4 := s3.trans (same_new (o := .lst (zs.map (·.1))) hp0)
  have hdue : upd H3 pd (.lst (zs.map (·.1))) pd = some (.lst (zs.map (·.1))) := upd_same
  replace r3 := dps_same (same_new (o := .lst (zs.map (·.1))) hp0) _ _ r3
  generalize upd H3 pd (.lst (zs.map (·.1))) = H8 at *
  have hu8 := dp_same s4 _ _ hu7
  have hw8 := dp_same s4 _ _ hw7
  have hn8 := s4 _ _ hn7
  have hm8 := s4 _ _ hm7
  have hN8 := s4 _ _ hN7
  have hdt8 := dp_same s4 _ _ hdt7
  clear s3 s4 hd3 e3 hzp hzs hu7 hw7 hn7 hm7 hN7 hdt7 hsT hdT hsw
  have GU := GL.cj hns
  generalize hg : cj ns (thd t) = g at *
  -- told is what is due
  refine ⟨_, rfl, _, rfl, _, rfl, pd, _, rfl, .inl ⟨.of hdue, fun p1 hp1 => ⟨by show 3 ≤ sizeLine; decide, fun p2 hp2 => ?_⟩⟩⟩
  have u1 := same_new (o := .tup (zs.map (·.1))) hp1
  have dd : Dp K (upd H8 p1 (.tup (zs.map (·.1)))) (.ref p1) (eTris (L t.sz g)) := .tup (.of upd_same) (dps_same u1 _ _ r3)
  generalize upd H8 p1 (.tup (zs.map (·.1))) = H9 at *
  have u2 := same_new (o := .tup [V.str "listed", .int t.sz, .ref p1]) hp2
  refine ne_enc (dp_same (u1.trans u2) _ _ hu8) (.tup (.of upd_same) (.cons (.str _) (.cons (.int _) (.cons (dp_same u2 _ _ dd) .nil)))) (iteF ?_)
  have uu := u1.trans u2
  generalize upd H9 p2 (.tup [V.str "listed", .int t.sz, .ref p1]) = H10 at *
  have hu10 := dp_same uu _ _ hu8
  have hw10 := dp_same uu _ _ hw8
  have hn10 := uu _ _ hn8
  have hm10 := uu _ _ hm8
  have hN10 := uu _ _ hN8
  have hdt10 := dp_same uu _ _ hdt8
  clear u1 u2 uu dd r3 hu8 hw8 hn8 hm8 hN8 hdt8
  -- is_system
  refine ⟨_, rfl, .listed t.sz (L t.sz g), vu, rfl, GU.ok, by show 1 ≤ 3; decide, hu10, fun H11 u3 => ⟨true, rfl, iteF ?_⟩⟩
  have hu11 := dp_same u3 _ _ hu10
  have hw11 := dp_same u3 _ _ hw10
  have hn11 := u3 _ _ hn10
  have hm11 := u3 _ _ hm10
  have hN11 := u3 _ _ hN10
  have hdt11 := dp_same u3 _ _ hdt10
  clear u3 hu10 hw10 hn10 hm10 hN10 hdt10
  -- renamed(whole, tuple(names)) != told
  refine ⟨_, rfl, _, rfl, pn, _, rfl, .inl ⟨.of hn11, fun p3 hp3 => ?_⟩⟩
  have u4 := same_new (o := .tup (ns.map V.int)) hp3
  refine sp_ren GL (dp_same u4 _ _ hw11) (.inr (.of upd_same)) hns fun v12 H12 u5 hd12 => ?_
  have u45 := u4.trans u5
  have hu12 := dp_same u45 _ _ hu11
  rw [hg] at hd12
  refine ⟨_, rfl, ne_enc hd12 hu12 (iteF ?_)⟩
  have hw12 := dp_same u45 _ _ hw11
  have hn12 := u45 _ _ hn11
  have hm12 := u45 _ _ hm11
  have hN12 := u45 _ _ hN11
  have hdt12 := dp_same u45 _ _ hdt11
  clear u4 u5 u45 hd12 hu11 hw11 hn11 hm11 hN11 hdt11
  -- the third points
  have hat : ∀ i : Nat, i < 100 → ∃ b : Int, atI (N.map V.int) (i : Int) = some (V.int b) ∧ 0 ≤ b := fun i hi => by
    have hix : N[i]? = some (N[i]'(by omega)) := List.getElem?_eq_getElem (by omega)
    obtain ⟨b0, b1⟩ := hNb _ (List.mem_of_getElem? hix)
    refine ⟨_, atI_nat (j := i) ?_, b0⟩
    rw [List.getElem?_map, hix]
    rfl
  refine ⟨12, rfl, by decide, by decide, for_range (lo := 0) (n := (12 : Int).toNat) (fun i σ H' => ∃ y9 y10 y11, σ = [some (.ref a), some (.ref pN), some vt, some (.int t.sz), some (.ref pn), some (.ref pm), some vu, some (.ref pw), some (.ref pd), y9, y10, y11, none, none, none] ∧ Same H12 H') ⟨none, none, none, rfl, .refl _⟩ (fun i σ H' hi hp => ?_) (fun σ H' hp => ?_)⟩
  · obtain ⟨y9, y10, y11, rfl, sm⟩ := hp
    have hi12 : i < 12 := hi
    obtain ⟨x, ex, x0⟩ := hat (80 + i) (by omega)
    obtain ⟨y, ey, y0⟩ := hat (81 + i) (by omega)
    have ex' : atI (N.map V.int) (80 + (0 + (i : Int))) = some (V.int x) := by rw [← ex]; congr 1; omega
    have ey' : atI (N.map V.int) (81 + (0 + (i : Int))) = some (V.int y) := by rw [← ey]; congr 1; omega
    have hz0 : (0 : Int) < t.sz := by omega
    have a0 := mod_lt' (a := x) hz0
    have b0 := mod_lt' (a := y) hz0
    have hN' := sm _ _ hN12
    have hn' := sm _ _ hn12
    refine ⟨_, rfl, _, rfl, _, _, rfl, rfl, pN, _, _, _, rfl, rfl, .of hN', ex', .inl ⟨_, rfl, _, rfl, _, _, rfl, rfl, hz0, ?_⟩⟩
    refine ⟨_, rfl, _, rfl, _, _, rfl, rfl, pN, _, _, _, rfl, rfl, .of hN', ey', .inl ⟨_, rfl, _, rfl, _, _, rfl, rfl, hz0, ?_⟩⟩
    refine ⟨_, rfl, _, rfl, rfl, _, rfl, ifb (fun e => ?_) (fun e => iteF ⟨_, _, _, rfl, sm⟩)⟩
    have hne := vne_t e
    have pa := hns.p a0.1 a0.2
    have pb := hns.p b0.1 b0.2
    have hpne : pOf ns (x % (t.sz : Int)) ≠ pOf ns (y % (t.sz : Int)) := fun z => hne (hns.inj a0.1 a0.2 b0.1 b0.2 z)
    refine ⟨_, rfl, _, rfl, _, rfl, pn, _, _, _, rfl, rfl, .of hn', names_at hns a0.1 a0.2, _, rfl, _, rfl, pn, _, _, _, rfl, rfl, .of hn', names_at hns b0.1 b0.2, .listed t.sz (L t.sz g), vu, _, _, rfl, GU.ok, by show 1 ≤ 3; decide, dp_same sm _ _ hu12, ⟨pa.1, pa.2, pb.1, pb.2, hpne⟩, fun H13 s13 => ?_⟩
    have sm3 := sm.trans s13
    refine ⟨_, rfl, _, rfl, _, rfl, _, rfl, t, vt, (x % (t.sz : Int)), (y % (t.sz : Int)), rfl, G.ok, G.ht, dp_same sm3 _ _ hdt12, ⟨a0.1, a0.2, b0.1, b0.2, hne⟩, fun H14 s14 => ?_⟩
    have sm4 := sm3.trans s14
    have hth := hT (x % (t.sz : Int)) (y % (t.sz : Int)) a0.1 a0.2 b0.1 b0.2 hne
    refine ⟨pn, _, _, _, rfl, rfl, .of (sm4 _ _ hn12), names_at hns hth.1 hth.2.1, rfl, _, rfl, ?_⟩
    have eth : thd (.listed t.sz (L t.sz g)) (pOf ns (x % (t.sz : Int))) (pOf ns (y % (t.sz : Int))) = pOf ns (thd t (x % (t.sz : Int)) (y % (t.sz : Int))) := by
      rw [thd_listed GU.thd pa.1 pa.2 pb.1 pb.2 hpne, ← hg]
      exact cj_p hns a0.1 a0.2 b0.1 b0.2
    rw [eth]
    exact ifb (fun e => absurd e (by simp)) (fun _ => ⟨_, _, _, rfl, sm4⟩)
  obtain ⟨y9, y10, y11, rfl, sm⟩ := hp
  have hu13 := dp_same sm _ _ hu12
  have hw13 := dp_same sm _ _ hw12
  have hn13 := sm _ _ hn12
  have hm13 := sm _ _ hm12
  have hdt13 := dp_same sm _ _ hdt12
  clear sm hu12 hw12 hn12 hm12 hN12 hdt12 hat
  have eid : L t.sz (cj (iota t.sz) (thd t)) = L t.sz (thd t) := cj_id hT (nm_iota _) fun i h0 h1 => pOf_iota h0 h1
  -- renamed(told, turned_back(names)) != whole
  refine ⟨_, rfl, _, rfl, pn, t.sz, ns, rfl, .of hn13, hns, n60, fun zs2 hz2 hc2 ab H14 s14 hab => ?_⟩
  refine sp_ren GU (dp_same s14 _ _ hu13) (.inr hab) hz2 fun v15 H15 s15 hd15 => ?_
  have s1415 := s14.trans s15
  rw [← hg, cj_cmp hT hns hz2, hc2, eid] at hd15
  refine ⟨_, rfl, ne_enc hd15 (dp_same s1415 _ _ hw13) (iteF ?_)⟩
  -- renamed(told, more) != renamed(tree, one_after_another(names, more))
  refine ⟨_, rfl, _, rfl, sp_ren GU (dp_same s1415 _ _ hu13) (.inl (.of (s1415 _ _ hm13))) hms fun v16 H16 s16 hd16 => ?_⟩
  have s1416 := s1415.trans s16
  refine ⟨_, rfl, _, rfl, _, rfl, pn, pm, t.sz, ns, ms, rfl, .of (s1416 _ _ hn13), .inl (.of (s1416 _ _ hm13)), hns, hms, n60, fun aa H17 s17 haa => ?_⟩
  have s1417 := s1416.trans s17
  refine sp_renT G (dp_same s1417 _ _ hdt13) (.inr haa) (cmpN_nm hns hms) fun v18 H18 s18 hd18 => ?_
  have s1418 := s1417.trans s18
  rw [← hg, cj_cmp hT hns hms] at hd16
  refine ne_enc (dp_same (s17.trans s18) _ _ hd16) hd18 (iteF ?_)
  have hu18 := dp_same s1418 _ _ hu13
  have hw18 := dp_same s1418 _ _ hw13
  have hn18 := s1418 _ _ hn13
  have hdt18 := dp_same s1418 _ _ hdt13
  clear s14 s15 s1415 s16 s1416 s17 s1417 s18 s1418 hd15 hd16 hd18 hu13 hw13 hn13 hm13 hdt13
  -- renamed(tree, list(range(count))) != whole
  refine ⟨_, rfl, _, rfl, _, rfl, RgOk.of_le (by omega) (by omega) (by omega) (by omega), fun p4 hp4 => ?_⟩
  rw [rgV_iota]
  have s19 := same_new (o := .lst ((iota t.sz).map V.int)) hp4
  refine sp_renT G (dp_same s19 _ _ hdt18) (.inl (.of upd_same)) (nm_iota _) fun v20 H20 s20 hd20 => ?_
  have s1920 := s19.trans s20
  rw [eid] at hd20
  refine ⟨_, rfl, ne_enc hd20 (dp_same s1920 _ _ hw18) (iteF ?_)⟩
  -- parse_system(format_system(told)) != told
  refine ⟨_, rfl, t.sz, L t.sz g, vu, rfl, GU.ok, GU.tri, GU.len, dp_same s1920 _ _ hu18, fun H21 s21 => ?_⟩
  refine ⟨t.sz, L t.sz g, rfl, GU.ok, GU.tri, GU.len, fun v22 H22 s22 hd22 => ?_⟩
  have s1922 := (s1920.trans s21).trans s22
  refine ⟨_, rfl, ne_enc hd22 (dp_same s1922 _ _ hu18) (iteF ?_)⟩
  -- same_threes(told, renamed(tree, names))
  refine ⟨_, rfl, _, rfl, _, rfl, sp_renT G (dp_same s1922 _ _ hdt18) (.inl (.of (s1922 _ _ hn18))) hns fun v23 H23 s23 hd23 => ?_⟩
  have s1923 := s1922.trans s23
  rw [hg] at hd23
  refine ⟨.listed t.sz (L t.sz g), .listed t.sz (L t.sz g), vu, v23, rfl, ⟨GU.ok, by show 1 ≤ 3; decide, n60, dp_same s1923 _ _ hu18⟩, ⟨GU.ok, by show 1 ≤ 3; decide, n60, hd23⟩, rfl, rfl, fun HB s24 => ⟨true, rfl, iteF ?_⟩⟩
  have sX := s1923.trans s24
  have hnB := sX _ _ hn18
  have hdtB := dp_same sX _ _ hdt18
  clear s19 s20 s1920 s21 s22 s1922 s23 s1923 s24 sX hd20 hd22 hd23 hu18 hw18 hn18 hdt18
  -- the bad names
  have sB : Same HB HB := .refl _
  have fit : ∀ (l m : List Int), l.length + m.length ≤ 200 → l.length + m.length ≤ sizeLine := fun l m h => Nat.le_trans h (by decide)
  have c1 : cutV (ns.map V.int) (some (1 : Int)) none = (ns.drop 1).map V.int := (cutFrom _ 1).trans (by rw [List.map_drop])
  have c4 : cutV (ns.map V.int) (some (2 : Int)) none = (ns.drop 2).map V.int := (cutFrom _ 2).trans (by rw [List.map_drop])
  have c3 : cutV (ns.map V.int) none (some (1 : Int)) = (ns.take 1).map V.int := (cut_to _ 1).trans (by rw [List.map_take])
  have c2 : cutV (ns.map V.int) none (some ((t.sz : Int) - 1)) = (ns.take (t.sz - 1)).map V.int := by
    have e : (t.sz : Int) - 1 = ((t.sz - 1 : Nat) : Int) := by omega
    rw [e, cut_to, List.map_take]
  refine ⟨_, rfl, 1, rfl, pn, _, rfl, .of hnB, fun q1 hq1 => ?_⟩
  rw [c1]
  have uu := same_new (o := .lst ((ns.drop 1).map V.int)) hq1
  have f1 : upd HB q1 (.lst ((ns.drop 1).map V.int)) q1 = some (.lst ((ns.drop 1).map V.int)) := upd_same
  replace hnB := uu _ _ hnB
  replace sB := sB.trans uu
  clear uu hq1
  generalize upd HB q1 (.lst ((ns.drop 1).map V.int)) = J1 at *
  refine ⟨_, rfl, _, rfl, by show 1 ≤ sizeLine; decide, fun q2 hq2 => ?_⟩
  have uu := same_new (o := .lst ([V.int (t.sz : Int)])) hq2
  have f2 : upd J1 q2 (.lst ([V.int (t.sz : Int)])) q2 = some (.lst ([(t.sz : Int)].map V.int)) := upd_same
  replace hnB := uu _ _ hnB
  replace f1 := uu _ _ f1
  replace sB := sB.trans uu
  clear uu hq2
  generalize upd J1 q2 (.lst ([V.int (t.sz : Int)])) = J2 at *
  refine ⟨pn, q2, _, _, rfl, rfl, hnB, f2, (by simp only [List.length_map]; exact fit (ns) ([(t.sz : Int)]) (by first | omega | (simp only [List.length_append, List.length_take, List.length_drop, List.length_cons, List.length_nil]; omega))), fun q3 hq3 => ?_⟩
  rw [← List.map_append]
  have uu := same_new (o := .lst ((ns ++ [(t.sz : Int)]).map V.int)) hq3
  have f3 : upd J2 q3 (.lst ((ns ++ [(t.sz : Int)]).map V.int)) q3 = some (.lst ((ns ++ [(t.sz : Int)]).map V.int)) := upd_same
  replace hnB := uu _ _ hnB
  replace f1 := uu _ _ f1
  replace f2 := uu _ _ f2
  replace sB := sB.trans uu
  clear uu hq3
  generalize upd J2 q3 (.lst ((ns ++ [(t.sz : Int)]).map V.int)) = J3 at *
  refine ⟨_, rfl, _, rfl, _, _, rfl, rfl, _, rfl, pn, _, rfl, .of hnB, fun q4 hq4 => ?_⟩
  rw [c2]
  have uu := same_new (o := .lst ((ns.take (t.sz - 1)).map V.int)) hq4
  have f4 : upd J3 q4 (.lst ((ns.take (t.sz - 1)).map V.int)) q4 = some (.lst ((ns.take (t.sz - 1)).map V.int)) := upd_same
  replace hnB := uu _ _ hnB
  replace f1 := uu _ _ f1
  replace f2 := uu _ _ f2
  replace f3 := uu _ _ f3
  replace sB := sB.trans uu
  clear uu hq4
  generalize upd J3 q4 (.lst ((ns.take (t.sz - 1)).map V.int)) = J4 at *
  refine ⟨_, rfl, by show 1 ≤ sizeLine; decide, fun q5 hq5 => ?_⟩
  have uu := same_new (o := .lst ([V.int (t.sz : Int)])) hq5
  have f5 : upd J4 q5 (.lst ([V.int (t.sz : Int)])) q5 = some (.lst ([(t.sz : Int)].map V.int)) := upd_same
  replace hnB := uu _ _ hnB
  replace f1 := uu _ _ f1
  replace f2 := uu _ _ f2
  replace f3 := uu _ _ f3
  replace f4 := uu _ _ f4
  replace sB := sB.trans uu
  clear uu hq5
  generalize upd J4 q5 (.lst ([V.int (t.sz : Int)])) = J5 at *
  refine ⟨q4, q5, _, _, rfl, rfl, f4, f5, (by simp only [List.length_map]; exact fit (ns.take (t.sz - 1)) ([(t.sz : Int)]) (by first | omega | (simp only [List.length_append, List.length_take, List.length_drop, List.length_cons, List.length_nil]; omega))), fun q6 hq6 => ?_⟩
  rw [← List.map_append]
  have uu := same_new (o := .lst ((ns.take (t.sz - 1) ++ [(t.sz : Int)]).map V.int)) hq6
  have f6 : upd J5 q6 (.lst ((ns.take (t.sz - 1) ++ [(t.sz : Int)]).map V.int)) q6 = some (.lst ((ns.take (t.sz - 1) ++ [(t.sz : Int)]).map V.int)) := upd_same
  replace hnB := uu _ _ hnB
  replace f1 := uu _ _ f1
  replace f2 := uu _ _ f2
  replace f3 := uu _ _ f3
  replace f4 := uu _ _ f4
  replace f5 := uu _ _ f5
  replace sB := sB.trans uu
  clear uu hq6
  generalize upd J5 q6 (.lst ((ns.take (t.sz - 1) ++ [(t.sz : Int)]).map V.int)) = J6 at *
  refine ⟨_, rfl, _, rfl, _, _, rfl, rfl, _, rfl, pn, _, rfl, .of hnB, fun q7 hq7 => ?_⟩
  rw [c2]
  have uu := same_new (o := .lst ((ns.take (t.sz - 1)).map V.int)) hq7
  have f7 : upd J6 q7 (.lst ((ns.take (t.sz - 1)).map V.int)) q7 = some (.lst ((ns.take (t.sz - 1)).map V.int)) := upd_same
  replace hnB := uu _ _ hnB
  replace f1 := uu _ _ f1
  replace f2 := uu _ _ f2
  replace f3 := uu _ _ f3
  replace f4 := uu _ _ f4
  replace f5 := uu _ _ f5
  replace f6 := uu _ _ f6
  replace sB := sB.trans uu
  clear uu hq7
  generalize upd J6 q7 (.lst ((ns.take (t.sz - 1)).map V.int)) = J7 at *
  refine ⟨1, rfl, by show 1 ≤ sizeLine; decide, fun q8 hq8 => ?_⟩
  have uu := same_new (o := .lst ([V.int (-1)])) hq8
  have f8 : upd J7 q8 (.lst ([V.int (-1)])) q8 = some (.lst ([(-1 : Int)].map V.int)) := upd_same
  replace hnB := uu _ _ hnB
  replace f1 := uu _ _ f1
  replace f2 := uu _ _ f2
  replace f3 := uu _ _ f3
  replace f4 := uu _ _ f4
  replace f5 := uu _ _ f5
  replace f6 := uu _ _ f6
  replace f7 := uu _ _ f7
  replace sB := sB.trans uu
  clear uu hq8
  generalize upd J7 q8 (.lst ([V.int (-1)])) = J8 at *
  refine ⟨q7, q8, _, _, rfl, rfl, f7, f8, (by simp only [List.length_map]; exact fit (ns.take (t.sz - 1)) ([(-1 : Int)]) (by first | omega | (simp only [List.length_append, List.length_take, List.length_drop, List.length_cons, List.length_nil]; omega))), fun q9 hq9 => ?_⟩
  rw [← List.map_append]
  have uu := same_new (o := .lst ((ns.take (t.sz - 1) ++ [(-1 : Int)]).map V.int)) hq9
  have f9 : upd J8 q9 (.lst ((ns.take (t.sz - 1) ++ [(-1 : Int)]).map V.int)) q9 = some (.lst ((ns.take (t.sz - 1) ++ [(-1 : Int)]).map V.int)) := upd_same
  replace hnB := uu _ _ hnB
  replace f1 := uu _ _ f1
  replace f2 := uu _ _ f2
  replace f3 := uu _ _ f3
  replace f4 := uu _ _ f4
  replace f5 := uu _ _ f5
  replace f6 := uu _ _ f6
  replace f7 := uu _ _ f7
  replace f8 := uu _ _ f8
  replace sB := sB.trans uu
  clear uu hq9
  generalize upd J8 q9 (.lst ((ns.take (t.sz - 1) ++ [(-1 : Int)]).map V.int)) = J9 at *
  refine ⟨_, rfl, _, rfl, 1, rfl, pn, _, rfl, .of hnB, fun q10 hq10 => ?_⟩
  rw [c3]
  have uu := same_new (o := .lst ((ns.take 1).map V.int)) hq10
  have f10 : upd J9 q10 (.lst ((ns.take 1).map V.int)) q10 = some (.lst ((ns.take 1).map V.int)) := upd_same
  replace hnB := uu _ _ hnB
  replace f1 := uu _ _ f1
  replace f2 := uu _ _ f2
  replace f3 := uu _ _ f3
  replace f4 := uu _ _ f4
  replace f5 := uu _ _ f5
  replace f6 := uu _ _ f6
  replace f7 := uu _ _ f7
  replace f8 := uu _ _ f8
  replace f9 := uu _ _ f9
  replace sB := sB.trans uu
  clear uu hq10
  generalize upd J9 q10 (.lst ((ns.take 1).map V.int)) = J10 at *
  refine ⟨pn, q10, _, _, rfl, rfl, hnB, f10, (by simp only [List.length_map]; exact fit (ns) (ns.take 1) (by first | omega | (simp only [List.length_append, List.length_take, List.length_drop, List.length_cons, List.length_nil]; omega))), fun q11 hq11 => ?_⟩
  rw [← List.map_append]
  have uu := same_new (o := .lst ((ns ++ ns.take 1).map V.int)) hq11
  have f11 : upd J10 q11 (.lst ((ns ++ ns.take 1).map V.int)) q11 = some (.lst ((ns ++ ns.take 1).map V.int)) := upd_same
  replace hnB := uu _ _ hnB
  replace f1 := uu _ _ f1
  replace f2 := uu _ _ f2
  replace f3 := uu _ _ f3
  replace f4 := uu _ _ f4
  replace f5 := uu _ _ f5
  replace f6 := uu _ _ f6
  replace f7 := uu _ _ f7
  replace f8 := uu _ _ f8
  replace f9 := uu _ _ f9
  replace f10 := uu _ _ f10
  replace sB := sB.trans uu
  clear uu hq11
  generalize upd J10 q11 (.lst ((ns ++ ns.take 1).map V.int)) = J11 at *
  refine ⟨_, rfl, 1, rfl, pn, _, rfl, .of hnB, fun q12 hq12 => ?_⟩
  rw [c3]
  have uu := same_new (o := .lst ((ns.take 1).map V.int)) hq12
  have f12 : upd J11 q12 (.lst ((ns.take 1).map V.int)) q12 = some (.lst ((ns.take 1).map V.int)) := upd_same
  replace hnB := uu _ _ hnB
  replace f1 := uu _ _ f1
  replace f2 := uu _ _ f2
  replace f3 := uu _ _ f3
  replace f4 := uu _ _ f4
  replace f5 := uu _ _ f5
  replace f6 := uu _ _ f6
  replace f7 := uu _ _ f7
  replace f8 := uu _ _ f8
  replace f9 := uu _ _ f9
  replace f10 := uu _ _ f10
  replace f11 := uu _ _ f11
  replace sB := sB.trans uu
  clear uu hq12
  generalize upd J11 q12 (.lst ((ns.take 1).map V.int)) = J12 at *
  refine ⟨_, rfl, 1, rfl, pn, _, rfl, .of hnB, fun q13 hq13 => ?_⟩
  rw [c3]
  have uu := same_new (o := .lst ((ns.take 1).map V.int)) hq13
  have f13 : upd J12 q13 (.lst ((ns.take 1).map V.int)) q13 = some (.lst ((ns.take 1).map V.int)) := upd_same
  replace hnB := uu _ _ hnB
  replace f1 := uu _ _ f1
  replace f2 := uu _ _ f2
  replace f3 := uu _ _ f3
  replace f4 := uu _ _ f4
  replace f5 := uu _ _ f5
  replace f6 := uu _ _ f6
  replace f7 := uu _ _ f7
  replace f8 := uu _ _ f8
  replace f9 := uu _ _ f9
  replace f10 := uu _ _ f10
  replace f11 := uu _ _ f11
  replace f12 := uu _ _ f12
  replace sB := sB.trans uu
  clear uu hq13
  generalize upd J12 q13 (.lst ((ns.take 1).map V.int)) = J13 at *
  refine ⟨q12, q13, _, _, rfl, rfl, f12, f13, (by simp only [List.length_map]; exact fit (ns.take 1) (ns.take 1) (by first | omega | (simp only [List.length_append, List.length_take, List.length_drop, List.length_cons, List.length_nil]; omega))), fun q14 hq14 => ?_⟩
  rw [← List.map_append]
  have uu := same_new (o := .lst ((ns.take 1 ++ ns.take 1).map V.int)) hq14
  have f14 : upd J13 q14 (.lst ((ns.take 1 ++ ns.take 1).map V.int)) q14 = some (.lst ((ns.take 1 ++ ns.take 1).map V.int)) := upd_same
  replace hnB := uu _ _ hnB
  replace f1 := uu _ _ f1
  replace f2 := uu _ _ f2
  replace f3 := uu _ _ f3
  replace f4 := uu _ _ f4
  replace f5 := uu _ _ f5
  replace f6 := uu _ _ f6
  replace f7 := uu _ _ f7
  replace f8 := uu _ _ f8
  replace f9 := uu _ _ f9
  replace f10 := uu _ _ f10
  replace f11 := uu _ _ f11
  replace f12 := uu _ _ f12
  replace f13 := uu _ _ f13
  replace sB := sB.trans uu
  clear uu hq14
  generalize upd J13 q14 (.lst ((ns.take 1 ++ ns.take 1).map V.int)) = J14 at *
  refine ⟨_, rfl, 2, rfl, pn, _, rfl, .of hnB, fun q15 hq15 => ?_⟩
  rw [c4]
  have uu := same_new (o := .lst ((ns.drop 2).map V.int)) hq15
  have f15 : upd J14 q15 (.lst ((ns.drop 2).map V.int)) q15 = some (.lst ((ns.drop 2).map V.int)) := upd_same
  replace hnB := uu _ _ hnB
  replace f1 := uu _ _ f1
  replace f2 := uu _ _ f2
  replace f3 := uu _ _ f3
  replace f4 := uu _ _ f4
  replace f5 := uu _ _ f5
  replace f6 := uu _ _ f6
  replace f7 := uu _ _ f7
  replace f8 := uu _ _ f8
  replace f9 := uu _ _ f9
  replace f10 := uu _ _ f10
  replace f11 := uu _ _ f11
  replace f12 := uu _ _ f12
  replace f13 := uu _ _ f13
  replace f14 := uu _ _ f14
  replace sB := sB.trans uu
  clear uu hq15
  generalize upd J14 q15 (.lst ((ns.drop 2).map V.int)) = J15 at *
  refine ⟨q14, q15, _, _, rfl, rfl, f14, f15, (by simp only [List.length_map]; exact fit (ns.take 1 ++ ns.take 1) (ns.drop 2) (by first | omega | (simp only [List.length_append, List.length_take, List.length_drop, List.length_cons, List.length_nil]; omega))), fun q16 hq16 => ?_⟩
  rw [← List.map_append]
  have uu := same_new (o := .lst ((ns.take 1 ++ ns.take 1 ++ ns.drop 2).map V.int)) hq16
  have f16 : upd J15 q16 (.lst ((ns.take 1 ++ ns.take 1 ++ ns.drop 2).map V.int)) q16 = some (.lst ((ns.take 1 ++ ns.take 1 ++ ns.drop 2).map V.int)) := upd_same
  replace hnB := uu _ _ hnB
  replace f1 := uu _ _ f1
  replace f2 := uu _ _ f2
  replace f3 := uu _ _ f3
  replace f4 := uu _ _ f4
  replace f5 := uu _ _ f5
  replace f6 := uu _ _ f6
  replace f7 := uu _ _ f7
  replace f8 := uu _ _ f8
  replace f9 := uu _ _ f9
  replace f10 := uu _ _ f10
  replace f11 := uu _ _ f11
  replace f12 := uu _ _ f12
  replace f13 := uu _ _ f13
  replace f14 := uu _ _ f14
  replace f15 := uu _ _ f15
  replace sB := sB.trans uu
  clear uu hq16
  generalize upd J15 q16 (.lst ((ns.take 1 ++ ns.take 1 ++ ns.drop 2).map V.int)) = J16 at *
  refine ⟨by show 6 ≤ sizeLine; decide, fun q17 hq17 => ?_⟩
  have uu := same_new (o := .lst ([V.ref q1, V.ref q3, V.ref q6, V.ref q9, V.ref q11, V.ref q16])) hq17
  have f17 : upd J16 q17 (.lst ([V.ref q1, V.ref q3, V.ref q6, V.ref q9, V.ref q11, V.ref q16])) q17 = some (.lst ([V.ref q1, V.ref q3, V.ref q6, V.ref q9, V.ref q11, V.ref q16])) := upd_same
  replace hnB := uu _ _ hnB
  replace f1 := uu _ _ f1
  replace f2 := uu _ _ f2
  replace f3 := uu _ _ f3
  replace f4 := uu _ _ f4
  replace f5 := uu _ _ f5
  replace f6 := uu _ _ f6
  replace f7 := uu _ _ f7
  replace f8 := uu _ _ f8
  replace f9 := uu _ _ f9
  replace f10 := uu _ _ f10
  replace f11 := uu _ _ f11
  replace f12 := uu _ _ f12
  replace f13 := uu _ _ f13
  replace f14 := uu _ _ f14
  replace f15 := uu _ _ f15
  replace f16 := uu _ _ f16
  replace sB := sB.trans uu
  clear uu hq17
  generalize upd J16 q17 (.lst ([V.ref q1, V.ref q3, V.ref q6, V.ref q9, V.ref q11, V.ref q16])) = J17 at *
  have hbad : ∀ (i : Nat) (x : V), ([V.ref q1, V.ref q3, V.ref q6, V.ref q9, V.ref q11, V.ref q16] : List V)[i]? = some x → ∃ (p : Addr) (b : List Int), x = .ref p ∧ b ∈ bads t.sz ns ∧ J17 p = some (.lst (b.map V.int)) := fun i x ex => by
    match i, ex with
    | 0, ex => exact ⟨q1, _, (Option.some.inj ex).symm, .head _, f1⟩
    | 1, ex => exact ⟨q3, _, (Option.some.inj ex).symm, .tail _ (.head _), f3⟩
    | 2, ex => exact ⟨q6, _, (Option.some.inj ex).symm, .tail _ (.tail _ (.head _)), f6⟩
    | 3, ex => exact ⟨q9, _, (Option.some.inj ex).symm, .tail _ (.tail _ (.tail _ (.head _))), f9⟩
    | 4, ex => exact ⟨q11, _, (Option.some.inj ex).symm, .tail _ (.tail _ (.tail _ (.tail _ (.head _)))), f11⟩
    | 5, ex => exact ⟨q16, _, (Option.some.inj ex).symm, .tail _ (.tail _ (.tail _ (.tail _ (.tail _ (.head _))))), f16⟩
    | _ + 6, ex => simp at ex
  have hdtL := dp_same sB _ _ hdtB
  refine ⟨q17, rfl, ⟨_, .of f17⟩, for_list (xs := [V.ref q1, V.ref q3, V.ref q6, V.ref q9, V.ref q11, V.ref q16]) (fun i σ H' => ∃ y12, σ = [some (.ref a), some (.ref pN), some vt, some (.int t.sz), some (.ref pn), some (.ref pm), some vu, some (.ref pw), some (.ref pd), y9, y10, y11, y12, none, none] ∧ Same J17 H') ⟨none, rfl, .refl _⟩
    (fun i σ H' _ hp => by obtain ⟨_, _, sm⟩ := hp; exact .of (sm _ _ f17)) (fun i x σ H' hi hp => ?_) (fun σ H' hp => ?_)⟩
  · obtain ⟨y12, rfl, sm⟩ := hp
    obtain ⟨p, b, rfl, hb, hpb⟩ := hbad i x hi
    obtain ⟨nb, lb⟩ := bads_not hns GL.n1 n60 b hb
    refine ⟨_, rfl, _, rfl, t, vt, p, b, rfl, G.ok, G.ht, n60, hT, dp_same sm _ _ hdtL, .inl (.of (sm _ _ hpb)), lb, nb, fun H25 s25 => ⟨true, rfl, iteF ⟨_, rfl, sm.trans s25⟩⟩⟩
  · obtain ⟨y12, rfl, sm⟩ := hp
    exact q _
end
end Pj
/-! The promises one out of another, from what the written part says. -/
namespace Pj
open PySem PySem.Spec PyProof.Rows L2 PjM TL
theorem kit_val {K : PySem.W.Frag} {C : Addr} {x : String} {b : Bool} (h : PySem.W.subIn K (.ref C) (.type x) = some b) (hm : PySem.W.kitMeta x = true) : PySem.W.kitOne K (.ref C) (.type x) = some b := by
  show (if (Value.ref C == Value.type x) = true then some true else (if PySem.W.kitMeta x = true then PySem.W.subIn K (.ref C) (.type x) else none)) = some b
  rw [if_neg (by show ¬ false = true; decide), if_pos hm]
  exact h
theorem kit_ref {K : PySem.W.Frag} {C D : Addr} {b : Bool} (hn : (Value.ref C == Value.ref D) = false) (h1 : PySem.W.isClsIn K D = true) (h2 : PySem.W.typeIn K (.ref D) = some (.type "type")) (h : PySem.W.subIn K (.ref C) (.ref D) = some b) : PySem.W.kitOne K (.ref C) (.ref D) = some b := by
  have h1' : (PySem.W.clsIn K D).isSome = true := h1
  have e2 : ((PySem.W.clsIn K D).isSome && PySem.W.typeIn K (.ref D) == some (.type "type")) = true := by rw [h1', h2] <;> rfl
  show (if (Value.ref C == Value.ref D) = true then some true else (if ((PySem.W.clsIn K D).isSome && PySem.W.typeIn K (.ref D) == some (.type "type")) = true then PySem.W.subIn K (.ref C) (.ref D) else none)) = some b
  rw [hn, if_neg Bool.false_ne_true, if_pos e2]
  exact h
theorem all_mk {l : PySem.W.OpenLaw} {w : World} {K : PySem.W.Frag} {h : Heap} {mg : Str → Option Value} {fa T dA CQ CS f0 f1 f2 f3 f4 f5 f6 f7 f8 f9 f10 f11 f12 f13 f14 f15 f16 f17 f18 f19 f20 f21 f22 f23 f24 f25 f26 f27 f28 f29 f30 f31 f32 f33 f34 f35 f36 f37 f38 f39 f40 f41 f42 f43 f44 f45 : Addr} {es : Array DictEntry} {nA nT : Nat} {tT tD ta0 ta1 ta2 ta3 ta4 ta5 ta6 tg0 tg1 tg2 tg3 tg4 tg5 tg6 : Tok} {v0 v1 v2 v3 v4 v5 v6 : Int}
    {odT od0 od1 od2 od3 od4 od5 od6 od7 od8 od9 od10 od11 od12 od13 od14 od15 od16 od17 od18 od19 od20 od21 od22 od23 od24 od25 od26 od27 od28 od29 od30 od31 od32 od33 od34 od35 od36 od37 od38 od39 od40 od41 od42 od43 od44 od45 an0 an1 an2 an3 an4 an5 an6 an7 an8 an9 an10 an11 an12 an13 an14 an15 an16 an17 an18 an19 an20 an21 an22 an23 an24 an25 an26 an27 an28 an29 an30 an31 an32 an33 an34 an35 an36 an37 an38 an39 an40 an41 an42 an43 an44 an45 : Option Addr} {slT sl0 sl1 sl2 sl3 sl4 sl5 sl6 sl7 sl8 sl9 sl10 sl11 sl12 sl13 sl14 sl15 sl16 sl17 sl18 sl19 sl20 sl21 sl22 sl23 sl24 sl25 sl26 sl27 sl28 sl29 sl30 sl31 sl32 sl33 sl34 sl35 sl36 sl37 sl38 sl39 sl40 sl41 sl42 sl43 sl44 sl45 : Array (Option Value)} {oc0 oc1 oc2 oc3 oc4 oc5 oc6 oc7 oc8 oc9 oc10 oc11 oc12 oc13 oc14 oc15 oc16 oc17 oc18 oc19 oc20 oc21 oc22 oc23 oc24 oc25 oc26 oc27 oc28 oc29 oc30 oc31 oc32 oc33 oc34 oc35 oc36 oc37 oc38 oc39 oc40 oc41 oc42 oc43 oc44 oc45 kV0 kV1 kV2 kV3 kV4 kV5 kV6 kV7 kV8 kV9 kV10 kV11 kV12 kV13 kV14 kV15 kV16 kV17 kV18 kV19 kV20 kV21 kV22 kV23 kV24 kV25 kV26 kV27 kV28 kV29 kV30 kV31 kV32 kV33 kV34 kV35 kV36 kV37 kV38 kV39 kV40 kV41 kV42 kV43 kV44 kV45 dc0 dc1 dc2 dc3 dc4 dc5 dc6 dc7 dc8 dc9 dc10 dc11 dc12 dc13 dc14 dc15 dc16 dc17 dc18 dc19 dc20 dc21 dc22 dc23 dc24 dc25 dc26 dc27 dc28 dc29 dc30 dc31 dc32 dc33 dc34 dc35 dc36 dc37 dc38 dc39 dc40 dc41 dc42 dc43 dc44 dc45 pm0 pm1 pm2 pm3 pm4 pm5 pm6 pm7 pm8 pm9 pm10 pm11 pm12 pm13 pm14 pm15 pm16 pm17 pm18 pm19 pm20 pm21 pm22 pm23 pm24 pm25 pm26 pm27 pm28 pm29 pm30 pm31 pm32 pm33 pm34 pm35 pm36 pm37 pm38 pm39 pm40 pm41 pm42 pm43 pm44 pm45 cd0 cd1 cd2 cd3 cd4 cd5 cd6 cd7 cd8 cd9 cd10 cd11 cd12 cd13 cd14 cd15 cd16 cd17 cd18 cd19 cd20 cd21 cd22 cd23 cd24 cd25 cd26 cd27 cd28 cd29 cd30 cd31 cd32 cd33 cd34 cd35 cd36 cd37 cd38 cd39 cd40 cd41 cd42 cd43 cd44 cd45 ct0 ct1 ct2 ct3 ct4 ct5 ct6 ct7 ct8 ct9 ct10 ct11 ct12 ct13 ct14 ct15 ct16 ct17 ct18 ct19 ct20 ct21 ct22 ct23 ct24 ct25 ct26 ct27 ct28 ct29 ct30 ct31 ct32 ct33 ct34 ct35 ct36 ct37 ct38 ct39 ct40 ct41 ct42 ct43 ct44 ct45 : Value} (X : K.In h) (GN : h.Ns mainGlobals mg) (hfa : mg "law" = some (.ref fa))
    (a0 : PySem.W.nsIn K mainGlobals "power_of" = some (some (.ref f0)))
    (l0 : K.lookup f0 = some ⟨oc0, od0, .func (PySem.W.fnOf "power_of" "power_of" (defArgs s_power_of) (defBody s_power_of) (defScope s_power_of) .none kV0 dc0 pm0 an0 cd0 ct0), sl0⟩)
    (c0 : PySem.W.codeIn K cd0 "power_of" = true)
    (k0 : PySem.W.keepIn K (.ref f0) = true)
    (a1 : PySem.W.nsIn K mainGlobals "point_at" = some (some (.ref f1)))
    (l1 : K.lookup f1 = some ⟨oc1, od1, .func (PySem.W.fnOf "point_at" "point_at" (defArgs s_point_at) (defBody s_point_at) (defScope s_point_at) .none kV1 dc1 pm1 an1 cd1 ct1), sl1⟩)
    (c1 : PySem.W.codeIn K cd1 "point_at" = true)
    (k1 : PySem.W.keepIn K (.ref f1) = true)
    (a2 : PySem.W.nsIn K mainGlobals "in_order" = some (some (.ref f2)))
    (l2 : K.lookup f2 = some ⟨oc2, od2, .func (PySem.W.fnOf "in_order" "in_order" (defArgs s_in_order) (defBody s_in_order) (defScope s_in_order) .none kV2 dc2 pm2 an2 cd2 ct2), sl2⟩)
    (c2 : PySem.W.codeIn K cd2 "in_order" = true)
    (k2 : PySem.W.keepIn K (.ref f2) = true)
    (a3 : PySem.W.nsIn K mainGlobals "third_in_bose" = some (some (.ref f3)))
    (l3 : K.lookup f3 = some ⟨oc3, od3, .func (PySem.W.fnOf "third_in_bose" "third_in_bose" (defArgs s_third_in_bose) (defBody s_third_in_bose) (defScope s_third_in_bose) .none kV3 dc3 pm3 an3 cd3 ct3), sl3⟩)
    (c3 : PySem.W.codeIn K cd3 "third_in_bose" = true)
    (k3 : PySem.W.keepIn K (.ref f3) = true)
    (a4 : PySem.W.nsIn K mainGlobals "half_of" = some (some (.ref f4)))
    (l4 : K.lookup f4 = some ⟨oc4, od4, .func (PySem.W.fnOf "half_of" "half_of" (defArgs s_half_of) (defBody s_half_of) (defScope s_half_of) .none kV4 dc4 pm4 an4 cd4 ct4), sl4⟩)
    (c4 : PySem.W.codeIn K cd4 "half_of" = true)
    (k4 : PySem.W.keepIn K (.ref f4) = true)
    (a5 : PySem.W.nsIn K mainGlobals "twice_of" = some (some (.ref f5)))
    (l5 : K.lookup f5 = some ⟨oc5, od5, .func (PySem.W.fnOf "twice_of" "twice_of" (defArgs s_twice_of) (defBody s_twice_of) (defScope s_twice_of) .none kV5 dc5 pm5 an5 cd5 ct5), sl5⟩)
    (c5 : PySem.W.codeIn K cd5 "twice_of" = true)
    (k5 : PySem.W.keepIn K (.ref f5) = true)
    (a6 : PySem.W.nsIn K mainGlobals "third_in_skolem" = some (some (.ref f6)))
    (l6 : K.lookup f6 = some ⟨oc6, od6, .func (PySem.W.fnOf "third_in_skolem" "third_in_skolem" (defArgs s_third_in_skolem) (defBody s_third_in_skolem) (defScope s_third_in_skolem) .none kV6 dc6 pm6 an6 cd6 ct6), sl6⟩)
    (c6 : PySem.W.codeIn K cd6 "third_in_skolem" = true)
    (k6 : PySem.W.keepIn K (.ref f6) = true)
    (a7 : PySem.W.nsIn K mainGlobals "figures_apart" = some (some (.ref f7)))
    (l7 : K.lookup f7 = some ⟨oc7, od7, .func (PySem.W.fnOf "figures_apart" "figures_apart" (defArgs s_figures_apart) (defBody s_figures_apart) (defScope s_figures_apart) .none kV7 dc7 pm7 an7 cd7 ct7), sl7⟩)
    (c7 : PySem.W.codeIn K cd7 "figures_apart" = true)
    (k7 : PySem.W.keepIn K (.ref f7) = true)
    (a8 : PySem.W.nsIn K mainGlobals "size_of" = some (some (.ref f8)))
    (l8 : K.lookup f8 = some ⟨oc8, od8, .func (PySem.W.fnOf "size_of" "size_of" (defArgs s_size_of) (defBody s_size_of) (defScope s_size_of) .none kV8 dc8 pm8 an8 cd8 ct8), sl8⟩)
    (c8 : PySem.W.codeIn K cd8 "size_of" = true)
    (k8 : PySem.W.keepIn K (.ref f8) = true)
    (a9 : PySem.W.nsIn K mainGlobals "third_of" = some (some (.ref f9)))
    (l9 : K.lookup f9 = some ⟨oc9, od9, .func (PySem.W.fnOf "third_of" "third_of" (defArgs s_third_of) (defBody s_third_of) (defScope s_third_of) .none kV9 dc9 pm9 an9 cd9 ct9), sl9⟩)
    (c9 : PySem.W.codeIn K cd9 "third_of" = true)
    (k9 : PySem.W.keepIn K (.ref f9) = true)
    (a10 : PySem.W.nsIn K mainGlobals "is_row" = some (some (.ref f10)))
    (l10 : K.lookup f10 = some ⟨oc10, od10, .func (PySem.W.fnOf "is_row" "is_row" (defArgs s_is_row) (defBody s_is_row) (defScope s_is_row) .none kV10 dc10 pm10 an10 cd10 ct10), sl10⟩)
    (c10 : PySem.W.codeIn K cd10 "is_row" = true)
    (k10 : PySem.W.keepIn K (.ref f10) = true)
    (a11 : PySem.W.nsIn K mainGlobals "is_integer" = some (some (.ref f11)))
    (l11 : K.lookup f11 = some ⟨oc11, od11, .func (PySem.W.fnOf "is_integer" "is_integer" (defArgs s_is_integer) (defBody s_is_integer) (defScope s_is_integer) .none kV11 dc11 pm11 an11 cd11 ct11), sl11⟩)
    (c11 : PySem.W.codeIn K cd11 "is_integer" = true)
    (k11 : PySem.W.keepIn K (.ref f11) = true)
    (a12 : PySem.W.nsIn K mainGlobals "require" = some (some (.ref f12)))
    (l12 : K.lookup f12 = some ⟨oc12, od12, .func (PySem.W.fnOf "require" "require" (defArgs s_require) (defBody s_require) (defScope s_require) .none kV12 dc12 pm12 an12 cd12 ct12), sl12⟩)
    (c12 : PySem.W.codeIn K cd12 "require" = true)
    (k12 : PySem.W.keepIn K (.ref f12) = true)
    (a13 : PySem.W.nsIn K mainGlobals "checked_threes" = some (some (.ref f13)))
    (l13 : K.lookup f13 = some ⟨oc13, od13, .func (PySem.W.fnOf "checked_threes" "checked_threes" (defArgs s_checked_threes) (defBody s_checked_threes) (defScope s_checked_threes) .none kV13 dc13 pm13 an13 cd13 ct13), sl13⟩)
    (c13 : PySem.W.codeIn K cd13 "checked_threes" = true)
    (k13 : PySem.W.keepIn K (.ref f13) = true)
    (a14 : PySem.W.nsIn K mainGlobals "checked_leaf" = some (some (.ref f14)))
    (l14 : K.lookup f14 = some ⟨oc14, od14, .func (PySem.W.fnOf "checked_leaf" "checked_leaf" (defArgs s_checked_leaf) (defBody s_checked_leaf) (defScope s_checked_leaf) .none kV14 dc14 pm14 an14 cd14 ct14), sl14⟩)
    (c14 : PySem.W.codeIn K cd14 "checked_leaf" = true)
    (k14 : PySem.W.keepIn K (.ref f14) = true)
    (a15 : PySem.W.nsIn K mainGlobals "checked_part" = some (some (.ref f15)))
    (l15 : K.lookup f15 = some ⟨oc15, od15, .func (PySem.W.fnOf "checked_part" "checked_part" (defArgs s_checked_part) (defBody s_checked_part) (defScope s_checked_part) (.ref T) kV15 dc15 pm15 an15 cd15 ct15), sl15⟩)
    (c15 : PySem.W.codeIn K cd15 "checked_part" = true)
    (k15 : PySem.W.keepIn K (.ref f15) = true)
    (a16 : PySem.W.nsIn K mainGlobals "checked" = some (some (.ref f16)))
    (l16 : K.lookup f16 = some ⟨oc16, od16, .func (PySem.W.fnOf "checked" "checked" (defArgs s_checked) (defBody s_checked) (defScope s_checked) .none kV16 dc16 pm16 an16 cd16 ct16), sl16⟩)
    (c16 : PySem.W.codeIn K cd16 "checked" = true)
    (k16 : PySem.W.keepIn K (.ref f16) = true)
    (a17 : PySem.W.nsIn K mainGlobals "size" = some (some (.ref f17)))
    (l17 : K.lookup f17 = some ⟨oc17, od17, .func (PySem.W.fnOf "size" "size" (defArgs s_size) (defBody s_size) (defScope s_size) .none kV17 dc17 pm17 an17 cd17 ct17), sl17⟩)
    (c17 : PySem.W.codeIn K cd17 "size" = true)
    (k17 : PySem.W.keepIn K (.ref f17) = true)
    (a18 : PySem.W.nsIn K mainGlobals "is_system" = some (some (.ref f18)))
    (l18 : K.lookup f18 = some ⟨oc18, od18, .func (PySem.W.fnOf "is_system" "is_system" (defArgs s_is_system) (defBody s_is_system) (defScope s_is_system) .none kV18 dc18 pm18 an18 cd18 ct18), sl18⟩)
    (c18 : PySem.W.codeIn K cd18 "is_system" = true)
    (k18 : PySem.W.keepIn K (.ref f18) = true)
    (a19 : PySem.W.nsIn K mainGlobals "checked_points" = some (some (.ref f19)))
    (l19 : K.lookup f19 = some ⟨oc19, od19, .func (PySem.W.fnOf "checked_points" "checked_points" (defArgs s_checked_points) (defBody s_checked_points) (defScope s_checked_points) .none kV19 dc19 pm19 an19 cd19 ct19), sl19⟩)
    (c19 : PySem.W.codeIn K cd19 "checked_points" = true)
    (k19 : PySem.W.keepIn K (.ref f19) = true)
    (a20 : PySem.W.nsIn K mainGlobals "third" = some (some (.ref f20)))
    (l20 : K.lookup f20 = some ⟨oc20, od20, .func (PySem.W.fnOf "third" "third" (defArgs s_third) (defBody s_third) (defScope s_third) .none kV20 dc20 pm20 an20 cd20 ct20), sl20⟩)
    (c20 : PySem.W.codeIn K cd20 "third" = true)
    (k20 : PySem.W.keepIn K (.ref f20) = true)
    (a21 : PySem.W.nsIn K mainGlobals "checked_small" = some (some (.ref f21)))
    (l21 : K.lookup f21 = some ⟨oc21, od21, .func (PySem.W.fnOf "checked_small" "checked_small" (defArgs s_checked_small) (defBody s_checked_small) (defScope s_checked_small) .none kV21 dc21 pm21 an21 cd21 ct21), sl21⟩)
    (c21 : PySem.W.codeIn K cd21 "checked_small" = true)
    (k21 : PySem.W.keepIn K (.ref f21) = true)
    (a22 : PySem.W.nsIn K mainGlobals "listed" = some (some (.ref f22)))
    (l22 : K.lookup f22 = some ⟨oc22, od22, .func (PySem.W.fnOf "listed" "listed" (defArgs s_listed) (defBody s_listed) (defScope s_listed) .none kV22 dc22 pm22 an22 cd22 ct22), sl22⟩)
    (c22 : PySem.W.codeIn K cd22 "listed" = true)
    (k22 : PySem.W.keepIn K (.ref f22) = true)
    (a23 : PySem.W.nsIn K mainGlobals "are_names" = some (some (.ref f23)))
    (l23 : K.lookup f23 = some ⟨oc23, od23, .func (PySem.W.fnOf "are_names" "are_names" (defArgs s_are_names) (defBody s_are_names) (defScope s_are_names) .none kV23 dc23 pm23 an23 cd23 ct23), sl23⟩)
    (c23 : PySem.W.codeIn K cd23 "are_names" = true)
    (k23 : PySem.W.keepIn K (.ref f23) = true)
    (a24 : PySem.W.nsIn K mainGlobals "check_names" = some (some (.ref f24)))
    (l24 : K.lookup f24 = some ⟨oc24, od24, .func (PySem.W.fnOf "check_names" "check_names" (defArgs s_check_names) (defBody s_check_names) (defScope s_check_names) .none kV24 dc24 pm24 an24 cd24 ct24), sl24⟩)
    (c24 : PySem.W.codeIn K cd24 "check_names" = true)
    (k24 : PySem.W.keepIn K (.ref f24) = true)
    (a25 : PySem.W.nsIn K mainGlobals "renamed" = some (some (.ref f25)))
    (l25 : K.lookup f25 = some ⟨oc25, od25, .func (PySem.W.fnOf "renamed" "renamed" (defArgs s_renamed) (defBody s_renamed) (defScope s_renamed) .none kV25 dc25 pm25 an25 cd25 ct25), sl25⟩)
    (c25 : PySem.W.codeIn K cd25 "renamed" = true)
    (k25 : PySem.W.keepIn K (.ref f25) = true)
    (a26 : PySem.W.nsIn K mainGlobals "turned_back" = some (some (.ref f26)))
    (l26 : K.lookup f26 = some ⟨oc26, od26, .func (PySem.W.fnOf "turned_back" "turned_back" (defArgs s_turned_back) (defBody s_turned_back) (defScope s_turned_back) .none kV26 dc26 pm26 an26 cd26 ct26), sl26⟩)
    (c26 : PySem.W.codeIn K cd26 "turned_back" = true)
    (k26 : PySem.W.keepIn K (.ref f26) = true)
    (a27 : PySem.W.nsIn K mainGlobals "one_after_another" = some (some (.ref f27)))
    (l27 : K.lookup f27 = some ⟨oc27, od27, .func (PySem.W.fnOf "one_after_another" "one_after_another" (defArgs s_one_after_another) (defBody s_one_after_another) (defScope s_one_after_another) .none kV27 dc27 pm27 an27 cd27 ct27), sl27⟩)
    (c27 : PySem.W.codeIn K cd27 "one_after_another" = true)
    (k27 : PySem.W.keepIn K (.ref f27) = true)
    (a28 : PySem.W.nsIn K mainGlobals "same_threes" = some (some (.ref f28)))
    (l28 : K.lookup f28 = some ⟨oc28, od28, .func (PySem.W.fnOf "same_threes" "same_threes" (defArgs s_same_threes) (defBody s_same_threes) (defScope s_same_threes) .none kV28 dc28 pm28 an28 cd28 ct28), sl28⟩)
    (c28 : PySem.W.codeIn K cd28 "same_threes" = true)
    (k28 : PySem.W.keepIn K (.ref f28) = true)
    (a29 : PySem.W.nsIn K mainGlobals "lines_of" = some (some (.ref f29)))
    (l29 : K.lookup f29 = some ⟨oc29, od29, .func (PySem.W.fnOf "lines_of" "lines_of" (defArgs s_lines_of) (defBody s_lines_of) (defScope s_lines_of) .none kV29 dc29 pm29 an29 cd29 ct29), sl29⟩)
    (c29 : PySem.W.codeIn K cd29 "lines_of" = true)
    (k29 : PySem.W.keepIn K (.ref f29) = true)
    (a30 : PySem.W.nsIn K mainGlobals "format_system" = some (some (.ref f30)))
    (l30 : K.lookup f30 = some ⟨oc30, od30, .func (PySem.W.fnOf "format_system" "format_system" (defArgs s_format_system) (defBody s_format_system) (defScope s_format_system) .none kV30 dc30 pm30 an30 cd30 ct30), sl30⟩)
    (c30 : PySem.W.codeIn K cd30 "format_system" = true)
    (k30 : PySem.W.keepIn K (.ref f30) = true)
    (a31 : PySem.W.nsIn K mainGlobals "is_number" = some (some (.ref f31)))
    (l31 : K.lookup f31 = some ⟨oc31, od31, .func (PySem.W.fnOf "is_number" "is_number" (defArgs s_is_number) (defBody s_is_number) (defScope s_is_number) .none kV31 dc31 pm31 an31 cd31 ct31), sl31⟩)
    (c31 : PySem.W.codeIn K cd31 "is_number" = true)
    (k31 : PySem.W.keepIn K (.ref f31) = true)
    (a32 : PySem.W.nsIn K mainGlobals "is_three" = some (some (.ref f32)))
    (l32 : K.lookup f32 = some ⟨oc32, od32, .func (PySem.W.fnOf "is_three" "is_three" (defArgs s_is_three) (defBody s_is_three) (defScope s_is_three) .none kV32 dc32 pm32 an32 cd32 ct32), sl32⟩)
    (c32 : PySem.W.codeIn K cd32 "is_three" = true)
    (k32 : PySem.W.keepIn K (.ref f32) = true)
    (a33 : PySem.W.nsIn K mainGlobals "is_head" = some (some (.ref f33)))
    (l33 : K.lookup f33 = some ⟨oc33, od33, .func (PySem.W.fnOf "is_head" "is_head" (defArgs s_is_head) (defBody s_is_head) (defScope s_is_head) .none kV33 dc33 pm33 an33 cd33 ct33), sl33⟩)
    (c33 : PySem.W.codeIn K cd33 "is_head" = true)
    (k33 : PySem.W.keepIn K (.ref f33) = true)
    (a34 : PySem.W.nsIn K mainGlobals "joined" = some (some (.ref f34)))
    (l34 : K.lookup f34 = some ⟨oc34, od34, .func (PySem.W.fnOf "joined" "joined" (defArgs s_joined) (defBody s_joined) (defScope s_joined) .none kV34 dc34 pm34 an34 cd34 ct34), sl34⟩)
    (c34 : PySem.W.codeIn K cd34 "joined" = true)
    (k34 : PySem.W.keepIn K (.ref f34) = true)
    (a35 : PySem.W.nsIn K mainGlobals "threes_from" = some (some (.ref f35)))
    (l35 : K.lookup f35 = some ⟨oc35, od35, .func (PySem.W.fnOf "threes_from" "threes_from" (defArgs s_threes_from) (defBody s_threes_from) (defScope s_threes_from) .none kV35 dc35 pm35 an35 cd35 ct35), sl35⟩)
    (c35 : PySem.W.codeIn K cd35 "threes_from" = true)
    (k35 : PySem.W.keepIn K (.ref f35) = true)
    (a36 : PySem.W.nsIn K mainGlobals "parse_system" = some (some (.ref f36)))
    (l36 : K.lookup f36 = some ⟨oc36, od36, .func (PySem.W.fnOf "parse_system" "parse_system" (defArgs s_parse_system) (defBody s_parse_system) (defScope s_parse_system) .none kV36 dc36 pm36 an36 cd36 ct36), sl36⟩)
    (c36 : PySem.W.codeIn K cd36 "parse_system" = true)
    (k36 : PySem.W.keepIn K (.ref f36) = true)
    (a37 : PySem.W.nsIn K mainGlobals "_law_row" = some (some (.ref f37)))
    (l37 : K.lookup f37 = some ⟨oc37, od37, .func (PySem.W.fnOf "_law_row" "_law_row" (defArgs s_law_row) (defBody s_law_row) (defScope s_law_row) .none kV37 dc37 pm37 an37 cd37 ct37), sl37⟩)
    (c37 : PySem.W.codeIn K cd37 "_law_row" = true)
    (k37 : PySem.W.keepIn K (.ref f37) = true)
    (a38 : PySem.W.nsIn K mainGlobals "_law_numbers" = some (some (.ref f38)))
    (l38 : K.lookup f38 = some ⟨oc38, od38, .func (PySem.W.fnOf "_law_numbers" "_law_numbers" (defArgs s_law_numbers) (defBody s_law_numbers) (defScope s_law_numbers) .none kV38 dc38 pm38 an38 cd38 ct38), sl38⟩)
    (c38 : PySem.W.codeIn K cd38 "_law_numbers" = true)
    (k38 : PySem.W.keepIn K (.ref f38) = true)
    (a39 : PySem.W.nsIn K mainGlobals "_law_small" = some (some (.ref f39)))
    (l39 : K.lookup f39 = some ⟨oc39, od39, .func (PySem.W.fnOf "_law_small" "_law_small" (defArgs s_law_small) (defBody s_law_small) (defScope s_law_small) .none kV39 dc39 pm39 an39 cd39 ct39), sl39⟩)
    (c39 : PySem.W.codeIn K cd39 "_law_small" = true)
    (k39 : PySem.W.keepIn K (.ref f39) = true)
    (a40 : PySem.W.nsIn K mainGlobals "_law_names" = some (some (.ref f40)))
    (l40 : K.lookup f40 = some ⟨oc40, od40, .func (PySem.W.fnOf "_law_names" "_law_names" (defArgs s_law_names) (defBody s_law_names) (defScope s_law_names) .none kV40 dc40 pm40 an40 cd40 ct40), sl40⟩)
    (c40 : PySem.W.codeIn K cd40 "_law_names" = true)
    (k40 : PySem.W.keepIn K (.ref f40) = true)
    (a41 : PySem.W.nsIn K mainGlobals "_law_refused" = some (some (.ref f41)))
    (l41 : K.lookup f41 = some ⟨oc41, od41, .func (PySem.W.fnOf "_law_refused" "_law_refused" (defArgs s_law_refused) (defBody s_law_refused) (defScope s_law_refused) .none kV41 dc41 pm41 an41 cd41 ct41), sl41⟩)
    (c41 : PySem.W.codeIn K cd41 "_law_refused" = true)
    (k41 : PySem.W.keepIn K (.ref f41) = true)
    (a42 : PySem.W.nsIn K mainGlobals "law" = some (some (.ref f42)))
    (l42 : K.lookup f42 = some ⟨oc42, od42, .func (PySem.W.fnOf "law" "law" (defArgs s_law) (defBody s_law) (defScope s_law) .none kV42 dc42 pm42 an42 cd42 ct42), sl42⟩)
    (c42 : PySem.W.codeIn K cd42 "law" = true)
    (k42 : PySem.W.keepIn K (.ref f42) = true)
    (a43 : PySem.W.nsIn K mainGlobals "both" = some (some (.ref f43)))
    (l43 : K.lookup f43 = some ⟨oc43, od43, .func (PySem.W.fnOf "both" "both" (defArgs s_both) (defBody s_both) (defScope s_both) .none kV43 dc43 pm43 an43 cd43 ct43), sl43⟩)
    (c43 : PySem.W.codeIn K cd43 "both" = true)
    (k43 : PySem.W.keepIn K (.ref f43) = true)
    (a44 : PySem.W.nsIn K mainGlobals "third_in_double" = some (some (.ref f44)))
    (l44 : K.lookup f44 = some ⟨oc44, od44, .func (PySem.W.fnOf "third_in_double" "third_in_double" (defArgs s_third_in_double) (defBody s_third_in_double) (defScope s_third_in_double) .none kV44 dc44 pm44 an44 cd44 ct44), sl44⟩)
    (c44 : PySem.W.codeIn K cd44 "third_in_double" = true)
    (k44 : PySem.W.keepIn K (.ref f44) = true)
    (a45 : PySem.W.nsIn K mainGlobals "third_in_product" = some (some (.ref f45)))
    (l45 : K.lookup f45 = some ⟨oc45, od45, .func (PySem.W.fnOf "third_in_product" "third_in_product" (defArgs s_third_in_product) (defBody s_third_in_product) (defScope s_third_in_product) .none kV45 dc45 pm45 an45 cd45 ct45), sl45⟩)
    (c45 : PySem.W.codeIn K cd45 "third_in_product" = true)
    (k45 : PySem.W.keepIn K (.ref f45) = true)
    (lT : K.lookup T = some ⟨.type "tuple", odT, .seq #[.int 1 tT] nT, slT⟩)
    (aA : PySem.W.nsIn K mainGlobals "ARMS" = some (some (.ref dA)))
    (lA : K.lookup dA = some ⟨.type "dict", none, .dict es nA, #[]⟩)
    (keysA : PySem.W.KeysLit w.params es.toList)
    (loA : (dA == sysModules) = false)
    (arm0 : PySem.W.nsIn K dA "bose" = some (some (.int 0 ta0)))
    (arm1 : PySem.W.nsIn K dA "skolem" = some (some (.int 0 ta1)))
    (arm2 : PySem.W.nsIn K dA "affine" = some (some (.int 0 ta2)))
    (arm3 : PySem.W.nsIn K dA "binary" = some (some (.int 0 ta3)))
    (arm4 : PySem.W.nsIn K dA "listed" = some (some (.int 0 ta4)))
    (arm5 : PySem.W.nsIn K dA "double" = some (some (.int 1 ta5)))
    (arm6 : PySem.W.nsIn K dA "product" = some (some (.int 2 ta6)))
    (g0 : PySem.W.nsIn K mainGlobals "MOST_POINTS" = some (some (.int v0 tg0)))
    (e0 : v0 = 10 ^ 30)
    (g1 : PySem.W.nsIn K mainGlobals "MOST_PARTS" = some (some (.int v1 tg1)))
    (e1 : v1 = 12)
    (g2 : PySem.W.nsIn K mainGlobals "MOST_LISTED" = some (some (.int v2 tg2)))
    (e2 : v2 = 60)
    (g3 : PySem.W.nsIn K mainGlobals "MOST_AFFINE" = some (some (.int v3 tg3)))
    (e3 : v3 = 60)
    (g4 : PySem.W.nsIn K mainGlobals "MOST_BINARY" = some (some (.int v4 tg4)))
    (e4 : v4 = 99)
    (g5 : PySem.W.nsIn K mainGlobals "LEVELS" = some (some (.int v5 tg5)))
    (e5 : v5 = 3)
    (g6 : PySem.W.nsIn K mainGlobals "MOST_DIGITS" = some (some (.int v6 tg6)))
    (e6 : v6 = 31)
    (gD : PySem.W.nsIn K mainGlobals "DIGITS" = some (some (.str "0123456789" tD)))
    (z0 : PySem.W.nsIn K mainGlobals "len" = some none)
    (z1 : PySem.W.nsIn K mainGlobals "all" = some none)
    (z2 : PySem.W.nsIn K mainGlobals "sorted" = some none)
    (z3 : PySem.W.nsIn K mainGlobals "tuple" = some none)
    (z4 : PySem.W.nsIn K mainGlobals "list" = some none)
    (z5 : PySem.W.nsIn K mainGlobals "range" = some none)
    (z6 : PySem.W.nsIn K mainGlobals "int" = some none)
    (z7 : PySem.W.nsIn K mainGlobals "str" = some none)
    (z8 : PySem.W.nsIn K mainGlobals "isinstance" = some none)
    (z9 : PySem.W.nsIn K mainGlobals "bool" = some none)
    (z10 : PySem.W.nsIn K mainGlobals "sum" = some none)
    (z11 : PySem.W.nsIn K mainGlobals "abs" = some none)
    (z12 : PySem.W.nsIn K mainGlobals "max" = some none)
    (z13 : PySem.W.nsIn K mainGlobals "enumerate" = some none)
    (z14 : PySem.W.nsIn K mainGlobals "ValueError" = some none)
    (aQ : PySem.W.nsIn K mainGlobals "InvalidQuestion" = some (some (.ref CQ)))
    (aS : PySem.W.nsIn K mainGlobals "InvalidSystem" = some (some (.ref CS)))
    (xQ : PySem.W.excIn K CQ [.type "ValueError", .type "Exception", .type "BaseException", .type "object"] "ValueError.__new__" = true)
    (kQ : PySem.W.keepIn K (.ref CQ) = true)
    (bQ : PySem.W.subIn K (.ref CQ) (.type "BaseException") = some true)
    (tQ : PySem.W.typeIn K (.ref CQ) = some (.type "type"))
    (hg : PySem.W.findIn K (.ref CQ) "__getattribute__" = some (some (.builtin "BaseException.__getattribute__")))
    (hk : PySem.W.findIn K (.ref CQ) "__getattr__" = some none)
    (hdd : PySem.W.hasDictIn K CQ = true)
    (hac : PySem.W.findIn K (.ref CQ) "__class__" = some (some (.builtin "object.__class__")))
    (hn : PySem.W.specialIn K (.builtin "object.__class__") "__get__" = some (some (.builtin "getset_descriptor.__get__")))
    (ht : PySem.W.takesIn K (.builtin "object.__class__") = some true)
    (hm : PySem.W.mroIn K CQ (.type "object") = some true)
    (sQQ : PySem.W.subIn K (.ref CQ) (.ref CQ) = some true)
    (sQV : PySem.W.subIn K (.ref CQ) (.type "ValueError") = some true)
    (nQS : (Value.ref CQ == Value.ref CS) = false)
    (iS : PySem.W.isClsIn K CS = true)
    (tS : PySem.W.typeIn K (.ref CS) = some (.type "type"))
    (sQS : PySem.W.subIn K (.ref CQ) (.ref CS) = some false) :
    ∃ fd : FuncData, (∀ (s : Shared) (v : Value), BindsTo s fd ⟨[v], []⟩ [("_law_script", v)]) ∧ ∀ base : Heap, K.In base → base.Ns mainGlobals mg → FnOk l.prog w K mg base CX0 16 fa fd ["_law_script"] (spLaw K) := by
  have ea := hfa.symm.trans (PySem.W.mg_of X GN a42)
  cases ea
  have B : Blt mg := ⟨PySem.W.mg_none_of X GN z0, PySem.W.mg_none_of X GN z1, PySem.W.mg_none_of X GN z2, PySem.W.mg_none_of X GN z3, PySem.W.mg_none_of X GN z4, PySem.W.mg_none_of X GN z5, PySem.W.mg_none_of X GN z6, PySem.W.mg_none_of X GN z7, PySem.W.mg_none_of X GN z8, PySem.W.mg_none_of X GN z9, PySem.W.mg_none_of X GN z10, PySem.W.mg_none_of X GN z11, PySem.W.mg_none_of X GN z12, PySem.W.mg_none_of X GN z13, PySem.W.mg_none_of X GN z14⟩
  subst e0
  subst e1
  subst e2
  subst e3
  subst e4
  subst e5
  subst e6
  have G : Glo mg := ⟨⟨_, PySem.W.mg_of X GN g0⟩, ⟨_, PySem.W.mg_of X GN g1⟩, ⟨_, PySem.W.mg_of X GN g2⟩, ⟨_, PySem.W.mg_of X GN g3⟩, ⟨_, PySem.W.mg_of X GN g4⟩, ⟨_, PySem.W.mg_of X GN g5⟩, ⟨_, PySem.W.mg_of X GN g6⟩, ⟨_, PySem.W.mg_of X GN gD⟩⟩
  have AR : Arms K w mg dA := ⟨PySem.W.mg_of X GN aA, ⟨es, nA, lA, keysA, loA⟩, fun p hp => by
    unfold armsL at hp
    simp only [List.mem_cons, List.not_mem_nil, or_false] at hp
    rcases hp with rfl | rfl | rfl | rfl | rfl | rfl | rfl
    · exact ⟨_, arm0⟩
    · exact ⟨_, arm1⟩
    · exact ⟨_, arm2⟩
    · exact ⟨_, arm3⟩
    · exact ⟨_, arm4⟩
    · exact ⟨_, arm5⟩
    · exact ⟨_, arm6⟩⟩
  have XQ : ExcQ K mg CQ := ⟨PySem.W.mg_of X GN aQ, xQ, kQ, bQ, tQ⟩
  have XR : ExcR K mg CQ CS := ⟨XQ, ⟨hg, hk, bQ, hdd, hac, hn, ht, hm⟩, PySem.W.exm_ref bQ hdd tQ sQQ, kit_val sQV (by decide +kernel), PySem.W.mg_of X GN aS, kit_ref nQS iS tS sQS⟩
  have F0 := fun_mk (st := s_power_of) l0 c0 k0
  have b0 := F0.binds (ps := ["base", "many"]) fun _ _ _ _ _ _ us hl => match us, hl with | [_, _], _ => rfl
  have m0 := PySem.W.mg_of X GN a0
  have F1 := fun_mk (st := s_point_at) l1 c1 k1
  have b1 := F1.binds (ps := ["size", "x", "level"]) fun _ _ _ _ _ _ us hl => match us, hl with | [_, _, _], _ => rfl
  have m1 := PySem.W.mg_of X GN a1
  have F2 := fun_mk (st := s_in_order) l2 c2 k2
  have b2 := F2.binds (ps := ["size", "a", "b"]) fun _ _ _ _ _ _ us hl => match us, hl with | [_, _, _], _ => rfl
  have m2 := PySem.W.mg_of X GN a2
  have F3 := fun_mk (st := s_third_in_bose) l3 c3 k3
  have b3 := F3.binds (ps := ["size", "a", "b"]) fun _ _ _ _ _ _ us hl => match us, hl with | [_, _, _], _ => rfl
  have m3 := PySem.W.mg_of X GN a3
  have F4 := fun_mk (st := s_half_of) l4 c4 k4
  have b4 := F4.binds (ps := ["size", "number"]) fun _ _ _ _ _ _ us hl => match us, hl with | [_, _], _ => rfl
  have m4 := PySem.W.mg_of X GN a4
  have F5 := fun_mk (st := s_twice_of) l5 c5 k5
  have b5 := F5.binds (ps := ["size", "number"]) fun _ _ _ _ _ _ us hl => match us, hl with | [_, _], _ => rfl
  have m5 := PySem.W.mg_of X GN a5
  have F6 := fun_mk (st := s_third_in_skolem) l6 c6 k6
  have b6 := F6.binds (ps := ["size", "a", "b"]) fun _ _ _ _ _ _ us hl => match us, hl with | [_, _, _], _ => rfl
  have m6 := PySem.W.mg_of X GN a6
  have F7 := fun_mk (st := s_figures_apart) l7 c7 k7
  have b7 := F7.binds (ps := ["a", "b"]) fun _ _ _ _ _ _ us hl => match us, hl with | [_, _], _ => rfl
  have m7 := PySem.W.mg_of X GN a7
  have F8 := fun_mk (st := s_size_of) l8 c8 k8
  have b8 := F8.binds (ps := ["tree"]) fun _ _ _ _ _ _ us hl => match us, hl with | [_], _ => rfl
  have m8 := PySem.W.mg_of X GN a8
  have F9 := fun_mk (st := s_third_of) l9 c9 k9
  have b9 := F9.binds (ps := ["tree", "a", "b"]) fun _ _ _ _ _ _ us hl => match us, hl with | [_, _, _], _ => rfl
  have m9 := PySem.W.mg_of X GN a9
  have F10 := fun_mk (st := s_is_row) l10 c10 k10
  have b10 := F10.binds (ps := ["value"]) fun _ _ _ _ _ _ us hl => match us, hl with | [_], _ => rfl
  have m10 := PySem.W.mg_of X GN a10
  have F11 := fun_mk (st := s_is_integer) l11 c11 k11
  have b11 := F11.binds (ps := ["value"]) fun _ _ _ _ _ _ us hl => match us, hl with | [_], _ => rfl
  have m11 := PySem.W.mg_of X GN a11
  have F12 := fun_mk (st := s_require) l12 c12 k12
  have b12 := F12.binds (ps := ["holds"]) fun _ _ _ _ _ _ us hl => match us, hl with | [_], _ => rfl
  have m12 := PySem.W.mg_of X GN a12
  have F13 := fun_mk (st := s_checked_threes) l13 c13 k13
  have b13 := F13.binds (ps := ["count", "threes"]) fun _ _ _ _ _ _ us hl => match us, hl with | [_, _], _ => rfl
  have m13 := PySem.W.mg_of X GN a13
  have F14 := fun_mk (st := s_checked_leaf) l14 c14 k14
  have b14 := F14.binds (ps := ["tree"]) fun _ _ _ _ _ _ us hl => match us, hl with | [_], _ => rfl
  have m14 := PySem.W.mg_of X GN a14
  have F15 : FunD K "checked_part" "checked_part" (defArgs s_checked_part) (defBody s_checked_part) (defScope s_checked_part) [.int 1] [] f15 _ := ⟨⟨_, _, _, _, _, _, _, _, _, _, rfl, l15, c15, .inr ⟨by simp, T, _, [.int 1 tT], nT, rfl, lT, rfl, .cons ⟨tT, rfl⟩ .nil⟩, .inl rfl⟩, k15⟩
  have F16 := fun_mk (st := s_checked) l16 c16 k16
  have b16 := F16.binds (ps := ["tree"]) fun _ _ _ _ _ _ us hl => match us, hl with | [_], _ => rfl
  have m16 := PySem.W.mg_of X GN a16
  have F17 := fun_mk (st := s_size) l17 c17 k17
  have b17 := F17.binds (ps := ["tree"]) fun _ _ _ _ _ _ us hl => match us, hl with | [_], _ => rfl
  have m17 := PySem.W.mg_of X GN a17
  have F18 := fun_mk (st := s_is_system) l18 c18 k18
  have b18 := F18.binds (ps := ["tree"]) fun _ _ _ _ _ _ us hl => match us, hl with | [_], _ => rfl
  have m18 := PySem.W.mg_of X GN a18
  have F19 := fun_mk (st := s_checked_points) l19 c19 k19
  have b19 := F19.binds (ps := ["tree", "points"]) fun _ _ _ _ _ _ us hl => match us, hl with | [_, _], _ => rfl
  have m19 := PySem.W.mg_of X GN a19
  have F20 := fun_mk (st := s_third) l20 c20 k20
  have b20 := F20.binds (ps := ["tree", "a", "b"]) fun _ _ _ _ _ _ us hl => match us, hl with | [_, _, _], _ => rfl
  have m20 := PySem.W.mg_of X GN a20
  have F21 := fun_mk (st := s_checked_small) l21 c21 k21
  have b21 := F21.binds (ps := ["tree"]) fun _ _ _ _ _ _ us hl => match us, hl with | [_], _ => rfl
  have m21 := PySem.W.mg_of X GN a21
  have F22 := fun_mk (st := s_listed) l22 c22 k22
  have b22 := F22.binds (ps := ["tree"]) fun _ _ _ _ _ _ us hl => match us, hl with | [_], _ => rfl
  have m22 := PySem.W.mg_of X GN a22
  have F23 := fun_mk (st := s_are_names) l23 c23 k23
  have b23 := F23.binds (ps := ["names"]) fun _ _ _ _ _ _ us hl => match us, hl with | [_], _ => rfl
  have m23 := PySem.W.mg_of X GN a23
  have F24 := fun_mk (st := s_check_names) l24 c24 k24
  have b24 := F24.binds (ps := ["names"]) fun _ _ _ _ _ _ us hl => match us, hl with | [_], _ => rfl
  have m24 := PySem.W.mg_of X GN a24
  have F25 := fun_mk (st := s_renamed) l25 c25 k25
  have b25 := F25.binds (ps := ["tree", "names"]) fun _ _ _ _ _ _ us hl => match us, hl with | [_, _], _ => rfl
  have m25 := PySem.W.mg_of X GN a25
  have F26 := fun_mk (st := s_turned_back) l26 c26 k26
  have b26 := F26.binds (ps := ["names"]) fun _ _ _ _ _ _ us hl => match us, hl with | [_], _ => rfl
  have m26 := PySem.W.mg_of X GN a26
  have F27 := fun_mk (st := s_one_after_another) l27 c27 k27
  have b27 := F27.binds (ps := ["first", "second"]) fun _ _ _ _ _ _ us hl => match us, hl with | [_, _], _ => rfl
  have m27 := PySem.W.mg_of X GN a27
  have F28 := fun_mk (st := s_same_threes) l28 c28 k28
  have b28 := F28.binds (ps := ["one", "other"]) fun _ _ _ _ _ _ us hl => match us, hl with | [_, _], _ => rfl
  have m28 := PySem.W.mg_of X GN a28
  have F29 := fun_mk (st := s_lines_of) l29 c29 k29
  have b29 := F29.binds (ps := ["tree"]) fun _ _ _ _ _ _ us hl => match us, hl with | [_], _ => rfl
  have m29 := PySem.W.mg_of X GN a29
  have F30 := fun_mk (st := s_format_system) l30 c30 k30
  have b30 := F30.binds (ps := ["tree"]) fun _ _ _ _ _ _ us hl => match us, hl with | [_], _ => rfl
  have m30 := PySem.W.mg_of X GN a30
  have F31 := fun_mk (st := s_is_number) l31 c31 k31
  have b31 := F31.binds (ps := ["word"]) fun _ _ _ _ _ _ us hl => match us, hl with | [_], _ => rfl
  have m31 := PySem.W.mg_of X GN a31
  have F32 := fun_mk (st := s_is_three) l32 c32 k32
  have b32 := F32.binds (ps := ["words"]) fun _ _ _ _ _ _ us hl => match us, hl with | [_], _ => rfl
  have m32 := PySem.W.mg_of X GN a32
  have F33 := fun_mk (st := s_is_head) l33 c33 k33
  have b33 := F33.binds (ps := ["words"]) fun _ _ _ _ _ _ us hl => match us, hl with | [_], _ => rfl
  have m33 := PySem.W.mg_of X GN a33
  have F34 := fun_mk (st := s_joined) l34 c34 k34
  have b34 := F34.binds (ps := ["waiting", "part"]) fun _ _ _ _ _ _ us hl => match us, hl with | [_, _], _ => rfl
  have m34 := PySem.W.mg_of X GN a34
  have F35 := fun_mk (st := s_threes_from) l35 c35 k35
  have b35 := F35.binds (ps := ["lines", "at"]) fun _ _ _ _ _ _ us hl => match us, hl with | [_, _], _ => rfl
  have m35 := PySem.W.mg_of X GN a35
  have F36 := fun_mk (st := s_parse_system) l36 c36 k36
  have b36 := F36.binds (ps := ["text"]) fun _ _ _ _ _ _ us hl => match us, hl with | [_], _ => rfl
  have m36 := PySem.W.mg_of X GN a36
  have F37 := fun_mk (st := s_law_row) l37 c37 k37
  have b37 := F37.binds (ps := ["_law_cell", "_law_many"]) fun _ _ _ _ _ _ us hl => match us, hl with | [_, _], _ => rfl
  have m37 := PySem.W.mg_of X GN a37
  have F38 := fun_mk (st := s_law_numbers) l38 c38 k38
  have b38 := F38.binds (ps := ["_law_script", "_law_many"]) fun _ _ _ _ _ _ us hl => match us, hl with | [_, _], _ => rfl
  have m38 := PySem.W.mg_of X GN a38
  have F39 := fun_mk (st := s_law_small) l39 c39 k39
  have b39 := F39.binds (ps := ["_law_numbers_here", "_law_at"]) fun _ _ _ _ _ _ us hl => match us, hl with | [_, _], _ => rfl
  have m39 := PySem.W.mg_of X GN a39
  have F40 := fun_mk (st := s_law_names) l40 c40 k40
  have b40 := F40.binds (ps := ["_law_numbers_here", "_law_at", "_law_count"]) fun _ _ _ _ _ _ us hl => match us, hl with | [_, _, _], _ => rfl
  have m40 := PySem.W.mg_of X GN a40
  have F41 := fun_mk (st := s_law_refused) l41 c41 k41
  have b41 := F41.binds (ps := ["_law_tree", "_law_names_here"]) fun _ _ _ _ _ _ us hl => match us, hl with | [_, _], _ => rfl
  have m41 := PySem.W.mg_of X GN a41
  have F42 := fun_mk (st := s_law) l42 c42 k42
  have b42 := F42.binds (ps := ["_law_script"]) fun _ _ _ _ _ _ us hl => match us, hl with | [_], _ => rfl
  have m42 := PySem.W.mg_of X GN a42
  have F43 := fun_mk (st := s_both) l43 c43 k43
  have b43 := F43.binds (ps := ["tree", "a", "b"]) fun _ _ _ _ _ _ us hl => match us, hl with | [_, _, _], _ => rfl
  have m43 := PySem.W.mg_of X GN a43
  have F44 := fun_mk (st := s_third_in_double) l44 c44 k44
  have b44 := F44.binds (ps := ["part", "a", "b"]) fun _ _ _ _ _ _ us hl => match us, hl with | [_, _, _], _ => rfl
  have m44 := PySem.W.mg_of X GN a44
  have F45 := fun_mk (st := s_third_in_product) l45 c45 k45
  have b45 := F45.binds (ps := ["one", "other", "a", "b"]) fun _ _ _ _ _ _ us hl => match us, hl with | [_, _, _, _], _ => rfl
  have m45 := PySem.W.mg_of X GN a45
  have m15 := PySem.W.mg_of X GN a15
  refine ⟨PySem.W.fnOf "law" "law" (defArgs s_law) (defBody s_law) (defScope s_law) .none kV42 dc42 pm42 an42 cd42 ct42, fun s v => .of_eq rfl, fun base _ _ => ?_⟩
  have C_power_of := Cal.of F0 m0 b0 (ok_power_of (P := l.prog) (w := w) (base := base) F0 B)
  have C_point_at := Cal.of F1 m1 b1 (ok_point_at (P := l.prog) (w := w) (base := base) F1 G)
  have C_in_order := Cal.of F2 m2 b2 (ok_in_order (P := l.prog) (w := w) (base := base) F2 G)
  have C_third_in_bose := Cal.of F3 m3 b3 (ok_third_in_bose (P := l.prog) (w := w) (base := base) F3 G C_point_at C_in_order)
  have C_half_of := Cal.of F4 m4 b4 (ok_half_of (P := l.prog) (w := w) (base := base) F4 )
  have C_twice_of := Cal.of F5 m5 b5 (ok_twice_of (P := l.prog) (w := w) (base := base) F5 )
  have C_third_in_skolem := Cal.of F6 m6 b6 (ok_third_in_skolem (P := l.prog) (w := w) (base := base) F6 G C_point_at C_in_order C_half_of C_twice_of)
  have C_figures_apart := Cal.of F7 m7 b7 (ok_figures_apart (P := l.prog) (w := w) (base := base) F7 )
  have C_size_of : ∀ h, Cal l.prog w K mg base CX0 (h + 1) "size_of" ["tree"] [] (spSize K h) := fun h => Cal.of F8 m8 b8 (ok_size_of F8 b8 m8 B C_power_of h)
  have C_third_of : ∀ h, Cal l.prog w K mg base CX0 (3 * h + 3) "third_of" ["tree", "a", "b"] [] (spThird K h) := ok_third_of F9 b9 m9 F43 b43 m43 F44 b44 m44 F45 b45 m45 B C_size_of C_third_in_bose C_third_in_skolem C_figures_apart
  have C_is_row := Cal.of F10 m10 b10 (ok_is_row (P := l.prog) (w := w) (base := base) F10 B)
  have C_is_integer := Cal.of F11 m11 b11 (ok_is_integer (P := l.prog) (w := w) (base := base) F11 B)
  have C_require := Cal.of F12 m12 b12 (ok_require (P := l.prog) (w := w) (base := base) F12 )
  have C_checked_threes := Cal.of F13 m13 b13 (ok_checked_threes (P := l.prog) (w := w) (base := base) F13 B C_is_row C_is_integer C_require)
  have C_checked_leaf := Cal.of F14 m14 b14 (ok_checked_leaf (P := l.prog) (w := w) (base := base) F14 B G C_is_integer C_require C_checked_threes)
  have C_checked_part1 : Cal l.prog w K mg base CX0 6 "checked_part" ["tree", "depth"] [.int 1] (spPart K 3) := by
    obtain ⟨ds, hv, hb⟩ := part_b1 F15
    exact ⟨_, _, ds, ok_checked_part F15 m15 B G AR C_is_row C_require C_checked_leaf C_size_of 3, m15, F15.kp, hb, hv⟩
  have C_checked := Cal.of F16 m16 b16 (ok_checked (P := l.prog) (w := w) (base := base) F16 C_checked_part1)
  have C_size := Cal.of F17 m17 b17 (ok_size (P := l.prog) (w := w) (base := base) F17 C_checked_part1)
  have C_is_system := Cal.of F18 m18 b18 (ok_is_system (P := l.prog) (w := w) (base := base) F18 C_checked)
  have C_checked_points := Cal.of F19 m19 b19 (ok_checked_points (P := l.prog) (w := w) (base := base) F19 C_checked (C_size_of 3))
  have C_third := Cal.of F20 m20 b20 (ok_third (P := l.prog) (w := w) (base := base) F20 C_checked_points (C_third_of 3))
  have C_checked_small := Cal.of F21 m21 b21 (ok_checked_small (P := l.prog) (w := w) (base := base) F21 G C_checked (C_size_of 3))
  have C_listed := Cal.of F22 m22 b22 (ok_listed (P := l.prog) (w := w) (base := base) F22 B C_checked_small (C_size_of 3) (C_third_of 3))
  have C_are_names := Cal.of F23 m23 b23 (ok_are_names (P := l.prog) (w := w) (base := base) F23 B)
  have C_check_names := Cal.of F24 m24 b24 (ok_check_names (P := l.prog) (w := w) (base := base) F24 XQ C_are_names)
  have C_renamed := Cal.of F25 m25 b25 (ok_renamed (P := l.prog) (w := w) (base := base) F25 B XQ C_listed C_check_names)
  have C_turned_back := Cal.of F26 m26 b26 (ok_turned_back (P := l.prog) (w := w) (base := base) F26 B C_check_names)
  have C_one_after_another := Cal.of F27 m27 b27 (ok_one_after_another (P := l.prog) (w := w) (base := base) F27 B C_check_names)
  have C_same_threes := Cal.of F28 m28 b28 (ok_same_threes (P := l.prog) (w := w) (base := base) F28 C_listed)
  have C_lines_of := Cal.of F29 m29 b29 (ok_lines_of (P := l.prog) (w := w) (base := base) F29 B AR)
  have C_format_system := Cal.of F30 m30 b30 (ok_format_system (P := l.prog) (w := w) (base := base) F30 C_checked C_lines_of)
  have C_is_number := Cal.of F31 m31 b31 (ok_is_number (P := l.prog) (w := w) (base := base) F31 B G)
  have C_is_three := Cal.of F32 m32 b32 (ok_is_three (P := l.prog) (w := w) (base := base) F32 B C_is_number)
  have C_is_head := Cal.of F33 m33 b33 (ok_is_head (P := l.prog) (w := w) (base := base) F33 B AR C_is_number)
  have C_joined := Cal.of F34 m34 b34 (ok_joined (P := l.prog) (w := w) (base := base) F34 )
  have C_threes_from := Cal.of F35 m35 b35 (ok_threes_from (P := l.prog) (w := w) (base := base) F35 B C_is_three)
  have C_parse_system := Cal.of F36 m36 b36 (ok_parse_system (P := l.prog) (w := w) (base := base) F36 B AR C_is_head C_threes_from C_joined C_checked)
  have C_law_row := Cal.of F37 m37 b37 (ok_law_row (P := l.prog) (w := w) (base := base) F37 B)
  have C_law_numbers := Cal.of F38 m38 b38 (ok_law_numbers (P := l.prog) (w := w) (base := base) F38 B C_law_row)
  have C_law_small := Cal.of F39 m39 b39 (ok_law_small (P := l.prog) (w := w) (base := base) F39 B)
  have C_law_names := Cal.of F40 m40 b40 (ok_law_names (P := l.prog) (w := w) (base := base) F40 B)
  have C_law_refused := Cal.of F41 m41 b41 (ok_law_refused (P := l.prog) (w := w) (base := base) F41 B XR C_renamed)
  exact ok_law F42 B C_law_numbers C_law_small C_size C_law_names C_renamed C_listed C_is_system C_third C_turned_back C_one_after_another C_parse_system C_format_system C_same_threes C_law_refused
end Pj
/-! ## The end -/
open PySem PySem.W PyProof.Rows
set_option maxHeartbeats 0 in
theorem PySem.Challenge.cw_paironce_k66_whole_renamed_systems_holds : PySem.Challenge.rw_paironce_k66_whole_renamed_systems.Holds :=
  hd (by
    k_fill
    refine L2.walk_of (l := PySem.Challenge.rw_paironce_k66_whole_renamed_systems) (n := 63) (k := 16) (x := "_law_script") (CX := fun _ => L2.CX0) (sp := fun w => Pj.spLaw _) rfl (by decide) rfl ⟨rfl, by decide, by decide⟩ (fun w h Y => PySem.W.kIn_of Y) ?F (fun _ _ a ns hl _ hS => ⟨a, ns, rfl, hS, hl, fun _ => rfl⟩) (fun _ _ _ _ _ h => h)
    case F =>
      intro w mg fa h KX G hmg
      refine' Pj.all_mk KX G hmg ?a0 ?l0 ?c0 ?k0 ?a1 ?l1 ?c1 ?k1 ?a2 ?l2 ?c2 ?k2 ?a3 ?l3 ?c3 ?k3 ?a4 ?l4 ?c4 ?k4 ?a5 ?l5 ?c5 ?k5 ?a6 ?l6 ?c6 ?k6 ?a7 ?l7 ?c7 ?k7 ?a8 ?l8 ?c8 ?k8 ?a9 ?l9 ?c9 ?k9 ?a10 ?l10 ?c10 ?k10 ?a11 ?l11 ?c11 ?k11 ?a12 ?l12 ?c12 ?k12 ?a13 ?l13 ?c13 ?k13 ?a14 ?l14 ?c14 ?k14 ?a15 ?l15 ?c15 ?k15 ?a16 ?l16 ?c16 ?k16 ?a17 ?l17 ?c17 ?k17 ?a18 ?l18 ?c18 ?k18 ?a19 ?l19 ?c19 ?k19 ?a20 ?l20 ?c20 ?k20 ?a21 ?l21 ?c21 ?k21 ?a22 ?l22 ?c22 ?k22 ?a23 ?l23 ?c23 ?k23 ?a24 ?l24 ?c24 ?k24 ?a25 ?l25 ?c25 ?k25 ?a26 ?l26 ?c26 ?k26 ?a27 ?l27 ?c27 ?k27 ?a28 ?l28 ?c28 ?k28 ?a29 ?l29 ?c29 ?k29 ?a30 ?l30 ?c30 ?k30 ?a31 ?l31 ?c31 ?k31 ?a32 ?l32 ?c32 ?k32 ?a33 ?l33 ?c33 ?k33 ?a34 ?l34 ?c34 ?k34 ?a35 ?l35 ?c35 ?k35 ?a36 ?l36 ?c36 ?k36 ?a37 ?l37 ?c37 ?k37 ?a38 ?l38 ?c38 ?k38 ?a39 ?l39 ?c39 ?k39 ?a40 ?l40 ?c40 ?k40 ?a41 ?l41 ?c41 ?k41 ?a42 ?l42 ?c42 ?k42 ?a43 ?l43 ?c43 ?k43 ?a44 ?l44 ?c44 ?k44 ?a45 ?l45 ?c45 ?k45 ?lT ?aA ?lA ?keysA ?loA ?arm0 ?arm1 ?arm2 ?arm3 ?arm4 ?arm5 ?arm6 ?g0 ?e0 ?g1 ?e1 ?g2 ?e2 ?g3 ?e3 ?g4 ?e4 ?g5 ?e5 ?g6 ?e6 ?gD ?z0 ?z1 ?z2 ?z3 ?z4 ?z5 ?z6 ?z7 ?z8 ?z9 ?z10 ?z11 ?z12 ?z13 ?z14 ?aQ ?aS ?xQ ?kQ ?bQ ?tQ ?hg ?hk ?hdd ?hac ?hn ?ht ?hm ?sQQ ?sQV ?nQS ?iS ?tS ?sQS
      (case a0 => k_is)
      (case l0 => k_is)
      (case c0 => k_is)
      (case k0 => k_is)
      (case a1 => k_is)
      (case l1 => k_is)
      (case c1 => k_is)
      (case k1 => k_is)
      (case a2 => k_is)
      (case l2 => k_is)
      (case c2 => k_is)
      (case k2 => k_is)
      (case a3 => k_is)
      (case l3 => k_is)
      (case c3 => k_is)
      (case k3 => k_is)
      (case a4 => k_is)
      (case l4 => k_is)
      (case c4 => k_is)
      (case k4 => k_is)
      (case a5 => k_is)
      (case l5 => k_is)
      (case c5 => k_is)
      (case k5 => k_is)
      (case a6 => k_is)
      (case l6 => k_is)
      (case c6 => k_is)
      (case k6 => k_is)
      (case a7 => k_is)
      (case l7 => k_is)
      (case c7 => k_is)
      (case k7 => k_is)
      (case a8 => k_is)
      (case l8 => k_is)
      (case c8 => k_is)
      (case k8 => k_is)
      (case a9 => k_is)
      (case l9 => k_is)
      (case c9 => k_is)
      (case k9 => k_is)
      (case a10 => k_is)
      (case l10 => k_is)
      (case c10 => k_is)
      (case k10 => k_is)
      (case a11 => k_is)
      (case l11 => k_is)
      (case c11 => k_is)
      (case k11 => k_is)
      (case a12 => k_is)
      (case l12 => k_is)
      (case c12 => k_is)
      (case k12 => k_is)
      (case a13 => k_is)
      (case l13 => k_is)
      (case c13 => k_is)
      (case k13 => k_is)
      (case a14 => k_is)
      (case l14 => k_is)
      (case c14 => k_is)
      (case k14 => k_is)
      (case a15 => k_is)
      (case l15 => k_is)
      (case c15 => k_is)
      (case k15 => k_is)
      (case a16 => k_is)
      (case l16 => k_is)
      (case c16 => k_is)
      (case k16 => k_is)
      (case a17 => k_is)
      (case l17 => k_is)
      (case c17 => k_is)
      (case k17 => k_is)
      (case a18 => k_is)
      (case l18 => k_is)
      (case c18 => k_is)
      (case k18 => k_is)
      (case a19 => k_is)
      (case l19 => k_is)
      (case c19 => k_is)
      (case k19 => k_is)
      (case a20 => k_is)
      (case l20 => k_is)
      (case c20 => k_is)
      (case k20 => k_is)
      (case a21 => k_is)
      (case l21 => k_is)
      (case c21 => k_is)
      (case k21 => k_is)
      (case a22 => k_is)
      (case l22 => k_is)
      (case c22 => k_is)
      (case k22 => k_is)
      (case a23 => k_is)
      (case l23 => k_is)
      (case c23 => k_is)
      (case k23 => k_is)
      (case a24 => k_is)
      (case l24 => k_is)
      (case c24 => k_is)
      (case k24 => k_is)
      (case a25 => k_is)
      (case l25 => k_is)
      (case c25 => k_is)
      (case k25 => k_is)
      (case a26 => k_is)
      (case l26 => k_is)
      (case c26 => k_is)
      (case k26 => k_is)
      (case a27 => k_is)
      (case l27 => k_is)
      (case c27 => k_is)
      (case k27 => k_is)
      (case a28 => k_is)
      (case l28 => k_is)
      (case c28 => k_is)
      (case k28 => k_is)
      (case a29 => k_is)
      (case l29 => k_is)
      (case c29 => k_is)
      (case k29 => k_is)
      (case a30 => k_is)
      (case l30 => k_is)
      (case c30 => k_is)
      (case k30 => k_is)
      (case a31 => k_is)
      (case l31 => k_is)
      (case c31 => k_is)
      (case k31 => k_is)
      (case a32 => k_is)
      (case l32 => k_is)
      (case c32 => k_is)
      (case k32 => k_is)
      (case a33 => k_is)
      (case l33 => k_is)
      (case c33 => k_is)
      (case k33 => k_is)
      (case a34 => k_is)
      (case l34 => k_is)
      (case c34 => k_is)
      (case k34 => k_is)
      (case a35 => k_is)
      (case l35 => k_is)
      (case c35 => k_is)
      (case k35 => k_is)
      (case a36 => k_is)
      (case l36 => k_is)
      (case c36 => k_is)
      (case k36 => k_is)
      (case a37 => k_is)
      (case l37 => k_is)
      (case c37 => k_is)
      (case k37 => k_is)
      (case a38 => k_is)
      (case l38 => k_is)
      (case c38 => k_is)
      (case k38 => k_is)
      (case a39 => k_is)
      (case l39 => k_is)
      (case c39 => k_is)
      (case k39 => k_is)
      (case a40 => k_is)
      (case l40 => k_is)
      (case c40 => k_is)
      (case k40 => k_is)
      (case a41 => k_is)
      (case l41 => k_is)
      (case c41 => k_is)
      (case k41 => k_is)
      (case a42 => k_is)
      (case l42 => k_is)
      (case c42 => k_is)
      (case k42 => k_is)
      (case a43 => k_is)
      (case l43 => k_is)
      (case c43 => k_is)
      (case k43 => k_is)
      (case a44 => k_is)
      (case l44 => k_is)
      (case c44 => k_is)
      (case k44 => k_is)
      (case a45 => k_is)
      (case l45 => k_is)
      (case c45 => k_is)
      (case k45 => k_is)
      (case lT => k_is)
      (case aA => k_is)
      (case lA => k_is)
      (case keysA => k_keys)
      (case loA => rfl)
      (case arm0 => k_is)
      (case arm1 => k_is)
      (case arm2 => k_is)
      (case arm3 => k_is)
      (case arm4 => k_is)
      (case arm5 => k_is)
      (case arm6 => k_is)
      (case g0 => k_is)
      (case e0 => decide +kernel)
      (case g1 => k_is)
      (case e1 => decide +kernel)
      (case g2 => k_is)
      (case e2 => decide +kernel)
      (case g3 => k_is)
      (case e3 => decide +kernel)
      (case g4 => k_is)
      (case e4 => decide +kernel)
      (case g5 => k_is)
      (case e5 => decide +kernel)
      (case g6 => k_is)
      (case e6 => decide +kernel)
      (case gD => k_is)
      (case z0 => k_is)
      (case z1 => k_is)
      (case z2 => k_is)
      (case z3 => k_is)
      (case z4 => k_is)
      (case z5 => k_is)
      (case z6 => k_is)
      (case z7 => k_is)
      (case z8 => k_is)
      (case z9 => k_is)
      (case z10 => k_is)
      (case z11 => k_is)
      (case z12 => k_is)
      (case z13 => k_is)
      (case z14 => k_is)
      (case aQ => k_is)
      (case aS => k_is)
      (case xQ => k_exc)
      (case kQ => k_is)
      (case bQ => k_is)
      (case tQ => k_is)
      (case hg => k_is)
      (case hk => k_is)
      (case hdd => k_is)
      (case hac => k_is)
      (case hn => k_is)
      (case ht => k_is)
      (case hm => k_is)
      (case sQQ => k_is)
      (case sQV => k_is)
      (case nQS => rfl)
      (case iS => k_is)
      (case tS => k_is)
      (case sQS => k_is))
