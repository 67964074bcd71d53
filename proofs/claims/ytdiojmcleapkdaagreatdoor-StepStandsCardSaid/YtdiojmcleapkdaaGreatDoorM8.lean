/- The law StepStands of the given program answers true for every input.  Part 8 of 10: C43, C44, C45, C46, C47, C48, C49, C50, C51, C55, C56, C57, C58, C59, C60, C61, C62, C63, C64, C65, C66, C661. -/
import Derived.Test.YtdiojmcleapkdaaGreatDoorM7
set_option linter.all false
section
/- Contracts: scheme (1). -/
namespace Go.KM
open Go RN
structure Sc where
  name : ByteArray
  c : List RF
  a : List (List RF)
  b : List RF
  e : List RF
def scA (s : Sc) : AV := .agg [.d (.str s.name), .d (frs s.c), .d (frss s.a), .d (frs s.b), .d (frs s.e)]
def shapeH (s : Sc) : Prop := 1 ≤ s.b.length ∧ s.b.length ≤ 8 ∧ s.c.length = s.b.length ∧ s.a.length = s.b.length ∧ (s.e.length = s.b.length ∨ s.e.length = 0)
instance (s : Sc) : Decidable (shapeH s) := by unfold shapeH; infer_instance
def shapeB (s : Sc) : Bool := decide (shapeH s) && (List.range s.a.length).all fun i => (s.a.getD i []).length == i
theorem frsLen (l : List RF) : ((l.map fds).length : Int) = (l.length : Int) := by rw [List.length_map]
theorem frssLen (l : List (List RF)) : ((l.map fun r => [frs r]).length : Int) = (l.length : Int) := by rw [List.length_map]
theorem a_getD {l : List (List RF)} {k : Nat} (h : k < l.length) : l.getD k [] = l[k] := by
  rw [List.getD_eq_getElem?_getD, List.getElem?_eq_getElem h]; rfl
set_option maxHeartbeats 2000000 in
set_option maxRecDepth 10000 in
theorem scShape_no (s : Sc) (h : ¬ shapeH s) : CN 86 [scA s] [] (.d (.bool false)) [] := by
  refine con_of Go.Proofs.Tryz.func86 rfl (by kernel_rfl) (Nat.le_of_ble_eq_true rfl) ?_
  have l1 := frsLen s.b
  have l2 := frsLen s.c
  have l3 := frssLen s.a
  have l4 := frsLen s.e
  unfold shapeH at h
  refine .mk (fun g1 => ?_) (fun g1 => ?_)
  · refine .yes rfl ?_
    refine .yes rfl ?_
    refine .yes rfl ?_
    refine .yes rfl ?_
    exact ⟨trivial, rfl⟩
  have g1 : ¬ ((s.b.map fds).length : Int) < 1 := of_decide_eq_false g1
  refine .mk (fun g2 => ?_) (fun g2 => ?_)
  · refine .yes rfl ?_
    refine .yes rfl ?_
    refine .yes rfl ?_
    exact ⟨trivial, rfl⟩
  have g2 : ¬ ((s.b.map fds).length : Int) > 8 := of_decide_eq_false g2
  refine .mk (fun g3 => ?_) (fun g3 => ?_)
  · refine .yes rfl ?_
    refine .yes rfl ?_
    exact ⟨trivial, rfl⟩
  have g3 : ((s.c.map fds).length : Int) = ((s.b.map fds).length : Int) := bne_eq_false_iff_eq.1 g3
  refine .mk (fun g4 => ?_) (fun g4 => ?_)
  · refine .yes rfl ?_
    exact ⟨trivial, rfl⟩
  have g4 : ((s.a.map fun r => [frs r]).length : Int) = ((s.b.map fds).length : Int) := bne_eq_false_iff_eq.1 g4
  refine .yes (bne_iff_ne.2 (by intro e; exact h (by omega))) ?_
  refine .yes (bne_iff_ne.2 (by intro e; exact h (by omega))) ?_
  exact ⟨trivial, rfl⟩
set_option maxHeartbeats 2000000 in
set_option maxRecDepth 10000 in
theorem scShape_yes (s : Sc) (h : shapeH s) (b : Bool) (hb : (List.range s.a.length).all (fun i => (s.a.getD i []).length == i) = b) : CN 86 [scA s] [] (.d (.bool b)) [] := by
  refine con_of Go.Proofs.Tryz.func86 rfl (by kernel_rfl) (Nat.le_of_ble_eq_true rfl) ?_
  have l1 := frsLen s.b
  have l2 := frsLen s.c
  have l3 := frssLen s.a
  have l4 := frsLen s.e
  obtain ⟨h1, h2, h3, h4, h5⟩ := h
  refine .no (decide_eq_false (by omega)) ?_
  refine .no (decide_eq_false (by omega)) ?_
  refine .no (bne_eq_false_iff_eq.2 (by omega)) ?_
  refine .no (bne_eq_false_iff_eq.2 (by omega)) ?_
  refine .mk (fun g => .no (bne_eq_false_iff_eq.2 (by have := bne_iff_ne.1 g; omega)) ?_) (fun g => .no rfl ?_)
  all_goals
    refine .mk 0 (VLoop.mk Nat (fun k => frS 55 [(43, .d (frss s.a)), (44, i64 s.a.length), (45, i64 k)]) (fun _ => [])
      (fun k => k ≤ s.a.length ∧ ∀ i, i < k → ((s.a.getD i []).length == i) = true) (fun k => s.a.length - k) 0 ⟨Nat.zero_le _, by intro i h; omega⟩ ⟨rfl, lenDD s.a, rfl, trivial⟩ trivial trivial ?_)
    intro k ⟨hk, hall⟩
    refine .mk (fun g3 => ?_) (fun g3 => ?_)
    · have g3 : k < s.a.length := by simpa using g3
      have eL : (((s.a[k]).map fds).length : Int) = ((s.a.getD k []).length : Int) := by rw [List.length_map, a_getD g3]
      refine .mk (by omega) ⟨_, frss_getI (by omega) g3, ?_⟩
      refine .mk (fun g4 => ?_) (fun g4 => ?_)
      · have g4 : (((s.a[k]).map fds).length : Int) ≠ (k : Int) := bne_iff_ne.1 g4
        have e : b = false := by
          rw [← hb]
          cases e : (List.range s.a.length).all fun i => (s.a.getD i []).length == i
          · rfl
          · have := beq_iff_eq.1 (all_range.1 e k g3)
            omega
        exact ⟨trivial, by rw [e]; rfl⟩
      · have g4 : (((s.a[k]).map fds).length : Int) = (k : Int) := bne_eq_false_iff_eq.1 g4
        refine ⟨k + 1, ⟨g3, fun i hi => ?_⟩, by omega, ⟨rfl, rfl, wrapS (by omega), trivial⟩, trivial, trivial⟩
        rcases Nat.lt_succ_iff_lt_or_eq.1 hi with h | h
        · exact hall i h
        · subst h
          exact beq_iff_eq.2 (by omega)
    · have g3 := le_len g3 hk
      subst g3
      have e : b = true := by rw [← hb]; exact all_range.2 hall
      exact ⟨trivial, by rw [e]; rfl⟩
theorem scShape_c (s : Sc) : CN 86 [scA s] [] (.d (.bool (shapeB s))) [] := by
  unfold shapeB
  by_cases h : shapeH s
  · rw [decide_eq_true h, Bool.true_and]
    exact scShape_yes s h _ rfl
  · rw [decide_eq_false h, Bool.false_and]
    exact scShape_no s h
end Go.KM
end
section
/- Contracts: scheme (2). -/
namespace Go.KM
open Go RN
section
variable {L : Nat}
def numB (l : List (List RF)) : Bool := l.all fun r => r.all fun x => isR x && decide (rsz x ≤ 190)
theorem all_false {α : Type} {l : List α} {p : α → Bool} {k : Nat} (h : k < l.length) (hp : p l[k] = false) : l.all p = false := by
  cases e : l.all p
  · rfl
  · have := List.all_eq_true.1 e _ (List.getElem_mem h)
    rw [hp] at this; cases this
theorem all_true {α : Type} {l : List α} {p : α → Bool} (h : ∀ k (h : k < l.length), p l[k] = true) : l.all p = true := by
  refine List.all_eq_true.2 fun x hx => ?_
  obtain ⟨k, hk, rfl⟩ := List.mem_iff_getElem.1 hx
  exact h k hk
set_option maxRecDepth 10000 in
theorem scNumbers_c (l : List (List RF)) (hl : ∀ r ∈ l, oks L r) (h1 : 1 ≤ L) (hL : L < 2 ^ 30) (ll : l.length < 2 ^ 30) (lr : ∀ r ∈ l, r.length < 2 ^ 30) : CN 87 [.d (frss l)] [] (.d (.bool (numB l))) [] := by
  refine con_of Go.Proofs.Tryz.func87 rfl (by kernel_rfl) (Nat.le_of_ble_eq_true rfl) ?_
  refine .mk 0 (VLoop.mk Nat (fun k => frS 29 [(7, .d (frss l)), (8, i64 l.length), (9, i64 k)]) (fun _ => [])
    (fun k => k ≤ l.length ∧ ∀ i (h : i < l.length), i < k → (l[i].all fun x => isR x && decide (rsz x ≤ 190)) = true) (fun k => l.length - k) 0 ⟨Nat.zero_le _, by intro i _ h; omega⟩ ⟨rfl, lenDD l, rfl, trivial⟩ trivial trivial ?_)
  intro k ⟨hk, hall⟩
  refine .mk (fun g => ?_) (fun g => ?_)
  · have g : k < l.length := by simpa using g
    have hlk := hl _ (List.getElem_mem g)
    have llk := lr _ (List.getElem_mem g)
    refine .mk (by omega) ⟨_, frss_getI (by omega) g, ?_⟩
    refine .mk 0 (VLoop.mk Nat (fun i => frS 29 [(7, .d (frss l)), (8, i64 l.length), (9, i64 k), (13, .d (frs l[k])), (14, i64 l[k].length), (15, i64 i)]) (fun _ => [])
      (fun i => i ≤ l[k].length ∧ ∀ j (h : j < l[k].length), j < i → (isR l[k][j] && decide (rsz l[k][j] ≤ 190)) = true) (fun i => l[k].length - i) 0 ⟨Nat.zero_le _, by intro i _ h; omega⟩ ⟨rfl, rfl, rfl, rfl, lenD l[k], rfl, trivial⟩ trivial trivial ?_)
    intro i ⟨hi, hall2⟩
    refine .mk (fun g2 => ?_) (fun g2 => ?_)
    · have g2 : i < l[k].length := by simpa using g2
      refine .mk (by omega) ⟨_, _, _, frs_getI (by omega) g2, ?_⟩
      refine .by _ ⟨frRight_c l[k][i] (oks_get hlk g2) h1 (by omega), ?_⟩
      have bad : (isR l[k][i] && decide (rsz l[k][i] ≤ 190)) = false → numB l = false := fun e => all_false g (all_false g2 e)
      refine .mk (fun g3 => ?_) (fun g3 => ?_)
      · refine .yes rfl ?_
        have e := bad (by rw [show isR l[k][i] = false by simpa using g3]; rfl)
        exact ⟨trivial, by rw [e]; rfl⟩
      · have g3 : isR l[k][i] = true := by simpa using g3
        refine .by _ ⟨frSize_c l[k][i] (oks_get hlk g2) (by omega), ?_⟩
        refine .mk (fun g4 => ?_) (fun g4 => ?_)
        · have g4 : (rsz l[k][i] : Int) > 190 := of_decide_eq_true g4
          have e := bad (by rw [g3, Bool.true_and]; exact decide_eq_false (by omega))
          exact ⟨trivial, by rw [e]; rfl⟩
        · have g4 : ¬ (rsz l[k][i] : Int) > 190 := of_decide_eq_false g4
          refine ⟨i + 1, ⟨g2, fun j hj hlt => ?_⟩, by omega, ⟨rfl, rfl, rfl, rfl, rfl, wrapS (by omega), trivial⟩, trivial, trivial⟩
          rcases Nat.lt_succ_iff_lt_or_eq.1 hlt with h | h
          · exact hall2 j hj h
          · subst h
            rw [g3, Bool.true_and]
            exact decide_eq_true (by omega)
    · have g2 := le_len g2 hi
      subst g2
      refine ⟨k + 1, ⟨g, fun j hj hlt => ?_⟩, by omega, ⟨rfl, rfl, wrapS (by omega), trivial⟩, trivial, trivial⟩
      rcases Nat.lt_succ_iff_lt_or_eq.1 hlt with h | h
      · exact hall j hj h
      · subst h
        exact all_true fun m hm => hall2 m hm hm
  · have g := le_len g hk
    subst g
    have e : numB l = true := all_true fun m hm => hall m hm hm
    exact ⟨trivial, by rw [e]; rfl⟩
/-- The sum of the first so many. -/
def sumk (l : List Rat) : Nat → Rat
  | 0 => 0
  | k + 1 => sumk l k + l.getD k 0
def sumQ (l : List Rat) : Rat := sumk l l.length
theorem sumk_nw {l : List Rat} (h : ∀ q ∈ l, nw q ≤ L) (h1 : 1 ≤ L) : ∀ k, nw (sumk l k) ≤ 1 + k * (L + 1)
  | 0 => by have := nw_zero; rw [sumk]; omega
  | k + 1 => by
    rw [sumk, Nat.add_mul]
    have h2 := sumk_nw h h1 k
    have h3 := nw_add (sumk l k) (l.getD k 0)
    have h4 := getD_nw (n := k) h h1
    omega
set_option maxRecDepth 10000 in
theorem scSum_c (l : List RF) (hl : oks L l) (h1 : 1 ≤ L) (hL : 1 + l.length * (L + 1) < 2 ^ 30) (hL2 : L < 2 ^ 30) (ll : l.length < 2 ^ 30) : CN 89 [.d (frs l)] [] (fq (sumQ (vals l))) [] := by
  refine con_of Go.Proofs.Tryz.func89 rfl (by kernel_rfl) (Nat.le_of_ble_eq_true rfl) ?_
  refine .by _ ⟨frOf_c 0 (by decide) (by decide), ?_⟩
  refine .mk 0 (VLoop.mk Nat (fun k => frS 18 [(2, .addr 2 0), (3, .addr 3 0), (7, .d (frs l)), (8, i64 l.length), (9, i64 k)])
    (fun k => [(2, .box [.d (.bool false), .nils, .nils]), (3, .box [.d (.bool (cq (sumk (vals l) k)).s), .d (wd (cq (sumk (vals l) k)).n), .d (wd (cq (sumk (vals l) k)).d)])])
    (fun k => k ≤ l.length) (fun k => l.length - k) 0 (Nat.zero_le _) ⟨rfl, rfl, rfl, lenD l, rfl, trivial⟩ ⟨rfl, rfl, trivial⟩ trivial ?_)
  intro k hk
  refine .mk (fun g => ?_) (fun g => ?_)
  · have g : k < l.length := by simpa using g
    have hb := sumk_nw (vals_nw hl h1) h1 k
    have hm := Nat.mul_le_mul_right (L + 1) hk
    refine .mk (by omega) ⟨_, _, _, frs_getI (by omega) g, ?_⟩
    have ha := frAdd_c (cq (sumk (vals l) k)) l[k] ((cq_ok _).mono hb) (oks_get hl g) (by omega) h1 (by omega) (by omega)
    rw [cq_val, ← getD_vals g] at ha
    refine .by _ ⟨ha, ?_⟩
    exact ⟨k + 1, g, by omega, ⟨rfl, rfl, rfl, rfl, wrapS (by omega), trivial⟩, ⟨rfl, rfl, trivial⟩, trivial⟩
  · have g := le_len g hk
    subst g
    refine ⟨trivial, ?_⟩
    rw [sumQ, vals_len]
    rfl
end
end Go.KM
end
section
/- Contracts: scheme (3). -/
namespace Go.KM
open Go RN
structure scOk (L : Nat) (s : Sc) : Prop where
  c : oks L s.c
  a : ∀ r ∈ s.a, oks L r
  b : oks L s.b
  e : oks L s.e
  n : s.name.size < 2 ^ 40
def rowsB (s : Sc) : Bool := (List.range s.a.length).all fun i => decide (sumQ (vals (s.a.getD i [])) = (vals s.c).getD i 0)
section
variable {L : Nat}
set_option maxRecDepth 10000 in
theorem scRows_c (s : Sc) (hs : scOk L s) (h1 : 1 ≤ L) (hL : L < 2 ^ 20) (hS : shapeB s = true) : CN 88 [scA s] [] (.d (.bool (rowsB s))) [] := by
  unfold shapeB at hS
  rw [Bool.and_eq_true, decide_eq_true_eq] at hS
  obtain ⟨⟨b1, b2, b3, b4, b5⟩, hS⟩ := hS
  refine con_of Go.Proofs.Tryz.func88 rfl (by kernel_rfl) (Nat.le_of_ble_eq_true rfl) ?_
  refine .mk 0 (VLoop.mk Nat (fun k => frS 23 [(1, .addr 1 0), (6, .d (frss s.a)), (7, i64 s.a.length), (8, i64 k)]) (fun _ => [(1, .box [.d (.str s.name), .d (frs s.c), .d (frss s.a), .d (frs s.b), .d (frs s.e)])])
    (fun k => k ≤ s.a.length ∧ ∀ i, i < k → decide (sumQ (vals (s.a.getD i [])) = (vals s.c).getD i 0) = true) (fun k => s.a.length - k) 0 ⟨Nat.zero_le _, by intro i h; omega⟩ ⟨rfl, rfl, lenDD s.a, rfl, trivial⟩ ⟨rfl, trivial⟩ trivial ?_)
  intro k ⟨hk, hall⟩
  refine .mk (fun g => ?_) (fun g => ?_)
  · have g : k < s.a.length := by simpa using g
    have gc : k < s.c.length := by omega
    have ek : s.a[k].length = k := by
      have := all_range.1 hS k g
      rw [a_getD g] at this
      exact beq_iff_eq.1 this
    have hak := hs.a _ (List.getElem_mem g)
    refine .mk (by omega) ⟨_, frss_getI (by omega) g, ?_⟩
    have hm := Nat.mul_le_mul_right (L + 1) (show s.a[k].length ≤ 8 by omega)
    refine .by _ ⟨scSum_c s.a[k] hak h1 (by omega) (by omega) (by omega), ?_⟩
    refine .mk (by omega) ⟨_, _, _, frs_getI (by omega) gc, ?_⟩
    have hnw : nw (sumQ (vals s.a[k])) ≤ 1 + s.a[k].length * (L + 1) := by
      have := sumk_nw (vals_nw hak h1) h1 (vals s.a[k]).length
      rw [vals_len] at this
      unfold sumQ
      rw [vals_len]
      exact this
    have hsm := frSame_c (cq (sumQ (vals s.a[k]))) s.c[k] ((cq_ok _).mono hnw) (oks_get hs.c gc) (by omega) h1 (by omega) (by omega)
    rw [cq_val, ← getD_vals gc, ← a_getD g] at hsm
    rw [← a_getD g]
    refine .by _ ⟨hsm, ?_⟩
    refine .mk (fun g2 => ?_) (fun g2 => ?_)
    · have e : rowsB s = false := by
        cases e : rowsB s
        · rfl
        · have := all_range.1 e k g
          rw [this] at g2
          cases g2
      exact ⟨trivial, by rw [e]; rfl⟩
    · refine ⟨k + 1, ⟨g, fun i hi => ?_⟩, by omega, ⟨rfl, rfl, rfl, wrapS (by omega), trivial⟩, ⟨rfl, trivial⟩, trivial⟩
      rcases Nat.lt_succ_iff_lt_or_eq.1 hi with h | h
      · exact hall i h
      · subst h
        simpa using g2
  · have g := le_len g hk
    subst g
    have e : rowsB s = true := all_range.2 hall
    exact ⟨trivial, by rw [e]; rfl⟩
/-- What is wrong with a scheme. -/
def scW (s : Sc) : Int :=
  if nameB s.name = false then 1 else if shapeB s = false then 2 else if numB s.a = false then 3 else if numB [s.b, s.c, s.e] = false then 3 else if rowsB s = false then 4
  else if sumQ (vals s.b) ≠ 1 then 5 else if 0 < s.e.length ∧ sumQ (vals s.e) ≠ 1 then 6 else 0
theorem sumQ_nw {l : List RF} (hl : oks L l) (h1 : 1 ≤ L) : nw (sumQ (vals l)) ≤ 1 + l.length * (L + 1) := by
  have := sumk_nw (vals_nw hl h1) h1 (vals l).length
  rw [vals_len] at this
  unfold sumQ
  rw [vals_len]
  exact this
theorem one_same (q : Rat) {M : Nat} (hq : nw q ≤ M) (h1 : 1 ≤ M) (hM : M < 2 ^ 30) : CN 31 [fq q, fq 1] [] (.d (.bool (decide (q = 1)))) [] := by
  have h := frSame_c (cq q) (cq 1) ((cq_ok q).mono hq) ((cq_ok 1).mono (show nw 1 ≤ 1 by unfold nw; exact Nat.max_le.2 ⟨nwN_le.2 (by decide), nwN_le.2 (by decide)⟩)) h1 (Nat.le_refl _) (by omega) (by decide)
  rwa [cq_val, cq_val] at h
set_option maxHeartbeats 2000000 in
set_option maxRecDepth 10000 in
theorem scWrong_c (s : Sc) (hs : scOk L s) (h1 : 1 ≤ L) (hL : L < 2 ^ 20) : CN 61 [scA s] [] (i64 (scW s)) [] := by
  refine con_of Go.Proofs.Tryz.func61 rfl (by kernel_rfl) (Nat.le_of_ble_eq_true rfl) ?_
  unfold scW
  refine .by _ ⟨frOf_c 1 (by decide) (by decide), ?_⟩
  refine .by _ ⟨lexRight_c s.name 0 hs.n, ?_⟩
  refine .mk (fun g => ?_) (fun g => ?_)
  · rw [if_pos (by simpa using g)]
    exact ⟨trivial, rfl⟩
  rw [if_neg (by simpa using g)]
  clear g
  refine .by _ ⟨scShape_c s, ?_⟩
  refine .mk (fun g => ?_) (fun g => ?_)
  · rw [if_pos (by simpa using g)]
    exact ⟨trivial, rfl⟩
  have gS : shapeB s = true := by simpa using g
  rw [if_neg (by simpa using g)]
  clear g
  obtain ⟨b1, b2, b3, b4, b5⟩ : shapeH s := by
    have := gS
    unfold shapeB at this
    rw [Bool.and_eq_true, decide_eq_true_eq] at this
    exact this.1
  have hr : ∀ r ∈ s.a, r.length < 2 ^ 30 := by
    intro r hr
    obtain ⟨k, hk, rfl⟩ := List.mem_iff_getElem.1 hr
    have := gS
    unfold shapeB at this
    rw [Bool.and_eq_true] at this
    have := all_range.1 this.2 k hk
    rw [a_getD hk] at this
    have := beq_iff_eq.1 this
    omega
  refine .by _ ⟨scNumbers_c s.a hs.a h1 (by omega) (by omega) hr, ?_⟩
  refine .mk (fun g => ?_) (fun g => ?_)
  · rw [if_pos (by simpa using g)]
    refine .yes rfl ?_
    exact ⟨trivial, rfl⟩
  rw [if_neg (by simpa using g)]
  clear g
  have hn := scNumbers_c (L := L) [s.b, s.c, s.e] (by
    intro r hr
    simp at hr
    rcases hr with rfl | rfl | rfl
    · exact hs.b
    · exact hs.c
    · exact hs.e) h1 (by omega) (by show 3 < _; omega) (by
    intro r hr
    simp at hr
    rcases hr with rfl | rfl | rfl <;> omega)
  refine .by _ (.of ⟨rfl, rfl⟩ ⟨hn, ?_⟩)
  refine .mk (fun g => ?_) (fun g => ?_)
  · rw [if_pos (by simpa using g)]
    exact ⟨trivial, rfl⟩
  rw [if_neg (by simpa using g)]
  clear g
  refine .by _ ⟨scRows_c s hs h1 hL gS, ?_⟩
  refine .mk (fun g => ?_) (fun g => ?_)
  · rw [if_pos (by simpa using g)]
    exact ⟨trivial, rfl⟩
  rw [if_neg (by simpa using g)]
  clear g
  have hm := Nat.mul_le_mul_right (L + 1) b2
  have hm2 := Nat.mul_le_mul_right (L + 1) (show s.e.length ≤ 8 by omega)
  refine .by _ ⟨scSum_c s.b hs.b h1 (by omega) (by omega) (by omega), ?_⟩
  refine .by _ ⟨one_same _ (sumQ_nw hs.b h1) (by omega) (by omega), ?_⟩
  refine .mk (fun g => ?_) (fun g => ?_)
  · rw [if_pos (by simpa using g)]
    exact ⟨trivial, rfl⟩
  rw [if_neg (by simpa using g)]
  clear g
  refine .mk (fun g => ?_) (fun g => ?_)
  · have g : 0 < s.e.length := by
      have g : ((s.e.map fds).length : Int) > 0 := of_decide_eq_true g
      rw [List.length_map] at g
      omega
    refine .by _ ⟨scSum_c s.e hs.e h1 (by omega) (by omega) (by omega), ?_⟩
    refine .by _ ⟨one_same _ (sumQ_nw hs.e h1) (by omega) (by omega), ?_⟩
    refine .mk (fun g2 => ?_) (fun g2 => ?_)
    · rw [if_pos ⟨g, by simpa using g2⟩]
      exact ⟨trivial, rfl⟩
    · rw [if_neg (fun h => h.2 (by simpa using g2))]
      exact ⟨trivial, rfl⟩
  · have g : ¬ 0 < s.e.length := by
      have g : ¬ ((s.e.map fds).length : Int) > 0 := of_decide_eq_false g
      rw [List.length_map] at g
      omega
    refine .no rfl ?_
    rw [if_neg (fun h => g h.1)]
    exact ⟨trivial, rfl⟩
theorem scRight_c (s : Sc) (hs : scOk L s) (h1 : 1 ≤ L) (hL : L < 2 ^ 20) : CN 46 [scA s] [] (.d (.bool (scW s == 0))) [] := by
  refine con_of Go.Proofs.Tryz.func46 rfl (by kernel_rfl) (Nat.le_of_ble_eq_true rfl) ?_
  exact .by _ ⟨scWrong_c s hs h1 hL, trivial, rfl⟩
end
end Go.KM
end
section
/- Contracts: scheme.Gap; step.Right, Moment, at, Slopes. -/
namespace Go.KM
open Go RN
structure Pr where
  tp : Tp
  sc : Sc
  P : List RF
  bits : Int
def prC (p : Pr) : List AV := [.d (.sl (p.tp.code.map inD)), .d (isl p.tp.outs), i64 p.tp.dim, i64 p.tp.par, .d (.str p.sc.name), .d (frs p.sc.c), .d (frss p.sc.a), .d (frs p.sc.b), .d (frs p.sc.e), .d (frs p.P), i64 p.bits]
def prA (p : Pr) : AV := .agg (prC p)
structure prOk (L : Nat) (p : Pr) : Prop where
  code : iok L p.tp.code
  sc : scOk L p.sc
  P : oks L p.P
  lc : p.tp.code.length < 2 ^ 30
  lo : p.tp.outs.length < 2 ^ 30
  lP : p.P.length < 2 ^ 30
section
variable {L : Nat}
theorem scW_zero {s : Sc} : scW s = 0 ↔ nameB s.name = true ∧ shapeB s = true ∧ numB s.a = true ∧ numB [s.b, s.c, s.e] = true ∧ rowsB s = true ∧ sumQ (vals s.b) = 1 ∧ (0 < s.e.length → sumQ (vals s.e) = 1) := by
  unfold scW
  constructor
  · intro h
    split at h
    · cases h
    split at h
    · cases h
    split at h
    · cases h
    split at h
    · cases h
    split at h
    · cases h
    split at h
    · cases h
    split at h
    · cases h
    rename_i a1 a2 a3 a4 a5 a6 a7
    refine ⟨by simpa using a1, by simpa using a2, by simpa using a3, by simpa using a4, by simpa using a5, by simpa using a6, fun h0 => ?_⟩
    by_cases e : sumQ (vals s.e) = 1
    · exact e
    · exact absurd ⟨h0, e⟩ a7
  · rintro ⟨a1, a2, a3, a4, a5, a6, a7⟩
    rw [if_neg (by rw [a1]; decide), if_neg (by rw [a2]; decide), if_neg (by rw [a3]; decide), if_neg (by rw [a4]; decide), if_neg (by rw [a5]; decide), if_neg (fun h => h a6), if_neg (fun h => h.2 (a7 h.1))]
theorem scW_shape {s : Sc} (h : scW s = 0) : shapeH s := by
  have := (scW_zero.1 h).2.1
  unfold shapeB at this
  rw [Bool.and_eq_true, decide_eq_true_eq] at this
  exact this.1
theorem scW_row {s : Sc} (h : scW s = 0) {k : Nat} (hk : k < s.a.length) : s.a[k].length = k := by
  have := (scW_zero.1 h).2.1
  unfold shapeB at this
  rw [Bool.and_eq_true] at this
  have := all_range.1 this.2 k hk
  rw [a_getD hk] at this
  exact beq_iff_eq.1 this
/-- By how much the weights are greater than the companion's. -/
def gapS (s : Sc) : List Rat := if s.e.length = 0 then [] else sums (vals s.b) ((vals s.e).map fun x => -x)
set_option maxRecDepth 10000 in
theorem scGap_c (s : Sc) (hs : scOk L s) (h1 : 1 ≤ L) (hL : L < 2 ^ 20) (hw : scW s = 0) : CN 50 [scA s] [] (.d (fqs (gapS s))) [] := by
  obtain ⟨b1, b2, b3, b4, b5⟩ := scW_shape hw
  refine con_of Go.Proofs.Tryz.func50 rfl (by kernel_rfl) (Nat.le_of_ble_eq_true rfl) ?_
  refine .by _ ⟨scRight_c s hs h1 hL, ?_⟩
  refine .no (by rw [hw]; rfl) ?_
  refine .mk (fun g => ?_) (fun g => ?_)
  · have g : s.e.length = 0 := by
      have g : ((s.e.map fds).length : Int) = 0 := beq_iff_eq.1 g
      rw [List.length_map] at g
      omega
    refine ⟨trivial, ?_⟩
    rw [gapS, if_pos g]
    rfl
  · have g : ¬ s.e.length = 0 := by
      have g : ((s.e.map fds).length : Int) ≠ 0 := beq_eq_false_iff_ne.1 g
      rw [List.length_map] at g
      omega
    refine .by _ ⟨rowSub_c s.b s.e hs.b hs.e h1 (by omega) h1 (by omega) (by omega) (by omega), trivial, ?_⟩
    rw [gapS, if_neg g]
    rfl
def prB (p : Pr) : Bool := (rightB p.tp && (scW p.sc == 0)) && ((p.P.length : Int) == p.tp.par)
set_option maxRecDepth 10000 in
theorem stRight_c (p : Pr) (hp : prOk L p) (h1 : 1 ≤ L) (hL : L < 2 ^ 20) : CN 26 [prA p] [] (.d (.bool (prB p))) [] := by
  have e := frsLen p.P
  unfold prB
  refine con_of Go.Proofs.Tryz.func26 rfl (by kernel_rfl) (Nat.le_of_ble_eq_true rfl) ?_
  have lc := hp.lc
  have lo := hp.lo
  rw [← e]
  refine .by _ ⟨tpRight_c p.tp (by omega) (by omega) hp.code h1 (by omega), ?_⟩
  refine .mk (fun g => ?_) (fun g => ?_)
  · rw [g, Bool.true_and]
    refine .by _ ⟨scRight_c p.sc hp.sc h1 hL, ?_⟩
    refine .mk (fun g => ?_) (fun g => ?_)
    · rw [g, Bool.true_and]
      exact ⟨trivial, rfl⟩
    · rw [g, Bool.false_and]
      exact ⟨trivial, rfl⟩
  · rw [g, Bool.false_and, Bool.false_and]
    refine .no rfl ?_
    exact ⟨trivial, rfl⟩
set_option maxRecDepth 10000 in
theorem stMoment_c (p : Pr) (T H : RF) (k : Nat) (hp : prOk L p) (hT : T.ok L) (hH : H.ok L) (h1 : 1 ≤ L) (hL : L < 2 ^ 20) (hk : k < p.sc.c.length) (lk : k < 2 ^ 30) : CN 72 [prA p, fav T, fav H, i64 k] [] (fq (T.val + H.val * p.sc.c[k].val)) [] := by
  refine con_of Go.Proofs.Tryz.func72 rfl (by kernel_rfl) (Nat.le_of_ble_eq_true rfl) ?_
  have l2 := frsLen p.sc.c
  refine .no (decide_eq_false (by omega)) ?_
  refine .no (decide_eq_false (by show ¬ (k : Int) ≥ ((p.sc.c.map fds).length : Int); omega)) ?_
  refine .mk (by omega) ⟨_, _, _, frs_getI (by omega) hk, ?_⟩
  refine .by _ ⟨frMul_c H p.sc.c[k] hH (oks_get hp.sc.c hk) h1 h1 (by omega) (by omega), ?_⟩
  have n1 := nw_mul H.val p.sc.c[k].val
  have n2 := nw_val hH h1
  have n3 := nw_val (oks_get hp.sc.c hk) h1
  have ha := frAdd_c T (cq (H.val * p.sc.c[k].val)) hT ((cq_ok _).mono (Nat.le_trans n1 (Nat.add_le_add n2 n3))) h1 (by omega) (by omega) (by omega)
  rw [cq_val] at ha
  refine .by _ ⟨ha, trivial, rfl⟩
theorem stAt_c (p : Pr) (T : RF) (Y : List RF) : CN 37 [prA p, fav T, .d (frs Y)] [] (ptA T Y p.P) [] := by
  refine con_of Go.Proofs.Tryz.func37 rfl (by kernel_rfl) (Nat.le_of_ble_eq_true rfl) ?_
  exact ⟨trivial, rfl⟩
def slR (p : Pr) (T : RF) (Y : List RF) : RunR := tapeS p.tp T Y p.P p.bits
set_option maxRecDepth 10000 in
theorem stSlopes_c (p : Pr) (T : RF) (Y : List RF) (hp : prOk L p) (hT : T.ok L) (hY : oks L Y) (lY : Y.length < 2 ^ 30) (h1 : 129 ≤ L) (hL : L < 2 ^ 20) :
    CN 15 [prA p, fav T, .d (frs Y)] [] (if prB p = true then .tup [.d (fqs (fieldD p.tp T Y p.P p.bits)), flt (slR p T Y).k 0 (slR p T Y).at_] else .tup [.d (.sl []), flt 2 0 0]) [] := by
  refine con_of Go.Proofs.Tryz.func15 rfl (by kernel_rfl) (Nat.le_of_ble_eq_true rfl) ?_
  refine .by _ ⟨stRight_c p hp (by omega) hL, ?_⟩
  refine .mk (fun g => ?_) (fun g => ?_)
  · have g : prB p = false := by simpa using g
    refine ⟨trivial, ?_⟩
    rw [if_neg (by rw [g]; decide)]
    rfl
  · have g : prB p = true := by simpa using g
    refine .by _ ⟨stAt_c p T Y, ?_⟩
    refine .by _ ⟨runField_c p.tp T Y p.P p.bits hT hY hp.P h1 (by omega) lY hp.lP hp.code hp.lc hp.lo, trivial, ?_⟩
    rw [if_pos g]
    rfl
end
end Go.KM
end
section
/- Contracts: a step's maker (1). -/
namespace Go.KM
open Go RN
/-- Rows so far: none, or one's own. -/
def rowV (id : Nat) : Nat → AV
  | 0 => .nils
  | k + 1 => .own id (k + 1) 1
def qD (l : List (List Rat)) : List (List D) := l.map fun r => [fqs r]
/-- A maker's cells. -/
def mkC (p : Pr) (T H : RF) (Y : List RF) (yv kv nx er : AV) : List AV :=
  [.d (.sl (p.tp.code.map inD)), .d (isl p.tp.outs), i64 p.tp.dim, i64 p.tp.par, .d (.str p.sc.name), .d (frs p.sc.c), .d (frss p.sc.a), .d (frs p.sc.b), .d (frs p.sc.e), .d (frs p.P), i64 p.bits,
    .d (.bool T.s), .d (wd T.n), .d (wd T.d), .d (.bool H.s), .d (wd H.n), .d (wd H.d), .d (frs Y), .addr 1 0, yv, kv, nx, er]
/-- A maker's memory, of so many stages. -/
def mkM (p : Pr) (T H : RF) (Y : List RF) (nx er : AV) (s q lim : Int) (l1 l2 : Bool) (ys ks : List (List Rat)) : Nat → Mem
  | 0 => [(33, .box (mkC p T H Y .nils .nils nx er)), (1, .box (gc s q lim))]
  | k + 1 => [(33, .box (mkC p T H Y (.own 76 (k + 1) 1) (.own 88 (k + 1) 1) nx er)), (1, .box (gc s q lim)), (76, .row 1 (qD ys) l1), (88, .row 1 (qD ks) l2)]
/-- A row that is set later. -/
def lv : Option D → AV
  | none => .nils
  | some x => .d x
section
variable {L : Nat}
set_option maxRecDepth 10000 in
theorem mkFits_c (p : Pr) (T H : RF) (Y : List RF) (nx er : Option D) (s q lim : Int) (l1 l2 : Bool) (ys ks : List (List Rat)) (k : Nat) (l : List RF) (st : Int) (hl : oks L l) (hL : L < 2 ^ 30) (ll : l.length < 2 ^ 30)
    (n : Nat) (b : Bool) (r : Nat)
    (h : (b = true ∧ n = l.length ∧ r = l.length ∧ ∀ i (h : i < l.length), (rsz l[i] : Int) ≤ lim) ∨ (b = false ∧ n = r + 1 ∧ ∃ h : r < l.length, ¬ (rsz l[r] : Int) ≤ lim ∧ ∀ i (h : i < r), (rsz l[i] : Int) ≤ lim)) :
    CN 49 [.addr 33 0, .d (frs l), i64 st] (mkM p T H Y (lv nx) (lv er) s q lim l1 l2 ys ks k) (if b = true then flt 0 0 0 else flt 6 st (300 + r)) (mkM p T H Y (lv nx) (lv er) (gSk s n) (gPk q l n) lim l1 l2 ys ks k) := by
  have hg := gRow_any s q lim l hl (by omega) ll n b r h
  have hr : b = false → IntKind.i64.wrap (300 + (r : Int)) = 300 + r := by
    intro e
    rcases h with ⟨e1, _⟩ | ⟨_, _, h3, _⟩
    · rw [e1] at e; cases e
    · exact wrap64 (by omega) (by omega)
  rcases k with _ | k
  · rcases nx with _ | nx <;> rcases er with _ | er
    all_goals
      refine conF_of Go.Proofs.Tryz.func49 rfl (by kernel_rfl) ⟨rfl, rfl, trivial⟩ (Nat.le_of_ble_eq_true rfl) ?_
      refine .box1 1 _ _ _ rfl rfl ⟨hg, ?_⟩
      cases b
      · refine .yes rfl ?_
        exact ⟨⟨rfl, rfl, trivial⟩, congrArg (fun z => flt 6 st z) (hr rfl)⟩
      · refine .no rfl ?_
        exact ⟨⟨rfl, rfl, trivial⟩, rfl⟩
  · rcases nx with _ | nx <;> rcases er with _ | er
    all_goals
      refine conF_of Go.Proofs.Tryz.func49 rfl (by kernel_rfl) ⟨rfl, rfl, rfl, rfl, trivial⟩ (Nat.le_of_ble_eq_true rfl) ?_
      refine .box1 1 _ _ _ rfl rfl ⟨hg, ?_⟩
      cases b
      · refine .yes rfl ?_
        exact ⟨⟨rfl, rfl, rfl, rfl, trivial⟩, congrArg (fun z => flt 6 st z) (hr rfl)⟩
      · refine .no rfl ?_
        exact ⟨⟨rfl, rfl, rfl, rfl, trivial⟩, rfl⟩
end
end Go.KM
end
section
/- Contracts: a step's maker (2). -/
namespace Go.KM
open Go RN
section
variable {L M : Nat}
theorem frss_cqs (ks : List (List Rat)) : frss (ks.map cqs) = .sl (qD ks) := by
  unfold frss qD
  rw [List.map_map]
  rfl
theorem valss_cqs (ks : List (List Rat)) : valss (ks.map cqs) = ks := by
  unfold valss
  rw [List.map_map]
  exact (List.map_congr_left fun q _ => vals_cqs q).trans (List.map_id ks)
theorem cqs_scl (h : Rat) (l : List Rat) : ((cqs l).map fun x => h * x.val) = scl h l := by
  unfold cqs scl
  rw [List.map_map]
  refine List.map_congr_left fun q _ => ?_
  show h * (cq q).val = h * q
  rw [cq_val]
/-- h times a mixture of rows. -/
def twd (H : Rat) (c : List Rat) (ks : List (List Rat)) (n : Nat) : List Rat := scl H (mixk c ks n ks.length)
theorem twd_len {H : Rat} {c : List Rat} {ks : List (List Rat)} {n : Nat} (h : ∀ r ∈ ks, r.length = n) : (twd H c ks n).length = n := by
  rw [twd, scl_len, mixk_len h _ (Nat.le_refl _)]
theorem twd_nw {H : Rat} {c : List Rat} {ks : List (List Rat)} {n : Nat} (hc : ∀ q ∈ c, nw q ≤ L) (hk : ∀ r ∈ ks, ∀ q ∈ r, nw q ≤ M) (hl : c.length = ks.length) : ∀ q ∈ twd H c ks n, nw q ≤ nw H + (1 + ks.length * (L + M + 1)) := by
  intro q hq
  obtain ⟨x, hx, rfl⟩ := List.mem_map.1 hq
  have := mixk_nw hc hk hl _ (Nat.le_refl _) x hx
  have := nw_mul H x
  omega
/-- What a maker needs. -/
structure mkOk (L M : Nat) (H : RF) (Y : List RF) (c : List RF) (ks : List (List Rat)) : Prop where
  cn : oks L c
  H : H.ok L
  kn : ∀ r ∈ ks, ∀ q ∈ r, nw q ≤ M
  len : ∀ r ∈ ks, r.length = Y.length
  lY : Y.length ≤ 300
  lc : c.length = ks.length
  lk : ks.length ≤ 8
theorem mixCall {H : RF} {Y : List RF} {c : List RF} {ks : List (List Rat)} (h : mkOk L M H Y c ks) (h1 : 1 ≤ L) (m1 : 1 ≤ M) (hL : L < 2 ^ 20) (hM : M < 2 ^ 20) :
    CN 76 [.d (frs c), .d (.sl (qD ks)), i64 Y.length] [] (.tup [.d (fqs (mixk (vals c) ks Y.length ks.length)), .d (.bool true)]) [] := by
  have hk := h.lk
  have hm := Nat.mul_le_mul_right (L + M + 1) hk
  have := rowMix_c (L := L) (M := M) c (ks.map cqs) Y.length h.cn (by
    intro r hr
    obtain ⟨x, hx, rfl⟩ := List.mem_map.1 hr
    exact cqs_oks (h.kn x hx)) h1 m1 (by rw [h.lc]; omega) (by omega) h.lY (by rw [h.lc]; omega) (by rw [List.length_map, h.lc]) (by
    intro r hr
    obtain ⟨x, hx, rfl⟩ := List.mem_map.1 hr
    rw [cqs_len, h.len x hx])
  rw [frss_cqs, valss_cqs, List.length_map] at this
  exact this
theorem sclCall {H : RF} {Y : List RF} {c : List RF} {ks : List (List Rat)} (h : mkOk L M H Y c ks) (h1 : 1 ≤ L) (m1 : 1 ≤ M) (hL : L < 2 ^ 20) (hM : M < 2 ^ 20) :
    CN 77 [fav H, .d (fqs (mixk (vals c) ks Y.length ks.length))] [] (.d (fqs (twd H.val (vals c) ks Y.length))) [] := by
  have hk := h.lk
  have hm := Nat.mul_le_mul_right (L + M + 1) hk
  have hlen := mixk_len (c := vals c) h.len _ (Nat.le_refl _)
  have := h.lY
  have hs := rowScale_c (L := 1 + ks.length * (L + M + 1)) H (cqs (mixk (vals c) ks Y.length ks.length)) h.H (cqs_oks (mixk_nw (vals_nw h.cn h1) h.kn (by rw [vals_len, h.lc]) _ (Nat.le_refl _))) (by omega) (by omega) h1 (by omega) (by rw [cqs_len, hlen]; omega)
  rw [cqs_scl] at hs
  exact hs
set_option maxHeartbeats 4000000 in
set_option maxRecDepth 10000 in
theorem mkToward_c (p : Pr) (T H : RF) (Y : List RF) (nx er : Option D) (s q lim : Int) (l1 l2 : Bool) (ys ks : List (List Rat)) (k : Nat) (c : List RF) (h : mkOk L M H Y c ks) (hk : ks.length = k) (h1 : 1 ≤ L) (m1 : 1 ≤ M) (hL : L < 2 ^ 20) (hM : M < 2 ^ 20) :
    CN 51 [.addr 33 0, .d (frs c)] (mkM p T H Y (lv nx) (lv er) s q lim l1 l2 ys ks k) (.d (fqs (twd H.val (vals c) ks Y.length))) (mkM p T H Y (lv nx) (lv er) s q lim l1 true ys ks k) := by
  have hm := mixCall h h1 m1 hL hM
  have hs := sclCall h h1 m1 hL hM
  have eY := frsLen Y
  rw [← eY] at hm
  rcases k with _ | k
  · have e0 : ks = [] := List.length_eq_zero_iff.1 hk
    subst e0
    rcases nx with _ | nx <;> rcases er with _ | er
    all_goals
      refine conF_of Go.Proofs.Tryz.func51 rfl (by kernel_rfl) ⟨rfl, rfl, trivial⟩ (Nat.le_of_ble_eq_true rfl) ?_
      refine .by _ ⟨hm, ?_⟩
      rw [eY]
      refine .by _ ⟨hs, ?_⟩
      exact ⟨⟨rfl, rfl, trivial⟩, rfl⟩
  · have lq : (qD ks).length = k + 1 := by rw [qD, List.length_map, hk]
    rcases nx with _ | nx <;> rcases er with _ | er
    all_goals
      refine conF_of Go.Proofs.Tryz.func51 rfl (by kernel_rfl) ⟨rfl, rfl, rfl, rfl, trivial⟩ (Nat.le_of_ble_eq_true rfl) ?_
      refine .by _ (.of ⟨lq, rfl⟩ ⟨hm, ?_⟩)
      rw [eY]
      refine .by _ ⟨hs, ?_⟩
      exact ⟨⟨rfl, rfl, rfl, rfl, trivial⟩, rfl⟩
end
end Go.KM
end
section
/- Contracts: a step's maker (3). -/
namespace Go.KM
open Go RN
section
variable {L M : Nat}
/-- The state, and h times a mixture of rows. -/
def frmS (H : RF) (Y c : List RF) (ks : List (List Rat)) : List Rat := sums (vals Y) (twd H.val (vals c) ks Y.length)
theorem addCall {H : RF} {Y : List RF} {c : List RF} {ks : List (List Rat)} (h : mkOk L M H Y c ks) (hY : oks L Y) (h1 : 1 ≤ L) (m1 : 1 ≤ M) (hL : L < 2 ^ 20) (hM : M < 2 ^ 20) :
    CN 73 [.d (.sl [[frs Y], [fqs (twd H.val (vals c) ks Y.length)]])] [] (.tup [.d (fqs (frmS H Y c ks)), .d (.bool true)]) [] := by
  have hk := h.lk
  have hm := Nat.mul_le_mul_right (L + M + 1) hk
  have lY := h.lY
  have hH := nw_val h.H h1
  have := rowAdd_c (L := L) (M := nw H.val + (1 + ks.length * (L + M + 1))) Y (cqs (twd H.val (vals c) ks Y.length)) hY (cqs_oks (twd_nw (vals_nw h.cn h1) h.kn (by rw [vals_len, h.lc]))) h1 (by omega) (by omega) (by omega) (by omega) (by rw [cqs_len, twd_len h.len])
  rw [vals_cqs] at this
  exact this
set_option maxHeartbeats 4000000 in
set_option maxRecDepth 10000 in
theorem mkFrom_c (p : Pr) (T H : RF) (Y : List RF) (nx er : Option D) (s q lim : Int) (l1 l2 : Bool) (ys ks : List (List Rat)) (k : Nat) (c : List RF) (h : mkOk L M H Y c ks) (hY : oks L Y) (hk : ks.length = k) (h1 : 1 ≤ L) (m1 : 1 ≤ M) (hL : L < 2 ^ 20) (hM : M < 2 ^ 20) :
    CN 48 [.addr 33 0, .d (frs c)] (mkM p T H Y (lv nx) (lv er) s q lim l1 l2 ys ks k) (.d (fqs (frmS H Y c ks))) (mkM p T H Y (lv nx) (lv er) s q lim l1 true ys ks k) := by
  have ha := addCall h hY h1 m1 hL hM
  have ht := mkToward_c p T H Y nx er s q lim l1 l2 ys ks k c h hk h1 m1 hL hM
  rcases k with _ | k
  · rcases nx with _ | nx <;> rcases er with _ | er
    all_goals
      refine conF_of Go.Proofs.Tryz.func48 rfl (by kernel_rfl) ⟨rfl, rfl, trivial⟩ (Nat.le_of_ble_eq_true rfl) ?_
      refine .sameC ht [] ⟨rfl, rfl, trivial⟩ rfl rfl (by simp [mkM, ids]) ⟨.inr ⟨rfl, rfl⟩, .inr ⟨rfl, rfl⟩, trivial⟩ (fun _ h => by cases h) .nil ⟨rfl, ?_⟩
      refine .by _ (.of ⟨rfl, rfl⟩ ⟨ha, ?_⟩)
      exact ⟨⟨rfl, rfl, trivial⟩, rfl⟩
  · rcases nx with _ | nx <;> rcases er with _ | er
    all_goals
      refine conF_of Go.Proofs.Tryz.func48 rfl (by kernel_rfl) ⟨rfl, rfl, rfl, rfl, trivial⟩ (Nat.le_of_ble_eq_true rfl) ?_
      refine .sameC ht [(88, .row 1 (qD ks) true)] ⟨rfl, rfl, rfl, rfl, trivial⟩ rfl rfl (by simp [mkM, ids]) ⟨.inr ⟨rfl, rfl⟩, .inr ⟨rfl, rfl⟩, .inr ⟨rfl, rfl⟩, .inl rfl, trivial⟩ (by simp [mkM, ids]) (by simp [ids]) ⟨rfl, ?_⟩
      refine .by _ (.of ⟨rfl, rfl⟩ ⟨ha, ?_⟩)
      exact ⟨⟨rfl, rfl, rfl, rfl, trivial⟩, rfl⟩
end
end Go.KM
end
section
/- Contracts: a step's maker: a stage. -/
namespace Go.KM
open Go RN
section
variable {L M : Nat}
/-- When a stage is. -/
def momS (p : Pr) (T H : RF) (k : Nat) : Rat := T.val + H.val * (p.sc.c.getD k ⟨false, [], []⟩).val
/-- The state of a stage. -/
def stY (p : Pr) (H : RF) (Y : List RF) (ks : List (List Rat)) (k : Nat) : List Rat := frmS H Y (p.sc.a.getD k []) ks
/-- What the tape gives there. -/
def stR (p : Pr) (T H : RF) (Y : List RF) (ks : List (List Rat)) (k : Nat) : RunR := tapeS p.tp (cq (momS p T H k)) (cqs (stY p H Y ks k)) p.P p.bits
/-- What a stage needs. -/
structure stOk (L : Nat) (p : Pr) (T H : RF) (Y : List RF) (ks : List (List Rat)) (k : Nat) : Prop where
  pk : prOk L p
  Tk : T.ok L
  Hk : H.ok L
  Yk : oks L Y
  lY : Y.length ≤ 300
  kn : ∀ r ∈ ks, ∀ q ∈ r, nw q ≤ 129
  len : ∀ r ∈ ks, r.length = Y.length
  lk : ks.length = k
  k8 : k < 8
  ka : k < p.sc.a.length
  kc : k < p.sc.c.length
  row : p.sc.a[k].length = k
theorem rf_getD {l : List RF} {k : Nat} (h : k < l.length) {d : RF} : l.getD k d = l[k] := by
  rw [List.getD_eq_getElem?_getD, List.getElem?_eq_getElem h]; rfl
theorem stOk.mk' {p : Pr} {T H : RF} {Y : List RF} {ks : List (List Rat)} {k : Nat} (h : stOk L p T H Y ks k) : mkOk L 129 H Y (p.sc.a.getD k []) ks := by
  have ha := h.ka
  rw [a_getD ha]
  exact ⟨h.pk.sc.a _ (List.getElem_mem ha), h.Hk, h.kn, h.len, h.lY, by rw [h.row, h.lk], by have := h.lk; have := h.k8; omega⟩
theorem stY_nw {p : Pr} {T H : RF} {Y : List RF} {ks : List (List Rat)} {k : Nat} (h : stOk L p T H Y ks k) (h1 : 1 ≤ L) (hL : L < 2 ^ 20) : ∀ q ∈ stY p H Y ks k, nw q ≤ 2 ^ 26 := by
  intro q hq
  have hm := h.mk'
  unfold stY frmS sums at hq
  obtain ⟨i, hi, rfl⟩ := List.mem_iff_getElem.1 hq
  rw [List.getElem_zipWith]
  have l1 : i < (vals Y).length := by rw [List.length_zipWith] at hi; omega
  have l2 : i < (twd H.val (vals (p.sc.a.getD k [])) ks Y.length).length := by rw [List.length_zipWith] at hi; omega
  have n1 := vals_nw h.Yk h1 _ (List.getElem_mem l1)
  have n2 := twd_nw (vals_nw hm.cn h1) hm.kn (by rw [vals_len, hm.lc]) _ (List.getElem_mem l2)
  have n3 := nw_add ((vals Y)[i]'l1) ((twd H.val (vals (p.sc.a.getD k [])) ks Y.length)[i]'l2)
  have n4 := nw_val h.Hk h1
  have n5 := Nat.mul_le_mul_right (L + 129 + 1) hm.lk
  omega
theorem stY_len {p : Pr} {T H : RF} {Y : List RF} {ks : List (List Rat)} {k : Nat} (h : stOk L p T H Y ks k) : (stY p H Y ks k).length = Y.length := by
  have hm := h.mk'
  unfold stY frmS
  rw [sums_len (by rw [vals_len, twd_len hm.len]), vals_len]
set_option maxHeartbeats 4000000 in
set_option maxRecDepth 10000 in
theorem mkStage_bits (p : Pr) (T H : RF) (Y : List RF) (s q lim : Int) (l1 l2 : Bool) (ys ks : List (List Rat)) (k : Nat) (h : stOk L p T H Y ks k) (h1 : 129 ≤ L) (hL : L < 2 ^ 20) (r : Nat)
    (hr : ∃ h : r < (cqs (stY p H Y ks k)).length, ¬ (rsz (cqs (stY p H Y ks k))[r] : Int) ≤ lim ∧ ∀ i (h : i < r), (rsz (cqs (stY p H Y ks k))[i] : Int) ≤ lim) :
    CN 47 [.addr 33 0, i64 k] (mkM p T H Y .nils .nils s q lim l1 l2 ys ks k) (flt 6 k (300 + r)) (mkM p T H Y .nils .nils (gSk s (r + 1)) (gPk q (cqs (stY p H Y ks k)) (r + 1)) lim l1 true ys ks k) := by
  have hm := h.mk'
  have hY := stY_nw h (by omega) hL
  have lY := stY_len h
  have lY3 := h.lY
  have hf := mkFrom_c p T H Y none none s q lim l1 l2 ys ks k (p.sc.a.getD k []) hm h.Yk h.lk (by omega) (by decide) hL (by decide)
  have hg := mkFits_c (L := 2 ^ 26) p T H Y none none s q lim l1 true ys ks k (cqs (stY p H Y ks k)) k (cqs_oks hY) (by decide) (by rw [cqs_len]; omega) (r + 1) false r (.inr ⟨rfl, rfl, hr⟩)
  rw [show frmS H Y (p.sc.a.getD k []) ks = stY p H Y ks k from rfl, a_getD h.ka] at hf
  have ha := frss_getI (l := p.sc.a) (k := (k : Int)) rfl h.ka
  clear hr
  generalize stY p H Y ks k = y at *
  rcases k with _ | k
  · refine conF_of Go.Proofs.Tryz.func47 rfl (by kernel_rfl) ⟨rfl, rfl, trivial⟩ (Nat.le_of_ble_eq_true rfl) ?_
    refine .mk (by omega) ⟨_, ha, ?_⟩
    refine .sameC hf [] ⟨rfl, rfl, trivial⟩ rfl rfl (by simp [mkM, ids]) ⟨.inr ⟨rfl, rfl⟩, .inr ⟨rfl, rfl⟩, trivial⟩ (fun _ h => by cases h) .nil ⟨rfl, ?_⟩
    refine .sameC hg [(1, .box (gc (gSk s (r + 1)) (gPk q (cqs y) (r + 1)) lim))] ⟨rfl, rfl, trivial⟩ rfl rfl (by simp [mkM, ids]) ⟨.inr ⟨rfl, rfl⟩, .inl rfl, trivial⟩ (by simp [mkM, ids]) (by simp [ids]) ⟨rfl, ?_⟩
    refine .yes rfl ?_
    exact ⟨⟨rfl, rfl, trivial⟩, rfl⟩
  · refine conF_of Go.Proofs.Tryz.func47 rfl (by kernel_rfl) ⟨rfl, rfl, rfl, rfl, trivial⟩ (Nat.le_of_ble_eq_true rfl) ?_
    refine .mk (by omega) ⟨_, ha, ?_⟩
    refine .sameC hf [(88, .row 1 (qD ks) true)] ⟨rfl, rfl, rfl, rfl, trivial⟩ rfl rfl (by simp [mkM, ids]) ⟨.inr ⟨rfl, rfl⟩, .inr ⟨rfl, rfl⟩, .inr ⟨rfl, rfl⟩, .inl rfl, trivial⟩ (by simp [mkM, ids]) (by simp [ids]) ⟨rfl, ?_⟩
    refine .sameC hg [(1, .box (gc (gSk s (r + 1)) (gPk q (cqs y) (r + 1)) lim))] ⟨rfl, rfl, rfl, rfl, trivial⟩ rfl rfl (by simp [mkM, ids]) ⟨.inr ⟨rfl, rfl⟩, .inl rfl, .inr ⟨rfl, rfl⟩, .inr ⟨rfl, rfl⟩, trivial⟩ (by simp [mkM, ids]) (by simp [ids]) ⟨rfl, ?_⟩
    refine .yes rfl ?_
    exact ⟨⟨rfl, rfl, rfl, rfl, trivial⟩, rfl⟩
end
end Go.KM
end
section
/- Contracts: a step's maker: a stage (2). -/
namespace Go.KM
open Go RN
section
variable {L M : Nat}
theorem qD_app (l : List (List Rat)) (y : List Rat) : qD (l ++ [y]) = qD l ++ [[fqs y]] := by
  unfold qD; rw [List.map_append]; rfl
theorem qD_len (l : List (List Rat)) : (qD l).length = l.length := by unfold qD; rw [List.length_map]
theorem one1 {x : D} : ∀ z ∈ [[x]], z.length = 1 := by
  intro z hz; rw [List.mem_singleton.1 hz]; rfl
/-- The slopes of a stage. -/
def stK (p : Pr) (T H : RF) (Y : List RF) (ks : List (List Rat)) (k : Nat) : List Rat := fieldD p.tp (cq (momS p T H k)) (cqs (stY p H Y ks k)) p.P p.bits
theorem momCall {p : Pr} {T H : RF} {Y : List RF} {ks : List (List Rat)} {k : Nat} (h : stOk L p T H Y ks k) (h1 : 129 ≤ L) (hL : L < 2 ^ 20) : CN 72 [prA p, fav T, fav H, i64 k] [] (fq (momS p T H k)) [] := by
  have := h.k8
  have hm := stMoment_c p T H k h.pk h.Tk h.Hk (by omega) hL h.kc (by omega)
  unfold momS
  rw [rf_getD h.kc]
  exact hm
theorem fieldCall {p : Pr} {T H : RF} {Y : List RF} {ks : List (List Rat)} {k : Nat} (h : stOk L p T H Y ks k) (h1 : 129 ≤ L) (hL : L < 2 ^ 20) :
    CN 36 [tpA p.tp, ptA (cq (momS p T H k)) (cqs (stY p H Y ks k)) p.P, i64 p.bits] [] (.tup [.d (fqs (stK p T H Y ks k)), flt (stR p T H Y ks k).k 0 (stR p T H Y ks k).at_]) [] := by
  have hY := stY_nw h (by omega) hL
  have lY := stY_len h
  have lY3 := h.lY
  have hmo : nw (momS p T H k) ≤ 2 ^ 26 := by
    have kc := h.kc
    unfold momS
    rw [rf_getD h.kc]
    have n1 := nw_add T.val (H.val * p.sc.c[k].val)
    have n2 := nw_mul H.val p.sc.c[k].val
    have n3 := nw_val h.Tk (by omega)
    have n4 := nw_val h.Hk (by omega)
    have n5 := nw_val (oks_get h.pk.sc.c h.kc) (by omega)
    omega
  exact runField_c (L := 2 ^ 26) p.tp (cq (momS p T H k)) (cqs (stY p H Y ks k)) p.P p.bits ((cq_ok _).mono hmo) (cqs_oks hY) (fun x hx => (h.pk.P x hx).mono (by omega)) (by decide) (by decide) (by rw [cqs_len]; omega) h.pk.lP (fun x hx => (h.pk.code x hx).mono (by omega)) h.pk.lc h.pk.lo
set_option maxHeartbeats 4000000 in
set_option maxRecDepth 10000 in
theorem mkStage_fault (p : Pr) (T H : RF) (Y : List RF) (s q lim : Int) (l1 l2 : Bool) (ys ks : List (List Rat)) (k : Nat) (h : stOk L p T H Y ks k) (h1 : 129 ≤ L) (hL : L < 2 ^ 20) (n : Nat) (hn : n = (cqs (stY p H Y ks k)).length)
    (hr : ∀ i (h : i < (cqs (stY p H Y ks k)).length), (rsz (cqs (stY p H Y ks k))[i] : Int) ≤ lim) (hk : (stR p T H Y ks k).k ≠ 0) :
    CN 47 [.addr 33 0, i64 k] (mkM p T H Y .nils .nils s q lim l1 l2 ys ks k) (flt (stR p T H Y ks k).k k (stR p T H Y ks k).at_) (mkM p T H Y .nils .nils (gSk s n) (gPk q (cqs (stY p H Y ks k)) n) lim l1 true ys ks k) := by
  have hm := h.mk'
  have hY := stY_nw h (by omega) hL
  have lY := stY_len h
  have lY3 := h.lY
  have hf := mkFrom_c p T H Y none none s q lim l1 l2 ys ks k (p.sc.a.getD k []) hm h.Yk h.lk (by omega) (by decide) hL (by decide)
  have hg := mkFits_c (L := 2 ^ 26) p T H Y none none s q lim l1 true ys ks k (cqs (stY p H Y ks k)) k (cqs_oks hY) (by decide) (by rw [cqs_len]; omega) n true n (.inl ⟨rfl, hn, hn, hr⟩)
  have hmo := momCall h h1 hL
  have hfi := fieldCall h h1 hL
  rw [show frmS H Y (p.sc.a.getD k []) ks = stY p H Y ks k from rfl, a_getD h.ka] at hf
  have ha := frss_getI (l := p.sc.a) (k := (k : Int)) rfl h.ka
  clear hr hn
  generalize stY p H Y ks k = y at *
  generalize stR p T H Y ks k = R at *
  generalize stK p T H Y ks k = kd at *
  generalize momS p T H k = mo at *
  have hne : (!(R.k == 0 && (true && (true && (R.at_ == 0 && true))))) = true := by
    rw [show (R.k == 0) = false from beq_eq_false_iff_ne.2 hk]; rfl
  rcases k with _ | k
  · refine conF_of Go.Proofs.Tryz.func47 rfl (by kernel_rfl) ⟨rfl, rfl, trivial⟩ (Nat.le_of_ble_eq_true rfl) ?_
    refine .mk (by omega) ⟨_, ha, ?_⟩
    refine .sameC hf [] ⟨rfl, rfl, trivial⟩ rfl rfl (by simp [mkM, ids]) ⟨.inr ⟨rfl, rfl⟩, .inr ⟨rfl, rfl⟩, trivial⟩ (fun _ h => by cases h) .nil ⟨rfl, ?_⟩
    refine .sameC hg [(1, .box (gc (gSk s n) (gPk q (cqs y) n) lim))] ⟨rfl, rfl, trivial⟩ rfl rfl (by simp [mkM, ids]) ⟨.inr ⟨rfl, rfl⟩, .inl rfl, trivial⟩ (by simp [mkM, ids]) (by simp [ids]) ⟨rfl, ?_⟩
    refine .no rfl ?_
    refine .by _ ⟨hmo, ?_⟩
    refine .by _ ⟨stAt_c p (cq mo) (cqs y), ?_⟩
    refine .by _ ⟨hfi, ?_⟩
    refine .yes hne ?_
    exact ⟨⟨rfl, rfl, trivial⟩, rfl⟩
  · refine conF_of Go.Proofs.Tryz.func47 rfl (by kernel_rfl) ⟨rfl, rfl, rfl, rfl, trivial⟩ (Nat.le_of_ble_eq_true rfl) ?_
    refine .mk (by omega) ⟨_, ha, ?_⟩
    refine .sameC hf [(88, .row 1 (qD ks) true)] ⟨rfl, rfl, rfl, rfl, trivial⟩ rfl rfl (by simp [mkM, ids]) ⟨.inr ⟨rfl, rfl⟩, .inr ⟨rfl, rfl⟩, .inr ⟨rfl, rfl⟩, .inl rfl, trivial⟩ (by simp [mkM, ids]) (by simp [ids]) ⟨rfl, ?_⟩
    refine .sameC hg [(1, .box (gc (gSk s n) (gPk q (cqs y) n) lim))] ⟨rfl, rfl, rfl, rfl, trivial⟩ rfl rfl (by simp [mkM, ids]) ⟨.inr ⟨rfl, rfl⟩, .inl rfl, .inr ⟨rfl, rfl⟩, .inr ⟨rfl, rfl⟩, trivial⟩ (by simp [mkM, ids]) (by simp [ids]) ⟨rfl, ?_⟩
    refine .no rfl ?_
    refine .by _ ⟨hmo, ?_⟩
    refine .by _ ⟨stAt_c p (cq mo) (cqs y), ?_⟩
    refine .by _ ⟨hfi, ?_⟩
    refine .yes hne ?_
    exact ⟨⟨rfl, rfl, rfl, rfl, trivial⟩, rfl⟩
set_option maxHeartbeats 4000000 in
set_option maxRecDepth 10000 in
theorem mkStage_ok0 (p : Pr) (T H : RF) (Y : List RF) (s q lim : Int) (l1 l2 : Bool) (h : stOk L p T H Y [] 0) (h1 : 129 ≤ L) (hL : L < 2 ^ 20) (n : Nat) (hn : n = (cqs (stY p H Y [] 0)).length)
    (hr : ∀ i (h : i < (cqs (stY p H Y [] 0)).length), (rsz (cqs (stY p H Y [] 0))[i] : Int) ≤ lim) (hk : (stR p T H Y [] 0).k = 0) :
    CN 47 [.addr 33 0, i64 0] (mkM p T H Y .nils .nils s q lim l1 l2 [] [] 0) (flt 0 0 0)
      [(33, .box (mkC p T H Y (.own 76 1 1) (.own 88 1 1) .nils .nils)), (1, .box (gc (gSk s n) (gPk q (cqs (stY p H Y [] 0)) n) lim)), (76, .row 1 (qD [stY p H Y [] 0]) false), (88, .row 1 (qD [stK p T H Y [] 0]) false)] := by
  have hm := h.mk'
  have hY := stY_nw h (by omega) hL
  have lY := stY_len h
  have lY3 := h.lY
  have hf := mkFrom_c p T H Y none none s q lim l1 l2 [] [] 0 (p.sc.a.getD 0 []) hm h.Yk h.lk (by omega) (by decide) hL (by decide)
  have hg := mkFits_c (L := 2 ^ 26) p T H Y none none s q lim l1 true [] [] 0 (cqs (stY p H Y [] 0)) 0 (cqs_oks hY) (by decide) (by rw [cqs_len]; omega) n true n (.inl ⟨rfl, hn, hn, hr⟩)
  have hmo := momCall h h1 hL
  have hfi := fieldCall h h1 hL
  rw [show frmS H Y (p.sc.a.getD 0 []) [] = stY p H Y [] 0 from rfl, a_getD h.ka] at hf
  have ha := frss_getI (l := p.sc.a) (k := ((0 : Nat) : Int)) rfl h.ka
  have hat : (stR p T H Y [] 0).at_ = 0 := tapeS_at hk
  clear hr hn
  generalize stY p H Y [] 0 = y at *
  generalize stR p T H Y [] 0 = R at *
  generalize stK p T H Y [] 0 = kd at *
  generalize momS p T H 0 = mo at *
  have hne : (!(R.k == 0 && (true && (true && (R.at_ == 0 && true))))) = false := by rw [hk, hat]; rfl
  refine conF_of Go.Proofs.Tryz.func47 rfl (by kernel_rfl) ⟨rfl, rfl, trivial⟩ (Nat.le_of_ble_eq_true rfl) ?_
  refine .mk (by omega) ⟨_, ha, ?_⟩
  refine .sameC hf [] ⟨rfl, rfl, trivial⟩ rfl rfl (by simp [mkM, ids]) ⟨.inr ⟨rfl, rfl⟩, .inr ⟨rfl, rfl⟩, trivial⟩ (fun _ h => by cases h) .nil ⟨rfl, ?_⟩
  refine .sameC hg [(1, .box (gc (gSk s n) (gPk q (cqs y) n) lim))] ⟨rfl, rfl, trivial⟩ rfl rfl (by simp [mkM, ids]) ⟨.inr ⟨rfl, rfl⟩, .inl rfl, trivial⟩ (by simp [mkM, ids]) (by simp [ids]) ⟨rfl, ?_⟩
  refine .no rfl ?_
  refine .by _ ⟨hmo, ?_⟩
  refine .by _ ⟨stAt_c p (cq mo) (cqs y), ?_⟩
  refine .by _ ⟨hfi, ?_⟩
  refine .no hne ?_
  refine .of rfl (.of ⟨Nat.zero_lt_one, (by decide : (1 : Nat) * 24 ≤ 140737488355328), (by decide : (1 : Nat) ≤ 140737488355328), one1⟩ ?_)
  refine .of rfl (.of ⟨Nat.zero_lt_one, (by decide : (1 : Nat) * 24 ≤ 140737488355328), (by decide : (1 : Nat) ≤ 140737488355328), one1⟩ ?_)
  refine ⟨⟨rfl, rfl, rfl, rfl, trivial⟩, ?_⟩
  show AV.agg [i64 R.k, i64 0, i64 0, i64 R.at_] = flt 0 0 0
  rw [hk, hat]
  rfl
set_option maxHeartbeats 4000000 in
set_option maxRecDepth 10000 in
theorem mkStage_ok (p : Pr) (T H : RF) (Y : List RF) (s q lim : Int) (l1 l2 : Bool) (ys ks : List (List Rat)) (k : Nat) (hys : ys.length = k + 1) (h : stOk L p T H Y ks (k + 1)) (h1 : 129 ≤ L) (hL : L < 2 ^ 20) (n : Nat) (hn : n = (cqs (stY p H Y ks (k + 1))).length)
    (hr : ∀ i (h : i < (cqs (stY p H Y ks (k + 1))).length), (rsz (cqs (stY p H Y ks (k + 1)))[i] : Int) ≤ lim) (hk : (stR p T H Y ks (k + 1)).k = 0) :
    CN 47 [.addr 33 0, i64 ((k + 1 : Nat) : Int)] (mkM p T H Y .nils .nils s q lim l1 l2 ys ks (k + 1)) (flt 0 0 0)
      (mkM p T H Y .nils .nils (gSk s n) (gPk q (cqs (stY p H Y ks (k + 1))) n) lim l1 true (ys ++ [stY p H Y ks (k + 1)]) (ks ++ [stK p T H Y ks (k + 1)]) (k + 2)) := by
  have hm := h.mk'
  have hY := stY_nw h (by omega) hL
  have lY := stY_len h
  have lY3 := h.lY
  have k8 := h.k8
  have hf := mkFrom_c p T H Y none none s q lim l1 l2 ys ks (k + 1) (p.sc.a.getD (k + 1) []) hm h.Yk h.lk (by omega) (by decide) hL (by decide)
  have hg := mkFits_c (L := 2 ^ 26) p T H Y none none s q lim l1 true ys ks (k + 1) (cqs (stY p H Y ks (k + 1))) ((k + 1 : Nat) : Int) (cqs_oks hY) (by decide) (by rw [cqs_len]; omega) n true n (.inl ⟨rfl, hn, hn, hr⟩)
  have hmo := momCall h h1 hL
  have hfi := fieldCall h h1 hL
  rw [show frmS H Y (p.sc.a.getD (k + 1) []) ks = stY p H Y ks (k + 1) from rfl, a_getD h.ka] at hf
  have ha := frss_getI (l := p.sc.a) (k := ((k + 1 : Nat) : Int)) rfl h.ka
  have hat : (stR p T H Y ks (k + 1)).at_ = 0 := tapeS_at hk
  have lky : (qD ys).length = k + 1 := by rw [qD_len, hys]
  have lkk : (qD ks).length = k + 1 := by rw [qD_len, h.lk]
  clear hr hn
  generalize stY p H Y ks (k + 1) = y at *
  generalize stR p T H Y ks (k + 1) = R at *
  generalize stK p T H Y ks (k + 1) = kd at *
  generalize momS p T H (k + 1) = mo at *
  have hne : (!(R.k == 0 && (true && (true && (R.at_ == 0 && true))))) = false := by rw [hk, hat]; rfl
  refine conF_of Go.Proofs.Tryz.func47 rfl (by kernel_rfl) ⟨rfl, rfl, rfl, rfl, trivial⟩ (Nat.le_of_ble_eq_true rfl) ?_
  refine .mk (by omega) ⟨_, ha, ?_⟩
  refine .sameC hf [(88, .row 1 (qD ks) true)] ⟨rfl, rfl, rfl, rfl, trivial⟩ rfl rfl (by simp [mkM, ids]) ⟨.inr ⟨rfl, rfl⟩, .inr ⟨rfl, rfl⟩, .inr ⟨rfl, rfl⟩, .inl rfl, trivial⟩ (by simp [mkM, ids]) (by simp [ids]) ⟨rfl, ?_⟩
  refine .sameC hg [(1, .box (gc (gSk s n) (gPk q (cqs y) n) lim))] ⟨rfl, rfl, rfl, rfl, trivial⟩ rfl rfl (by simp [mkM, ids]) ⟨.inr ⟨rfl, rfl⟩, .inl rfl, .inr ⟨rfl, rfl⟩, .inr ⟨rfl, rfl⟩, trivial⟩ (by simp [mkM, ids]) (by simp [ids]) ⟨rfl, ?_⟩
  refine .no rfl ?_
  refine .by _ ⟨hmo, ?_⟩
  refine .by _ ⟨stAt_c p (cq mo) (cqs y), ?_⟩
  refine .by _ ⟨hfi, ?_⟩
  refine .no hne ?_
  refine .of rfl (.of ⟨lky, rfl, rfl, ?_, ?_, one1⟩ ?_)
  · show (k + 1 + 1) * 24 ≤ _; omega
  · show k + 1 + 1 ≤ _; omega
  refine .of rfl (.of ⟨lkk, rfl, rfl, ?_, ?_, one1⟩ ?_)
  · show (k + 1 + 1) * 24 ≤ _; omega
  · show k + 1 + 1 ≤ _; omega
  refine ⟨⟨rfl, rfl, ?_, ?_, trivial⟩, ?_⟩
  · rw [qD_app]; rfl
  · rw [qD_app]; rfl
  show AV.agg [i64 R.k, i64 0, i64 0, i64 R.at_] = flt 0 0 0
  rw [hk, hat]
  rfl
end
end Go.KM
end
section
/- Contracts: a step's maker: all stages, and what comes of them (1): laws. -/
namespace Go.KM
open Go RN
/-- The first of a row that is too long. -/
def fitK (lim : Int) (l : List RF) : Option Nat := (List.range l.length).find? fun i => !decide ((rsz (l.getD i ⟨false, [], []⟩) : Int) ≤ lim)
theorem fitK_some {lim : Int} {l : List RF} {r : Nat} (h : fitK lim l = some r) : ∃ h : r < l.length, ¬ (rsz l[r] : Int) ≤ lim ∧ ∀ i (h : i < r), (rsz l[i] : Int) ≤ lim := by
  unfold fitK at h
  rw [List.find?_range_eq_some] at h
  obtain ⟨h1, h2, h3⟩ := h
  have hr : r < l.length := by simpa using h2
  refine ⟨hr, ?_, fun i hi => ?_⟩
  · rw [rf_getD hr] at h1
    simpa using h1
  · have := h3 i hi
    rw [rf_getD (by omega)] at this
    simpa using this
theorem fitK_none {lim : Int} {l : List RF} (h : fitK lim l = none) : ∀ i (h : i < l.length), (rsz l[i] : Int) ≤ lim := by
  intro i hi
  unfold fitK at h
  rw [List.find?_eq_none] at h
  have := h i (List.mem_range.2 hi)
  rw [rf_getD hi] at this
  simpa using this
structure AllR where
  fk : Int
  fs : Int
  fa : Int
  k : Nat
  ys : List (List Rat)
  ks : List (List Rat)
  s : Int
  q : Int
  nx : Option D
  er : Option D
section
variable (p : Pr) (T H : RF) (Y : List RF) (lim : Int)
/-- Where the step leads. -/
def nxS (ks : List (List Rat)) : List Rat := frmS H Y p.sc.b ks
/-- The estimate of its error. -/
def erS (ks : List (List Rat)) : List Rat := twd H.val (gapS p.sc) ks Y.length
/-- Behind the stages. -/
def tailG (k : Nat) (ys ks : List (List Rat)) (s q : Int) : AllR :=
  match fitK lim (cqs (nxS p H Y ks)) with
  | some r => ⟨6, p.sc.b.length, 300 + r, k, ys, ks, gSk s (r + 1), gPk q (cqs (nxS p H Y ks)) (r + 1), some (fqs (nxS p H Y ks)), none⟩
  | none =>
    let s1 := gSk s (nxS p H Y ks).length
    let q1 := gPk q (cqs (nxS p H Y ks)) (nxS p H Y ks).length
    let er := if (gapS p.sc).length = 0 then [] else erS p H Y ks
    let eo := if (gapS p.sc).length = 0 then none else some (fqs (erS p H Y ks))
    match fitK lim (cqs er) with
    | some r => ⟨6, p.sc.b.length + 1, 300 + r, k, ys, ks, gSk s1 (r + 1), gPk q1 (cqs er) (r + 1), some (fqs (nxS p H Y ks)), eo⟩
    | none => ⟨0, 0, 0, k, ys, ks, gSk s1 er.length, gPk q1 (cqs er) er.length, some (fqs (nxS p H Y ks)), eo⟩
/-- The stages from a place on, and what comes of them. -/
def allG : Nat → Nat → List (List Rat) → List (List Rat) → Int → Int → AllR
  | 0, k, ys, ks, s, q => tailG p H Y lim k ys ks s q
  | m + 1, k, ys, ks, s, q => match fitK lim (cqs (stY p H Y ks k)) with
    | some r => ⟨6, k, 300 + r, k, ys, ks, gSk s (r + 1), gPk q (cqs (stY p H Y ks k)) (r + 1), none, none⟩
    | none => if (stR p T H Y ks k).k = 0
      then allG m (k + 1) (ys ++ [stY p H Y ks k]) (ks ++ [stK p T H Y ks k]) (gSk s (cqs (stY p H Y ks k)).length) (gPk q (cqs (stY p H Y ks k)) (cqs (stY p H Y ks k)).length)
      else ⟨(stR p T H Y ks k).k, k, (stR p T H Y ks k).at_, k, ys, ks, gSk s (cqs (stY p H Y ks k)).length, gPk q (cqs (stY p H Y ks k)) (cqs (stY p H Y ks k)).length, none, none⟩
end
end Go.KM
end
section
/- Contracts: a step's maker: all stages, and what comes of them (2): the walk. -/
namespace Go.KM
open Go RN
/-- What a whole step needs. -/
structure alOk (L : Nat) (p : Pr) (T H : RF) (Y : List RF) : Prop where
  pk : prOk L p
  Tk : T.ok L
  Hk : H.ok L
  Yk : oks L Y
  lY : Y.length ≤ 300
  dim : p.tp.outs.length = Y.length
  sc : scW p.sc = 0
theorem outsS_nw {tp : Tp} {d : List Rat} (h : ∀ q ∈ d, nw q ≤ 129) : ∀ q ∈ outsS tp d, nw q ≤ 129 := by
  intro q hq
  obtain ⟨o, _, rfl⟩ := List.mem_map.1 hq
  exact getD_nw h (by decide)
theorem stK_nw {p : Pr} {T H : RF} {Y : List RF} {ks : List (List Rat)} {k : Nat} : ∀ q ∈ stK p T H Y ks k, nw q ≤ 129 := by
  intro q hq
  unfold stK fieldD at hq
  split at hq
  · exact outsS_nw tapeS_nw q hq
  · cases hq
theorem stK_len {p : Pr} {T H : RF} {Y : List RF} {ks : List (List Rat)} {k : Nat} (h : (stR p T H Y ks k).k = 0) : (stK p T H Y ks k).length = p.tp.outs.length := by
  unfold stR at h
  unfold stK fieldD
  rw [if_pos h, outsS, List.length_map]
section
variable {L : Nat}
theorem alOk.st {p : Pr} {T H : RF} {Y : List RF} (h : alOk L p T H Y) {ks : List (List Rat)} {k : Nat} (hk : k < p.sc.b.length) (hl : ks.length = k) (hn : ∀ r ∈ ks, ∀ q ∈ r, nw q ≤ 129) (hlen : ∀ r ∈ ks, r.length = Y.length) : stOk L p T H Y ks k := by
  obtain ⟨b1, b2, b3, b4, b5⟩ := scW_shape h.sc
  exact ⟨h.pk, h.Tk, h.Hk, h.Yk, h.lY, hn, hlen, hl, by omega, by omega, by omega, scW_row h.sc (by omega)⟩
theorem nxS_nw {p : Pr} {T H : RF} {Y : List RF} {ks : List (List Rat)} (h : alOk L p T H Y) (hm : mkOk L 129 H Y p.sc.b ks) (h1 : 1 ≤ L) (hL : L < 2 ^ 20) : ∀ q ∈ nxS p H Y ks, nw q ≤ 2 ^ 26 := by
  intro q hq
  unfold nxS frmS sums at hq
  obtain ⟨i, hi, rfl⟩ := List.mem_iff_getElem.1 hq
  rw [List.getElem_zipWith]
  have l1 : i < (vals Y).length := by rw [List.length_zipWith] at hi; omega
  have l2 : i < (twd H.val (vals p.sc.b) ks Y.length).length := by rw [List.length_zipWith] at hi; omega
  have n1 := vals_nw h.Yk h1 _ (List.getElem_mem l1)
  have n2 := twd_nw (vals_nw hm.cn h1) hm.kn (by rw [vals_len, hm.lc]) _ (List.getElem_mem l2)
  have n3 := nw_add ((vals Y)[i]'l1) ((twd H.val (vals p.sc.b) ks Y.length)[i]'l2)
  have n4 := nw_val h.Hk h1
  have n5 := Nat.mul_le_mul_right (L + 129 + 1) hm.lk
  omega
theorem nxS_len {p : Pr} {H : RF} {Y : List RF} {ks : List (List Rat)} (hm : mkOk L 129 H Y p.sc.b ks) : (nxS p H Y ks).length = Y.length := by
  unfold nxS frmS
  rw [sums_len (by rw [vals_len, twd_len hm.len]), vals_len]
theorem gap_ok {p : Pr} {T H : RF} {Y : List RF} {ks : List (List Rat)} (h : alOk L p T H Y) (hm : mkOk L 129 H Y p.sc.b ks) (h1 : 1 ≤ L) (g0 : (gapS p.sc).length ≠ 0) : mkOk (2 * L + 1) 129 H Y (cqs (gapS p.sc)) ks := by
  obtain ⟨b1, b2, b3, b4, b5⟩ := scW_shape h.sc
  have he : p.sc.e.length ≠ 0 := by
    intro e
    rw [gapS, if_pos e] at g0
    exact g0 rfl
  have hle : p.sc.e.length = p.sc.b.length := by omega
  have lg : (gapS p.sc).length = p.sc.b.length := by
    rw [gapS, if_neg he, sums_len (by rw [vals_len, List.length_map, vals_len, hle]), vals_len]
  have ng : ∀ q ∈ gapS p.sc, nw q ≤ 2 * L + 1 := by
    intro q hq
    rw [gapS, if_neg he] at hq
    unfold sums at hq
    obtain ⟨i, hi, rfl⟩ := List.mem_iff_getElem.1 hq
    rw [List.getElem_zipWith, List.getElem_map]
    have l1 : i < (vals p.sc.b).length := by rw [List.length_zipWith] at hi; omega
    have l2 : i < (vals p.sc.e).length := by rw [List.length_zipWith, List.length_map] at hi; omega
    · have n1 := vals_nw h.pk.sc.b h1 _ (List.getElem_mem l1)
      have n2 := vals_nw h.pk.sc.e h1 _ (List.getElem_mem l2)
      have n3 := nw_add ((vals p.sc.b)[i]'l1) (-((vals p.sc.e)[i]'l2))
      rw [nw_neg] at n3
      omega
  exact ⟨cqs_oks ng, hm.H.mono (by omega), hm.kn, hm.len, hm.lY, by rw [cqs_len, lg, hm.lc], hm.lk⟩
theorem erS_nw {p : Pr} {T H : RF} {Y : List RF} {ks : List (List Rat)} (h : alOk L p T H Y) (hm : mkOk (2 * L + 1) 129 H Y (cqs (gapS p.sc)) ks) (h1 : 1 ≤ L) (hL : L < 2 ^ 18) : ∀ q ∈ erS p H Y ks, nw q ≤ 2 ^ 26 := by
  intro q hq
  have hv := vals_nw hm.cn (by omega)
  rw [vals_cqs] at hv
  have hlc := hm.lc
  rw [cqs_len] at hlc
  have n2 := twd_nw hv hm.kn hlc q hq
  have n4 := nw_val h.Hk h1
  have n5 := Nat.mul_le_mul_right (2 * L + 1 + 129 + 1) hm.lk
  omega
def flt0 : List AV := [i64 0, i64 0, i64 0, i64 0]
def scC (s : Sc) : List AV := [.d (.str s.name), .d (frs s.c), .d (frss s.a), .d (frs s.b), .d (frs s.e)]
structure AlS where
  k : Nat
  ys : List (List Rat)
  ks : List (List Rat)
  s : Int
  q : Int
  l2 : Bool
theorem mkM_keep {p : Pr} {T H : RF} {Y : List RF} {nx er : AV} {s q lim : Int} {l1 l2 : Bool} {ys ks : List (List Rat)} (k : Nat) : keepM (mkM p T H Y nx er s q lim l1 l2 ys ks k) [33, 1] := by
  cases k <;> exact ⟨rfl, rfl, trivial⟩
set_option maxHeartbeats 8000000 in
set_option maxRecDepth 10000 in
theorem mkAll_c (p : Pr) (T H : RF) (Y : List RF) (s q lim : Int) (h : alOk L p T H Y) (h1 : 129 ≤ L) (hL0 : L < 2 ^ 18) (R : AllR) (hR : allG p T H Y lim p.sc.b.length 0 [] [] s q = R) :
    CN 28 [.addr 33 0] (mkM p T H Y .nils .nils s q lim false false [] [] 0) (flt R.fk R.fs R.fa) (mkM p T H Y (lv R.nx) (lv R.er) R.s R.q lim false true R.ys R.ks R.k) := by
  have hL : L < 2 ^ 20 := by omega
  obtain ⟨b1, b2, b3, b4, b5⟩ := scW_shape h.sc
  have hst0 := h.st (ks := []) (k := 0) (by omega) rfl (by intro r hr; cases hr) (by intro r hr; cases hr)
  obtain ⟨n, hn⟩ : ∃ n, p.sc.b.length = n + 1 := ⟨p.sc.b.length - 1, by omega⟩
  rw [hn, allG] at hR
  cases hf : fitK lim (cqs (stY p H Y [] 0)) with
  | some r =>
    rw [hf] at hR
    subst hR
    have hs := mkStage_bits p T H Y s q lim false false [] [] 0 hst0 h1 hL r (fitK_some hf)
    refine conF_of Go.Proofs.Tryz.func28 rfl (by kernel_rfl) ⟨rfl, rfl, trivial⟩ (Nat.le_of_ble_eq_true rfl) ?_
    refine .mk 1 ⟨frS 72 [(0, .addr 33 0), (2, .addr 2 0), (3, .addr 3 0), (15, i64 p.sc.b.length), (16, i64 0)], (33, .box (mkC p T H Y .nils .nils .nils .nils)) :: (1, .box (gc s q lim)) :: (2, .box flt0) :: (3, .box (scC p.sc)) :: [], ⟨rfl, rfl, rfl, lenD p.sc.b, rfl, trivial⟩, ⟨rfl, rfl, rfl, rfl, trivial⟩, ⟨rfl, rfl, trivial⟩, ?_⟩
    refine .yes (decide_eq_true (by omega)) ?_
    refine .sameC hs [(1, .box (gc (gSk s (r + 1)) (gPk q (cqs (stY p H Y [] 0)) (r + 1)) lim))] ⟨rfl, rfl, trivial⟩ rfl rfl (by simp [mkM, ids]) ⟨.inr ⟨rfl, rfl⟩, .inl rfl, trivial⟩ (by simp [mkM, ids]) (by simp [ids]) ⟨rfl, ?_⟩
    refine .yes rfl ?_
    exact ⟨⟨rfl, rfl, trivial⟩, rfl⟩
  | none =>
    rw [hf] at hR
    have hfn := fitK_none hf
    simp only at hR
    split at hR
    · rename_i hk
      have hs := mkStage_ok0 p T H Y s q lim false false hst0 h1 hL _ rfl hfn hk
      refine conF_of Go.Proofs.Tryz.func28 rfl (by kernel_rfl) (mkM_keep _) (Nat.le_of_ble_eq_true rfl) ?_
      refine .mk 1 ⟨frS 72 [(0, .addr 33 0), (2, .addr 2 0), (3, .addr 3 0), (15, i64 p.sc.b.length), (16, i64 0)], (33, .box (mkC p T H Y .nils .nils .nils .nils)) :: (1, .box (gc s q lim)) :: (2, .box flt0) :: (3, .box (scC p.sc)) :: [], ⟨rfl, rfl, rfl, lenD p.sc.b, rfl, trivial⟩, ⟨rfl, rfl, rfl, rfl, trivial⟩, ⟨rfl, rfl, trivial⟩, ?_⟩
      refine .yes (decide_eq_true (by omega)) ?_
      refine .mk (mkM p T H Y .nils .nils s q lim false false [] [] 0) (flt 0 0 0) [(33, .box (mkC p T H Y (.own 76 1 1) (.own 88 1 1) .nils .nils)), (1, .box (gc (gSk s (cqs (stY p H Y [] 0)).length) (gPk q (cqs (stY p H Y [] 0)) (cqs (stY p H Y [] 0)).length) lim)), (76, .row 1 (qD [stY p H Y [] 0]) false), (88, .row 1 (qD [stK p T H Y [] 0]) false)] ⟨rfl, rfl, trivial⟩ rfl ⟨.inl (by simp [getM, mkM]), .inl (by simp [getM, mkM]), .inr rfl, .inr rfl, trivial⟩ (by simp [mkM, ids]) (by simp [ids]) (by simp [mkM, ids]) ⟨hs, ?_⟩
      refine .no rfl ?_
      refine .mk AlS (fun σ => frS 72 [(0, .addr 33 0), (2, .addr 2 0), (3, .addr 3 0), (15, i64 p.sc.b.length), (16, i64 ((σ.k + 1 : Nat) : Int))])
        (fun σ => (33, .box (mkC p T H Y (.own 76 (σ.k + 1) 1) (.own 88 (σ.k + 1) 1) .nils .nils)) :: (1, .box (gc σ.s σ.q lim)) :: (76, .row 1 (qD σ.ys) false) :: (88, .row 1 (qD σ.ks) σ.l2) :: (2, .box flt0) :: (3, .box (scC p.sc)) :: [])
        (fun σ => σ.k ≤ n ∧ σ.ys.length = σ.k + 1 ∧ σ.ks.length = σ.k + 1 ∧ (∀ r ∈ σ.ks, ∀ q ∈ r, nw q ≤ 129) ∧ (∀ r ∈ σ.ks, r.length = Y.length) ∧ allG p T H Y lim (n - σ.k) (σ.k + 1) σ.ys σ.ks σ.s σ.q = R)
        (fun σ => n - σ.k) ⟨0, [stY p H Y [] 0], [stK p T H Y [] 0], gSk s (cqs (stY p H Y [] 0)).length, gPk q (cqs (stY p H Y [] 0)) (cqs (stY p H Y [] 0)).length, false⟩
        ⟨Nat.zero_le _, rfl, rfl, by intro r hr; rw [List.mem_singleton.1 hr]; exact stK_nw, by intro r hr; rw [List.mem_singleton.1 hr, stK_len hk, h.dim], hR⟩
        ⟨rfl, rfl, rfl, rfl, wrapS (k := 0) (by omega), trivial⟩ ⟨rfl, rfl, rfl, rfl, rfl, rfl, trivial⟩ ⟨rfl, rfl, trivial⟩ ?_
      rintro ⟨k, ys, ks, s', q', l2⟩ ⟨hk0, hys, hks, hnw, hlen, hG⟩
      simp only at hk0 hys hks hnw hlen hG
      refine .mk (fun g => ?_) (fun g => ?_)
      · have g : k + 1 < p.sc.b.length := by
          have g : ((k + 1 : Nat) : Int) < (p.sc.b.length : Int) := of_decide_eq_true g
          omega
        have hst := h.st g hks hnw hlen
        obtain ⟨m, hm⟩ : ∃ m, n - k = m + 1 := ⟨n - k - 1, by omega⟩
        rw [hm, allG] at hG
        cases hf : fitK lim (cqs (stY p H Y ks (k + 1))) with
        | some r =>
          rw [hf] at hG
          subst hG
          have hs := mkStage_bits p T H Y s' q' lim false l2 ys ks (k + 1) hst h1 hL r (fitK_some hf)
          refine .sameC hs [(1, .box (gc (gSk s' (r + 1)) (gPk q' (cqs (stY p H Y ks (k + 1))) (r + 1)) lim)), (88, .row 1 (qD ks) true)] ⟨rfl, rfl, rfl, rfl, trivial⟩ rfl rfl (by simp [mkM, ids]) ⟨.inr ⟨rfl, rfl⟩, .inl rfl, .inr ⟨rfl, rfl⟩, .inl rfl, trivial⟩ (by simp [mkM, ids]) (by simp [ids]) ⟨rfl, ?_⟩
          refine .yes rfl ?_
          exact ⟨⟨rfl, rfl, rfl, rfl, trivial⟩, rfl⟩
        | none =>
          rw [hf] at hG
          have hfn := fitK_none hf
          simp only at hG
          split at hG
          · rename_i hk
            have hs := mkStage_ok p T H Y s' q' lim false l2 ys ks k hys hst h1 hL _ rfl hfn hk
            refine .sameC hs (mkM p T H Y .nils .nils (gSk s' (cqs (stY p H Y ks (k + 1))).length) (gPk q' (cqs (stY p H Y ks (k + 1))) (cqs (stY p H Y ks (k + 1))).length) lim false true (ys ++ [stY p H Y ks (k + 1)]) (ks ++ [stK p T H Y ks (k + 1)]) (k + 2)) ⟨rfl, rfl, rfl, rfl, trivial⟩ rfl rfl (by simp [mkM, ids]) ⟨.inl rfl, .inl rfl, .inl rfl, .inl rfl, trivial⟩ (fun _ h => h) (by simp [mkM, ids]) ⟨rfl, ?_⟩
            refine .no rfl ?_
            refine ⟨⟨k + 1, ys ++ [stY p H Y ks (k + 1)], ks ++ [stK p T H Y ks (k + 1)], gSk s' (cqs (stY p H Y ks (k + 1))).length, gPk q' (cqs (stY p H Y ks (k + 1))) (cqs (stY p H Y ks (k + 1))).length, true⟩,
              ⟨by show k + 1 ≤ n; omega, by show (ys ++ [_]).length = k + 1 + 1; rw [List.length_append, hys]; rfl, by show (ks ++ [_]).length = k + 1 + 1; rw [List.length_append, hks]; rfl, ?_, ?_, ?_⟩, by show n - (k + 1) < n - k; omega, ⟨rfl, rfl, rfl, rfl, wrapS (k := k + 1) (by omega), trivial⟩, ⟨rfl, rfl, rfl, rfl, rfl, rfl, trivial⟩, ⟨rfl, rfl, trivial⟩⟩
            · intro r hr
              rcases List.mem_append.1 hr with hr | hr
              · exact hnw r hr
              · rw [List.mem_singleton.1 hr]; exact stK_nw
            · intro r hr
              rcases List.mem_append.1 hr with hr | hr
              · exact hlen r hr
              · rw [List.mem_singleton.1 hr, stK_len hk, h.dim]
            · show allG p T H Y lim (n - (k + 1)) (k + 1 + 1) _ _ _ _ = R
              rw [show n - (k + 1) = m by omega]
              exact hG
          · rename_i hk
            subst hG
            have hs := mkStage_fault p T H Y s' q' lim false l2 ys ks (k + 1) hst h1 hL _ rfl hfn hk
            refine .sameC hs [(1, .box (gc (gSk s' (cqs (stY p H Y ks (k + 1))).length) (gPk q' (cqs (stY p H Y ks (k + 1))) (cqs (stY p H Y ks (k + 1))).length) lim)), (88, .row 1 (qD ks) true)] ⟨rfl, rfl, rfl, rfl, trivial⟩ rfl rfl (by simp [mkM, ids]) ⟨.inr ⟨rfl, rfl⟩, .inl rfl, .inr ⟨rfl, rfl⟩, .inl rfl, trivial⟩ (by simp [mkM, ids]) (by simp [ids]) ⟨rfl, ?_⟩
            refine .yes (by
              show (!((stR p T H Y ks (k + 1)).k == 0 && _)) = true
              rw [show ((stR p T H Y ks (k + 1)).k == 0) = false from beq_eq_false_iff_ne.2 hk]; rfl) ?_
            exact ⟨⟨rfl, rfl, rfl, rfl, trivial⟩, rfl⟩
      · have hkn : k = n := by
          have g : ¬ ((k + 1 : Nat) : Int) < (p.sc.b.length : Int) := of_decide_eq_false g
          omega
        subst hkn
        rw [Nat.sub_self, allG] at hG
        have lY3 := h.lY
        have hmb : mkOk L 129 H Y p.sc.b ks := ⟨h.pk.sc.b, h.Hk, hnw, hlen, h.lY, by omega, by omega⟩
        have hfr := mkFrom_c p T H Y none none s' q' lim false l2 ys ks (k + 1) p.sc.b hmb h.Yk hks (by omega) (by decide) hL (by decide)
        have hnx : ∀ q ∈ nxS p H Y ks, nw q ≤ 2 ^ 26 := nxS_nw h hmb (by omega) hL
        have lnx : (nxS p H Y ks).length = Y.length := nxS_len hmb
        rw [show frmS H Y p.sc.b ks = nxS p H Y ks from rfl] at hfr
        refine .sameC hfr [(88, .row 1 (qD ks) true)] ⟨rfl, rfl, rfl, rfl, trivial⟩ rfl rfl (by simp [mkM, ids]) ⟨.inr ⟨rfl, rfl⟩, .inr ⟨rfl, rfl⟩, .inr ⟨rfl, rfl⟩, .inl rfl, trivial⟩ (by simp [mkM, ids]) (by simp [ids]) ⟨rfl, ?_⟩
        unfold tailG at hG
        cases hf : fitK lim (cqs (nxS p H Y ks)) with
        | some r =>
          rw [hf] at hG
          subst hG
          have hg := mkFits_c (L := 2 ^ 26) p T H Y (some (fqs (nxS p H Y ks))) none s' q' lim false true ys ks (k + 1) (cqs (nxS p H Y ks)) ((p.sc.b.map fds).length : Int) (cqs_oks hnx) (by decide) (by rw [cqs_len]; omega) (r + 1) false r (.inr ⟨rfl, rfl, fitK_some hf⟩)
          refine .sameC hg [(1, .box (gc (gSk s' (r + 1)) (gPk q' (cqs (nxS p H Y ks)) (r + 1)) lim))] ⟨rfl, rfl, rfl, rfl, trivial⟩ rfl rfl (by simp [mkM, ids]) ⟨.inr ⟨rfl, rfl⟩, .inl rfl, .inr ⟨rfl, rfl⟩, .inr ⟨rfl, rfl⟩, trivial⟩ (by simp [mkM, ids]) (by simp [ids]) ⟨rfl, ?_⟩
          refine .yes rfl ?_
          exact ⟨⟨rfl, rfl, rfl, rfl, trivial⟩, congrArg (fun z => flt 6 z (300 + r)) (frsLen p.sc.b)⟩
        | none =>
          rw [hf] at hG
          simp only at hG
          have hg := mkFits_c (L := 2 ^ 26) p T H Y (some (fqs (nxS p H Y ks))) none s' q' lim false true ys ks (k + 1) (cqs (nxS p H Y ks)) ((p.sc.b.map fds).length : Int) (cqs_oks hnx) (by decide) (by rw [cqs_len]; omega) (nxS p H Y ks).length true (nxS p H Y ks).length (.inl ⟨rfl, cqs_len.symm, cqs_len.symm, fitK_none hf⟩)
          refine .sameC hg [(1, .box (gc (gSk s' (nxS p H Y ks).length) (gPk q' (cqs (nxS p H Y ks)) (nxS p H Y ks).length) lim))] ⟨rfl, rfl, rfl, rfl, trivial⟩ rfl rfl (by simp [mkM, ids]) ⟨.inr ⟨rfl, rfl⟩, .inl rfl, .inr ⟨rfl, rfl⟩, .inr ⟨rfl, rfl⟩, trivial⟩ (by simp [mkM, ids]) (by simp [ids]) ⟨rfl, ?_⟩
          refine .no rfl ?_
          refine .by _ ⟨scGap_c p.sc h.pk.sc (by omega) hL h.sc, ?_⟩
          by_cases g0 : (gapS p.sc).length = 0
          · rw [if_pos g0, if_pos g0] at hG
            have hG : _ = R := hG
            refine .no (by rw [List.length_map, cqs_len, g0]; rfl) ?_
            generalize gSk s' (nxS p H Y ks).length = s1 at *
            generalize gPk q' (cqs (nxS p H Y ks)) (nxS p H Y ks).length = q1 at *
            have hg2 := mkFits_c (L := 2 ^ 26) p T H Y (some (fqs (nxS p H Y ks))) none s1 q1 lim false true ys ks (k + 1) [] (IntKind.i64.wrap (((p.sc.b.map fds).length : Int) + 1)) (by intro x hx; cases hx) (by decide) (by decide) 0 true 0 (.inl ⟨rfl, rfl, rfl, by intro i hi; exact absurd hi (Nat.not_lt_zero i)⟩)
            refine .sameC hg2 [] ⟨rfl, rfl, rfl, rfl, trivial⟩ rfl rfl (by simp [mkM, ids]) ⟨.inr ⟨rfl, rfl⟩, .inr ⟨rfl, rfl⟩, .inr ⟨rfl, rfl⟩, .inr ⟨rfl, rfl⟩, trivial⟩ (fun _ h => by cases h) .nil ⟨rfl, ?_⟩
            subst hG
            exact ⟨⟨rfl, rfl, rfl, rfl, trivial⟩, rfl⟩
          · rw [if_neg g0, if_neg g0] at hG
            have hmg := gap_ok h hmb (by omega) g0
            have ht := mkToward_c (L := 2 * L + 1) p T H Y (some (fqs (nxS p H Y ks))) none (gSk s' (nxS p H Y ks).length) (gPk q' (cqs (nxS p H Y ks)) (nxS p H Y ks).length) lim false true ys ks (k + 1) (cqs (gapS p.sc)) hmg hks (by omega) (by decide) (by omega) (by decide)
            have her : ∀ q ∈ erS p H Y ks, nw q ≤ 2 ^ 26 := erS_nw h hmg (by omega) (by omega)
            have ler : (erS p H Y ks).length = Y.length := twd_len hlen
            rw [vals_cqs, show twd H.val (gapS p.sc) ks Y.length = erS p H Y ks from rfl] at ht
            refine .yes (decide_eq_true (by rw [List.length_map, cqs_len]; omega)) ?_
            generalize gSk s' (nxS p H Y ks).length = s1 at *
            generalize gPk q' (cqs (nxS p H Y ks)) (nxS p H Y ks).length = q1 at *
            refine .sameC ht [] ⟨rfl, rfl, rfl, rfl, trivial⟩ rfl rfl (by simp [mkM, ids]) ⟨.inr ⟨rfl, rfl⟩, .inr ⟨rfl, rfl⟩, .inr ⟨rfl, rfl⟩, .inr ⟨rfl, rfl⟩, trivial⟩ (fun _ h => by cases h) .nil ⟨rfl, ?_⟩
            have hw : IntKind.i64.wrap (((p.sc.b.map fds).length : Int) + 1) = (p.sc.b.length : Int) + 1 := by
              rw [frsLen, wrap64 (by omega) (by omega)]
            cases hf2 : fitK lim (cqs (erS p H Y ks)) with
            | some r =>
              rw [hf2] at hG
              subst hG
              have hg2 := mkFits_c (L := 2 ^ 26) p T H Y (some (fqs (nxS p H Y ks))) (some (fqs (erS p H Y ks))) s1 q1 lim false true ys ks (k + 1) (cqs (erS p H Y ks)) (IntKind.i64.wrap (((p.sc.b.map fds).length : Int) + 1)) (cqs_oks her) (by decide) (by rw [cqs_len]; omega) (r + 1) false r (.inr ⟨rfl, rfl, fitK_some hf2⟩)
              refine .sameC hg2 [(1, .box (gc (gSk s1 (r + 1)) (gPk q1 (cqs (erS p H Y ks)) (r + 1)) lim))] ⟨rfl, rfl, rfl, rfl, trivial⟩ rfl rfl (by simp [mkM, ids]) ⟨.inr ⟨rfl, rfl⟩, .inl rfl, .inr ⟨rfl, rfl⟩, .inr ⟨rfl, rfl⟩, trivial⟩ (by simp [mkM, ids]) (by simp [ids]) ⟨rfl, ?_⟩
              exact ⟨⟨rfl, rfl, rfl, rfl, trivial⟩, congrArg (fun z => flt 6 z (300 + r)) hw⟩
            | none =>
              rw [hf2] at hG
              subst hG
              have hg2 := mkFits_c (L := 2 ^ 26) p T H Y (some (fqs (nxS p H Y ks))) (some (fqs (erS p H Y ks))) s1 q1 lim false true ys ks (k + 1) (cqs (erS p H Y ks)) (IntKind.i64.wrap (((p.sc.b.map fds).length : Int) + 1)) (cqs_oks her) (by decide) (by rw [cqs_len]; omega) (erS p H Y ks).length true (erS p H Y ks).length (.inl ⟨rfl, cqs_len.symm, cqs_len.symm, fitK_none hf2⟩)
              refine .sameC hg2 [(1, .box (gc (gSk s1 (erS p H Y ks).length) (gPk q1 (cqs (erS p H Y ks)) (erS p H Y ks).length) lim))] ⟨rfl, rfl, rfl, rfl, trivial⟩ rfl rfl (by simp [mkM, ids]) ⟨.inr ⟨rfl, rfl⟩, .inl rfl, .inr ⟨rfl, rfl⟩, .inr ⟨rfl, rfl⟩, trivial⟩ (by simp [mkM, ids]) (by simp [ids]) ⟨rfl, ?_⟩
              exact ⟨⟨rfl, rfl, rfl, rfl, trivial⟩, rfl⟩
    · rename_i hk
      subst hR
      have hs := mkStage_fault p T H Y s q lim false false [] [] 0 hst0 h1 hL _ rfl hfn hk
      refine conF_of Go.Proofs.Tryz.func28 rfl (by kernel_rfl) ⟨rfl, rfl, trivial⟩ (Nat.le_of_ble_eq_true rfl) ?_
      refine .mk 1 ⟨frS 72 [(0, .addr 33 0), (2, .addr 2 0), (3, .addr 3 0), (15, i64 p.sc.b.length), (16, i64 0)], (33, .box (mkC p T H Y .nils .nils .nils .nils)) :: (1, .box (gc s q lim)) :: (2, .box flt0) :: (3, .box (scC p.sc)) :: [], ⟨rfl, rfl, rfl, lenD p.sc.b, rfl, trivial⟩, ⟨rfl, rfl, rfl, rfl, trivial⟩, ⟨rfl, rfl, trivial⟩, ?_⟩
      refine .yes (decide_eq_true (by omega)) ?_
      refine .sameC hs [(1, .box (gc (gSk s (cqs (stY p H Y [] 0)).length) (gPk q (cqs (stY p H Y [] 0)) (cqs (stY p H Y [] 0)).length) lim))] ⟨rfl, rfl, trivial⟩ rfl rfl (by simp [mkM, ids]) ⟨.inr ⟨rfl, rfl⟩, .inl rfl, trivial⟩ (by simp [mkM, ids]) (by simp [ids]) ⟨rfl, ?_⟩
      refine .yes (by
        show (!((stR p T H Y [] 0).k == 0 && _)) = true
        rw [show ((stR p T H Y [] 0).k == 0) = false from beq_eq_false_iff_ne.2 hk]; rfl) ?_
      exact ⟨⟨rfl, rfl, trivial⟩, rfl⟩
end
end Go.KM
end
section
/- Contracts: step.Do. -/
namespace Go.KM
open Go RN
section
variable {L : Nat}
/-- A step made. -/
def mdA (ys ks : List (List Rat)) (nx er : List Rat) : AV := .agg [.d (.sl (qD ys)), .d (.sl (qD ks)), .d (fqs nx), .d (fqs er)]
def md0 : AV := .agg [.d (.sl []), .d (.sl []), .d (.sl []), .d (.sl [])]
set_option maxHeartbeats 4000000 in
set_option maxRecDepth 10000 in
theorem stDo_form (p : Pr) (T H : RF) (Y : List RF) (hp : prOk L p) (h1 : 1 ≤ L) (hL : L < 2 ^ 20) (hb : ¬ (prB p = true ∧ (Y.length : Int) = p.tp.dim)) : CN 10 [prA p, fav T, fav H, .d (frs Y)] [] (.tup [md0, flt 2 0 0]) [] := by
  refine con_of Go.Proofs.Tryz.func10 rfl (by kernel_rfl) (Nat.le_of_ble_eq_true rfl) ?_
  have lY := frsLen Y
  refine .by _ ⟨stRight_c p hp h1 hL, ?_⟩
  by_cases g : prB p = true
  · refine .no (by rw [g]; rfl) ?_
    refine .yes (by rw [lY]; exact bne_iff_ne.2 (fun e => hb ⟨g, e⟩)) ?_
    exact ⟨trivial, rfl⟩
  · refine .yes (by rw [show prB p = false by simpa using g]; rfl) ?_
    refine .yes rfl ?_
    exact ⟨trivial, rfl⟩
theorem tailG_ok {p : Pr} {H : RF} {Y : List RF} {lim : Int} {k : Nat} {ys ks : List (List Rat)} {s q : Int} (h : (tailG p H Y lim k ys ks s q).fk = 0) :
    (tailG p H Y lim k ys ks s q).fs = 0 ∧ (tailG p H Y lim k ys ks s q).fa = 0 ∧ (tailG p H Y lim k ys ks s q).k = k ∧ (tailG p H Y lim k ys ks s q).ys = ys ∧ (tailG p H Y lim k ys ks s q).ks = ks := by
  unfold tailG at *
  cases hf : fitK lim (cqs (nxS p H Y ks)) with
  | some r => rw [hf] at h; exact absurd h (by decide : ¬ (6 : Int) = 0)
  | none =>
    rw [hf] at h
    simp only at h ⊢
    cases hf2 : fitK lim (cqs (if (gapS p.sc).length = 0 then [] else erS p H Y ks)) with
    | some r => rw [hf2] at h; exact absurd h (by decide : ¬ (6 : Int) = 0)
    | none => exact ⟨rfl, rfl, rfl, rfl, rfl⟩
theorem allG_ok {p : Pr} {T H : RF} {Y : List RF} {lim : Int} : ∀ (m k : Nat) (ys ks : List (List Rat)) (s q : Int), (allG p T H Y lim m k ys ks s q).fk = 0 →
    (allG p T H Y lim m k ys ks s q).fs = 0 ∧ (allG p T H Y lim m k ys ks s q).fa = 0 ∧ (allG p T H Y lim m k ys ks s q).k = k + m ∧ (allG p T H Y lim m k ys ks s q).ys.length = ys.length + m ∧ (allG p T H Y lim m k ys ks s q).ks.length = ks.length + m
  | 0, k, ys, ks, s, q, h => by
    rw [allG] at h ⊢
    obtain ⟨a1, a2, a3, a4, a5⟩ := tailG_ok h
    exact ⟨a1, a2, a3, by rw [a4]; rfl, by rw [a5]; rfl⟩
  | m + 1, k, ys, ks, s, q, h => by
    rw [allG] at h ⊢
    cases hf : fitK lim (cqs (stY p H Y ks k)) with
    | some r => rw [hf] at h; exact absurd h (by decide : ¬ (6 : Int) = 0)
    | none =>
      rw [hf] at h
      simp only at h ⊢
      split at h
      · rename_i g
        rw [if_pos g]
        obtain ⟨a1, a2, a3, a4, a5⟩ := allG_ok m _ _ _ _ _ h
        refine ⟨a1, a2, by rw [a3]; omega, ?_, ?_⟩
        · rw [a4, List.length_append]; show ys.length + 1 + m = ys.length + (m + 1); omega
        · rw [a5, List.length_append]; show ks.length + 1 + m = ks.length + (m + 1); omega
      · rename_i g
        exact absurd h g
theorem mkM_new {μ : Nat → Option Blk} {p : Pr} {T H : RF} {Y : List RF} {n0 e0 nx er : AV} {s0 q0 lim0 s q lim : Int} {f g l1 l2 : Bool} {y0 k0 ys ks : List (List Rat)} (a : μ 76 = none) (b : μ 88 = none) (k : Nat) :
    newM μ (mkM p T H Y n0 e0 s0 q0 lim0 f g y0 k0 0) (mkM p T H Y nx er s q lim l1 l2 ys ks k) := by
  cases k <;> simp [mkM, newM, getM, a, b]
def odD (o : Option D) : D := o.getD (.sl [])
def mdR (R : AllR) : AV := .agg [.d (.sl (qD R.ys)), .d (.sl (qD R.ks)), .d (odD R.nx), .d (odD R.er)]
theorem alOk.of {p : Pr} {T H : RF} {Y : List RF} (hp : prOk L p) (hT : T.ok L) (hH : H.ok L) (hY : oks L Y) (g : prB p = true) (e : (Y.length : Int) = p.tp.dim) (lY : Y.length < 2 ^ 40) : alOk L p T H Y := by
  unfold prB at g
  rw [Bool.and_eq_true, Bool.and_eq_true] at g
  obtain ⟨⟨g1, g2⟩, g3⟩ := g
  have hw : wholeB p.tp = true := by
    unfold rightB at g1
    rw [Bool.and_eq_true, Bool.and_eq_true] at g1
    exact g1.1.1
  unfold wholeB at hw
  rw [Bool.and_eq_true, Bool.and_eq_true, Bool.and_eq_true] at hw
  obtain ⟨⟨⟨w1, w2⟩, w3⟩, w4⟩ := hw
  have w1 := (belowB_iff.1 w1)
  have w3 := beq_iff_eq.1 w3
  rw [wrap64 (by omega) (by omega)] at w1
  exact ⟨hp, hT, hH, hY, by omega, by omega, beq_iff_eq.1 g2⟩
def doR (p : Pr) (T H : RF) (Y : List RF) : AllR := allG p T H Y (gLim p.bits) p.sc.b.length 0 [] [] 0 0
set_option maxHeartbeats 8000000 in
set_option maxRecDepth 10000 in
theorem stDo_c (p : Pr) (T H : RF) (Y : List RF) (h : alOk L p T H Y) (h1 : 129 ≤ L) (hL : L < 2 ^ 18) (hg : prB p = true) (hd : (Y.length : Int) = p.tp.dim) :
    CN 10 [prA p, fav T, fav H, .d (frs Y)] [] (if (doR p T H Y).fk = 0 then .tup [mdR (doR p T H Y), flt 0 0 0] else .tup [md0, flt (doR p T H Y).fk (doR p T H Y).fs (doR p T H Y).fa]) [] := by
  have ha := mkAll_c p T H Y 0 0 (gLim p.bits) h h1 hL _ rfl
  rw [show allG p T H Y (gLim p.bits) p.sc.b.length 0 [] [] 0 0 = doR p T H Y from rfl] at ha
  have hok := allG_ok (p := p) (T := T) (H := H) (Y := Y) (lim := gLim p.bits) p.sc.b.length 0 [] [] 0 0
  rw [show allG p T H Y (gLim p.bits) p.sc.b.length 0 [] [] 0 0 = doR p T H Y from rfl] at hok
  have hb := (scW_shape h.sc).1
  generalize doR p T H Y = R at *
  obtain ⟨fk, fs, fa, k, ys, ks, s, q, nx, er⟩ := R
  simp only at ha hok ⊢
  have lY := frsLen Y
  refine con_of Go.Proofs.Tryz.func10 rfl (by kernel_rfl) (Nat.le_of_ble_eq_true rfl) ?_
  refine .by _ ⟨stRight_c p h.pk (by omega) (by omega), ?_⟩
  refine .no (by rw [hg]; rfl) ?_
  refine .no (by rw [lY, hd]; simp) ?_
  refine .new 1 _ _ rfl ⟨gNew_at 1 p.bits, ?_⟩
  by_cases hk : fk = 0
  · obtain ⟨e1, e2, e3, e4, e5⟩ := hok hk
    obtain ⟨k', rfl⟩ : ∃ k', k = k' + 1 := ⟨k - 1, by omega⟩
    subst hk e1 e2
    rw [if_pos rfl]
    have ly : (qD ys).length = k' + 1 := by rw [qD_len, e4, e3]; rfl
    have lk : (qD ks).length = k' + 1 := by rw [qD_len, e5, e3]; rfl
    rcases nx with _ | nx
    · rcases er with _ | er
      · refine .mk (mkM p T H Y .nils .nils 0 0 (gLim p.bits) false false [] [] 0) (flt 0 0 0) (mkM p T H Y (lv none) (lv none) s q (gLim p.bits) false true ys ks (k' + 1)) ⟨rfl, rfl, trivial⟩ rfl (mkM_new rfl rfl _) (by simp [mkM, ids]) (by simp [mkM, ids]) (by simp [mkM, ids]) ⟨ha, ?_⟩
        refine .no rfl ?_
        exact .of ⟨ly, rfl⟩ (.of ⟨lk, rfl⟩ ⟨trivial, rfl⟩)
      · refine .mk (mkM p T H Y .nils .nils 0 0 (gLim p.bits) false false [] [] 0) (flt 0 0 0) (mkM p T H Y (lv none) (lv (some er)) s q (gLim p.bits) false true ys ks (k' + 1)) ⟨rfl, rfl, trivial⟩ rfl (mkM_new rfl rfl _) (by simp [mkM, ids]) (by simp [mkM, ids]) (by simp [mkM, ids]) ⟨ha, ?_⟩
        refine .no rfl ?_
        exact .of ⟨ly, rfl⟩ (.of ⟨lk, rfl⟩ ⟨trivial, rfl⟩)
    · rcases er with _ | er
      · refine .mk (mkM p T H Y .nils .nils 0 0 (gLim p.bits) false false [] [] 0) (flt 0 0 0) (mkM p T H Y (lv (some nx)) (lv none) s q (gLim p.bits) false true ys ks (k' + 1)) ⟨rfl, rfl, trivial⟩ rfl (mkM_new rfl rfl _) (by simp [mkM, ids]) (by simp [mkM, ids]) (by simp [mkM, ids]) ⟨ha, ?_⟩
        refine .no rfl ?_
        exact .of ⟨ly, rfl⟩ (.of ⟨lk, rfl⟩ ⟨trivial, rfl⟩)
      · refine .mk (mkM p T H Y .nils .nils 0 0 (gLim p.bits) false false [] [] 0) (flt 0 0 0) (mkM p T H Y (lv (some nx)) (lv (some er)) s q (gLim p.bits) false true ys ks (k' + 1)) ⟨rfl, rfl, trivial⟩ rfl (mkM_new rfl rfl _) (by simp [mkM, ids]) (by simp [mkM, ids]) (by simp [mkM, ids]) ⟨ha, ?_⟩
        refine .no rfl ?_
        exact .of ⟨ly, rfl⟩ (.of ⟨lk, rfl⟩ ⟨trivial, rfl⟩)
  · rw [if_neg hk]
    have hne : (!(fk == 0 && (true && (fs == 0 && (fa == 0 && true))))) = true := by rw [show (fk == 0) = false from beq_eq_false_iff_ne.2 hk]; rfl
    rcases k with _ | k
    · refine .mk (mkM p T H Y .nils .nils 0 0 (gLim p.bits) false false [] [] 0) (flt fk fs fa) (mkM p T H Y (lv nx) (lv er) s q (gLim p.bits) false true ys ks 0) ⟨rfl, rfl, trivial⟩ rfl (mkM_new rfl rfl _) (by simp [mkM, ids]) (by simp [mkM, ids]) (by simp [mkM, ids]) ⟨ha, ?_⟩
      refine .yes hne ?_
      exact ⟨trivial, rfl⟩
    · refine .mk (mkM p T H Y .nils .nils 0 0 (gLim p.bits) false false [] [] 0) (flt fk fs fa) (mkM p T H Y (lv nx) (lv er) s q (gLim p.bits) false true ys ks (k + 1)) ⟨rfl, rfl, trivial⟩ rfl (mkM_new rfl rfl _) (by simp [mkM, ids]) (by simp [mkM, ids]) (by simp [mkM, ids]) ⟨ha, ?_⟩
      refine .yes hne ?_
      exact ⟨trivial, rfl⟩
end
end Go.KM
end
section
/- Contracts: the laws' own: To of fractions, rows, matrices. -/
namespace Go.KM
open Go RN
theorem frs_take {l : List RF} {k : Nat} (h : k < l.length) : (l.take (k + 1)).map fds = (l.take k).map fds ++ [fds l[k]] := by
  rw [take_app h, List.map_append]; rfl
theorem take_len1 {α β : Type} {u : α → β} {a : List α} {k : Nat} (h : k ≤ a.length) : ((a.take k).map u).length = k := by
  rw [List.length_map, List.length_take]; omega
theorem l09To_c (x : RF) : CN 9 [fav x] [] (fav x) [] := by
  refine con_of Go.Proofs.Tryz.func9 rfl (by kernel_rfl) (Nat.le_of_ble_eq_true rfl) ?_
  exact ⟨trivial, rfl⟩
set_option maxRecDepth 10000 in
theorem l11To_c (a : List RF) (la : a.length < 2 ^ 30) : CN 8 [.d (frs a)] [] (.d (frs a)) [] := by
  refine con_of Go.Proofs.Tryz.func8 rfl (by kernel_rfl) (Nat.le_of_ble_eq_true rfl) ?_
  have eL := frsLen a
  refine .mk 1 ⟨frS 20 [(0, .d (frs a)), (3, .nils), (4, i64 0)], [], ⟨rfl, rfl, rfl, trivial⟩, trivial, trivial, ?_⟩
  refine .mk (fun h0 => ?_) (fun h0 => ?_)
  · have l0 : 0 < a.length := by
      have h0 : (0 : Int) < ((a.map fds).length : Int) := of_decide_eq_true h0
      omega
    refine .mk (by omega) ⟨_, _, _, frs_getI (by omega) l0, ?_⟩
    refine .by _ ⟨l09To_c a[0], ?_⟩
    refine .of rfl (.of ⟨Nat.zero_lt_one, (by decide : (1 : Nat) * 56 ≤ 140737488355328), (by decide : (1 : Nat) ≤ 140737488355328), one3⟩ ?_)
    refine .mk Nat (fun k => frS 20 [(0, .d (frs a)), (3, .own 18 k 3), (4, i64 k)]) (fun k => [(18, .row 3 ((a.take k).map fds) false)])
      (fun k => k ≤ a.length) (fun k => a.length - k) 1 l0 ⟨rfl, rfl, wrapS (k := 0) (by omega), trivial⟩ ⟨?_, trivial⟩ trivial ?_
    · show some _ = _
      rw [frs_take l0]
      rfl
    · intro k hk
      refine .mk (fun h3 => ?_) (fun h3 => ?_)
      · have h3 : k < a.length := by
          have h3 : (k : Int) < ((a.map fds).length : Int) := of_decide_eq_true h3
          omega
        refine .mk (by omega) ⟨_, _, _, frs_getI (by omega) h3, ?_⟩
        refine .by _ ⟨l09To_c a[k], ?_⟩
        refine .of rfl (.of ⟨take_len1 hk, rfl, rfl, ?_, ?_, one3⟩ ?_)
        · show (k + 1) * 56 ≤ _; omega
        · show k + 1 ≤ _; omega
        · refine ⟨k + 1, h3, by omega, ⟨rfl, rfl, wrapS (by omega), trivial⟩, ⟨?_, trivial⟩, trivial⟩
          rw [frs_take h3]
          rfl
      · have h3 : k = a.length := by
          have h3 : ¬ (k : Int) < ((a.map fds).length : Int) := of_decide_eq_false h3
          omega
        subst h3
        refine .of ⟨take_len1 hk, rfl⟩ ⟨trivial, ?_⟩
        rw [List.take_length]
        rfl
  · have l0 : a = [] := by
      have h0 : ¬ (0 : Int) < ((a.map fds).length : Int) := of_decide_eq_false h0
      exact List.length_eq_zero_iff.1 (by omega)
    subst l0
    exact ⟨trivial, rfl⟩
theorem frss_take {l : List (List RF)} {k : Nat} (h : k < l.length) : (l.take (k + 1)).map (fun r => [frs r]) = (l.take k).map (fun r => [frs r]) ++ [[frs l[k]]] := by
  rw [take_app h, List.map_append]; rfl
set_option maxRecDepth 10000 in
theorem l12To_c (a : List (List RF)) (la : a.length < 2 ^ 30) (lr : ∀ r ∈ a, r.length < 2 ^ 30) : CN 44 [.d (frss a)] [] (.d (frss a)) [] := by
  refine con_of Go.Proofs.Tryz.func44 rfl (by kernel_rfl) (Nat.le_of_ble_eq_true rfl) ?_
  have eL := frssLen a
  refine .mk 1 ⟨frS 20 [(0, .d (frss a)), (3, .nils), (4, i64 0)], [], ⟨rfl, rfl, rfl, trivial⟩, trivial, trivial, ?_⟩
  refine .mk (fun h0 => ?_) (fun h0 => ?_)
  · have l0 : 0 < a.length := by
      have h0 : (0 : Int) < ((a.map fun r => [frs r]).length : Int) := of_decide_eq_true h0
      omega
    refine .mk (by omega) ⟨_, frss_getI (by omega) l0, ?_⟩
    refine .by _ ⟨l11To_c a[0] (lr _ (List.getElem_mem l0)), ?_⟩
    refine .of rfl (.of ⟨Nat.zero_lt_one, (by decide : (1 : Nat) * 24 ≤ 140737488355328), (by decide : (1 : Nat) ≤ 140737488355328), one1⟩ ?_)
    refine .mk Nat (fun k => frS 20 [(0, .d (frss a)), (3, .own 18 k 1), (4, i64 k)]) (fun k => [(18, .row 1 ((a.take k).map fun r => [frs r]) false)])
      (fun k => k ≤ a.length) (fun k => a.length - k) 1 l0 ⟨rfl, rfl, wrapS (k := 0) (by omega), trivial⟩ ⟨?_, trivial⟩ trivial ?_
    · show some _ = _
      rw [frss_take l0]
      rfl
    · intro k hk
      refine .mk (fun h3 => ?_) (fun h3 => ?_)
      · have h3 : k < a.length := by
          have h3 : (k : Int) < ((a.map fun r => [frs r]).length : Int) := of_decide_eq_true h3
          omega
        refine .mk (by omega) ⟨_, frss_getI (by omega) h3, ?_⟩
        refine .by _ ⟨l11To_c a[k] (lr _ (List.getElem_mem h3)), ?_⟩
        refine .of rfl (.of ⟨take_len1 hk, rfl, rfl, ?_, ?_, one1⟩ ?_)
        · show (k + 1) * 24 ≤ _; omega
        · show k + 1 ≤ _; omega
        · refine ⟨k + 1, h3, by omega, ⟨rfl, rfl, wrapS (by omega), trivial⟩, ⟨?_, trivial⟩, trivial⟩
          rw [frss_take h3]
          rfl
      · have h3 : k = a.length := by
          have h3 : ¬ (k : Int) < ((a.map fun r => [frs r]).length : Int) := of_decide_eq_false h3
          omega
        subst h3
        refine .of ⟨take_len1 hk, rfl⟩ ⟨trivial, ?_⟩
        rw [List.take_length]
        rfl
  · have l0 : a = [] := by
      have h0 : ¬ (0 : Int) < ((a.map fun r => [frs r]).length : Int) := of_decide_eq_false h0
      exact List.length_eq_zero_iff.1 (by omega)
    subst l0
    exact ⟨trivial, rfl⟩
end Go.KM
end
section
/- Contracts: the laws' own: To of schemes. -/
namespace Go.KM
open Go RN
structure scLen (s : Sc) : Prop where
  c : s.c.length < 2 ^ 30
  a : s.a.length < 2 ^ 30
  ar : ∀ r ∈ s.a, r.length < 2 ^ 30
  b : s.b.length < 2 ^ 30
  e : s.e.length < 2 ^ 30
set_option maxRecDepth 10000 in
theorem l30To_c (s : Sc) (h : scLen s) : CN 25 [scA s] [] (scA s) [] := by
  refine con_of Go.Proofs.Tryz.func25 rfl (by kernel_rfl) (Nat.le_of_ble_eq_true rfl) ?_
  refine .by _ ⟨l11To_c s.c h.c, ?_⟩
  refine .by _ ⟨l12To_c s.a h.a h.ar, ?_⟩
  refine .by _ ⟨l11To_c s.b h.b, ?_⟩
  exact .by _ ⟨l11To_c s.e h.e, trivial, rfl⟩
/-- law 24's To gives a tape as it is. -/
def L24 (t : Tp) : Prop := CN 24 [tpA t] [] (tpA t) []
set_option maxRecDepth 10000 in
theorem l33To_c (p : Pr) (ht : L24 p.tp) (h : scLen p.sc) (lP : p.P.length < 2 ^ 30) : CN 7 [prA p] [] (prA p) [] := by
  refine con_of Go.Proofs.Tryz.func7 rfl (by kernel_rfl) (Nat.le_of_ble_eq_true rfl) ?_
  refine .by _ ⟨ht, ?_⟩
  refine .by _ ⟨l30To_c p.sc h, ?_⟩
  exact .by _ ⟨l11To_c p.P lP, trivial, rfl⟩
end Go.KM
end
section
/- Contracts: the laws' own: To of tapes. -/
namespace Go.KM
open Go RN
theorem in_take {l : List In} {k : Nat} (h : k < l.length) : (l.take (k + 1)).map inD = (l.take k).map inD ++ [inD l[k]] := by
  rw [take_app h, List.map_append]; rfl
theorem one6 {i : In} : ∀ z ∈ [inD i], z.length = 6 := by
  intro z hz; rw [List.mem_singleton.1 hz]; rfl
theorem isl1 {l : List Int} : ∀ z ∈ l.map fun x => [D.int .i64 x], z.length = 1 := by
  intro z hz
  obtain ⟨x, _, rfl⟩ := List.mem_map.1 hz
  rfl
def tpC (t : Tp) : List AV := [.d (.sl (t.code.map inD)), .d (isl t.outs), i64 t.dim, i64 t.par]
set_option maxHeartbeats 4000000 in
set_option maxRecDepth 10000 in
theorem l24To_c (t : Tp) (lc : t.code.length < 2 ^ 30) (lo : t.outs.length < 2 ^ 30) : L24 t := by
  unfold L24
  refine con_of Go.Proofs.Tryz.func24 rfl (by kernel_rfl) (Nat.le_of_ble_eq_true rfl) ?_
  have eL := inLen t.code
  have eO := islLen t.outs
  have eO2 : (t.outs.map fun x => [D.int .i64 x]).length = t.outs.length := List.length_map _
  refine .of ⟨rfl, rfl, rfl, by show (0 + (t.outs.map fun x => [D.int .i64 x]).length) * 8 ≤ _; omega, by show 0 + (t.outs.map fun x => [D.int .i64 x]).length ≤ _; omega, isl1⟩ ?_
  refine .mk 1 ⟨frS 43 [(1, .addr 1 0), (2, .addr 2 0), (3, .addr 3 0), (4, i64 0)],
    (1, .box (tpC t)) :: (2, .box [.nils, .nils, i64 0, i64 0]) :: (3, .box [.nils, .own 10 (0 + (t.outs.map fun x => [D.int .i64 x]).length) 1, i64 t.dim, i64 t.par]) :: (10, .row 1 (t.outs.map fun x => [D.int .i64 x]) false) :: [],
    ⟨rfl, rfl, rfl, rfl, trivial⟩, ⟨rfl, rfl, rfl, rfl, trivial⟩, trivial, ?_⟩
  rw [eO2, Nat.zero_add]
  refine .mk (fun h0 => ?_) (fun h0 => ?_)
  · have l0 : 0 < t.code.length := by
      have h0 : (0 : Int) < ((t.code.map inD).length : Int) := of_decide_eq_true h0
      omega
    refine .mk (by omega) ⟨_, _, _, _, _, _, in_getI (by omega) l0, ?_⟩
    refine .by _ ⟨l09To_c t.code[0].n, ?_⟩
    refine .of rfl (.of ⟨Nat.zero_lt_one, (by decide : (1 : Nat) * 80 ≤ 140737488355328), (by decide : (1 : Nat) ≤ 140737488355328), one6⟩ ?_)
    refine .mk Nat (fun k => frS 43 [(1, .addr 1 0), (2, .addr 2 0), (3, .addr 3 0), (4, i64 k)])
      (fun k => (1, .box (tpC t)) :: (2, .box [.nils, .nils, i64 0, i64 0]) :: (3, .box [.own 40 k 6, .own 10 t.outs.length 1, i64 t.dim, i64 t.par]) :: (10, .row 1 (t.outs.map fun x => [D.int .i64 x]) false) :: (40, .row 6 ((t.code.take k).map inD) false) :: [])
      (fun k => k ≤ t.code.length) (fun k => t.code.length - k) 1 l0 ⟨rfl, rfl, rfl, wrapS (k := 0) (by omega), trivial⟩ ⟨rfl, rfl, rfl, rfl, ?_, trivial⟩ trivial ?_
    · show some _ = _
      rw [in_take l0]
      rfl
    · intro k hk
      refine .mk (fun h3 => ?_) (fun h3 => ?_)
      · have h3 : k < t.code.length := by
          have h3 : (k : Int) < ((t.code.map inD).length : Int) := of_decide_eq_true h3
          omega
        refine .mk (by omega) ⟨_, _, _, _, _, _, in_getI (by omega) h3, ?_⟩
        refine .by _ ⟨l09To_c t.code[k].n, ?_⟩
        refine .of rfl (.of ⟨take_len1 hk, rfl, rfl, ?_, ?_, one6⟩ ?_)
        · show (k + 1) * 80 ≤ _; omega
        · show k + 1 ≤ _; omega
        · refine ⟨k + 1, h3, by omega, ⟨rfl, rfl, rfl, wrapS (by omega), trivial⟩, ⟨rfl, rfl, rfl, rfl, ?_, trivial⟩, trivial⟩
          rw [in_take h3]
          rfl
      · have h3 : k = t.code.length := by
          have h3 : ¬ (k : Int) < ((t.code.map inD).length : Int) := of_decide_eq_false h3
          omega
        subst h3
        refine .of ⟨take_len1 hk, rfl⟩ (.of ⟨eO2, rfl⟩ ⟨trivial, ?_⟩)
        rw [List.take_length]
        rfl
  · have l0 : t.code = [] := by
      have h0 : ¬ (0 : Int) < ((t.code.map inD).length : Int) := of_decide_eq_false h0
      exact List.length_eq_zero_iff.1 (by omega)
    refine .of ⟨eO2, rfl⟩ ⟨trivial, ?_⟩
    unfold tpA
    rw [l0]
    rfl
end Go.KM
end
section
/- Contracts: the laws' own: Long (1). -/
namespace Go.KM
open Go RN
def long9 (x : RF) (w : Int) : Bool := decide ((x.n.length : Int) > w) || decide ((x.d.length : Int) > w)
theorem wdLen (l : List Int) : ((l.map fun x => [D.int .u32 x]).length : Int) = (l.length : Int) := by rw [List.length_map]
theorem r09Long_c (x : RF) (w : Int) : CN 19 [fav x, i64 w] [] (.d (.bool (long9 x w))) [] := by
  refine con_of Go.Proofs.Tryz.func19 rfl (by kernel_rfl) (Nat.le_of_ble_eq_true rfl) ?_
  unfold long9
  rw [← wdLen x.n, ← wdLen x.d]
  refine .mk (fun g => ?_) (fun g => ?_)
  · have g : decide (((x.n.map fun x => [D.int .u32 x]).length : Int) > w) = true := g
    rw [g, Bool.true_or]
    exact ⟨trivial, rfl⟩
  · have g : decide (((x.n.map fun x => [D.int .u32 x]).length : Int) > w) = false := g
    rw [g, Bool.false_or]
    exact ⟨trivial, rfl⟩
/-- More than so many, or one of the first so many too long. -/
def long11 (l : List RF) (n : Nat) (w : Int) : Bool := (l.take n).any (fun x => long9 x w) || decide ((l.length : Int) > n)
set_option maxRecDepth 10000 in
theorem r11Long_c (l : List RF) (n : Nat) (w : Int) (hn : n < 2 ^ 30) (hl : l.length < 2 ^ 60) : CN 18 [.d (frs l), i64 n, i64 w] [] (.d (.bool (long11 l n w))) [] := by
  refine con_of Go.Proofs.Tryz.func18 rfl (by kernel_rfl) (Nat.le_of_ble_eq_true rfl) ?_
  have eL := frsLen l
  refine .mk 0 (VLoop.mk Nat (fun k => frS 29 [(0, .d (frs l)), (1, i64 n), (2, i64 w), (7, i64 k)]) (fun _ => []) (fun k => k ≤ n ∧ k ≤ l.length ∧ ∀ i (h : i < l.length), i < k → long9 l[i] w = false) (fun k => n - k) 0 ⟨Nat.zero_le _, Nat.zero_le _, by intro i _ h; omega⟩ ⟨rfl, rfl, rfl, rfl, trivial⟩ trivial trivial ?_)
  intro k ⟨hk1, hk2, hall⟩
  have hnone : ∀ m, m ≤ k → (l.take m).any (fun x => long9 x w) = false := by
    intro m hm
    rw [List.any_eq_false]
    intro x hx
    obtain ⟨i, hi, rfl⟩ := List.mem_iff_getElem.1 hx
    rw [List.length_take] at hi
    rw [List.getElem_take, hall i (by omega) (by omega)]
    decide
  refine .mk (fun g => ?_) (fun g => ?_)
  · have g : k < l.length := by
      have g : (k : Int) < ((l.map fds).length : Int) := of_decide_eq_true g
      omega
    refine .mk (fun g2 => ?_) (fun g2 => ?_)
    · have g2 : k < n := by
        have g2 : (k : Int) < (n : Int) := of_decide_eq_true g2
        omega
      refine .mk (by omega) ⟨_, _, _, frs_getI (by omega) g, ?_⟩
      refine .by _ ⟨r09Long_c l[k] w, ?_⟩
      refine .mk (fun g3 => ?_) (fun g3 => ?_)
      · have e : long11 l n w = true := by
          unfold long11
          rw [List.any_eq_true.2 ⟨l[k], List.mem_take_iff_getElem.2 ⟨k, by omega, rfl⟩, g3⟩, Bool.true_or]
        exact ⟨trivial, by rw [e]; rfl⟩
      · refine ⟨k + 1, ⟨g2, g, fun i hi hlt => ?_⟩, by omega, ⟨rfl, rfl, rfl, wrapS (by omega), trivial⟩, trivial, trivial⟩
        rcases Nat.lt_succ_iff_lt_or_eq.1 hlt with h | h
        · exact hall i hi h
        · subst h; exact g3
    · have g2 : k = n := by
        have g2 : ¬ (k : Int) < (n : Int) := of_decide_eq_false g2
        omega
      refine ⟨trivial, ?_⟩
      unfold long11
      rw [hnone n (by omega), Bool.false_or, ← eL]
      rfl
  · have g : k = l.length := by
      have g : ¬ (k : Int) < ((l.map fds).length : Int) := of_decide_eq_false g
      omega
    refine .no rfl ?_
    refine ⟨trivial, ?_⟩
    unfold long11
    have e : (l.take n).any (fun x => long9 x w) = false := by
      have := hnone k (Nat.le_refl _)
      rw [g, List.take_length] at this
      rw [List.take_of_length_le (by omega)]
      exact this
    rw [e, Bool.false_or, ← eL]
    rfl
end Go.KM
end
section
/- Contracts: the laws' own: Long (2). -/
namespace Go.KM
open Go RN
/-- Where a step begins, and its size. -/
def foA (T H : RF) (Y : List RF) : AV := .agg [.d (.bool T.s), .d (wd T.n), .d (wd T.d), .d (.bool H.s), .d (wd H.n), .d (wd H.d), .d (frs Y)]
def longF (T H : RF) (Y : List RF) : Bool := (long9 T 2 || long9 H 2) || long11 Y 4 2
set_option maxRecDepth 10000 in
theorem l33Long_c (T H : RF) (Y : List RF) (lY : Y.length < 2 ^ 60) : CN 5 [foA T H Y] [] (.d (.bool (longF T H Y))) [] := by
  refine con_of Go.Proofs.Tryz.func5 rfl (by kernel_rfl) (Nat.le_of_ble_eq_true rfl) ?_
  unfold longF
  refine .by _ ⟨r09Long_c T 2, ?_⟩
  refine .mk (fun g => ?_) (fun g => ?_)
  · rw [g, Bool.true_or, Bool.true_or]
    refine .yes rfl ?_
    exact ⟨trivial, rfl⟩
  · rw [g, Bool.false_or]
    refine .by _ ⟨r09Long_c H 2, ?_⟩
    refine .mk (fun g => ?_) (fun g => ?_)
    · rw [g, Bool.true_or]
      exact ⟨trivial, rfl⟩
    · rw [g, Bool.false_or]
      exact .by _ ⟨r11Long_c Y 4 2 (by decide) lY, trivial, rfl⟩
/-- Of a tape: more than so many instructions, or too long a number. -/
def long24 (t : Tp) (n : Nat) (w : Int) : Bool := (t.code.take n).any (fun i => long9 i.n w) || (decide ((t.code.length : Int) > n) || decide ((t.outs.length : Int) > n))
set_option maxHeartbeats 2000000 in
set_option maxRecDepth 10000 in
theorem r24Long_c (t : Tp) (n : Nat) (w : Int) (hn : n < 2 ^ 30) : CN 16 [tpA t, i64 n, i64 w] [] (.d (.bool (long24 t n w))) [] := by
  refine con_of Go.Proofs.Tryz.func16 rfl (by kernel_rfl) (Nat.le_of_ble_eq_true rfl) ?_
  have eL := inLen t.code
  have eO := islLen t.outs
  have fin : (t.code.take n).any (fun i => long9 i.n w) = false → long24 t n w = (decide (((t.code.map inD).length : Int) > n) || decide (((t.outs.map fun x => [D.int .i64 x]).length : Int) > n)) := by
    intro h
    unfold long24
    rw [h, Bool.false_or, eL, eO]
  refine .mk 0 (VLoop.mk Nat (fun k => frS 40 [(1, i64 n), (2, i64 w), (3, .addr 3 0), (7, i64 k)]) (fun _ => [(3, .box (tpC t))]) (fun k => k ≤ n ∧ k ≤ t.code.length ∧ ∀ i (h : i < t.code.length), i < k → long9 t.code[i].n w = false) (fun k => n - k) 0 ⟨Nat.zero_le _, Nat.zero_le _, by intro i _ h; omega⟩ ⟨rfl, rfl, rfl, rfl, trivial⟩ ⟨rfl, trivial⟩ trivial ?_)
  intro k ⟨hk1, hk2, hall⟩
  have hnone : ∀ m, m ≤ k → (t.code.take m).any (fun i => long9 i.n w) = false := by
    intro m hm
    rw [List.any_eq_false]
    intro x hx
    obtain ⟨i, hi, rfl⟩ := List.mem_iff_getElem.1 hx
    rw [List.length_take] at hi
    rw [List.getElem_take, hall i (by omega) (by omega)]
    decide
  refine .mk (fun g => ?_) (fun g => ?_)
  · have g : k < t.code.length := by
      have g : (k : Int) < ((t.code.map inD).length : Int) := of_decide_eq_true g
      omega
    refine .mk (fun g2 => ?_) (fun g2 => ?_)
    · have g2 : k < n := by
        have g2 : (k : Int) < (n : Int) := of_decide_eq_true g2
        omega
      refine .mk (by omega) ⟨_, _, _, _, _, _, in_getI (by omega) g, ?_⟩
      refine .by _ ⟨r09Long_c t.code[k].n w, ?_⟩
      refine .mk (fun g3 => ?_) (fun g3 => ?_)
      · have e : long24 t n w = true := by
          unfold long24
          rw [List.any_eq_true.2 ⟨t.code[k], List.mem_take_iff_getElem.2 ⟨k, by omega, rfl⟩, g3⟩, Bool.true_or]
        exact ⟨trivial, by rw [e]; rfl⟩
      · refine ⟨k + 1, ⟨g2, g, fun i hi hlt => ?_⟩, by omega, ⟨rfl, rfl, rfl, wrapS (by omega), trivial⟩, ⟨rfl, trivial⟩, trivial⟩
        rcases Nat.lt_succ_iff_lt_or_eq.1 hlt with h | h
        · exact hall i hi h
        · subst h; exact g3
    · have g2 : k = n := by
        have g2 : ¬ (k : Int) < (n : Int) := of_decide_eq_false g2
        omega
      rw [fin (hnone n (by omega))]
      refine .mk (fun g3 => ?_) (fun g3 => ?_)
      · rw [show decide (((t.code.map inD).length : Int) > n) = true from g3, Bool.true_or]
        exact ⟨trivial, rfl⟩
      · rw [show decide (((t.code.map inD).length : Int) > n) = false from g3, Bool.false_or]
        exact ⟨trivial, rfl⟩
  · have g : k = t.code.length := by
      have g : ¬ (k : Int) < ((t.code.map inD).length : Int) := of_decide_eq_false g
      omega
    refine .no rfl ?_
    have e : (t.code.take n).any (fun i => long9 i.n w) = false := by
      have := hnone k (Nat.le_refl _)
      rw [g, List.take_length] at this
      rw [List.take_of_length_le (by omega)]
      exact this
    rw [fin e]
    refine .mk (fun g3 => ?_) (fun g3 => ?_)
    · rw [show decide (((t.code.map inD).length : Int) > n) = true from g3, Bool.true_or]
      exact ⟨trivial, rfl⟩
    · rw [show decide (((t.code.map inD).length : Int) > n) = false from g3, Bool.false_or]
      exact ⟨trivial, rfl⟩
end Go.KM
end
section
/- Contracts: the laws' own: Long (3). -/
namespace Go.KM
open Go RN
def long30 (s : Sc) (n : Nat) (w : Int) : Bool := (((((decide ((s.name.size : Int) > 50) || decide ((s.a.length : Int) > n)) || long11 s.b n w) || long11 s.c n w) || long11 s.e n w) || s.a.any fun r => long11 r n w)
structure scLen60 (s : Sc) : Prop where
  c : s.c.length < 2 ^ 60
  a : s.a.length < 2 ^ 60
  ar : ∀ r ∈ s.a, r.length < 2 ^ 60
  b : s.b.length < 2 ^ 60
  e : s.e.length < 2 ^ 60
set_option maxHeartbeats 4000000 in
set_option maxRecDepth 10000 in
theorem r30Long_c (s : Sc) (n : Nat) (w : Int) (hn : n < 2 ^ 30) (h : scLen60 s) : CN 17 [scA s, i64 n, i64 w] [] (.d (.bool (long30 s n w))) [] := by
  refine con_of Go.Proofs.Tryz.func17 rfl (by kernel_rfl) (Nat.le_of_ble_eq_true rfl) ?_
  have eA := frssLen s.a
  unfold long30
  refine .mk (fun g => ?_) (fun g => ?_)
  · have g : decide ((s.name.size : Int) > 50) = true := g
    rw [g, Bool.true_or, Bool.true_or, Bool.true_or, Bool.true_or, Bool.true_or]
    refine .yes rfl ?_
    refine .yes rfl ?_
    refine .yes rfl ?_
    refine .yes rfl ?_
    exact ⟨trivial, rfl⟩
  have g : decide ((s.name.size : Int) > 50) = false := g
  rw [g, Bool.false_or]
  clear g
  refine .mk (fun g => ?_) (fun g => ?_)
  · have g : decide (((s.a.map fun r => [frs r]).length : Int) > n) = true := g
    rw [eA] at g
    rw [g, Bool.true_or, Bool.true_or, Bool.true_or, Bool.true_or]
    refine .yes rfl ?_
    refine .yes rfl ?_
    refine .yes rfl ?_
    exact ⟨trivial, rfl⟩
  have g : decide (((s.a.map fun r => [frs r]).length : Int) > n) = false := g
  rw [eA] at g
  have ga : ¬ (s.a.length : Int) > n := of_decide_eq_false g
  rw [g, Bool.false_or]
  clear g
  refine .by _ ⟨r11Long_c s.b n w hn h.b, ?_⟩
  refine .mk (fun g => ?_) (fun g => ?_)
  · rw [g, Bool.true_or, Bool.true_or, Bool.true_or]
    refine .yes rfl ?_
    refine .yes rfl ?_
    exact ⟨trivial, rfl⟩
  rw [g, Bool.false_or]
  clear g
  refine .by _ ⟨r11Long_c s.c n w hn h.c, ?_⟩
  refine .mk (fun g => ?_) (fun g => ?_)
  · rw [g, Bool.true_or, Bool.true_or]
    refine .yes rfl ?_
    exact ⟨trivial, rfl⟩
  rw [g, Bool.false_or]
  clear g
  refine .by _ ⟨r11Long_c s.e n w hn h.e, ?_⟩
  refine .mk (fun g => ?_) (fun g => ?_)
  · rw [g, Bool.true_or]
    exact ⟨trivial, rfl⟩
  rw [g, Bool.false_or]
  clear g
  refine .mk 0 (VLoop.mk Nat (fun k => frS 55 [(1, i64 n), (2, i64 w), (3, .addr 3 0), (7, i64 k)]) (fun _ => [(3, .box (scC s))]) (fun k => k ≤ s.a.length ∧ ∀ i (h : i < s.a.length), i < k → long11 s.a[i] n w = false) (fun k => s.a.length - k) 0 ⟨Nat.zero_le _, by intro i _ h; omega⟩ ⟨rfl, rfl, rfl, rfl, trivial⟩ ⟨rfl, trivial⟩ trivial ?_)
  intro k ⟨hk, hall⟩
  refine .mk (fun g => ?_) (fun g => ?_)
  · have g : k < s.a.length := by
      have g : (k : Int) < ((s.a.map fun r => [frs r]).length : Int) := of_decide_eq_true g
      omega
    refine .mk (by omega) ⟨_, frss_getI (by omega) g, ?_⟩
    refine .by _ ⟨r11Long_c s.a[k] n w hn (h.ar _ (List.getElem_mem g)), ?_⟩
    refine .mk (fun g3 => ?_) (fun g3 => ?_)
    · have e : (s.a.any fun r => long11 r n w) = true := List.any_eq_true.2 ⟨_, List.getElem_mem g, g3⟩
      exact ⟨trivial, by rw [e]; rfl⟩
    · refine ⟨k + 1, ⟨g, fun i hi hlt => ?_⟩, by omega, ⟨rfl, rfl, rfl, wrapS (by omega), trivial⟩, ⟨rfl, trivial⟩, trivial⟩
      rcases Nat.lt_succ_iff_lt_or_eq.1 hlt with h | h
      · exact hall i hi h
      · subst h; exact g3
  · have g : k = s.a.length := by
      have g : ¬ (k : Int) < ((s.a.map fun r => [frs r]).length : Int) := of_decide_eq_false g
      omega
    subst g
    have e : (s.a.any fun r => long11 r n w) = false := by
      rw [List.any_eq_false]
      intro x hx
      obtain ⟨i, hi, rfl⟩ := List.mem_iff_getElem.1 hx
      rw [hall i hi hi]
      decide
    exact ⟨trivial, by rw [e]; rfl⟩
end Go.KM
end
section
/- Contracts: the laws' own: Long (4). -/
namespace Go.KM
open Go RN
def long33 (p : Pr) (a b : Nat) (w : Int) : Bool := (long24 p.tp a w || long30 p.sc b 4) || long11 p.P 6 w
set_option maxRecDepth 10000 in
theorem r33Long_c (p : Pr) (a b : Nat) (w : Int) (ha : a < 2 ^ 30) (hb : b < 2 ^ 30) (h : scLen60 p.sc) (lP : p.P.length < 2 ^ 60) : CN 4 [prA p, i64 a, i64 b, i64 w] [] (.d (.bool (long33 p a b w))) [] := by
  refine con_of Go.Proofs.Tryz.func4 rfl (by kernel_rfl) (Nat.le_of_ble_eq_true rfl) ?_
  unfold long33
  refine .by _ ⟨r24Long_c p.tp a w ha, ?_⟩
  refine .mk (fun g => ?_) (fun g => ?_)
  · rw [g, Bool.true_or, Bool.true_or]
    refine .yes rfl ?_
    exact ⟨trivial, rfl⟩
  · rw [g, Bool.false_or]
    refine .by _ ⟨r30Long_c p.sc b 4 hb h, ?_⟩
    refine .mk (fun g => ?_) (fun g => ?_)
    · rw [g, Bool.true_or]
      exact ⟨trivial, rfl⟩
    · rw [g, Bool.false_or]
      exact .by _ ⟨r11Long_c p.P 6 w (by decide) lP, trivial, rfl⟩
end Go.KM
end
section
/- A step of size 0; a step's first stage: plain laws. -/
namespace Go.KM
open Go RN
theorem scl_zero {l : List Rat} : scl 0 l = List.replicate l.length 0 := by
  unfold scl
  induction l with
  | nil => rfl
  | cons x r ih => rw [List.map_cons, ih, Rat.zero_mul]; rfl
theorem sums_rep {l : List Rat} {n : Nat} (h : l.length = n) : sums l (List.replicate n 0) = l := by
  subst h
  unfold sums
  induction l with
  | nil => rfl
  | cons x r ih =>
    rw [List.length_cons, List.replicate_succ, List.zipWith_cons_cons, ih, Rat.add_zero]
theorem scl_rep {h : Rat} {n : Nat} : scl h (List.replicate n 0) = List.replicate n 0 := by
  unfold scl
  rw [List.map_replicate, Rat.mul_zero]
theorem twd_zero {c : List Rat} {ks : List (List Rat)} {n : Nat} (h : ∀ r ∈ ks, r.length = n) : twd 0 c ks n = List.replicate n 0 := by
  rw [twd, scl_zero, mixk_len h _ (Nat.le_refl _)]
theorem frmS_zero {H : RF} {Y c : List RF} {ks : List (List Rat)} (hH : H.val = 0) (h : ∀ r ∈ ks, r.length = Y.length) : frmS H Y c ks = vals Y := by
  rw [frmS, hH, twd_zero h, sums_rep vals_len]
theorem stY_first (p : Pr) (H : RF) (Y : List RF) : stY p H Y [] 0 = vals Y := by
  rw [stY, frmS, twd]
  show sums (vals Y) (scl H.val (List.replicate Y.length 0)) = vals Y
  rw [scl_rep, sums_rep vals_len]
theorem mxa_rep (n : Nat) : mxa (List.replicate n 0) = 0 := by
  unfold mxa
  induction n with
  | zero => rfl
  | succ n ih => 
    rw [List.replicate_succ, List.foldl_cons]
    have e : (if (0 : Rat) < (0 : Rat).abs then (0 : Rat).abs else 0) = 0 := by
      rw [Rat.abs_of_nonneg (by decide)]
      exact if_neg (by decide)
    rw [e]
    exact ih
theorem tapeS_cq (tp : Tp) (T : RF) (Y P : List RF) (bits : Int) : tapeS tp (cq T.val) (cqs (vals Y)) P bits = tapeS tp T Y P bits := by
  unfold tapeS
  rw [cq_val, vals_cqs]
theorem momS_first {p : Pr} {T H : RF} (hs : scW p.sc = 0) : momS p T H 0 = T.val := by
  obtain ⟨b1, b2, b3, b4, b5⟩ := scW_shape hs
  have hr := (scW_zero.1 hs).2.2.2.2.1
  have := all_range.1 hr 0 (by omega)
  rw [decide_eq_true_eq, a_getD (by omega : 0 < p.sc.a.length), List.length_eq_zero_iff.1 (scW_row hs (by omega : 0 < p.sc.a.length)), getD_vals (by omega : 0 < p.sc.c.length)] at this
  unfold momS
  rw [rf_getD (by omega : 0 < p.sc.c.length), ← this]
  show T.val + H.val * 0 = T.val
  rw [Rat.mul_zero, Rat.add_zero]
end Go.KM
end
section
/- What a made step holds: plain laws. -/
namespace Go.KM
open Go RN
theorem tailG_end {p : Pr} {H : RF} {Y : List RF} {lim : Int} {k : Nat} {ys ks : List (List Rat)} {s q : Int} (h : (tailG p H Y lim k ys ks s q).fk = 0) :
    (tailG p H Y lim k ys ks s q).nx = some (fqs (nxS p H Y ks)) ∧ ((tailG p H Y lim k ys ks s q).er = none ∨ (tailG p H Y lim k ys ks s q).er = some (fqs (erS p H Y ks))) := by
  unfold tailG at *
  cases hf : fitK lim (cqs (nxS p H Y ks)) with
  | some r => rw [hf] at h; exact absurd h (by decide : ¬ (6 : Int) = 0)
  | none =>
    rw [hf] at h
    simp only at h ⊢
    cases hf2 : fitK lim (cqs (if (gapS p.sc).length = 0 then [] else erS p H Y ks)) with
    | some r => rw [hf2] at h; exact absurd h (by decide : ¬ (6 : Int) = 0)
    | none =>
      refine ⟨rfl, ?_⟩
      by_cases g : (gapS p.sc).length = 0
      · exact .inl (if_pos g)
      · exact .inr (if_neg g)
theorem allG_end {p : Pr} {T H : RF} {Y : List RF} {lim : Int} (hd : p.tp.outs.length = Y.length) : ∀ (m k : Nat) (ys ks : List (List Rat)) (s q : Int), (∀ r ∈ ks, r.length = Y.length) → (allG p T H Y lim m k ys ks s q).fk = 0 →
    (∃ a b, (allG p T H Y lim m k ys ks s q).ys = ys ++ a ∧ (allG p T H Y lim m k ys ks s q).ks = ks ++ b) ∧
    (∀ r ∈ (allG p T H Y lim m k ys ks s q).ks, r.length = Y.length) ∧
    (allG p T H Y lim m k ys ks s q).nx = some (fqs (nxS p H Y (allG p T H Y lim m k ys ks s q).ks)) ∧
    ((allG p T H Y lim m k ys ks s q).er = none ∨ (allG p T H Y lim m k ys ks s q).er = some (fqs (erS p H Y (allG p T H Y lim m k ys ks s q).ks)))
  | 0, k, ys, ks, s, q, hr, h => by
    rw [allG] at h ⊢
    obtain ⟨a1, a2, a3, a4, a5⟩ := tailG_ok h
    obtain ⟨b1, b2⟩ := tailG_end h
    refine ⟨⟨[], [], by rw [a4, List.append_nil], by rw [a5, List.append_nil]⟩, ?_, ?_, ?_⟩
    · rw [a5]; exact hr
    · rw [b1, a5]
    · rw [a5]; exact b2
  | m + 1, k, ys, ks, s, q, hr, h => by
    rw [allG] at h ⊢
    cases hf : fitK lim (cqs (stY p H Y ks k)) with
    | some r => rw [hf] at h; exact absurd h (by decide : ¬ (6 : Int) = 0)
    | none =>
      rw [hf] at h
      simp only at h ⊢
      split at h
      · rename_i g
        rw [if_pos g]
        obtain ⟨⟨a, b, e1, e2⟩, e3, e4, e5⟩ := allG_end hd m _ _ _ _ _ (by
          intro r hr'
          rcases List.mem_append.1 hr' with h' | h'
          · exact hr r h'
          · rw [List.mem_singleton.1 h', stK_len g, hd]) h
        exact ⟨⟨_ :: a, _ :: b, by rw [e1, List.append_assoc]; rfl, by rw [e2, List.append_assoc]; rfl⟩, e3, e4, e5⟩
      · rename_i g
        exact absurd h g
end Go.KM
end
section
/- What Long's false says. -/
namespace Go.KM
open Go RN
/-- Words of 32 bits. -/
def wfR (x : RF) : Prop := WF x.n ∧ WF x.d
theorem long9_ok {x : RF} {w : Nat} (h : long9 x w = false) (hw : wfR x) : x.ok w := by
  unfold long9 at h
  rw [Bool.or_eq_false_iff, decide_eq_false_iff_not, decide_eq_false_iff_not] at h
  exact ⟨hw.1, hw.2, by omega, by omega⟩
theorem long11_ok {l : List RF} {n w : Nat} (h : long11 l n w = false) (hw : ∀ x ∈ l, wfR x) : l.length ≤ n ∧ oks w l := by
  unfold long11 at h
  rw [Bool.or_eq_false_iff, decide_eq_false_iff_not, List.any_eq_false] at h
  have hl : l.length ≤ n := by omega
  refine ⟨hl, fun x hx => ?_⟩
  have := h.1 x (by rw [List.take_of_length_le hl]; exact hx)
  exact long9_ok (by simpa using this) (hw x hx)
theorem long24_ok {t : Tp} {n w : Nat} (h : long24 t n w = false) (hw : ∀ i ∈ t.code, wfR i.n) : t.code.length ≤ n ∧ t.outs.length ≤ n ∧ iok w t.code := by
  unfold long24 at h
  rw [Bool.or_eq_false_iff, Bool.or_eq_false_iff, decide_eq_false_iff_not, decide_eq_false_iff_not, List.any_eq_false] at h
  have hl : t.code.length ≤ n := by omega
  refine ⟨hl, by omega, fun i hi => ?_⟩
  have := h.1 i (by rw [List.take_of_length_le hl]; exact hi)
  exact long9_ok (by simpa using this) (hw i hi)
structure wfS (s : Sc) : Prop where
  c : ∀ x ∈ s.c, wfR x
  a : ∀ r ∈ s.a, ∀ x ∈ r, wfR x
  b : ∀ x ∈ s.b, wfR x
  e : ∀ x ∈ s.e, wfR x
theorem long30_ok {s : Sc} {n w : Nat} (h : long30 s n w = false) (hw : wfS s) : s.name.size ≤ 50 ∧ s.a.length ≤ n ∧ s.b.length ≤ n ∧ s.c.length ≤ n ∧ s.e.length ≤ n ∧ (∀ r ∈ s.a, r.length ≤ n) ∧ oks w s.b ∧ oks w s.c ∧ oks w s.e ∧ ∀ r ∈ s.a, oks w r := by
  unfold long30 at h
  rw [Bool.or_eq_false_iff, Bool.or_eq_false_iff, Bool.or_eq_false_iff, Bool.or_eq_false_iff, Bool.or_eq_false_iff, decide_eq_false_iff_not, decide_eq_false_iff_not, List.any_eq_false] at h
  obtain ⟨⟨⟨⟨⟨h1, h2⟩, h3⟩, h4⟩, h5⟩, h6⟩ := h
  obtain ⟨b1, b2⟩ := long11_ok h3 hw.b
  obtain ⟨c1, c2⟩ := long11_ok h4 hw.c
  obtain ⟨e1, e2⟩ := long11_ok h5 hw.e
  have ha : ∀ r ∈ s.a, r.length ≤ n ∧ oks w r := fun r hr => long11_ok (by have := h6 r hr; simpa using this) (hw.a r hr)
  exact ⟨by omega, by omega, b1, c1, e1, fun r hr => (ha r hr).1, b2, c2, e2, fun r hr => (ha r hr).2⟩
structure wfP (p : Pr) : Prop where
  code : ∀ i ∈ p.tp.code, wfR i.n
  sc : wfS p.sc
  P : ∀ x ∈ p.P, wfR x
theorem long33_ok {p : Pr} (h : long33 p 10 4 2 = false) (hw : wfP p) : prOk 129 p ∧ scLen p.sc ∧ p.tp.code.length ≤ 10 ∧ p.tp.outs.length ≤ 10 ∧ p.P.length ≤ 6 := by
  unfold long33 at h
  rw [Bool.or_eq_false_iff, Bool.or_eq_false_iff] at h
  obtain ⟨⟨h1, h2⟩, h3⟩ := h
  obtain ⟨a1, a2, a3⟩ := long24_ok (w := 2) h1 hw.code
  obtain ⟨b1, b2, b3, b4, b5, b6, b7, b8, b9, b10⟩ := long30_ok (w := 4) h2 hw.sc
  obtain ⟨c1, c2⟩ := long11_ok (w := 2) h3 hw.P
  refine ⟨⟨fun i hi => (a3 i hi).mono (by decide), ⟨fun x hx => (b8 x hx).mono (by decide), fun r hr x hx => (b10 r hr x hx).mono (by decide), fun x hx => (b7 x hx).mono (by decide), fun x hx => (b9 x hx).mono (by decide), by omega⟩, fun x hx => (c2 x hx).mono (by decide), by omega, by omega, by omega⟩, ⟨by omega, by omega, fun r hr => by have := b6 r hr; omega, by omega, by omega⟩, a1, a2, c1⟩
end Go.KM
end
