/- The law StepStands of the given program answers true for every input.  Part 7 of 10: C28, C29, C30, C31, C32, C33, C34, C35, PG, C36, C37, C38, C39, C40, C41, L1, C42. -/
import Derived.Test.YtdiojmcleapkdaaGreatDoorM6
import Derived.WalkKit
import Derived.Laws.RangeString
import Derived.Laws.Strings3
import Derived.Deep.LoopGhost
import Derived.Lib.Strings
set_option linter.all false
section
/- Contracts: row (3). -/
namespace Go.KM
open Go RN
theorem clamp300 {n : Nat} (h : n ≤ 300) : (if (300 : Int) < (if (0 : Int) > (n : Int) then 0 else (n : Int)) then 300 else (if (0 : Int) > (n : Int) then 0 else (n : Int))) = (n : Int) := by
  rw [if_neg (show ¬ (0 : Int) > (n : Int) by omega), if_neg (by omega)]
/-- So many noughts, put right, and such that are not yet. -/
def zrow (n k : Nat) : List RF := List.replicate k (cq 0) ++ List.replicate (n - k) ⟨false, [], []⟩
theorem zrow_len {n k : Nat} (h : k ≤ n) : ((zrow n k).map fds).length = n := by
  simp [zrow]; omega
theorem zrow_set {n k : Nat} (h : k < n) : ((zrow n k).map fds).set k (fds (cq 0)) = (zrow n (k + 1)).map fds := by
  rw [← List.map_set]
  congr 1
  unfold zrow
  rw [show n - k = (n - (k + 1)) + 1 by omega, List.replicate_succ, List.set_append_right _ _ (by simp)]
  rw [List.length_replicate, Nat.sub_self, List.set_cons_zero, List.replicate_succ', List.append_assoc]
  rfl
section
variable {L : Nat}
set_option maxRecDepth 10000 in
/-- row.Zero, one's own row. -/
theorem rowZero_own (n : Nat) (hn : n ≤ 300) : CN 107 [i64 n] [] (.own 9 n 3) [(9, .row 3 ((List.replicate n (cq 0)).map fds) false)] := by
  refine conF_of Go.Proofs.Tryz.func107 rfl (by kernel_rfl) trivial (Nat.le_of_ble_eq_true rfl) ?_
  have e := clamp300 hn
  refine .of ⟨rfl, by rw [e]; omega, by rw [e]; show (n : Int) * 56 ≤ 140737488355328; omega, by rw [e]; omega⟩ ?_
  refine .mk 0 (VLoop.mk Nat (fun k => frm 20 [.any, .any, .any, .own 9 n 3, .any, .any, .any, .any, .any, .any, i64 n, i64 k]) (fun k => [(9, .row 3 ((zrow n k).map fds) false)])
    (fun k => k ≤ n) (fun k => n - k) 0 (Nat.zero_le _) ⟨by rw [e]; rfl, by rw [e], rfl, trivial⟩ ⟨?_, trivial⟩ trivial ?_)
  · show some (Blk.row 3 (List.replicate (Int.toNat _) _) false) = _
    rw [e, Int.toNat_natCast]
    unfold zrow
    rw [List.replicate_zero, List.nil_append, Nat.sub_zero, List.map_replicate]
    rfl
  · intro k hk
    refine .mk (fun h3 => ?_) (fun h3 => ?_)
    · have h3 : k < n := by simpa using h3
      refine .by _ ⟨frOf_c 0 (by decide) (by decide), ?_⟩
      refine .of ⟨by omega, by omega⟩ ?_
      refine .of ⟨zrow_len hk, rfl, rfl, by omega⟩ ?_
      refine ⟨k + 1, h3, by omega, ⟨rfl, rfl, wrapS (by omega), trivial⟩, ⟨?_, trivial⟩, trivial⟩
      rw [← zrow_set h3]
      rfl
    · have h3 : k = n := by
        have : ¬ (k : Int) < n := of_decide_eq_false h3
        omega
      subst h3
      exact ⟨⟨by unfold zrow; rw [Nat.sub_self, List.replicate_zero, List.append_nil]; rfl, trivial⟩, rfl⟩
theorem rowZero_at (d n : Nat) (hn : n ≤ 300) : CN 107 [i64 n] [] (.own d n 3) [(d, .row 3 ((List.replicate n (cq 0)).map fds) false)] := by
  have := (rowZero_own n hn).ren (swp_swap 9 d)
  simp only [renAV.renAVs, renAV, renMem, renBlk, swp_a, i64] at this
  exact this
theorem rowNorm_at (d : Nat) (a : List RF) (ha : oks L a) (h1 : 1 ≤ L) (hL : L < 2 ^ 35) (la : a.length < 2 ^ 30) (h0 : a ≠ []) : CN 105 [.d (frs a)] [] (.own d a.length 3) [(d, .row 3 ((cqs (vals a)).map fds) false)] := by
  have := (rowNorm_own a ha h1 hL la h0).ren (swp_swap 16 d)
  simp only [renAV.renAVs, renAV, renMem, renBlk, swp_a, frs] at this
  exact this
end
end Go.KM
end
section
/- Contracts: row (4). -/
namespace Go.KM
open Go RN
/-- A list in work: so many are done. -/
def mid {α : Type} (P Q : List α) (k : Nat) : List α := P.take k ++ Q.drop k
section
variable {α β : Type} {P Q : List α} {k : Nat}
theorem mid_len (h : P.length = Q.length) (hk : k ≤ Q.length) : (mid P Q k).length = Q.length := by
  unfold mid; rw [List.length_append, List.length_take, List.length_drop]; omega
theorem mid_get (h : P.length = Q.length) (hk : k < Q.length) : (mid P Q k)[k]? = some Q[k] := by
  unfold mid
  have e : (P.take k).length = k := by rw [List.length_take]; omega
  rw [List.getElem?_append_right (by omega), e, Nat.sub_self, List.getElem?_drop, Nat.add_zero, List.getElem?_eq_getElem hk]
theorem mid_set (h : P.length = Q.length) (hk : k < Q.length) : (mid P Q k).set k (P[k]'(by omega)) = mid P Q (k + 1) := by
  have hk' : k < P.length := by omega
  unfold mid
  have e : (P.take k).length = k := by rw [List.length_take]; omega
  rw [List.set_append_right _ _ (by omega), e, Nat.sub_self, List.drop_eq_getElem_cons hk, List.set_cons_zero, List.take_succ_eq_append_getElem hk', List.append_assoc]
  rfl
theorem mid_zero : mid P Q 0 = Q := rfl
theorem mid_all (h : P.length = Q.length) : mid P Q Q.length = P := by
  unfold mid; rw [List.drop_length, List.append_nil, ← h, List.take_length]
theorem mid_map (f : α → β) : (mid P Q k).map f = mid (P.map f) (Q.map f) k := by
  unfold mid; rw [List.map_append, List.map_take, List.map_drop]
end
/-- The sum of two rows' values. -/
def sums (a b : List Rat) : List Rat := List.zipWith (· + ·) a b
theorem sums_len {a b : List Rat} (h : a.length = b.length) : (sums a b).length = a.length := by
  unfold sums; rw [List.length_zipWith]; omega
theorem frs_mid {P Q : List RF} {k : Nat} {i : Int} (e : i.toNat = k) (h : P.length = Q.length) (hk : k < Q.length) : ((mid P Q k).map fds)[i.toNat]? = some (fds Q[k]) := by
  rw [e, List.getElem?_map, mid_get h hk]; rfl
theorem set_mid {P Q : List RF} {k : Nat} {i : Int} {x : RF} (e : i.toNat = k) (h : P.length = Q.length) (hk : k < Q.length) (ex : x = P[k]'(by omega)) : ((mid P Q k).map fds).set i.toNat (fds x) = (mid P Q (k + 1)).map fds := by
  rw [e, ex, ← List.map_set, mid_set h hk]
theorem len_mid {P Q : List RF} {k n : Nat} (h : P.length = Q.length) (hk : k ≤ Q.length) (e : Q.length = n) : ((mid P Q k).map fds).length = n := by
  rw [List.length_map, mid_len h hk, e]
section
variable {L M : Nat}
theorem cqs_len {l : List Rat} : (cqs l).length = l.length := by simp [cqs]
theorem vals_len {l : List RF} : (vals l).length = l.length := by simp [vals]
theorem rowNorm_nil : CN 105 [.d (.sl [])] [] (.d (.sl [])) [] := by
  refine con_of Go.Proofs.Tryz.func105 rfl (by kernel_rfl) (Nat.le_of_ble_eq_true rfl) ?_
  refine .mk 1 ⟨frm 19 [.d (.sl []), .any, .any, .nils, .any, .any, .d (.sl []), i64 0, i64 0], [], ⟨rfl, rfl, rfl, rfl, rfl, trivial⟩, trivial, trivial, ?_⟩
  refine .no rfl ?_
  exact ⟨trivial, rfl⟩
/-- row.norm, as data. -/
theorem rowNorm_d (a : List RF) (ha : oks L a) (h1 : 1 ≤ L) (hL : L < 2 ^ 35) (la : a.length < 2 ^ 30) : CN 105 [.d (frs a)] [] (.d (fqs (vals a))) [] := by
  by_cases h0 : a = []
  · subst h0; exact rowNorm_nil
  · exact Con.lend (by simp [cqs, vals]) (rowNorm_at 16 a ha h1 hL la h0)
theorem two1 {x y : D} : ∀ z ∈ [[x], [y]], z.length = 1 := by
  intro z hz; simp at hz; rcases hz with rfl | rfl <;> rfl
set_option maxRecDepth 10000 in
/-- row.Add of rows of unlike lengths. -/
theorem rowAdd_no (a b : List RF) (ha : oks L a) (h1 : 1 ≤ L) (hL : L < 2 ^ 35) (la : a.length < 2 ^ 30) (lb : b.length < 2 ^ 30) (hl : a.length ≠ b.length) :
    CN 73 [.d (.sl [[frs a], [frs b]])] [] (.tup [.d (.sl []), .d (.bool false)]) [] := by
  refine con_of Go.Proofs.Tryz.func73 rfl (by kernel_rfl) (Nat.le_of_ble_eq_true rfl) ?_
  refine .no rfl ?_
  refine .mk (by decide) ⟨_, rfl, ?_⟩
  refine .by _ ⟨rowNorm_d a ha h1 hL la, ?_⟩
  refine .of ⟨by decide, (by decide : (1 : Int) ≤ 2), (by decide : (2 : Int) ≤ 2), two1⟩ ?_
  refine .mk 1 ⟨frm 47 [.any, .any, .any, .any, .d (fqs (vals a)), .any, .any, .any, .any, .any, .any, .any, .any, .any, .any, .any, .any, .d (.sl [[frs b]]), i64 1, i64 0], [], ⟨rfl, rfl, rfl, rfl, trivial⟩, trivial, trivial, ?_⟩
  refine .yes rfl ?_
  refine .mk (by decide) ⟨_, rfl, ?_⟩
  refine .yes (by rw [List.length_map, List.length_map, cqs_len, vals_len]; simp; omega) ?_
  exact ⟨trivial, rfl⟩
set_option maxRecDepth 10000 in
theorem rowAdd_nil : CN 73 [.d (.sl [[.sl []], [.sl []]])] [] (.tup [.d (.sl []), .d (.bool true)]) [] := by
  refine con_of Go.Proofs.Tryz.func73 rfl (by kernel_rfl) (Nat.le_of_ble_eq_true rfl) ?_
  refine .no rfl ?_
  refine .mk (by decide) ⟨_, rfl, ?_⟩
  refine .by _ ⟨rowNorm_nil, ?_⟩
  refine .of ⟨by decide, (by decide : (1 : Int) ≤ 2), (by decide : (2 : Int) ≤ 2), two1⟩ ?_
  refine .mk 2 ⟨frm 47 [.any, .any, .any, .any, .d (.sl []), .any, .any, .any, .any, .any, .any, .any, .any, .any, .any, .any, .any, .d (.sl [[.sl []]]), i64 1, i64 0], [], ⟨rfl, rfl, rfl, rfl, trivial⟩, trivial, trivial, ?_⟩
  refine .yes rfl ?_
  refine .mk (by decide) ⟨_, rfl, ?_⟩
  refine .no rfl ?_
  refine .mk 1 ⟨frm 47 [.any, .any, .any, .any, .d (.sl []), .any, .any, .any, .any, .any, .any, .any, .any, .any, .any, .any, .any, .d (.sl [[.sl []]]), i64 1, i64 0, .any, .any, .any, .any, .any, .any, .any, .any, .d (.sl []), i64 0, i64 0], [], ⟨rfl, rfl, rfl, rfl, rfl, rfl, rfl, trivial⟩, trivial, trivial, ?_⟩
  refine .no rfl ?_
  refine ⟨frm 47 [.any, .any, .any, .any, .d (.sl []), .any, .any, .any, .any, .any, .any, .any, .any, .any, .any, .any, .any, .d (.sl [[.sl []]]), i64 1, i64 1], [], ⟨rfl, rfl, rfl, rfl, trivial⟩, trivial, trivial, ?_⟩
  refine .no rfl ?_
  exact ⟨trivial, rfl⟩
set_option maxRecDepth 10000 in
/-- row.Add of two rows. -/
theorem rowAdd_c (a b : List RF) (ha : oks L a) (hb : oks M b) (h1 : 1 ≤ L) (hL : L < 2 ^ 34) (m1 : 1 ≤ M) (hM : M < 2 ^ 34) (la : a.length < 2 ^ 30) (hl : a.length = b.length) :
    CN 73 [.d (.sl [[frs a], [frs b]])] [] (.tup [.d (fqs (sums (vals a) (vals b))), .d (.bool true)]) [] := by
  by_cases h0 : a = []
  · subst h0
    have : b = [] := List.length_eq_zero_iff.1 hl.symm
    subst this
    exact rowAdd_nil
  refine con_of Go.Proofs.Tryz.func73 rfl (by kernel_rfl) (Nat.le_of_ble_eq_true rfl) ?_
  refine .no rfl ?_
  refine .mk (by decide) ⟨_, rfl, ?_⟩
  · refine .new 15 _ _ rfl ⟨rowNorm_at 15 a ha h1 (by omega) la h0, ?_⟩
    refine .of ⟨by decide, (by decide : (1 : Int) ≤ 2), (by decide : (2 : Int) ≤ 2), by intro z hz; simp at hz; rcases hz with rfl | rfl <;> rfl⟩ ?_
    have eP : (cqs (sums (vals a) (vals b))).length = (cqs (vals a)).length := by rw [cqs_len, cqs_len, sums_len (by rw [vals_len, vals_len, hl])]
    have eQ : (cqs (vals a)).length = a.length := by rw [cqs_len, vals_len]
    refine .mk 2 ⟨frm 47 [.any, .any, .any, .any, .own 15 a.length 3, .any, .any, .any, .any, .any, .any, .any, .any, .any, .any, .any, .any, .d (.sl [[frs b]]), i64 1, i64 0], [(15, .row 3 ((cqs (vals a)).map fds) false)], ⟨rfl, rfl, rfl, rfl, trivial⟩, ⟨rfl, trivial⟩, trivial, ?_⟩
    refine .yes rfl ?_
    refine .mk (by decide) ⟨_, rfl, ?_⟩
    refine .no (by rw [List.length_map, hl]; simp) ?_
    refine .mk 0 (VLoop.mk Nat (fun k => frm 47 [.any, .any, .any, .any, .own 15 a.length 3, .any, .d (frs b), .any, .any, .any, .any, .any, .any, .any, .any, .any, .any, .d (.sl [[frs b]]), i64 1, i64 0, .any, .any, .any, .any, .any, .any, .any, .any, .d (frs b), i64 b.length, i64 k]) (fun k => [(15, .row 3 ((mid (cqs (sums (vals a) (vals b))) (cqs (vals a)) k).map fds) false)])
      (fun k => k ≤ b.length) (fun k => b.length - k) 0 (Nat.zero_le _) ⟨rfl, rfl, rfl, rfl, rfl, rfl, lenD b, rfl, trivial⟩ ⟨rfl, trivial⟩ trivial ?_)
    intro k hk
    refine .mk (fun h3 => ?_) (fun h3 => ?_)
    · have h3 : k < b.length := by simpa using h3
      have h3' : k < a.length := by omega
      refine .mk (by omega) ⟨_, _, _, frs_getI (by omega) h3, ?_⟩
      refine .of ⟨by omega, by omega⟩ ?_
      refine .of (len_mid eP (by omega) eQ) ?_
      refine .mk (by omega) ⟨_, _, _, frs_mid (by omega) eP (by omega), ?_⟩
      have ev : (cqs (vals a))[k]'(by omega) = cq a[k].val := by simp [cqs, vals]
      have hn := nw_val (oks_get ha h3') h1
      have hs := frAdd_c (cq a[k].val) b[k] ((cq_ok _).mono hn) (oks_get hb h3) h1 m1 (by omega) (by omega)
      rw [cq_val, ← ev] at hs
      refine .by _ ⟨hs, ?_⟩
      refine .of ⟨by omega, by omega⟩ ?_
      refine .of ⟨len_mid eP (by omega) eQ, rfl, rfl, by omega⟩ ?_
      refine ⟨k + 1, h3, by omega, ⟨rfl, rfl, rfl, rfl, rfl, rfl, rfl, wrapS (by omega), trivial⟩, ⟨?_, trivial⟩, trivial⟩
      exact congrArg (fun z => some (Blk.row 3 z false)) (set_mid (x := cq (a[k].val + b[k].val)) (by omega) eP (by omega) (by simp [cqs, sums, vals]))
    · have h3 : k = b.length := by
        have : ¬ (k : Int) < b.length := of_decide_eq_false h3
        omega
      subst h3
      refine ⟨frm 47 [.any, .any, .any, .any, .own 15 a.length 3, .any, .any, .any, .any, .any, .any, .any, .any, .any, .any, .any, .any, .d (.sl [[frs b]]), i64 1, i64 1], [(15, .row 3 ((mid (cqs (sums (vals a) (vals b))) (cqs (vals a)) b.length).map fds) false)], ⟨rfl, rfl, rfl, rfl, trivial⟩, ⟨rfl, trivial⟩, trivial, ?_⟩
      refine .no rfl ?_
      refine .of ⟨len_mid eP (by omega) eQ, rfl⟩ ⟨trivial, ?_⟩
      rw [← hl, show a.length = (cqs (vals a)).length from eQ.symm, mid_all eP]
      rfl
end
end Go.KM
end
section
/- Contracts: row (5). -/
namespace Go.KM
open Go RN
/-- A frame told by few of its slots. -/
def sp : Nat → Nat → List (Nat × AV) → Fr
  | _, 0, _ => []
  | i, m + 1, [] => .any :: sp (i + 1) m []
  | i, m + 1, (j, v) :: r => match Nat.beq i j with
    | true => v :: sp (i + 1) m r
    | false => .any :: sp (i + 1) m ((j, v) :: r)
abbrev frS (n : Nat) (l : List (Nat × AV)) : Fr := sp 0 n l
/-- Rows of fractions, as data. -/
def frss (l : List (List RF)) : D := .sl (l.map fun r => [frs r])
theorem frss_getI {l : List (List RF)} {k : Int} {i : Nat} (e : k.toNat = i) (h : i < l.length) : (l.map fun r => [frs r])[k.toNat]? = some [frs l[i]] := by
  rw [e]; simp [List.getElem?_eq_getElem h]
theorem lenDD (l : List (List RF)) : AV.d (.int .i64 ((l.map fun r => [frs r]).length : Int)) = i64 (l.length : Int) := by rw [List.length_map]; rfl
section
variable {L M : Nat}
/-- row.Sub of two rows. -/
theorem rowSub_c (a b : List RF) (ha : oks L a) (hb : oks M b) (h1 : 1 ≤ L) (hL : L < 2 ^ 34) (m1 : 1 ≤ M) (hM : M < 2 ^ 33) (la : a.length < 2 ^ 30) (hl : a.length = b.length) :
    CN 75 [.d (frs a), .d (frs b)] [] (.tup [.d (fqs (sums (vals a) ((vals b).map fun x => -x))), .d (.bool true)]) [] := by
  refine con_of Go.Proofs.Tryz.func75 rfl (by kernel_rfl) (Nat.le_of_ble_eq_true rfl) ?_
  refine .by _ ⟨frOf_c (-1) (by decide) (by decide), ?_⟩
  have h2 : nw ((-1 : Int) : Rat) ≤ 1 := by unfold nw; exact Nat.max_le.2 ⟨nwN_le.2 (by decide), nwN_le.2 (by decide)⟩
  have hs := rowScale_c (cq ((-1 : Int) : Rat)) b ((cq_ok _).mono h2) hb m1 (by omega) (Nat.le_refl _) (by decide) (by omega)
  rw [cq_val] at hs
  have e : (b.map fun x => ((-1 : Int) : Rat) * x.val) = (vals b).map fun x => -x := by
    unfold vals
    rw [List.map_map]
    refine List.map_congr_left fun x _ => ?_
    show ((-1 : Int) : Rat) * x.val = -x.val
    rw [show ((-1 : Int) : Rat) = -1 from rfl, Rat.neg_mul, Rat.one_mul]
  rw [e] at hs
  refine .by _ ⟨hs, ?_⟩
  have hm : oks M (cqs ((vals b).map fun x => -x)) := cqs_oks (by
    intro q hq
    obtain ⟨y, hy, rfl⟩ := List.mem_map.1 hq
    obtain ⟨x, hx, rfl⟩ := List.mem_map.1 hy
    rw [nw_neg]
    exact nw_val (hb x hx) m1)
  have ha2 := rowAdd_c a (cqs ((vals b).map fun x => -x)) ha hm h1 hL m1 (by omega) la (by rw [cqs_len, List.length_map, vals_len, hl])
  rw [vals_cqs] at ha2
  refine .by _ (.of ⟨rfl, rfl⟩ ⟨ha2, trivial, rfl⟩)
/-- The mixture of the first so many rows. -/
def mixk (c : List Rat) (R : List (List Rat)) (n : Nat) : Nat → List Rat
  | 0 => List.replicate n 0
  | k + 1 => sums (mixk c R n k) (scl (c.getD k 0) (R.getD k []))
theorem scl_len {c : Rat} {l : List Rat} : (scl c l).length = l.length := by simp [scl]
theorem mixk_len {c : List Rat} {R : List (List Rat)} {n : Nat} (h : ∀ r ∈ R, r.length = n) : ∀ k, k ≤ R.length → (mixk c R n k).length = n
  | 0, _ => List.length_replicate
  | k + 1, hk => by
    have e : R.getD k [] = R[k] := by rw [List.getD_eq_getElem?_getD, List.getElem?_eq_getElem hk]; rfl
    rw [mixk, sums_len, mixk_len h k (by omega)]
    rw [mixk_len h k (by omega), scl_len, e, h _ (List.getElem_mem _)]
theorem sums_zero {a r : List Rat} (h : r.length = a.length) : sums a (scl 0 r) = a := by
  unfold sums scl
  induction a generalizing r with
  | nil => rfl
  | cons x a ih =>
    cases r with
    | nil => simp at h
    | cons y r =>
      rw [List.map_cons, List.zipWith_cons_cons, ih (by simpa using h), Rat.zero_mul, Rat.add_zero]
theorem mixk_nw {c : List Rat} {R : List (List Rat)} {n : Nat} (hc : ∀ q ∈ c, nw q ≤ L) (hR : ∀ r ∈ R, ∀ q ∈ r, nw q ≤ M) (hl : c.length = R.length) : ∀ k, k ≤ R.length → ∀ q ∈ mixk c R n k, nw q ≤ 1 + k * (L + M + 1)
  | 0, _, q, hq => by
    rw [(List.mem_replicate.1 hq).2]
    have := nw_zero
    omega
  | k + 1, hk, q, hq => by
    have e : R.getD k [] = R[k] := by rw [List.getD_eq_getElem?_getD, List.getElem?_eq_getElem hk]; rfl
    have e2 : c.getD k 0 = c[k] := by rw [List.getD_eq_getElem?_getD, List.getElem?_eq_getElem (by omega)]; rfl
    rw [mixk, e, e2] at hq
    unfold sums scl at hq
    obtain ⟨i, hi, rfl⟩ := List.mem_iff_getElem.1 hq
    rw [List.getElem_zipWith, List.getElem_map]
    have h1 := mixk_nw hc hR hl k (by omega) _ (List.getElem_mem (by simp at hi; omega : i < (mixk c R n k).length))
    have h2 := hc c[k] (List.getElem_mem _)
    have h3 := hR R[k] (List.getElem_mem _) _ (List.getElem_mem (by simp at hi; omega : i < R[k].length))
    have h4 := nw_mul c[k] (R[k][i]'(by simp at hi; omega))
    have h5 := nw_add ((mixk c R n k)[i]'(by simp at hi; omega)) (c[k] * (R[k][i]'(by simp at hi; omega)))
    rw [Nat.add_mul]
    omega
end
end Go.KM
end
section
/- Contracts: row.Mix. -/
namespace Go.KM
open Go RN
section
variable {L M : Nat}
def valss (R : List (List RF)) : List (List Rat) := R.map vals
theorem getD_vals {c : List RF} {k : Nat} (h : k < c.length) : (vals c).getD k 0 = c[k].val := by
  unfold vals
  rw [List.getD_eq_getElem?_getD, List.getElem?_map, List.getElem?_eq_getElem h]; rfl
theorem getD_valss {R : List (List RF)} {k : Nat} (h : k < R.length) : (valss R).getD k [] = vals R[k] := by
  unfold valss
  rw [List.getD_eq_getElem?_getD, List.getElem?_map, List.getElem?_eq_getElem h]; rfl
set_option maxRecDepth 10000 in
/-- row.Mix of as many rows as there are weights. -/
theorem rowMix_c (c : List RF) (R : List (List RF)) (n : Nat) (hc : oks L c) (hR : ∀ r ∈ R, oks M r) (h1 : 1 ≤ L) (m1 : 1 ≤ M) (hL : 1 + c.length * (L + M + 1) < 2 ^ 34) (hLM : L + M < 2 ^ 34)
    (hn : n ≤ 300) (lc : c.length < 2 ^ 30) (hl : c.length = R.length) (hr : ∀ r ∈ R, r.length = n) :
    CN 76 [.d (frs c), .d (frss R), i64 n] [] (.tup [.d (fqs (mixk (vals c) (valss R) n R.length)), .d (.bool true)]) [] := by
  refine con_of Go.Proofs.Tryz.func76 rfl (by kernel_rfl) (Nat.le_of_ble_eq_true rfl) ?_
  refine .no (by rw [List.length_map, List.length_map, hl]; simp) ?_
  refine .no (decide_eq_false (by omega)) ?_
  refine .no (decide_eq_false (by omega)) ?_
  refine .mk 0 (VLoop.mk Nat (fun k => frS 78 [(0, .d (frs c)), (1, .d (frss R)), (2, i64 n), (28, .d (frss R)), (29, i64 R.length), (30, i64 k)]) (fun _ => [])
    (fun k => k ≤ R.length) (fun k => R.length - k) 0 (Nat.zero_le _) ⟨rfl, rfl, rfl, rfl, lenDD R, rfl, trivial⟩ trivial trivial ?_)
  intro k hk
  refine .mk (fun h3 => ?_) (fun h3 => ?_)
  · have h3 : k < R.length := by simpa using h3
    refine .mk (by omega) ⟨_, frss_getI (by omega) h3, ?_⟩
    refine .no (by rw [List.length_map, hr _ (List.getElem_mem _)]; simp) ?_
    exact ⟨k + 1, h3, by omega, ⟨rfl, rfl, rfl, rfl, rfl, wrapS (by omega), trivial⟩, trivial, trivial⟩
  clear h3 hk
  refine .new 10 _ _ rfl ⟨rowZero_at 10 n hn, ?_⟩
  have hcv : ∀ q ∈ vals c, nw q ≤ L := by
    intro q hq
    obtain ⟨x, hx, rfl⟩ := List.mem_map.1 hq
    exact nw_val (hc x hx) h1
  have hRv : ∀ r ∈ valss R, ∀ q ∈ r, nw q ≤ M := by
    intro r h q hq
    obtain ⟨r', h', rfl⟩ := List.mem_map.1 h
    obtain ⟨x, hx, rfl⟩ := List.mem_map.1 hq
    exact nw_val (hR r' h' x hx) m1
  have hRn : ∀ r ∈ valss R, r.length = n := by
    intro r h
    obtain ⟨r', h', rfl⟩ := List.mem_map.1 h
    rw [vals_len, hr r' h']
  have lR : (valss R).length = R.length := by simp [valss]
  refine .mk 0 (VLoop.mk Nat (fun k => frS 78 [(0, .d (frs c)), (1, .d (frss R)), (10, .own 10 n 3), (41, .d (frss R)), (42, i64 R.length), (43, i64 k)]) (fun k => [(10, .row 3 ((cqs (mixk (vals c) (valss R) n k)).map fds) false)])
    (fun k => k ≤ R.length) (fun k => R.length - k) 0 (Nat.zero_le _) ⟨rfl, rfl, rfl, rfl, lenDD R, rfl, trivial⟩ ⟨?_, trivial⟩ trivial ?_)
  · show some _ = _
    rw [mixk, cqs, List.map_replicate, List.map_replicate, List.map_replicate]
  intro k hk
  have len1 := mixk_len (c := vals c) hRn k (by omega)
  refine .mk (fun h3 => ?_) (fun h3 => ?_)
  · have h3 : k < R.length := by simpa using h3
    have h3' : k < c.length := by omega
    have len2 := mixk_len (c := vals c) hRn (k + 1) (by omega)
    have bnd1 := mixk_nw (n := n) hcv hRv (by rw [vals_len, lR, hl]) k (by omega)
    have hB : 1 + k * (L + M + 1) < 2 ^ 34 := Nat.lt_of_le_of_lt (Nat.add_le_add_left (Nat.mul_le_mul_right _ (Nat.le_of_lt h3')) _) hL
    have hrow := hr _ (List.getElem_mem h3)
    refine .mk (by omega) ⟨_, frss_getI (by omega) h3, ?_⟩
    refine .mk (by omega) ⟨_, _, _, frs_getI (by omega) h3', ?_⟩
    refine .by _ ⟨frSign_c c[k] (oks_get hc h3') h1 (by omega), ?_⟩
    have next : mixk (vals c) (valss R) n (k + 1) = sums (mixk (vals c) (valss R) n k) (scl c[k].val (vals R[k])) := by
      rw [mixk, getD_vals h3', getD_valss h3]
    refine .mk (fun h4 => ?_) (fun h4 => ?_)
    · have h4 : c[k].val = 0 := qsg_zero.1 (beq_iff_eq.1 h4)
      rw [h4, sums_zero (by rw [vals_len, hrow, len1])] at next
      exact ⟨k + 1, h3, by omega, ⟨rfl, rfl, rfl, rfl, rfl, wrapS (by omega), trivial⟩, ⟨by rw [next]; rfl, trivial⟩, trivial⟩
    · have eP : (cqs (mixk (vals c) (valss R) n (k + 1))).length = (cqs (mixk (vals c) (valss R) n k)).length := by rw [cqs_len, cqs_len, len1, len2]
      have eQ : (cqs (mixk (vals c) (valss R) n k)).length = n := by rw [cqs_len, len1]
      refine .mk 0 (VLoop.mk Nat (fun i => frS 78 [(0, .d (frs c)), (1, .d (frss R)), (10, .own 10 n 3), (11, i64 k), (41, .d (frss R)), (42, i64 R.length), (43, i64 k), (54, .d (frs R[k])), (55, i64 n), (56, i64 i)])
        (fun i => [(10, .row 3 ((mid (cqs (mixk (vals c) (valss R) n (k + 1))) (cqs (mixk (vals c) (valss R) n k)) i).map fds) false)])
        (fun i => i ≤ n) (fun i => n - i) 0 (Nat.zero_le _) ⟨rfl, rfl, rfl, rfl, rfl, rfl, rfl, rfl, (lenD R[k]).trans (by rw [hrow]; rfl), rfl, trivial⟩ ⟨rfl, trivial⟩ trivial ?_)
      intro i hi
      refine .mk (fun h5 => ?_) (fun h5 => ?_)
      · have h5 : i < n := by simpa using h5
        have h5' : i < R[k].length := by omega
        refine .mk (by omega) ⟨_, _, _, frs_getI (by omega) h5', ?_⟩
        refine .of ⟨by omega, by omega⟩ ?_
        refine .of (len_mid eP (by omega) eQ) ?_
        refine .mk (by omega) ⟨_, _, _, frs_mid (by omega) eP (by omega), ?_⟩
        refine .mk (by omega) ⟨_, _, _, frs_getI (by omega) h3', ?_⟩
        refine .by _ ⟨frMul_c c[k] R[k][i] (oks_get hc h3') (oks_get (hR _ (List.getElem_mem _)) h5') h1 m1 (by omega) (by omega), ?_⟩
        have ev : (cqs (mixk (vals c) (valss R) n k))[i]'(by omega) = cq ((mixk (vals c) (valss R) n k)[i]'(by omega)) := by simp [cqs]
        have n1 := bnd1 _ (List.getElem_mem (by omega : i < (mixk (vals c) (valss R) n k).length))
        have n2 := nw_mul c[k].val R[k][i].val
        have n3 := nw_val (oks_get hc h3') h1
        have n4 := nw_val (oks_get (hR _ (List.getElem_mem h3)) h5') m1
        have hs := frAdd_c (cq ((mixk (vals c) (valss R) n k)[i]'(by omega))) (cq (c[k].val * R[k][i].val)) ((cq_ok _).mono n1) ((cq_ok _).mono (Nat.le_trans n2 (Nat.add_le_add n3 n4))) (by omega) (by omega) (by omega) (by omega)
        rw [cq_val, cq_val, ← ev] at hs
        refine .by _ ⟨hs, ?_⟩
        refine .of ⟨by omega, by omega⟩ ?_
        refine .of ⟨len_mid eP (by omega) eQ, rfl, rfl, by omega⟩ ?_
        refine ⟨i + 1, h5, by omega, ⟨rfl, rfl, rfl, rfl, rfl, rfl, rfl, rfl, rfl, wrapS (by omega), trivial⟩, ⟨?_, trivial⟩, trivial⟩
        exact congrArg (fun z => some (Blk.row 3 z false)) (set_mid (x := cq ((mixk (vals c) (valss R) n k)[i]'(by omega) + c[k].val * R[k][i].val)) (by omega) eP (by omega) (by simp only [cqs, List.getElem_map, next]; simp only [sums, scl, vals, List.getElem_map, List.getElem_zipWith]))
      · have h5 : i = n := by
          have : ¬ (i : Int) < n := of_decide_eq_false h5
          omega
        refine ⟨k + 1, h3, by omega, ⟨rfl, rfl, rfl, rfl, rfl, wrapS (by omega), trivial⟩, ⟨?_, trivial⟩, trivial⟩
        show some _ = _
        have e5 := mid_all eP
        rw [eQ] at e5
        rw [h5, e5]
  · have h3 : k = R.length := by
      have : ¬ (k : Int) < R.length := of_decide_eq_false h3
      omega
    subst h3
    exact .of ⟨by rw [List.length_map, cqs_len, len1], rfl⟩ ⟨trivial, rfl⟩
end
end Go.KM
end
section
/- Contracts: gauge. -/
namespace Go.KM
open Go RN
/-- A gauge's cells. -/
def gc (s p l : Int) : List AV := [i64 s, i64 p, i64 l]
/-- A gauge's limit. -/
def gLim (n : Int) : Int := min (max n 0) 4096
/-- What a gauge counts at a fraction of so many bits. -/
def gS (s : Int) : Int := IntKind.i64.wrap (s + 1)
def gP (p b : Int) : Int := if b > p then b else p
section
variable {L M : Nat}
theorem gNew_1 (n : Int) : CN 27 [i64 n] [] (.addr 7 0) [(7, .box (gc 0 0 (gLim n)))] := by
  refine conF_of Go.Proofs.Tryz.func27 rfl (by kernel_rfl) trivial (Nat.le_of_ble_eq_true rfl) ?_
  refine ⟨⟨?_, trivial⟩, rfl⟩
  show some (Blk.box [_, _, .d (.int .i64 _)]) = _
  have e : (if (4096 : Int) < (if (0 : Int) > n then 0 else n) then 4096 else (if (0 : Int) > n then 0 else n)) = gLim n := by
    unfold gLim
    omega
  rw [e]
  rfl
theorem gNote_1 (s p l b : Int) : CN 139 [.addr 1 0, i64 b] [(1, .box (gc s p l))] (.tup []) [(1, .box (gc (gS s) (gP p b) l))] := by
  refine conF_of Go.Proofs.Tryz.func139 rfl (by kernel_rfl) ⟨rfl, trivial⟩ (Nat.le_of_ble_eq_true rfl) ?_
  exact ⟨⟨rfl, trivial⟩, rfl⟩
theorem gTake_1 (s p l : Int) (x : RF) (hx : x.ok L) (hL : L < 2 ^ 35) : CN 106 [.addr 1 0, fav x] [(1, .box (gc s p l))] (.d (.bool (decide ((rsz x : Int) ≤ l)))) [(1, .box (gc (gS s) (gP p (rsz x)) l))] := by
  refine conF_of Go.Proofs.Tryz.func106 rfl (by kernel_rfl) ⟨rfl, trivial⟩ (Nat.le_of_ble_eq_true rfl) ?_
  refine .by _ ⟨frSize_c x hx hL, ?_⟩
  refine .mk [(1, .box (gc s p l))] (.tup []) [(1, .box (gc (gS s) (gP p (rsz x)) l))] ⟨rfl, trivial⟩ rfl ⟨.inl (by simp [getM]), trivial⟩ (fun i h => h) (by simp [ids]) (by simp [ids]) ⟨gNote_1 s p l (rsz x), ?_⟩
  exact ⟨⟨rfl, trivial⟩, rfl⟩
/-- Behind so many fractions. -/
def gSk (s : Int) : Nat → Int
  | 0 => s
  | k + 1 => gS (gSk s k)
def gPk (p : Int) (a : List RF) : Nat → Int
  | 0 => p
  | k + 1 => gP (gPk p a k) (rsz (a.getD k ⟨false, [], []⟩))
theorem gPk_succ {p : Int} {a : List RF} {k : Nat} (h : k < a.length) : gPk p a (k + 1) = gP (gPk p a k) (rsz a[k]) := by
  rw [gPk, List.getD_eq_getElem?_getD, List.getElem?_eq_getElem h]; rfl
set_option maxRecDepth 10000 in
theorem gRow_any (s p l : Int) (a : List RF) (ha : oks L a) (hL : L < 2 ^ 35) (la : a.length < 2 ^ 30) (n : Nat) (b : Bool) (r : Nat)
    (h : (b = true ∧ n = a.length ∧ r = a.length ∧ ∀ i (h : i < a.length), (rsz a[i] : Int) ≤ l) ∨ (b = false ∧ n = r + 1 ∧ ∃ h : r < a.length, ¬ (rsz a[r] : Int) ≤ l ∧ ∀ i (h : i < r), (rsz a[i] : Int) ≤ l)) :
    CN 74 [.addr 1 0, .d (frs a)] [(1, .box (gc s p l))] (.tup [i64 r, .d (.bool b)]) [(1, .box (gc (gSk s n) (gPk p a n) l))] := by
  refine conF_of Go.Proofs.Tryz.func74 rfl (by kernel_rfl) ⟨rfl, trivial⟩ (Nat.le_of_ble_eq_true rfl) ?_
  refine .mk 0 (VLoop.mk Nat (fun k => frS 23 [(0, .addr 1 0), (1, .d (frs a)), (8, .d (frs a)), (9, i64 a.length), (10, i64 k)]) (fun k => [(1, .box (gc (gSk s k) (gPk p a k) l))])
    (fun k => k ≤ a.length ∧ k ≤ r) (fun k => a.length - k) 0 ⟨Nat.zero_le _, Nat.zero_le _⟩ ⟨rfl, rfl, rfl, lenD a, rfl, trivial⟩ ⟨rfl, trivial⟩ ⟨rfl, trivial⟩ ?_)
  intro k ⟨hk, hr⟩
  refine .mk (fun h3 => ?_) (fun h3 => ?_)
  · have h3 : k < a.length := by simpa using h3
    refine .mk (by omega) ⟨_, _, _, frs_getI (by omega) h3, ?_⟩
    have ht := gTake_1 (gSk s k) (gPk p a k) l a[k] (oks_get ha h3) hL
    rw [← gPk_succ h3] at ht
    refine .mk [(1, .box (gc (gSk s k) (gPk p a k) l))] _ [(1, .box (gc (gSk s (k + 1)) (gPk p a (k + 1)) l))] ⟨rfl, trivial⟩ rfl ⟨.inl (by simp [getM]), trivial⟩ (fun i h => h) (by simp [ids]) (by simp [ids]) ⟨ht, ?_⟩
    refine .mk (fun h4 => ?_) (fun h4 => ?_)
    · have h4 : ¬ (rsz a[k] : Int) ≤ l := by simpa using h4
      rcases h with ⟨e1, e2, e3, h5⟩ | ⟨e1, e2, h6, h7, h8⟩
      · exact absurd (h5 k h3) h4
      · have e : k = r := by
          rcases Nat.lt_or_ge k r with h9 | h9
          · exact absurd (h8 k h9) h4
          · omega
        subst e1 e2 e
        exact ⟨⟨rfl, trivial⟩, rfl⟩
    · have h4 : (rsz a[k] : Int) ≤ l := by simpa using h4
      refine ⟨k + 1, ⟨h3, ?_⟩, by omega, ⟨rfl, rfl, rfl, rfl, wrapS (by omega), trivial⟩, ⟨rfl, trivial⟩, ⟨rfl, trivial⟩⟩
      rcases h with ⟨e1, e2, e3, h5⟩ | ⟨e1, e2, h6, h7, h8⟩
      · omega
      · rcases Nat.lt_or_ge k r with h9 | h9
        · exact h9
        · have e : k = r := by omega
          subst e
          exact absurd h4 h7
  · have h3 : k = a.length := by
      have : ¬ (k : Int) < a.length := of_decide_eq_false h3
      omega
    rcases h with ⟨e1, e2, e3, h5⟩ | ⟨e1, e2, h6, h7, h8⟩
    · subst e1 e2 e3 h3
      exact ⟨⟨rfl, trivial⟩, by rw [List.length_map]; rfl⟩
    · omega
end
end Go.KM
end
section
/- Contracts: tape (1). -/
namespace Go.KM
open Go RN
/-- A number of 64 bits. -/
def ok64 (n : Int) : Prop := -9223372036854775808 ≤ n ∧ n ≤ 9223372036854775807
/-- An instruction. -/
structure In where
  op : Int
  a : Int
  b : Int
  n : RF
def inD (i : In) : List D := [.int .i64 i.op, .int .i64 i.a, .int .i64 i.b, .bool i.n.s, wd i.n.n, wd i.n.d]
def inA (i : In) : AV := .agg [i64 i.op, i64 i.a, i64 i.b, .d (.bool i.n.s), .d (wd i.n.n), .d (wd i.n.d)]
/-- Numbers, as data. -/
def isl (l : List Int) : D := .sl (l.map fun x => [.int .i64 x])
structure Tp where
  code : List In
  outs : List Int
  dim : Int
  par : Int
def tpA (t : Tp) : AV := .agg [.d (.sl (t.code.map inD)), .d (isl t.outs), i64 t.dim, i64 t.par]
theorem in_getI {l : List In} {k : Int} {i : Nat} (e : k.toNat = i) (h : i < l.length) : (l.map inD)[k.toNat]? = some (inD l[i]) := by
  rw [e]; simp [List.getElem?_eq_getElem h]
theorem isl_getI {l : List Int} {k : Int} {i : Nat} (e : k.toNat = i) (h : i < l.length) : (l.map fun x => [D.int .i64 x])[k.toNat]? = some [.int .i64 l[i]] := by
  rw [e]; simp [List.getElem?_eq_getElem h]
def belowB (i m : Int) : Bool := decide (0 ≤ i) && decide (i < m)
def blankB (x : RF) : Bool := (!x.s && (x.n.length == 0)) && (x.d.length == 0)
/-- The places of an instruction's operands. -/
def readsL (i : In) : List Int :=
  if i.op = 6 then [i.a] else if i.op = 11 then [i.a] else if i.op = 7 then [i.a, i.b] else if i.op = 8 then [i.a, i.b] else if i.op = 9 then [i.a, i.b] else if i.op = 10 then [i.a, i.b] else []
theorem tpBelow_c (i m : Int) : CN 102 [i64 i, i64 m] [] (.d (.bool (belowB i m))) [] := by
  refine con_of Go.Proofs.Tryz.func102 rfl (by kernel_rfl) (Nat.le_of_ble_eq_true rfl) ?_
  refine .mk (fun h => ?_) (fun h => ?_)
  · refine ⟨trivial, ?_⟩
    have h : decide (i ≥ 0) = true := h
    show AV.d (.bool (decide (i < m))) = .d (.bool (decide (i ≥ 0) && decide (i < m)))
    rw [h, Bool.true_and]
  · refine ⟨trivial, ?_⟩
    have h : decide (i ≥ 0) = false := h
    show AV.d (.bool false) = .d (.bool (decide (i ≥ 0) && decide (i < m)))
    rw [h, Bool.false_and]
theorem tpOf_c (i : In) : CN 135 [inA i] [] (.agg [i64 i.op, i64 i.a, i64 i.b]) [] := by
  refine con_of Go.Proofs.Tryz.func135 rfl (by kernel_rfl) (Nat.le_of_ble_eq_true rfl) ?_
  exact ⟨trivial, rfl⟩
theorem len0 (l : List Int) : (((l.map fun x => [D.int .u32 x]).length : Int) == 0) = (l.length == 0) := by
  rw [List.length_map]
  cases l <;> simp
  omega
theorem tpBlank_c (x : RF) : CN 136 [fav x] [] (.d (.bool (blankB x))) [] := by
  refine con_of Go.Proofs.Tryz.func136 rfl (by kernel_rfl) (Nat.le_of_ble_eq_true rfl) ?_
  unfold blankB
  rw [← len0 x.n, ← len0 x.d]
  refine .mk (fun h => ?_) (fun h => ?_)
  · rw [show (!x.s) = true from h, Bool.true_and]
    refine .mk (fun h2 => ?_) (fun h2 => ?_)
    · rw [show (((x.n.map fun x => [D.int .u32 x]).length : Int) == 0) = true from h2, Bool.true_and]
      exact ⟨trivial, rfl⟩
    · rw [show (((x.n.map fun x => [D.int .u32 x]).length : Int) == 0) = false from h2, Bool.false_and]
      exact ⟨trivial, rfl⟩
  · rw [show (!x.s) = false from h, Bool.false_and, Bool.false_and]
    refine .no rfl ?_
    exact ⟨trivial, rfl⟩
theorem tpReads_c (i : In) : CN 137 [inA i] [] (.d (isl (readsL i))) [] := by
  refine con_of Go.Proofs.Tryz.func137 rfl (by kernel_rfl) (Nat.le_of_ble_eq_true rfl) ?_
  unfold readsL
  refine .mk (fun g => ?_) (fun g => ?_)
  · have h : i.op = 6 := beq_iff_eq.1 g
    rw [if_pos h]
    refine .yes g ?_
    exact .of ⟨rfl, rfl⟩ ⟨trivial, rfl⟩
  have h : i.op ≠ 6 := beq_eq_false_iff_ne.1 g
  rw [if_neg h]
  clear h g
  refine .mk (fun g => ?_) (fun g => ?_)
  · have h : i.op = 11 := beq_iff_eq.1 g
    rw [if_pos h]
    exact .of ⟨rfl, rfl⟩ ⟨trivial, rfl⟩
  have h : i.op ≠ 11 := beq_eq_false_iff_ne.1 g
  rw [if_neg h]
  clear h g
  refine .mk (fun g => ?_) (fun g => ?_)
  · have h : i.op = 7 := beq_iff_eq.1 g
    rw [if_pos h]
    refine .yes g ?_
    exact .of ⟨rfl, rfl⟩ ⟨trivial, rfl⟩
  have h : i.op ≠ 7 := beq_eq_false_iff_ne.1 g
  rw [if_neg h]
  clear h g
  refine .mk (fun g => ?_) (fun g => ?_)
  · have h : i.op = 8 := beq_iff_eq.1 g
    rw [if_pos h]
    refine .yes g ?_
    exact .of ⟨rfl, rfl⟩ ⟨trivial, rfl⟩
  have h : i.op ≠ 8 := beq_eq_false_iff_ne.1 g
  rw [if_neg h]
  clear h g
  refine .mk (fun g => ?_) (fun g => ?_)
  · have h : i.op = 9 := beq_iff_eq.1 g
    rw [if_pos h]
    refine .yes g ?_
    exact .of ⟨rfl, rfl⟩ ⟨trivial, rfl⟩
  have h : i.op ≠ 9 := beq_eq_false_iff_ne.1 g
  rw [if_neg h]
  clear h g
  refine .mk (fun g => ?_) (fun g => ?_)
  · have h : i.op = 10 := beq_iff_eq.1 g
    rw [if_pos h]
    exact .of ⟨rfl, rfl⟩ ⟨trivial, rfl⟩
  have h : i.op ≠ 10 := beq_eq_false_iff_ne.1 g
  rw [if_neg h]
  exact ⟨trivial, rfl⟩
end Go.KM
end
section
/- Contracts: tape (2). -/
namespace Go.KM
open Go RN
def wholeB (t : Tp) : Bool := ((belowB (IntKind.i64.wrap (t.dim - 1)) 6 && belowB t.par 7) && ((t.outs.length : Int) == t.dim)) && decide ((t.code.length : Int) ≤ 300)
/-- May the instruction i be at the place k? -/
def mayB (t : Tp) (i : In) (k : Int) : Bool :=
  if i.op = 1 then (i.a == 0 && i.b == 0) && isR i.n
  else if blankB i.n = false then false
  else if (readsL i).all (fun r => belowB r k) = false then false
  else if i.op = 2 then i.a == 0 && i.b == 0
  else if i.op = 3 then belowB i.a t.dim && i.b == 0
  else if i.op = 4 then belowB i.a t.par && i.b == 0
  else if i.op = 6 then i.b == 0
  else if i.op = 11 then decide (-8 ≤ i.b) && decide (i.b ≤ 8)
  else (readsL i).length == 2
theorem islLen (l : List Int) : ((l.map fun x => [D.int .i64 x]).length : Int) = (l.length : Int) := by rw [List.length_map]
theorem inLen (l : List In) : ((l.map inD).length : Int) = (l.length : Int) := by rw [List.length_map]
set_option maxRecDepth 10000 in
theorem tpWhole_c (t : Tp) : CN 100 [tpA t] [] (.d (.bool (wholeB t))) [] := by
  refine con_of Go.Proofs.Tryz.func100 rfl (by kernel_rfl) (Nat.le_of_ble_eq_true rfl) ?_
  unfold wholeB
  rw [← islLen, ← inLen]
  refine .by _ ⟨tpBelow_c _ _, ?_⟩
  refine .mk (fun h => ?_) (fun h => ?_)
  · rw [h, Bool.true_and]
    refine .by _ ⟨tpBelow_c _ _, ?_⟩
    refine .mk (fun h => ?_) (fun h => ?_)
    · rw [h, Bool.true_and]
      refine .mk (fun h => ?_) (fun h => ?_)
      · rw [show (((t.outs.map fun x => [D.int .i64 x]).length : Int) == t.dim) = true from h, Bool.true_and]
        exact ⟨trivial, rfl⟩
      · rw [show (((t.outs.map fun x => [D.int .i64 x]).length : Int) == t.dim) = false from h, Bool.false_and]
        exact ⟨trivial, rfl⟩
    · rw [h, Bool.false_and, Bool.false_and]
      refine .no rfl ?_
      exact ⟨trivial, rfl⟩
  · rw [h, Bool.false_and, Bool.false_and, Bool.false_and]
    refine .no rfl ?_
    refine .no rfl ?_
    exact ⟨trivial, rfl⟩
set_option maxRecDepth 10000 in
theorem tpMay_c {L : Nat} (t : Tp) (k : Nat) (hk : k < t.code.length) (lt : t.code.length < 2 ^ 40) (hn : (t.code[k]).n.ok L) (h1 : 1 ≤ L) (hL : L < 2 ^ 35) : CN 101 [tpA t, i64 k] [] (.d (.bool (mayB t t.code[k] k))) [] := by
  refine con_of Go.Proofs.Tryz.func101 rfl (by kernel_rfl) (Nat.le_of_ble_eq_true rfl) ?_
  refine .mk (by omega) ⟨_, _, _, _, _, _, in_getI (by omega) hk, ?_⟩
  generalize t.code[k] = i at *
  unfold mayB
  refine .mk (fun g => ?_) (fun g => ?_)
  · have h : i.op = 1 := beq_iff_eq.1 g
    rw [if_pos h]
    refine .by _ ⟨tpOf_c i, ?_⟩
    refine .mk (fun g2 => ?_) (fun g2 => ?_)
    · have e : (i.a == 0 && i.b == 0) = true := by
        have g2 : (i.op == 1 && (i.a == 0 && (i.b == 0 && true))) = true := g2
        rw [g] at g2
        simpa using g2
      rw [e, Bool.true_and]
      refine .by _ ⟨frRight_c i.n hn h1 hL, ?_⟩
      exact ⟨trivial, rfl⟩
    · have e : (i.a == 0 && i.b == 0) = false := by
        have g2 : (i.op == 1 && (i.a == 0 && (i.b == 0 && true))) = false := g2
        rw [g, Bool.true_and, Bool.and_true] at g2
        exact g2
      rw [e, Bool.false_and]
      exact ⟨trivial, rfl⟩
  have h : i.op ≠ 1 := beq_eq_false_iff_ne.1 g
  rw [if_neg h]
  clear h g
  refine .by _ ⟨tpBlank_c i.n, ?_⟩
  refine .mk (fun g => ?_) (fun g => ?_)
  · have h : blankB i.n = false := by simpa using g
    rw [if_pos h]
    exact ⟨trivial, rfl⟩
  have h : blankB i.n ≠ false := by simpa using g
  rw [if_neg h]
  clear h g
  refine .by _ ⟨tpReads_c i, ?_⟩
  refine .mk 0 (VLoop.mk Nat (fun j => frS 92 [(1, i64 k), (2, .addr 2 0), (5, .addr 5 0), (30, .d (isl (readsL i))), (31, i64 (readsL i).length), (32, i64 j)])
    (fun _ => [(2, .box [.d (.sl (t.code.map inD)), .d (isl t.outs), i64 t.dim, i64 t.par]), (5, .box [i64 i.op, i64 i.a, i64 i.b, .d (.bool i.n.s), .d (wd i.n.n), .d (wd i.n.d)])])
    (fun j => j ≤ (readsL i).length ∧ ∀ m (h : m < (readsL i).length), m < j → belowB (readsL i)[m] k = true) (fun j => (readsL i).length - j) 0 ⟨Nat.zero_le _, by intro m _ h; omega⟩
    ⟨rfl, rfl, rfl, rfl, congrArg (fun z => AV.d (.int .i64 z)) (islLen _), rfl, trivial⟩ ⟨rfl, rfl, trivial⟩ trivial ?_)
  intro j ⟨hj, hall⟩
  have lr : (readsL i).length ≤ 2 := by unfold readsL; (repeat' split) <;> simp
  refine .mk (fun g => ?_) (fun g => ?_)
  · have g : j < (readsL i).length := by simpa using g
    refine .mk (by omega) ⟨_, isl_getI (by omega) g, ?_⟩
    refine .by _ ⟨tpBelow_c _ _, ?_⟩
    refine .mk (fun g2 => ?_) (fun g2 => ?_)
    · have g2 : belowB (readsL i)[j] k = false := by simpa using g2
      rw [if_pos (List.all_eq_false.2 ⟨_, List.getElem_mem g, by rw [g2]; decide⟩)]
      exact ⟨trivial, rfl⟩
    · have g2 : belowB (readsL i)[j] k = true := by simpa using g2
      refine ⟨j + 1, ⟨g, ?_⟩, by omega, ⟨rfl, rfl, rfl, rfl, rfl, wrapS (by omega), trivial⟩, ⟨rfl, rfl, trivial⟩, trivial⟩
      intro m hm h
      rcases Nat.lt_succ_iff_lt_or_eq.1 h with h | h
      · exact hall m hm h
      · subst h; exact g2
  have g : j = (readsL i).length := by
    have : ¬ (j : Int) < (readsL i).length := of_decide_eq_false g
    omega
  have h : ¬ (readsL i).all (fun r => belowB r k) = false := by
    rw [Bool.not_eq_false]
    refine List.all_eq_true.2 fun x hx => ?_
    obtain ⟨m, hm, rfl⟩ := List.mem_iff_getElem.1 hx
    exact hall m hm (by omega)
  rw [if_neg h]
  clear h g hall hj
  refine .mk (fun g => ?_) (fun g => ?_)
  · have h : i.op = 2 := beq_iff_eq.1 g
    rw [if_pos h]
    refine .by _ ⟨tpOf_c i, trivial, ?_⟩
    have e : (i.op == 2 && (i.a == 0 && (i.b == 0 && true))) = (i.a == 0 && i.b == 0) := by rw [g, Bool.true_and, Bool.and_true]
    rw [← e]
    rfl
  have h : i.op ≠ 2 := beq_eq_false_iff_ne.1 g
  rw [if_neg h]
  clear h g
  refine .mk (fun g => ?_) (fun g => ?_)
  · have h : i.op = 3 := beq_iff_eq.1 g
    rw [if_pos h]
    refine .by _ ⟨tpBelow_c _ _, ?_⟩
    refine .mk (fun g2 => ?_) (fun g2 => ?_)
    · rw [g2, Bool.true_and]
      exact ⟨trivial, rfl⟩
    · rw [g2, Bool.false_and]
      exact ⟨trivial, rfl⟩
  have h : i.op ≠ 3 := beq_eq_false_iff_ne.1 g
  rw [if_neg h]
  clear h g
  refine .mk (fun g => ?_) (fun g => ?_)
  · have h : i.op = 4 := beq_iff_eq.1 g
    rw [if_pos h]
    refine .by _ ⟨tpBelow_c _ _, ?_⟩
    refine .mk (fun g2 => ?_) (fun g2 => ?_)
    · rw [g2, Bool.true_and]
      exact ⟨trivial, rfl⟩
    · rw [g2, Bool.false_and]
      exact ⟨trivial, rfl⟩
  have h : i.op ≠ 4 := beq_eq_false_iff_ne.1 g
  rw [if_neg h]
  clear h g
  refine .mk (fun g => ?_) (fun g => ?_)
  · have h : i.op = 6 := beq_iff_eq.1 g
    rw [if_pos h]
    exact ⟨trivial, rfl⟩
  have h : i.op ≠ 6 := beq_eq_false_iff_ne.1 g
  rw [if_neg h]
  clear h g
  refine .mk (fun g => ?_) (fun g => ?_)
  · have h : i.op = 11 := beq_iff_eq.1 g
    rw [if_pos h]
    refine .mk (fun g2 => ?_) (fun g2 => ?_)
    · rw [show decide (-8 ≤ i.b) = true from g2, Bool.true_and]
      exact ⟨trivial, rfl⟩
    · rw [show decide (-8 ≤ i.b) = false from g2, Bool.false_and]
      exact ⟨trivial, rfl⟩
  have h : i.op ≠ 11 := beq_eq_false_iff_ne.1 g
  rw [if_neg h]
  clear h g
  refine .by _ ⟨tpReads_c i, trivial, ?_⟩
  show AV.d (.bool ((((readsL i).map fun x => [D.int .i64 x]).length : Int) == 2)) = _
  rw [islLen]
  generalize (readsL i).length = n
  congr 2
  rw [Bool.eq_iff_iff, beq_iff_eq, beq_iff_eq]
  omega
/-- Instructions of which the fractions are of so many words. -/
def iok (L : Nat) (l : List In) : Prop := ∀ i ∈ l, i.n.ok L
def rightB (t : Tp) : Bool := (wholeB t && (List.range t.code.length).all (fun k => mayB t (t.code.getD k ⟨0, 0, 0, ⟨false, [], []⟩⟩) k)) && t.outs.all fun o => belowB o t.code.length
theorem code_getD {l : List In} {k : Nat} (h : k < l.length) {d : In} : l.getD k d = l[k] := by
  rw [List.getD_eq_getElem?_getD, List.getElem?_eq_getElem h]; rfl
theorem first_bad (p : Nat → Bool) (n : Nat) : (∀ k, k < n → p k = true) ∨ ∃ k, k < n ∧ p k = false ∧ ∀ i, i < k → p i = true := by
  induction n with
  | zero => exact .inl fun k h => absurd h (Nat.not_lt_zero k)
  | succ n ih =>
    rcases ih with h | ⟨k, h1, h2, h3⟩
    · cases hp : p n
      · exact .inr ⟨n, Nat.lt_succ_self n, hp, h⟩
      · refine .inl fun k hk => ?_
        rcases Nat.lt_succ_iff_lt_or_eq.1 hk with h' | h'
        · exact h k h'
        · rw [h']; exact hp
    · exact .inr ⟨k, by omega, h2, h3⟩
def mayK (t : Tp) (k : Nat) : Bool := mayB t (t.code.getD k ⟨0, 0, 0, ⟨false, [], []⟩⟩) k
theorem mayK_eq {t : Tp} {k : Nat} (h : k < t.code.length) : mayB t t.code[k] k = mayK t k := by rw [mayK, code_getD h]
set_option maxRecDepth 10000 in
theorem tpWrong_c {L : Nat} (t : Tp) (lt : t.code.length < 2 ^ 40) (lo : t.outs.length < 2 ^ 40) (hn : iok L t.code) (h1 : 1 ≤ L) (hL : L < 2 ^ 35) (hw : wholeB t = true) (w : Int)
    (h : (∃ k, k < t.code.length ∧ w = k ∧ mayK t k = false ∧ ∀ i, i < k → mayK t i = true) ∨
      ((∀ k, k < t.code.length → mayK t k = true) ∧ ((∃ k, k < t.outs.length ∧ w = t.code.length ∧ belowB (t.outs.getD k 0) t.code.length = false ∧ ∀ i, i < k → belowB (t.outs.getD i 0) t.code.length = true) ∨
        ((∀ i, i < t.outs.length → belowB (t.outs.getD i 0) t.code.length = true) ∧ w = -1)))) : CN 71 [tpA t] [] (i64 w) [] := by
  refine con_of Go.Proofs.Tryz.func71 rfl (by kernel_rfl) (Nat.le_of_ble_eq_true rfl) ?_
  refine .by _ ⟨tpWhole_c t, ?_⟩
  refine .no (by rw [hw]; rfl) ?_
  refine .mk 0 (VLoop.mk Nat (fun k => frS 38 [(1, .addr 1 0), (10, .d (.sl (t.code.map inD))), (11, i64 t.code.length), (12, i64 k)])
    (fun _ => [(1, .box [.d (.sl (t.code.map inD)), .d (isl t.outs), i64 t.dim, i64 t.par])])
    (fun k => k ≤ t.code.length ∧ ∀ i, i < k → mayK t i = true) (fun k => t.code.length - k) 0 ⟨Nat.zero_le _, by intro m h; omega⟩
    ⟨rfl, rfl, congrArg (fun z => AV.d (.int .i64 z)) (inLen _), rfl, trivial⟩ ⟨rfl, trivial⟩ trivial ?_)
  intro k ⟨hk, hall⟩
  refine .mk (fun g => ?_) (fun g => ?_)
  · have g : k < t.code.length := by simpa using g
    have hm := tpMay_c t k g lt (hn _ (List.getElem_mem _)) h1 hL
    rw [mayK_eq g] at hm
    refine .by _ ⟨hm, ?_⟩
    refine .mk (fun g2 => ?_) (fun g2 => ?_)
    · have g2 : mayK t k = false := by simpa using g2
      rcases h with ⟨k', a1, a2, a3, a4⟩ | ⟨a1, _⟩
      · have e : k = k' := by
          rcases Nat.lt_trichotomy k k' with h | h | h
          · rw [a4 k h] at g2; cases g2
          · exact h
          · rw [hall k' h] at a3; cases a3
        subst e
        exact ⟨trivial, by rw [a2]; rfl⟩
      · rw [a1 k g] at g2; cases g2
    · have g2 : mayK t k = true := by simpa using g2
      refine ⟨k + 1, ⟨g, fun i hi => ?_⟩, by omega, ⟨rfl, rfl, rfl, wrapS (by omega), trivial⟩, ⟨rfl, trivial⟩, trivial⟩
      rcases Nat.lt_succ_iff_lt_or_eq.1 hi with h | h
      · exact hall i h
      · rw [h]; exact g2
  have g : k = t.code.length := by
    have : ¬ (k : Int) < t.code.length := of_decide_eq_false g
    omega
  subst g
  have h := h.resolve_left (by
    rintro ⟨k', a1, a2, a3, a4⟩
    rw [hall k' a1] at a3; cases a3)
  obtain ⟨_, h⟩ := h
  refine .mk 0 (VLoop.mk Nat (fun k => frS 38 [(1, .addr 1 0), (22, .d (isl t.outs)), (23, i64 t.outs.length), (24, i64 k)])
    (fun _ => [(1, .box [.d (.sl (t.code.map inD)), .d (isl t.outs), i64 t.dim, i64 t.par])])
    (fun k => k ≤ t.outs.length ∧ ∀ i, i < k → belowB (t.outs.getD i 0) t.code.length = true) (fun k => t.outs.length - k) 0 ⟨Nat.zero_le _, by intro m h; omega⟩
    ⟨rfl, rfl, congrArg (fun z => AV.d (.int .i64 z)) (islLen _), rfl, trivial⟩ ⟨rfl, trivial⟩ trivial ?_)
  intro k ⟨hk, hall2⟩
  refine .mk (fun g => ?_) (fun g => ?_)
  · have g : k < t.outs.length := by simpa using g
    have ek : t.outs.getD k 0 = t.outs[k] := by rw [List.getD_eq_getElem?_getD, List.getElem?_eq_getElem g]; rfl
    refine .mk (by omega) ⟨_, isl_getI (by omega) g, ?_⟩
    have hb := tpBelow_c t.outs[k] t.code.length
    rw [← inLen, ← ek] at hb
    rw [← ek]
    refine .by _ ⟨hb, ?_⟩
    rw [inLen]
    refine .mk (fun g2 => ?_) (fun g2 => ?_)
    · have g2 : belowB (t.outs.getD k 0) t.code.length = false := by simpa using g2
      rcases h with ⟨k', a1, a2, a3, a4⟩ | ⟨a1, _⟩
      · refine ⟨trivial, ?_⟩
        rw [a2]
        exact congrArg (fun z => AV.d (.int .i64 z)) (inLen _)
      · rw [a1 k g] at g2; cases g2
    · have g2 : belowB (t.outs.getD k 0) t.code.length = true := by simpa using g2
      refine ⟨k + 1, ⟨g, fun i hi => ?_⟩, by omega, ⟨rfl, rfl, rfl, wrapS (by omega), trivial⟩, ⟨rfl, trivial⟩, trivial⟩
      rcases Nat.lt_succ_iff_lt_or_eq.1 hi with h | h
      · exact hall2 i h
      · rw [h]; exact g2
  have g : k = t.outs.length := by
    have : ¬ (k : Int) < t.outs.length := of_decide_eq_false g
    omega
  subst g
  rcases h with ⟨k', a1, a2, a3, a4⟩ | ⟨a1, e⟩
  · rw [hall2 k' a1] at a3; cases a3
  · exact ⟨trivial, by rw [e]; rfl⟩
end Go.KM
end
section
/- Contracts: tape.Right. -/
namespace Go.KM
open Go RN
theorem all_range {p : Nat → Bool} {n : Nat} : (List.range n).all p = true ↔ ∀ k, k < n → p k = true := by
  rw [List.all_eq_true]
  exact ⟨fun h k hk => h k (List.mem_range.2 hk), fun h k hk => h k (List.mem_range.1 hk)⟩
theorem all_outs {l : List Int} {p : Int → Bool} : l.all p = true ↔ ∀ k, k < l.length → p (l.getD k 0) = true := by
  rw [List.all_eq_true]
  constructor
  · intro h k hk
    rw [List.getD_eq_getElem?_getD, List.getElem?_eq_getElem hk]
    exact h _ (List.getElem_mem hk)
  · intro h x hx
    obtain ⟨k, hk, rfl⟩ := List.mem_iff_getElem.1 hx
    have := h k hk
    rwa [List.getD_eq_getElem?_getD, List.getElem?_eq_getElem hk] at this
theorem tpRight_c {L : Nat} (t : Tp) (lt : t.code.length < 2 ^ 40) (lo : t.outs.length < 2 ^ 40) (hn : iok L t.code) (h1 : 1 ≤ L) (hL : L < 2 ^ 35) : CN 45 [tpA t] [] (.d (.bool (rightB t))) [] := by
  have hw : ∃ w : Int, CN 71 [tpA t] [] (i64 w) [] ∧ (w == -1) = rightB t := by
    by_cases hb : wholeB t = true
    · rcases first_bad (mayK t) t.code.length with hc | ⟨k, c1, c2, c3⟩
      · rcases first_bad (fun k => belowB (t.outs.getD k 0) t.code.length) t.outs.length with ho | ⟨k, o1, o2, o3⟩
        · refine ⟨-1, tpWrong_c t lt lo hn h1 hL hb (-1) (.inr ⟨hc, .inr ⟨ho, rfl⟩⟩), ?_⟩
          unfold rightB
          rw [hb, show (List.range t.code.length).all (fun k => mayB t (t.code.getD k ⟨0, 0, 0, ⟨false, [], []⟩⟩) k) = true from all_range.2 hc, all_outs.2 ho]
          rfl
        · refine ⟨t.code.length, tpWrong_c t lt lo hn h1 hL hb _ (.inr ⟨hc, .inl ⟨k, o1, rfl, o2, o3⟩⟩), ?_⟩
          have e : t.outs.all (fun o => belowB o t.code.length) = false := by
            cases e : t.outs.all (fun o => belowB o t.code.length)
            · rfl
            · have := all_outs.1 e k o1
              rw [this] at o2; cases o2
          unfold rightB
          rw [e, Bool.and_false]
          exact beq_eq_false_iff_ne.2 (by omega)
      · refine ⟨k, tpWrong_c t lt lo hn h1 hL hb k (.inl ⟨k, c1, rfl, c2, c3⟩), ?_⟩
        have e : (List.range t.code.length).all (mayK t) = false := by
          cases e : (List.range t.code.length).all (mayK t)
          · rfl
          · have := all_range.1 e k c1
            rw [this] at c2; cases c2
        unfold rightB
        rw [show (List.range t.code.length).all (fun k => mayB t (t.code.getD k ⟨0, 0, 0, ⟨false, [], []⟩⟩) k) = false from e, Bool.and_false, Bool.false_and]
        exact beq_eq_false_iff_ne.2 (by omega)
    · have hb : wholeB t = false := by simpa using hb
      refine ⟨-2, ?_, ?_⟩
      · refine con_of Go.Proofs.Tryz.func71 rfl (by kernel_rfl) (Nat.le_of_ble_eq_true rfl) ?_
        refine .by _ ⟨tpWhole_c t, ?_⟩
        refine .yes (by rw [hb]; rfl) ?_
        exact ⟨trivial, rfl⟩
      · unfold rightB
        rw [hb]
        rfl
  obtain ⟨w, h1, h2⟩ := hw
  refine con_of Go.Proofs.Tryz.func45 rfl (by kernel_rfl) (Nat.le_of_ble_eq_true rfl) ?_
  refine .by _ ⟨h1, trivial, ?_⟩
  rw [← h2]
  rfl
end Go.KM
end
section
/- Powers of fractions: plain laws. -/
namespace RN
theorem pow_sg (s : Bool) (m t : Nat) : (sg s m) ^ t = sg (s && (t % 2 == 1)) (m ^ t) := by
  induction t with
  | zero => simp [sg]
  | succ t ih =>
    rw [Int.pow_succ, ih, Nat.pow_succ]
    cases s
    · simp [sg]
    · rcases Nat.mod_two_eq_zero_or_one t with h | h
      · have h2 : (t + 1) % 2 = 1 := by omega
        simp [sg, h, h2, Int.mul_neg]
      · have h2 : (t + 1) % 2 = 0 := by omega
        simp [sg, h, h2, Int.mul_neg, Int.neg_mul]
/-- A power, of a negative exponent too. -/
def zp (q : Rat) (e : Int) : Rat := if 0 ≤ e then q ^ e.toNat else (q ^ (-e).toNat)⁻¹
theorem num_pow_sg (q : Rat) (t : Nat) : (q ^ t).num = sg (decide (q.num < 0) && (t % 2 == 1)) (q.num.natAbs ^ t) := by
  rw [Rat.num_pow, ← pow_sg]
  congr 1
  unfold sg
  by_cases h : q.num < 0
  · rw [decide_eq_true h, if_pos rfl]; omega
  · rw [decide_eq_false h, if_neg (by decide)]; omega
theorem sg_sign_mul {s : Bool} {m d : Nat} (h : m ≠ 0) : (sg s m).sign * (d : Int) = sg s d := by
  cases s
  · show ((m : Int)).sign * (d : Int) = d
    rw [Int.sign_eq_one_of_pos (by omega), Int.one_mul]
  · show (-(m : Int)).sign * (d : Int) = -d
    rw [Int.sign_eq_neg_one_of_neg (by omega)]
    omega
theorem zp_pos {q : Rat} {e : Int} (h : 0 ≤ e) : (zp q e).num = sg (decide (q.num < 0) && (e.toNat % 2 == 1)) (q.num.natAbs ^ e.toNat) ∧ (zp q e).den = q.den ^ e.toNat := by
  unfold zp
  rw [if_pos h]
  exact ⟨num_pow_sg q _, Rat.den_pow q _⟩
theorem zp_neg {q : Rat} {e : Int} (h : e < 0) (h0 : q ≠ 0) : (zp q e).num = sg (decide (q.num < 0) && ((-e).toNat % 2 == 1)) (q.den ^ (-e).toNat) ∧ (zp q e).den = q.num.natAbs ^ (-e).toNat := by
  have hn : q.num ≠ 0 := fun e => h0 (Rat.num_eq_zero.1 e)
  have hp : q.num.natAbs ^ (-e).toNat ≠ 0 := Nat.pos_iff_ne_zero.1 (Nat.pow_pos (by omega))
  have hp2 : (q ^ (-e).toNat).num ≠ 0 := by
    intro k
    rw [Rat.num_pow] at k
    have := congrArg Int.natAbs k
    rw [Int.natAbs_pow] at this
    exact hp this
  unfold zp
  rw [if_neg (by omega)]
  constructor
  · rw [Rat.num_inv, num_pow_sg, Rat.den_pow, sg_sign_mul hp]
  · rw [Rat.den_inv, if_neg hp2, Rat.num_pow, Int.natAbs_pow]
theorem nwN_pow (n t : Nat) : nwN (n ^ t) ≤ t * nwN n + 1 := by
  induction t with
  | zero => rw [Nat.pow_zero]; exact nwN_le.2 (by rw [Nat.zero_mul]; decide)
  | succ t ih =>
    rw [Nat.pow_succ, Nat.succ_mul]
    have := nwN_mul (n ^ t) n
    omega
theorem nw_zp {q : Rat} {e : Int} (h1 : -8 ≤ e) (h2 : e ≤ 8) (h0 : 0 ≤ e ∨ q ≠ 0) : nw (zp q e) ≤ 8 * nw q + 1 := by
  have a1 := nw_num q
  have a2 := nw_den q
  have key : ∀ (n t : Nat), t ≤ 8 → nwN n ≤ nw q → nwN (n ^ t) ≤ 8 * nw q + 1 := by
    intro n t ht hn
    have := nwN_pow n t
    have := Nat.mul_le_mul ht hn
    omega
  unfold nw
  rcases Int.lt_or_le e 0 with h | h
  · obtain ⟨b1, b2⟩ := zp_neg h (h0.resolve_left (by omega))
    rw [b1, b2, sg_natAbs]
    exact Nat.max_le.2 ⟨key _ _ (by omega) a2, key _ _ (by omega) a1⟩
  · obtain ⟨b1, b2⟩ := zp_pos (q := q) h
    rw [b1, b2, sg_natAbs]
    exact Nat.max_le.2 ⟨key _ _ (by omega) a1, key _ _ (by omega) a2⟩
end RN
end
section
/- Contracts: frac.power, frac.Pow. -/
namespace Go.KM
open Go RN
theorem pow_len {a : List Int} (ha : WF a) (k : Nat) : (wl (wv a ^ k)).length ≤ k * a.length + 1 :=
  Nat.le_trans (nwN_pow (wv a) k) (Nat.add_le_add_right (Nat.mul_le_mul_left _ (wl_len_wv ha)) _)
set_option maxRecDepth 10000 in
/-- frac.power. -/
theorem frPower_c (a : List Int) (ha : WF a) (t : Nat) (ht : t ≤ 8) (la : a.length < 2 ^ 34) : CN 227 [.d (wd a), i64 t] [] (.d (wn (wv a ^ t))) [] := by
  refine con_of Go.Proofs.Tryz.func227 rfl (by kernel_rfl) (Nat.le_of_ble_eq_true rfl) ?_
  refine .by _ ⟨natOf_w 1 (by decide), ?_⟩
  refine .mk 0 (VLoop.mk Nat (fun k => frS 15 [(0, .d (wd a)), (5, .d (wn (wv a ^ k))), (7, i64 t), (8, i64 k)]) (fun _ => []) (fun k => k ≤ t) (fun k => t - k) 0 (Nat.zero_le _) ⟨rfl, rfl, rfl, rfl, trivial⟩ trivial trivial ?_)
  intro k hk
  refine .mk (fun g => ?_) (fun g => ?_)
  · have g : k < t := by simpa using g
    have hl := pow_len ha k
    have hm := Nat.mul_le_mul_right a.length (show k ≤ 8 by omega)
    have hp := prodMul_c (wl (wv a ^ k)) a (wl_WF _) ha (by omega) (by omega)
    rw [wv_wl, ← Nat.pow_succ] at hp
    refine .by _ ⟨hp, ?_⟩
    exact ⟨k + 1, g, by omega, ⟨rfl, rfl, rfl, wrapS (by omega), trivial⟩, trivial, trivial⟩
  · have g : k = t := by
      have : ¬ (k : Int) < t := of_decide_eq_false g
      omega
    subst g
    exact ⟨trivial, rfl⟩
section
variable {L : Nat}
set_option maxRecDepth 10000 in
theorem frPow_no (x : RF) (e : Int) (hx : x.ok L) (h1 : 1 ≤ L) (hL : L < 2 ^ 31) (h : e < -8 ∨ 8 < e ∨ (e < 0 ∧ x.val = 0)) : CN 225 [fav x, i64 e] [] (.tup [fq 0, .d (.bool false)]) [] := by
  refine con_of Go.Proofs.Tryz.func225 rfl (by kernel_rfl) (Nat.le_of_ble_eq_true rfl) ?_
  refine .mk (fun g => ?_) (fun g => ?_)
  · refine .yes rfl ?_
    refine .yes rfl ?_
    exact .by _ ⟨frOf_c 0 (by decide) (by decide), trivial, rfl⟩
  have g : ¬ e < -8 := of_decide_eq_false g
  refine .mk (fun g2 => ?_) (fun g2 => ?_)
  · refine .yes rfl ?_
    exact .by _ ⟨frOf_c 0 (by decide) (by decide), trivial, rfl⟩
  have g2 : ¬ e > 8 := of_decide_eq_false g2
  obtain ⟨g3, g4⟩ : e < 0 ∧ x.val = 0 := by
    rcases h with h | h | h
    · exact absurd h g
    · exact absurd h g2
    · exact h
  refine .yes (decide_eq_true g3) ?_
  have hs := frSign_c x hx h1 (by omega)
  rw [qsg_zero.2 g4] at hs
  refine .by _ ⟨hs, ?_⟩
  refine .yes rfl ?_
  exact .by _ ⟨frOf_c 0 (by decide) (by decide), trivial, rfl⟩
set_option maxRecDepth 10000 in
theorem frPow_c (x : RF) (e : Int) (hx : x.ok L) (h1 : 1 ≤ L) (hL : L < 2 ^ 31) (e1 : -8 ≤ e) (e2 : e ≤ 8) (h : e < 0 → x.val ≠ 0) : CN 225 [fav x, i64 e] [] (.tup [fq (zp x.val e), .d (.bool true)]) [] := by
  refine con_of Go.Proofs.Tryz.func225 rfl (by kernel_rfl) (Nat.le_of_ble_eq_true rfl) ?_
  refine .no (decide_eq_false (by omega)) ?_
  refine .no (decide_eq_false (by omega)) ?_
  have hn := nw_num x.val
  have hd := nw_den x.val
  have hv := nw_val hx h1
  unfold nwN at hn hd
  refine .mk (fun g => ?_) (fun g => ?_)
  · have g : e < 0 := of_decide_eq_true g
    have h0 := h g
    obtain ⟨z1, z2⟩ := zp_neg g h0
    refine .by _ ⟨frSign_c x hx h1 (by omega), ?_⟩
    refine .no (beq_eq_false_iff_ne.2 fun k => h0 (qsg_zero.1 k)) ?_
    refine .by _ ⟨frNorm_c x hx h1 (by omega), ?_⟩
    have et : (if IntKind.i64.wrap (0 - e) > e then IntKind.i64.wrap (0 - e) else e) = ((-e).toNat : Int) := by
      rw [wrap64 (by omega) (by omega)]; omega
    have p1 := frPower_c (wl x.val.num.natAbs) (wl_WF _) (-e).toNat (by omega) (by omega)
    have p2 := frPower_c (wl x.val.den) (wl_WF _) (-e).toNat (by omega) (by omega)
    have lp1 := pow_len (wl_WF x.val.num.natAbs) (-e).toNat
    have lp2 := pow_len (wl_WF x.val.den) (-e).toNat
    have m1 := Nat.mul_le_mul (show (-e).toNat ≤ 8 by omega) hn
    have m2 := Nat.mul_le_mul (show (-e).toNat ≤ 8 by omega) hd
    rw [wv_wl] at p1 p2 lp1 lp2
    rw [← et] at p1 p2
    refine .by _ ⟨p1, ?_⟩
    refine .by _ ⟨p2, ?_⟩
    refine .yes (decide_eq_true (by omega)) ?_
    have fin : ∀ s' : Bool, s' = (decide (x.val.num < 0) && ((-e).toNat % 2 == 1)) → CN 92 [.agg [.d (.bool s'), .d (wn (x.val.den ^ (-e).toNat))]] [] (wz (zp x.val e).num) [] := by
      rintro s' rfl
      have hw := whNorm_c (decide (x.val.num < 0) && ((-e).toNat % 2 == 1)) (wl (x.val.den ^ (-e).toNat)) (wl_WF _) (by omega)
      rw [wv_wl, ← z1] at hw
      exact hw
    have res : AV.agg [.d (.bool (decide ((zp x.val e).num < 0))), .d (wn (zp x.val e).num.natAbs), .d (wn (x.val.num.natAbs ^ (-e).toNat))] = fq (zp x.val e) := by
      rw [← z2]; rfl
    refine .mk (fun g2 => ?_) (fun g2 => ?_)
    · have g2 : decide (x.val.num < 0) = true := g2
      refine .of (by decide) ?_
      refine .by _ ⟨fin _ ?_, trivial, ?_⟩
      · rw [g2, Bool.true_and, et]
        show (((-e).toNat : Int).tmod 2 == 1) = _
        generalize (-e).toNat = t
        rw [show ((t : Int).tmod 2) = ((t % 2 : Nat) : Int) from rfl]
        rw [Bool.eq_iff_iff, beq_iff_eq, beq_iff_eq]
        omega
      · rw [← res]; rfl
    · have g2 : decide (x.val.num < 0) = false := g2
      refine .by _ ⟨fin _ ?_, trivial, ?_⟩
      · rw [g2, Bool.false_and]
      · rw [← res]; rfl
  · have g : ¬ e < 0 := of_decide_eq_false g
    obtain ⟨z1, z2⟩ := zp_pos (q := x.val) (e := e) (by omega)
    refine .no rfl ?_
    refine .by _ ⟨frNorm_c x hx h1 (by omega), ?_⟩
    have et : (if IntKind.i64.wrap (0 - e) > e then IntKind.i64.wrap (0 - e) else e) = (e.toNat : Int) := by
      rw [wrap64 (by omega) (by omega)]; omega
    have p1 := frPower_c (wl x.val.num.natAbs) (wl_WF _) e.toNat (by omega) (by omega)
    have p2 := frPower_c (wl x.val.den) (wl_WF _) e.toNat (by omega) (by omega)
    have lp1 := pow_len (wl_WF x.val.num.natAbs) e.toNat
    have lp2 := pow_len (wl_WF x.val.den) e.toNat
    have m1 := Nat.mul_le_mul (show e.toNat ≤ 8 by omega) hn
    have m2 := Nat.mul_le_mul (show e.toNat ≤ 8 by omega) hd
    rw [wv_wl] at p1 p2 lp1 lp2
    rw [← et] at p1 p2
    refine .by _ ⟨p1, ?_⟩
    refine .by _ ⟨p2, ?_⟩
    refine .no (decide_eq_false (by omega)) ?_
    have fin : ∀ s' : Bool, s' = (decide (x.val.num < 0) && (e.toNat % 2 == 1)) → CN 92 [.agg [.d (.bool s'), .d (wn (x.val.num.natAbs ^ e.toNat))]] [] (wz (zp x.val e).num) [] := by
      rintro s' rfl
      have hw := whNorm_c (decide (x.val.num < 0) && (e.toNat % 2 == 1)) (wl (x.val.num.natAbs ^ e.toNat)) (wl_WF _) (by omega)
      rw [wv_wl, ← z1] at hw
      exact hw
    have res : AV.agg [.d (.bool (decide ((zp x.val e).num < 0))), .d (wn (zp x.val e).num.natAbs), .d (wn (x.val.den ^ e.toNat))] = fq (zp x.val e) := by
      rw [← z2]; rfl
    refine .mk (fun g2 => ?_) (fun g2 => ?_)
    · have g2 : decide (x.val.num < 0) = true := g2
      refine .of (by decide) ?_
      refine .by _ ⟨fin _ ?_, trivial, ?_⟩
      · rw [g2, Bool.true_and, et]
        show ((e.toNat : Int).tmod 2 == 1) = _
        generalize e.toNat = t
        rw [show ((t : Int).tmod 2) = ((t % 2 : Nat) : Int) from rfl]
        rw [Bool.eq_iff_iff, beq_iff_eq, beq_iff_eq]
        omega
      · rw [← res]; rfl
    · have g2 : decide (x.val.num < 0) = false := g2
      refine .by _ ⟨fin _ ?_, trivial, ?_⟩
      · rw [g2, Bool.false_and]
      · rw [← res]; rfl
end
end Go.KM
end
section
/- Contracts: eval.Norm, the arithmetic of fractions under a gauge. -/
namespace Go.KM
open Go RN
section
variable {L M : Nat}
theorem map_takeV {a : List RF} {k : Nat} (h : k < a.length) : (cqs (vals (a.take (k + 1)))).map fds = (cqs (vals (a.take k))).map fds ++ [fds (cq a[k].val)] := vals_take h
set_option maxRecDepth 10000 in
/-- eval.norms. -/
theorem evNorms_c (a : List RF) (ha : oks L a) (h1 : 1 ≤ L) (hL : L < 2 ^ 35) (la : a.length < 2 ^ 30) : CN 109 [.d (frs a)] [] (.d (fqs (vals a))) [] := by
  refine con_of Go.Proofs.Tryz.func109 rfl (by kernel_rfl) (Nat.le_of_ble_eq_true rfl) ?_
  refine .mk 1 ⟨frS 19 [(0, .d (frs a)), (3, .nils), (6, .d (frs a)), (7, i64 a.length), (8, i64 0)], [], ⟨rfl, rfl, rfl, lenD a, rfl, trivial⟩, trivial, trivial, ?_⟩
  refine .mk (fun h0 => ?_) (fun h0 => ?_)
  · have l0 : 0 < a.length := by simpa using h0
    refine .mk (by omega) ⟨_, _, _, frs_getI (by omega) l0, ?_⟩
    refine .by _ ⟨frNorm_c a[0] (oks_get ha l0) h1 hL, ?_⟩
    refine .of rfl (.of ⟨Nat.zero_lt_one, (by decide : (1 : Nat) * 56 ≤ 140737488355328), (by decide : (1 : Nat) ≤ 140737488355328), one3⟩ ?_)
    refine .mk Nat (fun k => frS 19 [(0, .d (frs a)), (3, .own 16 k 3), (6, .d (frs a)), (7, i64 a.length), (8, i64 k)]) (fun k => [(16, .row 3 ((cqs (vals (a.take k))).map fds) false)])
      (fun k => k ≤ a.length) (fun k => a.length - k) 1 l0 ⟨rfl, rfl, rfl, rfl, wrapS (k := 0) (by omega), trivial⟩ ⟨?_, trivial⟩ trivial ?_
    · show some _ = _
      rw [vals_take l0]
      rfl
    · intro k hk
      refine .mk (fun h3 => ?_) (fun h3 => ?_)
      · have h3 : k < a.length := by simpa using h3
        refine .mk (by omega) ⟨_, _, _, frs_getI (by omega) h3, ?_⟩
        refine .by _ ⟨frNorm_c a[k] (oks_get ha h3) h1 hL, ?_⟩
        refine .of rfl (.of ⟨?_, rfl, rfl, ?_, ?_, one3⟩ ?_)
        · simp only [cqs, vals, List.length_map, List.length_take]; omega
        · show (k + 1) * 56 ≤ _; omega
        · show k + 1 ≤ _; omega
        · refine ⟨k + 1, h3, by omega, ⟨rfl, rfl, rfl, rfl, wrapS (by omega), trivial⟩, ⟨?_, trivial⟩, trivial⟩
          rw [vals_take h3]
          rfl
      · have h3 : k = a.length := by
          have : ¬ (k : Int) < a.length := of_decide_eq_false h3
          omega
        subst h3
        refine .of ⟨?_, rfl⟩ ⟨trivial, ?_⟩
        · simp only [cqs, vals, List.length_map, List.length_take]; omega
        · rw [List.take_length]; rfl
  · have l0 : a = [] := by
      have : ¬ (0 : Int) < a.length := of_decide_eq_false h0
      exact List.length_eq_zero_iff.1 (by omega)
    subst l0
    exact ⟨trivial, rfl⟩
/-- A point: a moment, a state, parameters. -/
def ptA (T : RF) (Y P : List RF) : AV := .agg [.d (.bool T.s), .d (wd T.n), .d (wd T.d), .d (frs Y), .d (frs P)]
set_option maxRecDepth 10000 in
/-- eval.Norm. -/
theorem evNorm_c (T : RF) (Y P : List RF) (hT : T.ok L) (hY : oks L Y) (hP : oks L P) (h1 : 1 ≤ L) (hL : L < 2 ^ 35) (lY : Y.length < 2 ^ 30) (lP : P.length < 2 ^ 30) :
    CN 79 [ptA T Y P] [] (ptA (cq T.val) (cqs (vals Y)) (cqs (vals P))) [] := by
  refine con_of Go.Proofs.Tryz.func79 rfl (by kernel_rfl) (Nat.le_of_ble_eq_true rfl) ?_
  refine .by _ ⟨frNorm_c T hT h1 hL, ?_⟩
  refine .by _ ⟨evNorms_c Y hY h1 hL lY, ?_⟩
  refine .by _ ⟨evNorms_c P hP h1 hL lP, trivial, rfl⟩
/-- A machine's arithmetic: a gauge. -/
def mA : AV := .agg [.addr 1 0]
section
variable (s p l : Int)
theorem arOf_c (x : RF) (hx : x.ok L) (h1 : 1 ≤ L) (hL : L < 2 ^ 35) : CN 220 [mA, fav x] [(1, .box (gc s p l))] (fq x.val) [(1, .box (gc s p l))] := by
  refine conF_of Go.Proofs.Tryz.func220 rfl (by kernel_rfl) ⟨rfl, trivial⟩ (Nat.le_of_ble_eq_true rfl) ?_
  exact .by _ ⟨frNorm_c x hx h1 hL, ⟨rfl, trivial⟩, rfl⟩
theorem arNeg_c (x : RF) (hx : x.ok L) (h1 : 1 ≤ L) (hL : L < 2 ^ 35) : CN 219 [mA, fav x] [(1, .box (gc s p l))] (fq (-x.val)) [(1, .box (gc s p l))] := by
  refine conF_of Go.Proofs.Tryz.func219 rfl (by kernel_rfl) ⟨rfl, trivial⟩ (Nat.le_of_ble_eq_true rfl) ?_
  exact .by _ ⟨frNeg_c x hx h1 hL, ⟨rfl, trivial⟩, rfl⟩
theorem arAdd_c (x y : RF) (hx : x.ok L) (hy : y.ok M) (h1 : 1 ≤ L) (h2 : 1 ≤ M) (hL : L < 2 ^ 35) (hM : M < 2 ^ 35) : CN 216 [mA, fav x, fav y] [(1, .box (gc s p l))] (fq (x.val + y.val)) [(1, .box (gc s p l))] := by
  refine conF_of Go.Proofs.Tryz.func216 rfl (by kernel_rfl) ⟨rfl, trivial⟩ (Nat.le_of_ble_eq_true rfl) ?_
  exact .by _ ⟨frAdd_c x y hx hy h1 h2 hL hM, ⟨rfl, trivial⟩, rfl⟩
theorem arSub_c (x y : RF) (hx : x.ok L) (hy : y.ok M) (h1 : 1 ≤ L) (h2 : 1 ≤ M) (hL : L < 2 ^ 35) (hM : M < 2 ^ 35) : CN 223 [mA, fav x, fav y] [(1, .box (gc s p l))] (fq (x.val - y.val)) [(1, .box (gc s p l))] := by
  refine conF_of Go.Proofs.Tryz.func223 rfl (by kernel_rfl) ⟨rfl, trivial⟩ (Nat.le_of_ble_eq_true rfl) ?_
  exact .by _ ⟨frSub_c x y hx hy h1 h2 hL hM, ⟨rfl, trivial⟩, rfl⟩
theorem arMul_c (x y : RF) (hx : x.ok L) (hy : y.ok M) (h1 : 1 ≤ L) (h2 : 1 ≤ M) (hL : L < 2 ^ 35) (hM : M < 2 ^ 35) : CN 218 [mA, fav x, fav y] [(1, .box (gc s p l))] (fq (x.val * y.val)) [(1, .box (gc s p l))] := by
  refine conF_of Go.Proofs.Tryz.func218 rfl (by kernel_rfl) ⟨rfl, trivial⟩ (Nat.le_of_ble_eq_true rfl) ?_
  exact .by _ ⟨frMul_c x y hx hy h1 h2 hL hM, ⟨rfl, trivial⟩, rfl⟩
theorem arQuo_c (x y : RF) (hx : x.ok L) (hy : y.ok M) (h1 : 1 ≤ L) (h2 : 1 ≤ M) (hL : L < 2 ^ 35) (hM : M < 2 ^ 35) (h0 : y.val ≠ 0) : CN 222 [mA, fav x, fav y] [(1, .box (gc s p l))] (.tup [fq (x.val / y.val), .d (.bool true)]) [(1, .box (gc s p l))] := by
  refine conF_of Go.Proofs.Tryz.func222 rfl (by kernel_rfl) ⟨rfl, trivial⟩ (Nat.le_of_ble_eq_true rfl) ?_
  exact .by _ ⟨frQuo_c x y hx hy h1 h2 hL hM h0, ⟨rfl, trivial⟩, rfl⟩
theorem arQuo_no (x y : RF) (hx : x.ok L) (hy : y.ok M) (h1 : 1 ≤ L) (h2 : 1 ≤ M) (hL : L < 2 ^ 35) (hM : M < 2 ^ 35) (h0 : y.val = 0) : CN 222 [mA, fav x, fav y] [(1, .box (gc s p l))] (.tup [fq 0, .d (.bool false)]) [(1, .box (gc s p l))] := by
  refine conF_of Go.Proofs.Tryz.func222 rfl (by kernel_rfl) ⟨rfl, trivial⟩ (Nat.le_of_ble_eq_true rfl) ?_
  exact .by _ ⟨frQuo_no x y hx hy h1 h2 hL hM h0, ⟨rfl, trivial⟩, rfl⟩
theorem arPow_c (x : RF) (e : Int) (hx : x.ok L) (h1 : 1 ≤ L) (hL : L < 2 ^ 31) (e1 : -8 ≤ e) (e2 : e ≤ 8) (h : e < 0 → x.val ≠ 0) : CN 221 [mA, fav x, i64 e] [(1, .box (gc s p l))] (.tup [fq (zp x.val e), .d (.bool true)]) [(1, .box (gc s p l))] := by
  refine conF_of Go.Proofs.Tryz.func221 rfl (by kernel_rfl) ⟨rfl, trivial⟩ (Nat.le_of_ble_eq_true rfl) ?_
  exact .by _ ⟨frPow_c x e hx h1 hL e1 e2 h, ⟨rfl, trivial⟩, rfl⟩
theorem arPow_no (x : RF) (e : Int) (hx : x.ok L) (h1 : 1 ≤ L) (hL : L < 2 ^ 31) (h : e < -8 ∨ 8 < e ∨ (e < 0 ∧ x.val = 0)) : CN 221 [mA, fav x, i64 e] [(1, .box (gc s p l))] (.tup [fq 0, .d (.bool false)]) [(1, .box (gc s p l))] := by
  refine conF_of Go.Proofs.Tryz.func221 rfl (by kernel_rfl) ⟨rfl, trivial⟩ (Nat.le_of_ble_eq_true rfl) ?_
  exact .by _ ⟨frPow_no x e hx h1 hL h, ⟨rfl, trivial⟩, rfl⟩
theorem arFits_c (x : RF) (hx : x.ok L) (hL : L < 2 ^ 35) : CN 217 [mA, fav x] [(1, .box (gc s p l))] (.d (.bool (decide ((rsz x : Int) ≤ l)))) [(1, .box (gc (gS s) (gP p (rsz x)) l))] := by
  refine conF_of Go.Proofs.Tryz.func217 rfl (by kernel_rfl) ⟨rfl, trivial⟩ (Nat.le_of_ble_eq_true rfl) ?_
  refine .mk [(1, .box (gc s p l))] _ [(1, .box (gc (gS s) (gP p (rsz x)) l))] ⟨rfl, trivial⟩ rfl ⟨.inl (by simp [getM]), trivial⟩ (fun i h => h) (by simp [ids]) (by simp [ids]) ⟨gTake_1 s p l x hx hL, ?_⟩
  exact ⟨⟨rfl, trivial⟩, rfl⟩
end
end
end Go.KM
end
section
/- Contracts: a machine's leaf and step. -/
namespace Go.KM
open Go RN
theorem VCall.box1 {μ : Nat → Option Blk} {C : List AV → Mem → AV → Mem → Prop} {raw : List AV} {K : AV → Mem → List Nat → Prop} (id : Nat) (cs cs' : List AV) (r : AV)
    (hF : μ id = some (.box cs)) (hok : okMem [id] [(id, .box cs)] = true)
    (h : argsA μ [id] raw fun l u t => C l [(id, .box cs)] r [(id, .box cs')] ∧ K r (u ++ [(id, .box cs')]) (t ++ [id] ++ [id])) : VCall μ C raw K :=
  .mk [(id, .box cs)] r [(id, .box cs')] ⟨hF, trivial⟩ hok ⟨.inl (by simp [getM]), trivial⟩ (fun _ h => h) (by simp [ids]) (by simp [ids]) h
/-- The end of a walk behind a call with one box; the kernel alone sees that it is the end. -/
theorem fin1 (cs : List AV) (y : AV) {G : Prop} (h : ((some (Blk.box cs) = some (.box cs) ∧ True) ∧ y = y) = G) : G :=
  h ▸ ⟨⟨rfl, trivial⟩, rfl⟩
def leafS (i : In) (t : Rat) (y p : List Rat) : Rat :=
  if i.op = 1 then i.n.val else if i.op = 3 then y.getD i.a.toNat 0 else if i.op = 4 then p.getD i.a.toNat 0 else t
/-- An operand. -/
def opd (d : List Rat) (a : Int) : Rat := d.getD a.toNat 0
/-- The result of an instruction; none: a pole. -/
def stepS (i : In) (t : Rat) (y p d : List Rat) : Option Rat :=
  if i.op = 6 then some (-opd d i.a)
  else if i.op = 11 then (if i.b < -8 ∨ 8 < i.b ∨ (i.b < 0 ∧ opd d i.a = 0) then none else some (zp (opd d i.a) i.b))
  else if i.op = 7 then some (opd d i.a + opd d i.b)
  else if i.op = 8 then some (opd d i.a - opd d i.b)
  else if i.op = 9 then some (opd d i.a * opd d i.b)
  else if i.op = 10 then (if opd d i.b = 0 then none else some (opd d i.a / opd d i.b))
  else some (leafS i t y p)
theorem cqs_get {l : List Rat} {k : Nat} (h : k < l.length) : (cqs l)[k]'(by rw [cqs_len]; exact h) = cq (l.getD k 0) := by
  rw [List.getD_eq_getElem?_getD, List.getElem?_eq_getElem h]
  simp [cqs]
theorem cqs_getI {l : List Rat} {a : Int} (h0 : 0 ≤ a) (h : a < l.length) : ((cqs l).map fds)[a.toNat]? = some (fds (cq (opd l a))) := by
  have h' : a.toNat < l.length := by omega
  have := frs_getI (l := cqs l) (k := a) (i := a.toNat) rfl (by rw [cqs_len]; exact h')
  rw [cqs_get h'] at this
  exact this
section
variable {L M : Nat} (s p l : Int)
set_option maxRecDepth 10000 in
theorem mcLeaf_c (i : In) (t : Rat) (y q : List Rat) (hn : i.n.ok L) (h1 : 1 ≤ L) (hL : L < 2 ^ 35) (hy : i.op = 3 → 0 ≤ i.a ∧ i.a < y.length) (hq : i.op = 4 → 0 ≤ i.a ∧ i.a < q.length) :
    CN 141 [mA, inA i, ptA (cq t) (cqs y) (cqs q)] [(1, .box (gc s p l))] (fq (leafS i t y q)) [(1, .box (gc s p l))] := by
  refine conF_of Go.Proofs.Tryz.func141 rfl (by kernel_rfl) ⟨rfl, trivial⟩ (Nat.le_of_ble_eq_true rfl) ?_
  unfold leafS
  refine .mk (fun g => ?_) (fun g => ?_)
  · have h : i.op = 1 := beq_iff_eq.1 g
    rw [if_pos h]
    refine .box1 1 _ _ _ rfl rfl ⟨arOf_c s p l i.n hn h1 hL, ?_⟩
    exact ⟨⟨rfl, trivial⟩, rfl⟩
  have h : i.op ≠ 1 := beq_eq_false_iff_ne.1 g
  rw [if_neg h]
  clear h g
  refine .mk (fun g => ?_) (fun g => ?_)
  · have h : i.op = 3 := beq_iff_eq.1 g
    obtain ⟨a0, a1⟩ := hy h
    rw [if_pos h]
    refine .mk a0 ⟨_, _, _, cqs_getI a0 a1, ?_⟩
    exact ⟨⟨rfl, trivial⟩, rfl⟩
  have h : i.op ≠ 3 := beq_eq_false_iff_ne.1 g
  rw [if_neg h]
  clear h g
  refine .mk (fun g => ?_) (fun g => ?_)
  · have h : i.op = 4 := beq_iff_eq.1 g
    obtain ⟨a0, a1⟩ := hq h
    rw [if_pos h]
    refine .mk a0 ⟨_, _, _, cqs_getI a0 a1, ?_⟩
    exact ⟨⟨rfl, trivial⟩, rfl⟩
  have h : i.op ≠ 4 := beq_eq_false_iff_ne.1 g
  rw [if_neg h]
  exact ⟨⟨rfl, trivial⟩, rfl⟩
/-- May an instruction's operands be? -/
def rdOk (i : In) (n : Nat) : Prop := (i.op = 6 ∨ i.op = 11 → 0 ≤ i.a ∧ i.a < n) ∧ (i.op = 7 ∨ i.op = 8 ∨ i.op = 9 ∨ i.op = 10 → (0 ≤ i.a ∧ i.a < n) ∧ (0 ≤ i.b ∧ i.b < n))
theorem opd_nw {d : List Rat} {a : Int} (hd : ∀ q ∈ d, nw q ≤ M) (a0 : 0 ≤ a) (a1 : a < d.length) : nw (opd d a) ≤ M := by
  have h' : a.toNat < d.length := by omega
  unfold opd
  rw [List.getD_eq_getElem?_getD, List.getElem?_eq_getElem h']
  exact hd _ (List.getElem_mem h')
/-- What a step gives: a value, and whether there is one. -/
def stepR (o : Option Rat) : AV := .tup [fq (o.getD 0), .d (.bool o.isSome)]
set_option maxHeartbeats 4000000 in
set_option maxRecDepth 10000 in
theorem mcStep_c (i : In) (t : Rat) (y q d : List Rat) (hn : i.n.ok L) (h1 : 1 ≤ L) (hL : L < 2 ^ 35) (hy : i.op = 3 → 0 ≤ i.a ∧ i.a < y.length) (hq : i.op = 4 → 0 ≤ i.a ∧ i.a < q.length)
    (hd : ∀ q ∈ d, nw q ≤ M) (m1 : 1 ≤ M) (hM : M < 2 ^ 31) (hr : rdOk i d.length) :
    CN 110 [mA, inA i, ptA (cq t) (cqs y) (cqs q), .d (fqs d)] [(1, .box (gc s p l))] (stepR (stepS i t y q d)) [(1, .box (gc s p l))] := by
  generalize hR : stepS i t y q d = R
  refine conF_of Go.Proofs.Tryz.func110 rfl (by kernel_rfl) ⟨rfl, trivial⟩ (Nat.le_of_ble_eq_true rfl) ?_
  unfold stepS at hR
  obtain ⟨hr1, hr2⟩ := hr
  refine .mk (fun g => ?_) (fun g => ?_)
  · have h : i.op = 6 := beq_iff_eq.1 g
    obtain ⟨a0, a1⟩ := hr1 (.inl h)
    rw [if_pos h] at hR; subst hR
    refine .mk a0 ⟨_, _, _, cqs_getI a0 a1, ?_⟩
    have hc := arNeg_c s p l (cq (opd d i.a)) ((cq_ok _).mono (opd_nw hd a0 a1)) m1 (by omega)
    rw [cq_val] at hc
    refine .box1 1 _ _ _ rfl rfl ⟨hc, ?_⟩
    exact fin1 (gc s p l) (stepR (some (-opd d i.a))) (by kernel_rfl)
  have h : i.op ≠ 6 := beq_eq_false_iff_ne.1 g
  rw [if_neg h] at hR
  clear h g
  refine .mk (fun g => ?_) (fun g => ?_)
  · have h : i.op = 11 := beq_iff_eq.1 g
    obtain ⟨a0, a1⟩ := hr1 (.inr h)
    rw [if_pos h] at hR
    refine .mk a0 ⟨_, _, _, cqs_getI a0 a1, ?_⟩
    by_cases hb : i.b < -8 ∨ 8 < i.b ∨ (i.b < 0 ∧ opd d i.a = 0)
    · rw [if_pos hb] at hR; subst hR
      have hc := arPow_no s p l (cq (opd d i.a)) i.b ((cq_ok _).mono (opd_nw hd a0 a1)) m1 hM (by rw [cq_val]; exact hb)
      refine .box1 1 _ _ _ rfl rfl ⟨hc, ?_⟩
      exact fin1 (gc s p l) (stepR none) (by kernel_rfl)
    · rw [if_neg hb] at hR; subst hR
      have hc := arPow_c s p l (cq (opd d i.a)) i.b ((cq_ok _).mono (opd_nw hd a0 a1)) m1 hM (by omega) (by omega) (by rw [cq_val]; intro h2 h3; exact hb (.inr (.inr ⟨h2, h3⟩)))
      rw [cq_val] at hc
      refine .box1 1 _ _ _ rfl rfl ⟨hc, ?_⟩
      exact fin1 (gc s p l) (stepR (some (zp (opd d i.a) i.b))) (by kernel_rfl)
  have h : i.op ≠ 11 := beq_eq_false_iff_ne.1 g
  rw [if_neg h] at hR
  clear h g
  refine .mk (fun g => ?_) (fun g => ?_)
  · have h : i.op = 7 := beq_iff_eq.1 g
    obtain ⟨⟨a0, a1⟩, b0, b1⟩ := hr2 (.inl h)
    rw [if_pos h] at hR; subst hR
    refine .mk a0 ⟨_, _, _, cqs_getI a0 a1, ?_⟩
    refine .mk b0 ⟨_, _, _, cqs_getI b0 b1, ?_⟩
    have hc := arAdd_c s p l (cq (opd d i.a)) (cq (opd d i.b)) ((cq_ok _).mono (opd_nw hd a0 a1)) ((cq_ok _).mono (opd_nw hd b0 b1)) m1 m1 (by omega) (by omega)
    rw [cq_val, cq_val] at hc
    refine .box1 1 _ _ _ rfl rfl ⟨hc, ?_⟩
    exact fin1 (gc s p l) (stepR (some (opd d i.a + opd d i.b))) (by kernel_rfl)
  have h : i.op ≠ 7 := beq_eq_false_iff_ne.1 g
  rw [if_neg h] at hR
  clear h g
  refine .mk (fun g => ?_) (fun g => ?_)
  · have h : i.op = 8 := beq_iff_eq.1 g
    obtain ⟨⟨a0, a1⟩, b0, b1⟩ := hr2 (.inr (.inl h))
    rw [if_pos h] at hR; subst hR
    refine .mk a0 ⟨_, _, _, cqs_getI a0 a1, ?_⟩
    refine .mk b0 ⟨_, _, _, cqs_getI b0 b1, ?_⟩
    have hc := arSub_c s p l (cq (opd d i.a)) (cq (opd d i.b)) ((cq_ok _).mono (opd_nw hd a0 a1)) ((cq_ok _).mono (opd_nw hd b0 b1)) m1 m1 (by omega) (by omega)
    rw [cq_val, cq_val] at hc
    refine .box1 1 _ _ _ rfl rfl ⟨hc, ?_⟩
    exact fin1 (gc s p l) (stepR (some (opd d i.a - opd d i.b))) (by kernel_rfl)
  have h : i.op ≠ 8 := beq_eq_false_iff_ne.1 g
  rw [if_neg h] at hR
  clear h g
  refine .mk (fun g => ?_) (fun g => ?_)
  · have h : i.op = 9 := beq_iff_eq.1 g
    obtain ⟨⟨a0, a1⟩, b0, b1⟩ := hr2 (.inr (.inr (.inl h)))
    rw [if_pos h] at hR; subst hR
    refine .mk a0 ⟨_, _, _, cqs_getI a0 a1, ?_⟩
    refine .mk b0 ⟨_, _, _, cqs_getI b0 b1, ?_⟩
    have hc := arMul_c s p l (cq (opd d i.a)) (cq (opd d i.b)) ((cq_ok _).mono (opd_nw hd a0 a1)) ((cq_ok _).mono (opd_nw hd b0 b1)) m1 m1 (by omega) (by omega)
    rw [cq_val, cq_val] at hc
    refine .box1 1 _ _ _ rfl rfl ⟨hc, ?_⟩
    exact fin1 (gc s p l) (stepR (some (opd d i.a * opd d i.b))) (by kernel_rfl)
  have h : i.op ≠ 9 := beq_eq_false_iff_ne.1 g
  rw [if_neg h] at hR
  clear h g
  refine .mk (fun g => ?_) (fun g => ?_)
  · have h : i.op = 10 := beq_iff_eq.1 g
    obtain ⟨⟨a0, a1⟩, b0, b1⟩ := hr2 (.inr (.inr (.inr h)))
    rw [if_pos h] at hR
    refine .mk a0 ⟨_, _, _, cqs_getI a0 a1, ?_⟩
    refine .mk b0 ⟨_, _, _, cqs_getI b0 b1, ?_⟩
    by_cases hb : opd d i.b = 0
    · rw [if_pos hb] at hR; subst hR
      have hc := arQuo_no s p l (cq (opd d i.a)) (cq (opd d i.b)) ((cq_ok _).mono (opd_nw hd a0 a1)) ((cq_ok _).mono (opd_nw hd b0 b1)) m1 m1 (by omega) (by omega) (by rw [cq_val]; exact hb)
      refine .box1 1 _ _ _ rfl rfl ⟨hc, ?_⟩
      exact fin1 (gc s p l) (stepR none) (by kernel_rfl)
    · rw [if_neg hb] at hR; subst hR
      have hc := arQuo_c s p l (cq (opd d i.a)) (cq (opd d i.b)) ((cq_ok _).mono (opd_nw hd a0 a1)) ((cq_ok _).mono (opd_nw hd b0 b1)) m1 m1 (by omega) (by omega) (by rw [cq_val]; exact hb)
      rw [cq_val, cq_val] at hc
      refine .box1 1 _ _ _ rfl rfl ⟨hc, ?_⟩
      exact fin1 (gc s p l) (stepR (some (opd d i.a / opd d i.b))) (by kernel_rfl)
  have h : i.op ≠ 10 := beq_eq_false_iff_ne.1 g
  rw [if_neg h] at hR; subst hR
  have hc := mcLeaf_c s p l i t y q hn h1 hL hy hq
  refine .box1 1 _ _ _ rfl rfl ⟨hc, ?_⟩
  exact fin1 (gc s p l) (stepR (some (leafS i t y q))) (by kernel_rfl)
end
end Go.KM
end
section
/- Contracts: a machine's run (1): laws. -/
namespace Go.KM
open Go RN
/-- A fault. -/
def flt (k s a : Int) : AV := .agg [i64 k, i64 0, i64 s, i64 a]
structure RunR where
  d : List Rat
  k : Int
  at_ : Int
  s : Int
  p : Int
/-- The results of instructions, from a place on. -/
def runG (t : Rat) (y q : List Rat) (lim : Int) : List In → Nat → List Rat → Int → Int → RunR
  | [], _, d, s, p => ⟨d, 0, 0, s, p⟩
  | i :: r, k, d, s, p => match stepS i t y q d with
    | none => ⟨[], 3, k, s, p⟩
    | some v => if (rsz (cq v) : Int) ≤ lim then runG t y q lim r (k + 1) (d ++ [v]) (gS s) (gP p (rsz (cq v))) else ⟨[], 6, k, gS s, gP p (rsz (cq v))⟩
def runT (tp : Tp) (t : Rat) (y q : List Rat) (lim s p : Int) : RunR :=
  if rightB tp = true ∧ (y.length : Int) = tp.dim ∧ (q.length : Int) = tp.par then runG t y q lim tp.code 0 [] s p else ⟨[], 2, 0, s, p⟩
theorem runG_at (t : Rat) (y q : List Rat) (lim : Int) (l : List In) {k : Nat} (h : k < l.length) (d : List Rat) (s p : Int) :
    runG t y q lim (l.drop k) k d s p = match stepS l[k] t y q d with
    | none => ⟨[], 3, k, s, p⟩
    | some v => if (rsz (cq v) : Int) ≤ lim then runG t y q lim (l.drop (k + 1)) (k + 1) (d ++ [v]) (gS s) (gP p (rsz (cq v))) else ⟨[], 6, k, gS s, gP p (rsz (cq v))⟩ := by
  rw [List.drop_eq_getElem_cons h]
  rfl
theorem belowB_iff {i m : Int} : belowB i m = true ↔ 0 ≤ i ∧ i < m := by
  unfold belowB
  rw [Bool.and_eq_true, decide_eq_true_eq, decide_eq_true_eq]
theorem may_facts {tp : Tp} {i : In} {k : Nat} (h : mayB tp i k = true) : rdOk i k ∧ (i.op = 3 → 0 ≤ i.a ∧ i.a < tp.dim) ∧ (i.op = 4 → 0 ≤ i.a ∧ i.a < tp.par) := by
  unfold mayB at h
  split at h
  · refine ⟨⟨?_, ?_⟩, ?_, ?_⟩ <;> intro h' <;> omega
  split at h
  · cases h
  split at h
  · cases h
  rename_i h1 h2 h3
  have h3 : (readsL i).all (fun r => belowB r k) = true := by simpa using h3
  refine ⟨⟨fun h' => ?_, fun h' => ?_⟩, fun h' => ?_, fun h' => ?_⟩
  · unfold readsL at h3
    rcases h' with e | e
    · rw [if_pos e] at h3
      simpa [belowB_iff] using h3
    · rw [if_neg (by omega), if_pos e] at h3
      simpa [belowB_iff] using h3
  · unfold readsL at h3
    rw [if_neg (by omega), if_neg (by omega)] at h3
    rcases h' with e | e | e | e
    · rw [if_pos e] at h3; simpa [belowB_iff] using h3
    · rw [if_neg (by omega), if_pos e] at h3; simpa [belowB_iff] using h3
    · rw [if_neg (by omega), if_neg (by omega), if_pos e] at h3; simpa [belowB_iff] using h3
    · rw [if_neg (by omega), if_neg (by omega), if_neg (by omega), if_pos e] at h3; simpa [belowB_iff] using h3
  · rw [if_neg (by omega), if_pos h', Bool.and_eq_true] at h
    exact belowB_iff.1 h.1
  · rw [if_neg (by omega), if_neg (by omega), if_pos h', Bool.and_eq_true] at h
    exact belowB_iff.1 h.1
theorem right_may {tp : Tp} (h : rightB tp = true) {k : Nat} (hk : k < tp.code.length) : mayB tp tp.code[k] k = true := by
  unfold rightB at h
  rw [Bool.and_eq_true, Bool.and_eq_true] at h
  have := all_range.1 h.1.2 k hk
  rwa [code_getD hk] at this
/-- Numbers of so many bits have few words. -/
theorem bl_nwN {n : Nat} : nwN n ≤ bl n / 32 + 1 := by
  refine nwN_le.2 (Nat.lt_of_lt_of_le (lt_bl n) ?_)
  have e : (4294967296 : Nat) = 2 ^ 32 := rfl
  rw [e, ← Nat.pow_mul]
  exact Nat.pow_le_pow_right (by decide) (by omega)
theorem rsz_nw {v : Rat} {lim : Int} (h : (rsz (cq v) : Int) ≤ lim) (hl : lim ≤ 4096) : nw v ≤ 129 := by
  unfold rsz cq qn qd at h
  simp only [wv_wl] at h
  unfold nw
  have h1 := @bl_nwN v.num.natAbs
  have h2 := @bl_nwN v.den
  omega
theorem getD_nw {M : Nat} {l : List Rat} {n : Nat} (h : ∀ q ∈ l, nw q ≤ M) (m1 : 1 ≤ M) : nw (l.getD n 0) ≤ M := by
  rw [List.getD_eq_getElem?_getD]
  rcases Nat.lt_or_ge n l.length with hn | hn
  · rw [List.getElem?_eq_getElem hn]; exact h _ (List.getElem_mem hn)
  · rw [List.getElem?_eq_none hn]; exact Nat.le_trans nw_zero m1
theorem stepS_nw {i : In} {t : Rat} {y q d : List Rat} {L M : Nat} {v : Rat} (hi : nw i.n.val ≤ L) (ht : nw t ≤ L) (hy : ∀ x ∈ y, nw x ≤ L) (hq : ∀ x ∈ q, nw x ≤ L) (hd : ∀ x ∈ d, nw x ≤ M) (l1 : 1 ≤ L) (m1 : 1 ≤ M)
    (h : stepS i t y q d = some v) : nw v ≤ L + 8 * M + 1 := by
  have ha : nw (opd d i.a) ≤ M := getD_nw hd m1
  have hb : nw (opd d i.b) ≤ M := getD_nw hd m1
  unfold stepS at h
  split at h
  · cases h; rw [nw_neg]; omega
  split at h
  · split at h
    · cases h
    · rename_i h1
      cases h
      have := nw_zp (q := opd d i.a) (e := i.b) (by omega) (by omega) (by
        by_cases h0 : opd d i.a = 0
        · exact .inl (by
            rcases Int.lt_or_le i.b 0 with h2 | h2
            · exact absurd (.inr (.inr ⟨h2, h0⟩)) h1
            · exact h2)
        · exact .inr h0)
      omega
  split at h
  · cases h; have := nw_add (opd d i.a) (opd d i.b); omega
  split at h
  · cases h; have := nw_sub (opd d i.a) (opd d i.b); omega
  split at h
  · cases h; have := nw_mul (opd d i.a) (opd d i.b); omega
  split at h
  · split at h
    · cases h
    · cases h; have := nw_div (opd d i.a) (opd d i.b); omega
  cases h
  unfold leafS
  split
  · omega
  split
  · have := getD_nw (n := i.a.toNat) hy l1; omega
  split
  · have := getD_nw (n := i.a.toNat) hq l1; omega
  · omega
end Go.KM
end
section
/- Contracts: a machine's run (2): the walk. -/
namespace Go.KM
open Go RN
section
variable {L : Nat}
theorem le_len {k n : Nat} (h : decide ((k : Int) < (n : Int)) = false) (h2 : k ≤ n) : k = n := by
  have : ¬ (k : Int) < n := of_decide_eq_false h
  omega
set_option maxRecDepth 10000 in
theorem mcRun_no (tp : Tp) (t : Rat) (y q : List Rat) (lim s p : Int) (h1 : 1 ≤ L) (hL : L < 2 ^ 30) (hc : iok L tp.code) (lt : tp.code.length < 2 ^ 30) (lo : tp.outs.length < 2 ^ 30)
    (hR : ¬ (rightB tp = true ∧ (y.length : Int) = tp.dim ∧ (q.length : Int) = tp.par)) :
    CN 80 [mA, tpA tp, ptA (cq t) (cqs y) (cqs q)] [(1, .box (gc s p lim))] (.tup [.d (.sl []), flt 2 0 0]) [(1, .box (gc s p lim))] := by
  refine conF_of Go.Proofs.Tryz.func80 rfl (by kernel_rfl) ⟨rfl, trivial⟩ (Nat.le_of_ble_eq_true rfl) ?_
  have ly : (((cqs y).map fds).length : Int) = y.length := by rw [List.length_map, cqs_len]
  have lq : (((cqs q).map fds).length : Int) = q.length := by rw [List.length_map, cqs_len]
  refine .by _ ⟨tpRight_c tp (by omega) (by omega) hc h1 (by omega), ?_⟩
  by_cases b1 : rightB tp = true
  · refine .no (by rw [b1]; rfl) ?_
    by_cases b2 : (y.length : Int) = tp.dim
    · refine .no (by rw [ly, b2]; simp) ?_
      have b3 : (q.length : Int) ≠ tp.par := fun b3 => hR ⟨b1, b2, b3⟩
      refine .yes (by rw [lq]; exact bne_iff_ne.2 b3) ?_
      exact ⟨⟨rfl, trivial⟩, rfl⟩
    · refine .yes (by rw [ly]; exact bne_iff_ne.2 b2) ?_
      refine .yes rfl ?_
      exact ⟨⟨rfl, trivial⟩, rfl⟩
  · refine .yes (by rw [show rightB tp = false by simpa using b1]; rfl) ?_
    refine .yes rfl ?_
    refine .yes rfl ?_
    exact ⟨⟨rfl, trivial⟩, rfl⟩
def runMem (tp : Tp) (t : Rat) (y q : List Rat) (lim s p : Int) (rest : Mem) : Mem := (1, .box (gc s p lim)) :: (3, .box [.addr 1 0]) :: (4, .box [.d (.sl (tp.code.map inD)), .d (isl tp.outs), i64 tp.dim, i64 tp.par]) :: (5, .box [.d (.bool (cq t).s), .d (wd (cq t).n), .d (wd (cq t).d), .d (fqs y), .d (fqs q)]) :: (7, .box [i64 0, i64 0, i64 0, i64 0]) :: rest
structure RunS where
  k : Nat
  d : List Rat
  s : Int
  p : Int
  lent : Bool
set_option maxHeartbeats 4000000 in
set_option maxRecDepth 10000 in
theorem mcRun_yes (tp : Tp) (t : Rat) (y q : List Rat) (lim s p : Int) (h1 : 1 ≤ L) (hL : L < 2 ^ 30) (hc : iok L tp.code) (lt : tp.code.length < 2 ^ 30) (lo : tp.outs.length < 2 ^ 30)
    (ht : nw t ≤ L) (hy : ∀ x ∈ y, nw x ≤ L) (hq : ∀ x ∈ q, nw x ≤ L) (hl : lim ≤ 4096) (b1 : rightB tp = true) (b2 : (y.length : Int) = tp.dim) (b3 : (q.length : Int) = tp.par) (R : RunR) (hinv : runG t y q lim tp.code 0 [] s p = R) :
    CN 80 [mA, tpA tp, ptA (cq t) (cqs y) (cqs q)] [(1, .box (gc s p lim))] (.tup [.d (fqs R.d), flt R.k 0 R.at_]) [(1, .box (gc R.s R.p lim))] := by
  refine conF_of Go.Proofs.Tryz.func80 rfl (by kernel_rfl) ⟨rfl, trivial⟩ (Nat.le_of_ble_eq_true rfl) ?_
  have ly : (((cqs y).map fds).length : Int) = y.length := by rw [List.length_map, cqs_len]
  have lq : (((cqs q).map fds).length : Int) = q.length := by rw [List.length_map, cqs_len]
  refine .by _ ⟨tpRight_c tp (by omega) (by omega) hc h1 (by omega), ?_⟩
  refine .no (by rw [b1]; rfl) ?_
  refine .no (by rw [ly, b2]; simp) ?_
  refine .no (by rw [lq, b3]; simp) ?_
  have hinv : runG t y q lim (tp.code.drop 0) 0 [] s p = R := hinv
  refine .mk 1 ⟨frS 70 [(3, .addr 3 0), (4, .addr 4 0), (5, .addr 5 0), (7, .addr 7 0), (8, .nils), (34, .d (.sl (tp.code.map inD))), (35, i64 tp.code.length), (36, i64 0)],
    runMem tp t y q lim s p [],
    ⟨rfl, rfl, rfl, rfl, rfl, rfl, congrArg (fun z => AV.d (.int .i64 z)) (inLen _), rfl, trivial⟩, ⟨rfl, rfl, rfl, rfl, rfl, trivial⟩, ⟨rfl, trivial⟩, ?_⟩
  refine .mk (fun h0 => ?_) (fun h0 => ?_)
  · have hk : 0 < tp.code.length := by simpa using h0
    have hd : ∀ x ∈ ([] : List Rat), nw x ≤ 129 := by intro x hx; cases hx
    refine .mk (by omega) ⟨_, _, _, _, _, _, in_getI (by omega) hk, ?_⟩
    obtain ⟨f1, f2, f3⟩ := may_facts (right_may b1 hk)
    have hst := mcStep_c s p lim tp.code[0] t y q [] (hc _ (List.getElem_mem hk)) h1 (by omega) (fun e => by rw [b2]; exact f2 e) (fun e => by rw [b3]; exact f3 e) hd (by decide : 1 ≤ 129) (by decide) f1
    refine .box1 1 _ _ _ rfl rfl ⟨hst, ?_⟩
    have hG := hinv.symm.trans (runG_at t y q lim tp.code hk [] s p)
    cases hs : stepS tp.code[0] t y q [] with
    | none =>
      rw [hs] at hG
      refine .yes rfl ?_
      refine ⟨⟨?_, trivial⟩, ?_⟩
      · rw [hG]; rfl
      · rw [hG]; rfl
    | some v =>
      rw [hs] at hG
      refine .no rfl ?_
      have nv := stepS_nw (nw_val (hc _ (List.getElem_mem hk)) h1) ht hy hq hd h1 (by decide) hs
      refine .box1 1 _ _ _ rfl rfl ⟨arFits_c s p lim (cq v) ((cq_ok v).mono nv) (by omega), ?_⟩
      refine .mk (fun g2 => ?_) (fun g2 => ?_)
      · have g2 : ¬ (rsz (cq v) : Int) ≤ lim := by simpa using g2
        have hG := hG.trans (if_neg g2)
        refine ⟨⟨?_, trivial⟩, ?_⟩
        · rw [hG]; rfl
        · rw [hG]; rfl
      · have g2 : (rsz (cq v) : Int) ≤ lim := by simpa using g2
        have hG := hG.trans (if_pos g2)
        have nv2 := rsz_nw g2 hl
        refine .of rfl (.of ⟨Nat.zero_lt_one, (by decide : (1 : Nat) * 56 ≤ 140737488355328), (by decide : (1 : Nat) ≤ 140737488355328), one3⟩ ?_)
        refine .mk RunS (fun σ => frS 70 [(3, .addr 3 0), (4, .addr 4 0), (5, .addr 5 0), (7, .addr 7 0), (8, .own 66 σ.k 3), (34, .d (.sl (tp.code.map inD))), (35, i64 tp.code.length), (36, i64 σ.k)])
          (fun σ => runMem tp t y q lim σ.s σ.p [(66, .row 3 ((cqs σ.d).map fds) σ.lent)])
          (fun σ => σ.k ≤ tp.code.length ∧ σ.d.length = σ.k ∧ (∀ x ∈ σ.d, nw x ≤ 129) ∧ runG t y q lim (tp.code.drop σ.k) σ.k σ.d σ.s σ.p = R) (fun σ => tp.code.length - σ.k)
          ⟨1, [v], gS s, gP p (rsz (cq v)), false⟩ ⟨hk, rfl, by intro x hx; rw [List.mem_singleton.1 hx]; exact nv2, hG.symm⟩
          ⟨rfl, rfl, rfl, rfl, rfl, rfl, rfl, wrapS (k := 0) (by omega), trivial⟩ ⟨rfl, rfl, rfl, rfl, rfl, rfl, trivial⟩ ⟨rfl, trivial⟩ ?_
        rintro ⟨k, d, s', p', le⟩ ⟨hk0, hlen, hd, hinv⟩
        simp only at hk0 hlen hd hinv
        have lend : ((cqs d).map fds).length = k := by rw [List.length_map, cqs_len, hlen]
        refine .mk (fun h3 => ?_) (fun h3 => ?_)
        · have hk : k < tp.code.length := by simpa using h3
          refine .mk (by omega) ⟨_, _, _, _, _, _, in_getI (Int.toNat_natCast k) hk, ?_⟩
          obtain ⟨f1, f2, f3⟩ := may_facts (right_may b1 hk)
          have hst := mcStep_c s' p' lim tp.code[k] t y q d (hc _ (List.getElem_mem hk)) h1 (by omega) (fun e => by rw [b2]; exact f2 e) (fun e => by rw [b3]; exact f3 e) hd (by decide : 1 ≤ 129) (by decide) (by rw [hlen]; exact f1)
          refine .box1 1 _ _ _ rfl rfl (.of ⟨lend, rfl⟩ ⟨hst, ?_⟩)
          have hG := hinv.symm.trans (runG_at t y q lim tp.code hk d s' p')
          cases hs : stepS tp.code[k] t y q d with
          | none =>
            rw [hs] at hG
            refine .yes rfl ?_
            refine ⟨⟨?_, trivial⟩, ?_⟩
            · rw [hG]; rfl
            · rw [hG]; rfl
          | some v =>
            rw [hs] at hG
            refine .no rfl ?_
            have nv := stepS_nw (nw_val (hc _ (List.getElem_mem hk)) h1) ht hy hq hd h1 (by decide) hs
            refine .box1 1 _ _ _ rfl rfl ⟨arFits_c s' p' lim (cq v) ((cq_ok v).mono nv) (by omega), ?_⟩
            refine .mk (fun g2 => ?_) (fun g2 => ?_)
            · have g2 : ¬ (rsz (cq v) : Int) ≤ lim := by simpa using g2
              have hG := hG.trans (if_neg g2)
              refine ⟨⟨?_, trivial⟩, ?_⟩
              · rw [hG]; rfl
              · rw [hG]; rfl
            · have g2 : (rsz (cq v) : Int) ≤ lim := by simpa using g2
              have hG := hG.trans (if_pos g2)
              have nv2 := rsz_nw g2 hl
              refine .of rfl (.of ⟨lend, rfl, rfl, ?_, ?_, one3⟩ ?_)
              · show (k + 1) * 56 ≤ _; omega
              · show k + 1 ≤ _; omega
              refine ⟨⟨k + 1, d ++ [v], gS s', gP p' (rsz (cq v)), true⟩, ⟨hk, by rw [List.length_append, hlen]; rfl, ?_, hG.symm⟩, by show tp.code.length - (k + 1) < tp.code.length - k; omega, ⟨rfl, rfl, rfl, rfl, rfl, rfl, rfl, wrapS (k := k) (by omega), trivial⟩, ⟨rfl, rfl, rfl, rfl, rfl, ?_, trivial⟩, ⟨rfl, trivial⟩⟩
              · intro x hx
                rcases List.mem_append.1 hx with hx | hx
                · exact hd x hx
                · rw [List.mem_singleton.1 hx]; exact nv2
              · show some (Blk.row 3 ((cqs d).map fds ++ [fds (cq v)]) true) = some (Blk.row 3 ((cqs (d ++ [v])).map fds) true)
                rw [cqs, cqs, List.map_append, List.map_append]
                rfl
        · have h3 := le_len h3 hk0
          subst h3
          rw [List.drop_length] at hinv
          subst hinv
          refine .of ⟨lend, rfl⟩ ⟨⟨rfl, trivial⟩, rfl⟩
  · have h0 : tp.code = [] := by
      have : ¬ (0 : Int) < tp.code.length := of_decide_eq_false h0
      exact List.length_eq_zero_iff.1 (by omega)
    rw [h0] at hinv
    subst hinv
    exact ⟨⟨rfl, trivial⟩, rfl⟩
end
end Go.KM
end
section
/- Contracts: run.Tape, run.Outs, run.Field. -/
namespace Go.KM
open Go RN
section
variable {L : Nat}
theorem mcRun_c (tp : Tp) (t : Rat) (y q : List Rat) (lim s p : Int) (h1 : 1 ≤ L) (hL : L < 2 ^ 30) (hc : iok L tp.code) (lt : tp.code.length < 2 ^ 30) (lo : tp.outs.length < 2 ^ 30)
    (ht : nw t ≤ L) (hy : ∀ x ∈ y, nw x ≤ L) (hq : ∀ x ∈ q, nw x ≤ L) (hl : lim ≤ 4096) (R : RunR) (hR : runT tp t y q lim s p = R) :
    CN 80 [mA, tpA tp, ptA (cq t) (cqs y) (cqs q)] [(1, .box (gc s p lim))] (.tup [.d (fqs R.d), flt R.k 0 R.at_]) [(1, .box (gc R.s R.p lim))] := by
  unfold runT at hR
  split at hR
  · rename_i h
    exact mcRun_yes tp t y q lim s p h1 hL hc lt lo ht hy hq hl h.1 h.2.1 h.2.2 R hR
  · rename_i h
    subst hR
    exact mcRun_no tp t y q lim s p h1 hL hc lt lo h
theorem gNew_at (d : Nat) (n : Int) : CN 27 [i64 n] [] (.addr d 0) [(d, .box (gc 0 0 (gLim n)))] := by
  have := (gNew_1 n).ren (swp_swap 7 d)
  simp only [renAV.renAVs, renAV, renMem, renBlk, swp_a, i64, gc] at this
  exact this
theorem gLim_le (n : Int) : gLim n ≤ 4096 := by unfold gLim; omega
theorem vals_nw {l : List RF} (h : oks L l) (h1 : 1 ≤ L) : ∀ x ∈ vals l, nw x ≤ L := by
  intro x hx
  obtain ⟨y, hy, rfl⟩ := List.mem_map.1 hx
  exact nw_val (h y hy) h1
/-- What a tape's run at a point gives. -/
def tapeS (tp : Tp) (T : RF) (Y P : List RF) (bits : Int) : RunR := runT tp T.val (vals Y) (vals P) (gLim bits) 0 0
set_option maxRecDepth 10000 in
theorem runTape_c (tp : Tp) (T : RF) (Y P : List RF) (bits : Int) (hT : T.ok L) (hY : oks L Y) (hP : oks L P) (h1 : 1 ≤ L) (hL : L < 2 ^ 30) (lY : Y.length < 2 ^ 30) (lP : P.length < 2 ^ 30) (hc : iok L tp.code) (lt : tp.code.length < 2 ^ 30) (lo : tp.outs.length < 2 ^ 30) :
    CN 57 [tpA tp, ptA T Y P, i64 bits] [] (.tup [.d (fqs (tapeS tp T Y P bits).d), flt (tapeS tp T Y P bits).k 0 (tapeS tp T Y P bits).at_]) [] := by
  have hr := mcRun_c tp T.val (vals Y) (vals P) (gLim bits) 0 0 h1 hL hc lt lo (nw_val hT h1) (vals_nw hY h1) (vals_nw hP h1) (gLim_le bits) _ rfl
  rw [show runT tp T.val (vals Y) (vals P) (gLim bits) 0 0 = tapeS tp T Y P bits from rfl] at hr
  generalize tapeS tp T Y P bits = R at *
  refine con_of Go.Proofs.Tryz.func57 rfl (by kernel_rfl) (Nat.le_of_ble_eq_true rfl) ?_
  refine .by _ ⟨evNorm_c T Y P hT hY hP h1 (by omega) lY lP, ?_⟩
  refine .new 1 _ _ rfl ⟨gNew_at 1 bits, ?_⟩
  refine .box1 1 _ _ _ rfl rfl ⟨hr, ?_⟩
  exact ⟨trivial, rfl⟩
/-- What a tape tells of results. -/
def outsS (tp : Tp) (d : List Rat) : List Rat := tp.outs.map fun o => d.getD o.toNat 0
set_option maxRecDepth 10000 in
theorem runOuts_c (tp : Tp) (d : List Rat) (h1 : 1 ≤ L) (hL : L < 2 ^ 30) (hd : ∀ x ∈ d, nw x ≤ L) (hc : iok L tp.code) (lt : tp.code.length < 2 ^ 30) (lo : tp.outs.length < 2 ^ 30) (hr : rightB tp = true) (hl : d.length = tp.code.length) :
    CN 58 [tpA tp, .d (fqs d)] [] (.d (fqs (outsS tp d))) [] := by
  have ho : ∀ k (h : k < tp.outs.length), 0 ≤ tp.outs[k] ∧ tp.outs[k] < d.length := by
    intro k h
    unfold rightB at hr
    rw [Bool.and_eq_true] at hr
    have := all_outs.1 hr.2 k h
    rw [List.getD_eq_getElem?_getD, List.getElem?_eq_getElem h] at this
    rw [hl]
    exact belowB_iff.1 this
  refine con_of Go.Proofs.Tryz.func58 rfl (by kernel_rfl) (Nat.le_of_ble_eq_true rfl) ?_
  refine .by _ ⟨tpRight_c tp (by omega) (by omega) hc h1 (by omega), ?_⟩
  refine .no (by rw [hr]; rfl) ?_
  refine .no (by rw [List.length_map, List.length_map, cqs_len, hl]; simp) ?_
  have nrm : ∀ k (h : k < tp.outs.length), CN 56 [fav (cq (opd d tp.outs[k]))] [] (fq (opd d tp.outs[k])) [] := by
    intro k h
    have := frNorm_c (cq (opd d tp.outs[k])) ((cq_ok _).mono (opd_nw hd (ho k h).1 (ho k h).2)) h1 (by omega)
    rwa [cq_val] at this
  have tk : ∀ {k} (h : k < tp.outs.length), (cqs ((tp.outs.take (k + 1)).map (opd d))).map fds = (cqs ((tp.outs.take k).map (opd d))).map fds ++ [fds (cq (opd d tp.outs[k]))] := fun h => map_takeD h
  refine .mk 1 ⟨frS 36 [(1, .d (fqs d)), (5, .nils), (20, .d (isl tp.outs)), (21, i64 tp.outs.length), (22, i64 0)], [], ⟨rfl, rfl, rfl, congrArg (fun z => AV.d (.int .i64 z)) (islLen _), rfl, trivial⟩, trivial, trivial, ?_⟩
  refine .mk (fun h0 => ?_) (fun h0 => ?_)
  · have l0 : 0 < tp.outs.length := by simpa using h0
    refine .mk (by omega) ⟨_, isl_getI (by omega) l0, ?_⟩
    refine .mk (ho 0 l0).1 ⟨_, _, _, cqs_getI (ho 0 l0).1 (ho 0 l0).2, ?_⟩
    refine .by _ ⟨nrm 0 l0, ?_⟩
    refine .of rfl (.of ⟨Nat.zero_lt_one, (by decide : (1 : Nat) * 56 ≤ 140737488355328), (by decide : (1 : Nat) ≤ 140737488355328), one3⟩ ?_)
    refine .mk Nat (fun k => frS 36 [(1, .d (fqs d)), (5, .own 33 k 3), (20, .d (isl tp.outs)), (21, i64 tp.outs.length), (22, i64 k)]) (fun k => [(33, .row 3 ((cqs ((tp.outs.take k).map (opd d))).map fds) false)])
      (fun k => k ≤ tp.outs.length) (fun k => tp.outs.length - k) 1 l0 ⟨rfl, rfl, rfl, rfl, wrapS (k := 0) (by omega), trivial⟩ ⟨?_, trivial⟩ trivial ?_
    · show some _ = _
      rw [tk l0]
      rfl
    · intro k hk
      refine .mk (fun h3 => ?_) (fun h3 => ?_)
      · have h3 : k < tp.outs.length := by simpa using h3
        refine .mk (by omega) ⟨_, isl_getI (by omega) h3, ?_⟩
        refine .mk (ho k h3).1 ⟨_, _, _, cqs_getI (ho k h3).1 (ho k h3).2, ?_⟩
        refine .by _ ⟨nrm k h3, ?_⟩
        refine .of rfl (.of ⟨take_len_map hk, rfl, rfl, ?_, ?_, one3⟩ ?_)
        · show (k + 1) * 56 ≤ _; omega
        · show k + 1 ≤ _; omega
        · refine ⟨k + 1, h3, by omega, ⟨rfl, rfl, rfl, rfl, wrapS (by omega), trivial⟩, ⟨?_, trivial⟩, trivial⟩
          rw [tk h3]
          rfl
      · have h3 := le_len h3 hk
        subst h3
        refine .of ⟨take_len_map hk, rfl⟩ ⟨trivial, ?_⟩
        rw [List.take_length]
        rfl
  · have l0 : tp.outs = [] := by
      have : ¬ (0 : Int) < tp.outs.length := of_decide_eq_false h0
      exact List.length_eq_zero_iff.1 (by omega)
    unfold outsS
    rw [l0]
    exact ⟨trivial, rfl⟩
theorem runG_len {t : Rat} {y q : List Rat} {lim : Int} : ∀ (l : List In) (k : Nat) (d : List Rat) (s p : Int), (runG t y q lim l k d s p).k = 0 → (runG t y q lim l k d s p).d.length = d.length + l.length
  | [], k, d, s, p, _ => rfl
  | i :: r, k, d, s, p, h => by
    rw [runG] at h ⊢
    cases hs : stepS i t y q d with
    | none => rw [hs] at h; exact absurd h (by decide : ¬ (3 : Int) = 0)
    | some v =>
      rw [hs] at h
      simp only at h ⊢
      split at h
      · rename_i g
        rw [if_pos g]
        have := runG_len r (k + 1) (d ++ [v]) _ _ h
        rw [this, List.length_append]
        show d.length + 1 + r.length = d.length + (r.length + 1)
        omega
      · exact absurd h (by decide : ¬ (6 : Int) = 0)
theorem runG_nw {t : Rat} {y q : List Rat} {lim : Int} (hl : lim ≤ 4096) : ∀ (l : List In) (k : Nat) (d : List Rat) (s p : Int), (∀ x ∈ d, nw x ≤ 129) → ∀ x ∈ (runG t y q lim l k d s p).d, nw x ≤ 129
  | [], k, d, s, p, h, x, hx => h x hx
  | i :: r, k, d, s, p, h, x, hx => by
    rw [runG] at hx
    cases hs : stepS i t y q d with
    | none => rw [hs] at hx; cases hx
    | some v =>
      rw [hs] at hx
      simp only at hx
      split at hx
      · rename_i g
        refine runG_nw hl r (k + 1) (d ++ [v]) _ _ ?_ x hx
        intro z hz
        rcases List.mem_append.1 hz with hz | hz
        · exact h z hz
        · rw [List.mem_singleton.1 hz]; exact rsz_nw g hl
      · cases hx
theorem tapeS_ok {tp : Tp} {T : RF} {Y P : List RF} {bits : Int} (h : (tapeS tp T Y P bits).k = 0) : rightB tp = true ∧ (Y.length : Int) = tp.dim ∧ (P.length : Int) = tp.par ∧ (tapeS tp T Y P bits).d.length = tp.code.length := by
  unfold tapeS runT at *
  split at h
  · rename_i g
    rw [if_pos g]
    rw [vals_len, vals_len] at g
    refine ⟨g.1, g.2.1, g.2.2, ?_⟩
    have := runG_len _ _ _ _ _ h
    rw [this, List.length_nil, Nat.zero_add]
  · exact absurd h (by decide : ¬ (2 : Int) = 0)
theorem runG_at0 {t : Rat} {y q : List Rat} {lim : Int} : ∀ (l : List In) (k : Nat) (d : List Rat) (s p : Int), (runG t y q lim l k d s p).k = 0 → (runG t y q lim l k d s p).at_ = 0
  | [], k, d, s, p, _ => rfl
  | i :: r, k, d, s, p, h => by
    rw [runG] at h ⊢
    cases hs : stepS i t y q d with
    | none => rw [hs] at h; exact absurd h (by decide : ¬ (3 : Int) = 0)
    | some v =>
      rw [hs] at h
      simp only at h ⊢
      split at h
      · rename_i g
        rw [if_pos g]
        exact runG_at0 r (k + 1) (d ++ [v]) _ _ h
      · exact absurd h (by decide : ¬ (6 : Int) = 0)
theorem tapeS_at {tp : Tp} {T : RF} {Y P : List RF} {bits : Int} (h : (tapeS tp T Y P bits).k = 0) : (tapeS tp T Y P bits).at_ = 0 := by
  unfold tapeS runT at *
  split at h
  · rename_i g
    rw [if_pos g]
    exact runG_at0 _ _ _ _ _ h
  · exact absurd h (by decide : ¬ (2 : Int) = 0)
theorem tapeS_nw {tp : Tp} {T : RF} {Y P : List RF} {bits : Int} : ∀ x ∈ (tapeS tp T Y P bits).d, nw x ≤ 129 := by
  unfold tapeS runT
  split
  · exact runG_nw (gLim_le _) _ _ _ _ _ (by intro x hx; cases hx)
  · intro x hx; cases hx
/-- What a tape tells at a point: values, a fault's kind and place. -/
def fieldD (tp : Tp) (T : RF) (Y P : List RF) (bits : Int) : List Rat := if (tapeS tp T Y P bits).k = 0 then outsS tp (tapeS tp T Y P bits).d else []
set_option maxRecDepth 10000 in
theorem runField_c (tp : Tp) (T : RF) (Y P : List RF) (bits : Int) (hT : T.ok L) (hY : oks L Y) (hP : oks L P) (h1 : 129 ≤ L) (hL : L < 2 ^ 30) (lY : Y.length < 2 ^ 30) (lP : P.length < 2 ^ 30) (hc : iok L tp.code) (lt : tp.code.length < 2 ^ 30) (lo : tp.outs.length < 2 ^ 30) :
    CN 36 [tpA tp, ptA T Y P, i64 bits] [] (.tup [.d (fqs (fieldD tp T Y P bits)), flt (tapeS tp T Y P bits).k 0 (tapeS tp T Y P bits).at_]) [] := by
  have hr := runTape_c tp T Y P bits hT hY hP (by omega) hL lY lP hc lt lo
  have hok := @tapeS_ok tp T Y P bits
  have hnw := @tapeS_nw tp T Y P bits
  have hat : (tapeS tp T Y P bits).k = 0 → (tapeS tp T Y P bits).at_ = 0 := tapeS_at
  unfold fieldD
  generalize tapeS tp T Y P bits = R at *
  refine con_of Go.Proofs.Tryz.func36 rfl (by kernel_rfl) (Nat.le_of_ble_eq_true rfl) ?_
  refine .by _ ⟨hr, ?_⟩
  refine .mk (fun g => ?_) (fun g => ?_)
  · have g : (!(R.k == 0 && (true && (true && (R.at_ == 0 && true))))) = true := g
    have hk : R.k ≠ 0 := by
      intro e
      rw [e, hat e] at g
      cases g
    rw [if_neg hk]
    exact ⟨trivial, rfl⟩
  · have g : (!(R.k == 0 && (true && (true && (R.at_ == 0 && true))))) = false := g
    have hk : R.k = 0 := by simp at g; exact g.1
    rw [if_pos hk]
    obtain ⟨o1, _, _, o4⟩ := hok hk
    refine .by _ ⟨runOuts_c tp R.d (by omega) hL (fun x hx => Nat.le_trans (hnw x hx) h1) hc lt lo o1 o4, ?_⟩
    exact ⟨trivial, rfl⟩
end
end Go.KM
end
section
/- lex.sign: walked by the kit's own steps. -/
namespace Go.Proofs
open Go
def signS : ByteArray := ⟨#[43, 45, 42, 47, 94, 40, 41, 91, 93, 44, 59, 61]⟩
def signL : List Int := [43, 45, 42, 47, 94, 40, 41, 91, 93, 44, 59, 61]
theorem sign_at : ∀ (i : Nat) (h : i < signS.size), (signS[i]'h).toNat < 128 ∧ signL.getD i 0 = ((signS[i]'h).toNat : Int) := by decide
set_option maxHeartbeats 2000000 in
set_option maxRecDepth 100000 in
theorem sign_calls (c : Int) (h0 : 0 ≤ c) (h1 : c < 256) (w : World) : Calls Tryz.prog 148 #[.int .u8 c] w fun e w' => e = .returned (.bool (decide (c ∈ signL))) ∧ ∃ pos, w' = w.iter signS pos := by
  go_enter Tryz.func148, Tryz.ntmps148
  go_wp2
  go_loopg [4] 12 (fun g _ wx => ∃ i : Nat, i + g = 12 ∧ wx = w.iter signS i ∧ ∀ j, j < i → signL.getD j 0 ≠ c)
  case atStart => exact ⟨0, by omega, rfl, by intro j h; omega⟩
  case round =>
    obtain ⟨i, hig, rfl, hno⟩ := hrel
    cases gk with
    | zero =>
      obtain rfl : i = 12 := by omega
      have hnx := fun ty => run_next_end (P := Tryz.prog) w signS 12 ty (by decide)
      have hm : decide (c ∈ signL) = false := by
        rw [decide_eq_false]
        intro hc
        obtain ⟨j, hj, e⟩ := List.mem_iff_getElem.1 hc
        refine hno j hj ?_
        rw [List.getD_eq_getElem?_getD, List.getElem?_eq_getElem hj]
        exact e
      clear hno
      go_wp2
      go_ret
      exact ⟨by first | rfl | (rw [hm]; rfl), _, rfl⟩
    | succ g =>
      have hi : i < signS.size := by show i < 12; omega
      obtain ⟨a1, a2⟩ := sign_at i hi
      have hnx := fun ty => run_next_ascii (P := Tryz.prog) w signS i ty hi a1
      generalize (signS[i]'hi).toNat = x at *
      have hcv : IntKind.u8.wrap (x : Int) = x := by simp [IntKind.wrap, IntKind.signed, IntKind.bits]; omega
      by_cases hb : (x : Int) = c
      · subst hb
        have hm : decide ((x : Int) ∈ signL) = true := by
          have hi' : i < signL.length := hi
          rw [decide_eq_true_eq, ← a2, List.getD_eq_getElem?_getD, List.getElem?_eq_getElem hi']
          exact List.getElem_mem _
        clear hno a2
        go_wp2
        go_ret
        exact ⟨by first | rfl | (rw [hm]; rfl), _, rfl⟩
      · have hbb : ((x : Int) == c) = false := beq_eq_false_iff_ne.2 hb
        have hno2 : ∀ j, j < i + 1 → signL.getD j 0 ≠ c := by
          intro j hj
          rcases Nat.lt_succ_iff_lt_or_eq.1 hj with h | h
          · exact hno j h
          · rw [h, a2]; exact hb
        clear hno a2
        go_wp2
        go_roundg g
        case measure => omega
        case rel => exact ⟨i + 1, by omega, rfl, hno2⟩
end Go.Proofs
namespace Go.KM
open Go Go.Proofs
/-- lex.sign. -/
theorem lexSign_c (c : Int) (h0 : 0 ≤ c) (h1 : c < 256) : CN 148 [.d (.int .u8 c)] [] (.d (.bool (decide (c ∈ signL)))) [] :=
  Con.of_calls ⟨_, Go.Proofs.Tryz.func148, by kernel_rfl, rfl⟩ rfl rfl fun w _ => (sign_calls c h0 h1 w).mono (by
    rintro e w' ⟨rfl, pos, rfl⟩
    exact ⟨rfl, World.iter_extends w signS pos⟩)
end Go.KM
end
section
/- Contracts: lex. -/
namespace Go.KM
open Go RN
def u8 (c : Int) : AV := .d (.int .u8 c)
def digB (c : Int) : Bool := decide (c ≥ 48) && decide (c ≤ 57)
def letB (c : Int) : Bool := ((decide (c ≥ 97) && decide (c ≤ 122)) || (decide (c ≥ 65) && decide (c ≤ 90))) || (c == 95)
theorem lexDigit_c (c : Int) : CN 146 [u8 c] [] (.d (.bool (digB c))) [] := by
  refine con_of Go.Proofs.Tryz.func146 rfl (by kernel_rfl) (Nat.le_of_ble_eq_true rfl) ?_
  unfold digB
  refine .mk (fun h => ?_) (fun h => ?_)
  · have h : decide (c ≥ 48) = true := h
    rw [h, Bool.true_and]
    exact ⟨trivial, rfl⟩
  · have h : decide (c ≥ 48) = false := h
    rw [h, Bool.false_and]
    exact ⟨trivial, rfl⟩
set_option maxRecDepth 10000 in
theorem lexLetter_c (c : Int) : CN 147 [u8 c] [] (.d (.bool (letB c))) [] := by
  refine con_of Go.Proofs.Tryz.func147 rfl (by kernel_rfl) (Nat.le_of_ble_eq_true rfl) ?_
  unfold letB
  refine .mk (fun h => ?_) (fun h => ?_)
  · have h : decide (c ≥ 97) = true := h
    rw [h, Bool.true_and]
    refine .mk (fun h2 => ?_) (fun h2 => ?_)
    · have h2 : decide (c ≤ 122) = true := h2
      rw [h2, Bool.true_or, Bool.true_or]
      refine .yes rfl ?_
      exact ⟨trivial, rfl⟩
    · have h2 : decide (c ≤ 122) = false := h2
      rw [h2, Bool.false_or]
      refine .mk (fun h3 => ?_) (fun h3 => ?_)
      · have h3 : decide (c ≥ 65) = true := h3
        rw [h3, Bool.true_and]
        refine .mk (fun h4 => ?_) (fun h4 => ?_)
        · have h4 : decide (c ≤ 90) = true := h4
          rw [h4, Bool.true_or]
          exact ⟨trivial, rfl⟩
        · have h4 : decide (c ≤ 90) = false := h4
          rw [h4, Bool.false_or]
          exact ⟨trivial, rfl⟩
      · have h3 : decide (c ≥ 65) = false := h3
        rw [h3, Bool.false_and, Bool.false_or]
        refine .no rfl ?_
        exact ⟨trivial, rfl⟩
  · have h : decide (c ≥ 97) = false := h
    rw [h, Bool.false_and, Bool.false_or]
    refine .no rfl ?_
    refine .mk (fun h3 => ?_) (fun h3 => ?_)
    · have h3 : decide (c ≥ 65) = true := h3
      rw [h3, Bool.true_and]
      refine .mk (fun h4 => ?_) (fun h4 => ?_)
      · have h4 : decide (c ≤ 90) = true := h4
        rw [h4, Bool.true_or]
        exact ⟨trivial, rfl⟩
      · have h4 : decide (c ≤ 90) = false := h4
        rw [h4, Bool.false_or]
        exact ⟨trivial, rfl⟩
    · have h3 : decide (c ≥ 65) = false := h3
      rw [h3, Bool.false_and, Bool.false_or]
      refine .no rfl ?_
      exact ⟨trivial, rfl⟩
theorem lexKind_c (c : Int) (h0 : 0 ≤ c) (h1 : c < 256) : CN 112 [u8 c] [] (i64 (if digB c then 1 else if letB c then 2 else if c ∈ Go.Proofs.signL then 3 else 0)) [] := by
  refine con_of Go.Proofs.Tryz.func112 rfl (by kernel_rfl) (Nat.le_of_ble_eq_true rfl) ?_
  refine .by _ ⟨lexDigit_c c, ?_⟩
  refine .mk (fun h => ?_) (fun h => ?_)
  · rw [if_pos h]
    exact ⟨trivial, rfl⟩
  rw [if_neg (by rw [h]; decide)]
  refine .by _ ⟨lexLetter_c c, ?_⟩
  refine .mk (fun h => ?_) (fun h => ?_)
  · rw [if_pos h]
    exact ⟨trivial, rfl⟩
  rw [if_neg (by rw [h]; decide)]
  refine .by _ ⟨lexSign_c c h0 h1, ?_⟩
  refine .mk (fun h => ?_) (fun h => ?_)
  · rw [if_pos (of_decide_eq_true h)]
    exact ⟨trivial, rfl⟩
  rw [if_neg (of_decide_eq_false h)]
  exact ⟨trivial, rfl⟩
def goB (c : Int) : Bool := letB c || digB c
theorem lexGoes_c (c : Int) : CN 149 [i64 2, u8 c] [] (.d (.bool (goB c))) [] := by
  refine con_of Go.Proofs.Tryz.func149 rfl (by kernel_rfl) (Nat.le_of_ble_eq_true rfl) ?_
  unfold goB
  refine .no rfl ?_
  refine .no rfl ?_
  refine .yes rfl ?_
  refine .by _ ⟨lexLetter_c c, ?_⟩
  refine .mk (fun h => ?_) (fun h => ?_)
  · rw [h, Bool.true_or]
    exact ⟨trivial, rfl⟩
  · rw [h, Bool.false_or]
    refine .by _ ⟨lexDigit_c c, ?_⟩
    exact ⟨trivial, rfl⟩
theorem lexMost_c : CN 114 [i64 2] [] (i64 12) [] := by
  refine con_of Go.Proofs.Tryz.func114 rfl (by kernel_rfl) (Nat.le_of_ble_eq_true rfl) ?_
  refine .no rfl ?_
  refine .yes rfl ?_
  exact ⟨trivial, rfl⟩
theorem byteAt_nn (s : ByteArray) (i : Int) : 0 ≤ byteAt s i ∧ byteAt s i < 256 := by
  unfold byteAt
  have := (s.data.toList.getD i.toNat 0).toNat_lt
  omega
/-- The bytes from the second on, as far as a name goes. -/
theorem lexFirst_c (s : ByteArray) (ls : s.size < 2 ^ 40) (h0 : 0 < s.size) (n : Nat) (h : (n = s.size ∧ ∀ j, 1 ≤ j → j < s.size → goB (byteAt s j) = true) ∨ (1 ≤ n ∧ n < s.size ∧ goB (byteAt s n) = false ∧ ∀ j, 1 ≤ j → j < n → goB (byteAt s j) = true)) :
    CN 113 [.d (.str s), i64 2] [] (i64 n) [] := by
  refine con_of Go.Proofs.Tryz.func113 rfl (by kernel_rfl) (Nat.le_of_ble_eq_true rfl) ?_
  refine .mk 0 (VLoop.mk Nat (fun k => frS 20 [(0, .d (.str s)), (1, i64 2), (5, i64 k)]) (fun _ => []) (fun k => 1 ≤ k ∧ k ≤ n) (fun k => s.size - k) 1 ⟨Nat.le_refl _, by omega⟩ ⟨rfl, rfl, rfl, trivial⟩ trivial trivial ?_)
  intro k ⟨hk1, hk2⟩
  refine .mk (fun g => ?_) (fun g => ?_)
  · have g : k < s.size := by simpa using g
    refine .of ⟨by omega, by omega⟩ ?_
    refine .by _ ⟨lexGoes_c _, ?_⟩
    refine .mk (fun g2 => ?_) (fun g2 => ?_)
    · refine ⟨k + 1, ⟨by omega, ?_⟩, by omega, ⟨rfl, rfl, wrapS (by omega), trivial⟩, trivial, trivial⟩
      rcases h with ⟨e, _⟩ | ⟨e1, e2, e3, e4⟩
      · omega
      · rcases Nat.lt_or_ge k n with h | h
        · exact h
        · have : k = n := by omega
          subst this
          rw [e3] at g2; cases g2
    · refine ⟨trivial, ?_⟩
      have e : k = n := by
        rcases h with ⟨e, h5⟩ | ⟨e1, e2, e3, e4⟩
        · have := h5 k hk1 g
          rw [this] at g2; cases g2
        · rcases Nat.lt_or_ge k n with h | h
          · have := e4 k hk1 h
            rw [this] at g2; cases g2
          · omega
      rw [e]; rfl
  · have g : ¬ (k : Int) < s.size := of_decide_eq_false g
    refine .no rfl ?_
    refine ⟨trivial, ?_⟩
    have e : k = n := by omega
    rw [e]; rfl
theorem str_empty (s : ByteArray) : (s.toList == (⟨#[]⟩ : ByteArray).toList) = decide (s.size = 0) := by
  rw [Lib.toList_data, Lib.toList_data, Lib.size_eq]
  cases s.data.toList <;> simp
/-- May a text be a name? -/
def nameB (s : ByteArray) : Bool := (decide (0 < s.size) && ((!digB (byteAt s 0)) && letB (byteAt s 0))) && ((List.range s.size).all (fun j => j == 0 || goB (byteAt s j)) && decide (s.size ≤ 12))
set_option maxRecDepth 10000 in
theorem lexRight_c (s : ByteArray) (a : Int) (ls : s.size < 2 ^ 40) : CN 83 [.agg [i64 2, .d (.str s), i64 a]] [] (.d (.bool (nameB s))) [] := by
  by_cases h0 : 0 < s.size
  · have hf : ∃ n : Nat, CN 113 [.d (.str s), i64 2] [] (i64 n) [] ∧ ((n : Int) == (s.size : Int)) = (List.range s.size).all (fun j => j == 0 || goB (byteAt s j)) := by
      rcases first_bad (fun j => j == 0 || goB (byteAt s j)) s.size with h | ⟨k, k1, k2, k3⟩
      · refine ⟨s.size, lexFirst_c s ls h0 _ (.inl ⟨rfl, fun j j1 j2 => ?_⟩), ?_⟩
        · have := h j j2
          simp only [Bool.or_eq_true, beq_iff_eq] at this
          exact this.resolve_left (by omega)
        · rw [all_range.2 h]; simp
      · simp only [Bool.or_eq_false_iff, beq_eq_false_iff_ne] at k2
        refine ⟨k, lexFirst_c s ls h0 _ (.inr ⟨by omega, k1, k2.2, fun j j1 j2 => ?_⟩), ?_⟩
        · have := k3 j j2
          simp only [Bool.or_eq_true, beq_iff_eq] at this
          exact this.resolve_left (by omega)
        · have e : (List.range s.size).all (fun j => j == 0 || goB (byteAt s j)) = false := by
            cases e : (List.range s.size).all (fun j => j == 0 || goB (byteAt s j))
            · rfl
            · have := all_range.1 e k k1
              simp only [Bool.or_eq_true, beq_iff_eq] at this
              rcases this with h | h
              · exact absurd h k2.1
              · rw [k2.2] at h; cases h
          rw [e]
          exact beq_eq_false_iff_ne.2 (by omega)
    obtain ⟨n, hf, he⟩ := hf
    unfold nameB
    rw [decide_eq_true h0, Bool.true_and, ← he]
    refine con_of Go.Proofs.Tryz.func83 rfl (by kernel_rfl) (Nat.le_of_ble_eq_true rfl) ?_
    refine .no (by rw [str_empty]; exact decide_eq_false (by omega)) ?_
    refine .no rfl ?_
    refine .of ⟨by decide, by omega⟩ ?_
    refine .by _ ⟨lexKind_c _ (byteAt_nn s 0).1 (byteAt_nn s 0).2, ?_⟩
    refine .mk (fun g => ?_) (fun g => ?_)
    · have e : ((!digB (byteAt s 0)) && letB (byteAt s 0)) = false := by
        by_cases d : digB (byteAt s 0) = true
        · rw [d]; rfl
        · rw [if_neg d] at g
          by_cases l : letB (byteAt s 0) = true
          · rw [if_pos l] at g; cases g
          · rw [show letB (byteAt s 0) = false by simpa using l, Bool.and_false]
      rw [e, Bool.false_and]
      exact ⟨trivial, rfl⟩
    · have e : ((!digB (byteAt s 0)) && letB (byteAt s 0)) = true := by
        by_cases d : digB (byteAt s 0) = true
        · rw [if_pos d] at g; cases g
        · rw [if_neg d] at g
          by_cases l : letB (byteAt s 0) = true
          · rw [l, show digB (byteAt s 0) = false by simpa using d]; rfl
          · rw [if_neg l] at g
            split at g <;> cases g
      rw [e, Bool.true_and]
      refine .by _ ⟨hf, ?_⟩
      refine .mk (fun g => ?_) (fun g => ?_)
      · rw [g, Bool.true_and]
        refine .by _ ⟨lexMost_c, trivial, ?_⟩
        show AV.d (.bool (decide ((s.size : Int) ≤ 12))) = _
        congr 2
        exact decide_eq_decide.2 (by omega)
      · rw [g, Bool.false_and]
        exact ⟨trivial, rfl⟩
  · unfold nameB
    rw [decide_eq_false h0, Bool.false_and, Bool.false_and]
    refine con_of Go.Proofs.Tryz.func83 rfl (by kernel_rfl) (Nat.le_of_ble_eq_true rfl) ?_
    refine .yes (by rw [str_empty]; exact decide_eq_true (by omega)) ?_
    refine .yes rfl ?_
    refine .yes rfl ?_
    exact ⟨trivial, rfl⟩
end Go.KM
end
