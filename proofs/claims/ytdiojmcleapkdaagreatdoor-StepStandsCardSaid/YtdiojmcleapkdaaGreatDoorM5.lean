/- The law StepStands of the given program answers true for every input.  Part 5 of 10: C1, C2, C3, C4, C5, C6, C7, C8, C9, PV, C10, C11, PB, C12, C13, C14, PQ, PQ2, C15. -/
import Derived.Test.YtdiojmcleapkdaaGreatDoorM4
set_option linter.all false
section
/- Contracts: single words. -/
namespace Go.KM
open Go

/-- A word. -/
def u (n : Nat) : AV := .d (.int .u32 n)
def i64 (n : Int) : AV := .d (.int .i64 n)
theorem wrap32 (x : Int) : IntKind.u32.wrap x = x % 4294967296 := by
  simp [IntKind.wrap, IntKind.signed, IntKind.bits]
theorem wrapU64 (x : Int) : IntKind.u64.wrap x = x % 18446744073709551616 := by
  simp [IntKind.wrap, IntKind.signed, IntKind.bits]
theorem u_eq {a b : Int} (h : a = b) : AV.d (.int .u32 a) = .d (.int .u32 b) := by rw [h]
theorem tup2 {a b c d : AV} (h : a = c) (k : b = d) : AV.tup [a, b] = .tup [c, d] := by rw [h, k]

/-- limb.Add: word and carry. -/
theorem limbAdd_c (a b c : Nat) (ha : a < 4294967296) (hb : b < 4294967296) (hc : c < 4294967296) :
    CN 189 [u a, u b, u c] [] (.tup [u ((a + b + c) % 4294967296), u ((a + b + c) / 4294967296)]) [] := by
  refine con_of Go.Proofs.Tryz.func189 rfl (by kernel_rfl) (Nat.le_of_ble_eq_true rfl) ?_
  refine .mk (fun h1 => ?_) (fun h1 => ?_) <;> refine .mk (fun h2 => ⟨trivial, tup2 (u_eq ?_) (u_eq ?_)⟩) (fun h2 => ⟨trivial, tup2 (u_eq ?_) (u_eq ?_)⟩) <;>
    simp only [wrap32, decide_eq_true_eq, decide_eq_false_iff_not] at * <;> omega
/-- limb.Sub: word and borrow. -/
theorem limbSub_c (a b c : Nat) (ha : a < 4294967296) (hb : b < 4294967296) (hc : c < 4294967296) :
    CN 190 [u a, u b, u c] [] (.tup [u ((a + 8589934592 - b - c) % 4294967296), u (2 - (a + 8589934592 - b - c) / 4294967296)]) [] := by
  refine con_of Go.Proofs.Tryz.func190 rfl (by kernel_rfl) (Nat.le_of_ble_eq_true rfl) ?_
  refine .mk (fun h1 => ?_) (fun h1 => ?_) <;> refine .mk (fun h2 => ⟨trivial, tup2 (u_eq ?_) (u_eq ?_)⟩) (fun h2 => ⟨trivial, tup2 (u_eq ?_) (u_eq ?_)⟩) <;>
    simp only [wrap32, decide_eq_true_eq, decide_eq_false_iff_not] at * <;> omega
/-- limb.Mul: a * b + c + d. -/
theorem limbMul_c (a b c d : Nat) (ha : a < 4294967296) (hb : b < 4294967296) (hc : c < 4294967296) (hd : d < 4294967296) :
    CN 126 [u a, u b, u c, u d] [] (.tup [u ((a * b + c + d) / 4294967296), u ((a * b + c + d) % 4294967296)]) [] := by
  refine con_of Go.Proofs.Tryz.func126 rfl (by kernel_rfl) (Nat.le_of_ble_eq_true rfl) ?_
  refine .of (by decide) ⟨trivial, ?_⟩
  have hab : a * b ≤ 4294967295 * 4294967295 := Nat.mul_le_mul (by omega) (by omega)
  have e : IntKind.u64.wrap (IntKind.u64.wrap (IntKind.u64.wrap (IntKind.u64.wrap (a : Int) * IntKind.u64.wrap (b : Int)) + IntKind.u64.wrap (c : Int)) + IntKind.u64.wrap (d : Int)) = ((a * b + c + d : Nat) : Int) := by
    simp only [wrapU64]
    rw [Int.emod_eq_of_lt (a := (a : Int)) (by omega) (by omega), Int.emod_eq_of_lt (a := (b : Int)) (by omega) (by omega)]
    have : (a : Int) * (b : Int) = ((a * b : Nat) : Int) := by simp
    rw [this]
    omega
  refine tup2 (u_eq ?_) (u_eq ?_)
  · rw [e, wrap32]
    show Int.fdiv ((a * b + c + d : Nat) : Int) 4294967296 % 4294967296 = _
    rw [Int.fdiv_eq_ediv_of_nonneg _ (by decide)]
    omega
  · rw [e, wrap32]
    omega
end Go.KM
end
section
/- Contracts: limb.Div, limb.Len; nat.fresh, nat.Norm. -/
namespace Go.KM
open Go

theorem tup3 {a b c d e f : AV} (h : a = d) (k : b = e) (l : c = f) : AV.tup [a, b, c] = .tup [d, e, f] := by rw [h, k, l]
theorem or32 {x y : Nat} (hx : x < 4294967296) (hy : y < 4294967296) :
    IntKind.u64.wrap (BitVec.ofInt IntKind.u64.bits ((x * 4294967296 : Nat) : Int) ||| BitVec.ofInt IntKind.u64.bits ((y : Nat) : Int)).toNat = ((x * 4294967296 + y : Nat) : Int) := by
  show IntKind.u64.wrap (BitVec.ofInt 64 ((x * 4294967296 : Nat) : Int) ||| BitVec.ofInt 64 ((y : Nat) : Int)).toNat = ((x * 4294967296 + y : Nat) : Int)
  have h1 : (BitVec.ofInt 64 ((x * 4294967296 : Nat) : Int)).toNat = x * 4294967296 := by
    rw [BitVec.toNat_ofInt]
    simp
    omega
  have h2 : (BitVec.ofInt 64 ((y : Nat) : Int)).toNat = y := by
    rw [BitVec.toNat_ofInt]
    simp
    omega
  rw [BitVec.toNat_or, h1, h2, wrapU64]
  have h3 : x * 4294967296 ||| y = x * 4294967296 + y := by
    have := Nat.two_pow_add_eq_or_of_lt (i := 32) (b := y) (by simpa using hy) x
    rw [Nat.mul_comm]
    simpa using this.symm
  rw [h3]
  omega

/-- limb.Div: two words by one. -/
theorem limbDiv_c (a b d : Nat) (ha : a < 4294967296) (hb : b < 4294967296) (hd : d < 4294967296) (h : a < d) :
    CN 128 [u a, u b, u d] [] (.tup [u ((a * 4294967296 + b) / d), u ((a * 4294967296 + b) % d), .d (.bool true)]) [] := by
  refine con_of Go.Proofs.Tryz.func128 rfl (by kernel_rfl) (Nat.le_of_ble_eq_true rfl) ?_
  have e1 : IntKind.u64.wrap (a : Int) = a := by rw [wrapU64]; omega
  have e2 : IntKind.u64.wrap (b : Int) = b := by rw [wrapU64]; omega
  have e3 : IntKind.u64.wrap (d : Int) = d := by rw [wrapU64]; omega
  have e4 : IntKind.u64.wrap (IntKind.u64.wrap (a : Int) * 2 ^ min (Int.toNat 32) IntKind.u64.bits) = ((a * 4294967296 : Nat) : Int) := by
    rw [e1]
    show IntKind.u64.wrap ((a : Int) * 4294967296) = _
    rw [wrapU64]
    omega
  have hlt : a * 4294967296 + b < d * 4294967296 := by omega
  have hq : (a * 4294967296 + b) / d < 4294967296 := Nat.div_lt_of_lt_mul hlt
  have hr : (a * 4294967296 + b) % d < d := Nat.mod_lt _ (by omega)
  refine .no (by simp; omega) ?_
  refine .of (by decide) ?_
  refine .of (by rw [e3]; omega) ?_
  refine .of (by rw [e3]; omega) ?_
  refine ⟨trivial, tup3 (u_eq ?_) (u_eq ?_) rfl⟩
  · rw [e2, e3, e4, or32 ha hb, wrap32]
    rw [show (((a * 4294967296 + b : Nat) : Int)).tdiv (d : Int) = (((a * 4294967296 + b) / d : Nat) : Int) from rfl, wrapU64]
    generalize (a * 4294967296 + b) / d = q at *
    omega
  · rw [e2, e3, e4, or32 ha hb, wrap32]
    rw [show (((a * 4294967296 + b : Nat) : Int)).tmod (d : Int) = (((a * 4294967296 + b) % d : Nat) : Int) from rfl]
    generalize (a * 4294967296 + b) % d = q at *
    omega
theorem limbDiv_no (a b d : Nat) (h : d ≤ a) : CN 128 [u a, u b, u d] [] (.tup [u 0, u 0, .d (.bool false)]) [] := by
  refine con_of Go.Proofs.Tryz.func128 rfl (by kernel_rfl) (Nat.le_of_ble_eq_true rfl) ?_
  refine .yes (by simp; omega) ?_
  exact ⟨trivial, rfl⟩

/-- nat.fresh: a copy with k zeros more, one's own. -/
theorem fresh_c (l : List Int) (k : Nat) (h : l.length + k ≤ 1099511627776) :
    CN 127 [.d (wd l), i64 k] [] (.own 10 (l.length + k) 1) [(10, .row 1 ((l ++ List.replicate k 0).map fun x => [.int .u32 x]) false)] := by
  have hw : IntKind.i64.wrap (((l.map fun x => [D.int .u32 x]).length : Int) + (k : Int)) = ((l.length + k : Nat) : Int) := by
    rw [List.length_map, wrap64] <;> omega
  refine conF_of Go.Proofs.Tryz.func127 rfl (by kernel_rfl) trivial (Nat.le_of_ble_eq_true rfl) ?_
  refine .of ⟨rfl, by rw [hw]; omega, by rw [hw]; show ((l.length + k : Nat) : Int) * 4 ≤ 140737488355328; omega, by rw [hw]; omega⟩ ?_
  refine .of ⟨by rw [hw, List.length_replicate], rfl, rfl, by simp⟩ ⟨⟨?_, trivial⟩, ?_⟩
  · show some (Blk.row 1 (List.take _ _ ++ List.drop _ (List.replicate _ _)) false) = _
    rw [hw, Int.toNat_natCast]
    congr 2
    rw [List.take_of_length_le (by simp), List.map_append, List.drop_replicate]
    simp
  · show AV.own 10 (IntKind.i64.wrap _).toNat 1 = _
    rw [hw, Int.toNat_natCast]

theorem fresh_at (d : Nat) (l : List Int) (k : Nat) (h : l.length + k ≤ 1099511627776) :
    CN 127 [.d (wd l), i64 k] [] (.own d (l.length + k) 1) [(d, .row 1 ((l ++ List.replicate k 0).map fun x => [.int .u32 x]) false)] := by
  have := (fresh_c l k h).ren (swp_swap 10 d)
  simp only [renAV.renAVs, renAV, renMem, renBlk, swp_a, i64] at this
  exact this

theorem trimL_le (l : List Int) : (trimL l).length ≤ l.length := by
  induction l with
  | nil => exact Nat.le_refl _
  | cons x r ih =>
    unfold trimL
    split
    · split <;> simp
    · rename_i e
      rw [e] at ih
      simpa using ih
/-- nat.Norm. -/
theorem natNorm_c (l : List Int) (hl : l.length < 2 ^ 40) : CN 94 [.d (wd l)] [] (.d (wd (trimL l))) [] := by
  refine con_of Go.Proofs.Tryz.func94 rfl (by kernel_rfl) (Nat.le_of_ble_eq_true rfl) ?_
  refine .by _ ⟨trim_c l hl, ?_⟩
  have h1 := trimL_le l
  refine .new 10 _ _ rfl ⟨fresh_at 10 (trimL l) 0 (by omega), ?_⟩
  refine .of ⟨by simp, rfl⟩ ⟨trivial, ?_⟩
  simp [wd, tupOf]
end Go.KM
end
section
/- Contracts: nat.Zero, nat.Of. -/
namespace Go.KM
open Go

/-- nat.Zero. -/
theorem natZero_c (l : List Int) (hl : l.length < 2 ^ 40) : CN 55 [.d (wd l)] [] (.d (.bool (trimL l).isEmpty)) [] := by
  refine con_of Go.Proofs.Tryz.func55 rfl (by kernel_rfl) (Nat.le_of_ble_eq_true rfl) ?_
  refine .by _ ⟨trim_c l hl, ?_⟩
  refine ⟨trivial, ?_⟩
  show AV.d (.bool ((((trimL l).map fun x => [D.int .u32 x]).length : Int) == 0)) = _
  cases trimL l with
  | nil => rfl
  | cons x r =>
    simp
    omega

/-- nat.Of. -/
theorem natOf_c (n : Nat) (h : n < 18446744073709551616) : CN 30 [.d (.int .u64 n)] [] (.d (wd (trimL [((n % 4294967296 : Nat) : Int), ((n / 4294967296 : Nat) : Int)]))) [] := by
  refine con_of Go.Proofs.Tryz.func30 rfl (by kernel_rfl) (Nat.le_of_ble_eq_true rfl) ?_
  refine .of (by decide) ?_
  have e1 : IntKind.u32.wrap (n : Int) = ((n % 4294967296 : Nat) : Int) := by rw [wrap32]; omega
  have e2 : IntKind.u32.wrap (Int.fdiv (n : Int) (2 ^ min (Int.toNat 32) IntKind.u64.bits)) = ((n / 4294967296 : Nat) : Int) := by
    show IntKind.u32.wrap (Int.fdiv (n : Int) 4294967296) = _
    rw [wrap32, Int.fdiv_eq_ediv_of_nonneg _ (by decide)]
    omega
  refine .by (.d (wd (trimL [((n % 4294967296 : Nat) : Int), ((n / 4294967296 : Nat) : Int)]))) (.of ⟨rfl, rfl⟩ ⟨?_, ?_⟩)
  · have := trim_c [IntKind.u32.wrap (n : Int), IntKind.u32.wrap (Int.fdiv (n : Int) (2 ^ min (Int.toNat 32) IntKind.u64.bits))] (by show 2 < 2 ^ 40; decide)
    rw [← e1, ← e2]
    exact this
  · exact ⟨trivial, rfl⟩
end Go.KM
end
section
/- Contracts: naturals as words. -/
namespace Go.KM
open Go RN

theorem trimL_wl {l : List Int} (h : WF l) : trimL l = wl (wv l) := by
  induction l with
  | nil => simp [trimL, wv, wl_zero]
  | cons x r ih =>
    have hx := h.head
    have ih := ih h.tail
    unfold trimL
    rw [ih]
    simp only [wv]
    by_cases h0 : wv r = 0
    · rw [h0, wl_zero]
      simp only [Nat.mul_zero, Nat.add_zero]
      by_cases hx0 : x = 0
      · subst hx0
        simp [wl_zero]
      · rw [if_neg hx0, wl_pos (by omega), show x.toNat / 4294967296 = 0 by omega, wl_zero]
        congr 1
        omega
    · rw [wl_pos h0, wl_pos (n := x.toNat + 4294967296 * wv r) (by omega)]
      have e1 : (x.toNat + 4294967296 * wv r) / 4294967296 = wv r := by omega
      have e2 : (((x.toNat + 4294967296 * wv r) % 4294967296 : Nat) : Int) = x := by omega
      rw [e1, wl_pos h0, e2]

/-- A natural's words. -/
def wn (n : Nat) : D := wd (wl n)
theorem len_lt {a b : Nat} (h : (wl a).length < (wl b).length) : a < b := by
  rcases Nat.lt_or_ge a b with h1 | h1
  · exact h1
  · have h2 := wl_len_ge (n := a) (m := (wl a).length) (Nat.le_refl _)
    have h3 := wl_len (n := b) (m := (wl a).length) (by omega)
    omega
/-- The highest word that differs decides. -/
theorem wv_top {a b : List Int} (ha : WF a) {i : Nat} (hi : i < a.length) (hj : i < b.length) (hd : a.drop (i + 1) = b.drop (i + 1)) (hlt : a[i] < b[i]) : wv a < wv b := by
  have split : ∀ {l : List Int} (hl : i < l.length), wv l = wv (l.take i) + 4294967296 ^ i * ((l[i]).toNat + 4294967296 * wv (l.drop (i + 1))) := by
    intro l hl
    have := wv_append (l.take i) (l.drop i)
    rw [List.take_append_drop, List.length_take, Nat.min_eq_left (by omega), List.drop_eq_getElem_cons hl] at this
    exact this
  rw [split hi, split hj, hd]
  have h1 := wv_lt (ha.take i)
  rw [List.length_take, Nat.min_eq_left (by omega)] at h1
  have h2 := ha _ (List.getElem_mem hi)
  have h3 : (a[i]).toNat + 1 ≤ (b[i]).toNat := by omega
  have h4 : 4294967296 ^ i * ((a[i]).toNat + 4294967296 * wv (b.drop (i + 1)) + 1) ≤ 4294967296 ^ i * ((b[i]).toNat + 4294967296 * wv (b.drop (i + 1))) := Nat.mul_le_mul_left _ (by omega)
  rw [Nat.mul_add _ _ 1, Nat.mul_one] at h4
  omega
end Go.KM
end
section
/- Contracts: nat.Cmp. -/
namespace Go.KM
open Go RN

def cmpI (a b : Nat) : Int := if a < b then -1 else if b < a then 1 else 0
theorem wd_get {l : List Int} {i : Nat} (h : i < l.length) : (l.map fun x => [D.int .u32 x])[i]? = some [.int .u32 l[i]] := by
  simp [List.getElem?_eq_getElem h]

theorem natTrim_c {a : List Int} (ha : WF a) (la : a.length < 2 ^ 40) : CN 53 [.d (wd a)] [] (.d (wn (wv a))) [] := by
  have := trim_c a la
  rwa [trimL_wl ha] at this

theorem natCmp_c (a b : List Int) (ha : WF a) (hb : WF b) (la : a.length < 2 ^ 40) (lb : b.length < 2 ^ 40) : CN 66 [.d (wd a), .d (wd b)] [] (i64 (cmpI (wv a) (wv b))) [] := by
  refine con_of Go.Proofs.Tryz.func66 rfl (by kernel_rfl) (Nat.le_of_ble_eq_true rfl) ?_
  refine .by _ ⟨natTrim_c ha la, ?_⟩
  refine .by _ ⟨natTrim_c hb lb, ?_⟩
  have l1 : (wl (wv a)).length ≤ a.length := wl_len_wv ha
  have l2 : (wl (wv b)).length ≤ b.length := wl_len_wv hb
  generalize wv a = A at *
  generalize wv b = B at *
  have fin : ∀ {x : Int}, x = cmpI A B → AV.d (.int .i64 x) = i64 (cmpI A B) := fun e => by rw [e, i64]
  refine .mk (fun h1 => ?_) (fun h1 => ?_)
  · have h1 : (wl A).length < (wl B).length := by simpa using h1
    exact ⟨trivial, fin (by rw [cmpI, if_pos (len_lt h1)])⟩
  · have h1 : (wl B).length ≤ (wl A).length := by simpa using h1
    refine .mk (fun h2 => ?_) (fun h2 => ?_)
    · have h2 : (wl B).length < (wl A).length := by simpa using h2
      have := len_lt h2
      exact ⟨trivial, fin (by rw [cmpI, if_neg (by omega), if_pos this])⟩
    · have h2 : (wl A).length ≤ (wl B).length := by simpa using h2
      have hl : (wl A).length = (wl B).length := by omega
      have hw0 : IntKind.i64.wrap ((((wl A).map fun x => [D.int .u32 x]).length : Int) - 1) = ((wl A).length : Int) - 1 := by
        rw [List.length_map, wrap64] <;> omega
      refine .mk 0 (VLoop.mk Nat (fun k => frm 49 [.d (wn A), .d (wn B), .any, .any, i64 0, i64 ((k : Int) - 1)]) (fun _ => [])
        (fun k => k ≤ (wl A).length ∧ (wl A).drop k = (wl B).drop k) (fun k => k) (wl A).length ⟨Nat.le_refl _, by rw [List.drop_length, hl, List.drop_length]⟩ ?_ trivial trivial ?_)
      · exact ⟨rfl, rfl, rfl, by rw [hw0], trivial⟩
      · intro k ⟨hk, hd⟩
        refine .mk (fun h3 => ?_) (fun h3 => ?_)
        · have h3 : 0 < k := by have : (k : Int) - 1 ≥ 0 := by simpa using h3
                                omega
          have hi : k - 1 < (wl A).length := by omega
          have hj : k - 1 < (wl B).length := by omega
          have e1 : ((k : Int) - 1).toNat = k - 1 := by omega
          have hd' : (wl A).drop (k - 1 + 1) = (wl B).drop (k - 1 + 1) := by rw [Nat.sub_add_cancel h3]; exact hd
          have ga : ((wl A).map fun x => [D.int .u32 x])[((k : Int) - 1).toNat]? = some [.int .u32 ((wl A)[k - 1])] := by rw [e1]; exact wd_get hi
          have gb : ((wl B).map fun x => [D.int .u32 x])[((k : Int) - 1).toNat]? = some [.int .u32 ((wl B)[k - 1])] := by rw [e1]; exact wd_get hj
          refine .mk (by omega) ⟨_, ga, ?_⟩
          refine .mk (by omega) ⟨_, gb, ?_⟩
          refine .mk (fun h4 => ?_) (fun h4 => ?_)
          · have h4 : (wl A)[k - 1] < (wl B)[k - 1] := by simpa using h4
            have := wv_top (wl_WF A) hi hj hd' h4
            rw [wv_wl, wv_wl] at this
            exact ⟨trivial, fin (by rw [cmpI, if_pos this])⟩
          · have h4 : (wl B)[k - 1] ≤ (wl A)[k - 1] := by simpa using h4
            refine .mk (by omega) ⟨_, ga, ?_⟩
            refine .mk (by omega) ⟨_, gb, ?_⟩
            refine .mk (fun h5 => ?_) (fun h5 => ?_)
            · have h5 : (wl B)[k - 1] < (wl A)[k - 1] := by simpa using h5
              have := wv_top (wl_WF B) hj hi hd'.symm h5
              rw [wv_wl, wv_wl] at this
              exact ⟨trivial, fin (by rw [cmpI, if_neg (by omega), if_pos this])⟩
            · have h5 : (wl A)[k - 1] ≤ (wl B)[k - 1] := by simpa using h5
              refine ⟨k - 1, ⟨by omega, ?_⟩, by omega, ⟨rfl, rfl, rfl, ?_, trivial⟩, trivial, trivial⟩
              · rw [List.drop_eq_getElem_cons hi, List.drop_eq_getElem_cons hj, hd']
                congr 1
                omega
              · rw [wrap64 (by omega) (by omega)]
                show AV.d (.int .i64 _) = AV.d (.int .i64 _)
                congr 2
                omega
        · have h3 : k = 0 := by
            simp at h3
            omega
          subst h3
          rw [List.drop_zero, List.drop_zero] at hd
          have := wl_inj hd
          exact ⟨trivial, fin (by rw [cmpI, if_neg (by omega), if_neg (by omega)])⟩
end Go.KM
end
section
/- Contracts: nat.plus. -/
namespace Go.KM
open Go RN

/-- Words told, as cells. -/
def wc (l : List Int) : List (List D) := l.map fun x => [.int .u32 x]

theorem limbAdd_i (x y : Int) (c : Nat) (hx : 0 ≤ x ∧ x < 4294967296) (hy : 0 ≤ y ∧ y < 4294967296) (hc : c ≤ 1) :
    CN 189 [.d (.int .u32 x), .d (.int .u32 y), u c] [] (.tup [u ((x.toNat + y.toNat + c) % 4294967296), u ((x.toNat + y.toNat + c) / 4294967296)]) [] := by
  have := limbAdd_c x.toNat y.toNat c (by omega) (by omega) (by omega)
  have e1 : u x.toNat = .d (.int .u32 x) := u_eq (by omega)
  have e2 : u y.toNat = .d (.int .u32 y) := u_eq (by omega)
  rwa [e1, e2] at this

theorem take_wv {l : List Int} {i : Nat} (h : i < l.length) : wv (l.take (i + 1)) = wv (l.take i) + 4294967296 ^ i * (l[i]).toNat := by
  rw [List.take_succ_eq_append_getElem h, wv_append, List.length_take, Nat.min_eq_left (by omega)]
  simp [wv]
theorem plus_step {a b l : List Int} {i cy y : Nat} (h3 : i < a.length) (hl : i < l.length) (q5 : l.drop i = a.drop i ++ [0])
    (q6 : wv (l.take i) + 4294967296 ^ i * cy = wv (a.take i) + wv (b.take i)) (hb : wv (b.take (i + 1)) = wv (b.take i) + 4294967296 ^ i * y) {w c : Nat} (hw : w + 4294967296 * c = (a[i]).toNat + y + cy) :
    (l.set i (w : Int)).drop (i + 1) = a.drop (i + 1) ++ [0] ∧ wv ((l.set i (w : Int)).take (i + 1)) + 4294967296 ^ (i + 1) * c = wv (a.take (i + 1)) + wv (b.take (i + 1)) := by
  constructor
  · rw [List.drop_set_of_lt (by omega)]
    rw [List.drop_eq_getElem_cons hl, List.drop_eq_getElem_cons h3, List.cons_append] at q5
    exact (List.cons.inj q5).2
  · have h4 : i < (l.set i (w : Int)).length := by simpa using hl
    rw [take_wv h4, take_wv h3, hb, List.take_set_of_le (Nat.le_refl _), List.getElem_set_self]
    have e : 4294967296 ^ (i + 1) * c = 4294967296 ^ i * (4294967296 * c) := by rw [Nat.pow_succ, Nat.mul_assoc]
    have e2 := congrArg (4294967296 ^ i * ·) hw
    simp only [Nat.mul_add] at e2
    rw [e]
    simp only [Int.toNat_natCast]
    omega

theorem natPlus_c (a b : List Int) (ha : WF a) (hb : WF b) (la : a.length < 2 ^ 39) (lb : b.length < 2 ^ 39) : CN 181 [.d (wd a), .d (wd b)] [] (.d (wn (wv a + wv b))) [] := by
  refine con_of Go.Proofs.Tryz.func181 rfl (by kernel_rfl) (Nat.le_of_ble_eq_true rfl) ?_
  refine .mk (fun h1 => ?_) (fun h1 => ?_)
  · have hab2 : a.length ≤ b.length := by
      have h1 : a.length < b.length := by simpa using h1
      omega
    refine .new 17 _ _ rfl ⟨fresh_at 17 b 1 (by omega), ?_⟩
    refine .mk 0 (VLoop.mk (Nat × List Int × Nat) (fun s => frm 52 [.d (wd b), .d (wd a), .any, .any, .nils, .own 17 (b.length + 1) 1, u s.2.2, .any, .any, .any, .any, .any, .any, .any, .any, .any, .any, .any, .any, i64 b.length, i64 s.1]) (fun s => [(17, .row 1 (wc s.2.1) false)])
      (fun s => s.1 ≤ b.length ∧ s.2.1.length = b.length + 1 ∧ WF s.2.1 ∧ s.2.2 ≤ 1 ∧ s.2.1.drop s.1 = b.drop s.1 ++ [0] ∧ wv (s.2.1.take s.1) + 4294967296 ^ s.1 * s.2.2 = wv (b.take s.1) + wv (a.take s.1)) (fun s => b.length - s.1) (0, b ++ [0], 0) ?_ ?_ ?_ ?_ ?_)
    · refine ⟨Nat.zero_le _, by simp, WF.append hb (WF.cons (by omega) (by omega) .nil), Nat.zero_le _, rfl, by simp [wv]⟩
    · exact ⟨rfl, rfl, rfl, rfl, rfl, by rw [List.length_map], rfl, trivial⟩
    · exact ⟨rfl, trivial⟩
    · trivial
    · rintro ⟨i, l, cy⟩ ⟨q1, q2, q3, q4, q5, q6⟩
      simp only at q1 q2 q3 q4 q5 q6
      refine .mk (fun h3 => ?_) (fun h3 => ?_)
      · have h3 : i < b.length := by simpa using h3
        have hl : i < l.length := by omega
        refine .mk (fun h4 => ?_) (fun h4 => ?_)
        · have h4 : i < a.length := by simpa using h4
          refine .mk (by show (0 : Int) ≤ (i : Int); omega) ⟨_, wd_get h4, ?_⟩
          refine .mk (by show (0 : Int) ≤ (i : Int); omega) ⟨_, wd_get h3, ?_⟩
          refine .by _ ⟨limbAdd_i _ _ cy (hb _ (List.getElem_mem h3)) (ha _ (List.getElem_mem h4)) q4, ?_⟩
          refine .of ⟨by show (0 : Int) ≤ (i : Int); omega, by show (i : Int) < ((b.length + 1 : Nat) : Int); omega⟩ ?_
          refine .of ⟨by simp [wc, q2], rfl, rfl, by show (i : Int).toNat < _; omega⟩ ?_
          have hax := hb _ (List.getElem_mem h3)
          have hbx := ha _ (List.getElem_mem h4)
          have hs := plus_step (w := ((b[i]).toNat + (a[i]).toNat + cy) % 4294967296) (c := ((b[i]).toNat + (a[i]).toNat + cy) / 4294967296) h3 hl q5 q6 (take_wv h4) (by omega)
          refine ⟨(i + 1, l.set i ((((b[i]).toNat + (a[i]).toNat + cy) % 4294967296 : Nat) : Int), ((b[i]).toNat + (a[i]).toNat + cy) / 4294967296), ⟨h3, by simpa using q2, WF.set q3 i (by omega) (by omega), by show _ / 4294967296 ≤ 1; omega, hs.1, hs.2⟩, by show b.length - (i + 1) < b.length - i; omega, ⟨rfl, rfl, rfl, rfl, rfl, rfl, ?_, trivial⟩, ⟨?_, trivial⟩, trivial⟩
          · show AV.d (.int .i64 (IntKind.i64.wrap ((i : Int) + 1))) = i64 ((i + 1 : Nat) : Int)
            rw [wrap64 (by omega) (by omega)]
            rfl
          · show some (Blk.row 1 ((wc l).set (i : Int).toNat _) false) = _
            rw [wc, Int.toNat_natCast, ← List.map_set (f := fun x => [D.int .u32 x])]
            rfl
        · have h4 : a.length ≤ i := by simpa using h4
          refine .mk (by show (0 : Int) ≤ (i : Int); omega) ⟨_, wd_get h3, ?_⟩
          refine .by _ ⟨limbAdd_i _ 0 cy (hb _ (List.getElem_mem h3)) (by omega) q4, ?_⟩
          refine .of ⟨by show (0 : Int) ≤ (i : Int); omega, by show (i : Int) < ((b.length + 1 : Nat) : Int); omega⟩ ?_
          refine .of ⟨by simp [wc, q2], rfl, rfl, by show (i : Int).toNat < _; omega⟩ ?_
          have hax := hb _ (List.getElem_mem h3)
          have hs := plus_step (y := 0) (w := ((b[i]).toNat + 0 + cy) % 4294967296) (c := ((b[i]).toNat + 0 + cy) / 4294967296) h3 hl q5 q6 (by rw [List.take_of_length_le h4, List.take_of_length_le (by omega)]; simp) (by omega)
          refine ⟨(i + 1, l.set i ((((b[i]).toNat + 0 + cy) % 4294967296 : Nat) : Int), ((b[i]).toNat + 0 + cy) / 4294967296), ⟨h3, by simpa using q2, WF.set q3 i (by omega) (by omega), by show _ / 4294967296 ≤ 1; omega, hs.1, hs.2⟩, by show b.length - (i + 1) < b.length - i; omega, ⟨rfl, rfl, rfl, rfl, rfl, rfl, ?_, trivial⟩, ⟨?_, trivial⟩, trivial⟩
          · show AV.d (.int .i64 (IntKind.i64.wrap ((i : Int) + 1))) = i64 ((i + 1 : Nat) : Int)
            rw [wrap64 (by omega) (by omega)]
            rfl
          · show some (Blk.row 1 ((wc l).set (i : Int).toNat _) false) = _
            rw [wc, Int.toNat_natCast, ← List.map_set (f := fun x => [D.int .u32 x])]
            rfl
      · have h3 : i = b.length := by
          have : ¬ ((i : Int) < (b.length : Int)) := by simpa using h3
          omega
        subst h3
        have hl : b.length < l.length := by omega
        have hw : wv (l.set b.length (cy : Int)) = wv b + wv a := by
          have h5 : b.length < (l.set b.length (cy : Int)).length := by simpa using hl
          have := take_wv h5
          rw [List.take_of_length_le (by simp; omega), List.take_set_of_le (Nat.le_refl _), List.getElem_set_self] at this
          rw [this]
          rw [List.take_length, List.take_of_length_le hab2] at q6
          simpa using q6
        have hf : WF (l.set b.length (cy : Int)) := WF.set q3 _ (by omega) (by omega)
        have hc := natTrim_c hf (by simp; omega)
        rw [hw] at hc
        have e0 : ((b.map fun x => [D.int .u32 x]).length : Int) = (b.length : Int) := by simp
        refine .of ⟨by rw [e0]; omega, by rw [e0]; omega⟩ ?_
        refine .of ⟨by simp [wc, q2], rfl, rfl, by rw [e0]; omega⟩ ?_
        rw [Nat.add_comm] at hc
        refine .by (.d (wn (wv a + wv b))) (.of ⟨by simp [wc, q2], rfl⟩ ⟨?_, trivial, rfl⟩)
        rw [e0, Int.toNat_natCast, wc, ← List.map_set (f := fun x => [D.int .u32 x])]
        exact hc
  · have hab : b.length ≤ a.length := by simpa using h1
    refine .new 17 _ _ rfl ⟨fresh_at 17 a 1 (by omega), ?_⟩
    refine .mk 0 (VLoop.mk (Nat × List Int × Nat) (fun s => frm 52 [.d (wd a), .d (wd b), .any, .any, .nils, .own 17 (a.length + 1) 1, u s.2.2, .any, .any, .any, .any, .any, .any, .any, .any, .any, .any, .any, .any, i64 a.length, i64 s.1]) (fun s => [(17, .row 1 (wc s.2.1) false)])
      (fun s => s.1 ≤ a.length ∧ s.2.1.length = a.length + 1 ∧ WF s.2.1 ∧ s.2.2 ≤ 1 ∧ s.2.1.drop s.1 = a.drop s.1 ++ [0] ∧ wv (s.2.1.take s.1) + 4294967296 ^ s.1 * s.2.2 = wv (a.take s.1) + wv (b.take s.1)) (fun s => a.length - s.1) (0, a ++ [0], 0) ?_ ?_ ?_ ?_ ?_)
    · refine ⟨Nat.zero_le _, by simp, WF.append ha (WF.cons (by omega) (by omega) .nil), Nat.zero_le _, rfl, by simp [wv]⟩
    · exact ⟨rfl, rfl, rfl, rfl, rfl, by rw [List.length_map], rfl, trivial⟩
    · exact ⟨rfl, trivial⟩
    · trivial
    · rintro ⟨i, l, cy⟩ ⟨q1, q2, q3, q4, q5, q6⟩
      simp only at q1 q2 q3 q4 q5 q6
      refine .mk (fun h3 => ?_) (fun h3 => ?_)
      · have h3 : i < a.length := by simpa using h3
        have hl : i < l.length := by omega
        refine .mk (fun h4 => ?_) (fun h4 => ?_)
        · have h4 : i < b.length := by simpa using h4
          refine .mk (by show (0 : Int) ≤ (i : Int); omega) ⟨_, wd_get h4, ?_⟩
          refine .mk (by show (0 : Int) ≤ (i : Int); omega) ⟨_, wd_get h3, ?_⟩
          refine .by _ ⟨limbAdd_i _ _ cy (ha _ (List.getElem_mem h3)) (hb _ (List.getElem_mem h4)) q4, ?_⟩
          refine .of ⟨by show (0 : Int) ≤ (i : Int); omega, by show (i : Int) < ((a.length + 1 : Nat) : Int); omega⟩ ?_
          refine .of ⟨by simp [wc, q2], rfl, rfl, by show (i : Int).toNat < _; omega⟩ ?_
          have hax := ha _ (List.getElem_mem h3)
          have hbx := hb _ (List.getElem_mem h4)
          have hs := plus_step (w := ((a[i]).toNat + (b[i]).toNat + cy) % 4294967296) (c := ((a[i]).toNat + (b[i]).toNat + cy) / 4294967296) h3 hl q5 q6 (take_wv h4) (by omega)
          refine ⟨(i + 1, l.set i ((((a[i]).toNat + (b[i]).toNat + cy) % 4294967296 : Nat) : Int), ((a[i]).toNat + (b[i]).toNat + cy) / 4294967296), ⟨h3, by simpa using q2, WF.set q3 i (by omega) (by omega), by show _ / 4294967296 ≤ 1; omega, hs.1, hs.2⟩, by show a.length - (i + 1) < a.length - i; omega, ⟨rfl, rfl, rfl, rfl, rfl, rfl, ?_, trivial⟩, ⟨?_, trivial⟩, trivial⟩
          · show AV.d (.int .i64 (IntKind.i64.wrap ((i : Int) + 1))) = i64 ((i + 1 : Nat) : Int)
            rw [wrap64 (by omega) (by omega)]
            rfl
          · show some (Blk.row 1 ((wc l).set (i : Int).toNat _) false) = _
            rw [wc, Int.toNat_natCast, ← List.map_set (f := fun x => [D.int .u32 x])]
            rfl
        · have h4 : b.length ≤ i := by simpa using h4
          refine .mk (by show (0 : Int) ≤ (i : Int); omega) ⟨_, wd_get h3, ?_⟩
          refine .by _ ⟨limbAdd_i _ 0 cy (ha _ (List.getElem_mem h3)) (by omega) q4, ?_⟩
          refine .of ⟨by show (0 : Int) ≤ (i : Int); omega, by show (i : Int) < ((a.length + 1 : Nat) : Int); omega⟩ ?_
          refine .of ⟨by simp [wc, q2], rfl, rfl, by show (i : Int).toNat < _; omega⟩ ?_
          have hax := ha _ (List.getElem_mem h3)
          have hs := plus_step (y := 0) (w := ((a[i]).toNat + 0 + cy) % 4294967296) (c := ((a[i]).toNat + 0 + cy) / 4294967296) h3 hl q5 q6 (by rw [List.take_of_length_le h4, List.take_of_length_le (by omega)]; simp) (by omega)
          refine ⟨(i + 1, l.set i ((((a[i]).toNat + 0 + cy) % 4294967296 : Nat) : Int), ((a[i]).toNat + 0 + cy) / 4294967296), ⟨h3, by simpa using q2, WF.set q3 i (by omega) (by omega), by show _ / 4294967296 ≤ 1; omega, hs.1, hs.2⟩, by show a.length - (i + 1) < a.length - i; omega, ⟨rfl, rfl, rfl, rfl, rfl, rfl, ?_, trivial⟩, ⟨?_, trivial⟩, trivial⟩
          · show AV.d (.int .i64 (IntKind.i64.wrap ((i : Int) + 1))) = i64 ((i + 1 : Nat) : Int)
            rw [wrap64 (by omega) (by omega)]
            rfl
          · show some (Blk.row 1 ((wc l).set (i : Int).toNat _) false) = _
            rw [wc, Int.toNat_natCast, ← List.map_set (f := fun x => [D.int .u32 x])]
            rfl
      · have h3 : i = a.length := by
          have : ¬ ((i : Int) < (a.length : Int)) := by simpa using h3
          omega
        subst h3
        have hl : a.length < l.length := by omega
        have hw : wv (l.set a.length (cy : Int)) = wv a + wv b := by
          have h5 : a.length < (l.set a.length (cy : Int)).length := by simpa using hl
          have := take_wv h5
          rw [List.take_of_length_le (by simp; omega), List.take_set_of_le (Nat.le_refl _), List.getElem_set_self] at this
          rw [this]
          rw [List.take_length, List.take_of_length_le hab] at q6
          simpa using q6
        have hf : WF (l.set a.length (cy : Int)) := WF.set q3 _ (by omega) (by omega)
        have hc := natTrim_c hf (by simp; omega)
        rw [hw] at hc
        have e0 : ((a.map fun x => [D.int .u32 x]).length : Int) = (a.length : Int) := by simp
        refine .of ⟨by rw [e0]; omega, by rw [e0]; omega⟩ ?_
        refine .of ⟨by simp [wc, q2], rfl, rfl, by rw [e0]; omega⟩ ?_
        refine .by (.d (wn (wv a + wv b))) (.of ⟨by simp [wc, q2], rfl⟩ ⟨?_, trivial, rfl⟩)
        rw [e0, Int.toNat_natCast, wc, ← List.map_set (f := fun x => [D.int .u32 x])]
        exact hc
end Go.KM
end
section
/- Contracts: nat.Add. -/
namespace Go.KM
open Go RN

def sumV (xs : List (List Int)) : Nat := (xs.map wv).sum
theorem sumV_take {xs : List (List Int)} {i : Nat} (h : i < xs.length) : sumV (xs.take (i + 1)) = sumV (xs.take i) + wv xs[i] := by
  unfold sumV
  rw [List.take_succ_eq_append_getElem h, List.map_append, List.sum_append]
  simp
theorem pow_mono' {a b : Nat} (h : a ≤ b) : 4294967296 ^ a ≤ 4294967296 ^ b := Nat.pow_le_pow_right (by decide) h
theorem sumV_lt {xs : List (List Int)} {m : Nat} (h : ∀ l ∈ xs, WF l ∧ l.length ≤ m) (k : Nat) (hk : xs.length ≤ 4294967296 ^ k) (h0 : xs ≠ []) : sumV xs < 4294967296 ^ (m + k) := by
  have key : ∀ (ys : List (List Int)), (∀ l ∈ ys, WF l ∧ l.length ≤ m) → ys ≠ [] → sumV ys < ys.length * 4294967296 ^ m := by
    intro ys
    induction ys with
    | nil => intro _ h; exact absurd rfl h
    | cons y r ih =>
      intro hy _
      obtain ⟨h1, h2⟩ := hy y (List.mem_cons_self ..)
      have h3 := Nat.lt_of_lt_of_le (wv_lt h1) (pow_mono' h2)
      have e : sumV (y :: r) = wv y + sumV r := by simp [sumV]
      rw [e, List.length_cons, Nat.add_mul, Nat.one_mul]
      by_cases hr : r = []
      · subst hr; simp [sumV]; omega
      · have := ih (fun l hl => hy l (List.mem_cons_of_mem _ hl)) hr
        omega
  have h1 := key xs h h0
  have h2 : xs.length * 4294967296 ^ m ≤ 4294967296 ^ k * 4294967296 ^ m := Nat.mul_le_mul_right _ hk
  rw [← Nat.pow_add, Nat.add_comm k m] at h2
  omega
def wds (xs : List (List Int)) : D := .sl (xs.map fun l => [wd l])

theorem natAdd_c (xs : List (List Int)) (h : ∀ l ∈ xs, WF l ∧ l.length < 2 ^ 38) (hx : xs.length ≤ 4294967296) : CN 164 [.d (wds xs)] [] (.d (wn (sumV xs))) [] := by
  refine con_of Go.Proofs.Tryz.func164 rfl (by kernel_rfl) (Nat.le_of_ble_eq_true rfl) ?_
  refine .mk 0 (VLoop.mk Nat (fun i => frm 18 [.d (wds xs), .any, .nils, .d (wn (sumV (xs.take i))), .any, .any, .d (wds xs), i64 xs.length, i64 i]) (fun _ => []) (fun i => i ≤ xs.length) (fun i => xs.length - i) 0 (Nat.zero_le _) ?_ trivial trivial ?_)
  · exact ⟨rfl, rfl, ⟨by simp [sumV, wl_zero], rfl, by rw [List.length_map], rfl, trivial⟩⟩
  · intro i hi
    refine .mk (fun h1 => ?_) (fun h1 => ?_)
    · have h1 : i < xs.length := by simpa using h1
      have hl := h _ (List.getElem_mem h1)
      have ht : (wl (sumV (xs.take i))).length < 2 ^ 39 := by
        by_cases h0 : xs.take i = []
        · rw [h0]; simp [sumV, wl_zero]
        · have := wl_len (sumV_lt (m := 2 ^ 38) (fun l hl => ⟨(h l (List.mem_of_mem_take hl)).1, Nat.le_of_lt (h l (List.mem_of_mem_take hl)).2⟩) 1 (by simp; omega) h0)
          omega
      have hl2 : (wl (wv xs[i])).length ≤ xs[i].length := wl_len_wv hl.1
      refine .mk (by omega) ⟨xs[i].map fun x => [.int .u32 x], by simp [List.getElem?_eq_getElem h1, wd], ?_⟩
      refine .by _ ⟨natTrim_c hl.1 (by omega), ?_⟩
      have hp := natPlus_c (wl (sumV (xs.take i))) (wl (wv xs[i])) (wl_WF _) (wl_WF _) ht (by omega)
      rw [wv_wl, wv_wl, ← sumV_take h1] at hp
      refine .by _ ⟨hp, ?_⟩
      refine ⟨i + 1, h1, by omega, ⟨rfl, rfl, rfl, rfl, rfl, ?_, trivial⟩, trivial, trivial⟩
      rw [wrap64 (by omega) (by omega)]
      rfl
    · have h1 : i = xs.length := by
        have : ¬ ((i : Int) < (xs.length : Int)) := by simpa using h1
        omega
      subst h1
      exact ⟨trivial, by rw [List.take_length]; rfl⟩
end Go.KM
end
section
/- Contracts: nat.Sub, nat.Gap. -/
namespace Go.KM
open Go RN

theorem limbSub_i (x y : Int) (c : Nat) (hx : 0 ≤ x ∧ x < 4294967296) (hy : 0 ≤ y ∧ y < 4294967296) (hc : c ≤ 1) :
    CN 190 [.d (.int .u32 x), .d (.int .u32 y), u c] [] (.tup [u ((x.toNat + 8589934592 - y.toNat - c) % 4294967296), u (2 - (x.toNat + 8589934592 - y.toNat - c) / 4294967296)]) [] := by
  have := limbSub_c x.toNat y.toNat c (by omega) (by omega) (by omega)
  have e1 : u x.toNat = .d (.int .u32 x) := u_eq (by omega)
  have e2 : u y.toNat = .d (.int .u32 y) := u_eq (by omega)
  rwa [e1, e2] at this
theorem minus_step {a b l : List Int} {i cy y : Nat} (h3 : i < a.length) (hl : i < l.length) (q5 : l.drop i = a.drop i)
    (q6 : wv (l.take i) + wv (b.take i) = wv (a.take i) + 4294967296 ^ i * cy) (hb : wv (b.take (i + 1)) = wv (b.take i) + 4294967296 ^ i * y) {w c : Nat} (hw : w + y + cy = (a[i]).toNat + 4294967296 * c) :
    (l.set i (w : Int)).drop (i + 1) = a.drop (i + 1) ∧ wv ((l.set i (w : Int)).take (i + 1)) + wv (b.take (i + 1)) = wv (a.take (i + 1)) + 4294967296 ^ (i + 1) * c := by
  constructor
  · rw [List.drop_set_of_lt (by omega)]
    rw [List.drop_eq_getElem_cons hl, List.drop_eq_getElem_cons h3] at q5
    exact (List.cons.inj q5).2
  · have h4 : i < (l.set i (w : Int)).length := by simpa using hl
    rw [take_wv h4, take_wv h3, hb, List.take_set_of_le (Nat.le_refl _), List.getElem_set_self]
    have e : 4294967296 ^ (i + 1) * c = 4294967296 ^ i * (4294967296 * c) := by rw [Nat.pow_succ, Nat.mul_assoc]
    have e2 := congrArg (4294967296 ^ i * ·) hw
    simp only [Nat.mul_add] at e2
    rw [e]
    simp only [Int.toNat_natCast]
    omega

theorem natSub_no (a b : List Int) (ha : WF a) (hb : WF b) (la : a.length < 2 ^ 39) (lb : b.length < 2 ^ 39) (h : wv a < wv b) : CN 182 [.d (wd a), .d (wd b)] [] (.tup [.d (wn 0), .d (.bool false)]) [] := by
  refine con_of Go.Proofs.Tryz.func182 rfl (by kernel_rfl) (Nat.le_of_ble_eq_true rfl) ?_
  refine .by _ ⟨natTrim_c ha (by omega), ?_⟩
  refine .by _ ⟨natTrim_c hb (by omega), ?_⟩
  have hc := natCmp_c (wl (wv a)) (wl (wv b)) (wl_WF _) (wl_WF _) (by have := wl_len_wv ha; omega) (by have := wl_len_wv hb; omega)
  rw [wv_wl, wv_wl] at hc
  refine .by _ ⟨hc, ?_⟩
  have hneg : cmpI (wv a) (wv b) = -1 := by rw [cmpI, if_pos h]
  refine .mk (fun _ => ?_) (fun h1 => ?_)
  · refine ⟨trivial, tup2 ?_ rfl⟩
    simp [wn, wl_zero, wd]
  · exfalso
    have : ¬ (cmpI (wv a) (wv b) < 0) := by simpa using h1
    omega

theorem natSub_c (a b : List Int) (ha : WF a) (hb : WF b) (la : a.length < 2 ^ 39) (lb : b.length < 2 ^ 39) (h : wv b ≤ wv a) : CN 182 [.d (wd a), .d (wd b)] [] (.tup [.d (wn (wv a - wv b)), .d (.bool true)]) [] := by
  refine con_of Go.Proofs.Tryz.func182 rfl (by kernel_rfl) (Nat.le_of_ble_eq_true rfl) ?_
  refine .by _ ⟨natTrim_c ha (by omega), ?_⟩
  refine .by _ ⟨natTrim_c hb (by omega), ?_⟩
  have l1 : (wl (wv a)).length ≤ a.length := wl_len_wv ha
  have l2 : (wl (wv b)).length ≤ b.length := wl_len_wv hb
  have hc := natCmp_c (wl (wv a)) (wl (wv b)) (wl_WF _) (wl_WF _) (by omega) (by omega)
  rw [wv_wl, wv_wl] at hc
  refine .by _ ⟨hc, ?_⟩
  generalize hA : wv a = A at *
  generalize hB : wv b = B at *
  have hba : (wl B).length ≤ (wl A).length := by
    rcases Nat.lt_or_ge (wl A).length (wl B).length with h1 | h1
    · have := len_lt h1; omega
    · exact h1
  have WA := wl_WF A
  have WB := wl_WF B
  have vA := wv_wl A
  have vB := wv_wl B
  have hneg : ¬ cmpI A B < 0 := by
    rw [cmpI, if_neg (by omega)]
    split <;> omega
  refine .no (by simpa using hneg) ?_
  have hn : (wl A).length < 2 ^ 39 := by omega
  refine .new 19 _ _ rfl ⟨fresh_at 19 (wl A) 0 (by omega), ?_⟩
  refine .mk 0 (VLoop.mk (Nat × List Int × Nat) (fun s => frm 49 [.d (wn A), .d (wn B), .any, .any, .nils, .d (.bool false), .own 19 ((wl A).length + 0) 1, u s.2.2, .any, .any, .any, .any, .any, .any, .any, .any, .any, .any, .any, .any, .any, i64 (wl A).length, i64 s.1]) (fun s => [(19, .row 1 (wc s.2.1) false)])
    (fun s => s.1 ≤ (wl A).length ∧ s.2.1.length = (wl A).length ∧ WF s.2.1 ∧ s.2.2 ≤ 1 ∧ s.2.1.drop s.1 = (wl A).drop s.1 ∧ wv (s.2.1.take s.1) + wv ((wl B).take s.1) = wv ((wl A).take s.1) + 4294967296 ^ s.1 * s.2.2) (fun s => (wl A).length - s.1) (0, wl A ++ [], 0) ?_ ?_ ?_ ?_ ?_)
  · exact ⟨Nat.zero_le _, by simp, by rw [List.append_nil]; exact WA, Nat.zero_le _, by simp, by simp [wv]⟩
  · exact ⟨rfl, rfl, rfl, rfl, rfl, rfl, by rw [List.length_map], rfl, trivial⟩
  · exact ⟨rfl, trivial⟩
  · trivial
  · rintro ⟨i, l, cy⟩ ⟨q1, q2, q3, q4, q5, q6⟩
    simp only at q1 q2 q3 q4 q5 q6
    refine .mk (fun h3 => ?_) (fun h3 => ?_)
    · have h3 : i < (wl A).length := by simpa using h3
      have hl : i < l.length := by omega
      have hax := WA _ (List.getElem_mem h3)
      refine .mk (fun h4 => ?_) (fun h4 => ?_)
      · have h4 : i < (wl B).length := by simpa using h4
        have hbx := WB _ (List.getElem_mem h4)
        refine .mk (by show (0 : Int) ≤ (i : Int); omega) ⟨_, wd_get h4, ?_⟩
        refine .mk (by show (0 : Int) ≤ (i : Int); omega) ⟨_, wd_get h3, ?_⟩
        refine .by _ ⟨limbSub_i _ _ cy hax hbx q4, ?_⟩
        refine .of ⟨by show (0 : Int) ≤ (i : Int); omega, by show (i : Int) < (((wl A).length + 0 : Nat) : Int); omega⟩ ?_
        refine .of ⟨by simp [wc, q2], rfl, rfl, by show (i : Int).toNat < _; omega⟩ ?_
        have hs := minus_step (w := (((wl A)[i]).toNat + 8589934592 - ((wl B)[i]).toNat - cy) % 4294967296) (c := 2 - (((wl A)[i]).toNat + 8589934592 - ((wl B)[i]).toNat - cy) / 4294967296) h3 hl q5 q6 (take_wv h4) (by omega)
        refine ⟨(i + 1, l.set i (((((wl A)[i]).toNat + 8589934592 - ((wl B)[i]).toNat - cy) % 4294967296 : Nat) : Int), 2 - (((wl A)[i]).toNat + 8589934592 - ((wl B)[i]).toNat - cy) / 4294967296),
          ⟨h3, by simpa using q2, WF.set q3 i (by omega) (by omega), by show 2 - _ / 4294967296 ≤ 1; omega, hs.1, hs.2⟩, by show (wl A).length - (i + 1) < (wl A).length - i; omega, ⟨rfl, rfl, rfl, rfl, rfl, rfl, rfl, ?_, trivial⟩, ⟨?_, trivial⟩, trivial⟩
        · show AV.d (.int .i64 (IntKind.i64.wrap ((i : Int) + 1))) = i64 ((i + 1 : Nat) : Int)
          rw [wrap64 (by omega) (by omega)]
          rfl
        · show some (Blk.row 1 ((wc l).set (i : Int).toNat _) false) = _
          rw [wc, Int.toNat_natCast, ← List.map_set (f := fun x => [D.int .u32 x])]
          rfl
      · have h4 : (wl B).length ≤ i := by simpa using h4
        refine .mk (by show (0 : Int) ≤ (i : Int); omega) ⟨_, wd_get h3, ?_⟩
        refine .by _ ⟨limbSub_i _ 0 cy hax (by omega) q4, ?_⟩
        refine .of ⟨by show (0 : Int) ≤ (i : Int); omega, by show (i : Int) < (((wl A).length + 0 : Nat) : Int); omega⟩ ?_
        refine .of ⟨by simp [wc, q2], rfl, rfl, by show (i : Int).toNat < _; omega⟩ ?_
        have hs := minus_step (y := 0) (w := (((wl A)[i]).toNat + 8589934592 - 0 - cy) % 4294967296) (c := 2 - (((wl A)[i]).toNat + 8589934592 - 0 - cy) / 4294967296) h3 hl q5 q6 (by rw [List.take_of_length_le h4, List.take_of_length_le (by omega)]; simp) (by omega)
        refine ⟨(i + 1, l.set i (((((wl A)[i]).toNat + 8589934592 - 0 - cy) % 4294967296 : Nat) : Int), 2 - (((wl A)[i]).toNat + 8589934592 - 0 - cy) / 4294967296),
          ⟨h3, by simpa using q2, WF.set q3 i (by omega) (by omega), by show 2 - _ / 4294967296 ≤ 1; omega, hs.1, hs.2⟩, by show (wl A).length - (i + 1) < (wl A).length - i; omega, ⟨rfl, rfl, rfl, rfl, rfl, rfl, rfl, ?_, trivial⟩, ⟨?_, trivial⟩, trivial⟩
        · show AV.d (.int .i64 (IntKind.i64.wrap ((i : Int) + 1))) = i64 ((i + 1 : Nat) : Int)
          rw [wrap64 (by omega) (by omega)]
          rfl
        · show some (Blk.row 1 ((wc l).set (i : Int).toNat _) false) = _
          rw [wc, Int.toNat_natCast, ← List.map_set (f := fun x => [D.int .u32 x])]
          rfl
    · have h3 : i = (wl A).length := by
        have : ¬ ((i : Int) < ((wl A).length : Int)) := by simpa using h3
        omega
      subst h3
      rw [List.take_of_length_le (by omega), List.take_of_length_le hba, List.take_length, vA, vB] at q6
      have hlt := wv_lt q3
      rw [q2] at hlt
      have hw : wv l = A - B := by
        rcases Nat.eq_zero_or_pos cy with e | e
        · subst e; omega
        · have e : cy = 1 := by omega
          subst e; omega
      have hc2 := natTrim_c q3 (by omega)
      rw [hw] at hc2
      refine .by (.d (wn (A - B))) (.of ⟨by simp [wc, q2], rfl⟩ ⟨?_, trivial, rfl⟩)
      exact hc2
end Go.KM
end
section
/- Contracts: nat.Gap. -/
namespace Go.KM
open Go RN

theorem cmpI_lt {a b : Nat} : cmpI a b < 0 ↔ a < b := by
  unfold cmpI
  split
  · simp_all
  · split <;> simp_all
theorem natGap_c (a b : List Int) (ha : WF a) (hb : WF b) (la : a.length < 2 ^ 39) (lb : b.length < 2 ^ 39) : CN 165 [.d (wd a), .d (wd b)] [] (.tup [.d (wn (wv a - wv b + (wv b - wv a))), i64 (cmpI (wv a) (wv b))]) [] := by
  refine con_of Go.Proofs.Tryz.func165 rfl (by kernel_rfl) (Nat.le_of_ble_eq_true rfl) ?_
  refine .by _ ⟨natCmp_c a b ha hb (by omega) (by omega), ?_⟩
  refine .mk (fun h1 => ?_) (fun h1 => ?_)
  · have h1 : wv a < wv b := cmpI_lt.1 (by simpa using h1)
    refine .by _ ⟨natSub_c b a hb ha lb la (by omega), trivial, tup2 ?_ rfl⟩
    congr 2
    omega
  · have h1 : ¬ wv a < wv b := fun h => by
      have := cmpI_lt.2 h
      have h1 : ¬ (cmpI (wv a) (wv b) < 0) := by simpa using h1
      omega
    refine .by _ ⟨natSub_c a b ha hb la lb (by omega), trivial, tup2 ?_ rfl⟩
    congr 2
    omega
end Go.KM
end
section
/- Words: values of lists in which words are set: plain laws. -/
namespace RN

theorem wv_set {l : List Int} {k : Nat} (h : k < l.length) (w : Int) : wv (l.set k w) + 4294967296 ^ k * (l[k]).toNat = wv l + 4294967296 ^ k * w.toNat := by
  induction l generalizing k with
  | nil => simp at h
  | cons x l ih =>
    cases k with
    | zero => simp [wv]; omega
    | succ k =>
      have h' : k < l.length := by simpa using h
      have := ih h'
      simp only [List.set_cons_succ, wv, List.getElem_cons_succ, Nat.pow_succ]
      have e : ∀ m : Nat, 4294967296 ^ k * 4294967296 * m = 4294967296 * (4294967296 ^ k * m) := fun m => by
        rw [Nat.mul_comm (4294967296 ^ k), Nat.mul_assoc]
      rw [e, e]
      omega
theorem wv_split (l : List Int) (k : Nat) (h : k ≤ l.length) : wv l = wv (l.take k) + 4294967296 ^ k * wv (l.drop k) := by
  have := wv_append (l.take k) (l.drop k)
  rwa [List.take_append_drop, List.length_take, Nat.min_eq_left h] at this
theorem wv_drop {l : List Int} (hl : WF l) (k : Nat) : wv (l.drop k) = wv l / 4294967296 ^ k := by
  rcases Nat.lt_or_ge l.length k with h | h
  · rw [List.drop_eq_nil_of_le (Nat.le_of_lt h)]
    have h1 := wv_lt hl
    have h2 : 4294967296 ^ l.length ≤ 4294967296 ^ k := Nat.pow_le_pow_right (by decide) (Nat.le_of_lt h)
    rw [Nat.div_eq_of_lt (by omega)]
    rfl
  · have h1 := wv_split l k h
    have h2 := wv_lt (hl.take k)
    rw [List.length_take, Nat.min_eq_left h] at h2
    rw [h1, Nat.add_mul_div_left _ _ (Nat.pow_pos (by decide)), Nat.div_eq_of_lt h2, Nat.zero_add]
theorem wv_take {l : List Int} (hl : WF l) (k : Nat) : wv (l.take k) = wv l % 4294967296 ^ k := by
  rcases Nat.lt_or_ge l.length k with h | h
  · rw [List.take_of_length_le (Nat.le_of_lt h)]
    have h1 := wv_lt hl
    have h2 : 4294967296 ^ l.length ≤ 4294967296 ^ k := Nat.pow_le_pow_right (by decide) (Nat.le_of_lt h)
    rw [Nat.mod_eq_of_lt (by omega)]
  · have h1 := wv_split l k h
    have h2 := wv_lt (hl.take k)
    rw [List.length_take, Nat.min_eq_left h] at h2
    rw [h1, Nat.add_mul_mod_self_left, Nat.mod_eq_of_lt h2]
theorem wv_getElem {l : List Int} (hl : WF l) {k : Nat} (h : k < l.length) : (l[k]).toNat = wv l / 4294967296 ^ k % 4294967296 := by
  have h1 := wv_drop hl k
  rw [List.drop_eq_getElem_cons h, wv] at h1
  have := hl _ (List.getElem_mem h)
  omega
theorem drop_get {l m : List Int} {k i : Nat} (h : l.drop k = m.drop k) (hi : k ≤ i) : l[i]? = m[i]? := by
  have : (l.drop k)[i - k]? = (m.drop k)[i - k]? := by rw [h]
  rwa [List.getElem?_drop, List.getElem?_drop, Nat.add_sub_cancel' hi] at this
theorem drop_of_drop {l m : List Int} {k i : Nat} (h : l.drop k = m.drop k) (hi : k ≤ i) : l.drop i = m.drop i := by
  have : (l.drop k).drop (i - k) = (m.drop k).drop (i - k) := by rw [h]
  rwa [List.drop_drop, List.drop_drop, Nat.add_sub_cancel' hi] at this
theorem drop_set_next {l m : List Int} {k : Nat} {w : Int} (h : l.drop k = m.drop k) : (l.set k w).drop (k + 1) = m.drop (k + 1) := by
  rw [List.drop_set_of_lt (by omega)]
  exact drop_of_drop h (by omega)
/-- One word more of a product is added. -/
theorem row_step {l l0 a : List Int} {at_ i x c : Nat} (hi : i < a.length) (hk : at_ + i < l.length) (c0 : Nat)
    (q : wv l + 4294967296 ^ (at_ + i) * c = wv l0 + 4294967296 ^ at_ * (wv (a.take i) * x + c0)) {w c' : Nat} (hw : w + 4294967296 * c' = x * (a[i]).toNat + (l[at_ + i]).toNat + c) :
    wv (l.set (at_ + i) (w : Int)) + 4294967296 ^ (at_ + (i + 1)) * c' = wv l0 + 4294967296 ^ at_ * (wv (a.take (i + 1)) * x + c0) := by
  have h1 := wv_set hk (w : Int)
  have h2 : wv (a.take (i + 1)) = wv (a.take i) + 4294967296 ^ i * (a[i]).toNat := by
    rw [List.take_succ_eq_append_getElem hi, wv_append, List.length_take, Nat.min_eq_left (by omega)]
    simp [wv]
  have h3 := congrArg (4294967296 ^ (at_ + i) * ·) hw
  simp only [Int.toNat_natCast] at h1
  rw [h2, show at_ + (i + 1) = at_ + i + 1 from rfl, Nat.pow_succ]
  simp only [Nat.pow_add] at *
  generalize 4294967296 ^ at_ = P at *
  generalize 4294967296 ^ i = Q at *
  generalize wv (a.take i) = A at *
  generalize (a[i]).toNat = y at *
  generalize (l[at_ + i]).toNat = z at *
  generalize wv (l.set (at_ + i) (w : Int)) = L' at *
  grind
/-- One word more of a product is taken away. -/
theorem take_step {l l0 b : List Int} {at_ i x c bo : Nat} (hi : i < b.length) (hk : at_ + i < l.length)
    (q : wv l + 4294967296 ^ at_ * (x * wv (b.take i)) = wv l0 + 4294967296 ^ (at_ + i) * (c + bo)) {lo c' w bo' : Nat} (hp : lo + 4294967296 * c' = x * (b[i]).toNat + c)
    (hw : w + lo + bo = (l[at_ + i]).toNat + 4294967296 * bo') :
    wv (l.set (at_ + i) (w : Int)) + 4294967296 ^ at_ * (x * wv (b.take (i + 1))) = wv l0 + 4294967296 ^ (at_ + (i + 1)) * (c' + bo') := by
  have h1 := wv_set hk (w : Int)
  have h2 : wv (b.take (i + 1)) = wv (b.take i) + 4294967296 ^ i * (b[i]).toNat := by
    rw [List.take_succ_eq_append_getElem hi, wv_append, List.length_take, Nat.min_eq_left (by omega)]
    simp [wv]
  have h3 := congrArg (4294967296 ^ (at_ + i) * ·) hw
  have h4 := congrArg (4294967296 ^ (at_ + i) * ·) hp
  simp only [Int.toNat_natCast] at h1
  rw [h2, show at_ + (i + 1) = at_ + i + 1 from rfl, Nat.pow_succ]
  simp only [Nat.pow_add] at *
  generalize 4294967296 ^ at_ = P at *
  generalize 4294967296 ^ i = Q at *
  generalize wv (b.take i) = A at *
  generalize (b[i]).toNat = y at *
  generalize (l[at_ + i]).toNat = z at *
  generalize wv (l.set (at_ + i) (w : Int)) = L' at *
  grind
theorem pow_le {a b : Nat} (h : a ≤ b) : 4294967296 ^ a ≤ 4294967296 ^ b := Nat.pow_le_pow_right (by decide) h
theorem wv_zero_of {l : List Int} (h : ∀ x ∈ l, x = 0) : wv l = 0 := by
  induction l with
  | nil => rfl
  | cons x l ih => rw [wv, ih (fun y hy => h y (List.mem_cons_of_mem _ hy)), h x (List.mem_cons_self ..)]; rfl
end RN
namespace RN
/-- The words of a number, so many. -/
def dw : Nat → Nat → List Int
  | 0, _ => []
  | n + 1, V => ((V % 4294967296 : Nat) : Int) :: dw n (V / 4294967296)
theorem dw_len (n V : Nat) : (dw n V).length = n := by
  induction n generalizing V with
  | zero => rfl
  | succ n ih => simp [dw, ih]
theorem dw_WF (n V : Nat) : WF (dw n V) := by
  induction n generalizing V with
  | zero => exact WF.nil
  | succ n ih => exact WF.cons (by omega) (by omega) (ih _)
theorem wv_dw {n V : Nat} (h : V < 4294967296 ^ n) : wv (dw n V) = V := by
  induction n generalizing V with
  | zero => simp at h; subst h; rfl
  | succ n ih =>
    rw [dw, wv, ih (by rw [Nat.pow_succ] at h; exact Nat.div_lt_of_lt_mul (by omega))]
    omega
theorem dw_wv {l : List Int} (h : WF l) : dw l.length (wv l) = l := by
  induction l with
  | nil => rfl
  | cons x l ih =>
    have hx := h.head
    rw [List.length_cons, dw, wv]
    have e1 : (x.toNat + 4294967296 * wv l) / 4294967296 = wv l := by omega
    rw [e1, ih h.tail]
    congr 1
    omega
theorem eq_dw {l : List Int} (h : WF l) {n V : Nat} (hl : l.length = n) (hv : wv l = V) : l = dw n V := by
  subst hl; subst hv; exact (dw_wv h).symm
theorem dw_zero (n : Nat) : dw n 0 = List.replicate n 0 := by
  have := dw_wv (WF.zeros n)
  rwa [wv_zeros, List.length_replicate] at this
theorem dw_get {n V i : Nat} (hi : i < n) : (dw n V).getD i 0 = ((V / 4294967296 ^ i % 4294967296 : Nat) : Int) := by
  induction n generalizing V i with
  | zero => omega
  | succ n ih =>
    cases i with
    | zero => simp [dw]
    | succ i =>
      rw [dw, List.getD_cons_succ, ih (by omega), Nat.div_div_eq_div_mul, Nat.pow_succ, Nat.mul_comm 4294967296]
end RN
namespace RN
theorem borrow_eq {V V' P a b : Nat} (hP : 0 < P) (ha : a ≤ 1) (hb : b ≤ 1) (h : V' + P * a = V + P * b) (hq : V / P = V' / P) : V' = V ∧ b = a := by
  rcases (by omega : a = 0 ∨ a = 1) with rfl | rfl <;> rcases (by omega : b = 0 ∨ b = 1) with rfl | rfl
  · exact ⟨by omega, rfl⟩
  · have : V' = V + P := by omega
    rw [this, Nat.add_div_right _ hP] at hq
    omega
  · have : V = V' + P := by omega
    rw [this, Nat.add_div_right _ hP] at hq
    omega
  · exact ⟨by omega, rfl⟩
end RN
end
section
/- Contracts: prod.row, prod.Mul, prod.Word. -/
namespace Go.KM
open Go RN

theorem u_toNat {x : Int} (h : 0 ≤ x) : u x.toNat = .d (.int .u32 x) := u_eq (by omega)
theorem limbMul_i (x : Nat) (y z : Int) (c : Nat) (hx : x < 4294967296) (hy : 0 ≤ y ∧ y < 4294967296) (hz : 0 ≤ z ∧ z < 4294967296) (hc : c < 4294967296) :
    CN 126 [u x, .d (.int .u32 y), .d (.int .u32 z), u c] [] (.tup [u ((x * y.toNat + z.toNat + c) / 4294967296), u ((x * y.toNat + z.toNat + c) % 4294967296)]) [] := by
  have := limbMul_c x y.toNat z.toNat c (by omega) (by omega) (by omega) (by omega)
  rwa [u_toNat hy.1, u_toNat hz.1] at this
theorem wc_get {l : List Int} {i : Nat} (h : i < l.length) : (wc l)[i]? = some [.int .u32 l[i]] := wd_get h
theorem wc_set (l : List Int) (i : Nat) (x : Int) : (wc l).set i [.int .u32 x] = wc (l.set i x) := by
  rw [wc, ← List.map_set (f := fun x => [D.int .u32 x])]; rfl
theorem wc_len (l : List Int) : (wc l).length = l.length := by simp [wc]
theorem mul_step_lt {x y z c : Nat} (hx : x < 4294967296) (hy : y < 4294967296) (hz : z < 4294967296) (hc : c < 4294967296) : (x * y + z + c) / 4294967296 < 4294967296 := by
  have : x * y ≤ 4294967295 * 4294967295 := Nat.mul_le_mul (by omega) (by omega)
  omega

set_option maxRecDepth 10000 in
theorem prodRow_1 (l a : List Int) (p x c V : Nat) (hl : WF l) (ha : WF a) (hx : x < 4294967296) (hc : c < 4294967296) (hp : p + a.length < l.length) (hll : l.length < 2 ^ 40)
    (hV : V + 4294967296 ^ (p + a.length) * (l.getD (p + a.length) 0).toNat = wv l + 4294967296 ^ p * (wv a * x + c)) :
    CN 93 [.own 1 l.length 1, i64 p, .d (wd a), u x, u c] [(1, .row 1 (wc l) false)] (.tup []) [(1, .row 1 (wc (dw l.length V)) false)] := by
  refine conF_of Go.Proofs.Tryz.func93 rfl (by kernel_rfl) ⟨rfl, trivial⟩ (Nat.le_of_ble_eq_true rfl) ?_
  refine .mk 0 (VLoop.mk (Nat × List Int × Nat) (fun s => frm 45 [.own 1 l.length 1, i64 p, .d (wd a), u x, u s.2.2, .any, .any, .any, .any, .any, .any, .any, .d (wd a), i64 a.length, i64 s.1]) (fun s => [(1, .row 1 (wc s.2.1) false)])
      (fun s => s.1 ≤ a.length ∧ s.2.1.length = l.length ∧ WF s.2.1 ∧ s.2.2 < 4294967296 ∧ s.2.1.drop (p + s.1) = l.drop (p + s.1) ∧ wv s.2.1 + 4294967296 ^ (p + s.1) * s.2.2 = wv l + 4294967296 ^ p * (wv (a.take s.1) * x + c)) (fun s => a.length - s.1) (0, l, c) ?_ ?_ ?_ ?_ ?_)
  · exact ⟨Nat.zero_le _, rfl, hl, hc, rfl, by simp [wv]⟩
  · exact ⟨rfl, rfl, rfl, rfl, rfl, rfl, by rw [List.length_map], rfl, trivial⟩
  · exact ⟨rfl, trivial⟩
  · exact ⟨rfl, trivial⟩
  · rintro ⟨i, m, cy⟩ ⟨q1, q2, q3, q4, q5, q6⟩
    simp only at q1 q2 q3 q4 q5 q6
    have e1 : IntKind.i64.wrap ((p : Int) + (i : Int)) = ((p + i : Nat) : Int) := by rw [wrap64 (by omega) (by omega)]; rfl
    refine .mk (fun h3 => ?_) (fun h3 => ?_)
    · have h3 : i < a.length := by simpa using h3
      have hk : p + i < m.length := by omega
      have hxa := ha _ (List.getElem_mem h3)
      have hxm := q3 _ (List.getElem_mem hk)
      refine .mk (by show (0 : Int) ≤ (i : Int); omega) ⟨_, wd_get h3, ?_⟩
      refine .of ⟨by rw [e1]; omega, by rw [e1]; omega⟩ ?_
      refine .of (by rw [wc_len]; exact q2) ?_
      refine .mk (by rw [e1]; omega) ⟨_, by rw [e1, Int.toNat_natCast, Int.toNat_natCast]; exact wc_get hk, ?_⟩
      refine .by _ ⟨limbMul_i x _ _ cy hx hxa hxm q4, ?_⟩
      refine .of ⟨by rw [e1]; omega, by rw [e1]; omega⟩ ?_
      refine .of ⟨by rw [wc_len]; exact q2, rfl, rfl, by rw [e1]; omega⟩ ?_
      have hs := row_step h3 hk c q6 (w := (x * (a[i]).toNat + (m[p + i]).toNat + cy) % 4294967296) (c' := (x * (a[i]).toNat + (m[p + i]).toNat + cy) / 4294967296) (by omega)
      refine ⟨(i + 1, m.set (p + i) (((x * (a[i]).toNat + (m[p + i]).toNat + cy) % 4294967296 : Nat) : Int), (x * (a[i]).toNat + (m[p + i]).toNat + cy) / 4294967296),
        ⟨h3, by simpa using q2, WF.set q3 _ (by omega) (by omega), mul_step_lt hx (by omega) (by omega) q4, drop_set_next q5, hs⟩, by show a.length - (i + 1) < a.length - i; omega, ⟨rfl, rfl, rfl, rfl, rfl, rfl, rfl, ?_, trivial⟩, ⟨?_, trivial⟩, ⟨rfl, trivial⟩⟩
      · show AV.d (.int .i64 (IntKind.i64.wrap ((i : Int) + 1))) = i64 ((i + 1 : Nat) : Int)
        rw [wrap64 (by omega) (by omega)]
        rfl
      · show some (Blk.row 1 ((wc m).set _ _) false) = _
        rw [e1, Int.toNat_natCast]
        exact congrArg (fun z => some (Blk.row 1 z false)) (wc_set _ _ _)
    · have h3 : i = a.length := by
        have : ¬ ((i : Int) < (a.length : Int)) := by simpa using h3
        omega
      subst h3
      have e0 : IntKind.i64.wrap ((p : Int) + ((a.map fun x => [D.int .u32 x]).length : Int)) = ((p + a.length : Nat) : Int) := by rw [List.length_map, e1]
      have hk : p + a.length < m.length := by omega
      refine .of ⟨by rw [e0]; omega, by rw [e0]; omega⟩ ?_
      refine .of ⟨by rw [wc_len]; exact q2, rfl, rfl, by rw [e0]; omega⟩ ?_
      refine ⟨⟨?_, trivial⟩, rfl⟩
      show some (Blk.row 1 ((wc m).set _ _) false) = _
      rw [e0, Int.toNat_natCast]
      refine congrArg (fun z => some (Blk.row 1 z false)) ((wc_set _ _ _).trans (congrArg wc ?_))
      refine eq_dw (WF.set q3 _ (by show (0 : Int) ≤ (cy : Int); omega) (by show (cy : Int) < _; omega)) (by simpa using q2) ?_
      show wv (m.set (p + a.length) (cy : Int)) = V
      have h1 := wv_set hk ((cy : Nat) : Int)
      have h2 : l.getD (p + a.length) 0 = m[p + a.length] := by
        have := drop_get (i := p + a.length) q5 (Nat.le_refl _)
        rw [List.getD_eq_getElem?_getD, ← this, List.getElem?_eq_getElem hk]
        rfl
      rw [h2] at hV
      rw [List.take_length] at q6
      simp only [Int.toNat_natCast] at h1
      omega
theorem prodRow_c (id : Nat) (l a : List Int) (p x c V : Nat) (hl : WF l) (ha : WF a) (hx : x < 4294967296) (hc : c < 4294967296) (hp : p + a.length < l.length) (hll : l.length < 2 ^ 40)
    (hV : V + 4294967296 ^ (p + a.length) * (l.getD (p + a.length) 0).toNat = wv l + 4294967296 ^ p * (wv a * x + c)) :
    CN 93 [.own id l.length 1, i64 p, .d (wd a), u x, u c] [(id, .row 1 (wc l) false)] (.tup []) [(id, .row 1 (wc (dw l.length V)) false)] := by
  have := (prodRow_1 l a p x c V hl ha hx hc hp hll hV).ren (swp_swap 1 id)
  simp only [renAV.renAVs, renAV, renMem, renBlk, swp_a, i64, u] at this
  exact this
end Go.KM
end
section
/- Contracts: prod.Mul. -/
namespace Go.KM
open Go RN

theorem natNorm_w {l : List Int} (h : WF l) (hl : l.length < 2 ^ 40) : CN 94 [.d (.sl (wc l))] [] (.d (wn (wv l))) [] := by
  have := natNorm_c l hl
  rwa [trimL_wl h] at this
theorem natNorm_own (d : Nat) {l : List Int} (h : WF l) (hl : l.length < 2 ^ 40) : CN 94 [.d (.sl (wc l))] [] (.own d (wl (wv l)).length 1) [(d, .row 1 (wc (wl (wv l))) false)] := by
  have h0 : CN 94 [.d (.sl (wc l))] [] (.own 10 (wl (wv l)).length 1) [(10, .row 1 (wc (wl (wv l))) false)] := by
    refine conF_of Go.Proofs.Tryz.func94 rfl (by kernel_rfl) trivial (Nat.le_of_ble_eq_true rfl) ?_
    refine .by _ ⟨trim_c l hl, ?_⟩
    have h1 := trimL_le l
    refine .new 10 _ _ rfl ⟨fresh_at 10 (trimL l) 0 (by omega), ?_⟩
    rw [← trimL_wl h]
    exact ⟨⟨by simp [wc]; rfl, trivial⟩, rfl⟩
  have := h0.ren (swp_swap 10 d)
  simp only [renAV.renAVs, renAV, renMem, renBlk, swp_a] at this
  exact this
theorem pow_mul_lt {a b : List Int} (ha : WF a) (hb : WF b) (n : Nat) (hn : a.length + b.length ≤ n) : wv a * wv b < 4294967296 ^ n := by
  have h1 := wv_lt ha
  have h2 := wv_lt hb
  have h3 : 4294967296 ^ a.length * 4294967296 ^ b.length ≤ 4294967296 ^ n := by rw [← Nat.pow_add]; exact pow_le hn
  have h4 : wv a * wv b ≤ wv a * 4294967296 ^ b.length := Nat.mul_le_mul_left _ (by omega)
  have h5 : wv a * 4294967296 ^ b.length < 4294967296 ^ a.length * 4294967296 ^ b.length := Nat.mul_lt_mul_of_pos_right h1 (Nat.pow_pos (by decide))
  omega
/-- prod.Mul. -/
theorem prodMul_c (a b : List Int) (ha : WF a) (hb : WF b) (la : a.length < 2 ^ 38) (lb : b.length < 2 ^ 38) : CN 64 [.d (wd a), .d (wd b)] [] (.d (wn (wv a * wv b))) [] := by
  refine con_of Go.Proofs.Tryz.func64 rfl (by kernel_rfl) (Nat.le_of_ble_eq_true rfl) ?_
  have e0 : IntKind.i64.wrap (IntKind.i64.wrap (((a.map fun x => [D.int .u32 x]).length : Int) + ((b.map fun x => [D.int .u32 x]).length : Int)) + 1) = ((a.length + b.length + 1 : Nat) : Int) := by
    rw [List.length_map, List.length_map, wrap64 (by rw [wrap64] <;> omega) (by rw [wrap64] <;> omega), wrap64 (by omega) (by omega)]
    rfl
  refine .of ⟨rfl, by rw [e0]; omega, by rw [e0]; show ((a.length + b.length + 1 : Nat) : Int) * 4 ≤ 140737488355328; omega, by rw [e0]; omega⟩ ?_
  refine .mk 0 (VLoop.mk Nat (fun i => frm 30 [.d (wd a), .d (wd b), .any, .any, .nils, .own 14 (a.length + b.length + 1) 1, .any, .any, .any, .any, .any, .any, .any, .any, .any, .d (wd b), i64 b.length, i64 i]) (fun i => [(14, .row 1 (wc (dw (a.length + b.length + 1) (wv a * wv (b.take i)))) false)])
      (fun i => i ≤ b.length) (fun i => b.length - i) 0 (Nat.zero_le _) ?_ ?_ ?_ ?_)
  · exact ⟨rfl, rfl, rfl, by rw [e0]; rfl, rfl, by rw [List.length_map], rfl, trivial⟩
  · refine ⟨?_, trivial⟩
    show some (Blk.row 1 (List.replicate _ _) false) = _
    rw [e0, Int.toNat_natCast]
    simp only [List.take_zero, wv, Nat.mul_zero, dw_zero, wc, List.map_replicate]
  · trivial
  · intro i hi
    have hbt : wv a * wv (b.take i) < 4294967296 ^ (i + a.length) := pow_mul_lt ha (hb.take i) _ (by rw [List.length_take]; omega)
    have hbt' : wv a * wv (b.take i) < 4294967296 ^ (a.length + b.length + 1) := Nat.lt_of_lt_of_le hbt (pow_le (by omega))
    refine .mk (fun h3 => ?_) (fun h3 => ?_)
    · have h3 : i < b.length := by simpa using h3
      have hxb := hb _ (List.getElem_mem h3)
      refine .mk (by show (0 : Int) ≤ (i : Int); omega) ⟨_, wd_get h3, ?_⟩
      have hr := prodRow_c 14 (dw (a.length + b.length + 1) (wv a * wv (b.take i))) a i (b[i]).toNat 0 (wv a * wv (b.take (i + 1))) (dw_WF _ _) ha (by omega) (by omega) (by rw [dw_len]; omega) (by rw [dw_len]; omega) (by
        rw [dw_get (by omega), Int.toNat_natCast, wv_dw hbt', Nat.div_eq_of_lt hbt, take_wv h3, Nat.mul_add, Nat.zero_mod, Nat.mul_zero, Nat.add_zero, Nat.add_zero]
        congr 1
        rw [← Nat.mul_assoc, ← Nat.mul_assoc, Nat.mul_comm (wv a)])
      rw [dw_len, u_toNat hxb.1] at hr
      refine .mk [(14, .row 1 (wc (dw (a.length + b.length + 1) (wv a * wv (b.take i)))) false)] (.tup []) [(14, .row 1 (wc (dw (a.length + b.length + 1) (wv a * wv (b.take (i + 1))))) false)] ⟨rfl, trivial⟩ rfl ⟨.inl (by simp [getM]), trivial⟩ (fun i h => h) (by simp [ids]) (by simp [ids]) ⟨hr, ?_⟩
      refine ⟨i + 1, h3, by omega, ⟨rfl, rfl, rfl, rfl, rfl, rfl, ?_, trivial⟩, ⟨rfl, trivial⟩, trivial⟩
      rw [wrap64 (by omega) (by omega)]
      rfl
    · have h3 : i = b.length := by
        have : ¬ ((i : Int) < (b.length : Int)) := by simpa using h3
        omega
      subst h3
      have hn := natNorm_w (dw_WF (a.length + b.length + 1) (wv a * wv (b.take b.length))) (by rw [dw_len]; omega)
      rw [wv_dw hbt'] at hn
      rw [List.take_length] at hn
      refine .by (.d (wn (wv a * wv b))) (.of ⟨by rw [wc_len, dw_len], rfl⟩ ⟨by rw [List.take_length]; exact hn, trivial, rfl⟩)
end Go.KM
end
section
/- Bits: how many a number has. -/
namespace RN
def bl (n : Nat) : Nat := if n = 0 then 0 else n.log2 + 1
theorem bl_le {n k : Nat} : bl n ≤ k ↔ n < 2 ^ k := by
  unfold bl
  split
  · rename_i h; subst h; simp [Nat.pow_pos]
  · rename_i h
    rw [← Nat.log2_lt h]
    omega
theorem bl_eq {n m : Nat} (h : ∀ k, n < 2 ^ k ↔ m < 2 ^ k) : bl n = bl m := by
  have h1 := bl_le.2 ((h (bl m)).2 (bl_le.1 (Nat.le_refl _)))
  have h2 := bl_le.2 ((h (bl n)).1 (bl_le.1 (Nat.le_refl _)))
  omega
theorem bl_zero : bl 0 = 0 := rfl
theorem bl_one : bl 1 = 1 := rfl
theorem lt_bl (n : Nat) : n < 2 ^ bl n := bl_le.1 (Nat.le_refl _)
theorem bl_pos {n : Nat} (h : n ≠ 0) : 0 < bl n := by
  unfold bl; rw [if_neg h]; omega
theorem bl_ge {n k : Nat} (h : 2 ^ k ≤ n) : k < bl n := by
  rcases Nat.lt_or_ge k (bl n) with h1 | h1
  · exact h1
  · have := bl_le.1 h1; omega
/-- The high part decides. -/
theorem bl_high {lo hi k : Nat} (hlo : lo < 2 ^ k) (hhi : hi ≠ 0) : bl (lo + 2 ^ k * hi) = k + bl hi := by
  refine Nat.le_antisymm (bl_le.2 ?_) ?_
  · have := lt_bl hi
    rw [Nat.pow_add]
    have h2 : 2 ^ k * (hi + 1) ≤ 2 ^ k * 2 ^ bl hi := Nat.mul_le_mul_left _ this
    rw [Nat.mul_add] at h2
    omega
  · have hb := bl_pos hhi
    have h3 : k + (bl hi - 1) < bl (lo + 2 ^ k * hi) := by
      refine bl_ge ?_
      have h4 : 2 ^ (bl hi - 1) ≤ hi := by
        rcases Nat.lt_or_ge hi (2 ^ (bl hi - 1)) with h | h
        · have := bl_le.2 h; omega
        · exact h
      rw [Nat.pow_add]
      have : 2 ^ k * 2 ^ (bl hi - 1) ≤ 2 ^ k * hi := Nat.mul_le_mul_left _ h4
      omega
    omega
theorem bl_shift {x k : Nat} (h : 2 ^ k ≤ x) : bl x = k + bl (x / 2 ^ k) := by
  have h0 : x / 2 ^ k ≠ 0 := by
    have := Nat.div_pos h (Nat.pow_pos (by decide))
    omega
  have := bl_high (Nat.mod_lt x (Nat.pow_pos (a := 2) (n := k) (by decide))) h0
  rwa [Nat.mod_add_div] at this
theorem bl_mono {a b : Nat} (h : a ≤ b) : bl a ≤ bl b := bl_le.2 (Nat.lt_of_le_of_lt h (lt_bl b))
theorem pow32 (k : Nat) : 4294967296 ^ k = 2 ^ (32 * k) := by rw [Nat.pow_mul]
theorem wl_getLast {n : Nat} (h : n ≠ 0) : 0 < (wl n).length ∧ ∃ h1 : (wl n).length - 1 < (wl n).length, (wl n)[(wl n).length - 1] ≠ 0 := by
  have hne : wl n ≠ [] := fun e => h (wl_nil.1 e)
  have hl : 0 < (wl n).length := List.length_pos_iff.2 hne
  refine ⟨hl, by omega, ?_⟩
  have := wl_Right n ((wl n)[(wl n).length - 1]) (by rw [List.getLast?_eq_getElem?]; exact List.getElem?_eq_getElem _)
  exact this
theorem wl_top {n : Nat} (h : n ≠ 0) (h1 : (wl n).length - 1 < (wl n).length) : bl n = 32 * ((wl n).length - 1) + bl ((wl n)[(wl n).length - 1]).toNat := by
  obtain ⟨h2, h3, h4⟩ := wl_getLast h
  have h5 := wv_split (wl n) ((wl n).length - 1) (by omega)
  have h6 := wv_lt ((wl_WF n).take ((wl n).length - 1))
  rw [List.length_take, Nat.min_eq_left (by omega)] at h6
  rw [List.drop_eq_getElem_cons h1, Nat.sub_add_cancel (by omega), List.drop_length, wv_wl] at h5
  have hw := wl_WF n _ (List.getElem_mem h1)
  simp only [wv, Nat.mul_zero, Nat.add_zero] at h5
  have h7 := bl_high (lo := wv ((wl n).take ((wl n).length - 1))) (k := 32 * ((wl n).length - 1)) (hi := ((wl n)[(wl n).length - 1]).toNat) (by rw [← pow32]; exact h6) (by omega)
  rw [← pow32, ← h5] at h7
  exact h7
end RN
end
section
/- Contracts: limb.Len, nat.Small, twos.Len. -/
namespace Go.KM
open Go RN

theorem shr32 (x k : Nat) (hk : k ≤ 32) : Int.fdiv (x : Int) (2 ^ min (Int.toNat (k : Int)) IntKind.u32.bits) = ((x / 2 ^ k : Nat) : Int) := by
  have : min (Int.toNat (k : Int)) IntKind.u32.bits = k := by show min _ 32 = k; omega
  rw [this, Int.fdiv_eq_ediv_of_nonneg _ (Int.pow_nonneg (by decide))]
  simp
theorem limbLen_c (x : Nat) (hx : x < 4294967296) : CN 157 [u x] [] (i64 (bl x)) [] := by
  refine con_of Go.Proofs.Tryz.func157 rfl (by kernel_rfl) (Nat.le_of_ble_eq_true rfl) ?_
  refine .mk 0 (VLoop.mk (Nat × Nat × Nat) (fun s => frm 23 [u s.2.2, .any, i64 0, i64 s.2.1, i64 (16 / 2 ^ s.1 : Nat)]) (fun _ => [])
    (fun s => s.1 ≤ 5 ∧ bl x = s.2.1 + bl s.2.2 ∧ s.2.2 < 2 ^ (32 / 2 ^ s.1)) (fun s => 5 - s.1) (0, 0, x) ⟨Nat.zero_le _, by simp, by simpa using hx⟩ ⟨rfl, rfl, rfl, by simp [i64], trivial⟩ trivial trivial ?_)
  rintro ⟨j, n, y⟩ ⟨q1, q2, q3⟩
  simp only at q1 q2 q3
  have hb : bl x ≤ 32 := bl_le.2 (by simpa using hx)
  have hy : y < 4294967296 := Nat.lt_of_lt_of_le q3 (by
    have : 32 / 2 ^ j ≤ 32 := Nat.div_le_self _ _
    exact Nat.le_trans (Nat.pow_le_pow_right (by decide) this) (by decide))
  refine .mk (fun h1 => ?_) (fun h1 => ?_)
  · have h1 : 0 < 16 / 2 ^ j := by
      have : (0 : Int) < ((16 / 2 ^ j : Nat) : Int) := of_decide_eq_true h1
      omega
    have h5 : j < 5 := by
      rcases Nat.lt_or_ge j 5 with h | h
      · exact h
      · have : j = 5 := by omega
        subst this; simp at h1
    have e16 : 16 / 2 ^ j = 32 / 2 ^ (j + 1) := by rw [Nat.pow_succ, Nat.mul_comm, ← Nat.div_div_eq_div_mul]
    have e32 : 32 / 2 ^ j = 16 / 2 ^ j + 16 / 2 ^ j := by
      have : j = 0 ∨ j = 1 ∨ j = 2 ∨ j = 3 ∨ j = 4 := by omega
      rcases this with rfl | rfl | rfl | rfl | rfl <;> decide
    have enext : 16 / 2 ^ j / 2 = 16 / 2 ^ (j + 1) := by rw [Nat.pow_succ, Nat.div_div_eq_div_mul]
    have hle : 16 / 2 ^ j ≤ 16 := Nat.div_le_self _ _
    have hs := shr32 y (16 / 2 ^ j) (by omega)
    have hstep : AV.d (.int .i64 (IntKind.i64.wrap (Int.tdiv ((16 / 2 ^ j : Nat) : Int) 2))) = i64 ((16 / 2 ^ (j + 1) : Nat) : Int) := by
      rw [← enext, show Int.tdiv ((16 / 2 ^ j : Nat) : Int) 2 = ((16 / 2 ^ j / 2 : Nat) : Int) from rfl, wrap64 (by omega) (by omega)]
      rfl
    refine .of (by show (0 : Int) ≤ ((16 / 2 ^ j : Nat) : Int); omega) ?_
    refine .mk (fun h2 => ?_) (fun h2 => ?_)
    · have h2 : y / 2 ^ (16 / 2 ^ j) ≠ 0 := by
        rw [hs] at h2
        generalize y / 2 ^ (16 / 2 ^ j) = z at h2
        simpa using h2
      refine .of (by show (0 : Int) ≤ ((16 / 2 ^ j : Nat) : Int); omega) ?_
      refine .of (by decide) ?_
      have hge : 2 ^ (16 / 2 ^ j) ≤ y := by
        rcases Nat.lt_or_ge y (2 ^ (16 / 2 ^ j)) with h | h
        · exact absurd (Nat.div_eq_of_lt h) h2
        · exact h
      have hbl := bl_shift hge
      refine ⟨(j + 1, n + 16 / 2 ^ j, y / 2 ^ (16 / 2 ^ j)), ⟨by omega, by show bl x = n + 16 / 2 ^ j + bl (y / 2 ^ (16 / 2 ^ j)); omega, ?_⟩, by show 5 - (j + 1) < 5 - j; omega, ⟨?_, rfl, ?_, hstep, trivial⟩, trivial, trivial⟩
      · show y / 2 ^ (16 / 2 ^ j) < 2 ^ (32 / 2 ^ (j + 1))
        rw [← e16]
        refine Nat.div_lt_of_lt_mul ?_
        rw [← Nat.pow_add, ← e32]
        exact q3
      · exact u_eq hs
      · show AV.d (.int .i64 (IntKind.i64.wrap ((n : Int) + ((16 / 2 ^ j : Nat) : Int)))) = i64 ((n + 16 / 2 ^ j : Nat) : Int)
        rw [wrap64 (by omega) (by omega)]
        rfl
    · have h2 : y / 2 ^ (16 / 2 ^ j) = 0 := by
        rw [hs] at h2
        generalize y / 2 ^ (16 / 2 ^ j) = z at h2
        simpa using h2
      refine .of (by decide) ?_
      refine ⟨(j + 1, n, y), ⟨by omega, q2, ?_⟩, by show 5 - (j + 1) < 5 - j; omega, ⟨rfl, rfl, rfl, hstep, trivial⟩, trivial, trivial⟩
      show y < 2 ^ (32 / 2 ^ (j + 1))
      rw [← e16]
      rcases Nat.lt_or_ge y (2 ^ (16 / 2 ^ j)) with h | h
      · exact h
      · have := Nat.div_pos h (Nat.pow_pos (by decide))
        omega
  · have h1 : 16 / 2 ^ j = 0 := by
      have : ¬ ((0 : Int) < ((16 / 2 ^ j : Nat) : Int)) := of_decide_eq_false h1
      exact Nat.eq_zero_of_not_pos (fun h => this (Int.ofNat_lt.2 h))
    have h5 : j = 5 := by
      rcases Nat.lt_or_ge j 5 with h | h
      · have : j = 0 ∨ j = 1 ∨ j = 2 ∨ j = 3 ∨ j = 4 := by omega
        rcases this with rfl | rfl | rfl | rfl | rfl <;> simp at h1
      · omega
    subst h5
    have q3 : y < 2 := by simpa using q3
    have hbl : bl y = y := by
      rcases (by omega : y = 0 ∨ y = 1) with rfl | rfl <;> rfl
    refine ⟨trivial, ?_⟩
    show AV.d (.int .i64 (IntKind.i64.wrap ((n : Int) + IntKind.i64.wrap (y : Int)))) = i64 (bl x)
    rw [wrap64 (x := (y : Int)) (by omega) (by omega), wrap64 (by omega) (by omega), q2, hbl]
    rfl

theorem blen_le {a : List Int} (ha : WF a) {k : Nat} (h : a.length ≤ k) : bl (wv a) ≤ 32 * k := bl_le.2 (by
  rw [← pow32]
  exact Nat.lt_of_lt_of_le (wv_lt ha) (pow_le h))
/-- twos.Len. -/
theorem twosLen_c (a : List Int) (ha : WF a) (la : a.length < 2 ^ 40) : CN 154 [.d (wd a)] [] (i64 (bl (wv a))) [] := by
  refine con_of Go.Proofs.Tryz.func154 rfl (by kernel_rfl) (Nat.le_of_ble_eq_true rfl) ?_
  refine .by _ ⟨natNorm_w ha la, ?_⟩
  have l1 : (wl (wv a)).length ≤ a.length := wl_len_wv ha
  generalize wv a = A at *
  refine .mk (fun h1 => ?_) (fun h1 => ?_)
  · have h1 : A = 0 := by
      have : ((wl A).length : Int) = 0 := by simpa using h1
      exact wl_nil.1 (List.length_eq_zero_iff.1 (by omega))
    subst h1
    exact ⟨trivial, rfl⟩
  · have h1 : A ≠ 0 := by
      rintro rfl
      rw [wl_zero] at h1
      simp at h1
    obtain ⟨h2, h3, h4⟩ := wl_getLast h1
    have hw := wl_WF A _ (List.getElem_mem h3)
    have e : IntKind.i64.wrap ((((wl A).map fun x => [D.int .u32 x]).length : Int) - 1) = (((wl A).length - 1 : Nat) : Int) := by
      rw [List.length_map, wrap64 (by omega) (by omega)]
      omega
    refine .mk (by rw [e]; omega) ⟨_, by rw [e, Int.toNat_natCast]; exact wd_get h3, ?_⟩
    have hc := limbLen_c ((wl A)[(wl A).length - 1]).toNat (by omega)
    rw [u_toNat hw.1] at hc
    refine .by _ ⟨hc, trivial, ?_⟩
    have hb : bl ((wl A)[(wl A).length - 1]).toNat ≤ 32 := bl_le.2 (by omega)
    show AV.d (.int .i64 (IntKind.i64.wrap (IntKind.i64.wrap (32 * IntKind.i64.wrap _) + _))) = _
    rw [e, wrap64 (x := 32 * _) (by omega) (by omega), wrap64 (by omega) (by omega), wl_top h1 h3]
    rfl
end Go.KM
end
section
/- Contracts: nat.Small, twos.Up, twos.Down. -/
namespace Go.KM
open Go RN

theorem or64 {a b k : Nat} (ha : a < 2 ^ k) (h : a + b * 2 ^ k < 18446744073709551616) :
    IntKind.u64.wrap (BitVec.ofInt IntKind.u64.bits (a : Int) ||| BitVec.ofInt IntKind.u64.bits ((b * 2 ^ k : Nat) : Int)).toNat = ((a + b * 2 ^ k : Nat) : Int) := by
  show IntKind.u64.wrap (BitVec.ofInt 64 (a : Int) ||| BitVec.ofInt 64 ((b * 2 ^ k : Nat) : Int)).toNat = _
  have h1 : (BitVec.ofInt 64 (a : Int)).toNat = a := by
    rw [BitVec.toNat_ofInt]; simp; omega
  have h2 : (BitVec.ofInt 64 ((b * 2 ^ k : Nat) : Int)).toNat = b * 2 ^ k := by
    rw [BitVec.toNat_ofInt]
    generalize b * 2 ^ k = m at *
    simp; omega
  rw [BitVec.toNat_or, h1, h2, wrapU64]
  have h3 : a ||| b * 2 ^ k = a + b * 2 ^ k := by
    have := Nat.two_pow_add_eq_or_of_lt ha b
    rw [Nat.or_comm, Nat.mul_comm, ← this, Nat.add_comm]
  rw [h3]
  omega
theorem shlU64 (x k : Nat) (hk : k ≤ 63) : IntKind.u64.wrap (IntKind.u64.wrap (x : Int) * 2 ^ min (Int.toNat (k : Int)) IntKind.u64.bits) = ((x * 2 ^ k % 18446744073709551616 : Nat) : Int) := by
  have : min (Int.toNat (k : Int)) IntKind.u64.bits = k := by show min _ 64 = k; omega
  rw [this, wrapU64, wrapU64]
  have e : (2 : Int) ^ k = ((2 ^ k : Nat) : Int) := by simp
  rw [e, Int.mul_emod, Int.emod_emod, ← Int.mul_emod]
  generalize 2 ^ k = m
  rw [← Int.natCast_mul]
  omega

/-- nat.Small. -/
theorem natSmall_c (a : List Int) (ha : WF a) (la : a.length < 2 ^ 40) (h : wv a < 18446744073709551616) : CN 155 [.d (wd a)] [] (.tup [.d (.int .u64 (wv a)), .d (.bool true)]) [] := by
  refine con_of Go.Proofs.Tryz.func155 rfl (by kernel_rfl) (Nat.le_of_ble_eq_true rfl) ?_
  refine .by _ ⟨natTrim_c ha la, ?_⟩
  generalize wv a = A at *
  have hl : (wl A).length ≤ 2 := wl_len (m := 2) (by omega)
  refine .no (by simp; omega) ?_
  refine .mk 0 (VLoop.mk Nat (fun i => frm 28 [.d (wn A), .any, .d (.int .u64 0), .d (.bool false), .d (.int .u64 (wv ((wl A).take i))), .any, .any, .any, .any, .any, .any, .any, .d (wn A), i64 (wl A).length, i64 i]) (fun _ => [])
    (fun i => i ≤ (wl A).length) (fun i => (wl A).length - i) 0 (Nat.zero_le _) ⟨rfl, rfl, rfl, by simp [wv], rfl, by rw [List.length_map], rfl, trivial⟩ trivial trivial ?_)
  intro i hi
  refine .mk (fun h3 => ?_) (fun h3 => ?_)
  · have h3 : i < (wl A).length := by simpa using h3
    have hw := wl_WF A _ (List.getElem_mem h3)
    refine .mk (by show (0 : Int) ≤ (i : Int); omega) ⟨_, wd_get h3, ?_⟩
    have e1 : IntKind.i64.wrap (32 * (i : Int)) = ((32 * i : Nat) : Int) := by rw [wrap64 (by omega) (by omega)]; omega
    refine .of (by rw [e1]; omega) ?_
    refine ⟨i + 1, h3, by omega, ⟨rfl, rfl, rfl, ?_, rfl, rfl, ?_, trivial⟩, trivial, trivial⟩
    · show AV.d (.int .u64 (IntKind.u64.wrap _)) = _
      have hx : ((wl A)[i] : Int) = (((wl A)[i]).toNat : Int) := by omega
      have hlt := wv_lt ((wl_WF A).take i)
      rw [List.length_take, Nat.min_eq_left (by omega), pow32] at hlt
      have hsum := take_wv h3
      have hle : wv ((wl A).take (i + 1)) < 18446744073709551616 := by
        have := wv_lt ((wl_WF A).take (i + 1))
        rw [List.length_take, Nat.min_eq_left (by omega)] at this
        have h4 : 4294967296 ^ (i + 1) ≤ 4294967296 ^ 2 := pow_le (by omega)
        omega
      have hsum2 : wv ((wl A).take (i + 1)) = wv ((wl A).take i) + ((wl A)[i]).toNat * 2 ^ (32 * i) := by rw [hsum, pow32, Nat.mul_comm]
      rw [e1]
      have hx2 : ((wl A)[((i : Nat) : Int).toNat]?) = some ((wl A)[i]) := by simp
      rw [hx, shlU64 _ _ (by omega), Nat.mod_eq_of_lt (by omega), or64 hlt (by omega), ← hsum2]
    · rw [wrap64 (by omega) (by omega)]
      rfl
  · have h3 : i = (wl A).length := by
      have : ¬ ((i : Int) < ((wl A).length : Int)) := by simpa using h3
      omega
    subst h3
    refine ⟨trivial, tup2 ?_ rfl⟩
    rw [List.take_length, wv_wl]
end Go.KM
namespace Go.KM
open Go RN
theorem or32' {a b k : Nat} (ha : a < 2 ^ k) (h : a + b * 2 ^ k < 4294967296) :
    IntKind.u32.wrap (BitVec.ofInt IntKind.u32.bits (a : Int) ||| BitVec.ofInt IntKind.u32.bits ((b * 2 ^ k : Nat) : Int)).toNat = ((a + b * 2 ^ k : Nat) : Int) := by
  show IntKind.u32.wrap (BitVec.ofInt 32 (a : Int) ||| BitVec.ofInt 32 ((b * 2 ^ k : Nat) : Int)).toNat = _
  have h1 : (BitVec.ofInt 32 (a : Int)).toNat = a := by
    rw [BitVec.toNat_ofInt]; simp; omega
  have h2 : (BitVec.ofInt 32 ((b * 2 ^ k : Nat) : Int)).toNat = b * 2 ^ k := by
    rw [BitVec.toNat_ofInt]
    generalize b * 2 ^ k = m at *
    simp; omega
  rw [BitVec.toNat_or, h1, h2, wrap32]
  have h3 : a ||| b * 2 ^ k = a + b * 2 ^ k := by
    have := Nat.two_pow_add_eq_or_of_lt ha b
    rw [Nat.or_comm, Nat.mul_comm, ← this, Nat.add_comm]
  rw [h3]
  omega
theorem low_shift {x b : Nat} (hb : b ≤ 32) : x * 2 ^ b % 4294967296 = (x % 2 ^ (32 - b)) * 2 ^ b := by
  have : (4294967296 : Nat) = 2 ^ (32 - b) * 2 ^ b := by rw [← Nat.pow_add, Nat.sub_add_cancel hb]
  rw [this, Nat.mul_mod_mul_right]
/-- One word more is shifted. -/
theorem up_step {a : List Int} {i W b M V x o : Nat} (ha : WF a) (hi : i < a.length) (hb : b < 32) (hM : W + i + 1 < M)
    (eV2 : V = wv (a.take i) * 2 ^ (32 * W + b)) (ex : x = (a[i]).toNat) (eo : o = V / 4294967296 ^ (W + i) % 4294967296) :
    o < 2 ^ b ∧ o + x * 2 ^ b % 4294967296 < 4294967296 ∧ x * 2 ^ b < 18446744073709551616 ∧
    ((dw M V).set (W + i) ((o + x * 2 ^ b % 4294967296 : Nat) : Int)).set (W + i + 1) ((x * 2 ^ b / 4294967296 : Nat) : Int) = dw M (wv (a.take (i + 1)) * 2 ^ (32 * W + b)) := by
  have hlt := wv_lt (ha.take i)
  rw [List.length_take, Nat.min_eq_left (by omega)] at hlt
  have hx : x < 4294967296 := by have := ha _ (List.getElem_mem hi); omega
  have hP : 0 < 2 ^ b := Nat.pow_pos (by decide)
  have hP2 : 2 ^ b ≤ 2147483648 := by
    have : 2 ^ b ≤ 2 ^ 31 := Nat.pow_le_pow_right (by decide) (by omega)
    omega
  have eV : V = wv (a.take i) * 2 ^ b * 4294967296 ^ W := by
    rw [eV2, Nat.pow_add, ← pow32, Nat.mul_assoc, Nat.mul_comm (4294967296 ^ W)]
  have hq : V / 4294967296 ^ (W + i) < 2 ^ b := by
    refine Nat.div_lt_of_lt_mul ?_
    rw [eV, Nat.pow_add, Nat.mul_comm, Nat.mul_assoc]
    refine Nat.mul_lt_mul_of_pos_left ?_ (Nat.pow_pos (by decide))
    exact Nat.mul_lt_mul_of_pos_right hlt hP
  have ho : o = V / 4294967296 ^ (W + i) := by rw [eo, Nat.mod_eq_of_lt (by omega)]
  have ho2 : o < 2 ^ b := by omega
  have hsum : o + x * 2 ^ b % 4294967296 < 4294967296 := by
    have e1 : (4294967296 : Nat) = 2 ^ (32 - b) * 2 ^ b := by rw [← Nat.pow_add, Nat.sub_add_cancel (by omega)]
    rw [low_shift (by omega)]
    have h1 : x % 2 ^ (32 - b) + 1 ≤ 2 ^ (32 - b) := Nat.mod_lt _ (Nat.pow_pos (by decide))
    have h2 := Nat.mul_le_mul_right (2 ^ b) h1
    rw [← e1, Nat.add_mul] at h2
    omega
  have hxb : x * 2 ^ b < 18446744073709551616 := by
    have : x * 2 ^ b ≤ 4294967295 * 2147483648 := Nat.mul_le_mul (by omega) hP2
    omega
  have hVM : V < 4294967296 ^ (W + i + 1) := by
    rw [Nat.pow_succ]
    have h1 := Nat.lt_mul_div_succ V (Nat.pow_pos (n := W + i) (show 0 < 4294967296 by decide))
    have h2 : 4294967296 ^ (W + i) * (V / 4294967296 ^ (W + i) + 1) ≤ 4294967296 ^ (W + i) * 4294967296 := Nat.mul_le_mul_left _ (by omega)
    omega
  refine ⟨ho2, hsum, hxb, ?_⟩
  have hl1 : W + i < (dw M V).length := by rw [dw_len]; omega
  have hl2 : W + i + 1 < ((dw M V).set (W + i) ((o + x * 2 ^ b % 4294967296 : Nat) : Int)).length := by rw [List.length_set, dw_len]; omega
  have s1 := wv_set hl1 ((o + x * 2 ^ b % 4294967296 : Nat) : Int)
  have s2 := wv_set hl2 ((x * 2 ^ b / 4294967296 : Nat) : Int)
  have g1 : (dw M V)[W + i] = (o : Int) := by
    have := dw_get (V := V) (show W + i < M by omega)
    rw [List.getD_eq_getElem?_getD, List.getElem?_eq_getElem hl1, ← eo] at this
    exact this
  have g2 : ((dw M V).set (W + i) ((o + x * 2 ^ b % 4294967296 : Nat) : Int))[W + i + 1] = 0 := by
    rw [List.getElem_set_ne (by omega)]
    have := dw_get (V := V) (show W + i + 1 < M by omega)
    rw [List.getD_eq_getElem?_getD, List.getElem?_eq_getElem (by rw [dw_len]; omega), Nat.div_eq_of_lt hVM] at this
    exact this
  refine eq_dw (WF.set (WF.set (dw_WF _ _) _ (by omega) (by omega)) _ (by omega) (by omega)) (by simp [dw_len]) ?_
  rw [wv_dw (Nat.lt_of_lt_of_le hVM (pow_le (by omega))), g1] at s1
  rw [g2] at s2
  simp only [Int.toNat_natCast] at s1 s2
  have e3 : wv (a.take (i + 1)) = wv (a.take i) + 4294967296 ^ i * x := by rw [ex]; exact take_wv hi
  rw [e3, Nat.add_mul]
  have e4 : 4294967296 ^ i * x * 2 ^ (32 * W + b) = 4294967296 ^ (W + i) * (x * 2 ^ b) := by
    rw [Nat.pow_add, ← pow32, Nat.pow_add]
    generalize 4294967296 ^ i = P1
    generalize 4294967296 ^ W = P2
    generalize 2 ^ b = P3
    ac_rfl
  rw [e4]
  have e5 := Nat.div_add_mod (x * 2 ^ b) 4294967296
  have e6 := congrArg (4294967296 ^ (W + i) * ·) e5
  simp only [Nat.mul_add] at e6 s1
  rw [Nat.pow_succ] at s2
  have e7 : 4294967296 ^ (W + i) * (4294967296 * (x * 2 ^ b / 4294967296)) = 4294967296 ^ (W + i) * 4294967296 * (x * 2 ^ b / 4294967296) := by rw [Nat.mul_assoc]
  rw [e7] at e6
  rw [← eV2]
  rw [show Int.toNat 0 = 0 from rfl, Nat.mul_zero, Nat.add_zero] at s2
  generalize 4294967296 ^ (W + i) * 4294967296 * (x * 2 ^ b / 4294967296) = Z1 at *
  generalize 4294967296 ^ (W + i) * (x * 2 ^ b % 4294967296) = Z2 at *
  generalize 4294967296 ^ (W + i) * (x * 2 ^ b) = Z3 at *
  generalize 4294967296 ^ (W + i) * o = Z4 at *
  clear e7 hxb hq hVM hP2 hlt hx hsum ho2 ho eo e5 g1 g2 eV e3 e4 eV2
  omega
theorem dw_getElem {n V i : Nat} (h : i < (dw n V).length) : (dw n V)[i] = ((V / 4294967296 ^ i % 4294967296 : Nat) : Int) := by
  have := dw_get (V := V) (show i < n by rw [dw_len] at h; exact h)
  rw [List.getD_eq_getElem?_getD, List.getElem?_eq_getElem h] at this
  exact this
theorem maxmin_id {n : Nat} (h : n ≤ 4096) : (if (4096 : Int) < (if (0 : Int) > (n : Int) then 0 else (n : Int)) then 4096 else (if (0 : Int) > (n : Int) then 0 else (n : Int))) = (n : Int) := by
  rw [if_neg (show ¬ (0 : Int) > (n : Int) by omega), if_neg (by omega)]
/-- twos.Up. -/
theorem twosUp_40 (a : List Int) (n : Nat) (ha : WF a) (la : a.length < 2 ^ 38) (hn : n ≤ 4096) : CN 158 [.d (wd a), i64 n] [] (.own 40 (wl (wv a * 2 ^ n)).length 1) [(40, .row 1 (wc (wl (wv a * 2 ^ n))) false)] := by
  refine conF_of Go.Proofs.Tryz.func158 rfl (by kernel_rfl) trivial (Nat.le_of_ble_eq_true rfl) ?_
  have en := maxmin_id hn
  have ew : IntKind.i64.wrap (Int.tdiv (n : Int) 32) = ((n / 32 : Nat) : Int) := by
    rw [show Int.tdiv (n : Int) 32 = ((n / 32 : Nat) : Int) from rfl, wrap64 (by omega) (by omega)]
  have eb : Int.tmod (n : Int) 32 = ((n % 32 : Nat) : Int) := rfl
  have e32 : 32 * (n / 32) + n % 32 = n := Nat.div_add_mod n 32
  have e0 : IntKind.i64.wrap (IntKind.i64.wrap (((n / 32 : Nat) : Int) + ((a.map fun x => [D.int .u32 x]).length : Int)) + 1) = ((n / 32 + a.length + 1 : Nat) : Int) := by
    rw [List.length_map, wrap64 (x := ((n / 32 : Nat) : Int) + _) (by omega) (by omega), wrap64 (by omega) (by omega)]
    rfl
  refine .of (by decide) ?_
  refine .of (by decide) ?_
  refine .of ⟨rfl, by rw [en, ew, e0]; exact Int.natCast_nonneg _, by rw [en, ew, e0]; show ((n / 32 + a.length + 1 : Nat) : Int) * 4 ≤ 140737488355328; omega, by rw [en, ew, e0]; omega⟩ ?_
  refine .mk 0 (VLoop.mk Nat (fun i => frm 57 [.d (wd a), .any, .any, .any, .nils, i64 (n / 32 : Nat), i64 (n % 32 : Nat), .own 23 (n / 32 + a.length + 1) 1, .any, .any, .any, .any, .any, .any, .any, .any, .any, .any, .any, .any, .any, .any, .any, .any, .d (wd a), i64 a.length, i64 i]) (fun i => [(23, .row 1 (wc (dw (n / 32 + a.length + 1) (wv (a.take i) * 2 ^ n))) false)])
      (fun i => i ≤ a.length) (fun i => a.length - i) 0 (Nat.zero_le _) ?_ ?_ ?_ ?_)
  · exact ⟨rfl, rfl, by rw [en, ew], by rw [en, eb], by rw [en, ew, e0]; rfl, rfl, by rw [List.length_map], rfl, trivial⟩
  · refine ⟨?_, trivial⟩
    show some (Blk.row 1 (List.replicate _ _) false) = _
    rw [en, ew, e0, Int.toNat_natCast]
    simp only [List.take_zero, wv, Nat.zero_mul, dw_zero, wc, List.map_replicate]
  · trivial
  · intro i hi
    refine .mk (fun h3 => ?_) (fun h3 => ?_)
    · have h3 : i < a.length := by simpa using h3
      have hxa := ha _ (List.getElem_mem h3)
      obtain ⟨s1, s2, s3, s4⟩ := up_step (W := n / 32) (b := n % 32) (M := n / 32 + a.length + 1) ha h3 (Nat.mod_lt _ (by decide)) (by omega) rfl rfl rfl
      rw [e32] at s1 s2 s4
      have e1 : IntKind.i64.wrap (((n / 32 : Nat) : Int) + (i : Int)) = ((n / 32 + i : Nat) : Int) := by rw [wrap64 (by omega) (by omega)]; rfl
      have e2 : IntKind.i64.wrap (((n / 32 + i : Nat) : Int) + 1) = ((n / 32 + i + 1 : Nat) : Int) := by rw [wrap64 (by omega) (by omega)]; rfl
      have hx : ((a[i]) : Int) = ((a[i]).toNat : Int) := by omega
      have ewide : IntKind.u64.wrap (IntKind.u64.wrap (a[i]) * 2 ^ min (Int.toNat ((n % 32 : Nat) : Int)) IntKind.u64.bits) = (((a[i]).toNat * 2 ^ (n % 32) : Nat) : Int) := by
        rw [hx, shlU64 _ _ (by omega)]
        simp only [Int.toNat_natCast]
        rw [Nat.mod_eq_of_lt s3]
      have hk : n / 32 + i < (dw (n / 32 + a.length + 1) (wv (a.take i) * 2 ^ n)).length := by rw [dw_len]; omega
      refine .mk (by show (0 : Int) ≤ (i : Int); omega) ⟨_, wd_get h3, ?_⟩
      refine .of (by show (0 : Int) ≤ ((n % 32 : Nat) : Int); omega) ?_
      refine .of ⟨by rw [e1]; omega, by rw [e1]; omega⟩ ?_
      refine .of (by rw [wc_len, dw_len]) ?_
      refine .mk (by rw [e1]; omega) ⟨_, by rw [e1, Int.toNat_natCast, Int.toNat_natCast]; exact wc_get hk, ?_⟩
      refine .of ⟨by rw [e1]; omega, by rw [e1]; omega⟩ ?_
      refine .of ⟨by rw [wc_len, dw_len], rfl, rfl, by rw [e1]; omega⟩ ?_
      refine .of (by decide) ?_
      refine .of ⟨by rw [e1, e2]; omega, by rw [e1, e2]; omega⟩ ?_
      refine .of ⟨by rw [List.length_set, wc_len, dw_len], rfl, rfl, by rw [e1, e2]; omega⟩ ?_
      refine ⟨i + 1, h3, by omega, ⟨rfl, rfl, rfl, rfl, rfl, rfl, rfl, ?_, trivial⟩, ⟨?_, trivial⟩, trivial⟩
      · rw [wrap64 (by omega) (by omega)]
        rfl
      · show some (Blk.row 1 (((wc _).set _ _).set _ _) false) = _
        have g1 := dw_getElem hk
        have ehi : IntKind.u32.wrap (Int.fdiv (((a[i]).toNat * 2 ^ (n % 32) : Nat) : Int) (2 ^ min (Int.toNat 32) IntKind.u64.bits)) = (((a[i]).toNat * 2 ^ (n % 32) / 4294967296 : Nat) : Int) := by
          generalize (a[i]).toNat * 2 ^ (n % 32) = z at *
          show IntKind.u32.wrap (Int.fdiv (z : Int) 4294967296) = _
          rw [wrap32, Int.fdiv_eq_ediv_of_nonneg _ (by decide)]
          omega
        have elo : IntKind.u32.wrap (((a[i]).toNat * 2 ^ (n % 32) : Nat) : Int) = (((a[i]).toNat % 2 ^ (32 - n % 32) * 2 ^ (n % 32) : Nat) : Int) := by
          rw [← low_shift (by omega)]
          generalize (a[i]).toNat * 2 ^ (n % 32) = z at *
          rw [wrap32]
          omega
        rw [low_shift (by omega)] at s2 s4
        rw [e1, e2, ewide, g1, ehi, elo, or32' s1 s2, Int.toNat_natCast, Int.toNat_natCast, wc_set, wc_set, s4]
    · have h3 : i = a.length := by
        have : ¬ ((i : Int) < (a.length : Int)) := by simpa using h3
        omega
      subst h3
      have hlt : wv a * 2 ^ n < 4294967296 ^ (n / 32 + a.length + 1) := by
        have h1 := wv_lt ha
        have h2 : 2 ^ n < 4294967296 ^ (n / 32 + 1) := by rw [pow32]; exact Nat.pow_lt_pow_right (by decide) (by omega)
        have h3 : wv a * 2 ^ n ≤ wv a * 4294967296 ^ (n / 32 + 1) := Nat.mul_le_mul_left _ (by omega)
        have h4 : wv a * 4294967296 ^ (n / 32 + 1) < 4294967296 ^ a.length * 4294967296 ^ (n / 32 + 1) := Nat.mul_lt_mul_of_pos_right h1 (Nat.pow_pos (by decide))
        rw [← Nat.pow_add] at h4
        have h5 : 4294967296 ^ (a.length + (n / 32 + 1)) = 4294967296 ^ (n / 32 + a.length + 1) := by congr 1; omega
        omega
      have hn := natNorm_own 40 (dw_WF (n / 32 + a.length + 1) (wv a * 2 ^ n)) (by rw [dw_len]; omega)
      rw [wv_dw hlt] at hn
      refine .new 40 (.row 1 (wc (wl (wv a * 2 ^ n))) false) (.own 40 (wl (wv a * 2 ^ n)).length 1) rfl (.of ⟨by rw [wc_len, dw_len], rfl⟩ ⟨by rw [List.take_length]; exact hn, ⟨rfl, trivial⟩, rfl⟩)
theorem twosUp_own (d : Nat) (a : List Int) (n : Nat) (ha : WF a) (la : a.length < 2 ^ 38) (hn : n ≤ 4096) : CN 158 [.d (wd a), i64 n] [] (.own d (wl (wv a * 2 ^ n)).length 1) [(d, .row 1 (wc (wl (wv a * 2 ^ n))) false)] := by
  have := (twosUp_40 a n ha la hn).ren (swp_swap 40 d)
  simp only [renAV.renAVs, renAV, renMem, renBlk, swp_a, i64] at this
  exact this
theorem twosUp_c (a : List Int) (n : Nat) (ha : WF a) (la : a.length < 2 ^ 38) (hn : n ≤ 4096) : CN 158 [.d (wd a), i64 n] [] (.d (wn (wv a * 2 ^ n))) [] :=
  (twosUp_40 a n ha la hn).lend (wc_len _)
end Go.KM
end
section
/- Contracts: twos.Down. -/
namespace Go.KM
open Go RN

/-- The words of what is shifted down. -/
theorem down_word {a : List Int} {W b i : Nat} (ha : WF a) (hb : b < 32) (hi : W + i < a.length) :
    wv a / 2 ^ (32 * W + b) / 4294967296 ^ i % 4294967296 = ((a[W + i]).toNat + (a.getD (W + i + 1) 0).toNat * 4294967296) / 2 ^ b % 4294967296 := by
  have h1 := wv_drop ha (W + i)
  have e1 : wv a / 2 ^ (32 * W + b) / 4294967296 ^ i = wv (a.drop (W + i)) / 2 ^ b := by
    rw [h1, Nat.div_div_eq_div_mul, Nat.div_div_eq_div_mul]
    congr 1
    rw [Nat.pow_add, ← pow32, Nat.pow_add]
    ac_rfl
  rw [e1, List.drop_eq_getElem_cons hi, wv]
  have e2 : wv (a.drop (W + i + 1)) = (a.getD (W + i + 1) 0).toNat + 4294967296 * wv (a.drop (W + i + 2)) := by
    rcases Nat.lt_or_ge (W + i + 1) a.length with h | h
    · rw [List.drop_eq_getElem_cons h, wv, List.getD_eq_getElem?_getD, List.getElem?_eq_getElem h]
      rfl
    · rw [List.drop_eq_nil_of_le h, List.drop_eq_nil_of_le (by omega), List.getD_eq_getElem?_getD, List.getElem?_eq_none h]
      rfl
  rw [e2]
  generalize (a[W + i]).toNat = x
  generalize (a.getD (W + i + 1) 0).toNat = y
  generalize wv (a.drop (W + i + 2)) = r
  have e3 : x + 4294967296 * (y + 4294967296 * r) = (x + y * 4294967296) + 2 ^ b * (4294967296 * (2 ^ (32 - b) * r)) := by
    have : (4294967296 : Nat) = 2 ^ b * 2 ^ (32 - b) := by rw [← Nat.pow_add, Nat.add_sub_cancel' (by omega)]
    generalize 2 ^ b = P at *
    generalize 2 ^ (32 - b) = Q at *
    rw [this]
    grind
  rw [e3, Nat.add_mul_div_left _ _ (Nat.pow_pos (by decide)), Nat.add_mul_mod_self_left]
theorem ltd {a b : Nat} (h : decide ((a : Int) < (b : Int)) = true) : a < b := Int.ofNat_lt.1 (of_decide_eq_true h)
theorem ltd' {a b : Nat} (h : decide ((a : Int) < (b : Int)) = false) : b ≤ a := Nat.le_of_not_lt fun k => of_decide_eq_false h (Int.ofNat_lt.2 k)
theorem ged {a b : Nat} (h : decide ((a : Int) ≥ (b : Int)) = true) : b ≤ a := Int.ofNat_le.1 (of_decide_eq_true h)
theorem ged' {a b : Nat} (h : decide ((a : Int) ≥ (b : Int)) = false) : a < b := Nat.lt_of_not_le fun k => of_decide_eq_false h (Int.ofNat_le.2 k)
theorem max_id {n : Nat} : (if (0 : Int) > (n : Int) then 0 else (n : Int)) = (n : Int) := if_neg (by omega)
theorem down_set {M Q i : Nat} (hi : i < M) : (dw M (Q % 4294967296 ^ i)).set i ((Q / 4294967296 ^ i % 4294967296 : Nat) : Int) = dw M (Q % 4294967296 ^ (i + 1)) := by
  have hlt : Q % 4294967296 ^ i < 4294967296 ^ i := Nat.mod_lt _ (Nat.pow_pos (by decide))
  have hl : i < (dw M (Q % 4294967296 ^ i)).length := by rw [dw_len]; exact hi
  have s := wv_set hl ((Q / 4294967296 ^ i % 4294967296 : Nat) : Int)
  rw [wv_dw (Nat.lt_of_lt_of_le hlt (pow_le (Nat.le_of_lt hi))), dw_getElem, Nat.div_eq_of_lt hlt, Int.toNat_natCast, Int.toNat_natCast] at s
  refine eq_dw (WF.set (dw_WF _ _) _ (by omega) (by omega)) (by simp [dw_len]) ?_
  rw [Nat.mod_pow_succ]
  rw [show (0 : Nat) % 4294967296 = 0 from rfl, Nat.mul_zero, Nat.add_zero] at s
  exact s
set_option maxRecDepth 10000 in
/-- twos.Down. -/
theorem twosDown_c (a : List Int) (n : Nat) (ha : WF a) (la : a.length < 2 ^ 39) (hn : n ≤ 2 ^ 40) : CN 160 [.d (wd a), i64 n] [] (.d (wn (wv a / 2 ^ n))) [] := by
  refine con_of Go.Proofs.Tryz.func160 rfl (by kernel_rfl) (Nat.le_of_ble_eq_true rfl) ?_
  have ew : IntKind.i64.wrap (Int.tdiv (n : Int) 32) = ((n / 32 : Nat) : Int) := by
    rw [show Int.tdiv (n : Int) 32 = ((n / 32 : Nat) : Int) from rfl, wrap64 (by omega) (by omega)]
  have eb : Int.tmod (n : Int) 32 = ((n % 32 : Nat) : Int) := rfl
  have e32 : 32 * (n / 32) + n % 32 = n := Nat.div_add_mod n 32
  refine .of (by decide) ?_
  refine .of (by decide) ?_
  refine .mk (fun h1 => ?_) (fun h1 => ?_)
  · rw [max_id, ew] at h1
    have h1 := ged h1
    rw [List.length_map] at h1
    refine ⟨trivial, ?_⟩
    have : wv a / 2 ^ n = 0 := by
      refine Nat.div_eq_of_lt (Nat.lt_of_lt_of_le (wv_lt ha) ?_)
      rw [pow32]
      exact Nat.pow_le_pow_right (by decide) (by omega)
    rw [this, wn, wl_zero]
    rfl
  · rw [max_id, ew] at h1
    have h1 := ged' h1
    rw [List.length_map] at h1
    have e0 : IntKind.i64.wrap (((a.map fun x => [D.int .u32 x]).length : Int) - ((n / 32 : Nat) : Int)) = ((a.length - n / 32 : Nat) : Int) := by
      rw [List.length_map, wrap64 (by omega) (by omega)]
      omega
    refine .of ⟨rfl, by rw [max_id, ew, e0]; exact Int.natCast_nonneg _, by rw [max_id, ew, e0]; show ((a.length - n / 32 : Nat) : Int) * 4 ≤ 140737488355328; omega, by rw [max_id, ew, e0]; omega⟩ ?_
    refine .mk 0 (VLoop.mk Nat (fun i => frm 65 [.d (wd a), .any, .any, .any, .nils, i64 (n / 32 : Nat), i64 (n % 32 : Nat), .own 24 (a.length - n / 32) 1, .any, .any, .any, .any, .any, .any, .any, .any, .any, .any, .any, .any, .any, .any, .any, .any, .any, .any, i64 (a.length - n / 32 : Nat), i64 i]) (fun i => [(24, .row 1 (wc (dw (a.length - n / 32) (wv a / 2 ^ n % 4294967296 ^ i))) false)])
      (fun i => i ≤ a.length - n / 32) (fun i => a.length - n / 32 - i) 0 (Nat.zero_le _) ?_ ?_ ?_ ?_)
    · exact ⟨rfl, rfl, by rw [max_id, ew], by rw [max_id, eb], by rw [max_id, ew, e0]; rfl, by rw [max_id, ew, e0]; rfl, rfl, trivial⟩
    · refine ⟨?_, trivial⟩
      show some (Blk.row 1 (List.replicate _ _) false) = _
      rw [max_id, ew, e0, Int.toNat_natCast, Nat.pow_zero, Nat.mod_one]
      simp only [dw_zero, wc, List.map_replicate]
    · trivial
    · intro i hi
      refine .mk (fun h3 => ?_) (fun h3 => ?_)
      · have h3 : i < a.length - n / 32 := by
          have : ((i : Int) < ((a.length - n / 32 : Nat) : Int)) := of_decide_eq_true h3
          omega
        have hk : n / 32 + i < a.length := by omega
        have hxa := ha _ (List.getElem_mem hk)
        have e1 : IntKind.i64.wrap (((n / 32 : Nat) : Int) + (i : Int)) = ((n / 32 + i : Nat) : Int) := by rw [wrap64 (by omega) (by omega)]; rfl
        have e2 : IntKind.i64.wrap (((n / 32 + i : Nat) : Int) + 1) = ((n / 32 + i + 1 : Nat) : Int) := by rw [wrap64 (by omega) (by omega)]; rfl
        have hdw := down_word (W := n / 32) (b := n % 32) ha (Nat.mod_lt _ (by decide)) hk
        rw [e32] at hdw
        have hx : ((a[n / 32 + i]) : Int) = ((a[n / 32 + i]).toNat : Int) := by omega
        have shr : ∀ z : Nat, z < 18446744073709551616 → IntKind.u32.wrap (Int.fdiv (z : Int) (2 ^ min (Int.toNat ((n % 32 : Nat) : Int)) IntKind.u64.bits)) = ((z / 2 ^ (n % 32) % 4294967296 : Nat) : Int) := by
          intro z _
          have : min (Int.toNat ((n % 32 : Nat) : Int)) IntKind.u64.bits = n % 32 := by show min (n % 32) 64 = n % 32; omega
          rw [this, Int.fdiv_eq_ediv_of_nonneg _ (Int.pow_nonneg (by decide)), wrap32]
          have : (2 : Int) ^ (n % 32) = ((2 ^ (n % 32) : Nat) : Int) := by simp
          rw [this]
          omega
        have step : ∀ z : Int, z = ((wv a / 2 ^ n / 4294967296 ^ i % 4294967296 : Nat) : Int) → some (Blk.row 1 ((wc (dw (a.length - n / 32) (wv a / 2 ^ n % 4294967296 ^ i))).set i [.int .u32 z]) false) = some (Blk.row 1 (wc (dw (a.length - n / 32) (wv a / 2 ^ n % 4294967296 ^ (i + 1)))) false) := by
          rintro z rfl
          rw [wc_set, down_set h3]
        refine .mk (by rw [e1]; omega) ⟨_, by rw [e1, Int.toNat_natCast]; exact wd_get hk, ?_⟩
        refine .mk (fun h4 => ?_) (fun h4 => ?_)
        · rw [e1, e2] at h4
          have h4 : n / 32 + i + 1 < a.length := by
            have : (((n / 32 + i + 1 : Nat) : Int) < (((a.map fun x => [D.int .u32 x]).length : Nat) : Int)) := of_decide_eq_true h4
            rw [List.length_map] at this
            omega
          have hya := ha _ (List.getElem_mem h4)
          have hy : ((a[n / 32 + i + 1]) : Int) = ((a[n / 32 + i + 1]).toNat : Int) := by omega
          refine .mk (by rw [e1, e2]; omega) ⟨_, by rw [e1, e2, Int.toNat_natCast]; exact wd_get h4, ?_⟩
          refine .of (by decide) ?_
          refine .of (by show (0 : Int) ≤ ((n % 32 : Nat) : Int); omega) ?_
          refine .of ⟨by omega, by omega⟩ ?_
          refine .of ⟨by rw [wc_len, dw_len], rfl, rfl, by omega⟩ ?_
          refine ⟨i + 1, h3, by omega, ⟨rfl, rfl, rfl, rfl, rfl, rfl, ?_, trivial⟩, ⟨step _ ?_, trivial⟩, trivial⟩
          · rw [wrap64 (by omega) (by omega)]
            rfl
          · have ex : IntKind.u64.wrap (a[n / 32 + i]) = ((a[n / 32 + i]).toNat : Int) := by rw [wrapU64]; omega
            have ey : IntKind.u64.wrap (IntKind.u64.wrap (a[n / 32 + i + 1]) * 2 ^ min (Int.toNat 32) IntKind.u64.bits) = (((a[n / 32 + i + 1]).toNat * 2 ^ 32 : Nat) : Int) := by
              rw [hy, show (32 : Int) = ((32 : Nat) : Int) from rfl, shlU64 _ 32 (by omega)]
              simp only [Int.toNat_natCast]
              omega
            rw [ex, ey, or64 (k := 32) (by omega) (by omega), shr _ (by omega), hdw, List.getD_eq_getElem?_getD, List.getElem?_eq_getElem h4]
            rfl
        · rw [e1, e2] at h4
          have h4 : a.length ≤ n / 32 + i + 1 := by
            have : ¬ (((n / 32 + i + 1 : Nat) : Int) < (((a.map fun x => [D.int .u32 x]).length : Nat) : Int)) := of_decide_eq_false h4
            rw [List.length_map] at this
            omega
          refine .of (by show (0 : Int) ≤ ((n % 32 : Nat) : Int); omega) ?_
          refine .of ⟨by omega, by omega⟩ ?_
          refine .of ⟨by rw [wc_len, dw_len], rfl, rfl, by omega⟩ ?_
          refine ⟨i + 1, h3, by omega, ⟨rfl, rfl, rfl, rfl, rfl, rfl, ?_, trivial⟩, ⟨step _ ?_, trivial⟩, trivial⟩
          · rw [wrap64 (by omega) (by omega)]
            rfl
          · have ex : IntKind.u64.wrap (a[n / 32 + i]) = ((a[n / 32 + i]).toNat : Int) := by rw [wrapU64]; omega
            rw [ex, shr _ (by omega), hdw, List.getD_eq_getElem?_getD, List.getElem?_eq_none h4]
            rfl
      · have h3 : i = a.length - n / 32 := by
          have : ¬ ((i : Int) < ((a.length - n / 32 : Nat) : Int)) := of_decide_eq_false h3
          omega
        subst h3
        have hQ : wv a / 2 ^ n < 4294967296 ^ (a.length - n / 32) := by
          refine Nat.div_lt_of_lt_mul (Nat.lt_of_lt_of_le (wv_lt ha) ?_)
          rw [pow32, pow32, ← Nat.pow_add]
          exact Nat.pow_le_pow_right (by decide) (by omega)
        have hn := natNorm_w (dw_WF (a.length - n / 32) (wv a / 2 ^ n % 4294967296 ^ (a.length - n / 32))) (by rw [dw_len]; omega)
        rw [wv_dw (Nat.mod_lt _ (Nat.pow_pos (by decide))), Nat.mod_eq_of_lt hQ] at hn
        refine .by (.d (wn (wv a / 2 ^ n))) (.of ⟨by rw [wc_len, dw_len], rfl⟩ ⟨by rw [Nat.mod_eq_of_lt hQ]; exact hn, trivial, rfl⟩)
end Go.KM
end
section
/- The step of a long division: plain laws. -/
namespace RN

/-- The quotient's next word by the three highest words of what is left and the two of the divisor, exactly. -/
def gq (T D : Nat) : Nat := min (T / D) 4294967295

theorem gq_step {R b M T D : Nat} (hb : 0 < b) (hM : 0 < M) (hT : T = R / M) (hD : D = b / M) (hR : R < b * 4294967296) (hDB : 4294967296 ≤ D) :
    R / b ≤ gq T D ∧ gq T D ≤ R / b + 1 := by
  have hDpos : 0 < D := by omega
  constructor
  · unfold gq
    apply Nat.le_min.2
    constructor
    · rw [Nat.le_div_iff_mul_le hDpos, hD, hT]
      have h1 : R / b * (b / M) ≤ R / b * b / M := Nat.mul_div_le_mul_div_assoc _ _ _
      exact Nat.le_trans h1 (Nat.div_le_div_right (Nat.div_mul_le_self R b))
    · have : R / b < 4294967296 := Nat.div_lt_of_lt_mul hR
      omega
  · generalize hx : gq T D = x
    have hx1 : x * D ≤ T := by
      have : x ≤ T / D := by rw [← hx]; exact Nat.min_le_left _ _
      exact (Nat.le_div_iff_mul_le hDpos).1 this
    have hx2 : x ≤ 4294967295 := by rw [← hx]; exact Nat.min_le_right _ _
    rcases Nat.eq_zero_or_pos x with h0 | h0
    · rw [h0]; exact Nat.zero_le _
    · have hb1 : b < (D + 1) * M := by
        have := Nat.lt_mul_div_succ b hM
        rw [hD, Nat.mul_comm]; exact this
      have hR1 : T * M ≤ R := by rw [hT]; exact Nat.div_mul_le_self R M
      obtain ⟨y, rfl⟩ : ∃ y, x = y + 1 := ⟨x - 1, by omega⟩
      have h2 : y * (D + 1) ≤ T := by
        rw [Nat.add_mul, Nat.one_mul] at hx1
        rw [Nat.mul_add, Nat.mul_one]
        omega
      have h3 : y * b ≤ R := by
        have e1 : y * b ≤ y * ((D + 1) * M) := Nat.mul_le_mul_left y (Nat.le_of_lt hb1)
        have e2 : y * ((D + 1) * M) ≤ T * M := by rw [← Nat.mul_assoc]; exact Nat.mul_le_mul_right M h2
        omega
      have h4 : y ≤ R / b := (Nat.le_div_iff_mul_le hb).2 h3
      omega

/-- One round of mending: a guess that is too great. -/
theorem gq_of {T D q : Nat} (h1 : T / D ≤ q ∨ q = 4294967295) (hq : q ≤ 4294967295) (hD : 0 < D) (h : q * D ≤ T) : q = gq T D := by
  have h2 : q ≤ T / D := (Nat.le_div_iff_mul_le hD).2 h
  unfold gq
  rcases h1 with h1 | h1 <;> omega

theorem gq_le {T D q : Nat} (hD : 0 < D) (h1 : gq T D ≤ q) (h : T < q * D) : gq T D ≤ q - 1 := by
  have h2 : ¬ q ≤ T / D := fun e => by have := (Nat.le_div_iff_mul_le hD).1 e; omega
  unfold gq at *
  omega

end RN
end
section
/- The guess of a quotient's word: plain laws. -/
namespace RN
theorem guess_le {q r H a0 b1 b0 B : Nat} (h : q * b1 + r = H) (hr : q * b0 ≤ r * B + a0) : q * (b1 * B + b0) ≤ H * B + a0 := by
  subst h
  rw [Nat.mul_add, Nat.add_mul, ← Nat.mul_assoc]
  omega
theorem guess_gt {q r H a0 b1 b0 B : Nat} (h : q * b1 + r = H) (hr : r * B + a0 < q * b0) : H * B + a0 < q * (b1 * B + b0) := by
  subst h
  rw [Nat.mul_add, Nat.add_mul, ← Nat.mul_assoc]
  omega
theorem guess_over {q r b0 B a0 : Nat} (hq : q < B) (hb : b0 < B) (hr : B ≤ r) : q * b0 ≤ r * B + a0 := by
  have h1 : q * b0 ≤ B * B := Nat.mul_le_mul (by omega) (by omega)
  have h2 : B * B ≤ r * B := Nat.mul_le_mul_right _ hr
  omega
theorem guess_top {a2 a1 a0 b1 b0 B : Nat} (h : b1 < a2) (hb : b0 < B) : (B - 1) * (b1 * B + b0) ≤ (a2 * B + a1) * B + a0 := by
  have h1 : (B - 1) * (b1 * B + b0) ≤ B * (b1 * B + B) := Nat.mul_le_mul (by omega) (by omega)
  have h2 : B * (b1 * B + B) = (b1 + 1) * B * B := by grind
  have h3 : (b1 + 1) * B * B ≤ a2 * B * B := Nat.mul_le_mul_right _ (Nat.mul_le_mul_right _ h)
  rw [Nat.add_mul (a2 * B)]
  omega
theorem guess_first {H a0 b1 b0 B : Nat} (hb : 0 < b1) (ha : a0 < B) : (H * B + a0) / (b1 * B + b0) ≤ H / b1 := by
  have h1 : H < (H / b1 + 1) * b1 := by
    have := Nat.lt_mul_div_succ H hb
    rwa [Nat.mul_comm] at this
  have h2 : H * B + a0 < (H / b1 + 1) * (b1 * B + b0) := by
    have h3 : (H + 1) * B ≤ (H / b1 + 1) * b1 * B := Nat.mul_le_mul_right _ h1
    rw [Nat.mul_add, ← Nat.mul_assoc]
    rw [Nat.add_mul] at h3
    omega
  have := Nat.div_lt_of_lt_mul (show H * B + a0 < (b1 * B + b0) * (H / b1 + 1) by rw [Nat.mul_comm (b1 * B + b0)]; exact h2)
  omega
theorem cmp_hi_lo {p r a0 B : Nat} (ha : a0 < B) : (p / B < r ∨ p / B = r ∧ p % B ≤ a0) ↔ p ≤ r * B + a0 := by
  have h := Nat.div_add_mod p B
  rw [Nat.mul_comm] at h
  have h2 : p % B < B := Nat.mod_lt _ (by omega)
  generalize p / B = x at *
  generalize p % B = y at *
  subst h
  constructor
  · rintro (h | ⟨rfl, h⟩)
    · have : (x + 1) * B ≤ r * B := Nat.mul_le_mul_right _ h
      rw [Nat.add_mul] at this
      omega
    · omega
  · intro h
    rcases Nat.lt_trichotomy x r with h1 | h1 | h1
    · exact .inl h1
    · subst h1; exact .inr ⟨rfl, by omega⟩
    · have : (r + 1) * B ≤ x * B := Nat.mul_le_mul_right _ h1
      rw [Nat.add_mul] at this
      omega
theorem gq_eq {T D q : Nat} (hD : 0 < D) (h1 : gq T D ≤ q) (hq : q ≤ 4294967295) (h : q * D ≤ T) : q = gq T D := by
  have h2 : q ≤ T / D := (Nat.le_div_iff_mul_le hD).2 h
  unfold gq at *
  omega
end RN
end
section
/- Contracts: quot.guess. -/
namespace Go.KM
open Go RN

set_option maxRecDepth 10000 in
/-- quot.guess. -/
theorem quotGuess_c (a2 a1 a0 b1 b0 : Nat) (h2 : a2 < 4294967296) (h1 : a1 < 4294967296) (h0 : a0 < 4294967296) (k1 : b1 < 4294967296) (k0 : b0 < 4294967296) (kp : 0 < b1) :
    CN 176 [u a2, u a1, u a0, u b1, u b0] [] (u (gq ((a2 * 4294967296 + a1) * 4294967296 + a0) (b1 * 4294967296 + b0))) [] := by
  refine con_of Go.Proofs.Tryz.func176 rfl (by kernel_rfl) (Nat.le_of_ble_eq_true rfl) ?_
  have hD : 0 < b1 * 4294967296 + b0 := by omega
  have hgt : gq ((a2 * 4294967296 + a1) * 4294967296 + a0) (b1 * 4294967296 + b0) ≤ 4294967295 := Nat.min_le_right _ _
  by_cases hlt : a2 < b1
  case' pos =>
    refine .by _ ⟨limbDiv_c a2 a1 b1 h2 h1 k1 hlt, ?_⟩
    refine .no rfl ?_
    have hq : (a2 * 4294967296 + a1) / b1 < 4294967296 := Nat.div_lt_of_lt_mul (by
      have : (a2 + 1) * 4294967296 ≤ b1 * 4294967296 := Nat.mul_le_mul_right _ hlt
      omega)
    have hr : (a2 * 4294967296 + a1) % b1 < 4294967296 := Nat.lt_trans (Nat.mod_lt _ kp) k1
    have hH : (a2 * 4294967296 + a1) / b1 * b1 + (a2 * 4294967296 + a1) % b1 = a2 * 4294967296 + a1 := by rw [Nat.mul_comm]; exact Nat.div_add_mod _ _
    have hg : gq ((a2 * 4294967296 + a1) * 4294967296 + a0) (b1 * 4294967296 + b0) ≤ (a2 * 4294967296 + a1) / b1 := Nat.le_trans (Nat.min_le_left _ _) (guess_first kp h0)
    refine .mk 0 (VLoop.mk (Nat × Nat) (fun s => frm 76 [u a2, u a1, u a0, u b1, u b0, .any, .any, .any, .any, .any, u 0, u s.1, u s.2]) (fun _ => [])
      (fun s => s.1 < 4294967296 ∧ s.2 < 4294967296 ∧ s.1 * b1 + s.2 = a2 * 4294967296 + a1 ∧ gq ((a2 * 4294967296 + a1) * 4294967296 + a0) (b1 * 4294967296 + b0) ≤ s.1) (fun s => s.1) ((a2 * 4294967296 + a1) / b1, (a2 * 4294967296 + a1) % b1) ⟨hq, hr, hH, hg⟩ ⟨rfl, rfl, rfl, rfl, rfl, rfl, rfl, rfl, trivial⟩ trivial trivial ?_)
  case' neg =>
    have hge : b1 ≤ a2 := by omega
    refine .by _ ⟨limbDiv_no a2 a1 b1 hge, ?_⟩
    refine .yes rfl ?_
    refine .by _ ⟨limbAdd_c a1 b1 0 h1 k1 (by decide), ?_⟩
    by_cases hgt2 : b1 < a2
  case' pos =>
    refine .yes (decide_eq_true (Int.ofNat_lt.2 hgt2)) ?_
    refine .yes rfl ?_
    refine ⟨trivial, u_eq ?_⟩
    have := gq_eq hD hgt (Nat.le_refl _) (guess_top (a1 := a1) (a0 := a0) hgt2 k0)
    rw [← this]
    rfl
  case' neg =>
    refine .no (decide_eq_false (fun h => hgt2 (Int.ofNat_lt.1 h))) ?_
    by_cases hc : 4294967296 ≤ a1 + b1 + 0
  case' pos =>
    have hc1 : (a1 + b1 + 0) / 4294967296 = 1 := by omega
    refine .yes (by rw [hc1]; rfl) ?_
    refine ⟨trivial, u_eq ?_⟩
    have e : 4294967295 * b1 + (a1 + b1) = a2 * 4294967296 + a1 := by omega
    have := gq_eq hD hgt (Nat.le_refl _) (guess_le e (guess_over (a0 := a0) (show 4294967295 < 4294967296 by decide) k0 hc))
    rw [← this]
    rfl
  case' neg =>
    have hc1 : (a1 + b1 + 0) / 4294967296 = 0 := by omega
    have hc2 : (a1 + b1 + 0) % 4294967296 = a1 + b1 := by omega
    refine .no (by rw [hc1]; rfl) ?_
    refine .mk 0 (VLoop.mk (Nat × Nat) (fun s => frm 76 [u a2, u a1, u a0, u b1, u b0, .any, .any, .any, .any, .any, u 0, u s.1, u s.2]) (fun _ => [])
      (fun s => s.1 < 4294967296 ∧ s.2 < 4294967296 ∧ s.1 * b1 + s.2 = a2 * 4294967296 + a1 ∧ gq ((a2 * 4294967296 + a1) * 4294967296 + a0) (b1 * 4294967296 + b0) ≤ s.1) (fun s => s.1) (4294967295, a1 + b1) ⟨by show 4294967295 < 4294967296; decide, by show a1 + b1 < _; omega, by show 4294967295 * b1 + (a1 + b1) = _; omega, hgt⟩ ⟨rfl, rfl, rfl, rfl, rfl, rfl, rfl, by rw [hc2], trivial⟩ trivial trivial ?_)
  all_goals
    rintro ⟨q, r⟩ ⟨q1, q2, q3, q4⟩
    simp only at q1 q2 q3 q4
    have hp := cmp_hi_lo (p := q * b0) (r := r) h0
    have hm := limbMul_c q b0 0 0 q1 k0 (by decide) (by decide)
    simp only [Nat.add_zero] at hm
    have stop : ∀ q', gq ((a2 * 4294967296 + a1) * 4294967296 + a0) (b1 * 4294967296 + b0) ≤ q' → q' < 4294967296 → q' * (b1 * 4294967296 + b0) ≤ (a2 * 4294967296 + a1) * 4294967296 + a0 → AV.d (.int .u32 (q' : Int)) = u (gq ((a2 * 4294967296 + a1) * 4294967296 + a0) (b1 * 4294967296 + b0)) := by
      intro q' g1 g2 g3
      exact u_eq (congrArg Nat.cast (gq_eq hD g1 (by omega) g3))
    have go_on : ¬ q * b0 ≤ r * 4294967296 + a0 → q ≠ 0 ∧ gq ((a2 * 4294967296 + a1) * 4294967296 + a0) (b1 * 4294967296 + b0) ≤ q - 1 := by
      intro g
      refine ⟨?_, gq_le hD q4 (guess_gt q3 (by omega))⟩
      rintro rfl
      omega
    have over : ∀ c : Nat, ¬ q * b0 ≤ r * 4294967296 + a0 → c = (r + b1 + 0) / 4294967296 → c ≠ 0 → (q - 1) * (b1 * 4294967296 + b0) ≤ (a2 * 4294967296 + a1) * 4294967296 + a0 := by
      intro c g e1 e2
      obtain ⟨g1, _⟩ := go_on g
      have e3 : (q - 1) * b1 + (r + b1) = a2 * 4294967296 + a1 := by
        obtain ⟨p, rfl⟩ : ∃ p, q = p + 1 := ⟨q - 1, by omega⟩
        rw [Nat.add_mul] at q3
        rw [Nat.add_sub_cancel]
        omega
      exact guess_le e3 (guess_over (by omega) k0 (by omega))
    have ewq : ¬ q * b0 ≤ r * 4294967296 + a0 → AV.d (.int .u32 (IntKind.u32.wrap ((q : Int) - 1))) = u (q - 1) := by
      intro g
      obtain ⟨g1, _⟩ := go_on g
      refine u_eq ?_
      rw [wrap32]
      omega
    refine .by _ ⟨hm, ?_⟩
    -- the test
    by_cases ht : q * b0 / 4294967296 < r
    case' pos =>
      refine .yes (decide_eq_true (Int.ofNat_lt.2 ht)) ?_
      repeat refine .yes rfl ?_
      exact ⟨trivial, stop q q4 q1 (guess_le q3 (hp.1 (.inl ht)))⟩
    case' neg =>
      refine .no (decide_eq_false (fun h => ht (Int.ofNat_lt.1 h))) ?_
      by_cases he : q * b0 / 4294967296 = r
    case' pos =>
      refine .yes (by rw [he]; simp) ?_
      by_cases hlo : q * b0 % 4294967296 ≤ a0
    case' pos =>
      refine .yes (decide_eq_true (Int.ofNat_le.2 hlo)) ?_
      exact ⟨trivial, stop q q4 q1 (guess_le q3 (hp.1 (.inr ⟨he, hlo⟩)))⟩
    case' neg =>
      refine .no (decide_eq_false (fun h => hlo (Int.ofNat_le.1 h))) ?_
      have hno : ¬ q * b0 ≤ r * 4294967296 + a0 := fun h => by rcases hp.2 h with h | h; exact ht h; exact hlo h.2
    rotate_left
    case' neg =>
      refine .no (by simpa using fun h => he (Int.ofNat.inj h)) ?_
      repeat refine .no rfl ?_
      have hno : ¬ q * b0 ≤ r * 4294967296 + a0 := fun h => by rcases hp.2 h with h | h; exact ht h; exact he h.1
    all_goals
      obtain ⟨g1, g2⟩ := go_on hno
      refine .by _ ⟨limbAdd_c r b1 0 q2 k1 (by decide), ?_⟩
      rcases Nat.eq_zero_or_pos ((r + b1 + 0) / 4294967296) with hc2 | hc2
      · refine .no (by rw [hc2]; rfl) ?_
        refine ⟨(q - 1, r + b1), ⟨by show q - 1 < _; omega, by show r + b1 < _; omega, ?_, g2⟩, by show q - 1 < q; omega, ⟨rfl, rfl, rfl, rfl, rfl, rfl, ewq hno, ?_, trivial⟩, trivial, trivial⟩
        · show (q - 1) * b1 + (r + b1) = _
          obtain ⟨p, rfl⟩ : ∃ p, q = p + 1 := ⟨q - 1, by omega⟩
          rw [Nat.add_mul] at q3
          rw [Nat.add_sub_cancel]
          omega
        · rw [show (r + b1 + 0) % 4294967296 = r + b1 by omega]
      · refine .yes (decide_eq_true (by show (0 : Int) < (((r + b1 + 0) / 4294967296 : Nat) : Int); omega)) ?_
        exact ⟨trivial, (ewq hno).trans (stop (q - 1) g2 (by omega) (over _ hno rfl (by omega)))⟩
end Go.KM
end
