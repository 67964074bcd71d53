/- The law StepStands of the given program answers true for every input.  Part 6 of 10: C16, PQ3, C17, C18, C19, PR, C20, PF, C21, C22, C23, C24, C25, C26, C27. -/
import Derived.Test.YtdiojmcleapkdaaGreatDoorM5
set_option linter.all false
section
/- Contracts: quot.take, quot.give. -/
namespace Go.KM
open Go RN

theorem limbMul_k (x : Nat) (y : Int) (c : Nat) (hx : x < 4294967296) (hy : 0 ≤ y ∧ y < 4294967296) (hc : c < 4294967296) :
    CN 126 [u x, .d (.int .u32 y), u c, .d (.int .u32 0)] [] (.tup [u ((x * y.toNat + c) / 4294967296), u ((x * y.toNat + c) % 4294967296)]) [] := by
  have := limbMul_c x y.toNat c 0 hx (by omega) hc (by omega)
  rw [u_toNat hy.1] at this
  exact this
theorem limbSub_k (x : Int) (y b : Nat) (hx : 0 ≤ x ∧ x < 4294967296) (hy : y < 4294967296) (hb : b ≤ 1) :
    CN 190 [.d (.int .u32 x), u y, u b] [] (.tup [u ((x.toNat + 8589934592 - y - b) % 4294967296), u (2 - (x.toNat + 8589934592 - y - b) / 4294967296)]) [] := by
  have := limbSub_c x.toNat y b (by omega) hy (by omega)
  rwa [u_toNat hx.1] at this
set_option maxRecDepth 20000 in
/-- quot.take: x times b is taken away from a place on; is it too much? -/
theorem quotTake_1 (l b : List Int) (p x V bo : Nat) (hl : WF l) (hb : WF b) (hx : x < 4294967296) (hp : p + b.length < l.length) (hll : l.length < 2 ^ 40)
    (hbo : bo ≤ 1) (hV : V + 4294967296 ^ p * (x * wv b) = wv l + 4294967296 ^ (p + b.length + 1) * bo) (hVl : V < 4294967296 ^ l.length) (hlow : V / 4294967296 ^ (p + b.length + 1) = wv l / 4294967296 ^ (p + b.length + 1)) :
    CN 177 [.own 1 l.length 1, i64 p, .d (wd b), u x] [(1, .row 1 (wc l) false)] (.d (.bool (decide (bo = 1)))) [(1, .row 1 (wc (dw l.length V)) false)] := by
  refine conF_of Go.Proofs.Tryz.func177 rfl (by kernel_rfl) ⟨rfl, trivial⟩ (Nat.le_of_ble_eq_true rfl) ?_
  refine .mk 0 (VLoop.mk (Nat × List Int × Nat × Nat) (fun s => frm 66 [.own 1 l.length 1, i64 p, .d (wd b), u x, .any, .any, .any, .any, .d (.bool false), u s.2.2.1, u s.2.2.2, .any, .any, .any, .any, .d (wd b), i64 b.length, i64 s.1]) (fun s => [(1, .row 1 (wc s.2.1) false)])
      (fun s => s.1 ≤ b.length ∧ s.2.1.length = l.length ∧ WF s.2.1 ∧ s.2.2.1 < 4294967296 ∧ s.2.2.2 ≤ 1 ∧ s.2.1.drop (p + s.1) = l.drop (p + s.1) ∧ wv s.2.1 + 4294967296 ^ p * (x * wv (b.take s.1)) = wv l + 4294967296 ^ (p + s.1) * (s.2.2.1 + s.2.2.2)) (fun s => b.length - s.1) (0, l, 0, 0) ?_ ?_ ?_ ?_ ?_)
  · exact ⟨Nat.zero_le _, rfl, hl, by show 0 < 4294967296; decide, Nat.zero_le _, rfl, by simp [wv]⟩
  · exact ⟨rfl, rfl, rfl, rfl, rfl, rfl, rfl, rfl, by rw [List.length_map], rfl, trivial⟩
  · exact ⟨rfl, trivial⟩
  · exact ⟨rfl, trivial⟩
  · rintro ⟨i, m, cy, ow⟩ ⟨q1, q2, q3, q4, q5, q6, q7⟩
    simp only at q1 q2 q3 q4 q5 q6 q7
    have e1 : IntKind.i64.wrap ((p : Int) + (i : Int)) = ((p + i : Nat) : Int) := by rw [wrap64 (by omega) (by omega)]; rfl
    refine .mk (fun h3 => ?_) (fun h3 => ?_)
    · have h3 : i < b.length := by simpa using h3
      have hk : p + i < m.length := by omega
      have hxb := hb _ (List.getElem_mem h3)
      have hxm := q3 _ (List.getElem_mem hk)
      have hclt : (x * (b[i]).toNat + cy) / 4294967296 < 4294967296 := by
        have := mul_step_lt (x := x) (y := (b[i]).toNat) (z := 0) (c := cy) hx (by omega) (by omega) q4
        simpa using this
      have hs := take_step (lo := (x * (b[i]).toNat + cy) % 4294967296) (c' := (x * (b[i]).toNat + cy) / 4294967296) (w := ((m[p + i]).toNat + 8589934592 - (x * (b[i]).toNat + cy) % 4294967296 - ow) % 4294967296) (bo' := 2 - ((m[p + i]).toNat + 8589934592 - (x * (b[i]).toNat + cy) % 4294967296 - ow) / 4294967296) h3 hk q7 (Nat.mod_add_div _ _) (by omega)
      refine .mk (by show (0 : Int) ≤ (i : Int); omega) ⟨_, wd_get h3, ?_⟩
      refine .by _ ⟨limbMul_k x _ cy hx hxb q4, ?_⟩
      refine .of ⟨by rw [e1]; omega, by rw [e1]; omega⟩ ?_
      refine .of (by rw [wc_len]; exact q2) ?_
      refine .mk (by rw [e1]; omega) ⟨_, by rw [e1, Int.toNat_natCast, Int.toNat_natCast]; exact wc_get hk, ?_⟩
      refine .by _ ⟨limbSub_k _ _ ow hxm (Nat.mod_lt _ (by decide)) q5, ?_⟩
      refine .of ⟨by rw [e1]; omega, by rw [e1]; omega⟩ ?_
      refine .of ⟨by rw [wc_len]; exact q2, rfl, rfl, by rw [e1]; omega⟩ ?_
      refine ⟨(i + 1, m.set (p + i) ((((m[p + i]).toNat + 8589934592 - (x * (b[i]).toNat + cy) % 4294967296 - ow) % 4294967296 : Nat) : Int), (x * (b[i]).toNat + cy) / 4294967296, 2 - ((m[p + i]).toNat + 8589934592 - (x * (b[i]).toNat + cy) % 4294967296 - ow) / 4294967296),
        ⟨h3, by simpa using q2, WF.set q3 _ (by omega) (by omega), hclt, by show 2 - _ / 4294967296 ≤ 1; omega, drop_set_next q6, hs⟩, by show b.length - (i + 1) < b.length - i; omega, ⟨rfl, rfl, rfl, rfl, rfl, rfl, rfl, rfl, rfl, ?_, trivial⟩, ⟨?_, trivial⟩, ⟨rfl, trivial⟩⟩
      · show AV.d (.int .i64 (IntKind.i64.wrap ((i : Int) + 1))) = i64 ((i + 1 : Nat) : Int)
        rw [wrap64 (by omega) (by omega)]
        rfl
      · show some (Blk.row 1 ((wc m).set _ _) false) = _
        rw [e1, Int.toNat_natCast]
        exact congrArg (fun z => some (Blk.row 1 z false)) (wc_set _ _ _)
    · have h3 : i = b.length := by
        have : ¬ ((i : Int) < (b.length : Int)) := by simpa using h3
        omega
      subst h3
      have e0 : IntKind.i64.wrap ((p : Int) + ((b.map fun x => [D.int .u32 x]).length : Int)) = ((p + b.length : Nat) : Int) := by rw [List.length_map, e1]
      have hk : p + b.length < m.length := by omega
      have hxm := q3 _ (List.getElem_mem hk)
      rw [List.take_length] at q7
      refine .of ⟨by rw [e0]; omega, by rw [e0]; omega⟩ ?_
      refine .of (by rw [wc_len]; exact q2) ?_
      refine .mk (by rw [e0]; omega) ⟨_, by rw [e0, Int.toNat_natCast, Int.toNat_natCast]; exact wc_get hk, ?_⟩
      refine .by _ ⟨limbSub_k _ cy ow hxm q4 q5, ?_⟩
      refine .of ⟨by rw [e0]; omega, by rw [e0]; omega⟩ ?_
      refine .of ⟨by rw [wc_len]; exact q2, rfl, rfl, by rw [e0]; omega⟩ ?_
      have hset := wv_set hk ((((m[p + b.length]).toNat + 8589934592 - cy - ow) % 4294967296 : Nat) : Int)
      have hwf := WF.set q3 (p + b.length) (x := (((m[p + b.length]).toNat + 8589934592 - cy - ow) % 4294967296 : Nat)) (by omega) (by omega)
      have hdr := drop_set_next (w := ((((m[p + b.length]).toNat + 8589934592 - cy - ow) % 4294967296 : Nat) : Int)) q6
      have hsl : (m.set (p + b.length) ((((m[p + b.length]).toNat + 8589934592 - cy - ow) % 4294967296 : Nat) : Int)).length = l.length := by simpa using q2
      have hq := congrArg wv hdr
      rw [wv_drop hwf, wv_drop hl, ← hlow] at hq
      have hw : ((m[p + b.length]).toNat + 8589934592 - cy - ow) % 4294967296 + cy + ow = (m[p + b.length]).toNat + 4294967296 * (2 - ((m[p + b.length]).toNat + 8589934592 - cy - ow) / 4294967296) := by omega
      have hb1 : 2 - ((m[p + b.length]).toNat + 8589934592 - cy - ow) / 4294967296 ≤ 1 := by omega
      rw [Int.toNat_natCast] at hset
      generalize ((m[p + b.length]).toNat + 8589934592 - cy - ow) % 4294967296 = wd0 at *
      generalize 2 - ((m[p + b.length]).toNat + 8589934592 - cy - ow) / 4294967296 = bo' at *
      have hfin : wv (m.set (p + b.length) (wd0 : Int)) = V ∧ bo' = bo := by
        refine borrow_eq (P := 4294967296 ^ (p + b.length + 1)) (Nat.pow_pos (by decide)) hbo hb1 ?_ hq.symm
        have h1 := congrArg (4294967296 ^ (p + b.length) * ·) hw
        simp only [Nat.mul_add] at h1 q7
        rw [← Nat.mul_assoc, ← Nat.pow_succ] at h1
        generalize 4294967296 ^ (p + b.length + 1) * bo' = z1 at *
        generalize 4294967296 ^ (p + b.length + 1) * bo = z2 at *
        generalize 4294967296 ^ (p + b.length) * cy = z3 at *
        generalize 4294967296 ^ (p + b.length) * ow = z4 at *
        generalize 4294967296 ^ (p + b.length) * wd0 = z5 at *
        generalize 4294967296 ^ (p + b.length) * (m[p + b.length]).toNat = z6 at *
        generalize 4294967296 ^ p * (x * wv b) = z7 at *
        clear hq hlow hVl hdr hsl
        omega
      refine ⟨⟨?_, trivial⟩, ?_⟩
      · show some (Blk.row 1 ((wc m).set _ _) false) = _
        rw [e0, Int.toNat_natCast]
        refine congrArg (fun z => some (Blk.row 1 z false)) ((wc_set _ _ _).trans (congrArg wc ?_))
        exact eq_dw hwf hsl hfin.1
      · show AV.d (.bool (decide ((bo' : Int) > 0))) = _
        rw [hfin.2]
        congr 2
        rcases (by omega : bo = 0 ∨ bo = 1) with rfl | rfl <;> rfl
end Go.KM
namespace Go.KM
open Go RN
theorem quotTake_c (id : Nat) (l b : List Int) (p x V bo : Nat) (hl : WF l) (hb : WF b) (hx : x < 4294967296) (hp : p + b.length < l.length) (hll : l.length < 2 ^ 40)
    (hbo : bo ≤ 1) (hV : V + 4294967296 ^ p * (x * wv b) = wv l + 4294967296 ^ (p + b.length + 1) * bo) (hVl : V < 4294967296 ^ l.length) (hlow : V / 4294967296 ^ (p + b.length + 1) = wv l / 4294967296 ^ (p + b.length + 1)) :
    CN 177 [.own id l.length 1, i64 p, .d (wd b), u x] [(id, .row 1 (wc l) false)] (.d (.bool (decide (bo = 1)))) [(id, .row 1 (wc (dw l.length V)) false)] := by
  have := (quotTake_1 l b p x V bo hl hb hx hp hll hbo hV hVl hlow).ren (swp_swap 1 id)
  simp only [renAV.renAVs, renAV, renMem, renBlk, swp_a, i64, u] at this
  exact this
theorem give_step {l l0 b : List Int} {at_ i c : Nat} (hi : i < b.length) (hk : at_ + i < l.length)
    (q : wv l + 4294967296 ^ (at_ + i) * c = wv l0 + 4294967296 ^ at_ * wv (b.take i)) {w c' : Nat} (hw : w + 4294967296 * c' = (l[at_ + i]).toNat + (b[i]).toNat + c) :
    wv (l.set (at_ + i) (w : Int)) + 4294967296 ^ (at_ + (i + 1)) * c' = wv l0 + 4294967296 ^ at_ * wv (b.take (i + 1)) := by
  have := row_step (l := l) (l0 := l0) (a := b) (at_ := at_) (i := i) (x := 1) (c := c) hi hk 0 (by simpa using q) (w := w) (c' := c') (by omega)
  simpa using this
set_option maxRecDepth 20000 in
/-- quot.give: b is added from a place on. -/
theorem quotGive_1 (l b : List Int) (p V k : Nat) (hl : WF l) (hb : WF b) (hp : p + b.length < l.length) (hll : l.length < 2 ^ 40)
    (hbo : k ≤ 1) (hV : V + 4294967296 ^ (p + b.length + 1) * k = wv l + 4294967296 ^ p * wv b) (hlow : V / 4294967296 ^ (p + b.length + 1) = wv l / 4294967296 ^ (p + b.length + 1)) :
    CN 178 [.own 1 l.length 1, i64 p, .d (wd b)] [(1, .row 1 (wc l) false)] (.tup []) [(1, .row 1 (wc (dw l.length V)) false)] := by
  refine conF_of Go.Proofs.Tryz.func178 rfl (by kernel_rfl) ⟨rfl, trivial⟩ (Nat.le_of_ble_eq_true rfl) ?_
  refine .mk 0 (VLoop.mk (Nat × List Int × Nat) (fun s => frm 44 [.own 1 l.length 1, i64 p, .d (wd b), .any, .any, .any, u s.2.2, .any, .any, .d (wd b), i64 b.length, i64 s.1]) (fun s => [(1, .row 1 (wc s.2.1) false)])
      (fun s => s.1 ≤ b.length ∧ s.2.1.length = l.length ∧ WF s.2.1 ∧ s.2.2 ≤ 1 ∧ s.2.1.drop (p + s.1) = l.drop (p + s.1) ∧ wv s.2.1 + 4294967296 ^ (p + s.1) * s.2.2 = wv l + 4294967296 ^ p * wv (b.take s.1)) (fun s => b.length - s.1) (0, l, 0) ?_ ?_ ?_ ?_ ?_)
  · exact ⟨Nat.zero_le _, rfl, hl, Nat.zero_le _, rfl, by simp [wv]⟩
  · exact ⟨rfl, rfl, rfl, rfl, rfl, by rw [List.length_map], rfl, trivial⟩
  · exact ⟨rfl, trivial⟩
  · exact ⟨rfl, trivial⟩
  · rintro ⟨i, m, cy⟩ ⟨q1, q2, q3, q4, q5, q6⟩
    simp only at q1 q2 q3 q4 q5 q6
    have e1 : IntKind.i64.wrap ((p : Int) + (i : Int)) = ((p + i : Nat) : Int) := by rw [wrap64 (by omega) (by omega)]; rfl
    refine .mk (fun h3 => ?_) (fun h3 => ?_)
    · have h3 : i < b.length := by simpa using h3
      have hk : p + i < m.length := by omega
      have hxb := hb _ (List.getElem_mem h3)
      have hxm := q3 _ (List.getElem_mem hk)
      have hs := give_step (w := ((m[p + i]).toNat + (b[i]).toNat + cy) % 4294967296) (c' := ((m[p + i]).toNat + (b[i]).toNat + cy) / 4294967296) h3 hk q6 (by omega)
      refine .mk (by show (0 : Int) ≤ (i : Int); omega) ⟨_, wd_get h3, ?_⟩
      refine .of ⟨by rw [e1]; omega, by rw [e1]; omega⟩ ?_
      refine .of (by rw [wc_len]; exact q2) ?_
      refine .mk (by rw [e1]; omega) ⟨_, by rw [e1, Int.toNat_natCast, Int.toNat_natCast]; exact wc_get hk, ?_⟩
      refine .by _ ⟨limbAdd_i _ _ cy hxm hxb q4, ?_⟩
      refine .of ⟨by rw [e1]; omega, by rw [e1]; omega⟩ ?_
      refine .of ⟨by rw [wc_len]; exact q2, rfl, rfl, by rw [e1]; omega⟩ ?_
      refine ⟨(i + 1, m.set (p + i) ((((m[p + i]).toNat + (b[i]).toNat + cy) % 4294967296 : Nat) : Int), ((m[p + i]).toNat + (b[i]).toNat + cy) / 4294967296),
        ⟨h3, by simpa using q2, WF.set q3 _ (by omega) (by omega), by show _ / 4294967296 ≤ 1; omega, drop_set_next q5, hs⟩, by show b.length - (i + 1) < b.length - i; omega, ⟨rfl, rfl, rfl, rfl, rfl, rfl, ?_, trivial⟩, ⟨?_, trivial⟩, ⟨rfl, trivial⟩⟩
      · show AV.d (.int .i64 (IntKind.i64.wrap ((i : Int) + 1))) = i64 ((i + 1 : Nat) : Int)
        rw [wrap64 (by omega) (by omega)]
        rfl
      · show some (Blk.row 1 ((wc m).set _ _) false) = _
        rw [e1, Int.toNat_natCast]
        exact congrArg (fun z => some (Blk.row 1 z false)) (wc_set _ _ _)
    · have h3 : i = b.length := by
        have : ¬ ((i : Int) < (b.length : Int)) := by simpa using h3
        omega
      subst h3
      have e0 : IntKind.i64.wrap ((p : Int) + ((b.map fun x => [D.int .u32 x]).length : Int)) = ((p + b.length : Nat) : Int) := by rw [List.length_map, e1]
      have hk : p + b.length < m.length := by omega
      have hxm := q3 _ (List.getElem_mem hk)
      rw [List.take_length] at q6
      refine .of ⟨by rw [e0]; omega, by rw [e0]; omega⟩ ?_
      refine .of (by rw [wc_len]; exact q2) ?_
      refine .mk (by rw [e0]; omega) ⟨_, by rw [e0, Int.toNat_natCast, Int.toNat_natCast]; exact wc_get hk, ?_⟩
      refine .of ⟨by rw [e0]; omega, by rw [e0]; omega⟩ ?_
      refine .of ⟨by rw [wc_len]; exact q2, rfl, rfl, by rw [e0]; omega⟩ ?_
      have ew : IntKind.u32.wrap ((m[p + b.length] : Int) + (cy : Int)) = ((((m[p + b.length]).toNat + cy) % 4294967296 : Nat) : Int) := by rw [wrap32]; omega
      have hset := wv_set hk ((((m[p + b.length]).toNat + cy) % 4294967296 : Nat) : Int)
      have hwf := WF.set q3 (p + b.length) (x := (((m[p + b.length]).toNat + cy) % 4294967296 : Nat)) (by omega) (by omega)
      have hdr := drop_set_next (w := ((((m[p + b.length]).toNat + cy) % 4294967296 : Nat) : Int)) q5
      have hsl : (m.set (p + b.length) ((((m[p + b.length]).toNat + cy) % 4294967296 : Nat) : Int)).length = l.length := by simpa using q2
      have hq := congrArg wv hdr
      rw [wv_drop hwf, wv_drop hl, ← hlow] at hq
      have hw : ((m[p + b.length]).toNat + cy) % 4294967296 + 4294967296 * (((m[p + b.length]).toNat + cy) / 4294967296) = (m[p + b.length]).toNat + cy := by omega
      have hb1 : ((m[p + b.length]).toNat + cy) / 4294967296 ≤ 1 := by omega
      rw [Int.toNat_natCast] at hset
      have hfin : wv (m.set (p + b.length) ((((m[p + b.length]).toNat + cy) % 4294967296 : Nat) : Int)) = V := by
        generalize ((m[p + b.length]).toNat + cy) % 4294967296 = wd0 at *
        generalize ((m[p + b.length]).toNat + cy) / 4294967296 = bo' at *
        refine (borrow_eq (P := 4294967296 ^ (p + b.length + 1)) (Nat.pow_pos (by decide)) hb1 hbo ?_ hq.symm).1
        have h1 := congrArg (4294967296 ^ (p + b.length) * ·) hw
        simp only [Nat.mul_add] at h1
        rw [← Nat.mul_assoc, ← Nat.pow_succ] at h1
        generalize 4294967296 ^ (p + b.length + 1) * bo' = z1 at *
        generalize 4294967296 ^ (p + b.length + 1) * k = z2 at *
        generalize 4294967296 ^ (p + b.length) * cy = z3 at *
        generalize 4294967296 ^ (p + b.length) * wd0 = z5 at *
        generalize 4294967296 ^ (p + b.length) * (m[p + b.length]).toNat = z6 at *
        generalize 4294967296 ^ p * wv b = z7 at *
        clear hq hlow hdr hsl
        omega
      refine ⟨⟨?_, trivial⟩, rfl⟩
      show some (Blk.row 1 ((wc m).set _ _) false) = _
      rw [e0, Int.toNat_natCast, ew]
      refine congrArg (fun z => some (Blk.row 1 z false)) ((wc_set _ _ _).trans (congrArg wc ?_))
      exact eq_dw hwf hsl hfin
theorem quotGive_c (id : Nat) (l b : List Int) (p V k : Nat) (hl : WF l) (hb : WF b) (hp : p + b.length < l.length) (hll : l.length < 2 ^ 40)
    (hbo : k ≤ 1) (hV : V + 4294967296 ^ (p + b.length + 1) * k = wv l + 4294967296 ^ p * wv b) (hlow : V / 4294967296 ^ (p + b.length + 1) = wv l / 4294967296 ^ (p + b.length + 1)) :
    CN 178 [.own id l.length 1, i64 p, .d (wd b)] [(id, .row 1 (wc l) false)] (.tup []) [(id, .row 1 (wc (dw l.length V)) false)] := by
  have := (quotGive_1 l b p V k hl hb hp hll hbo hV hlow).ren (swp_swap 1 id)
  simp only [renAV.renAVs, renAV, renMem, renBlk, swp_a, i64, u] at this
  exact this
end Go.KM
end
section
/- A long division's round: plain laws. -/
namespace RN
theorem pow_s (k : Nat) : 4294967296 ^ (k + 1) = 4294967296 ^ k * 4294967296 := Nat.pow_succ ..
theorem pow_pos' (k : Nat) : 0 < 4294967296 ^ k := Nat.pow_pos (by decide)
theorem div_pow_s (V k : Nat) : V / 4294967296 ^ (k + 1) = V / 4294967296 ^ k / 4294967296 := by rw [pow_s, Nat.div_div_eq_div_mul]
theorem top2 {V k : Nat} (h : V < 4294967296 ^ (k + 2)) : V / 4294967296 ^ k = V / 4294967296 ^ (k + 1) % 4294967296 * 4294967296 + V / 4294967296 ^ k % 4294967296 := by
  have h1 : V / 4294967296 ^ k < 4294967296 * 4294967296 := Nat.div_lt_of_lt_mul (by rw [← Nat.mul_assoc, ← pow_s, ← pow_s]; exact h)
  rw [div_pow_s]
  generalize V / 4294967296 ^ k = X at *
  omega
theorem top3 {V k : Nat} (h : V < 4294967296 ^ (k + 3)) : V / 4294967296 ^ k = (V / 4294967296 ^ (k + 2) % 4294967296 * 4294967296 + V / 4294967296 ^ (k + 1) % 4294967296) * 4294967296 + V / 4294967296 ^ k % 4294967296 := by
  have h1 : V / 4294967296 ^ k < 4294967296 * 4294967296 * 4294967296 := Nat.div_lt_of_lt_mul (by rw [← Nat.mul_assoc, ← Nat.mul_assoc, ← pow_s, ← pow_s, ← pow_s]; exact h)
  rw [div_pow_s V (k + 1), div_pow_s]
  generalize V / 4294967296 ^ k = X at *
  omega
/-- One round: c is the divisor, moved to its place. -/
theorem round_mod (A c : Nat) : A % (c * 4294967296) = A % c + c * (A / c % 4294967296) := Nat.mod_mul
theorem round_div (A c : Nat) : A / c = A / (c * 4294967296) * 4294967296 + A / c % 4294967296 := by
  rw [← Nat.div_div_eq_div_mul]
  omega
theorem dw_set_zero {M Q i x : Nat} (hi : i < M) (hx : x < 4294967296) (hQ : Q % 4294967296 ^ (i + 1) = 0) (hl : Q < 4294967296 ^ M) : (dw M Q).set i (x : Int) = dw M (Q + 4294967296 ^ i * x) := by
  have hk : i < (dw M Q).length := by rw [dw_len]; exact hi
  have s := wv_set hk (x : Int)
  have hg := dw_get (V := Q) hi
  rw [List.getD_eq_getElem?_getD, List.getElem?_eq_getElem hk] at hg
  have hg : (dw M Q)[i] = ((Q / 4294967296 ^ i % 4294967296 : Nat) : Int) := hg
  have h0 : Q / 4294967296 ^ i % 4294967296 = 0 := by
    have := Nat.mod_mul (x := Q) (a := 4294967296 ^ i) (b := 4294967296)
    rw [← pow_s, hQ] at this
    have h1 : 4294967296 ^ i * (Q / 4294967296 ^ i % 4294967296) = 0 := by omega
    rcases Nat.mul_eq_zero.1 h1 with h | h
    · have := pow_pos' i; omega
    · exact h
  rw [hg, h0, wv_dw hl, Int.toNat_natCast, Int.toNat_natCast, Nat.mul_zero, Nat.add_zero] at s
  refine eq_dw (WF.set (dw_WF _ _) _ (by omega) (by omega)) (by simp [dw_len]) ?_
  exact s
end RN
end
section
/- Contracts: quot.long. -/
namespace Go.KM
open Go RN

/-- A call with one row of one's own, which it turns. -/
theorem VCall.row1 {μ : Nat → Option Blk} {C : List AV → Mem → AV → Mem → Prop} {raw : List AV} {K : AV → Mem → List Nat → Prop} (id : Nat) (c : Nat) (xs ys : List (List D)) (r : AV) (hm : μ id = some (.row c xs false))
    (h : argsA μ [id] raw fun l u t => C l [(id, .row c xs false)] r [(id, .row c ys false)] ∧ K r (u ++ [(id, .row c ys false)]) (t ++ [id] ++ [id])) : VCall μ C raw K :=
  .mk [(id, .row c xs false)] r [(id, .row c ys false)] ⟨hm, trivial⟩ rfl ⟨.inl (by simp [getM]), trivial⟩ (fun _ h => h) (by simp [ids]) (by simp [ids]) h

set_option maxRecDepth 20000 in
/-- quot.long. -/
theorem quotLong_1 (a b : List Int) (ha : WF a) (hb : WF b) (hn : 2 ≤ b.length) (hab : b.length ≤ a.length) (hla : a.length < 2 ^ 40)
    (hB : 4294967296 ^ (b.length - 2) * 4294967296 ≤ wv b) (hA : wv a < wv b * 4294967296 ^ (a.length - b.length)) (hB0 : 0 < wv b) (hB1 : 0 < (b.getD (b.length - 1) 0).toNat) :
    CN 159 [.own 1 a.length 1, .d (wd b)] [(1, .row 1 (wc a) false)] (.d (wd (dw (a.length - b.length) (wv a / wv b)))) [(1, .row 1 (wc (dw a.length (wv a % wv b))) false)] := by
  refine conF_of Go.Proofs.Tryz.func159 rfl (by kernel_rfl) ⟨rfl, trivial⟩ (Nat.le_of_ble_eq_true rfl) ?_
  have e0 : IntKind.i64.wrap ((a.length : Int) - ((b.map fun x => [D.int .u32 x]).length : Int)) = ((a.length - b.length : Nat) : Int) := by
    rw [List.length_map, wrap64 (by omega) (by omega)]
    omega
  generalize hM : a.length - b.length = M at *
  refine .of ⟨rfl, by rw [e0]; exact Int.natCast_nonneg _, by rw [e0]; show (M : Int) * 4 ≤ 140737488355328; omega, by rw [e0]; omega⟩ ?_
  have hVb : ∀ j, wv a % (wv b * 4294967296 ^ j) < wv b * 4294967296 ^ j := fun j => Nat.mod_lt _ (Nat.mul_pos hB0 (pow_pos' j))
  have hbl := wv_lt hb
  have hal := wv_lt ha
  refine .mk 0 (VLoop.mk Nat (fun j => frm 70 [.own 1 a.length 1, .d (wd b), .any, .any, .nils, i64 b.length, .own 15 M 1, i64 ((j : Int) - 1)])
      (fun j => [(1, .row 1 (wc (dw a.length (wv a % (wv b * 4294967296 ^ j)))) false), (15, .row 1 (wc (dw M (wv a / (wv b * 4294967296 ^ j) * 4294967296 ^ j))) false)])
      (fun j => j ≤ M) (fun j => j) M (Nat.le_refl _) ?_ ?_ ?_ ?_)
  · exact ⟨rfl, rfl, rfl, by rw [List.length_map], by rw [e0]; rfl, by rw [e0, Int.toNat_natCast, wrap64 (by omega) (by omega)], trivial⟩
  · refine ⟨?_, ?_, trivial⟩
    · show some (Blk.row 1 (wc a) false) = _
      rw [Nat.mod_eq_of_lt hA, dw_wv ha]
    · show some (Blk.row 1 (List.replicate _ _) false) = _
      rw [e0, Int.toNat_natCast, Nat.div_eq_of_lt hA, Nat.zero_mul]
      simp only [dw_zero, wc, List.map_replicate]
  · exact ⟨rfl, trivial⟩
  · intro j hj
    refine .mk (fun h3 => ?_) (fun h3 => ?_)
    · have h3 : 0 < j := by
        have : (0 : Int) ≤ (j : Int) - 1 := of_decide_eq_true h3
        omega
      obtain ⟨i, rfl⟩ : ∃ i, j = i + 1 := ⟨j - 1, by omega⟩
      have ei : ((i + 1 : Nat) : Int) - 1 = (i : Int) := by omega
      have w1 : IntKind.i64.wrap (((i + 1 : Nat) : Int) - 1 + (b.length : Int)) = ((i + b.length : Nat) : Int) := by rw [ei, wrap64 (by omega) (by omega)]; rfl
      have w2 : IntKind.i64.wrap (((i + b.length : Nat) : Int) - 1) = ((i + b.length - 1 : Nat) : Int) := by rw [wrap64 (by omega) (by omega)]; omega
      have w3 : IntKind.i64.wrap (((i + b.length : Nat) : Int) - 2) = ((i + b.length - 2 : Nat) : Int) := by rw [wrap64 (by omega) (by omega)]; omega
      have w4 : IntKind.i64.wrap ((b.length : Int) - 1) = ((b.length - 1 : Nat) : Int) := by rw [wrap64 (by omega) (by omega)]; omega
      have w5 : IntKind.i64.wrap ((b.length : Int) - 2) = ((b.length - 2 : Nat) : Int) := by rw [wrap64 (by omega) (by omega)]; omega
      have hVlt := hVb (i + 1)
      have hbp : wv b * 4294967296 ^ (i + 1) < 4294967296 ^ (i + b.length + 1) := by
        have : 4294967296 ^ (i + b.length + 1) = 4294967296 ^ b.length * 4294967296 ^ (i + 1) := by rw [← Nat.pow_add]; congr 1; omega
        rw [this]
        exact Nat.mul_lt_mul_of_pos_right hbl (pow_pos' _)
      generalize hV : wv a % (wv b * 4294967296 ^ (i + 1)) = V at *
      have hVt : V < 4294967296 ^ (i + b.length + 1) := by omega
      have hVl : V < 4294967296 ^ a.length := Nat.lt_of_lt_of_le hVt (pow_le (by omega))
      have k2 : i + b.length < (dw a.length V).length := by rw [dw_len]; omega
      have k1 : i + b.length - 1 < (dw a.length V).length := by rw [dw_len]; omega
      have k0 : i + b.length - 2 < (dw a.length V).length := by rw [dw_len]; omega
      have m1 : b.length - 1 < b.length := by omega
      have m0 : b.length - 2 < b.length := by omega
      refine .of ⟨by rw [w1]; omega, by rw [w1]; omega⟩ ?_
      refine .of (by rw [wc_len, dw_len]) ?_
      refine .mk (by rw [w1]; omega) ⟨_, by rw [w1, Int.toNat_natCast, Int.toNat_natCast]; exact wc_get k2, ?_⟩
      refine .of ⟨by rw [w1, w2]; omega, by rw [w1, w2]; omega⟩ ?_
      refine .of (by rw [wc_len, dw_len]) ?_
      refine .mk (by rw [w1, w2]; omega) ⟨_, by rw [w1, w2, Int.toNat_natCast, Int.toNat_natCast]; exact wc_get k1, ?_⟩
      refine .of ⟨by rw [w1, w3]; omega, by rw [w1, w3]; omega⟩ ?_
      refine .of (by rw [wc_len, dw_len]) ?_
      refine .mk (by rw [w1, w3]; omega) ⟨_, by rw [w1, w3, Int.toNat_natCast, Int.toNat_natCast]; exact wc_get k0, ?_⟩
      refine .mk (by rw [w4]; omega) ⟨_, by rw [w4, Int.toNat_natCast]; exact wd_get m1, ?_⟩
      refine .mk (by rw [w5]; omega) ⟨_, by rw [w5, Int.toNat_natCast]; exact wd_get m0, ?_⟩
      -- the guess
      have hg := quotGuess_c (V / 4294967296 ^ (i + b.length) % 4294967296) (V / 4294967296 ^ (i + b.length - 1) % 4294967296) (V / 4294967296 ^ (i + b.length - 2) % 4294967296) (b[b.length - 1]).toNat (b[b.length - 2]).toNat
        (Nat.mod_lt _ (by decide)) (Nat.mod_lt _ (by decide)) (Nat.mod_lt _ (by decide)) (by have := hb _ (List.getElem_mem m1); omega) (by have := hb _ (List.getElem_mem m0); omega) (by
          rw [List.getD_eq_getElem?_getD, List.getElem?_eq_getElem m1] at hB1
          exact hB1)
      have eT : (V / 4294967296 ^ (i + b.length) % 4294967296 * 4294967296 + V / 4294967296 ^ (i + b.length - 1) % 4294967296) * 4294967296 + V / 4294967296 ^ (i + b.length - 2) % 4294967296 = V / 4294967296 ^ i / 4294967296 ^ (b.length - 2) := by
        have := top3 (V := V) (k := i + b.length - 2) (by rw [show i + b.length - 2 + 3 = i + b.length + 1 by omega]; exact hVt)
        rw [show i + b.length - 2 + 2 = i + b.length by omega, show i + b.length - 2 + 1 = i + b.length - 1 by omega] at this
        rw [← this, Nat.div_div_eq_div_mul, ← Nat.pow_add]
        congr 2
        omega
      have eD : (b[b.length - 1]).toNat * 4294967296 + (b[b.length - 2]).toNat = wv b / 4294967296 ^ (b.length - 2) := by
        have := top2 (V := wv b) (k := b.length - 2) (by rw [show b.length - 2 + 2 = b.length by omega]; exact hbl)
        rw [show b.length - 2 + 1 = b.length - 1 by omega] at this
        rw [this, wv_getElem hb m1, wv_getElem hb m0]
      rw [eT, eD, u_toNat (hb _ (List.getElem_mem m1)).1, u_toNat (hb _ (List.getElem_mem m0)).1] at hg
      rw [dw_getElem k2, dw_getElem k1, dw_getElem k0]
      refine .by _ ⟨hg, ?_⟩
      have hstep := gq_step (R := V / 4294967296 ^ i) (b := wv b) (M := 4294967296 ^ (b.length - 2)) hB0 (pow_pos' _) rfl rfl (Nat.div_lt_of_lt_mul (by
        have : 4294967296 ^ i * (wv b * 4294967296) = wv b * 4294967296 ^ (i + 1) := by rw [pow_s]; ac_rfl
        omega)) (by
        rw [Nat.le_div_iff_mul_le (pow_pos' _), Nat.mul_comm]
        exact hB)
      have hgB : gq (V / 4294967296 ^ i / 4294967296 ^ (b.length - 2)) (wv b / 4294967296 ^ (b.length - 2)) ≤ 4294967295 := Nat.min_le_right _ _
      generalize gq (V / 4294967296 ^ i / 4294967296 ^ (b.length - 2)) (wv b / 4294967296 ^ (b.length - 2)) = g at *
      -- what is taken away in truth
      have hc : 0 < wv b * 4294967296 ^ i := Nat.mul_pos hB0 (pow_pos' i)
      have hcB : wv b * 4294967296 ^ (i + 1) = wv b * 4294967296 ^ i * 4294967296 := by rw [pow_s, Nat.mul_assoc]
      have hVm : V = wv a % (wv b * 4294967296 ^ i) + wv b * 4294967296 ^ i * (wv a / (wv b * 4294967296 ^ i) % 4294967296) := by
        rw [← hV, hcB]
        exact round_mod _ _
      have hQ : wv a / (wv b * 4294967296 ^ i) = wv a / (wv b * 4294967296 ^ (i + 1)) * 4294967296 + wv a / (wv b * 4294967296 ^ i) % 4294967296 := by
        rw [hcB]
        exact round_div _ _
      have hx : V / 4294967296 ^ i / wv b = wv a / (wv b * 4294967296 ^ i) % 4294967296 := by
        rw [Nat.div_div_eq_div_mul, Nat.mul_comm (4294967296 ^ i), hVm, Nat.add_mul_div_left _ _ hc, Nat.div_eq_of_lt (Nat.mod_lt _ hc), Nat.zero_add]
      rw [hx] at hstep
      have hxB : wv a / (wv b * 4294967296 ^ i) % 4294967296 < 4294967296 := Nat.mod_lt _ (by decide)
      have hrc : wv a % (wv b * 4294967296 ^ i) < wv b * 4294967296 ^ i := Nat.mod_lt _ hc
      have hcl : wv b * 4294967296 ^ i < 4294967296 ^ (i + b.length + 1) := Nat.lt_of_le_of_lt (Nat.mul_le_mul_left _ (pow_le (Nat.le_succ i))) hbp
      -- the quotient's row
      have hq0 : wv a / (wv b * 4294967296 ^ (i + 1)) * 4294967296 ^ (i + 1) + 4294967296 ^ i * (wv a / (wv b * 4294967296 ^ i) % 4294967296) = wv a / (wv b * 4294967296 ^ i) * 4294967296 ^ i := by
        generalize wv a / (wv b * 4294967296 ^ (i + 1)) = Y at hQ
        generalize wv a / (wv b * 4294967296 ^ i) = Z at *
        rw [pow_s]
        conv => rhs; rw [hQ]
        rw [Nat.add_mul]
        congr 1
        · ac_rfl
        · exact Nat.mul_comm _ _
      have hql : wv a / (wv b * 4294967296 ^ (i + 1)) * 4294967296 ^ (i + 1) < 4294967296 ^ M := by
        have h1 : wv a / wv b < 4294967296 ^ M := Nat.div_lt_of_lt_mul hA
        have h2 : wv a / (wv b * 4294967296 ^ (i + 1)) * 4294967296 ^ (i + 1) ≤ wv a / wv b := by
          rw [← Nat.div_div_eq_div_mul]
          exact Nat.div_mul_le_self _ _
        omega
      have hset := dw_set_zero (i := i) (show i < M by omega) hxB (Nat.mul_mod_left (wv a / (wv b * 4294967296 ^ (i + 1))) _) hql
      rw [hq0] at hset
      generalize hxd : wv a / (wv b * 4294967296 ^ i) % 4294967296 = x at *
      generalize hr : wv a % (wv b * 4294967296 ^ i) = r at *
      have hcx : 4294967296 ^ i * (x * wv b) = wv b * 4294967296 ^ i * x := by ac_rfl
      have hfin : ∀ (z : Int), z = (x : Int) → some (Blk.row 1 ((wc (dw M (wv a / (wv b * 4294967296 ^ (i + 1)) * 4294967296 ^ (i + 1)))).set i [.int .u32 z]) false) = some (Blk.row 1 (wc (dw M (wv a / (wv b * 4294967296 ^ i) * 4294967296 ^ i))) false) := by
        rintro z rfl
        rw [wc_set, hset]
      rcases (by omega : g = x ∨ g = x + 1) with rfl | rfl
      · have ht := quotTake_c 1 (dw a.length V) b i g r 0 (dw_WF _ _) hb hxB (by rw [dw_len]; omega) (by rw [dw_len]; exact hla) (by decide) (by rw [wv_dw hVl, hcx, Nat.mul_zero, Nat.add_zero]; omega) (by rw [dw_len]; omega) (by
          rw [wv_dw hVl, Nat.div_eq_of_lt (by omega), Nat.div_eq_of_lt hVt])
        rw [dw_len] at ht
        rw [ei]
        refine .row1 1 1 _ _ _ rfl ⟨ht, ?_⟩
        refine .no rfl ?_
        refine .of ⟨by omega, by omega⟩ ?_
        refine .of ⟨by rw [wc_len, dw_len], rfl, rfl, by omega⟩ ?_
        refine ⟨i, by omega, by omega, ⟨rfl, rfl, rfl, rfl, rfl, ?_, trivial⟩, ⟨by show some (Blk.row 1 (wc (dw a.length r)) false) = _; rw [← hr], hfin _ rfl, trivial⟩, ⟨rfl, trivial⟩⟩
        rw [wrap64 (by omega) (by omega)]
      · have hcg : 4294967296 ^ i * ((x + 1) * wv b) = wv b * 4294967296 ^ i * x + wv b * 4294967296 ^ i := by
          rw [← hcx, Nat.add_mul, Nat.one_mul, Nat.mul_add, Nat.mul_comm (wv b)]
        have hV2 : V + 4294967296 ^ (i + b.length + 1) - (wv b * 4294967296 ^ i * x + wv b * 4294967296 ^ i) < 4294967296 ^ (i + b.length + 1) := by omega
        have hV3 : V + 4294967296 ^ (i + b.length + 1) - (wv b * 4294967296 ^ i * x + wv b * 4294967296 ^ i) < 4294967296 ^ a.length := Nat.lt_of_lt_of_le hV2 (pow_le (by omega))
        have ht := quotTake_c 1 (dw a.length V) b i (x + 1) (V + 4294967296 ^ (i + b.length + 1) - (wv b * 4294967296 ^ i * x + wv b * 4294967296 ^ i)) 1 (dw_WF _ _) hb (by omega) (by rw [dw_len]; omega) (by rw [dw_len]; exact hla) (by decide) (by rw [wv_dw hVl, hcg, Nat.mul_one]; omega) (by rw [dw_len]; omega) (by
          rw [wv_dw hVl, Nat.div_eq_of_lt hV2, Nat.div_eq_of_lt hVt])
        have hg2 := quotGive_c 1 (dw a.length (V + 4294967296 ^ (i + b.length + 1) - (wv b * 4294967296 ^ i * x + wv b * 4294967296 ^ i))) b i r 1 (dw_WF _ _) hb (by rw [dw_len]; omega) (by rw [dw_len]; exact hla) (by decide) (by rw [wv_dw hV3, Nat.mul_one, Nat.mul_comm (4294967296 ^ i)]; omega) (by
          rw [wv_dw hV3, Nat.div_eq_of_lt hV2, Nat.div_eq_of_lt (by omega)])
        rw [dw_len] at ht hg2
        rw [ei]
        refine .row1 1 1 _ _ _ rfl ⟨ht, ?_⟩
        refine .yes rfl ?_
        refine .row1 1 1 _ _ _ rfl ⟨hg2, ?_⟩
        refine .of ⟨by omega, by omega⟩ ?_
        refine .of ⟨by rw [wc_len, dw_len], rfl, rfl, by omega⟩ ?_
        refine ⟨i, by omega, by omega, ⟨rfl, rfl, rfl, rfl, rfl, ?_, trivial⟩, ⟨by show some (Blk.row 1 (wc (dw a.length r)) false) = _; rw [← hr], hfin _ ?_, trivial⟩, ⟨rfl, trivial⟩⟩
        · rw [wrap64 (by omega) (by omega)]
        · rw [wrap32]
          omega
    · have h3 : j = 0 := by
        have : ¬ (0 : Int) ≤ (j : Int) - 1 := of_decide_eq_false h3
        omega
      subst h3
      simp only [Nat.pow_zero, Nat.mul_one]
      refine .of ⟨by rw [wc_len, dw_len], rfl⟩ ⟨⟨rfl, trivial⟩, rfl⟩
end Go.KM
end
section
/- Contracts: quot.Word, quot.Div. -/
namespace Go.KM
open Go RN

theorem limbDiv_i (r : Nat) (y : Int) (x : Nat) (hr : r < x) (hy : 0 ≤ y ∧ y < 4294967296) (hx : x < 4294967296) :
    CN 128 [u r, .d (.int .u32 y), u x] [] (.tup [u ((r * 4294967296 + y.toNat) / x), u ((r * 4294967296 + y.toNat) % x), .d (.bool true)]) [] := by
  have := limbDiv_c r y.toNat x (by omega) (by omega) hx hr
  rwa [u_toNat hy.1] at this
theorem word_step {A x i y : Nat} (hx : 0 < x) (hy : A / 4294967296 ^ i % 4294967296 = y) (hx2 : x < 4294967296) :
    (A / 4294967296 ^ (i + 1) % x * 4294967296 + y) / x < 4294967296 ∧ (A / 4294967296 ^ (i + 1) % x * 4294967296 + y) % x = A / 4294967296 ^ i % x ∧
    A / 4294967296 ^ (i + 1) / x * 4294967296 ^ (i + 1) + 4294967296 ^ i * ((A / 4294967296 ^ (i + 1) % x * 4294967296 + y) / x) = A / 4294967296 ^ i / x * 4294967296 ^ i := by
  have h1 : A / 4294967296 ^ i = A / 4294967296 ^ (i + 1) * 4294967296 + y := by rw [div_pow_s, ← hy]; omega
  have hyB : y < 4294967296 := by rw [← hy]; exact Nat.mod_lt _ (by decide)
  generalize hH : A / 4294967296 ^ (i + 1) = H at *
  rw [h1]
  have h2 := Nat.div_add_mod H x
  have hlt : H % x < x := Nat.mod_lt _ hx
  have h3 : H * 4294967296 + y = (H % x * 4294967296 + y) + x * (H / x * 4294967296) := by
    conv => lhs; rw [← h2]
    rw [Nat.add_mul, Nat.mul_assoc]
    omega
  refine ⟨Nat.div_lt_of_lt_mul ?_, ?_, ?_⟩
  · have : (H % x + 1) * 4294967296 ≤ x * 4294967296 := Nat.mul_le_mul_right _ hlt
    omega
  · rw [h3, Nat.add_mul_mod_self_left]
  · rw [h3, Nat.add_mul_div_left _ _ hx, pow_s, Nat.add_mul, Nat.add_comm]
    congr 1
    · exact Nat.mul_comm _ _
    · ac_rfl
set_option maxRecDepth 10000 in
/-- quot.Word. -/
theorem quotWord_c (a : List Int) (x : Nat) (ha : WF a) (la : a.length < 2 ^ 40) (hx : x < 4294967296) (h0 : 0 < x) : CN 95 [.d (wd a), u x] [] (.tup [.d (wn (wv a / x)), u (wv a % x), .d (.bool true)]) [] := by
  refine con_of Go.Proofs.Tryz.func95 rfl (by kernel_rfl) (Nat.le_of_ble_eq_true rfl) ?_
  refine .no (by simp; omega) ?_
  refine .of ⟨rfl, by omega, by rw [List.length_map]; show (a.length : Int) * 4 ≤ 140737488355328; omega, by rw [List.length_map]; omega⟩ ?_
  have hal := wv_lt ha
  refine .mk 0 (VLoop.mk Nat (fun j => frm 37 [.d (wd a), u x, .any, .any, .own 12 a.length 1, u (wv a / 4294967296 ^ j % x), .d (.bool false), i64 ((j : Int) - 1)]) (fun j => [(12, .row 1 (wc (dw a.length (wv a / 4294967296 ^ j / x * 4294967296 ^ j))) false)])
      (fun j => j ≤ a.length) (fun j => j) a.length (Nat.le_refl _) ?_ ?_ ?_ ?_)
  · refine ⟨rfl, rfl, by rw [List.length_map]; rfl, ?_, rfl, by rw [List.length_map, wrap64 (by omega) (by omega)], trivial⟩
    rw [Nat.div_eq_of_lt hal, Nat.zero_mod]
    rfl
  · refine ⟨?_, trivial⟩
    show some (Blk.row 1 (List.replicate _ _) false) = _
    rw [List.length_map, Int.toNat_natCast, Nat.div_eq_of_lt hal, Nat.zero_div, Nat.zero_mul]
    simp only [dw_zero, wc, List.map_replicate]
  · trivial
  · intro j hj
    refine .mk (fun h3 => ?_) (fun h3 => ?_)
    · have h3 : 0 < j := by
        have : (0 : Int) ≤ (j : Int) - 1 := of_decide_eq_true h3
        omega
      obtain ⟨i, rfl⟩ : ∃ i, j = i + 1 := ⟨j - 1, by omega⟩
      have ei : ((i + 1 : Nat) : Int) - 1 = (i : Int) := by omega
      have hi : i < a.length := by omega
      have hxa := ha _ (List.getElem_mem hi)
      obtain ⟨s1, s2, s3⟩ := word_step h0 (wv_getElem ha hi).symm hx
      have hql : wv a / 4294967296 ^ (i + 1) / x * 4294967296 ^ (i + 1) < 4294967296 ^ a.length := by
        have h1 : wv a / 4294967296 ^ (i + 1) / x * 4294967296 ^ (i + 1) ≤ wv a / 4294967296 ^ (i + 1) * 4294967296 ^ (i + 1) := Nat.mul_le_mul_right _ (Nat.div_le_self _ _)
        have h2 := Nat.div_mul_le_self (wv a) (4294967296 ^ (i + 1))
        omega
      have hset := dw_set_zero (i := i) hi s1 (Nat.mul_mod_left _ _) hql
      rw [s3] at hset
      refine .mk (by rw [ei]; omega) ⟨_, by rw [ei, Int.toNat_natCast]; exact wd_get hi, ?_⟩
      refine .by _ ⟨limbDiv_i _ _ x (Nat.mod_lt _ h0) hxa hx, ?_⟩
      refine .of ⟨by rw [ei]; omega, by rw [ei]; omega⟩ ?_
      refine .of ⟨by rw [wc_len, dw_len], rfl, rfl, by rw [ei]; omega⟩ ?_
      refine ⟨i, by omega, by omega, ⟨rfl, rfl, rfl, ?_, rfl, ?_, trivial⟩, ⟨?_, trivial⟩, trivial⟩
      · exact u_eq (congrArg Nat.cast s2)
      · rw [ei, wrap64 (by omega) (by omega)]
      · show some (Blk.row 1 ((wc _).set _ _) false) = _
        rw [ei, Int.toNat_natCast]
        exact congrArg (fun z => some (Blk.row 1 z false)) ((wc_set _ _ _).trans (congrArg wc hset))
    · have h3 : j = 0 := by
        have : ¬ (0 : Int) ≤ (j : Int) - 1 := of_decide_eq_false h3
        omega
      subst h3
      have hlt : wv a / 4294967296 ^ 0 / x * 4294967296 ^ 0 < 4294967296 ^ a.length := by
        rw [Nat.pow_zero, Nat.div_one, Nat.mul_one]
        have := Nat.div_le_self (wv a) x
        omega
      have hn := natNorm_w (dw_WF a.length (wv a / 4294967296 ^ 0 / x * 4294967296 ^ 0)) (by rw [dw_len]; exact la)
      rw [wv_dw hlt] at hn
      refine .by (.d (wn (wv a / x))) (.of ⟨by rw [wc_len, dw_len], rfl⟩ ⟨by rw [Nat.pow_zero, Nat.div_one, Nat.mul_one] at hn ⊢; exact hn, trivial, ?_⟩)
      show AV.tup [_, u _, _] = _
      rw [Nat.pow_zero, Nat.div_one]

theorem wl_ge {n m : Nat} (h : 4294967296 ^ m ≤ n) : m < (wl n).length := by
  rcases Nat.lt_or_ge m (wl n).length with h1 | h1
  · exact h1
  · have := wl_len_ge h1
    omega
theorem wl_len_pos {n : Nat} (h : n ≠ 0) : 4294967296 ^ ((wl n).length - 1) ≤ n := by
  obtain ⟨h1, h2, h3⟩ := wl_getLast h
  rcases Nat.lt_or_ge n (4294967296 ^ ((wl n).length - 1)) with h4 | h4
  · have := wl_len h4
    omega
  · exact h4
theorem quotLong_c (id : Nat) (hid : id ≠ 15) (a b : List Int) (ha : WF a) (hb : WF b) (hn : 2 ≤ b.length) (hab : b.length ≤ a.length) (hla : a.length < 2 ^ 40)
    (hB : 4294967296 ^ (b.length - 2) * 4294967296 ≤ wv b) (hA : wv a < wv b * 4294967296 ^ (a.length - b.length)) (hB0 : 0 < wv b) (hB1 : 0 < (b.getD (b.length - 1) 0).toNat) :
    CN 159 [.own id a.length 1, .d (wd b)] [(id, .row 1 (wc a) false)] (.d (wd (dw (a.length - b.length) (wv a / wv b)))) [(id, .row 1 (wc (dw a.length (wv a % wv b))) false)] := by
  have := (quotLong_1 a b ha hb hn hab hla hB hA hB0 hB1).ren (swp_swap 1 id)
  simp only [renAV.renAVs, renAV, renMem, renBlk, swp_a] at this
  exact this
theorem natOf_w (n : Nat) (h : n < 18446744073709551616) : CN 30 [.d (.int .u64 n)] [] (.d (wn n)) [] := by
  have h0 := natOf_c n h
  have hw : WF [((n % 4294967296 : Nat) : Int), ((n / 4294967296 : Nat) : Int)] := WF.cons (by omega) (by omega) (WF.cons (by omega) (by omega) .nil)
  have hv : wv [((n % 4294967296 : Nat) : Int), ((n / 4294967296 : Nat) : Int)] = n := by
    simp only [wv, Int.toNat_natCast]
    omega
  rw [trimL_wl hw, hv] at h0
  exact h0
/-- quot.Div where there is none. -/
theorem quotDiv_no (a b : List Int) (hb : WF b) (lb : b.length < 2 ^ 37) (h : wv b = 0) : CN 125 [.d (wd a), .d (wd b)] [] (.tup [.d (wn 0), .d (wn 0), .d (.bool false)]) [] := by
  refine con_of Go.Proofs.Tryz.func125 rfl (by kernel_rfl) (Nat.le_of_ble_eq_true rfl) ?_
  refine .by _ ⟨natNorm_w hb (by omega), ?_⟩
  rw [h]
  refine .yes (by simp [wl_zero, wn, wd]) ?_
  refine ⟨trivial, ?_⟩
  rw [wn, wl_zero]
  rfl
set_option maxRecDepth 20000 in
/-- quot.Div. -/
theorem quotDiv_c (a b : List Int) (ha : WF a) (hb : WF b) (la : a.length < 2 ^ 37) (lb : b.length < 2 ^ 37) (h : wv b ≠ 0) : CN 125 [.d (wd a), .d (wd b)] [] (.tup [.d (wn (wv a / wv b)), .d (wn (wv a % wv b)), .d (.bool true)]) [] := by
  refine con_of Go.Proofs.Tryz.func125 rfl (by kernel_rfl) (Nat.le_of_ble_eq_true rfl) ?_
  refine .by _ ⟨natNorm_w hb (by omega), ?_⟩
  have lB : (wl (wv b)).length ≤ b.length := wl_len_wv hb
  generalize wv b = B at *
  have WB := wl_WF B
  have vB := wv_wl B
  obtain ⟨p1, p2, p3⟩ := wl_getLast h
  refine .no (by rw [List.length_map]; exact beq_eq_false_iff_ne.2 (by omega)) ?_
  refine .by _ ⟨natCmp_c a (wl B) ha WB (by omega) (by omega), ?_⟩
  rw [vB]
  refine .mk (fun h1 => ?_) (fun h1 => ?_)
  · have h1 : wv a < B := cmpI_lt.1 (by simpa using h1)
    refine .by _ ⟨natNorm_w ha (by omega), ?_⟩
    refine ⟨trivial, ?_⟩
    rw [Nat.div_eq_of_lt h1, Nat.mod_eq_of_lt h1]
    show AV.tup [.d (.sl []), _, _] = AV.tup [.d (wd (wl 0)), _, _]
    rw [wl_zero]
    rfl
  · have h1 : B ≤ wv a := by
      rcases Nat.lt_or_ge (wv a) B with h2 | h2
      · have := cmpI_lt.2 h2
        have h1 : ¬ (cmpI (wv a) B < 0) := by simpa using h1
        omega
      · exact h2
    refine .mk (fun h2 => ?_) (fun h2 => ?_)
    · have h2 : (wl B).length = 1 := by
        have : ((wl B).length : Int) = 1 := by simpa using h2
        omega
      have hw := WB _ (List.getElem_mem (show 0 < (wl B).length by omega))
      have hB : ((wl B)[0]).toNat = B := by
        have := wv_split (wl B) 1 (by omega)
        rw [vB, List.drop_of_length_le (by omega)] at this
        have e : (wl B).take 1 = [(wl B)[0]] := by
          rw [List.take_one, List.head?_eq_getElem?, List.getElem?_eq_getElem (by omega)]
          rfl
        rw [e] at this
        simp [wv] at this
        omega
      refine .mk (by decide) ⟨_, wd_get (show 0 < (wl B).length by omega), ?_⟩
      have hq := quotWord_c a ((wl B)[0]).toNat ha (by omega) (by omega) (by omega)
      rw [u_toNat hw.1, hB] at hq
      refine .by _ ⟨hq, ?_⟩
      have hlt : wv a % B < 4294967296 := Nat.lt_trans (Nat.mod_lt _ (by omega)) (by omega)
      have ho := natOf_w (wv a % B) (by omega)
      have e2 : IntKind.u64.wrap ((wv a % B : Nat) : Int) = ((wv a % B : Nat) : Int) := by rw [wrapU64]; omega
      refine .by (.d (wn (wv a % B))) ⟨?_, ?_⟩
      · rw [e2]
        exact ho
      · exact ⟨trivial, rfl⟩
    · have h2 : (wl B).length ≠ 1 := by
        intro e
        rw [List.length_map, e] at h2
        simp at h2
      have hlt : (wl B).length - 1 < (wl B).length := p2
      have hw := WB _ (List.getElem_mem p2)
      have e1 : IntKind.i64.wrap ((((wl B).map fun x => [D.int .u32 x]).length : Int) - 1) = (((wl B).length - 1 : Nat) : Int) := by
        rw [List.length_map, wrap64 (by omega) (by omega)]
        omega
      refine .mk (by rw [e1]; omega) ⟨_, by rw [e1, Int.toNat_natCast]; exact wd_get p2, ?_⟩
      have hlen := limbLen_c ((wl B)[(wl B).length - 1]).toNat (by omega)
      rw [u_toNat hw.1] at hlen
      refine .by _ ⟨hlen, ?_⟩
      have hb1 : bl ((wl B)[(wl B).length - 1]).toNat ≤ 32 := bl_le.2 (by omega)
      have hb0 : 0 < bl ((wl B)[(wl B).length - 1]).toNat := bl_pos (by omega)
      have htop := wl_top h p2
      generalize hL : bl ((wl B)[(wl B).length - 1]).toNat = L at *
      have e2 : IntKind.i64.wrap (32 - (L : Int)) = ((32 - L : Nat) : Int) := by rw [wrap64 (by omega) (by omega)]; omega
      generalize hs : 32 - L = s at *
      have hs32 : s ≤ 32 := by omega
      have hP : 0 < 2 ^ s := Nat.pow_pos (by decide)
      have hup := twosUp_own 60 a s ha (by omega) (by omega)
      have hupb := twosUp_c (wl B) s WB (by omega) (by omega)
      rw [vB] at hupb
      -- what is divided
      have hdiv : wv a * 2 ^ s / (B * 2 ^ s) = wv a / B := Nat.mul_div_mul_right _ _ hP
      have hmod : wv a * 2 ^ s % (B * 2 ^ s) = wv a % B * 2 ^ s := Nat.mul_mod_mul_right ..
      have hle : B * 2 ^ s ≤ wv a * 2 ^ s := Nat.mul_le_mul_right _ h1
      have hBge : B ≤ B * 2 ^ s := Nat.le_mul_of_pos_right _ hP
      have hAlen : (wl (wv a * 2 ^ s)).length ≤ a.length + 1 := by
        refine wl_len ?_
        rw [pow_s]
        have h5 := wv_lt ha
        have h6 : 2 ^ s ≤ 4294967296 := by
          have : 2 ^ s ≤ 2 ^ 32 := Nat.pow_le_pow_right (by decide) hs32
          omega
        have h7 : wv a * 2 ^ s ≤ wv a * 4294967296 := Nat.mul_le_mul_left _ h6
        have h8 : wv a * 4294967296 < 4294967296 ^ a.length * 4294967296 := Nat.mul_lt_mul_of_pos_right h5 (by decide)
        omega
      generalize wv a * 2 ^ s = A' at *
      generalize hB' : B * 2 ^ s = B' at *
      have hB0 : B' ≠ 0 := by omega
      obtain ⟨g1, g2, g3⟩ := wl_getLast hB0
      have hpos := wl_len_pos hB0
      have hn2 : 2 ≤ (wl B').length := by
        have h5 := wl_len_pos h
        have h6 : 4294967296 ^ 1 ≤ 4294967296 ^ ((wl B).length - 1) := pow_le (by omega)
        have := wl_ge (n := B') (m := 1) (by omega)
        omega
      have hAB : (wl B').length ≤ (wl A').length := by
        rcases Nat.lt_or_ge (wl A').length (wl B').length with h5 | h5
        · have := len_lt h5
          omega
        · exact h5
      have hAlt := wl_len_ge (Nat.le_refl (wl A').length)
      have hWA : WF (wl A' ++ [0]) := WF.append (wl_WF _) (WF.cons (by decide) (by decide) .nil)
      have hvA : wv (wl A' ++ [0]) = A' := by rw [wv_append, wv_wl]; simp [wv]
      have hlA : (wl A' ++ [0]).length = (wl A').length + 1 := by simp
      have hlong := quotLong_c 60 (by decide) (wl A' ++ [0]) (wl B') hWA (wl_WF _) hn2 (by rw [hlA]; omega) (by rw [hlA]; omega) (by
          rw [wv_wl, ← pow_s, show (wl B').length - 2 + 1 = (wl B').length - 1 by omega]
          exact hpos) (by
          rw [hvA, wv_wl, hlA]
          have h5 : 4294967296 ^ (wl A').length = 4294967296 ^ ((wl B').length - 1) * 4294967296 ^ ((wl A').length + 1 - (wl B').length) := by
            rw [← Nat.pow_add]
            congr 1
            omega
          have h6 := Nat.mul_le_mul_right (4294967296 ^ ((wl A').length + 1 - (wl B').length)) hpos
          omega) (by rw [wv_wl]; omega) (by
          rw [List.getD_eq_getElem?_getD, List.getElem?_eq_getElem g2]
          have := wl_WF B' _ (List.getElem_mem g2)
          show 0 < ((wl B')[(wl B').length - 1]).toNat
          omega)
      rw [hvA, wv_wl, hlA, hdiv, hmod] at hlong
      refine .new 60 _ _ rfl ⟨by rw [e2]; exact hup, ?_⟩
      refine .of rfl ?_
      refine .of ⟨by rw [wc_len], rfl, rfl, by show ((wl A').length + 1) * 4 ≤ 140737488355328; omega, by show (wl A').length + 1 ≤ 140737488355328; omega, by simp⟩ ?_
      refine .by _ ⟨by rw [e2]; exact hupb, ?_⟩
      have hrow : wc (wl A') ++ [[D.int .u32 0]] = wc (wl A' ++ [0]) := by simp [wc]
      have hq : wv a / B < 4294967296 ^ ((wl A').length + 1 - (wl B').length) := by
        rw [← hdiv]
        refine Nat.div_lt_of_lt_mul ?_
        have h5 : 4294967296 ^ (wl A').length = 4294967296 ^ ((wl B').length - 1) * 4294967296 ^ ((wl A').length + 1 - (wl B').length) := by
          rw [← Nat.pow_add]
          congr 1
          omega
        have h6 := Nat.mul_le_mul_right (4294967296 ^ ((wl A').length + 1 - (wl B').length)) hpos
        omega
      have hrl : wv a % B * 2 ^ s < 4294967296 ^ ((wl A').length + 1) := by
        rw [← hmod]
        have h5 := Nat.mod_le A' B'
        have h6 : 4294967296 ^ (wl A').length ≤ 4294967296 ^ ((wl A').length + 1) := pow_le (by omega)
        omega
      refine .row1 60 1 (wc (wl A' ++ [0])) _ _ (by show some (Blk.row 1 (wc (wl A') ++ [[D.int .u32 0]]) false) = _; rw [hrow]) ⟨hlong, ?_⟩
      have hn1 := natNorm_w (dw_WF ((wl A').length + 1 - (wl B').length) (wv a / B)) (by rw [dw_len]; omega)
      rw [wv_dw hq] at hn1
      refine .by _ ⟨hn1, ?_⟩
      have hd := twosDown_c (dw ((wl A').length + 1) (wv a % B * 2 ^ s)) s (dw_WF _ _) (by rw [dw_len]; omega) (by omega)
      rw [wv_dw hrl, Nat.mul_div_cancel _ hP] at hd
      refine .by (.d (wn (wv a % B))) (.of ⟨by rw [wc_len, dw_len]; rfl, rfl⟩ ⟨by rw [e2]; exact hd, trivial, rfl⟩)
end Go.KM
end
section
/- Contracts: common. -/
namespace Go.KM
open Go RN

def u64 (n : Nat) : AV := .d (.int .u64 n)
/-- common.small. -/
theorem comSmall_c (x y : Nat) (hx : x < 18446744073709551616) (hy : y < 18446744073709551616) : CN 156 [u64 x, u64 y] [] (u64 (Nat.gcd x y)) [] := by
  refine con_of Go.Proofs.Tryz.func156 rfl (by kernel_rfl) (Nat.le_of_ble_eq_true rfl) ?_
  refine .mk 0 (VLoop.mk (Nat × Nat) (fun s => frm 12 [u64 s.1, u64 s.2, .any, .any, u64 0]) (fun _ => [])
    (fun s => s.1 < 18446744073709551616 ∧ s.2 < 18446744073709551616 ∧ Nat.gcd s.1 s.2 = Nat.gcd x y) (fun s => s.2) (x, y) ⟨hx, hy, rfl⟩ ⟨rfl, rfl, rfl, trivial⟩ trivial trivial ?_)
  rintro ⟨p, q⟩ ⟨h1, h2, h3⟩
  simp only at h1 h2 h3
  refine .mk (fun h4 => ?_) (fun h4 => ?_)
  · have h4 : q ≠ 0 := by rintro rfl; simp at h4
    refine .of (by omega) ?_
    have hlt := Nat.mod_lt p (Nat.pos_of_ne_zero h4)
    refine ⟨(q, p % q), ⟨h2, by show p % q < _; omega, ?_⟩, hlt, ⟨rfl, rfl, rfl, trivial⟩, trivial, trivial⟩
    show Nat.gcd q (p % q) = _
    rw [← h3, Nat.gcd_comm p q, Nat.gcd_rec q p, Nat.gcd_comm]
  · have h4 : q = 0 := by
      have : ((q : Int) != 0) = false := h4
      simpa using this
    subst h4
    rw [Nat.gcd_zero_right] at h3
    exact ⟨trivial, by rw [← h3]; rfl⟩

set_option maxRecDepth 10000 in
/-- common.Gcd. -/
theorem comGcd_c (a b : List Int) (ha : WF a) (hb : WF b) (la : a.length < 2 ^ 37) (lb : b.length < 2 ^ 37) : CN 123 [.d (wd a), .d (wd b)] [] (.d (wn (Nat.gcd (wv a) (wv b)))) [] := by
  refine con_of Go.Proofs.Tryz.func123 rfl (by kernel_rfl) (Nat.le_of_ble_eq_true rfl) ?_
  refine .by _ ⟨natNorm_w ha (by omega), ?_⟩
  refine .by _ ⟨natNorm_w hb (by omega), ?_⟩
  have l1 : (wl (wv a)).length < 2 ^ 37 := Nat.lt_of_le_of_lt (wl_len_wv ha) la
  have l2 : (wl (wv b)).length < 2 ^ 37 := Nat.lt_of_le_of_lt (wl_len_wv hb) lb
  refine .mk 0 (VLoop.mk (Nat × Nat) (fun s => frm 56 [.d (wn s.1), .d (wn s.2), .any, .any, .nils]) (fun _ => [])
    (fun s => (wl s.1).length < 2 ^ 37 ∧ (wl s.2).length < 2 ^ 37 ∧ Nat.gcd s.1 s.2 = Nat.gcd (wv a) (wv b)) (fun s => s.2) (wv a, wv b) ⟨l1, l2, rfl⟩ ⟨rfl, rfl, rfl, trivial⟩ trivial trivial ?_)
  rintro ⟨p, q⟩ ⟨h1, h2, h3⟩
  simp only at h1 h2 h3
  have hlen : ((((wl q).map fun x => [D.int .u32 x]).length : Nat) : Int) = ((wl q).length : Int) := by rw [List.length_map]
  refine .mk (fun h4 => ?_) (fun h4 => ?_)
  · have h4 : 2 < (wl q).length := by
      have : ((2 : Nat) : Int) < ((((wl q).map fun x => [D.int .u32 x]).length : Nat) : Int) := of_decide_eq_true h4
      omega
    have h0 : q ≠ 0 := by rintro rfl; rw [wl_zero] at h4; simp at h4
    have hd := quotDiv_c (wl p) (wl q) (wl_WF _) (wl_WF _) h1 h2 (by rw [wv_wl]; exact h0)
    rw [wv_wl, wv_wl] at hd
    have hlt := Nat.mod_lt p (Nat.pos_of_ne_zero h0)
    refine .by _ ⟨hd, ?_⟩
    refine ⟨(q, p % q), ⟨h2, ?_, ?_⟩, hlt, ⟨rfl, rfl, rfl, trivial⟩, trivial, trivial⟩
    · show (wl (p % q)).length < 2 ^ 37
      have : (wl (p % q)).length ≤ (wl q).length := wl_len (Nat.lt_trans hlt (wl_len_ge (Nat.le_refl _)))
      omega
    · show Nat.gcd q (p % q) = _
      rw [← h3, Nat.gcd_comm p q, Nat.gcd_rec q p, Nat.gcd_comm]
  · have h4 : (wl q).length ≤ 2 := by
      have : ¬ ((2 : Nat) : Int) < ((((wl q).map fun x => [D.int .u32 x]).length : Nat) : Int) := of_decide_eq_false h4
      omega
    refine .mk (fun h5 => ?_) (fun h5 => ?_)
    · have h5 : q = 0 := by
        have : ((((wl q).map fun x => [D.int .u32 x]).length : Int) == 0) = true := h5
        rw [hlen] at this
        exact wl_nil.1 (List.length_eq_zero_iff.1 (by simpa using this))
      subst h5
      rw [Nat.gcd_zero_right] at h3
      exact ⟨trivial, by rw [← h3]; rfl⟩
    · have h0 : q ≠ 0 := by
        rintro rfl
        have : ((((wl 0).map fun x => [D.int .u32 x]).length : Int) == 0) = false := h5
        rw [wl_zero] at this
        simp at this
      have hd := quotDiv_c (wl p) (wl q) (wl_WF _) (wl_WF _) h1 h2 (by rw [wv_wl]; exact h0)
      rw [wv_wl, wv_wl] at hd
      have hlt := Nat.mod_lt p (Nat.pos_of_ne_zero h0)
      have hq : q < 18446744073709551616 := by
        have := wl_len_ge h4
        omega
      have hs1 := natSmall_c (wl q) (wl_WF _) (by omega) (by rw [wv_wl]; exact hq)
      have hs2 := natSmall_c (wl (p % q)) (wl_WF _) (by have := wl_len (n := p % q) (m := 2) (by omega); omega) (by rw [wv_wl]; omega)
      rw [wv_wl] at hs1 hs2
      have hsm := comSmall_c q (p % q) hq (by omega)
      have hg : Nat.gcd q (p % q) = Nat.gcd (wv a) (wv b) := by rw [← h3, Nat.gcd_comm p q, Nat.gcd_rec q p, Nat.gcd_comm]
      rw [hg] at hsm
      have hgl : Nat.gcd (wv a) (wv b) < 18446744073709551616 := by
        rw [← hg]
        exact Nat.lt_of_le_of_lt (Nat.gcd_le_left _ (Nat.pos_of_ne_zero h0)) hq
      refine .by _ ⟨hd, ?_⟩
      refine .by _ ⟨hs1, ?_⟩
      refine .by _ ⟨hs2, ?_⟩
      refine .by _ ⟨hsm, ?_⟩
      refine .by _ ⟨natOf_w _ hgl, trivial, rfl⟩

/-- common.one. -/
theorem comOne_c (n : Nat) : CN 124 [.d (wn n)] [] (.d (.bool (decide (n = 1)))) [] := by
  refine con_of Go.Proofs.Tryz.func124 rfl (by kernel_rfl) (Nat.le_of_ble_eq_true rfl) ?_
  have hlen : ((((wl n).map fun x => [D.int .u32 x]).length : Nat) : Int) = ((wl n).length : Int) := by rw [List.length_map]
  refine .mk (fun h1 => ?_) (fun h1 => ?_)
  · have h1 : (wl n).length = 1 := by
      have : ((((wl n).map fun x => [D.int .u32 x]).length : Int) == 1) = true := h1
      rw [hlen] at this
      have := beq_iff_eq.1 this
      omega
    have h0 : n ≠ 0 := by rintro rfl; rw [wl_zero] at h1; simp at h1
    have e : wl n = [(n : Int)] := by
      rw [wl_pos h0] at h1 ⊢
      have : wl (n / 4294967296) = [] := List.length_eq_zero_iff.1 (by simpa using h1)
      rw [this]
      have := wl_nil.1 this
      congr 1
      omega
    have hg : ((wl n).map fun x => [D.int .u32 x])[(0 : Int).toNat]? = some [.int .u32 (n : Int)] := by rw [e]; rfl
    refine .mk (by decide) ⟨_, hg, ?_⟩
    refine ⟨trivial, ?_⟩
    show AV.d (.bool ((n : Int) == 1)) = _
    congr 2
    by_cases h : n = 1
    · subst h; rfl
    · rw [decide_eq_false h]
      exact beq_eq_false_iff_ne.2 (by omega)
  · have h1 : n ≠ 1 := by
      rintro rfl
      have : ((((wl 1).map fun x => [D.int .u32 x]).length : Int) == 1) = false := h1
      rw [wl_pos (by decide), show 1 / 4294967296 = 0 from rfl, wl_zero] at this
      simp at this
    refine ⟨trivial, ?_⟩
    rw [decide_eq_false h1]
    rfl
/-- common.Cancel. -/
theorem comCancel_c (a b : List Int) (ha : WF a) (hb : WF b) (la : a.length < 2 ^ 37) (lb : b.length < 2 ^ 37) :
    CN 91 [.d (wd a), .d (wd b)] [] (.tup [.d (wn (wv a / Nat.gcd (wv a) (wv b))), .d (wn (wv b / Nat.gcd (wv a) (wv b)))]) [] := by
  refine con_of Go.Proofs.Tryz.func91 rfl (by kernel_rfl) (Nat.le_of_ble_eq_true rfl) ?_
  refine .by _ ⟨comGcd_c a b ha hb la lb, ?_⟩
  have hgl : ∀ g, g = Nat.gcd (wv a) (wv b) → (wl g).length < 2 ^ 37 := by
    rintro g rfl
    by_cases h : wv a = 0
    · rw [h, Nat.gcd_zero_left]
      exact Nat.lt_of_le_of_lt (wl_len_wv hb) lb
    · have : (wl (Nat.gcd (wv a) (wv b))).length ≤ a.length := wl_len (Nat.lt_of_le_of_lt (Nat.gcd_le_left _ (Nat.pos_of_ne_zero h)) (wv_lt ha))
      omega
  generalize hg : Nat.gcd (wv a) (wv b) = g at *
  have hgl := hgl g rfl
  have hlen : ((((wl g).map fun x => [D.int .u32 x]).length : Nat) : Int) = ((wl g).length : Int) := by rw [List.length_map]
  refine .mk (fun h1 => ?_) (fun h1 => ?_)
  · have h1 : g = 0 := by
      have : ((((wl g).map fun x => [D.int .u32 x]).length : Int) == 0) = true := h1
      rw [hlen] at this
      exact wl_nil.1 (List.length_eq_zero_iff.1 (by simpa using this))
    subst h1
    refine ⟨trivial, ?_⟩
    rw [Nat.div_zero, Nat.div_zero, wn, wl_zero]
    rfl
  · have h1 : g ≠ 0 := by
      rintro rfl
      have : ((((wl 0).map fun x => [D.int .u32 x]).length : Int) == 0) = false := h1
      rw [wl_zero] at this
      simp at this
    refine .by _ ⟨comOne_c g, ?_⟩
    refine .mk (fun h2 => ?_) (fun h2 => ?_)
    · have h2 : g = 1 := of_decide_eq_true h2
      subst h2
      refine .by _ ⟨natNorm_w ha (by omega), ?_⟩
      refine .by _ ⟨natNorm_w hb (by omega), trivial, ?_⟩
      rw [Nat.div_one, Nat.div_one]
      rfl
    · have hd1 := quotDiv_c a (wl g) ha (wl_WF _) la hgl (by rw [wv_wl]; exact h1)
      have hd2 := quotDiv_c b (wl g) hb (wl_WF _) lb hgl (by rw [wv_wl]; exact h1)
      rw [wv_wl] at hd1 hd2
      refine .by _ ⟨hd1, ?_⟩
      refine .by _ ⟨hd2, trivial, rfl⟩
end Go.KM
end
section
/- Fractions as three lists: plain laws. -/
namespace RN

/-- A sign and a distance from 0. -/
def sg (neg : Bool) (n : Nat) : Int := if neg then -(n : Int) else n

/-- The value of a fraction as it stands. -/
def fv (neg : Bool) (n d : List Int) : Rat := mkRat (sg neg (wv n)) (wv d)

/-- The right fraction of a value. -/
def qs (q : Rat) : Bool := decide (q.num < 0)
def qn (q : Rat) : List Int := wl q.num.natAbs
def qd (q : Rat) : List Int := wl q.den

theorem sg_natAbs (neg : Bool) (n : Nat) : (sg neg n).natAbs = n := by
  unfold sg; split <;> simp

theorem sg_of_int (z : Int) : sg (decide (z < 0)) z.natAbs = z := by
  unfold sg
  by_cases h : z < 0
  · simp [h]; omega
  · simp [h]; omega

theorem sg_mul (s t : Bool) (n m : Nat) : sg (s != t) (n * m) = sg s n * sg t m := by
  unfold sg; cases s <;> cases t <;> simp [Int.neg_mul, Int.mul_neg]

theorem sg_zero (s : Bool) : sg s 0 = 0 := by unfold sg; split <;> simp

theorem sg_lt (s : Bool) (n : Nat) : decide (sg s n < 0) = (s && decide (n ≠ 0)) := by
  unfold sg; cases s
  · simp
  · by_cases h : n = 0
    · simp [h]
    · simp [h]; omega

theorem fv_q (q : Rat) : fv (qs q) (qn q) (qd q) = q := by
  unfold fv qs qn qd
  rw [wv_wl, wv_wl, sg_of_int, Rat.mkRat_self]

theorem num_natAbs_mkRat (z : Int) {d : Nat} (hd : d ≠ 0) : (mkRat z d).num.natAbs = z.natAbs / Nat.gcd z.natAbs d := by
  rw [Rat.num_mkRat, if_neg hd, Nat.gcd_comm]
  rw [Int.natAbs_ediv_of_dvd]
  · simp
  · exact Int.ofNat_dvd_left.2 (Nat.gcd_dvd_left _ _)

theorem den_mkRat_pos (z : Int) {d : Nat} (hd : d ≠ 0) : (mkRat z d).den = d / Nat.gcd z.natAbs d := by
  rw [Rat.den_mkRat, if_neg hd, Nat.gcd_comm]

theorem num_neg_mkRat (z : Int) {d : Nat} (hd : d ≠ 0) : (mkRat z d).num < 0 ↔ z < 0 := by
  rw [Rat.num_mkRat, if_neg hd]
  have hg : 0 < d.gcd z.natAbs := Nat.gcd_pos_of_pos_left _ (Nat.pos_of_ne_zero hd)
  have hdv : ((d.gcd z.natAbs : Nat) : Int) ∣ z := Int.ofNat_dvd_left.2 (Nat.gcd_dvd_right _ _)
  constructor
  · intro h
    rcases (by omega : z < 0 ∨ 0 ≤ z) with h' | h'
    · exact h'
    · have := Int.ediv_nonneg h' (Int.natCast_nonneg (d.gcd z.natAbs)); omega
  · intro h
    exact Int.ediv_neg_of_neg_of_pos h (by omega)

theorem qs_mkRat (s : Bool) (n : Nat) {d : Nat} (hd : d ≠ 0) : qs (mkRat (sg s n) d) = (s && decide (n ≠ 0)) := by
  unfold qs
  rw [← sg_lt]
  exact decide_eq_decide.2 (num_neg_mkRat _ hd)

theorem qn_mkRat (s : Bool) (n : Nat) {d : Nat} (hd : d ≠ 0) : qn (mkRat (sg s n) d) = wl (n / Nat.gcd n d) := by
  unfold qn; rw [num_natAbs_mkRat _ hd, sg_natAbs]

theorem qd_mkRat (s : Bool) (n : Nat) {d : Nat} (hd : d ≠ 0) : qd (mkRat (sg s n) d) = wl (d / Nat.gcd n d) := by
  unfold qd; rw [den_mkRat_pos _ hd, sg_natAbs]

/-- 'parts': the numbers of a fraction, the lower one not 0. -/
theorem fv_den0 (s : Bool) (n d : List Int) (h : wv d = 0) : fv s n d = 0 := by
  unfold fv; rw [h, Rat.mkRat_zero]

theorem add_mkRat (a b : Int) {d e : Nat} (hd : d ≠ 0) (he : e ≠ 0) : mkRat a d + mkRat b e = mkRat (a * e + b * d) (d * e) :=
  Rat.mkRat_add_mkRat a b hd he
theorem mul_mkRat (a b : Int) (d e : Nat) : mkRat a d * mkRat b e = mkRat (a * b) (d * e) := Rat.mkRat_mul_mkRat a b d e
theorem sub_mkRat (a b : Int) {d e : Nat} (hd : d ≠ 0) (he : e ≠ 0) : mkRat a d - mkRat b e = mkRat (a * e - b * d) (d * e) := by
  rw [Rat.sub_eq_add_neg, Rat.neg_mkRat, Rat.mkRat_add_mkRat _ _ hd he]
  congr 1
  rw [Int.neg_mul, ← Int.sub_eq_add_neg]

/-- The sign of a value. -/
def qsgn (q : Rat) : Int := if q.num < 0 then -1 else if q.num = 0 then 0 else 1
theorem qsgn_mkRat (z : Int) {d : Nat} (hd : d ≠ 0) : qsgn (mkRat z d) = if z < 0 then -1 else if z = 0 then 0 else 1 := by
  unfold qsgn
  have h0 : (mkRat z d).num = 0 ↔ z = 0 := by rw [Rat.num_eq_zero, Rat.mkRat_eq_zero hd]
  by_cases h : z < 0
  · rw [if_pos ((num_neg_mkRat z hd).2 h), if_pos h]
  · rw [if_neg (fun e => h ((num_neg_mkRat z hd).1 e)), if_neg h]
    by_cases h1 : z = 0
    · rw [if_pos (h0.2 h1), if_pos h1]
    · rw [if_neg (fun e => h1 (h0.1 e)), if_neg h1]

theorem qsgn_sub (a b : Int) {d e : Nat} (hd : d ≠ 0) (he : e ≠ 0) :
    qsgn (mkRat a d - mkRat b e) = if a * e - b * d < 0 then -1 else if a * e - b * d = 0 then 0 else 1 := by
  rw [sub_mkRat a b hd he, qsgn_mkRat _ (Nat.mul_ne_zero hd he)]

theorem qsgn_zero_iff (q : Rat) : qsgn q = 0 ↔ q = 0 := by
  unfold qsgn
  rw [← Rat.num_eq_zero]
  split
  · constructor
    · intro h; omega
    · intro h; omega
  · split <;> constructor <;> intro h <;> simp_all

end RN
end
section
/- Contracts: whole. -/
namespace Go.KM
open Go RN

/-- A whole number as it stands; the right one. -/
def wa (s : Bool) (l : List Int) : AV := .agg [.d (.bool s), .d (wd l)]
def wz (z : Int) : AV := .agg [.d (.bool (decide (z < 0))), .d (wn z.natAbs)]
theorem wz_sg (s : Bool) (n : Nat) : wz (sg s n) = .agg [.d (.bool (s && decide (n ≠ 0))), .d (wn n)] := by
  unfold wz
  rw [sg_natAbs, sg_lt]
theorem wz_wa (z : Int) : wz z = wa (decide (z < 0)) (wl z.natAbs) := rfl
theorem wz_val (z : Int) : sg (decide (z < 0)) (wv (wl z.natAbs)) = z := by rw [wv_wl, sg_of_int]
theorem wn_pos (n : Nat) : decide (((((wl n).map fun x => [D.int .u32 x]).length : Nat) : Int) > 0) = decide (n ≠ 0) := by
  rw [List.length_map]
  refine decide_eq_decide.2 ?_
  constructor
  · rintro h rfl
    rw [wl_zero] at h
    simp at h
  · intro h
    have := (wl_getLast h).1
    omega
theorem isEmpty_wl (n : Nat) : (wl n).isEmpty = decide (n = 0) := by
  by_cases h : n = 0
  · subst h; rw [wl_zero]; rfl
  · rw [decide_eq_false h]
    have := (wl_getLast h).1
    cases hw : wl n with
    | nil => rw [hw] at this; simp at this
    | cons x r => rfl

/-- whole.signed. -/
theorem whSigned_c (s : Bool) (n : Nat) : CN 52 [.d (.bool s), .d (wn n)] [] (wz (sg s n)) [] := by
  refine con_of Go.Proofs.Tryz.func52 rfl (by kernel_rfl) (Nat.le_of_ble_eq_true rfl) ?_
  rw [wz_sg]
  cases s
  · repeat refine .no rfl ?_
    exact ⟨trivial, rfl⟩
  · repeat refine .yes rfl ?_
    refine ⟨trivial, ?_⟩
    show AV.agg [.d (.bool (decide _)), _] = _
    rw [wn_pos]
    rfl
/-- whole.Norm. -/
theorem whNorm_c (s : Bool) (l : List Int) (h : WF l) (hl : l.length < 2 ^ 40) : CN 92 [wa s l] [] (wz (sg s (wv l))) [] := by
  refine con_of Go.Proofs.Tryz.func92 rfl (by kernel_rfl) (Nat.le_of_ble_eq_true rfl) ?_
  refine .by _ ⟨natNorm_w h hl, ?_⟩
  refine .by _ ⟨whSigned_c s _, trivial, rfl⟩
/-- whole.Neg. -/
theorem whNeg_c (s : Bool) (l : List Int) (h : WF l) (hl : l.length < 2 ^ 40) : CN 140 [wa s l] [] (wz (-sg s (wv l))) [] := by
  refine con_of Go.Proofs.Tryz.func140 rfl (by kernel_rfl) (Nat.le_of_ble_eq_true rfl) ?_
  have e : -sg s (wv l) = sg (!s) (wv l) := by cases s <;> simp [sg]
  rw [e]
  refine .by _ ⟨natNorm_w h hl, ?_⟩
  refine .by _ ⟨whSigned_c (!s) _, trivial, rfl⟩
/-- whole.Of. -/
theorem whOf_c (n : Int) (h0 : -9223372036854775808 ≤ n) (h1 : n < 9223372036854775808) : CN 29 [i64 n] [] (wz n) [] := by
  refine con_of Go.Proofs.Tryz.func29 rfl (by kernel_rfl) (Nat.le_of_ble_eq_true rfl) ?_
  refine .mk (fun h => ?_) (fun h => ?_)
  · have h : n < 0 := of_decide_eq_true h
    have e : IntKind.u64.wrap (0 - IntKind.u64.wrap n) = ((n.natAbs : Nat) : Int) := by
      rw [wrapU64, wrapU64]
      omega
    have e2 : sg true n.natAbs = n := by simp [sg]; omega
    have hs := whSigned_c true n.natAbs
    rw [e2] at hs
    refine .by (.d (wn n.natAbs)) ⟨by rw [e]; exact natOf_w _ (by omega), ?_⟩
    refine .by _ ⟨hs, trivial, rfl⟩
  · have h : 0 ≤ n := by
      have : ¬ n < 0 := of_decide_eq_false h
      omega
    have e : IntKind.u64.wrap n = ((n.natAbs : Nat) : Int) := by
      rw [wrapU64]
      omega
    have e2 : sg false n.natAbs = n := by simp [sg]; omega
    have hs := whSigned_c false n.natAbs
    rw [e2] at hs
    refine .by (.d (wn n.natAbs)) ⟨by rw [e]; exact natOf_w _ (by omega), ?_⟩
    refine .by _ ⟨hs, trivial, rfl⟩
theorem natZero_w {l : List Int} (h : WF l) (hl : l.length < 2 ^ 40) : CN 55 [.d (wd l)] [] (.d (.bool (decide (wv l = 0)))) [] := by
  have := natZero_c l hl
  rwa [trimL_wl h, isEmpty_wl] at this
/-- whole.Sign. -/
theorem whSign_c (s : Bool) (l : List Int) (h : WF l) (hl : l.length < 2 ^ 40) : CN 33 [wa s l] [] (i64 (sg s (wv l)).sign) [] := by
  refine con_of Go.Proofs.Tryz.func33 rfl (by kernel_rfl) (Nat.le_of_ble_eq_true rfl) ?_
  refine .by _ ⟨natZero_w h hl, ?_⟩
  refine .mk (fun h1 => ?_) (fun h1 => ?_)
  · have h1 : wv l = 0 := of_decide_eq_true h1
    rw [h1, sg_zero]
    exact ⟨trivial, rfl⟩
  · have h1 : wv l ≠ 0 := of_decide_eq_false h1
    cases s
    · refine .no rfl ?_
      refine ⟨trivial, ?_⟩
      rw [show (sg false (wv l)) = (wv l : Int) from rfl, Int.sign_eq_one_of_pos (by omega)]
      rfl
    · refine .yes rfl ?_
      refine ⟨trivial, ?_⟩
      rw [show (sg true (wv l)) = -(wv l : Int) from rfl, Int.sign_eq_neg_one_of_neg (by omega)]
      rfl
theorem sumV_two (a b : List Int) : sumV [a, b] = wv a + wv b := by simp [sumV]
theorem sg_add (s : Bool) (n m : Nat) : sg s (n + m) = sg s n + sg s m := by cases s <;> simp [sg]; omega
/-- whole.Add. -/
theorem whAdd_c (s t : Bool) (a b : List Int) (ha : WF a) (hb : WF b) (la : a.length < 2 ^ 38) (lb : b.length < 2 ^ 38) : CN 138 [wa s a, wa t b] [] (wz (sg s (wv a) + sg t (wv b))) [] := by
  refine con_of Go.Proofs.Tryz.func138 rfl (by kernel_rfl) (Nat.le_of_ble_eq_true rfl) ?_
  refine .mk (fun h1 => ?_) (fun h1 => ?_)
  · have h1 : s = t := by simpa using h1
    subst h1
    have hadd := natAdd_c [a, b] (by simp; exact ⟨⟨ha, la⟩, hb, lb⟩) (by simp)
    rw [sumV_two] at hadd
    rw [← sg_add]
    refine .by (.d (wn (wv a + wv b))) (.of ⟨rfl, rfl⟩ ⟨hadd, ?_⟩)
    refine .by _ ⟨whSigned_c s _, trivial, rfl⟩
  · have h1 : s ≠ t := by simpa using h1
    refine .by _ ⟨natGap_c a b ha hb (by omega) (by omega), ?_⟩
    refine .mk (fun h2 => ?_) (fun h2 => ?_)
    · have h2 : wv a < wv b := cmpI_lt.1 (by simpa using h2)
      refine .by _ ⟨whSigned_c t _, trivial, ?_⟩
      show wz _ = wz _
      congr 1
      cases s <;> cases t <;> simp [sg] at * <;> omega
    · have h2 : wv b ≤ wv a := by
        rcases Nat.lt_or_ge (wv a) (wv b) with h3 | h3
        · have := cmpI_lt.2 h3
          have h2 : ¬ (cmpI (wv a) (wv b) < 0) := by simpa using h2
          omega
        · exact h3
      refine .by _ ⟨whSigned_c s _, trivial, ?_⟩
      show wz _ = wz _
      congr 1
      cases s <;> cases t <;> simp [sg] at * <;> omega
/-- whole.Sub. -/
theorem whSub_c (s t : Bool) (a b : List Int) (ha : WF a) (hb : WF b) (la : a.length < 2 ^ 38) (lb : b.length < 2 ^ 38) : CN 108 [wa s a, wa t b] [] (wz (sg s (wv a) - sg t (wv b))) [] := by
  refine con_of Go.Proofs.Tryz.func108 rfl (by kernel_rfl) (Nat.le_of_ble_eq_true rfl) ?_
  refine .by _ ⟨whNeg_c t b hb (by omega), ?_⟩
  have e : (-sg t (wv b)).natAbs = wv b := by rw [Int.natAbs_neg, sg_natAbs]
  have h := whAdd_c s (decide (-sg t (wv b) < 0)) a (wl (wv b)) ha (wl_WF _) la (Nat.lt_of_le_of_lt (wl_len_wv hb) lb)
  rw [wv_wl] at h
  have e2 : sg (decide (-sg t (wv b) < 0)) (wv b) = -sg t (wv b) := by
    have := sg_of_int (-sg t (wv b))
    rwa [e] at this
  rw [e2, ← Int.sub_eq_add_neg] at h
  refine .by (wz (sg s (wv a) - sg t (wv b))) ⟨?_, trivial, rfl⟩
  show CN _ [_, .agg [_, .d (wn (-sg t (wv b)).natAbs)]] [] _ []
  rw [e]
  exact h
/-- whole.Mul. -/
theorem whMul_c (s t : Bool) (a b : List Int) (ha : WF a) (hb : WF b) (la : a.length < 2 ^ 38) (lb : b.length < 2 ^ 38) : CN 90 [wa s a, wa t b] [] (wz (sg s (wv a) * sg t (wv b))) [] := by
  refine con_of Go.Proofs.Tryz.func90 rfl (by kernel_rfl) (Nat.le_of_ble_eq_true rfl) ?_
  refine .by _ ⟨prodMul_c a b ha hb la lb, ?_⟩
  rw [← sg_mul]
  refine .by _ ⟨whSigned_c (s != t) _, trivial, rfl⟩
/-- whole.Cmp. -/
theorem whCmp_c (s t : Bool) (a b : List Int) (ha : WF a) (hb : WF b) (la : a.length < 2 ^ 38) (lb : b.length < 2 ^ 38) : CN 78 [wa s a, wa t b] [] (i64 (sg s (wv a) - sg t (wv b)).sign) [] := by
  refine con_of Go.Proofs.Tryz.func78 rfl (by kernel_rfl) (Nat.le_of_ble_eq_true rfl) ?_
  refine .by _ ⟨whSub_c s t a b ha hb la lb, ?_⟩
  have hl : (wl (sg s (wv a) - sg t (wv b)).natAbs).length < 2 ^ 40 := by
    have h1 := wv_lt ha
    have h2 := wv_lt hb
    obtain ⟨m, hm1, hm2, hm3⟩ : ∃ m, a.length ≤ m ∧ b.length ≤ m ∧ m < 2 ^ 38 := ⟨max a.length b.length, by omega, by omega, by omega⟩
    have h3 : 4294967296 ^ a.length ≤ 4294967296 ^ m := pow_le hm1
    have h4 : 4294967296 ^ b.length ≤ 4294967296 ^ m := pow_le hm2
    have h5 : (sg s (wv a) - sg t (wv b)).natAbs ≤ wv a + wv b := by
      have := sg_natAbs s (wv a)
      have := sg_natAbs t (wv b)
      omega
    have h6 : (wl (sg s (wv a) - sg t (wv b)).natAbs).length ≤ m + 1 := wl_len (by rw [pow_s]; omega)
    omega
  have h := whSign_c (decide (sg s (wv a) - sg t (wv b) < 0)) (wl (sg s (wv a) - sg t (wv b)).natAbs) (wl_WF _) hl
  rw [wz_val] at h
  exact .by _ ⟨h, trivial, rfl⟩
end Go.KM
end
section
/- Fractions as they stand, right ones, and how long they are: plain laws. -/
namespace RN

/-- A fraction as it stands. -/
structure RF where
  s : Bool
  n : List Int
  d : List Int
def RF.val (x : RF) : Rat := fv x.s x.n x.d
structure RF.ok (x : RF) (L : Nat) : Prop where
  wn : WF x.n
  wd : WF x.d
  ln : x.n.length ≤ L
  ld : x.d.length ≤ L
theorem RF.ok.mono {x : RF} {L M : Nat} (h : x.ok L) (k : L ≤ M) : x.ok M := ⟨h.wn, h.wd, Nat.le_trans h.ln k, Nat.le_trans h.ld k⟩
/-- The right one of a value. -/
def cq (q : Rat) : RF := ⟨qs q, qn q, qd q⟩
theorem cq_val (q : Rat) : (cq q).val = q := fv_q q
/-- Words in a number. -/
def nwN (n : Nat) : Nat := (wl n).length
def nw (q : Rat) : Nat := max (nwN q.num.natAbs) (nwN q.den)
theorem cq_ok (q : Rat) : (cq q).ok (nw q) := ⟨wl_WF _, wl_WF _, Nat.le_max_left _ _, Nat.le_max_right _ _⟩
theorem nwN_le {n m : Nat} : nwN n ≤ m ↔ n < 4294967296 ^ m := ⟨wl_len_ge, wl_len⟩
theorem nwN_mono {a b : Nat} (h : a ≤ b) : nwN a ≤ nwN b := nwN_le.2 (Nat.lt_of_le_of_lt h (nwN_le.1 (Nat.le_refl _)))
theorem nwN_pos {a : Nat} (h : a ≠ 0) : 0 < nwN a := by
  rcases Nat.eq_zero_or_pos (nwN a) with h1 | h1
  · have := nwN_le.1 (Nat.le_of_eq h1)
    simp at this
    exact absurd this h
  · exact h1
theorem nwN_mul (a b : Nat) : nwN (a * b) ≤ nwN a + nwN b := by
  refine nwN_le.2 ?_
  rw [Nat.pow_add]
  have h1 := nwN_le.1 (Nat.le_refl (nwN a))
  have h2 := nwN_le.1 (Nat.le_refl (nwN b))
  exact Nat.lt_of_le_of_lt (Nat.mul_le_mul_left _ (Nat.le_of_lt h2)) (Nat.mul_lt_mul_of_pos_right h1 (Nat.pow_pos (by decide)))
theorem nwN_add {a b m : Nat} (ha : nwN a ≤ m) (hb : nwN b ≤ m) : nwN (a + b) ≤ m + 1 := by
  have h1 := nwN_le.1 ha
  have h2 := nwN_le.1 hb
  refine nwN_le.2 ?_
  rw [Nat.pow_succ]
  generalize 4294967296 ^ m = P at *
  omega
theorem one_le_nw (q : Rat) : 1 ≤ nw q := by
  have := nwN_pos q.den_nz
  unfold nw
  omega
theorem nw_num (q : Rat) : nwN q.num.natAbs ≤ nw q := Nat.le_max_left _ _
theorem nw_den (q : Rat) : nwN q.den ≤ nw q := Nat.le_max_right _ _
/-- A quotient's numbers are no longer than those that it is made of. -/
theorem nw_mkRat {z : Int} {d m : Nat} (hz : nwN z.natAbs ≤ m) (hd : nwN d ≤ m) (h1 : 1 ≤ m) : nw (mkRat z d) ≤ m := by
  by_cases h : d = 0
  · subst h
    rw [Rat.mkRat_zero]
    have e1 : nwN 0 = 0 := by unfold nwN; rw [wl_zero]; rfl
    have e2 : nwN 1 ≤ 1 := nwN_le.2 (by decide)
    show max (nwN (0 : Rat).num.natAbs) (nwN (0 : Rat).den) ≤ m
    rw [show (0 : Rat).num.natAbs = 0 from rfl, show (0 : Rat).den = 1 from rfl, e1]
    omega
  · refine Nat.max_le.2 ⟨?_, ?_⟩
    · rw [num_natAbs_mkRat z h]
      exact Nat.le_trans (nwN_mono (Nat.div_le_self _ _)) hz
    · rw [den_mkRat_pos z h]
      exact Nat.le_trans (nwN_mono (Nat.div_le_self _ _)) hd
theorem nw_val {x : RF} {L : Nat} (h : x.ok L) (h1 : 1 ≤ L) : nw x.val ≤ L := by
  refine nw_mkRat ?_ ?_ h1
  · rw [sg_natAbs]
    exact Nat.le_trans (wl_len_wv h.wn) h.ln
  · exact Nat.le_trans (wl_len_wv h.wd) h.ld
theorem nw_mul (p q : Rat) : nw (p * q) ≤ nw p + nw q := by
  have e : p * q = mkRat (p.num * q.num) (p.den * q.den) := by
    conv => lhs; rw [← Rat.mkRat_self p, ← Rat.mkRat_self q]
    rw [Rat.mkRat_mul_mkRat]
  rw [e]
  have h1 := one_le_nw p
  refine nw_mkRat ?_ ?_ (by omega)
  · rw [Int.natAbs_mul]
    exact Nat.le_trans (nwN_mul _ _) (Nat.add_le_add (nw_num p) (nw_num q))
  · exact Nat.le_trans (nwN_mul _ _) (Nat.add_le_add (nw_den p) (nw_den q))
theorem nw_neg (p : Rat) : nw (-p) = nw p := by
  unfold nw
  rw [Rat.neg_num, Rat.neg_den, Int.natAbs_neg]
theorem nw_add (p q : Rat) : nw (p + q) ≤ nw p + nw q + 1 := by
  have e : p + q = mkRat (p.num * q.den + q.num * p.den) (p.den * q.den) := by
    conv => lhs; rw [← Rat.mkRat_self p, ← Rat.mkRat_self q]
    rw [Rat.mkRat_add_mkRat _ _ p.den_nz q.den_nz]
  rw [e]
  refine nw_mkRat ?_ ?_ (by omega)
  · have h1 : nwN (p.num * q.den).natAbs ≤ nw p + nw q := by
      rw [Int.natAbs_mul]
      exact Nat.le_trans (nwN_mul _ _) (Nat.add_le_add (nw_num p) (nw_den q))
    have h2 : nwN (q.num * p.den).natAbs ≤ nw p + nw q := by
      rw [Int.natAbs_mul]
      have := Nat.le_trans (nwN_mul q.num.natAbs (p.den : Int).natAbs) (Nat.add_le_add (nw_num q) (nw_den p))
      omega
    exact Nat.le_trans (nwN_mono (Int.natAbs_add_le _ _)) (nwN_add h1 h2)
  · have := Nat.le_trans (nwN_mul p.den q.den) (Nat.add_le_add (nw_den p) (nw_den q))
    omega
theorem nw_sub (p q : Rat) : nw (p - q) ≤ nw p + nw q + 1 := by
  rw [Rat.sub_eq_add_neg, ← nw_neg q]
  exact nw_add _ _
theorem nw_inv (p : Rat) : nw p⁻¹ ≤ nw p := by
  have h1 := nw_num p
  have h2 := nw_den p
  have h3 := one_le_nw p
  by_cases h : p.num = 0
  · have : p = 0 := Rat.num_eq_zero.1 h
    subst this
    rw [Rat.inv_zero]
    exact Nat.le_refl _
  · unfold nw at *
    rw [Rat.num_inv, Rat.den_inv, if_neg h, Int.natAbs_mul, Int.natAbs_sign_of_ne_zero h, Nat.one_mul]
    show max (nwN p.den) _ ≤ _
    omega
theorem nw_div (p q : Rat) : nw (p / q) ≤ nw p + nw q := by
  rw [Rat.div_def]
  exact Nat.le_trans (nw_mul _ _) (Nat.add_le_add_left (nw_inv q) _)
theorem num_lt {q : Rat} : q.num < 0 ↔ q < 0 := by
  have := @Rat.num_nonneg q
  rw [← Rat.not_le, ← this]
  omega
theorem num_gt {q : Rat} : 0 < q.num ↔ 0 < q := by
  have h1 := @num_lt (-q)
  rw [Rat.neg_num] at h1
  rw [show 0 < q.num ↔ -q.num < 0 by omega, h1]
  constructor
  · intro h; have := Rat.neg_lt_neg h; simpa using this
  · intro h; have := Rat.neg_lt_neg h; simpa using this
/-- The sign of a value. -/
def qsg (q : Rat) : Int := q.num.sign
theorem qsg_mkRat (z : Int) {d : Nat} (hd : d ≠ 0) : qsg (mkRat z d) = z.sign := by
  have h1 := num_neg_mkRat z hd
  have h0 : (mkRat z d).num = 0 ↔ z = 0 := by rw [Rat.num_eq_zero, Rat.mkRat_eq_zero hd]
  unfold qsg
  rcases Int.lt_trichotomy z 0 with h | h | h
  · rw [Int.sign_eq_neg_one_of_neg h, Int.sign_eq_neg_one_of_neg (h1.2 h)]
  · rw [h0.2 h, h]
  · have : 0 < (mkRat z d).num := by
      rcases Int.lt_trichotomy (mkRat z d).num 0 with h2 | h2 | h2
      · have := h1.1 h2; omega
      · have := h0.1 h2; omega
      · exact h2
    rw [Int.sign_eq_one_of_pos h, Int.sign_eq_one_of_pos this]
theorem qsg_zero {q : Rat} : qsg q = 0 ↔ q = 0 := by
  unfold qsg
  rw [Int.sign_eq_zero_iff_zero, Rat.num_eq_zero]
theorem qsg_neg {q : Rat} : qsg q < 0 ↔ q < 0 := by
  unfold qsg
  rw [Int.sign_neg_iff, num_lt]
theorem qsg_pos {q : Rat} : 0 < qsg q ↔ 0 < q := by
  unfold qsg
  rw [Int.sign_pos_iff, num_gt]
end RN
end
section
/- Contracts: frac (1). -/
namespace Go.KM
open Go RN

/-- A fraction's cells. -/
def fds (x : RF) : List D := [.bool x.s, wd x.n, wd x.d]
def fav (x : RF) : AV := .agg [.d (.bool x.s), .d (wd x.n), .d (wd x.d)]
def fq (q : Rat) : AV := fav (cq q)
theorem fq_def (q : Rat) : fq q = .agg [.d (.bool (decide (q.num < 0))), .d (wn q.num.natAbs), .d (wn q.den)] := rfl
/-- A fraction's numbers, the lower one not 0. -/
def pts (x : RF) : RF := if wv x.d = 0 then ⟨false, [], wl 1⟩ else x
theorem pts_ok {x : RF} {L : Nat} (h : x.ok L) (h1 : 1 ≤ L) : (pts x).ok L := by
  unfold pts
  split
  · exact ⟨WF.nil, wl_WF _, Nat.zero_le _, Nat.le_trans (nwN_le.2 (by decide)) h1⟩
  · exact h
theorem pts_den (x : RF) : wv (pts x).d ≠ 0 := by
  unfold pts
  split
  · rw [wv_wl]; decide
  · assumption
theorem pts_val (x : RF) : mkRat (sg (pts x).s (wv (pts x).n)) (wv (pts x).d) = x.val := by
  unfold pts
  split
  · rename_i h
    unfold RF.val
    rw [fv_den0 _ _ _ h]
    simp [wv, sg]
  · rfl
theorem pts_sg (x : RF) : (sg (pts x).s (wv (pts x).n)).sign = qsg x.val := by
  rw [← pts_val, qsg_mkRat _ (pts_den x)]

/-- frac.cancel. -/
theorem frCancel_c (s : Bool) (n d : List Int) (hn : WF n) (hd : WF d) (ln : n.length < 2 ^ 37) (ld : d.length < 2 ^ 37) (h : wv d ≠ 0) : CN 63 [wa s n, .d (wd d)] [] (fq (mkRat (sg s (wv n)) (wv d))) [] := by
  refine con_of Go.Proofs.Tryz.func63 rfl (by kernel_rfl) (Nat.le_of_ble_eq_true rfl) ?_
  refine .by _ ⟨comCancel_c n d hn hd ln ld, ?_⟩
  have hg : Nat.gcd (wv n) (wv d) ≠ 0 := fun e => h (Nat.eq_zero_of_gcd_eq_zero_right e)
  have hnm := whNorm_c s (wl (wv n / Nat.gcd (wv n) (wv d))) (wl_WF _) (by
    have : (wl (wv n / Nat.gcd (wv n) (wv d))).length ≤ n.length := Nat.le_trans (nwN_mono (Nat.div_le_self _ _)) (wl_len_wv hn)
    omega)
  rw [wv_wl] at hnm
  refine .by _ ⟨hnm, trivial, ?_⟩
  show AV.agg [.d (.bool (decide (sg s (wv n / Nat.gcd (wv n) (wv d)) < 0))), .d (wn (sg s (wv n / Nat.gcd (wv n) (wv d))).natAbs), .d (wn (wv d / Nat.gcd (wv n) (wv d)))] = .agg [.d (.bool (qs (mkRat (sg s (wv n)) (wv d)))), .d (wn (mkRat (sg s (wv n)) (wv d)).num.natAbs), .d (wn (mkRat (sg s (wv n)) (wv d)).den)]
  rw [sg_lt, sg_natAbs, qs_mkRat s (wv n) h, num_natAbs_mkRat _ h, den_mkRat_pos _ h, sg_natAbs]
  congr 4
  rw [Bool.and_comm, Bool.and_comm s]
  congr 1
  refine decide_eq_decide.2 ⟨fun h1 e => h1 (by rw [e, Nat.zero_div]), fun h1 e => h1 ?_⟩
  have := Nat.div_mul_cancel (Nat.gcd_dvd_left (wv n) (wv d))
  rw [e, Nat.zero_mul] at this
  exact this.symm
theorem frCancel_z (z : Int) (d : List Int) (hd : WF d) (ln : nwN z.natAbs < 2 ^ 37) (ld : d.length < 2 ^ 37) (h : wv d ≠ 0) : CN 63 [wz z, .d (wd d)] [] (fq (mkRat z (wv d))) [] := by
  have := frCancel_c (decide (z < 0)) (wl z.natAbs) d (wl_WF _) hd ln ld h
  rwa [wz_val] at this
/-- frac.parts. -/
theorem frParts_c (x : RF) {L : Nat} (hx : x.ok L) (hL : L < 2 ^ 36) : CN 32 [fav x] [] (.tup [wa (pts x).s (pts x).n, .d (wd (pts x).d)]) [] := by
  have hld := hx.ld
  refine con_of Go.Proofs.Tryz.func32 rfl (by kernel_rfl) (Nat.le_of_ble_eq_true rfl) ?_
  refine .by _ ⟨natZero_w hx.wd (by omega), ?_⟩
  refine .mk (fun h1 => ?_) (fun h1 => ?_)
  · have h1 : wv x.d = 0 := of_decide_eq_true h1
    refine .by _ ⟨natOf_w 1 (by decide), trivial, ?_⟩
    unfold pts
    rw [if_pos h1]
    rfl
  · have h1 : wv x.d ≠ 0 := of_decide_eq_false h1
    refine ⟨trivial, ?_⟩
    unfold pts
    rw [if_neg h1]
    rfl
/-- frac.cross. -/
theorem frCross_c (s : Bool) (n d : List Int) (hn : WF n) (hd : WF d) (ln : n.length < 2 ^ 38) (ld : d.length < 2 ^ 38) : CN 62 [wa s n, .d (wd d)] [] (wz (sg s (wv n) * (wv d : Int))) [] := by
  refine con_of Go.Proofs.Tryz.func62 rfl (by kernel_rfl) (Nat.le_of_ble_eq_true rfl) ?_
  exact .by _ ⟨whMul_c s false n d hn hd ln ld, trivial, rfl⟩
/-- frac.Of. -/
theorem frOf_c (n : Int) (h0 : -9223372036854775808 ≤ n) (h1 : n < 9223372036854775808) : CN 11 [i64 n] [] (fq n) [] := by
  refine con_of Go.Proofs.Tryz.func11 rfl (by kernel_rfl) (Nat.le_of_ble_eq_true rfl) ?_
  refine .by _ ⟨whOf_c n h0 h1, ?_⟩
  exact .by _ ⟨natOf_w 1 (by decide), trivial, rfl⟩
theorem pts_le {x : RF} {L : Nat} (h : x.ok L) (h1 : 1 ≤ L) (hL : L < 2 ^ 35) : WF (pts x).n ∧ WF (pts x).d ∧ (pts x).n.length < 2 ^ 35 ∧ (pts x).d.length < 2 ^ 35 := by
  have := pts_ok h h1
  exact ⟨this.wn, this.wd, Nat.lt_of_le_of_lt this.ln hL, Nat.lt_of_le_of_lt this.ld hL⟩
/-- frac.Norm. -/
theorem frNorm_c (x : RF) {L : Nat} (hx : x.ok L) (h1 : 1 ≤ L) (hL : L < 2 ^ 35) : CN 56 [fav x] [] (fq x.val) [] := by
  refine con_of Go.Proofs.Tryz.func56 rfl (by kernel_rfl) (Nat.le_of_ble_eq_true rfl) ?_
  obtain ⟨w1, w2, w3, w4⟩ := pts_le hx h1 hL
  refine .by _ ⟨frParts_c x hx (by omega), ?_⟩
  have h := frCancel_c (pts x).s (pts x).n (pts x).d w1 w2 (by omega) (by omega) (pts_den x)
  rw [pts_val] at h
  exact .by _ ⟨h, trivial, rfl⟩
/-- frac.Sign. -/
theorem frSign_c (x : RF) {L : Nat} (hx : x.ok L) (h1 : 1 ≤ L) (hL : L < 2 ^ 35) : CN 13 [fav x] [] (i64 (qsg x.val)) [] := by
  refine con_of Go.Proofs.Tryz.func13 rfl (by kernel_rfl) (Nat.le_of_ble_eq_true rfl) ?_
  obtain ⟨w1, w2, w3, w4⟩ := pts_le hx h1 hL
  refine .by _ ⟨frParts_c x hx (by omega), ?_⟩
  have h := whSign_c (pts x).s (pts x).n w1 (by omega)
  rw [pts_sg] at h
  exact .by _ ⟨h, trivial, rfl⟩
theorem wz_len {z : Int} {m : Nat} (h : nwN z.natAbs ≤ m) : (wl z.natAbs).length ≤ m := h
theorem cross_len {s : Bool} {n d : List Int} (hn : WF n) (hd : WF d) : nwN (sg s (wv n) * (wv d : Int)).natAbs ≤ n.length + d.length := by
  rw [Int.natAbs_mul, sg_natAbs]
  exact Nat.le_trans (nwN_mul _ _) (Nat.add_le_add (wl_len_wv hn) (wl_len_wv hd))
/-- frac.Cmp. -/
theorem frCmp_c (x y : RF) {L M : Nat} (hx : x.ok L) (hy : y.ok M) (h1 : 1 ≤ L) (h2 : 1 ≤ M) (hL : L < 2 ^ 35) (hM : M < 2 ^ 35) : CN 54 [fav x, fav y] [] (i64 (qsg (x.val - y.val))) [] := by
  refine con_of Go.Proofs.Tryz.func54 rfl (by kernel_rfl) (Nat.le_of_ble_eq_true rfl) ?_
  obtain ⟨w1, w2, w3, w4⟩ := pts_le hx h1 hL
  obtain ⟨v1, v2, v3, v4⟩ := pts_le hy h2 hM
  refine .by _ ⟨frParts_c x hx (by omega), ?_⟩
  refine .by _ ⟨frParts_c y hy (by omega), ?_⟩
  refine .by _ ⟨frCross_c (pts x).s (pts x).n (pts y).d w1 v2 (by omega) (by omega), ?_⟩
  refine .by _ ⟨frCross_c (pts y).s (pts y).n (pts x).d v1 w2 (by omega) (by omega), ?_⟩
  have l1 := cross_len (s := (pts x).s) w1 v2
  have l2 := cross_len (s := (pts y).s) v1 w2
  have h := whCmp_c (decide (sg (pts x).s (wv (pts x).n) * (wv (pts y).d : Int) < 0)) (decide (sg (pts y).s (wv (pts y).n) * (wv (pts x).d : Int) < 0)) (wl (sg (pts x).s (wv (pts x).n) * (wv (pts y).d : Int)).natAbs) (wl (sg (pts y).s (wv (pts y).n) * (wv (pts x).d : Int)).natAbs) (wl_WF _) (wl_WF _) (Nat.lt_of_le_of_lt l1 (by omega)) (Nat.lt_of_le_of_lt l2 (by omega))
  rw [wz_val, wz_val] at h
  have e : (sg (pts x).s (wv (pts x).n) * (wv (pts y).d : Int) - sg (pts y).s (wv (pts y).n) * (wv (pts x).d : Int)).sign = qsg (x.val - y.val) := by
    rw [← pts_val x, ← pts_val y, sub_mkRat _ _ (pts_den x) (pts_den y), qsg_mkRat _ (Nat.mul_ne_zero (pts_den x) (pts_den y))]
  rw [e] at h
  exact .by _ ⟨h, trivial, rfl⟩
/-- frac.Same. -/
theorem frSame_c (x y : RF) {L M : Nat} (hx : x.ok L) (hy : y.ok M) (h1 : 1 ≤ L) (h2 : 1 ≤ M) (hL : L < 2 ^ 35) (hM : M < 2 ^ 35) : CN 31 [fav x, fav y] [] (.d (.bool (decide (x.val = y.val)))) [] := by
  refine con_of Go.Proofs.Tryz.func31 rfl (by kernel_rfl) (Nat.le_of_ble_eq_true rfl) ?_
  refine .by _ ⟨frCmp_c x y hx hy h1 h2 hL hM, trivial, ?_⟩
  show AV.d (.bool (qsg (x.val - y.val) == 0)) = _
  congr 2
  have e : qsg (x.val - y.val) = 0 ↔ x.val = y.val := by
    rw [qsg_zero]
    constructor
    · intro h; grind
    · intro h; grind
  by_cases h : x.val = y.val
  · rw [decide_eq_true h]; exact beq_iff_eq.2 (e.2 h)
  · rw [decide_eq_false h]; exact beq_eq_false_iff_ne.2 (fun k => h (e.1 k))
end Go.KM
end
section
/- Contracts: frac (2). -/
namespace Go.KM
open Go RN

section
variable (x y : RF) {L M : Nat}
/-- frac.Add. -/
theorem frAdd_c (hx : x.ok L) (hy : y.ok M) (h1 : 1 ≤ L) (h2 : 1 ≤ M) (hL : L < 2 ^ 35) (hM : M < 2 ^ 35) : CN 103 [fav x, fav y] [] (fq (x.val + y.val)) [] := by
  refine con_of Go.Proofs.Tryz.func103 rfl (by kernel_rfl) (Nat.le_of_ble_eq_true rfl) ?_
  obtain ⟨w1, w2, w3, w4⟩ := pts_le hx h1 hL
  obtain ⟨v1, v2, v3, v4⟩ := pts_le hy h2 hM
  refine .by _ ⟨frParts_c x hx (by omega), ?_⟩
  refine .by _ ⟨frParts_c y hy (by omega), ?_⟩
  refine .by _ ⟨frCross_c (pts x).s (pts x).n (pts y).d w1 v2 (by omega) (by omega), ?_⟩
  refine .by _ ⟨frCross_c (pts y).s (pts y).n (pts x).d v1 w2 (by omega) (by omega), ?_⟩
  have l1 := cross_len (s := (pts x).s) w1 v2
  have l2 := cross_len (s := (pts y).s) v1 w2
  have h := whAdd_c (decide (sg (pts x).s (wv (pts x).n) * (wv (pts y).d : Int) < 0)) (decide (sg (pts y).s (wv (pts y).n) * (wv (pts x).d : Int) < 0)) (wl (sg (pts x).s (wv (pts x).n) * (wv (pts y).d : Int)).natAbs) (wl (sg (pts y).s (wv (pts y).n) * (wv (pts x).d : Int)).natAbs) (wl_WF _) (wl_WF _) (Nat.lt_of_le_of_lt l1 (by omega)) (Nat.lt_of_le_of_lt l2 (by omega))
  rw [wz_val, wz_val] at h
  refine .by _ ⟨h, ?_⟩
  refine .by _ ⟨prodMul_c (pts x).d (pts y).d w2 v2 (by omega) (by omega), ?_⟩
  have ld : (wl (wv (pts x).d * wv (pts y).d)).length < 2 ^ 37 := by
    have := Nat.le_trans (nwN_mul (wv (pts x).d) (wv (pts y).d)) (Nat.add_le_add (wl_len_wv w2) (wl_len_wv v2))
    unfold nwN at this
    omega
  have ln : nwN (sg (pts x).s (wv (pts x).n) * (wv (pts y).d : Int) + sg (pts y).s (wv (pts y).n) * (wv (pts x).d : Int)).natAbs < 2 ^ 37 := by
    have h3 : nwN (sg (pts x).s (wv (pts x).n) * (wv (pts y).d : Int)).natAbs ≤ 2 ^ 36 := by omega
    have h4 : nwN (sg (pts y).s (wv (pts y).n) * (wv (pts x).d : Int)).natAbs ≤ 2 ^ 36 := by omega
    have := Nat.le_trans (nwN_mono (Int.natAbs_add_le _ _)) (nwN_add h3 h4)
    omega
  have hc := frCancel_z (sg (pts x).s (wv (pts x).n) * (wv (pts y).d : Int) + sg (pts y).s (wv (pts y).n) * (wv (pts x).d : Int)) (wl (wv (pts x).d * wv (pts y).d)) (wl_WF _) ln ld (by rw [wv_wl]; exact Nat.mul_ne_zero (pts_den x) (pts_den y))
  rw [wv_wl, ← add_mkRat _ _ (pts_den x) (pts_den y), pts_val, pts_val] at hc
  exact .by _ ⟨hc, trivial, rfl⟩
/-- frac.Sub. -/
theorem frSub_c (hx : x.ok L) (hy : y.ok M) (h1 : 1 ≤ L) (h2 : 1 ≤ M) (hL : L < 2 ^ 35) (hM : M < 2 ^ 35) : CN 226 [fav x, fav y] [] (fq (x.val - y.val)) [] := by
  refine con_of Go.Proofs.Tryz.func226 rfl (by kernel_rfl) (Nat.le_of_ble_eq_true rfl) ?_
  obtain ⟨w1, w2, w3, w4⟩ := pts_le hx h1 hL
  obtain ⟨v1, v2, v3, v4⟩ := pts_le hy h2 hM
  refine .by _ ⟨frParts_c x hx (by omega), ?_⟩
  refine .by _ ⟨frParts_c y hy (by omega), ?_⟩
  refine .by _ ⟨frCross_c (pts x).s (pts x).n (pts y).d w1 v2 (by omega) (by omega), ?_⟩
  refine .by _ ⟨frCross_c (pts y).s (pts y).n (pts x).d v1 w2 (by omega) (by omega), ?_⟩
  have l1 := cross_len (s := (pts x).s) w1 v2
  have l2 := cross_len (s := (pts y).s) v1 w2
  have h := whSub_c (decide (sg (pts x).s (wv (pts x).n) * (wv (pts y).d : Int) < 0)) (decide (sg (pts y).s (wv (pts y).n) * (wv (pts x).d : Int) < 0)) (wl (sg (pts x).s (wv (pts x).n) * (wv (pts y).d : Int)).natAbs) (wl (sg (pts y).s (wv (pts y).n) * (wv (pts x).d : Int)).natAbs) (wl_WF _) (wl_WF _) (Nat.lt_of_le_of_lt l1 (by omega)) (Nat.lt_of_le_of_lt l2 (by omega))
  rw [wz_val, wz_val] at h
  refine .by _ ⟨h, ?_⟩
  refine .by _ ⟨prodMul_c (pts x).d (pts y).d w2 v2 (by omega) (by omega), ?_⟩
  have ld : (wl (wv (pts x).d * wv (pts y).d)).length < 2 ^ 37 := by
    have := Nat.le_trans (nwN_mul (wv (pts x).d) (wv (pts y).d)) (Nat.add_le_add (wl_len_wv w2) (wl_len_wv v2))
    unfold nwN at this
    omega
  have ln : nwN (sg (pts x).s (wv (pts x).n) * (wv (pts y).d : Int) - sg (pts y).s (wv (pts y).n) * (wv (pts x).d : Int)).natAbs < 2 ^ 37 := by
    have h3 : nwN (sg (pts x).s (wv (pts x).n) * (wv (pts y).d : Int)).natAbs ≤ 2 ^ 36 := by omega
    have h4 : nwN (-(sg (pts y).s (wv (pts y).n) * (wv (pts x).d : Int))).natAbs ≤ 2 ^ 36 := by rw [Int.natAbs_neg]; omega
    rw [Int.sub_eq_add_neg]
    have := Nat.le_trans (nwN_mono (Int.natAbs_add_le _ _)) (nwN_add h3 h4)
    omega
  have hc := frCancel_z (sg (pts x).s (wv (pts x).n) * (wv (pts y).d : Int) - sg (pts y).s (wv (pts y).n) * (wv (pts x).d : Int)) (wl (wv (pts x).d * wv (pts y).d)) (wl_WF _) ln ld (by rw [wv_wl]; exact Nat.mul_ne_zero (pts_den x) (pts_den y))
  rw [wv_wl, ← sub_mkRat _ _ (pts_den x) (pts_den y), pts_val, pts_val] at hc
  exact .by _ ⟨hc, trivial, rfl⟩
/-- frac.Mul. -/
theorem frMul_c (hx : x.ok L) (hy : y.ok M) (h1 : 1 ≤ L) (h2 : 1 ≤ M) (hL : L < 2 ^ 35) (hM : M < 2 ^ 35) : CN 104 [fav x, fav y] [] (fq (x.val * y.val)) [] := by
  refine con_of Go.Proofs.Tryz.func104 rfl (by kernel_rfl) (Nat.le_of_ble_eq_true rfl) ?_
  obtain ⟨w1, w2, w3, w4⟩ := pts_le hx h1 hL
  obtain ⟨v1, v2, v3, v4⟩ := pts_le hy h2 hM
  refine .by _ ⟨frParts_c x hx (by omega), ?_⟩
  refine .by _ ⟨frParts_c y hy (by omega), ?_⟩
  refine .by _ ⟨whMul_c (pts x).s (pts y).s (pts x).n (pts y).n w1 v1 (by omega) (by omega), ?_⟩
  refine .by _ ⟨prodMul_c (pts x).d (pts y).d w2 v2 (by omega) (by omega), ?_⟩
  have ld : (wl (wv (pts x).d * wv (pts y).d)).length < 2 ^ 37 := by
    have := Nat.le_trans (nwN_mul (wv (pts x).d) (wv (pts y).d)) (Nat.add_le_add (wl_len_wv w2) (wl_len_wv v2))
    unfold nwN at this
    omega
  have ln : nwN (sg (pts x).s (wv (pts x).n) * sg (pts y).s (wv (pts y).n)).natAbs < 2 ^ 37 := by
    rw [Int.natAbs_mul, sg_natAbs, sg_natAbs]
    have := Nat.le_trans (nwN_mul (wv (pts x).n) (wv (pts y).n)) (Nat.add_le_add (wl_len_wv w1) (wl_len_wv v1))
    omega
  have hc := frCancel_z (sg (pts x).s (wv (pts x).n) * sg (pts y).s (wv (pts y).n)) (wl (wv (pts x).d * wv (pts y).d)) (wl_WF _) ln ld (by rw [wv_wl]; exact Nat.mul_ne_zero (pts_den x) (pts_den y))
  rw [wv_wl, ← mul_mkRat, pts_val, pts_val] at hc
  exact .by _ ⟨hc, trivial, rfl⟩
theorem div_mkRat {s t : Bool} {n d m e : Nat} (hd : d ≠ 0) (hm : m ≠ 0) (he : e ≠ 0) : mkRat (sg (s != t) (n * e)) (d * m) = mkRat (sg s n) d / mkRat (sg t m) e := by
  have e1 : mkRat (sg t m) e ≠ 0 := by
    rw [Rat.mkRat_ne_zero he]
    cases t <;> simp [sg] <;> omega
  have e2 : mkRat (sg (s != t) (n * e)) (d * m) * mkRat (sg t m) e = mkRat (sg s n) d := by
    rw [Rat.mkRat_mul_mkRat, Rat.mkRat_eq_iff (Nat.mul_ne_zero (Nat.mul_ne_zero hd hm) he) hd]
    cases s <;> cases t <;> simp [sg] <;> grind
  rw [← e2, Rat.mul_div_cancel e1]
/-- frac.Quo. -/
theorem frQuo_no (hx : x.ok L) (hy : y.ok M) (h1 : 1 ≤ L) (h2 : 1 ≤ M) (hL : L < 2 ^ 35) (hM : M < 2 ^ 35) (h0 : y.val = 0) : CN 41 [fav x, fav y] [] (.tup [fq 0, .d (.bool false)]) [] := by
  refine con_of Go.Proofs.Tryz.func41 rfl (by kernel_rfl) (Nat.le_of_ble_eq_true rfl) ?_
  obtain ⟨w1, w2, w3, w4⟩ := pts_le hx h1 hL
  obtain ⟨v1, v2, v3, v4⟩ := pts_le hy h2 hM
  refine .by _ ⟨frParts_c x hx (by omega), ?_⟩
  refine .by _ ⟨frParts_c y hy (by omega), ?_⟩
  have h := whSign_c (pts y).s (pts y).n v1 (by omega)
  rw [pts_sg, h0] at h
  refine .by _ ⟨h, ?_⟩
  refine .yes rfl ?_
  exact .by _ ⟨frOf_c 0 (by decide) (by decide), trivial, rfl⟩
set_option maxRecDepth 10000 in
theorem frQuo_c (hx : x.ok L) (hy : y.ok M) (h1 : 1 ≤ L) (h2 : 1 ≤ M) (hL : L < 2 ^ 35) (hM : M < 2 ^ 35) (h0 : y.val ≠ 0) : CN 41 [fav x, fav y] [] (.tup [fq (x.val / y.val), .d (.bool true)]) [] := by
  refine con_of Go.Proofs.Tryz.func41 rfl (by kernel_rfl) (Nat.le_of_ble_eq_true rfl) ?_
  obtain ⟨w1, w2, w3, w4⟩ := pts_le hx h1 hL
  obtain ⟨v1, v2, v3, v4⟩ := pts_le hy h2 hM
  refine .by _ ⟨frParts_c x hx (by omega), ?_⟩
  refine .by _ ⟨frParts_c y hy (by omega), ?_⟩
  have h := whSign_c (pts y).s (pts y).n v1 (by omega)
  rw [pts_sg] at h
  refine .by _ ⟨h, ?_⟩
  refine .no (beq_eq_false_iff_ne.2 (fun e => h0 (qsg_zero.1 e))) ?_
  have hm0 : wv (pts y).n ≠ 0 := fun e => h0 (by rw [← pts_val y, e, sg_zero, Rat.zero_mkRat])
  have hcr := frCross_c (pts x).s (pts x).n (pts y).d w1 v2 (by omega) (by omega)
  have eu : sg (pts x).s (wv (pts x).n) * (wv (pts y).d : Int) = sg (pts x).s (wv (pts x).n * wv (pts y).d) := by
    cases (pts x).s <;> simp [sg, Int.neg_mul]
  rw [eu] at hcr
  refine .by _ ⟨hcr, ?_⟩
  refine .by _ ⟨prodMul_c (pts x).d (pts y).n w2 v1 (by omega) (by omega), ?_⟩
  have ld : (wl (wv (pts x).d * wv (pts y).n)).length < 2 ^ 37 := by
    have := Nat.le_trans (nwN_mul (wv (pts x).d) (wv (pts y).n)) (Nat.add_le_add (wl_len_wv w2) (wl_len_wv v1))
    unfold nwN at this
    omega
  have ln : (wl (wv (pts x).n * wv (pts y).d)).length < 2 ^ 37 := by
    have := Nat.le_trans (nwN_mul (wv (pts x).n) (wv (pts y).d)) (Nat.add_le_add (wl_len_wv w1) (wl_len_wv v2))
    unfold nwN at this
    omega
  have hc := frCancel_c (decide (sg (pts x).s (wv (pts x).n * wv (pts y).d) < 0) != (pts y).s) (wl (wv (pts x).n * wv (pts y).d)) (wl (wv (pts x).d * wv (pts y).n)) (wl_WF _) (wl_WF _) ln ld (by rw [wv_wl]; exact Nat.mul_ne_zero (pts_den x) hm0)
  rw [wv_wl, wv_wl] at hc
  have e2 : mkRat (sg (decide (sg (pts x).s (wv (pts x).n * wv (pts y).d) < 0) != (pts y).s) (wv (pts x).n * wv (pts y).d)) (wv (pts x).d * wv (pts y).n) = x.val / y.val := by
    rw [← pts_val x, ← pts_val y, ← div_mkRat (pts_den x) hm0 (pts_den y), sg_lt]
    by_cases hz : wv (pts x).n * wv (pts y).d = 0
    · rw [hz, sg_zero, sg_zero]
    · rw [decide_eq_true hz, Bool.and_true]
  rw [e2] at hc
  refine .by (fq (x.val / y.val)) ⟨?_, trivial, rfl⟩
  show CN _ [.agg [.d (.bool _), .d (wn (sg (pts x).s (wv (pts x).n * wv (pts y).d)).natAbs)], _] [] _ []
  rw [sg_natAbs]
  exact hc

end
end Go.KM
end
section
/- Contracts: frac (3). -/
namespace Go.KM
open Go RN
section
variable (x y : RF) {L M : Nat}
theorem ok_len {x : RF} (hx : x.ok L) (hL : L < 2 ^ 35) : x.n.length < 2 ^ 36 ∧ x.d.length < 2 ^ 36 := ⟨Nat.lt_of_le_of_lt hx.ln (by omega), Nat.lt_of_le_of_lt hx.ld (by omega)⟩
/-- frac.Neg. -/
theorem frNeg_c (hx : x.ok L) (h1 : 1 ≤ L) (hL : L < 2 ^ 35) : CN 224 [fav x] [] (fq (-x.val)) [] := by
  refine con_of Go.Proofs.Tryz.func224 rfl (by kernel_rfl) (Nat.le_of_ble_eq_true rfl) ?_
  refine .by _ ⟨frNorm_c x hx h1 hL, ?_⟩
  have hn := nw_num x.val
  have hv := nw_val hx h1
  have h := whNeg_c (decide (x.val.num < 0)) (wl x.val.num.natAbs) (wl_WF _) (by unfold nwN at hn; omega)
  rw [wz_val] at h
  exact .by (wz (-x.val.num)) ⟨h, trivial, rfl⟩
/-- frac.Abs. -/
theorem frAbs_c (hx : x.ok L) (h1 : 1 ≤ L) (hL : L < 2 ^ 35) : CN 35 [fav x] [] (fq x.val.abs) [] := by
  refine con_of Go.Proofs.Tryz.func35 rfl (by kernel_rfl) (Nat.le_of_ble_eq_true rfl) ?_
  refine .by _ ⟨frNorm_c x hx h1 hL, trivial, ?_⟩
  show AV.agg [.d (.bool false), .d (wn x.val.num.natAbs), .d (wn x.val.den)] = fq x.val.abs
  rw [fq_def]
  by_cases h : 0 ≤ x.val
  · rw [Rat.abs_of_nonneg h, decide_eq_false (fun k => by have := num_lt.1 k; exact absurd h (Rat.not_le.2 this))]
  · have h2 : x.val < 0 := Rat.not_le.1 h
    rw [Rat.abs_of_nonpos (Rat.le_of_lt h2), Rat.neg_num, Rat.neg_den, Int.natAbs_neg, decide_eq_false (by have := num_lt.2 h2; omega)]
/-- How many bits a fraction's numbers have. -/
def rsz (x : RF) : Nat := bl (wv x.n) + bl (wv x.d)
theorem bl_len {l : List Int} (h : WF l) : bl (wv l) ≤ 32 * l.length := blen_le h (Nat.le_refl _)
/-- frac.Size. -/
theorem frSize_c (hx : x.ok L) (hL : L < 2 ^ 35) : CN 122 [fav x] [] (i64 (rsz x)) [] := by
  refine con_of Go.Proofs.Tryz.func122 rfl (by kernel_rfl) (Nat.le_of_ble_eq_true rfl) ?_
  obtain ⟨l1, l2⟩ := ok_len hx hL
  refine .by _ ⟨twosLen_c x.n hx.wn (by omega), ?_⟩
  refine .by _ ⟨twosLen_c x.d hx.wd (by omega), trivial, ?_⟩
  have b1 := bl_len hx.wn
  have b2 := bl_len hx.wd
  show AV.d (.int .i64 (IntKind.i64.wrap _)) = _
  rw [wrap64 (by omega) (by omega)]
  rfl
theorem cmpI_zero {a b : Nat} : cmpI a b = 0 ↔ a = b := by
  unfold cmpI
  split
  · constructor <;> intro h <;> omega
  · split
    · constructor <;> intro h <;> omega
    · constructor <;> intro _ <;> omega
/-- Is a fraction right? -/
def isR (x : RF) : Bool := decide (x.s = qs x.val ∧ x.n = qn x.val ∧ x.d = qd x.val)
theorem isR_iff {x : RF} : isR x = true ↔ x = cq x.val := by
  unfold isR cq
  rw [decide_eq_true_eq]
  constructor
  · rintro ⟨h1, h2, h3⟩
    cases x
    simp only at h1 h2 h3
    congr 1
  · intro h
    have e1 := congrArg RF.s h
    have e2 := congrArg RF.n h
    have e3 := congrArg RF.d h
    exact ⟨e1, e2, e3⟩
theorem eq_wl {l : List Int} (h : WF l) {n : Nat} (h1 : l.length = (wl n).length) (h2 : wv l = n) : l = wl n := by
  have e1 := eq_dw h h1 h2
  have e2 := eq_dw (wl_WF n) rfl (wv_wl n)
  rw [e1, ← e2]
end
end Go.KM
end
section
/- Contracts: frac.Right. -/
namespace Go.KM
open Go RN
section
variable (x y : RF) {L M : Nat}
set_option maxRecDepth 10000 in
/-- frac.Right. -/
theorem frRight_c (hx : x.ok L) (h1 : 1 ≤ L) (hL : L < 2 ^ 35) : CN 121 [fav x] [] (.d (.bool (isR x))) [] := by
  refine con_of Go.Proofs.Tryz.func121 rfl (by kernel_rfl) (Nat.le_of_ble_eq_true rfl) ?_
  obtain ⟨l1, l2⟩ := ok_len hx hL
  have hn := nw_num x.val
  have hd := nw_den x.val
  have hv := nw_val hx h1
  unfold nwN at hn hd
  have hN := frNorm_c x hx h1 hL
  have iff : isR x = true ↔ x.s = qs x.val ∧ x.n = wl x.val.num.natAbs ∧ x.d = wl x.val.den := by unfold isR; rw [decide_eq_true_eq]; rfl
  rw [fq_def] at hN
  have es : decide (x.val.num < 0) = qs x.val := rfl
  rw [es] at hN
  generalize isR x = res at *
  generalize qs x.val = s' at *
  have W1 := wl_WF x.val.num.natAbs
  have W2 := wl_WF x.val.den
  have V1 := wv_wl x.val.num.natAbs
  have V2 := wv_wl x.val.den
  unfold wn at hN
  have E1 : x.n.length = (wl x.val.num.natAbs).length → wv x.n = wv (wl x.val.num.natAbs) → x.n = wl x.val.num.natAbs := fun a b => eq_wl hx.wn a (by rw [b, V1])
  have E2 : x.d.length = (wl x.val.den).length → wv x.d = wv (wl x.val.den) → x.d = wl x.val.den := fun a b => eq_wl hx.wd a (by rw [b, V2])
  generalize wl x.val.num.natAbs = n' at *
  generalize wl x.val.den = d' at *
  refine .by _ ⟨hN, ?_⟩
  have no : (res = true → False) → AV.d (.bool false) = .d (.bool res) := by
    intro h
    cases res
    · rfl
    · exact (h rfl).elim
  refine .mk (fun g1 => ?_) (fun g1 => ?_)
  · have g1 : x.s = s' := by simpa using g1
    refine .mk (fun g2 => ?_) (fun g2 => ?_)
    · have g2 : x.n.length = n'.length := by
        have := beq_iff_eq.1 g2
        rw [List.length_map, List.length_map] at this
        omega
      refine .mk (fun g3 => ?_) (fun g3 => ?_)
      · have g3 : x.d.length = d'.length := by
          have := beq_iff_eq.1 g3
          rw [List.length_map, List.length_map] at this
          omega
        refine .by _ ⟨natCmp_c x.n n' hx.wn W1 (by omega) (by omega), ?_⟩
        refine .mk (fun g4 => ?_) (fun g4 => ?_)
        · have g4 : wv x.n = wv n' := cmpI_zero.1 (beq_iff_eq.1 g4)
          refine .by _ ⟨natCmp_c x.d d' hx.wd W2 (by omega) (by omega), ?_⟩
          refine ⟨trivial, ?_⟩
          show AV.d (.bool (cmpI (wv x.d) (wv d') == 0)) = _
          congr 2
          by_cases g5 : wv x.d = wv d'
          · rw [iff.2 ⟨g1, E1 g2 g4, E2 g3 g5⟩]
            exact beq_iff_eq.2 (cmpI_zero.2 g5)
          · cases res
            · exact beq_eq_false_iff_ne.2 (fun e => g5 (cmpI_zero.1 e))
            · exact absurd (congrArg wv (iff.1 rfl).2.2) g5
        · exact ⟨trivial, no (fun h => by
            have := (iff.1 h).2.1
            rw [this] at g4
            have : cmpI (wv n') (wv n') = 0 := cmpI_zero.2 rfl
            rw [this] at g4
            simp at g4)⟩
      · refine .no rfl ?_
        exact ⟨trivial, no (fun h => by
          have := (iff.1 h).2.2
          rw [this] at g3
          simp at g3)⟩
    · refine .no rfl ?_
      refine .no rfl ?_
      exact ⟨trivial, no (fun h => by
        have := (iff.1 h).2.1
        rw [this] at g2
        simp at g2)⟩
  · refine .no rfl ?_
    refine .no rfl ?_
    refine .no rfl ?_
    exact ⟨trivial, no (fun h => by
      have := (iff.1 h).1
      rw [this] at g1
      simp at g1)⟩
end
end Go.KM
end
section
/- Contracts: frac (4). -/
namespace Go.KM
open Go RN
/-- A row of fractions, as data. -/
def frs (l : List RF) : D := .sl (l.map fds)
def oks (L : Nat) (l : List RF) : Prop := ∀ x ∈ l, x.ok L
theorem frs_get {l : List RF} {i : Nat} (h : i < l.length) : (l.map fds)[i]? = some (fds l[i]) := by
  simp [List.getElem?_eq_getElem h]
theorem frs_getI {l : List RF} {k : Int} {i : Nat} (e : k.toNat = i) (h : i < l.length) : (l.map fds)[k.toNat]? = some (fds l[i]) := by
  rw [e]; exact frs_get h
/-- The greatest of the first so many. -/
def mxk (l : List RF) : Nat → Rat
  | 0 => 0
  | k + 1 => if k = 0 ∨ mxk l k < (l.getD k ⟨false, [], []⟩).val then (l.getD k ⟨false, [], []⟩).val else mxk l k
theorem mxk_succ {l : List RF} {k : Nat} (h : k < l.length) : mxk l (k + 1) = if k = 0 ∨ mxk l k < l[k].val then l[k].val else mxk l k := by
  rw [mxk, List.getD_eq_getElem?_getD, List.getElem?_eq_getElem h]
  rfl
theorem nw_zero : nw 0 ≤ 1 := by unfold nw; exact Nat.max_le.2 ⟨nwN_le.2 (by decide), nwN_le.2 (by decide)⟩
theorem mxk_nw {l : List RF} {L : Nat} (hl : oks L l) (h1 : 1 ≤ L) : ∀ k, k ≤ l.length → nw (mxk l k) ≤ L
  | 0, _ => Nat.le_trans nw_zero h1
  | k + 1, h => by
    rw [mxk_succ h]
    have := hl l[k] (List.getElem_mem _)
    split
    · exact nw_val this h1
    · exact mxk_nw hl h1 k (by omega)
section
variable {L : Nat}
set_option maxRecDepth 10000 in
/-- frac.Max. -/
theorem frMax_c (l : List RF) (hl : oks L l) (h1 : 1 ≤ L) (hL : L < 2 ^ 35) (hn : l.length < 2 ^ 40) : CN 34 [.d (frs l)] [] (fq (mxk l l.length)) [] := by
  refine con_of Go.Proofs.Tryz.func34 rfl (by kernel_rfl) (Nat.le_of_ble_eq_true rfl) ?_
  refine .by _ ⟨frOf_c 0 (by decide) (by decide), ?_⟩
  refine .mk 0 (VLoop.mk Nat (fun k => frm 26 [.d (frs l), .any, .addr 2 0, .addr 3 0, .any, .any, .any, .d (frs l), i64 l.length, i64 k])
    (fun k => [(2, .box [.d (.bool false), .nils, .nils]), (3, .box [.d (.bool (cq (mxk l k)).s), .d (wd (cq (mxk l k)).n), .d (wd (cq (mxk l k)).d)])])
    (fun k => k ≤ l.length) (fun k => l.length - k) 0 (Nat.zero_le _) ?_ ?_ trivial ?_)
  · exact ⟨rfl, rfl, rfl, rfl, by rw [List.length_map], rfl, trivial⟩
  · exact ⟨rfl, rfl, trivial⟩
  · intro k hk
    have hb := mxk_nw hl h1 k hk
    refine .mk (fun h2 => ?_) (fun h2 => ?_)
    · have h2 : k < l.length := by simpa using h2
      refine .mk (by omega) ?_
      refine ⟨_, _, _, frs_getI (by omega) h2, ?_⟩
      have hx := hl l[k] (List.getElem_mem _)
      have hw : IntKind.i64.wrap ((k : Int) + 1) = ((k + 1 : Nat) : Int) := by rw [wrap64 (by omega) (by omega)]; rfl
      refine .mk (fun h3 => ?_) (fun h3 => ?_)
      · have h3 : k = 0 := by simpa using h3
        have e : mxk l (k + 1) = l[k].val := by rw [mxk_succ h2, if_pos (.inl h3)]
        refine .yes rfl ?_
        refine .by _ ⟨frNorm_c l[k] hx h1 hL, ?_⟩
        exact ⟨k + 1, h2, by omega, ⟨rfl, rfl, rfl, rfl, rfl, congrArg (fun z => AV.d (.int .i64 z)) hw, trivial⟩, ⟨rfl, by rw [e]; rfl, trivial⟩, trivial⟩
      · have h3 : k ≠ 0 := by simpa using h3
        refine .by _ ⟨frCmp_c l[k] (cq (mxk l k)) hx ((cq_ok _).mono hb) h1 h1 hL hL, ?_⟩
        rw [cq_val]
        refine .mk (fun h4 => ?_) (fun h4 => ?_)
        · have h4 : mxk l k < l[k].val := by
            have := qsg_pos.1 (of_decide_eq_true h4)
            grind
          have e : mxk l (k + 1) = l[k].val := by rw [mxk_succ h2, if_pos (.inr h4)]
          refine .by _ ⟨frNorm_c l[k] hx h1 hL, ?_⟩
          exact ⟨k + 1, h2, by omega, ⟨rfl, rfl, rfl, rfl, rfl, congrArg (fun z => AV.d (.int .i64 z)) hw, trivial⟩, ⟨rfl, by rw [e]; rfl, trivial⟩, trivial⟩
        · have h4 : ¬ mxk l k < l[k].val := by
            have := mt qsg_pos.2 (of_decide_eq_false h4)
            grind
          have e : mxk l (k + 1) = mxk l k := by rw [mxk_succ h2, if_neg (fun h => h.elim h3 h4)]
          exact ⟨k + 1, h2, by omega, ⟨rfl, rfl, rfl, rfl, rfl, congrArg (fun z => AV.d (.int .i64 z)) hw, trivial⟩, ⟨rfl, by rw [e]; rfl, trivial⟩, trivial⟩
    · have h2 : k = l.length := by
        have : ¬ (k : Int) < l.length := of_decide_eq_false h2
        omega
      exact ⟨trivial, by rw [h2]; rfl⟩
end
end Go.KM
end
section
/- Contracts: row (1). -/
namespace Go.KM
open Go RN
/-- The rows' values, put right. -/
def vals (l : List RF) : List Rat := l.map RF.val
def cqs (l : List Rat) : List RF := l.map cq
/-- A row of right fractions. -/
def fqs (l : List Rat) : D := frs (cqs l)
theorem cqs_oks {l : List Rat} {L : Nat} (h : ∀ q ∈ l, nw q ≤ L) : oks L (cqs l) := by
  intro x hx
  obtain ⟨q, hq, rfl⟩ := List.mem_map.1 hx
  exact (cq_ok q).mono (h q hq)
theorem vals_cqs (l : List Rat) : vals (cqs l) = l := by
  unfold vals cqs
  rw [List.map_map]
  exact (List.map_congr_left fun q _ => cq_val q).trans (List.map_id l)
theorem wrapS {k : Nat} (h : k < 2 ^ 40) : AV.d (.int .i64 (IntKind.i64.wrap ((k : Int) + 1))) = i64 ((k + 1 : Nat) : Int) := by
  rw [wrap64 (by omega) (by omega)]; rfl
theorem lenD (l : List RF) : AV.d (.int .i64 ((l.map fds).length : Int)) = i64 (l.length : Int) := by rw [List.length_map]; rfl
theorem len3 {l : List RF} : ∀ z ∈ l.map fds, z.length = 3 := by
  intro z hz
  obtain ⟨x, _, rfl⟩ := List.mem_map.1 hz
  rfl
section
variable {L : Nat}
/-- row.Same. -/
theorem rowSame_c (a b : List RF) (ha : oks L a) (hb : oks L b) (h1 : 1 ≤ L) (hL : L < 2 ^ 35) (la : a.length < 2 ^ 40) (lb : b.length < 2 ^ 40) : CN 12 [.d (frs a), .d (frs b)] [] (.d (.bool (decide (vals a = vals b)))) [] := by
  refine con_of Go.Proofs.Tryz.func12 rfl (by kernel_rfl) (Nat.le_of_ble_eq_true rfl) ?_
  refine .mk (fun h2 => ?_) (fun h2 => ?_)
  · have h2 : a.length ≠ b.length := by
      have h2 : ((a.map fds).length : Int) ≠ ((b.map fds).length : Int) := by simpa using h2
      rw [List.length_map, List.length_map] at h2
      omega
    have e : decide (vals a = vals b) = false := decide_eq_false fun e => by
      have := congrArg List.length e
      simp only [vals, List.length_map] at this
      exact h2 this
    exact ⟨trivial, by rw [e]; rfl⟩
  · have h2 : a.length = b.length := by
      have h2 : ((a.map fds).length : Int) = ((b.map fds).length : Int) := by simpa using h2
      rw [List.length_map, List.length_map] at h2
      omega
    refine .mk 0 (VLoop.mk Nat (fun k => frm 27 [.d (frs a), .d (frs b), .any, .any, .any, .any, .any, .any, .any, .any, .any, .any, i64 a.length, i64 k])
      (fun _ => []) (fun k => k ≤ a.length ∧ ∀ i (h : i < k) (h' : i < a.length) (h'' : i < b.length), a[i].val = b[i].val) (fun k => a.length - k) 0 ⟨Nat.zero_le _, by intro i h; omega⟩ ?_ trivial trivial ?_)
    · exact ⟨rfl, rfl, lenD a, rfl, trivial⟩
    · intro k ⟨hk, he⟩
      refine .mk (fun h3 => ?_) (fun h3 => ?_)
      · have h3 : k < a.length := by simpa using h3
        have h3' : k < b.length := by omega
        refine .mk (by omega) ⟨_, _, _, frs_getI (by omega) h3, ?_⟩
        refine .mk (by omega) ⟨_, _, _, frs_getI (by omega) h3', ?_⟩
        refine .by _ ⟨frSame_c a[k] b[k] (ha _ (List.getElem_mem _)) (hb _ (List.getElem_mem _)) h1 h1 hL hL, ?_⟩
        refine .mk (fun h4 => ?_) (fun h4 => ?_)
        · have h4 : a[k].val ≠ b[k].val := by simpa using h4
          have e : decide (vals a = vals b) = false := decide_eq_false fun e => by
            have e2 : (vals a)[k]'(by simpa [vals] using h3) = (vals b)[k]'(by simpa [vals] using h3') := by simp [e]
            simp [vals] at e2
            exact h4 e2
          exact ⟨trivial, by rw [e]; rfl⟩
        · have h4 : a[k].val = b[k].val := by simpa using h4
          refine ⟨k + 1, ⟨h3, ?_⟩, by omega, ⟨rfl, rfl, rfl, wrapS (by omega), trivial⟩, trivial, trivial⟩
          intro i h h' h''
          rcases Nat.lt_succ_iff_lt_or_eq.1 h with h | h
          · exact he i h h' h''
          · subst h; exact h4
      · have h3 : k = a.length := by
          have : ¬ (k : Int) < a.length := of_decide_eq_false h3
          omega
        subst h3
        have e : decide (vals a = vals b) = true := decide_eq_true (List.ext_getElem (by simp [vals, h2]) fun i h h' => by
          simp only [vals, List.getElem_map]
          simp only [vals, List.length_map] at h h'
          exact he i h h h')
        exact ⟨trivial, by rw [e]; rfl⟩
end
end Go.KM
end
section
/- Contracts: row (2). -/
namespace Go.KM
open Go RN
theorem fds_app (l : List RF) (x : RF) : l.map fds ++ [fds x] = (l ++ [x]).map fds := by rw [List.map_append]; rfl
theorem take_app {α : Type} {l : List α} {k : Nat} (h : k < l.length) : l.take (k + 1) = l.take k ++ [l[k]] := List.take_succ_eq_append_getElem h
theorem fqs_len (l : List Rat) : ((cqs l).map fds).length = l.length := by simp [cqs]
theorem oks_get {L : Nat} {l : List RF} (h : oks L l) {k : Nat} (hk : k < l.length) : l[k].ok L := h _ (List.getElem_mem _)
/-- Values of the first so many. -/
theorem vals_take {a : List RF} {k : Nat} (h : k < a.length) : (cqs (vals (a.take (k + 1)))).map fds = (cqs (vals (a.take k))).map fds ++ [fds (cq a[k].val)] := by
  rw [take_app h]
  unfold vals cqs
  rw [List.map_append, List.map_append, List.map_append]
  rfl
theorem b140 {n b : Nat} {L : List (List D)} (e : L.length = n) (h : n * b ≤ 140737488355328) : L.length * b ≤ 140737488355328 := by rw [e]; exact h
theorem one3 {x : RF} : ∀ z ∈ [fds x], z.length = 3 := by
  intro z hz; rw [List.mem_singleton.1 hz]; rfl
section
variable {L : Nat}
set_option maxRecDepth 10000 in
/-- row.norm, one's own row. -/
theorem rowNorm_own (a : List RF) (ha : oks L a) (h1 : 1 ≤ L) (hL : L < 2 ^ 35) (la : a.length < 2 ^ 30) (h0 : a ≠ []) : CN 105 [.d (frs a)] [] (.own 16 a.length 3) [(16, .row 3 ((cqs (vals a)).map fds) false)] := by
  refine conF_of Go.Proofs.Tryz.func105 rfl (by kernel_rfl) trivial (Nat.le_of_ble_eq_true rfl) ?_
  have l0 : 0 < a.length := List.length_pos_iff.2 h0
  refine .mk 1 ⟨frm 19 [.d (frs a), .any, .any, .nils, .any, .any, .d (frs a), i64 a.length, i64 0], [], ⟨rfl, rfl, rfl, lenD a, rfl, trivial⟩, trivial, trivial, ?_⟩
  refine .yes (decide_eq_true (by omega)) ?_
  refine .mk (by omega) ⟨_, _, _, frs_getI (by omega) l0, ?_⟩
  refine .by _ ⟨frNorm_c a[0] (oks_get ha l0) h1 hL, ?_⟩
  refine .of rfl (.of ⟨Nat.zero_lt_one, (by decide : (1 : Nat) * 56 ≤ 140737488355328), (by decide : (1 : Nat) ≤ 140737488355328), one3⟩ ?_)
  refine .mk Nat (fun k => frm 19 [.d (frs a), .any, .any, .own 16 k 3, .any, .any, .d (frs a), i64 a.length, i64 k]) (fun k => [(16, .row 3 ((cqs (vals (a.take k))).map fds) false)])
    (fun k => k ≤ a.length) (fun k => a.length - k) 1 l0 ⟨rfl, rfl, rfl, rfl, wrapS (k := 0) (by omega), trivial⟩ ⟨?_, trivial⟩ trivial ?_
  · show some _ = _
    rw [vals_take l0]
    rfl
  · intro k hk
    refine .mk (fun h3 => ?_) (fun h3 => ?_)
    · have h3 : k < a.length := by simpa using h3
      refine .mk (by omega) ⟨_, _, _, frs_getI (by omega) h3, ?_⟩
      refine .by _ ⟨frNorm_c a[k] (oks_get ha h3) h1 hL, ?_⟩
      refine .of rfl (.of ⟨?_, rfl, rfl, ?_, ?_, one3⟩ ?_)
      · simp only [cqs, vals, List.length_map, List.length_take]; omega
      · show (k + 1) * 56 ≤ _; omega
      · show k + 1 ≤ _; omega
      · refine ⟨k + 1, h3, by omega, ⟨rfl, rfl, rfl, rfl, wrapS (by omega), trivial⟩, ⟨?_, trivial⟩, trivial⟩
        rw [vals_take h3]
        rfl
    · have h3 : k = a.length := by
        have : ¬ (k : Int) < a.length := of_decide_eq_false h3
        omega
      subst h3
      exact ⟨⟨by rw [List.take_length]; rfl, trivial⟩, rfl⟩
/-- A row's values, so many times. -/
def scl (c : Rat) (l : List Rat) : List Rat := l.map fun q => c * q
theorem map_takeD {α : Type} {f : α → Rat} {a : List α} {k : Nat} (h : k < a.length) : (cqs ((a.take (k + 1)).map f)).map fds = (cqs ((a.take k).map f)).map fds ++ [fds (cq (f a[k]))] := by
  rw [take_app h]
  unfold cqs
  rw [List.map_append, List.map_append, List.map_append]
  rfl
theorem take_len_map {α β γ δ : Type} {f : α → β} {g : β → γ} {u : γ → δ} {a : List α} {k : Nat} (h : k ≤ a.length) : ((((a.take k).map f).map g).map u).length = k := by
  rw [List.length_map, List.length_map, List.length_map, List.length_take]; omega
set_option maxRecDepth 10000 in
/-- row.Scale. -/
theorem rowScale_c {M : Nat} (c : RF) (a : List RF) (hc : c.ok M) (ha : oks L a) (h1 : 1 ≤ L) (hL : L < 2 ^ 35) (m1 : 1 ≤ M) (hM : M < 2 ^ 35) (la : a.length < 2 ^ 30) : CN 77 [fav c, .d (frs a)] [] (.d (fqs (a.map fun x => c.val * x.val))) [] := by
  refine con_of Go.Proofs.Tryz.func77 rfl (by kernel_rfl) (Nat.le_of_ble_eq_true rfl) ?_
  refine .mk 1 ⟨frm 22 [.any, .d (frs a), .addr 2 0, .any, .any, .nils, .any, .any, .d (frs a), i64 a.length, i64 0], [(2, .box [.d (.bool c.s), .d (wd c.n), .d (wd c.d)])], ⟨rfl, rfl, rfl, rfl, lenD a, rfl, trivial⟩, ⟨rfl, trivial⟩, trivial, ?_⟩
  refine .mk (fun h0 => ?_) (fun h0 => ?_)
  · have l0 : 0 < a.length := by simpa using h0
    refine .mk (by omega) ⟨_, _, _, frs_getI (by omega) l0, ?_⟩
    refine .by _ ⟨frMul_c c a[0] hc (oks_get ha l0) m1 h1 hM hL, ?_⟩
    refine .of rfl (.of ⟨Nat.zero_lt_one, (by decide : (1 : Nat) * 56 ≤ 140737488355328), (by decide : (1 : Nat) ≤ 140737488355328), one3⟩ ?_)
    refine .mk Nat (fun k => frm 22 [.any, .d (frs a), .addr 2 0, .any, .any, .own 19 k 3, .any, .any, .d (frs a), i64 a.length, i64 k]) (fun k => [(2, .box [.d (.bool c.s), .d (wd c.n), .d (wd c.d)]), (19, .row 3 ((cqs ((a.take k).map fun x => c.val * x.val)).map fds) false)])
      (fun k => k ≤ a.length) (fun k => a.length - k) 1 l0 ⟨rfl, rfl, rfl, rfl, rfl, wrapS (k := 0) (by omega), trivial⟩ ⟨rfl, ?_, trivial⟩ trivial ?_
    · show some _ = _
      rw [map_takeD l0]
      rfl
    · intro k hk
      refine .mk (fun h3 => ?_) (fun h3 => ?_)
      · have h3 : k < a.length := by simpa using h3
        refine .mk (by omega) ⟨_, _, _, frs_getI (by omega) h3, ?_⟩
        refine .by _ ⟨frMul_c c a[k] hc (oks_get ha h3) m1 h1 hM hL, ?_⟩
        refine .of rfl (.of ⟨take_len_map hk, rfl, rfl, ?_, ?_, one3⟩ ?_)
        · show (k + 1) * 56 ≤ _; omega
        · show k + 1 ≤ _; omega
        · refine ⟨k + 1, h3, by omega, ⟨rfl, rfl, rfl, rfl, rfl, wrapS (by omega), trivial⟩, ⟨rfl, ?_, trivial⟩, trivial⟩
          rw [map_takeD h3]
          rfl
      · have h3 : k = a.length := by
          have : ¬ (k : Int) < a.length := of_decide_eq_false h3
          omega
        subst h3
        refine .of ⟨take_len_map hk, rfl⟩ ⟨trivial, ?_⟩
        rw [List.take_length]
        rfl
  · have l0 : a = [] := by
      have : ¬ (0 : Int) < a.length := of_decide_eq_false h0
      exact List.length_eq_zero_iff.1 (by omega)
    subst l0
    exact ⟨trivial, rfl⟩
/-- The greatest without its sign. -/
def mxa (l : List Rat) : Rat := l.foldl (fun b q => if b < q.abs then q.abs else b) 0
theorem mxa_take {l : List RF} {k : Nat} (h : k < l.length) : mxa (vals (l.take (k + 1))) = if mxa (vals (l.take k)) < l[k].val.abs then l[k].val.abs else mxa (vals (l.take k)) := by
  rw [take_app h]
  unfold mxa vals
  rw [List.map_append, List.foldl_append]
  rfl
theorem mxk_two (x y : RF) : mxk [x, y] 2 = if x.val < y.val then y.val else x.val := by
  have e1 : mxk [x, y] 1 = x.val := by rw [mxk_succ (show 0 < 2 by decide), if_pos (.inl rfl)]; rfl
  rw [mxk_succ (show 1 < 2 by decide), e1]
  by_cases h : x.val < y.val
  · rw [if_pos h, if_pos (.inr h)]; rfl
  · rw [if_neg h, if_neg (fun e => e.elim (by decide) h)]
theorem nw_abs (q : Rat) : nw q.abs = nw q := by
  by_cases h : 0 ≤ q
  · rw [Rat.abs_of_nonneg h]
  · rw [Rat.abs_of_nonpos (Rat.le_of_lt (Rat.not_le.1 h)), nw_neg]
theorem mxa_nw {a : List RF} (ha : oks L a) (h1 : 1 ≤ L) : ∀ k, k ≤ a.length → nw (mxa (vals (a.take k))) ≤ L
  | 0, _ => Nat.le_trans nw_zero h1
  | k + 1, h => by
    rw [mxa_take h]
    split
    · rw [nw_abs]; exact nw_val (oks_get ha h) h1
    · exact mxa_nw ha h1 k (by omega)
set_option maxRecDepth 10000 in
/-- row.Norm: the greatest fraction without its sign. -/
theorem rowNorm_c (a : List RF) (ha : oks L a) (h1 : 1 ≤ L) (hL : L < 2 ^ 35) (la : a.length < 2 ^ 30) : CN 14 [.d (frs a)] [] (fq (mxa (vals a))) [] := by
  refine con_of Go.Proofs.Tryz.func14 rfl (by kernel_rfl) (Nat.le_of_ble_eq_true rfl) ?_
  refine .by _ ⟨frOf_c 0 (by decide) (by decide), ?_⟩
  refine .mk 0 (VLoop.mk Nat (fun k => frm 20 [.d (frs a), .any, .addr 2 0, .addr 3 0, .any, .any, .any, .d (frs a), i64 a.length, i64 k])
    (fun k => [(2, .box [.d (.bool false), .nils, .nils]), (3, .box [.d (.bool (cq (mxa (vals (a.take k)))).s), .d (wd (cq (mxa (vals (a.take k)))).n), .d (wd (cq (mxa (vals (a.take k)))).d)])])
    (fun k => k ≤ a.length) (fun k => a.length - k) 0 (Nat.zero_le _) ⟨rfl, rfl, rfl, rfl, lenD a, rfl, trivial⟩ ⟨rfl, rfl, trivial⟩ trivial ?_)
  intro k hk
  have hb := mxa_nw ha h1 k hk
  refine .mk (fun h3 => ?_) (fun h3 => ?_)
  · have h3 : k < a.length := by simpa using h3
    refine .mk (by omega) ⟨_, _, _, frs_getI (by omega) h3, ?_⟩
    refine .by _ ⟨frAbs_c a[k] (oks_get ha h3) h1 hL, ?_⟩
    have hab : nw a[k].val.abs ≤ L := by rw [nw_abs]; exact nw_val (oks_get ha h3) h1
    have hm := frMax_c [cq (mxa (vals (a.take k))), cq a[k].val.abs] (L := L) (by
      intro x hx
      rcases List.mem_cons.1 hx with rfl | hx
      · exact (cq_ok _).mono hb
      · rw [List.mem_singleton.1 hx]; exact (cq_ok _).mono hab) h1 hL (by show 2 < _; omega)
    rw [show mxk [cq (mxa (vals (a.take k))), cq a[k].val.abs] [cq (mxa (vals (a.take k))), cq a[k].val.abs].length = mxa (vals (a.take (k + 1))) by rw [mxa_take h3, ← cq_val (mxa (vals (a.take k))), ← cq_val a[k].val.abs, ← mxk_two]; simp only [cq_val]; rfl] at hm
    refine .by _ (.of ⟨rfl, rfl⟩ ⟨hm, ?_⟩)
    exact ⟨k + 1, h3, by omega, ⟨rfl, rfl, rfl, rfl, rfl, wrapS (by omega), trivial⟩, ⟨rfl, rfl, trivial⟩, trivial⟩
  · have h3 : k = a.length := by
      have : ¬ (k : Int) < a.length := of_decide_eq_false h3
      omega
    subst h3
    exact ⟨trivial, by rw [List.take_length]; rfl⟩
end
end Go.KM
end
