/- The law StepStands of the given program answers true for every input.  Part 2 of 10: K8, K9, K10, K11, K12, K13, K131, K132, K14. -/
import Derived.Test.YtdiojmcleapkdaaGreatDoorM1
import Derived.Laws.AppendOwn
section
/- The K machine: each operation does what the machine says (2): memory. -/
namespace Go.KM
open Go

theorem flat_len {α : Type} {xs : List (List α)} {c : Nat} (h : ∀ x ∈ xs, x.length = c) : xs.flatten.length = xs.length * c := by
  induction xs with
  | nil => simp
  | cons x r ih =>
    rw [List.flatten_cons, List.length_append, ih (fun y hy => h y (by simp [hy])), h x (by simp), List.length_cons, Nat.add_mul, Nat.one_mul, Nat.add_comm]
theorem flat_get {α : Type} {xs : List (List α)} {c : Nat} (h : ∀ x ∈ xs, x.length = c) {i j : Nat} {es : List α} (hi : xs[i]? = some es) (hj : j < c) : xs.flatten[i * c + j]? = es[j]? := by
  induction xs generalizing i with
  | nil => simp at hi
  | cons x r ih =>
    have hx := h x (by simp)
    rw [List.flatten_cons]
    cases i with
    | zero =>
      simp at hi
      subst hi
      rw [Nat.zero_mul, Nat.zero_add, List.getElem?_append_left (by omega)]
    | succ i =>
      rw [List.getElem?_append_right (by rw [Nat.add_mul]; omega)]
      have : (i + 1) * c + j - x.length = i * c + j := by rw [Nat.add_mul]; omega
      rw [this]
      exact ih (fun y hy => h y (by simp [hy])) (by simpa using hi)
theorem flat_lt {α : Type} {xs : List (List α)} {c : Nat} (h : ∀ x ∈ xs, x.length = c) {i j : Nat} (hi : i < xs.length) (hj : j < c) : i * c + j < xs.flatten.length := by
  rw [flat_len h]
  have : (i + 1) * c ≤ xs.length * c := Nat.mul_le_mul_right c hi
  rw [Nat.add_mul] at this
  omega

section
variable {P : Program} {B : Base} {ι : Idm} {μ : Mm} {w : World} {o : Oper} {a : Act} {next : Act → World → Prop} {Q : Exit → Act → World → Prop} {K : AV → Mem → List Nat → Prop} {tab : Tab}

theorem rd_get {im : Imm} {xs : List (List D)} {v : Value} (h : Rd w im (.sl xs) v) {i : Nat} {es : List D} (hi : xs[i]? = some es) :
    ∃ b off cap, v = .slice (some ⟨b, off, none⟩) xs.length cap ∧ RV w im ι μ (.ro es) (.pointer (some ⟨b, off + i * es.length, none⟩)) := by
  cases h with
  | nil a cap => simp at hi
  | sl b off cap c xs vs hc hcap hcell hrd =>
    have hlt : i < xs.length := by
      rcases Nat.lt_or_ge i xs.length with h | h
      · exact h
      · rw [List.getElem?_eq_none h] at hi; cases hi
    have hl : es.length = c := hc es (List.mem_of_getElem? hi)
    refine ⟨b, off, cap, rfl, .ro (fun m => vs (i * c + m)) (fun m hm => ?_) (fun m hm => ?_)⟩
    · have := hcell (i * c + m) (flat_lt hc hlt (by omega))
      rw [hl, Nat.add_assoc]
      exact this
    · have h1 := flat_lt hc hlt (show m < c by omega)
      have h2 := hrd (i * c + m) h1
      have h3 := flat_get hc hi (show m < c by omega)
      rw [List.getElem?_eq_getElem h1, List.getElem?_eq_getElem hm] at h3
      injection h3 with h3
      rwa [h3] at h2

/-- What a told box holds. -/
theorem box_cell {im : Imm} {id : Nat} {cs : List AV} (h : BlkR w im ι μ id (.box cs)) {b : Nat} (hb : ι id = some b) :
    ∃ vs T, w.heap[b]? = some (Obj.cells vs T (0, 0)) ∧ vs.size = cs.length ∧ ∀ m (h1 : m < cs.length) (h2 : m < vs.size), one (vs[m]'h2) ∧ RV w im ι μ (cs[m]'h1) (vs[m]'h2) := by
  obtain ⟨g, vs, T, h1, h2, h3, h4⟩ := h
  rw [hb] at h1
  injection h1 with h1
  subst h1
  exact ⟨vs, T, h2, h3, h4⟩

theorem run_loadAt {t : TypeId} {x : Operand} (ho : o.op = .load t x) {b off : Nat} (hx : a.eval x = .pointer (some ⟨b, off, none⟩)) {v : Value} (h : (loadVar t ⟨b, off, none⟩).run P w = .ok v w) :
    (execOp a.eval o).run P w = .ok (.value v) w := by
  unfold execOp
  simp only [ho, hx]
  simp [Instr.loadAt, Instr.sureAddr, h]

/-- Cells in a row that are told, from a place on. -/
theorem agg_told {im : Imm} {vs : Array Value} {cs : List AV} {off n : Nat} (hs : vs.size = cs.length) (hv : ∀ m (h1 : m < cs.length) (h2 : m < vs.size), one (vs[m]'h2) ∧ RV w im ι μ (cs[m]'h1) (vs[m]'h2)) (h : off + n ≤ cs.length) :
    RV w im ι μ (.agg ((cs.drop off).take n)) (.agg ((vs.toList.drop off).take n).toArray) := by
  refine .agg (by simp; omega) (fun v hv' => ?_) (fun m h1 h2 => ?_)
  · obtain ⟨m, hm⟩ := List.getElem?_of_mem (List.mem_of_mem_drop (List.mem_of_mem_take hv'))
    have h2 : m < vs.size := by
      rcases Nat.lt_or_ge m vs.size with h | h
      · exact h
      · rw [List.getElem?_eq_none (by simpa using h)] at hm; cases hm
    have := (hv m (by omega) h2).1
    rw [List.getElem?_eq_getElem (by simpa using h2)] at hm
    injection hm with hm
    rw [← hm]
    simpa using this
  · have h3 : m < n := by simp at h1; omega
    have := (hv (off + m) (by omega) (by omega)).2
    simpa [List.getElem_take, List.getElem_drop] using this

theorem ro_cells {im : Imm} {cs : List D} {v : Value} (h : RV w im ι μ (.ro cs) v) :
    ∃ (b off : Nat) (vs : Nat → Value), v = .pointer (some ⟨b, off, none⟩) ∧ (∀ m, m < cs.length → w.cell? ⟨b, off + m, none⟩ = some (vs m) ∧ im b (off + m)) ∧ ∀ m (h : m < cs.length), Rd w im (cs[m]'h) (vs m) := by
  cases h with | ro vs h1 h2 => exact ⟨_, _, vs, rfl, h1, h2⟩

theorem sound_load {c : Cx} (hT : TabOk P c.tab) {ρ : Operand → AV} {t : TypeId} {x : Operand} (ho : o.op = .load t x) (h : MR B ι μ w)
    (hx : RV w (imm B ι μ) ι μ (ρ x) (a.eval x)) (hk : opw1 c ρ μ o K) (hn : Nxt B ι μ w o a K next) : o.wp P a w next Q := by
  unfold opw1 at hk
  rw [ho] at hk
  simp only at hk
  generalize ρ x = u at *
  split at hk
  · -- a variable's cell
    rename_i i id off ht
    have hti := hT t i ht
    obtain ⟨⟨cs0, hcs0⟩, b, hb, hv⟩ : (∃ cs, μ id = some (.box cs)) ∧ ∃ b, ι id = some b ∧ a.eval x = .pointer (some ⟨b, off, none⟩) := by
      generalize a.eval x = v at hx
      cases hx with | addr h1 h2 => exact ⟨h1, _, h2, rfl⟩
    split at hk
    · rename_i cs hcs
      obtain ⟨vs, T, h1, h2, h3⟩ := box_cell (h.blks id _ hcs) hb
      split at hk
      · rename_i htd
        obtain ⟨h4, hk⟩ := dropK_spec hk
        obtain ⟨h5, hk⟩ := takeK_spec hk
        have h6 : off + i.size ≤ cs.length := by simp at h5; omega
        have hr : (loadVar t ⟨b, off, none⟩).run P w = .ok (.agg ((vs.toList.drop off).take i.size).toArray) w := by
          refine run_load_agg hti htd (by simp; omega) (fun m v hm => ?_)
          rw [cell_blk h1]
          have : m < i.size := by
            rcases Nat.lt_or_ge m i.size with h | h
            · exact h
            · rw [List.getElem?_eq_none (by simp; omega)] at hm; cases hm
          rw [List.getElem?_take, if_pos this, List.getElem?_drop] at hm
          simpa using hm
        exact pure_wp hn h hk (run_loadAt ho hv hr) (agg_told h2 h3 h6)
      · rename_i hne
        obtain ⟨h4, hk⟩ := dropK_spec hk
        obtain ⟨h5, hk⟩ := takeK_spec hk
        have hlt : off < cs.length := by simp at h5; omega
        have e : (cs.drop off).take 1 = [cs[off]] := by
          rw [List.drop_eq_getElem_cons hlt]; rfl
        rw [e] at hk
        simp only [frc_eq] at hk
        have h6 := (h3 off hlt (by omega)).2
        have hs : isStruct i.td = false := hne
        exact pure_wp hn h hk (run_loadAt ho hv (run_load_one hti hs (by rw [cell_blk h1]; exact Array.getElem?_eq_getElem _))) h6
    · exact hk.elim
  · -- an element's cells
    rename_i i cs ht
    have hti := hT t i ht
    obtain ⟨b, off, vs, hv, h1, h2⟩ := ro_cells hx
    split at hk
    · rename_i htd
      obtain ⟨h5, hk⟩ := takeK_spec hk
      rw [mapdK_eq] at hk
      have hr : (loadVar t ⟨b, off, none⟩).run P w = .ok (.agg ((List.range i.size).map vs).toArray) w := by
        refine run_load_agg hti htd (by simp) (fun m v hm => ?_)
        have : m < i.size := by
          rcases Nat.lt_or_ge m i.size with h | h
          · exact h
          · rw [List.getElem?_eq_none (by simp; omega)] at hm; cases hm
        rw [List.getElem?_map, List.getElem?_range this] at hm
        simp at hm
        rw [← hm]
        exact (h1 m (by omega)).1
      refine pure_wp hn h hk (run_loadAt ho hv hr) (.agg (by simp; omega) (fun v hv' => ?_) (fun m h6 h7 => ?_))
      · obtain ⟨m, hm, rfl⟩ := List.mem_map.1 hv'
        exact (h2 m (by simp at hm; omega)).one
      · have : m < cs.length := by simp at h6; omega
        simpa using RV.d (h2 m this)
    · rename_i hne
      have hs : isStruct i.td = false := hne
      split at hk
      · rename_i d cs'
        have h3 := h1 0 (by simp)
        exact pure_wp hn h hk (run_loadAt ho hv (run_load_one hti hs h3.1)) (.d (h2 0 (by simp)))
      · exact hk.elim
  · -- an element of an own row
    rename_i i id j off c' len ht
    have hti := hT t i ht
    split at hk
    · rename_i c2 xs l hrow
      obtain ⟨hlen, hk⟩ := hk
      obtain ⟨h0, hk⟩ := hk
      obtain ⟨es, hes, hg, hk⟩ := exS_spec hk
      obtain ⟨b, hb, e1, hv⟩ : ∃ b, ι id = some b ∧ c2 = c' ∧ a.eval x = .pointer (some ⟨b, j * c' + off, none⟩) := by
        generalize a.eval x = v at hx
        cases hx with | el h1 h2 h3 =>
          rw [hrow] at h1
          injection h1 with h1
          injection h1 with e1 e2 e3
          subst e1 e2 e3
          obtain ⟨h4, h5⟩ := h3 hlen
          exact ⟨_, h4, h5, rfl⟩
      subst e1
      obtain ⟨g, vs, T, h1, h2, h3, h4, h5⟩ := h.blks id _ hrow
      rw [hb] at h1
      injection h1 with h1
      subst h1
      have hg' : xs[j]? = some es := by simpa using hg
      have hlt : j < xs.length := by
        rcases Nat.lt_or_ge j xs.length with h | h
        · exact h
        · rw [List.getElem?_eq_none h] at hg'; cases hg'
      have hel : es.length = c2 := h4 es (List.mem_of_getElem? hg')
      have cell : ∀ m (hm : m < es.length), ∃ u, w.cell? ⟨b, j * c2 + m, none⟩ = some u ∧ Rd w (imm B ι μ) (es[m]'hm) u := by
        intro m hm
        have h6 := flat_lt h4 hlt (show m < c2 by omega)
        have h7 := flat_get h4 hg' (show m < c2 by omega)
        rw [List.getElem?_eq_getElem h6, List.getElem?_eq_getElem hm] at h7
        injection h7 with h7
        refine ⟨vs[j * c2 + m]'(by omega), ?_, ?_⟩
        · rw [cell_blk h2]; exact Array.getElem?_eq_getElem _
        · have := h5 _ h6 (by omega)
          rwa [h7] at this
      split at hk
      · rename_i htd
        rw [mapdK_eq] at hk
        obtain ⟨h6, hk⟩ := dropK_spec hk
        obtain ⟨h7, hk⟩ := takeK_spec hk
        have h8 : off + i.size ≤ es.length := by simp at h6 h7; omega
        have cell' : ∀ m, ∃ u, (off + m < es.length → w.cell? ⟨b, j * c2 + (off + m), none⟩ = some u ∧ ∀ hm : off + m < es.length, Rd w (imm B ι μ) (es[off + m]'hm) u) := by
          intro m
          by_cases hm : off + m < es.length
          · obtain ⟨u, h9, h10⟩ := cell _ hm
            exact ⟨u, fun _ => ⟨h9, fun _ => h10⟩⟩
          · exact ⟨undef, fun h => absurd h hm⟩
        have hr : (loadVar t ⟨b, j * c2 + off, none⟩).run P w = .ok (.agg ((List.range i.size).map fun m => (cell' m).choose).toArray) w := by
          refine run_load_agg hti htd (by simp) (fun m v hm => ?_)
          have : m < i.size := by
            rcases Nat.lt_or_ge m i.size with h | h
            · exact h
            · rw [List.getElem?_eq_none (by simp; omega)] at hm; cases hm
          rw [List.getElem?_map, List.getElem?_range this] at hm
          simp at hm
          rw [← hm, Nat.add_assoc]
          exact ((cell' m).choose_spec (by omega)).1
        refine pure_wp hn h hk (run_loadAt ho hv hr) (.agg (by simp; omega) (fun v hv' => ?_) (fun m h9 h10 => ?_))
        · obtain ⟨m, hm, rfl⟩ := List.mem_map.1 hv'
          have hm' : off + m < es.length := by simp at hm; omega
          exact (((cell' m).choose_spec hm').2 hm').one
        · have hm' : off + m < es.length := by simp at h9; omega
          have := ((cell' m).choose_spec hm').2 hm'
          simpa [List.getElem_take, List.getElem_drop] using RV.d (ι := ι) (μ := μ) this
      · rename_i hne
        have hs : isStruct i.td = false := hne
        obtain ⟨h6, hk⟩ := dropK_spec hk
        split at hk
        · rename_i d rest e
          have hlt2 : off < es.length := by
            rcases Nat.lt_or_ge off es.length with h | h
            · exact h
            · rw [List.drop_eq_nil_of_le h] at e; cases e
          have e2 : es[off] = d := by
            rw [List.drop_eq_getElem_cons hlt2] at e
            injection e
          obtain ⟨u, h9, h10⟩ := cell off hlt2
          rw [e2] at h10
          exact pure_wp hn h hk (run_loadAt ho hv (run_load_one hti hs h9)) (.d h10)
        · exact hk.elim
    · exact hk.elim
  · exact hk.elim

end
end Go.KM
end
section
/- The K machine: each operation does what the machine says (3): new memory, stores, addresses. -/
namespace Go.KM
open Go

section
variable {P : Program} {B : Base} {ι : Idm} {μ : Mm} {w : World} {o : Oper} {a : Act} {next : Act → World → Prop} {Q : Exit → Act → World → Prop} {K : AV → Mem → List Nat → Prop}

theorem addr_new {d : Nat} {cs : List AV} {w' : World} {im : Imm} : RV w' im (updI ι d w.heap.size) (upd1 μ d (.box cs)) (.addr d 0) (.pointer (some ⟨w.heap.size, 0, none⟩)) :=
  .addr ⟨cs, upd1_same _ _ _⟩ (by simp [updI])

theorem sound_box {c : Cx} {ρ : Operand → AV} {t : TypeId} {x : Operand} (ho : o.op = .box t x) (h : MR B ι μ w)
    (hx : RV w (imm B ι μ) ι μ (ρ x) (a.eval x)) (hk : opw1 c ρ μ o K) (hn : Nxt B ι μ w o a K next) : o.wp P a w next Q := by
  unfold opw1 at hk
  rw [ho] at hk
  simp only at hk
  split at hk
  · rename_i d hd
    split at hk
    · rename_i hmu
      obtain ⟨cs, hk, hl, h1, hv⟩ := cellsK_spec hx hk
      have ht := Turn.alloc h hmu (.box cs) (a.eval x).cells t ⟨hl.symm, fun m h2 h3 => ⟨h1 _ (Array.getElem_mem h3), hv m h2 h3⟩⟩
      refine value_wp (w' := w.alloc (.cells (a.eval x).cells t)) (val := .pointer (some ⟨w.heap.size, 0, none⟩)) ?_ (hn _ _ _ _ _ _ hk (by rw [updM_one]; exact ht) (by rw [updM_one]; exact addr_new))
      unfold execOp
      simp only [ho]
      simp [Instr.box, newVar, newRow]
    · exact hk.elim
  · exact hk.elim

theorem sound_alloc {c : Cx} (hT : TabOk P c.tab) {ρ : Operand → AV} {t : TypeId} (ho : o.op = .alloc t) (h : MR B ι μ w)
    (hk : opw1 c ρ μ o K) (hn : Nxt B ι μ w o a K next) : o.wp P a w next Q := by
  unfold opw1 at hk
  rw [ho] at hk
  simp only at hk
  split at hk
  · rename_i d i hd ht
    split at hk
    · rename_i hmu
      obtain ⟨z, hz, hl, hv⟩ := run_zero (hT t i ht) w
      have htn := Turn.alloc h hmu (.box i.zero) z.cells t ⟨hl.symm, fun m h2 h3 => (hv m h2 h3).rv _ _ _ _⟩
      refine value_wp (w' := w.alloc (.cells z.cells t)) (val := .pointer (some ⟨w.heap.size, 0, none⟩)) ?_ (hn _ _ _ _ _ _ hk (by rw [updM_one]; exact htn) (by rw [updM_one]; exact addr_new))
      unfold execOp
      simp only [ho]
      simp [Instr.alloc, hz, newVar, newRow]
    · exact hk.elim
  · exact hk.elim

theorem addr_val {im : Imm} {id off : Nat} {v : Value} (h : RV w im ι μ (.addr id off) v) : (∃ cs, μ id = some (.box cs)) ∧ ∃ b, ι id = some b ∧ v = .pointer (some ⟨b, off, none⟩) := by
  cases h with | addr h1 h2 => exact ⟨h1, _, h2, rfl⟩

theorem run_storeAt {t : TypeId} {x y : Operand} (ho : o.op = .store t x y) {ad : Addr} (hx : a.eval x = .pointer (some ad)) {w' : World} (h : (storeVar t ad (a.eval y)).run P w = .ok () w') :
    (execOp a.eval o).run P w = .ok .skip w' := by
  unfold execOp
  simp only [ho, hx]
  simp [Instr.storeAt, Instr.sureAddr, h]

theorem sound_store {c : Cx} (hT : TabOk P c.tab) {ρ : Operand → AV} {t : TypeId} {x y : Operand} (ho : o.op = .store t x y) (h : MR B ι μ w)
    (hx : RV w (imm B ι μ) ι μ (ρ x) (a.eval x)) (hy : RV w (imm B ι μ) ι μ (ρ y) (a.eval y)) (hk : opw1 c ρ μ o K) (hn : Nxt B ι μ w o a K next) : o.wp P a w next Q := by
  unfold opw1 at hk
  rw [ho] at hk
  simp only at hk
  split at hk
  · rename_i i ht
    obtain ⟨j, hj1, hj2, _⟩ := (hT t i ht).info
    split at hk
    · rename_i id off hxx
      rw [hxx] at hx
      obtain ⟨⟨cs0, hcs0⟩, b, hb, hv⟩ := addr_val hx
      split at hk
      · rename_i cs hcs
        obtain ⟨vs, hk, hl, h1, hvs⟩ := cellsK_spec hy hk
        split at hk
        · rename_i hsz
          have hsz := Nat.eq_of_beq_eq_true hsz
          obtain ⟨h2, hk⟩ := overK_spec hk
          obtain ⟨cur, T, h3, h4, h5⟩ := box_cell (h.blks id _ hcs) hb
          have hst := run_store_var (P := P) hj1 hj2 (o := off) (v := a.eval y) h3 (by omega) (by omega) h1
          have hlen : off + (a.eval y).cells.toList.length ≤ cur.toList.length := by simp; omega
          have htn := Turn.write h hcs hb cur (over cur.toList off (a.eval y).cells.toList).toArray T h3 (by simp [over_length _ _ _ hlen]) (blk' := .box (over cs off vs)) trivial
            ⟨by simp [over_length _ _ _ hlen, over_length _ _ _ h2, h4], fun m h6 h7 => by
              have e1 := over_get cs off vs h2 m
              have e2 := over_get cur.toList off (a.eval y).cells.toList hlen m
              rw [List.getElem?_eq_getElem h6] at e1
              rw [List.getElem?_eq_getElem (by simpa using h7)] at e2
              simp only [List.getElem_toArray]
              by_cases hm : off ≤ m ∧ m < off + vs.length
              · rw [if_pos hm] at e1
                rw [if_pos (by simp; omega)] at e2
                have h8 : m - off < vs.length := by omega
                have h9 : m - off < (a.eval y).cells.size := by omega
                rw [List.getElem?_eq_getElem h8] at e1
                rw [List.getElem?_eq_getElem (by simpa using h9)] at e2
                injection e1 with e1
                injection e2 with e2
                rw [e1, e2]
                exact ⟨h1 _ (by simp), by simpa using hvs (m - off) h8 h9⟩
              · rw [if_neg hm] at e1
                rw [if_neg (by simp; omega)] at e2
                have h8 : m < cs.length := by rw [over_length _ _ _ h2] at h6; exact h6
                rw [List.getElem?_eq_getElem h8] at e1
                rw [List.getElem?_eq_getElem (by simp; omega)] at e2
                injection e1 with e1
                injection e2 with e2
                rw [e1, e2]
                simpa using h5 m h8 (by omega)⟩
          exact skip_wp (run_storeAt ho hv hst) (hn _ _ _ _ _ _ hk (by rw [updM_one]; exact htn) (.any _))
        · exact hk.elim
      · exact hk.elim
    · rename_i id jx off c' len hxx
      rw [hxx] at hx
      split at hk
      · rename_i c2 xs l hrow
        split at hk
        · obtain ⟨vs, hk, hl, h1, hvs⟩ := cellsK_spec hy hk
          obtain ⟨ds, u, t', hk, htn, hlent, hdl, hds, hu, hut⟩ := lendsK_spec (Lent.refl μ) h (vs := (a.eval y).cells.toList) (by simpa using hl) (fun m h2 h3 => by simpa using hvs m h2 (by simpa using h3)) hk
          split at hk
          · rename_i hsz
            rw [Bool.and_eq_true] at hsz
            have hsz1 := Nat.eq_of_beq_eq_true hsz.1
            have hsz2 := Nat.eq_of_beq_eq_true hsz.2
            obtain ⟨⟨e1, e2, e3, hj⟩, hk2⟩ := hk
            subst e2
            rw [← e1] at hj
            obtain ⟨b, hb, hv⟩ : ∃ b, ι id = some b ∧ a.eval x = .pointer (some ⟨b, jx * c2 + 0, none⟩) := by
              generalize a.eval x = v at hx
              cases hx with | el h1 h2 h3 =>
                rw [hrow] at h1
                injection h1 with h1
                injection h1 with e1' e2 e3
                subst e1' e2 e3
                obtain ⟨h4, h5⟩ := h3 e1
                exact ⟨_, h4, rfl⟩
            -- behind the lending
            have hrow2 : updM μ u id = some (.row c2 xs false) := (hu id e3).trans hrow
            obtain ⟨g, cur, T, h2, h3, h4, h5, h6⟩ := htn.mr.blks id _ hrow2
            rw [hb] at h2
            injection h2 with h2
            subst h2
            have hsz' : (a.eval y).cells.size = c2 := by simpa [hsz1] using hdl.symm
            -- the element's place
            have hfit : jx * c2 + c2 ≤ xs.flatten.length := by
              rw [flat_len h5]
              have : (jx + 1) * c2 ≤ xs.length * c2 := Nat.mul_le_mul_right c2 hj
              rw [Nat.add_mul] at this
              omega
            have hst := run_store_var (P := P) hj1 hj2 (o := jx * c2 + 0) (v := a.eval y) h3 (by omega) (by omega) h1
            have hlen : jx * c2 + 0 + (a.eval y).cells.toList.length ≤ cur.toList.length := by simp; omega
            have hol : (over cur.toList (jx * c2 + 0) (a.eval y).cells.toList).toArray.size = cur.size := by rw [List.size_toArray, over_length _ _ _ hlen, Array.length_toList]
            have hunif : ∀ x ∈ xs.set jx ds, x.length = c2 := by
              intro x hx
              rcases List.mem_or_eq_of_mem_set hx with hx | rfl
              · exact h5 x hx
              · exact hsz1
            have hfl : (xs.set jx ds).flatten.length = xs.flatten.length := by rw [flat_len hunif, flat_len h5, List.length_set]
            have ht2 := Turn.write htn.mr hrow2 hb cur (over cur.toList (jx * c2 + 0) (a.eval y).cells.toList).toArray T h3 hol (blk' := .row c2 (xs.set jx ds) false)
              ⟨rfl, by simp, fun e => by cases e⟩
              ⟨by rw [hfl, hol]; exact h4, hunif, fun m h7 h8 => by
                have e2 := over_get cur.toList (jx * c2 + 0) (a.eval y).cells.toList hlen m
                rw [List.getElem?_eq_getElem (by simpa using h8)] at e2
                simp only [List.getElem_toArray]
                by_cases hm : jx * c2 + 0 ≤ m ∧ m < jx * c2 + 0 + (a.eval y).cells.toList.length
                · rw [if_pos hm] at e2
                  have h10 : m - (jx * c2 + 0) < (a.eval y).cells.size := by simp at hm; omega
                  have h9 : m - (jx * c2 + 0) < ds.length := by omega
                  rw [List.getElem?_eq_getElem (by simpa using h10)] at e2
                  injection e2 with e2
                  rw [e2]
                  have e4 := flat_get hunif (i := jx) (j := m - (jx * c2 + 0)) (es := ds) (by rw [List.getElem?_set_self hj]) (by omega)
                  rw [show jx * c2 + (m - (jx * c2 + 0)) = m by omega, List.getElem?_eq_getElem h7, List.getElem?_eq_getElem h9] at e4
                  injection e4 with e4
                  rw [e4]
                  exact hds _ h9 (by simpa using h10)
                · rw [if_neg hm] at e2
                  have h9 : m < xs.flatten.length := by omega
                  rw [List.getElem?_eq_getElem (by simp; omega)] at e2
                  injection e2 with e2
                  rw [e2]
                  have hc0 : 0 < c2 := by
                    rcases Nat.eq_zero_or_pos c2 with h | h
                    · rw [flat_len h5, h, Nat.mul_zero] at h9; omega
                    · exact h
                  have hdm : m / c2 < xs.length := by rw [flat_len h5] at h9; exact Nat.div_lt_of_lt_mul (by rwa [Nat.mul_comm] at h9)
                  have hmm : m % c2 < c2 := Nat.mod_lt _ hc0
                  have hme : m / c2 * c2 + m % c2 = m := by rw [Nat.mul_comm]; exact Nat.div_add_mod m c2
                  have hne : jx ≠ m / c2 := by
                    intro e
                    rw [← e] at hme
                    simp [hsz'] at hm
                    omega
                  have e4 := flat_get hunif (i := m / c2) (j := m % c2) (es := xs[m / c2]) (by rw [List.getElem?_set_ne hne, List.getElem?_eq_getElem hdm]) hmm
                  have e5 := flat_get h5 (i := m / c2) (j := m % c2) (es := xs[m / c2]) (List.getElem?_eq_getElem hdm) hmm
                  rw [hme, List.getElem?_eq_getElem h7] at e4
                  rw [hme, List.getElem?_eq_getElem h9, ← e4] at e5
                  injection e5 with e5
                  rw [← e5]
                  simpa using h6 m h9 (by omega)⟩
            refine skip_wp (run_storeAt ho hv hst) (hn _ _ _ _ _ ι hk2 ?_ (.any _))
            rw [updM_append, updM_one]
            exact htn.trans ht2
          · exact hk.elim
        · exact hk.elim
      · exact hk.elim
    · exact hk.elim
  · exact hk.elim

end
end Go.KM
end
section
/- The K machine: each operation does what the machine says (4): addresses, literals, slices, calls. -/
namespace Go.KM
open Go

section
variable {P : Program} {B : Base} {ι : Idm} {μ : Mm} {w : World} {o : Oper} {a : Act} {next : Act → World → Prop} {Q : Exit → Act → World → Prop} {K : AV → Mem → List Nat → Prop}

theorem run_fieldAt {tab : Tab} {t : TypeId} {i : TI} (h : TiOk P tab t i) {fs : List (Nat × Nat)} (hfs : i.td = .struct fs) {f off ft : Nat} (hf : fs[f]? = some (off, ft)) {x : Operand} (ho : o.op = .fieldAddr t x f)
    {b p : Nat} (hx : a.eval x = .pointer (some ⟨b, p, none⟩)) : (execOp a.eval o).run P w = .ok (.value (.pointer (some ⟨b, p + off, none⟩))) w := by
  have hd := h.desc
  rw [hfs] at hd
  obtain ⟨fields, h1, h2, h3⟩ := hd
  rw [h2, List.getElem?_map] at hf
  obtain ⟨fl, h4, h5⟩ := Option.map_eq_some_iff.1 hf
  obtain ⟨fi, j, _, h6, h7, h8⟩ := h3 fl (List.mem_of_getElem? h4)
  have h9 : fields[f]? = some fl := by simpa using h4
  injection h5 with e1 e2
  have h10 : ¬ j.size = 0 := by omega
  unfold execOp
  simp only [ho, hx]
  simp [Instr.fieldAt, run_underlying h1, h9, Instr.sureAddr, fieldPlace, sizeOf, typeInfo, h6, h10, e1, add_addr]

theorem sound_fieldAddr {c : Cx} (hT : TabOk P c.tab) {ρ : Operand → AV} {t : TypeId} {x : Operand} {f : Nat} (ho : o.op = .fieldAddr t x f) (h : MR B ι μ w)
    (hx : RV w (imm B ι μ) ι μ (ρ x) (a.eval x)) (hk : opw1 c ρ μ o K) (hn : Nxt B ι μ w o a K next) : o.wp P a w next Q := by
  unfold opw1 at hk
  rw [ho] at hk
  simp only at hk
  split at hk
  · rename_i fs s1 s2 z id off ht hxx
    rw [hxx] at hx
    obtain ⟨⟨cs0, hcs0⟩, b, hb, hv⟩ := addr_val hx
    split at hk
    · rename_i o' ft hf
      exact pure_wp hn h hk (run_fieldAt (hT t _ ht) rfl hf ho hv) (.addr ⟨cs0, hcs0⟩ hb)
    · exact hk.elim
  · rename_i fs s1 s2 z cs ht hxx
    rw [hxx] at hx
    obtain ⟨b, off, vs, hv, h1, h2⟩ := ro_cells hx
    split at hk
    · rename_i o' ft hf
      obtain ⟨h3, hk⟩ := dropK_spec hk
      refine pure_wp hn h hk (run_fieldAt (hT t _ ht) rfl hf ho hv) (.ro (fun m => vs (o' + m)) (fun m hm => ?_) (fun m hm => ?_))
      · have := h1 (o' + m) (by simp at hm; omega)
        rw [Nat.add_assoc]
        exact this
      · have h4 : o' + m < cs.length := by simp at hm; omega
        simpa [List.getElem_drop] using h2 (o' + m) h4
    · exact hk.elim
  · exact hk.elim

theorem run_indexAt {tab : Tab} {t e : TypeId} {i ei : TI} (h : TiOk P tab t i) (hi : i.td = .slice e) (he : TiOk P tab e ei) {x y : Operand} (ho : o.op = .indexAddr t x y)
    {b p len cap : Nat} (hx : a.eval x = .slice (some ⟨b, p, none⟩) len cap) {k : IntKind} {n : Int} (hy : a.eval y = .int k n) (h0 : 0 ≤ n) (h1 : n < len) :
    (execOp a.eval o).run P w = .ok (.value (.pointer (some ⟨b, p + n.toNat * ei.size, none⟩))) w := by
  have hd := h.desc
  rw [hi] at hd
  unfold execOp
  simp only [ho, hx, hy]
  simp [Instr.indexAt, asIntOf, run_underlying hd, h0, h1, run_sizeOf he, add_addr]

theorem sound_indexAddr {c : Cx} (hT : TabOk P c.tab) {ρ : Operand → AV} {t : TypeId} {x y : Operand} (ho : o.op = .indexAddr t x y) (h : MR B ι μ w)
    (hx : RV w (imm B ι μ) ι μ (ρ x) (a.eval x)) (hy : RV w (imm B ι μ) ι μ (ρ y) (a.eval y)) (hk : opw1 c ρ μ o K) (hn : Nxt B ι μ w o a K next) : o.wp P a w next Q := by
  unfold opw1 at hk
  rw [ho] at hk
  simp only at hk
  split at hk
  · rename_i e s1 s2 z xs k i ht hxx hyy
    rw [hxx] at hx
    rw [hyy] at hy
    have hyv := rv_int hy
    split at hk
    · rename_i ei hei
      obtain ⟨h0, hk⟩ := hk
      obtain ⟨es, hes, hg, hk⟩ := exS_spec hk
      have hlt : i.toNat < xs.length := by
        rcases Nat.lt_or_ge i.toNat xs.length with h | h
        · exact h
        · rw [List.getElem?_eq_none h] at hg; cases hg
      cases hx with | d hx =>
      obtain ⟨b, off, cap, hv, hro⟩ := rd_get (ι := ι) (μ := μ) hx hg
      rw [hes, (hT e ei hei).zero] at hro
      exact pure_wp hn h hk (run_indexAt (hT t _ ht) rfl (hT e ei hei) ho hv hyv h0 (by omega)) hro
    · exact hk.elim
  · rename_i e s1 s2 z id len c' k i ht hxx hyy
    rw [hxx] at hx
    rw [hyy] at hy
    have hyv := rv_int hy
    split at hk
    · rename_i ei hei
      split at hk
      · rename_i hsz
        have hsz := Nat.eq_of_beq_eq_true hsz
        obtain ⟨⟨h0, h1⟩, hk⟩ := hk
        generalize hv : a.eval x = v at hx
        cases hx with | own h2 h3 h4 h5 =>
        refine pure_wp hn h hk (run_indexAt (hT t _ ht) rfl (hT e ei hei) ho hv hyv h0 h1) ?_
        rw [Nat.zero_add, hsz]
        exact .el (off := 0) h2 h3 (fun e => ⟨(h5 e).1, (h5 e).2.1⟩)
      · exact hk.elim
    · exact hk.elim
  · exact hk.elim

theorem sound_index {c : Cx} (hT : TabOk P c.tab) {ρ : Operand → AV} {t : TypeId} {x y : Operand} (ho : o.op = .index t x y) (h : MR B ι μ w)
    (hx : RV w (imm B ι μ) ι μ (ρ x) (a.eval x)) (hy : RV w (imm B ι μ) ι μ (ρ y) (a.eval y)) (hk : opw1 c ρ μ o K) (hn : Nxt B ι μ w o a K next) : o.wp P a w next Q := by
  unfold opw1 at hk
  rw [ho] at hk
  simp only at hk
  split at hk
  · rename_i s1 s2 z s k i ht hxx hyy
    rw [hxx] at hx
    rw [hyy] at hy
    have hxv := rv_str hx
    have hyv := rv_int hy
    obtain ⟨⟨h0, h1⟩, hk⟩ := hk
    have hd := (hT t _ ht).desc
    simp only at hd
    have h2 : i.toNat < s.size := by omega
    refine pure_wp hn h hk (val := .int .u8 (byteAt s i)) ?_ (.d (.int _ _))
    have h3 : s[i.toNat]? = some s[i.toNat] := by simp [h2]
    have h4 : byteAt s i = (s[i.toNat].toNat : Int) := by
      unfold byteAt
      have : s.data.toList[i.toNat]? = some s[i.toNat] := by
        rw [Array.getElem?_toList, Array.getElem?_eq_getElem (by simpa using h2)]
        rfl
      rw [List.getD_eq_getElem?_getD, this]
      rfl
    unfold execOp
    simp only [ho, hxv, hyv]
    simp [Instr.index, asIntOf, run_underlying hd, h0, h3, h4]
  · exact hk.elim

theorem run_extract' {x : Operand} {i : Nat} (ho : o.op = .extract x i) {vs : List Value} (hx : a.eval x = .tuple vs.toArray) {v : Value} (hv : vs[i]? = some v) : (execOp a.eval o).run P w = .ok (.value v) w := by
  unfold execOp
  simp only [ho, hx]
  simp [Instr.extract, hv]

theorem sound_extract {c : Cx} {ρ : Operand → AV} {x : Operand} {i : Nat} (ho : o.op = .extract x i) (h : MR B ι μ w)
    (hx : RV w (imm B ι μ) ι μ (ρ x) (a.eval x)) (hk : opw1 c ρ μ o K) (hn : Nxt B ι μ w o a K next) : o.wp P a w next Q := by
  unfold opw1 at hk
  rw [ho] at hk
  simp only at hk
  generalize ρ x = u at *
  split at hk
  · rename_i vs
    split at hk
    · rename_i v hvv
      rw [frc_eq] at hk
      generalize hv : a.eval x = val at hx
      cases hx with | tup hl hr =>
      rename_i vs'
      have hlt : i < vs.length := by
        rcases Nat.lt_or_ge i vs.length with h | h
        · exact h
        · rw [List.getElem?_eq_none h] at hvv; cases hvv
      have h2 := hr i hlt (by omega)
      rw [List.getElem?_eq_getElem hlt] at hvv
      injection hvv with hvv
      rw [hvv] at h2
      exact pure_wp hn h hk (run_extract' ho hv (List.getElem?_eq_getElem _)) h2
    · exact hk.elim
  · exact hk.elim

theorem sound_nilCheck {c : Cx} {ρ : Operand → AV} {x : Operand} (ho : o.op = .nilCheck x) (h : MR B ι μ w)
    (hx : RV w (imm B ι μ) ι μ (ρ x) (a.eval x)) (hk : opw1 c ρ μ o K) (hn : Nxt B ι μ w o a K next) : o.wp P a w next Q := by
  unfold opw1 at hk
  rw [ho] at hk
  simp only at hk
  generalize ρ x = u at *
  split at hk
  · rename_i id off
    obtain ⟨h1, b, hb, hv⟩ := addr_val hx
    refine pure_wp hn h hk (val := .pointer (some ⟨b, off, none⟩)) ?_ (.addr h1 hb)
    unfold execOp
    simp only [ho, hv]
    rfl
  · exact hk.elim

theorem sound_makeInterface {c : Cx} (hT : TabOk P c.tab) {ρ : Operand → AV} {t : TypeId} {x : Operand} (ho : o.op = .makeInterface t x) (h : MR B ι μ w)
    (hx : RV w (imm B ι μ) ι μ (ρ x) (a.eval x)) (hk : opw1 c ρ μ o K) (hn : Nxt B ι μ w o a K next) : o.wp P a w next Q := by
  unfold opw1 at hk
  rw [ho] at hk
  simp only at hk
  split at hk
  · rename_i i ht
    rw [frc_eq] at hk
    refine pure_wp hn h hk (val := .iface t (a.eval x)) ?_ (.iface hx)
    have hd := (hT t i ht).desc
    unfold execOp
    simp only [ho]
    cases htd : i.td <;> rw [htd] at hd <;> simp only at hd
    case struct fs =>
      obtain ⟨fields, hd, _⟩ := hd
      simp [Instr.makeInterface, run_underlying hd]
    case other =>
      obtain ⟨d, hd, hd2⟩ := hd
      cases d <;> first | exact hd2.elim | simp [Instr.makeInterface, run_underlying hd]
    all_goals simp [Instr.makeInterface, run_underlying hd]
  · exact hk.elim

theorem sound_convert {c : Cx} (hT : TabOk P c.tab) {ρ : Operand → AV} {s t : TypeId} {x : Operand} (ho : o.op = .convert s t x) (h : MR B ι μ w)
    (hx : RV w (imm B ι μ) ι μ (ρ x) (a.eval x)) (hk : opw1 c ρ μ o K) (hn : Nxt B ι μ w o a K next) : o.wp P a w next Q := by
  unfold opw1 at hk
  rw [ho] at hk
  simp only at hk
  split at hk
  · rename_i k1 s1 s2 z1 k2 s3 s4 z2 k3 n hs ht hxx
    rw [hxx] at hx
    have hxv := rv_int hx
    have h1 := (hT s _ hs).desc
    have h2 := (hT t _ ht).desc
    simp only at h1 h2
    refine pure_wp hn h hk (val := .int k2 (k2.wrap n)) ?_ (.d (.int _ _))
    unfold execOp
    simp only [ho, hxv]
    simp [convert, run_underlying h1, run_underlying h2, Conv.intToInt]
  · exact hk.elim

theorem sound_unOp {c : Cx} {ρ : Operand → AV} {op : UnOp} {t : TypeId} {x : Operand} (ho : o.op = .unOp op t x) (h : MR B ι μ w)
    (hx : RV w (imm B ι μ) ι μ (ρ x) (a.eval x)) (hk : opw1 c ρ μ o K) (hn : Nxt B ι μ w o a K next) : o.wp P a w next Q := by
  unfold opw1 at hk
  rw [ho] at hk
  simp only at hk
  generalize ρ x = u at *
  split at hk
  · rename_i b
    have hxv := rv_bool hx
    refine pure_wp hn h hk (val := .bool (!b)) ?_ (.d (.bool _))
    unfold execOp
    simp only [ho, hxv]
    rfl
  · rename_i k n
    have hxv := rv_int hx
    refine pure_wp hn h hk (val := .int k (k.wrap (0 - n))) ?_ (.d (.int _ _))
    unfold execOp
    simp only [ho, hxv]
    rfl
  · exact hk.elim

theorem sound_pick {c : Cx} {ρ : Operand → AV} {b x y : Operand} (ho : o.op = .pick b x y) (h : MR B ι μ w) (hb : RV w (imm B ι μ) ι μ (ρ b) (a.eval b))
    (hx : RV w (imm B ι μ) ι μ (ρ x) (a.eval x)) (hy : RV w (imm B ι μ) ι μ (ρ y) (a.eval y)) (hk : opw1 c ρ μ o K) (hn : Nxt B ι μ w o a K next) : o.wp P a w next Q := by
  unfold opw1 at hk
  rw [ho] at hk
  simp only at hk
  generalize ρ b = u at *
  split at hk
  · rename_i t
    have hbv := rv_bool hb
    simp only [frc_eq] at hk
    obtain ⟨h1, h2⟩ := hk
    cases t
    · refine pure_wp hn h (h2 rfl) (val := a.eval y) ?_ hy
      unfold execOp
      simp only [ho, hbv]
      rfl
    · refine pure_wp hn h (h1 rfl) (val := a.eval x) ?_ hx
      unfold execOp
      simp only [ho, hbv]
      rfl
  · exact hk.elim

theorem sound_move {c : Cx} {ρ : Operand → AV} {x : Operand} (ho : o.op = .move x ∨ o.op = .assign x) (h : MR B ι μ w)
    (hx : RV w (imm B ι μ) ι μ (ρ x) (a.eval x)) (hk : opw1 c ρ μ o K) (hn : Nxt B ι μ w o a K next) : o.wp P a w next Q := by
  unfold opw1 at hk
  rcases ho with ho | ho
  all_goals
    rw [ho] at hk
    simp only [frc_eq] at hk
    refine pure_wp hn h hk (val := a.eval x) ?_ hx
    unfold execOp
    simp only [ho]
    rfl

end
end Go.KM
end
section
/- The K machine: each operation does what the machine says (5): literals, slices, lengths, calls. -/
namespace Go.KM
open Go

section
variable {P : Program} {B : Base} {ι : Idm} {μ : Mm} {w : World} {o : Oper} {a : Act} {next : Act → World → Prop} {Q : Exit → Act → World → Prop} {K : AV → Mem → List Nat → Prop}

/-- Told cells, some of them written over. -/
theorem box_over {im : Imm} {cs : List AV} {cur : Array Value} (h : BlkD w im ι μ cur (.box cs)) {vs : List AV} {v : Value} (hl : vs.length = v.cells.size) (h1 : ∀ u ∈ v.cells, one u)
    (hvs : ∀ m (h1 : m < vs.length) (h2 : m < v.cells.size), RV w im ι μ (vs[m]'h1) (v.cells[m]'h2)) {off : Nat} (h2 : off + vs.length ≤ cs.length) :
    BlkD w im ι μ (over cur.toList off v.cells.toList).toArray (.box (over cs off vs)) := by
  obtain ⟨h4, h5⟩ := h
  have hlen : off + v.cells.toList.length ≤ cur.toList.length := by simp; omega
  refine ⟨by simp [over_length _ _ _ hlen, over_length _ _ _ h2, h4], fun m h6 h7 => ?_⟩
  have e1 := over_get cs off vs h2 m
  have e2 := over_get cur.toList off v.cells.toList hlen m
  rw [List.getElem?_eq_getElem h6] at e1
  rw [List.getElem?_eq_getElem (by simpa using h7)] at e2
  simp only [List.getElem_toArray]
  by_cases hm : off ≤ m ∧ m < off + vs.length
  · rw [if_pos hm] at e1
    rw [if_pos (by simp; omega)] at e2
    have h8 : m - off < vs.length := by omega
    have h9 : m - off < v.cells.size := by omega
    rw [List.getElem?_eq_getElem h8] at e1
    rw [List.getElem?_eq_getElem (by simpa using h9)] at e2
    injection e1 with e1
    injection e2 with e2
    rw [e1, e2]
    exact ⟨h1 _ (by simp), by simpa using hvs (m - off) h8 h9⟩
  · rw [if_neg hm] at e1
    rw [if_neg (by simp; omega)] at e2
    have h8 : m < cs.length := by rw [over_length _ _ _ h2] at h6; exact h6
    rw [List.getElem?_eq_getElem h8] at e1
    rw [List.getElem?_eq_getElem (by simp; omega)] at e2
    injection e1 with e1
    injection e2 with e2
    rw [e1, e2]
    simpa using h5 m h8 (by omega)

theorem over_nil {α : Type} (l : List α) (n : Nat) : over l n [] = l := by simp [over]
theorem over_cons {α : Type} (l : List α) (n : Nat) (v : α) (vs : List α) (h : n < l.length) : over (l.set n v) (n + 1) vs = over l n (v :: vs) := by
  unfold over
  rw [List.take_set, List.drop_set, List.length_cons]
  have e1 : (l.take (n + 1)).set n v = l.take n ++ [v] := by
    rw [List.take_add_one]
    rw [List.getElem?_eq_getElem h]
    rw [List.set_append_right _ _ (by simp; omega)]
    simp [Nat.min_eq_left (Nat.le_of_lt h)]
  rw [e1, if_pos (by omega), show n + 1 + vs.length = n + (vs.length + 1) by omega]
  simp
theorem fold_over (off : Nat) : ∀ (l : List Value) (k : Nat) (cs : Array Value), off + k + l.length ≤ cs.size →
    (l.zipIdx k).foldl (fun cs (x : Value × Nat) => cs.setIfInBounds (off + x.2) x.1) cs = (over cs.toList (off + k) l).toArray := by
  intro l
  induction l with
  | nil => intro k cs _; simp [over_nil]
  | cons v r ih =>
    intro k cs h
    simp only [List.zipIdx_cons, List.foldl_cons]
    rw [ih (k + 1) _ (by simp at h ⊢; omega)]
    congr 1
    rw [Array.toList_setIfInBounds, show off + (k + 1) = off + k + 1 by omega]
    exact over_cons _ _ _ _ (by simp at h ⊢; omega)
theorem fill_one (place : Nat → Option (Nat × Nat)) {i off size : Nat} (hp : place i = some (off, size)) {v : Value} (hv : v.cells.size = size) {cells : Array Value} (hf : off + size ≤ cells.size) (rest : List (Nat × Value)) :
    Instr.fill place cells ((i, v) :: rest) = Instr.fill place (over cells.toList off v.cells.toList).toArray rest := by
  rw [Instr.fill]
  simp only [hp]
  rw [if_neg (by simp [hv]; omega)]
  congr 1
  have := fold_over off v.cells.toList 0 cells (by simp; omega)
  rw [Nat.add_zero] at this
  rw [← this, ← Array.foldl_toList, Array.toList_zipIdx]

theorem parts_spec {tab : Tab} {ρ : Operand → AV} {fs : List (Nat × Nat)} {place : Nat → Option (Nat × Nat)}
    (hplace : ∀ i off t ti, fs[i]? = some (off, t) → tab t = some ti → place i = some (off, ti.size)) {im : Imm} {ps : List (Nat × Operand)} (hp : ∀ p ∈ ps, RV w im ι μ (ρ p.2) (a.eval p.2)) :
    ∀ {cs : List AV} {cur : Array Value} {K : List AV → Prop}, BlkD w im ι μ cur (.box cs) → partsK tab ρ fs ps cs K →
    ∃ cs', K cs' ∧ ∃ cur', Instr.fill place cur (ps.map fun p => (p.1, a.eval p.2)) = some cur' ∧ BlkD w im ι μ cur' (.box cs') := by
  induction ps with
  | nil => intro cs cur K h hk; exact ⟨cs, hk, cur, rfl, h⟩
  | cons p r ih =>
    intro cs cur K h hk
    obtain ⟨i, x⟩ := p
    simp only [partsK] at hk
    split at hk
    · rename_i off t hfs
      split at hk
      · rename_i ti hti
        obtain ⟨vs, hk, hl, h1, hvs⟩ := cellsK_spec (hp (i, x) (by simp)) hk
        split at hk
        · rename_i hsz
          have hsz := Nat.eq_of_beq_eq_true hsz
          obtain ⟨h2, hk⟩ := overK_spec hk
          obtain ⟨cs', hk, cur', hf, hb⟩ := ih (fun p hp' => hp p (by simp [hp'])) (box_over h hl h1 hvs h2) hk
          refine ⟨cs', hk, cur', ?_, hb⟩
          rw [List.map_cons, fill_one place (hplace i off t ti hfs hti) (by omega) (by have := h.1; omega)]
          exact hf
        · exact hk.elim
      · exact hk.elim
    · exact hk.elim

theorem places_of {tab : Tab} {fields : List Field} (h : ∀ f ∈ fields, ∃ fi j, tab f.type = some fi ∧ P.info? f.type = some j ∧ j.size = fi.size ∧ fi.size ≠ 0) :
    ∃ pl : List (Nat × Nat), fields.mapM (fun f => (P.info? f.type).map fun i => (f.offset, i.size)) = some pl ∧
      ∀ (i off : Nat) (t : TypeId) (ti : TI), (fields.map fun f => (f.offset, f.type))[i]? = some (off, t) → tab t = some ti → pl[i]? = some (off, ti.size) := by
  induction fields with
  | nil => exact ⟨[], rfl, fun i off t ti hi => by simp at hi⟩
  | cons f r ih =>
    obtain ⟨pl, h1, h2⟩ := ih (fun g hg => h g (by simp [hg]))
    obtain ⟨fi, j, h3, h4, h5, _⟩ := h f (by simp)
    refine ⟨(f.offset, j.size) :: pl, by simp [List.mapM_cons, h1, h4], fun i off t ti hi ht => ?_⟩
    cases i with
    | zero =>
      simp at hi
      obtain ⟨e1, e2⟩ := hi
      subst e1 e2
      rw [h3] at ht
      injection ht with ht
      simp [h5, ht]
    | succ i => simpa using h2 i off t ti (by simpa using hi) ht

theorem sound_build {c : Cx} (hT : TabOk P c.tab) {ρ : Operand → AV} {t : TypeId} {ps : Array (Nat × Operand)} (ho : o.op = .build t ps) (h : MR B ι μ w)
    (hp : ∀ p ∈ ps.toList, RV w (imm B ι μ) ι μ (ρ p.2) (a.eval p.2)) (hk : opw1 c ρ μ o K) (hn : Nxt B ι μ w o a K next) : o.wp P a w next Q := by
  unfold opw1 at hk
  rw [ho] at hk
  simp only at hk
  split at hk
  · rename_i fs s1 s2 z ht
    have hti := hT t _ ht
    obtain ⟨fields, h1, h2, h3⟩ := hti.desc
    obtain ⟨j, hj1, hj2, hj3, zv, hz1, hz2, hz3⟩ := hti.info
    obtain ⟨pl, h4, h5⟩ := places_of h3
    rw [← h2] at h5
    obtain ⟨cs', hk, cur', hf, hb⟩ := parts_spec (place := fun i => pl[i]?) h5 hp (cur := zv.cells) ⟨hz2.symm, fun m h6 h7 => (hz3 m h6 h7).rv _ _ _ _⟩ hk
    obtain ⟨hb1, hb2⟩ := hb
    refine pure_wp hn h hk (val := .agg cur') ?_ ?_
    · have : P.built t (ps.map fun x => (x.1, a.eval x.2)).toList = some cur' := by
        unfold Program.built
        simp only [hj1, h1, hz1, h4]
        simpa using hf
      unfold execOp
      simp only [ho]
      have hr := run_build w t _ _ this
      simp only [Sem.run_bind, hr, Result.andThen_ok]
      rfl
    · have := RV.agg (w := w) (im := imm B ι μ) (ι := ι) (μ := μ) (cs := cs') (vs := cur'.toList) (by simp [hb1]) (fun v hv => by
          obtain ⟨m, hm, e⟩ := List.getElem_of_mem hv
          have := (hb2 m (by simp at hm; omega) (by simpa using hm)).1
          rw [← e]
          simpa using this) (fun m h6 h7 => by simpa using (hb2 m h6 (by simpa using h7)).2)
      simpa using this
  · exact hk.elim

theorem sound_len {c : Cx} (hT : TabOk P c.tab) {ρ : Operand → AV} {cl : Call} (ho : o.op = .call cl) (hc : cl.callee = .builtin .len) (h : MR B ι μ w)
    (hp : ∀ x ∈ cl.args.toList, RV w (imm B ι μ) ι μ (ρ x) (a.eval x)) (hk : opw1 c ρ μ o K) (hn : Nxt B ι μ w o a K next) : o.wp P a w next Q := by
  unfold opw1 at hk
  rw [ho] at hk
  simp only [hc] at hk
  split at hk
  · rename_i x t hargs htys
    have hx := hp x (by rw [hargs]; simp)
    have ha : cl.args = #[x] := by rw [← Array.toArray_toList (xs := cl.args), hargs]
    have hty : cl.argTypes = #[t] := by rw [← Array.toArray_toList (xs := cl.argTypes), htys]
    have run : ∀ {n : Int}, (Builtin.len_ #[t] o.type #[a.eval x]).run P w = .ok (.int .i64 n) w → (execOp a.eval o).run P w = .ok (.value (.int .i64 n)) w := by
      intro n hr
      unfold execOp
      simp only [ho]
      simp [resolve, hc, ha, hty, invoke, builtin, hr]
    split at hk
    · rename_i e s1 s2 z xs ht hxx
      have hd := (hT t _ ht).desc
      simp only at hd
      rw [hxx] at hx
      cases hx with | d hx =>
      refine pure_wp hn h hk (run ?_) (.d (.int _ _))
      generalize a.eval x = v at hx
      cases hx <;> simp [Builtin.len_, run_underlying hd, goInt]
    · rename_i s1 s2 z s ht hxx
      have hd := (hT t _ ht).desc
      simp only at hd
      rw [hxx] at hx
      have hv := rv_str hx
      refine pure_wp hn h hk (run ?_) (.d (.int _ _))
      simp [Builtin.len_, run_underlying hd, goInt, hv]
    · rename_i e s1 s2 z ht hxx
      have hd := (hT t _ ht).desc
      simp only at hd
      rw [hxx] at hx
      generalize hv : a.eval x = v at hx
      cases hx
      refine pure_wp hn h hk (run ?_) (.d (.int _ _))
      rw [hv]
      simp [Builtin.len_, run_underlying hd, goInt]
    · rename_i e s1 s2 z id len c' ht hxx
      have hd := (hT t _ ht).desc
      simp only at hd
      rw [hxx] at hx
      generalize hv : a.eval x = v at hx
      cases hx
      refine pure_wp hn h hk (run ?_) (.d (.int _ _))
      rw [hv]
      simp [Builtin.len_, run_underlying hd, goInt]
    · exact hk.elim
  · exact hk.elim

theorem newM_imp {μ μ' : Mm} {F F' : Mem} (hi : ∀ i, μ i = none → μ' i = none) (h : newM μ F F') : newM μ' F F' := by
  induction F' with
  | nil => trivial
  | cons x r ih => exact ⟨h.1.imp id (hi _), ih h.2⟩
theorem haveM_imp {μ μ' : Mm} {F : Mem} (hi : ∀ i, i ∈ ids F → μ' i = μ i) (h : haveM μ F) : haveM μ' F := by
  induction F with
  | nil => trivial
  | cons x r ih => exact ⟨(hi x.1 (by simp [ids])).trans h.1, ih (fun i hx => hi i (by simp only [ids, List.map_cons, List.mem_cons]; exact .inr hx)) h.2⟩

theorem callFunc_run {f : FuncId} (h : CallOk P f) (args : Array Value) : (callFunc f args).run P w = .ok (.enter f args) w := by
  obtain ⟨fn, hfn, hname, hbody⟩ := h
  have hname' : ¬ fn.name = "runtime.NumGoroutine" := by simpa using hname
  have hbody' : ¬ fn.body = none := fun e => by rw [e] at hbody; cases hbody
  simp [callFunc, hfn, hname', hbody']
/-- What is left as it was need not be told anew. -/
theorem updM_delta {ν : Mm} {F F' D : Mem} (hF : haveM ν F) (hD : ∀ i, getM D i = getM F' i ∨ (getM D i = none ∧ getM F' i = getM F i)) (hnd : (ids F').Nodup) (hDn : (ids D).Nodup) : updM ν D = updM ν F' := by
  funext i
  by_cases e : i ∈ ids F'
  · rw [updM_get hnd e]
    rcases hD i with h | ⟨h1, h2⟩
    · have e2 : i ∈ ids D := getM_mem.1 (by rw [h]; exact getM_mem.2 e)
      rw [updM_get hDn e2, h]
    · have e2 : i ∉ ids D := fun h => getM_mem.2 h h1
      have e3 : i ∈ ids F := getM_mem.1 (by rw [← h2]; exact getM_mem.2 e)
      rw [updM_not e2, h2, haveM_eq hF e3]
  · have e0 : getM F' i = none := by
      cases h : getM F' i with
      | none => rfl
      | some b => exact absurd (getM_mem.1 (by rw [h]; simp)) e
    have e2 : i ∉ ids D := fun h => by
      rcases hD i with h1 | ⟨h1, _⟩
      · exact getM_mem.2 h (h1.trans e0)
      · exact getM_mem.2 h h1
    rw [updM_not e2, updM_not e]
/-- A call that is entered. -/
theorem vcall_sound {G : GW} (hg : G.ok w) (hlow : ∀ i b, ι i = some b → G.low ≤ b) {c : Cx} (hC : ∀ f as F r F', c.C f as F r F' → Con P G f as F r F') (h : MR B ι μ w) {f : FuncId} {raw : List AV} {vals : List Value}
    (hlen : raw.length = vals.length) (hrv : ∀ m (h1 : m < raw.length) (h2 : m < vals.length), RV w (imm B ι μ) ι μ (raw[m]'h1) (vals[m]'h2))
    (hrun : CallOk P f → (execOp a.eval o).run P w = .ok (.enter f vals.toArray) w) (hk : VCall μ (c.C f) raw K) (hn : Nxt B ι μ w o a K next) : o.wp P a w next Q := by
  obtain ⟨F, r, F', D, hF, hok, hnew, hsub, hnd, hnd', hD, hDn, hk⟩ := hk
  obtain ⟨xs, u, t, ⟨hcon, hk⟩, htn, hoka, hl, hxs, hdom, hsame, hut⟩ := argsA_spec (dom := ids F) (Lent.refl μ) h hlen hrv hk
  obtain ⟨hco, hcon⟩ := hC _ _ _ _ _ hcon
  have hF' : haveM (updM μ u) F := haveM_imp (fun i hi => hsame i (hdom i hi)) hF
  have hnone : ∀ i, μ i = none → updM μ u i = none := by
    intro i hi
    have d1 := h.dom i
    have d2 := htn.mr.dom i
    rw [hi] at d1
    rw [d1] at d2
    cases hx : updM μ u i with
    | none => rfl
    | some b => rw [hx] at d2; cases d2
  have hcall := call_frame (P := P) hg hlow htn.mr hF' hok (newM_imp hnone hnew) hsub hnd hl hoka hxs hcon
  unfold Oper.wp
  rw [hrun hco, Oper.upon_enter]
  refine hcall.mono ?_
  rintro e w' ⟨v, ι', rfl, ht2, hr⟩
  have he := updM_delta hF' hD hnd hDn
  refine hn _ _ _ _ _ ι' hk ?_ ?_
  · rw [updM_append, he]; exact htn.trans ht2
  · rw [updM_append, he]; exact hr

theorem args_rv {ρ : Operand → AV} {cl : Call} (hp : ∀ x ∈ cl.args.toList, RV w (imm B ι μ) ι μ (ρ x) (a.eval x)) (m : Nat) (h1 : m < (cl.args.toList.map ρ).length) (h2 : m < (cl.args.toList.map a.eval).length) :
    RV w (imm B ι μ) ι μ ((cl.args.toList.map ρ)[m]'h1) ((cl.args.toList.map a.eval)[m]'h2) := by
  have := hp (cl.args.toList[m]'(by simpa using h1)) (List.getElem_mem _)
  rw [List.getElem_map, List.getElem_map]
  exact this
theorem sound_call {G : GW} (hg : G.ok w) (hlow : ∀ i b, ι i = some b → G.low ≤ b) {c : Cx} (hC : ∀ f as F r F', c.C f as F r F' → Con P G f as F r F') {ρ : Operand → AV} {cl : Call} {f : Operand} (ho : o.op = .call cl) (hc : cl.callee = .value f) (h : MR B ι μ w)
    (hf : RV w (imm B ι μ) ι μ (ρ f) (a.eval f)) (hp : ∀ x ∈ cl.args.toList, RV w (imm B ι μ) ι μ (ρ x) (a.eval x)) (hk : opw1 c ρ μ o K) (hn : Nxt B ι μ w o a K next) : o.wp P a w next Q := by
  unfold opw1 at hk
  rw [ho] at hk
  simp only [hc] at hk
  have hargs : (cl.args.toList.map a.eval).toArray = cl.args.map a.eval := by rw [← List.map_toArray, Array.toArray_toList]
  split at hk
  · rename_i g hff
    rw [hff] at hf
    generalize hv : a.eval f = v at hf
    cases hf
    rw [evK_eq] at hk
    refine vcall_sound hg hlow hC h (vals := cl.args.toList.map a.eval) (by simp) (args_rv hp) (fun hco => ?_) hk hn
    unfold execOp
    simp only [ho]
    simp [resolve, hc, hv, Deferred.ofValue, invoke, callFunc_run hco, hargs]
  · rename_i g caps hff
    rw [hff] at hf
    generalize hv : a.eval f = v at hf
    cases hf with
    | clo _ hl hcs =>
      rename_i vs
      rw [evK_eq] at hk
      refine vcall_sound hg hlow hC h (vals := cl.args.toList.map a.eval ++ vs) (by simp [hl]) (fun m h1 h2 => ?_) (fun hco => ?_) hk hn
      · by_cases hm : m < cl.args.toList.length
        · rw [List.getElem_append_left (by simpa using hm), List.getElem_append_left (by simpa using hm)]
          exact args_rv hp m _ _
        · rw [List.getElem_append_right (by simpa using hm), List.getElem_append_right (by simpa using hm)]
          simp only [List.length_map]
          exact hcs _ _ _
      · unfold execOp
        simp only [ho]
        simp [resolve, hc, hv, Deferred.ofValue, invoke, callFunc_run hco, hargs, ← List.append_toArray]
  · exact hk.elim

end
end Go.KM
end
section
/- The K machine: each operation does what the machine says (6): new rows, cuts. -/
namespace Go.KM
open Go

section
variable {P : Program} {B : Base} {ι : Idm} {μ : Mm} {w : World} {o : Oper} {a : Act} {next : Act → World → Prop} {Q : Exit → Act → World → Prop} {K : AV → Mem → List Nat → Prop}

theorem own_new {d n c : Nat} {xs : List (List D)} {l : Bool} {w' : World} {im : Imm} {vs : Array Value} {T : TypeId} (hn : xs.length = n) (hb : w'.heap[w.heap.size]? = some (Obj.cells vs T (0, 0))) (hs : n * c ≤ vs.size) :
    RV w' im (updI ι d w.heap.size) (upd1 μ d (.row c xs l)) (.own d n c) (.slice (some ⟨w.heap.size, 0, none⟩) n n) :=
  .own (upd1_same _ _ _) (by omega) (Nat.le_refl _) (fun _ => ⟨by simp [updI], rfl, vs, T, hb, hs⟩)

theorem zeroD_spec {zs : List AV} {z : List D} (h : zeroD zs = some z) {im : Imm} {vs : Array Value} (hl : zs.length = vs.size) (hz : ∀ m (h1 : m < zs.length) (h2 : m < vs.size), ZC (zs[m]'h1) (vs[m]'h2)) :
    z.length = zs.length ∧ ∀ m (h1 : m < z.length) (h2 : m < vs.size), Rd w im (z[m]'h1) (vs[m]'h2) := by
  have key : ∀ (zs : List AV) (z : List D) (vs : List Value), zeroD zs = some z → zs.length = vs.length → (∀ m (h1 : m < zs.length) (h2 : m < vs.length), ZC (zs[m]'h1) (vs[m]'h2)) →
      z.length = zs.length ∧ ∀ m (h1 : m < z.length) (h2 : m < vs.length), Rd w im (z[m]'h1) (vs[m]'h2) := by
    intro zs
    induction zs with
    | nil =>
      intro z vs h _ _
      simp [zeroD] at h
      subst h
      exact ⟨rfl, fun m h1 _ => absurd h1 (Nat.not_lt_zero m)⟩
    | cons x r ih =>
      intro z vs h hl hz
      cases vs with
      | nil => simp at hl
      | cons v vr =>
        have hz0 := hz 0 (by simp) (by simp)
        have step : ∀ {y : D}, (zeroD r).map (y :: ·) = some z → (Rd w im y v) → z.length = (x :: r).length ∧ ∀ m (h1 : m < z.length) (h2 : m < (v :: vr).length), Rd w im (z[m]'h1) ((v :: vr)[m]'h2) := by
          intro y hy hd
          obtain ⟨z', h1, h2⟩ := Option.map_eq_some_iff.1 hy
          subst h2
          obtain ⟨h3, h4⟩ := ih z' vr h1 (by simpa using hl) (fun m h5 h6 => hz (m + 1) (by simpa using h5) (by simpa using h6))
          refine ⟨by simp [h3], fun m h5 h6 => ?_⟩
          cases m with
          | zero => exact hd
          | succ m => exact h4 m (by simpa using h5) (by simpa using h6)
        cases x with
        | d y =>
          have h0 := hz0.rv w im (fun _ => none) (fun _ => none)
          cases h0.2 with | d hd => exact step h hd
        | nils =>
          have h0 := hz0.rv w im (fun _ => none) (fun _ => none)
          cases h0.2
          exact step h (.nil _ _)
        | _ => simp [zeroD] at h
  obtain ⟨h1, h2⟩ := key zs z vs.toList h (by simpa using hl) (fun m h3 h4 => by simpa using hz m h3 (by simpa using h4))
  exact ⟨h1, fun m h3 h4 => by
    have := h2 m h3 (by simpa using h4)
    rwa [Array.getElem_toList] at this⟩

theorem wrap_small {n : Int} (h0 : 0 ≤ n) (h1 : n ≤ 140737488355328) : IntKind.i64.wrap n = n := by
  unfold IntKind.wrap
  simp only [IntKind.bits, IntKind.signed]
  have : n % (2 ^ 64 : Int) = n := Int.emod_eq_of_lt h0 (by omega)
  simp only [this]
  rw [if_neg]
  simp
  omega

theorem sound_makeSlice {c : Cx} (hT : TabOk P c.tab) {ρ : Operand → AV} {t : TypeId} {x y : Operand} (ho : o.op = .makeSlice t x y) (h : MR B ι μ w)
    (hx : RV w (imm B ι μ) ι μ (ρ x) (a.eval x)) (hy : RV w (imm B ι μ) ι μ (ρ y) (a.eval y)) (hk : opw1 c ρ μ o K) (hn : Nxt B ι μ w o a K next) : o.wp P a w next Q := by
  unfold opw1 at hk
  rw [ho] at hk
  simp only at hk
  split at hk
  · rename_i d e s1 s2 z0 n m hd ht hxx hyy
    rw [hxx] at hx
    rw [hyy] at hy
    have hxv := rv_int hx
    have hyv := rv_int hy
    have hdt := (hT t _ ht).desc
    simp only at hdt
    split at hk
    · rename_i ei hei hmu
      have hti := hT e ei hei
      split at hk
      · rename_i z hz
        obtain ⟨⟨e1, h0, hb, hb2⟩, hk⟩ := hk
        subst e1
        obtain ⟨j, hj1, hj2, hj3, zv, hz1, hz2, hz3⟩ := hti.info
        obtain ⟨hzl, hzr⟩ := zeroD_spec (w := w) (im := imm B ι μ) hz hz2 hz3
        have hzs := hti.zero
        have hc0 : 0 < ei.size ∨ ei.size = 0 := by omega
        obtain ⟨k, rfl⟩ := Int.eq_ofNat_of_zero_le h0
        let cells : Array Value := madeCells zv.cells (k * ei.size)
        have hcs : cells.size = k * ei.size := size_madeCells _ _
        have huni : ∀ x ∈ List.replicate k z, x.length = ei.size := fun x hx => by
          rw [(List.mem_replicate.1 hx).2]; omega
        have hfl : (List.replicate k z).flatten.length = k * ei.size := by rw [flat_len huni]; simp
        have htn := Turn.alloc h hmu (.row ei.size (List.replicate k z) false) cells e ⟨by rw [hfl, hcs]; exact Nat.le_refl _, huni, fun m h1 h2 => by
          rcases hc0 with hc0 | hc0
          · have hm : m < k * ei.size := by omega
            have hdm : m / ei.size < k := Nat.div_lt_of_lt_mul (by rwa [Nat.mul_comm] at hm)
            have hmm : m % ei.size < ei.size := Nat.mod_lt _ hc0
            have hme : m / ei.size * ei.size + m % ei.size = m := by rw [Nat.mul_comm]; exact Nat.div_add_mod m _
            have e4 := flat_get huni (i := m / ei.size) (j := m % ei.size) (es := z) (by rw [List.getElem?_replicate, if_pos hdm]) hmm
            rw [hme, List.getElem?_eq_getElem h1, List.getElem?_eq_getElem (by omega)] at e4
            injection e4 with e4
            rw [e4]
            have hzsz : zv.cells.size = ei.size := by omega
            have e5 : cells[m] = zv.cells[m % ei.size]'(by omega) := by
              have hmm' : m % ei.size < zv.cells.size := by omega
              simp only [cells, madeCells, Array.getElem_map, Array.getElem_range, hzsz]
              rw [getElem!_pos zv.cells _ hmm']
            rw [e5]
            exact hzr _ (by omega) (by omega)
          · rw [hfl, hc0] at h1
            omega⟩
        have hrun : (execOp a.eval o).run P w = .ok (.value (.slice (some ⟨w.heap.size, 0, none⟩) k k)) (w.alloc (.cells cells e)) := by
          have hr := run_make (P := P) w t e j zv hdt hj1 hz1 .i64 .i64 k k h0 (Int.le_refl _) (by rw [hj3, Int.mul_comm]; omega) (by omega)
          unfold execOp
          simp only [ho, hxv, hyv]
          simp only [Int.toNat_natCast, hj2] at hr
          simp only [Sem.run_bind, hr, Result.andThen_ok]
          rfl
        refine value_wp hrun (hn _ _ _ _ _ _ hk (by rw [updM_one]; exact htn) (by
          rw [updM_one]
          exact own_new (by simp) (alloc_new _ _) (by rw [hcs, Int.toNat_natCast]; exact Nat.le_refl _)))
      · exact hk.elim
    · exact hk.elim
  · exact hk.elim

end
end Go.KM
end
section
/- The K machine: each operation does what the machine says (7): cuts, literals of slices; all of them. -/
namespace Go.KM
open Go

section
variable {P : Program} {B : Base} {ι : Idm} {μ : Mm} {w : World} {o : Oper} {a : Act} {next : Act → World → Prop} {Q : Exit → Act → World → Prop} {K : AV → Mem → List Nat → Prop}

/-- A bound of a cut, as it stands. -/

theorem run_bounds {isS : Bool} {len cap : Nat} {lo hi : Option Operand} {ρ : Operand → AV} {k1 k2 : IntKind} {l h : Int}
    (hl : bnd ρ lo 0 = .d (.int k1 l)) (hh : bnd ρ hi len = .d (.int k2 h)) (hlo : ∀ x, lo = some x → a.eval x = .int k1 l) (hhi : ∀ x, hi = some x → a.eval x = .int k2 h)
    (h0 : 0 ≤ l) (h1 : l ≤ h) (h2 : h ≤ len) (h3 : len ≤ cap) :
    (Instr.sliceBounds isS len cap (lo.map a.eval) (hi.map a.eval) none).run P w = .ok (l.toNat, h.toNat, cap) w := by
  cases hi with
  | none =>
    have e : h = len := by simp [bnd] at hh; exact hh.2.symm
    subst e
    cases lo with
    | none =>
      have e : l = 0 := by simp [bnd] at hl; exact hl.2.symm
      subst e
      simp [Instr.sliceBounds]
    | some x =>
      have := hlo x rfl
      simp [Instr.sliceBounds, Instr.sliceBound, this, asIntOf, h0, h1]
  | some y =>
    have hy := hhi y rfl
    have h4 : 0 ≤ h := by omega
    have h5 : h ≤ (cap : Int) := by omega
    cases lo with
    | none =>
      have e : l = 0 := by simp [bnd] at hl; exact hl.2.symm
      subst e
      simp [Instr.sliceBounds, Instr.sliceBound, hy, asIntOf, h4, h5]
    | some x =>
      have hx := hlo x rfl
      simp [Instr.sliceBounds, Instr.sliceBound, hy, hx, asIntOf, h0, h4, h5]
      intro hcon
      omega

theorem flat_take {α : Type} {xs : List (List α)} {c : Nat} (h : ∀ x ∈ xs, x.length = c) (l r : Nat) {m : Nat} (hm : m < ((xs.take r).drop l).flatten.length) :
    l * c + m < xs.flatten.length ∧ ((xs.take r).drop l).flatten[m]? = xs.flatten[l * c + m]? := by
  have h' : ∀ x ∈ (xs.take r).drop l, x.length = c := fun x hx => h x (List.mem_of_mem_take (List.mem_of_mem_drop hx))
  have hl := flat_len h'
  rw [hl] at hm
  have hc : 0 < c := by
    rcases Nat.eq_zero_or_pos c with e | e
    · rw [e, Nat.mul_zero] at hm; omega
    · exact e
  have hdm : m / c < ((xs.take r).drop l).length := Nat.div_lt_of_lt_mul (by rwa [Nat.mul_comm] at hm)
  have hmm : m % c < c := Nat.mod_lt _ hc
  have hme : m / c * c + m % c = m := by rw [Nat.mul_comm]; exact Nat.div_add_mod m c
  generalize m / c = q at *
  generalize m % c = j at *
  subst hme
  have hq : l + q < xs.length ∧ l + q < r := by simp at hdm; omega
  have e1 : ((xs.take r).drop l)[q]? = xs[l + q]? := by
    rw [List.getElem?_drop, List.getElem?_take, if_pos hq.2]
  have e2 := flat_get h' (i := q) (j := j) (es := xs[l + q]'hq.1) (by rw [e1, List.getElem?_eq_getElem hq.1]) hmm
  have e3 := flat_get h (i := l + q) (j := j) (es := xs[l + q]'hq.1) (List.getElem?_eq_getElem hq.1) hmm
  have e4 : (l + q) * c + j = l * c + (q * c + j) := by rw [Nat.add_mul]; omega
  have e5 := flat_lt h hq.1 hmm
  rw [e4] at e3 e5
  exact ⟨e5, e2.trans e3.symm⟩

theorem sound_slice {c : Cx} (hT : TabOk P c.tab) {ρ : Operand → AV} {t : TypeId} {x : Operand} {lo hi : Option Operand} (ho : o.op = .slice t x lo hi none) (h : MR B ι μ w)
    (hx : RV w (imm B ι μ) ι μ (ρ x) (a.eval x)) (hlo : ∀ y, lo = some y → RV w (imm B ι μ) ι μ (ρ y) (a.eval y)) (hhi : ∀ y, hi = some y → RV w (imm B ι μ) ι μ (ρ y) (a.eval y))
    (hk : opw1 c ρ μ o K) (hn : Nxt B ι μ w o a K next) : o.wp P a w next Q := by
  have vlo : ∀ {k : IntKind} {l d : Int}, bnd ρ lo d = .d (.int k l) → ∀ y, lo = some y → a.eval y = .int k l := by
    intro k l d hb y hy
    have := hlo y hy
    subst hy
    rw [show ρ y = .d (.int k l) from hb] at this
    exact rv_int this
  have vhi : ∀ {k : IntKind} {l d : Int}, bnd ρ hi d = .d (.int k l) → ∀ y, hi = some y → a.eval y = .int k l := by
    intro k l d hb y hy
    have := hhi y hy
    subst hy
    rw [show ρ y = .d (.int k l) from hb] at this
    exact rv_int this
  unfold opw1 at hk
  rw [ho] at hk
  simp only at hk
  split at hk
  · rename_i xs hxx
    rw [hxx] at hx
    split at hk
    · rename_i e s1 s2 z ht
      have hd := (hT t _ ht).desc
      simp only at hd
      split at hk
      · rename_i ei k1 l k2 r hei hl hr
        obtain ⟨⟨h0, h1, h2, huni⟩, hk⟩ := hk
        have hli := vlo (d := 0) hl
        have hri := vhi (d := xs.length) hr
        cases hx with | d hx =>
        generalize hv : a.eval x = v at hx
        have hsize := run_sizeOf (hT e ei hei) w
        cases hx with
        | nil ad cap =>
          have e1 : l = 0 := by simp at h2; omega
          have e2 : r = 0 := by simp at h2; omega
          subst e1 e2
          have hb := run_bounds (P := P) (w := w) (a := a) (isS := true) (len := 0) (cap := cap) hl hr hli hri (Int.le_refl _) (Int.le_refl _) (by simp) (Nat.zero_le _)
          refine pure_wp hn h hk (val := .slice (if cap = 0 then ad else ad.map (·.add (0 * ei.size))) 0 cap) ?_ (by simpa using RV.d (Rd.nil _ _))
          unfold execOp
          simp only [ho, hv]
          simp [Instr.sliceAt, run_underlying hd, Instr.slice, hb, hsize]
        | sl b off cap c' xs vs hc hcap hcell hrd =>
          have hb := run_bounds (P := P) (w := w) (a := a) (isS := true) (len := xs.length) (cap := cap) hl hr hli hri h0 h1 h2 hcap
          have hrun : (execOp a.eval o).run P w = .ok (.value (.slice (if cap = l.toNat then some ⟨b, off, none⟩ else some ⟨b, off + l.toNat * ei.size, none⟩) (r.toNat - l.toNat) (cap - l.toNat))) w := by
            unfold execOp
            simp only [ho, hv]
            simp [Instr.sliceAt, run_underlying hd, Instr.slice, hb, hsize, add_addr]
          refine pure_wp hn h hk hrun (.d ?_)
          have hlen : ((xs.take r.toNat).drop l.toNat).length = r.toNat - l.toNat := by simp; omega
          by_cases hlr : r.toNat - l.toNat = 0
          · rw [hlr]
            have : (xs.take r.toNat).drop l.toNat = [] := List.eq_nil_of_length_eq_zero (by omega)
            rw [this]
            exact .nil _ _
          · rw [if_neg (by omega), ← hlen]
            have hlt : l.toNat < xs.length := by omega
            have hcs : c' = ei.size := by
              rw [← hc (xs[l.toNat]) (List.getElem_mem _), huni _ (List.getElem_mem _)]
            subst hcs
            refine .sl b _ _ _ _ (fun m => vs (l.toNat * ei.size + m)) (fun y hy => huni y (List.mem_of_mem_take (List.mem_of_mem_drop hy))) (by omega) (fun m hm => ?_) (fun m hm => ?_)
            · obtain ⟨h5, _⟩ := flat_take hc l.toNat r.toNat hm
              rw [Nat.add_assoc]
              exact hcell _ h5
            · obtain ⟨h5, h6⟩ := flat_take hc l.toNat r.toNat hm
              rw [List.getElem?_eq_getElem hm, List.getElem?_eq_getElem h5] at h6
              injection h6 with h6
              rw [h6]
              exact hrd _ h5
      · exact hk.elim
    · exact hk.elim
  · rename_i s hxx
    rw [hxx] at hx
    have hv := rv_str hx
    split at hk
    · rename_i ts s1 s2 z k1 l k2 r ht hl hr
      have hd := (hT t _ ht).desc
      simp only at hd
      obtain ⟨⟨h0, h1, h2⟩, hk⟩ := hk
      have hli := vlo (d := 0) hl
      have hri := vhi (d := s.size) hr
      have hb := run_bounds (P := P) (w := w) (a := a) (isS := false) (len := s.size) (cap := s.size) hl hr hli hri h0 h1 h2 (Nat.le_refl _)
      refine pure_wp hn h hk (val := .string (s.extract l.toNat r.toNat)) ?_ (.d (.str _))
      unfold execOp
      simp only [ho, hv]
      simp [Instr.sliceAt, run_underlying hd, Instr.slice, hb]
    · exact hk.elim
  · rename_i id len c' hxx
    rw [hxx] at hx
    split at hk
    · rename_i e s1 s2 z k1 l k2 r ht hl hr
      have hd := (hT t _ ht).desc
      simp only at hd
      split at hk
      · rename_i ei hei
        obtain ⟨⟨e1, e2⟩, hk⟩ := hk
        have hli := vlo (d := 0) hl
        have hri := vhi (d := len) hr
        subst e1 e2
        generalize hv : a.eval x = v at hx
        have hsize := run_sizeOf (hT e ei hei) w
        have hx2 := hx
        cases hx with
        | own hm hle hcap hx =>
          rename_i b cap c2 xs l2
          have hb := run_bounds (P := P) (w := w) (a := a) (isS := true) (len := len) (cap := cap) hl hr hli hri (Int.le_refl _) (by omega) (Int.le_refl _) hcap
          refine pure_wp hn h hk (val := .slice (some ⟨b, 0, none⟩) len cap) ?_ hx2
          have ha : ∀ (A : Addr), A.add 0 = A := fun A => by unfold Addr.add; split <;> simp_all
          unfold execOp
          simp only [ho, hv]
          simp [Instr.sliceAt, run_underlying hd, Instr.slice, hb, hsize, ha]
      · exact hk.elim
    · exact hk.elim
  · exact hk.elim

theorem elems_spec {ρ : Operand → AV} {cz : Nat} {ps : List (Nat × Operand)} : ∀ {k : Nat} {μs : Mm} {K : List (List D) → Mem → List Nat → Prop}, Lent μ μs → MR B ι μs w →
    (∀ p ∈ ps, RV w (imm B ι μs) ι μs (ρ p.2) (a.eval p.2)) → elemsK μ ρ cz ps k K →
    ∃ es u t, K es u t ∧ Turn B ι ι μs (updM μs u) w w ∧ Lent μ (updM μs u) ∧ es.length = ps.length ∧ (∀ x ∈ es, x.length = cz) ∧
      ∀ cs : Array Value, (k + ps.length) * cz ≤ cs.size → ∃ cs', Instr.fill (fun i => some (i * cz, cz)) cs (ps.map fun p => (p.1, a.eval p.2)) = some cs' ∧ cs'.size = cs.size ∧
        (∀ m, m < k * cz → cs'[m]? = cs[m]?) ∧ ∀ m (hm : m < es.flatten.length), ∃ v, cs'[k * cz + m]? = some v ∧ Rd w (imm B ι (updM μs u)) (es.flatten[m]'hm) v := by
  induction ps with
  | nil =>
    intro k μs K hs h hp hk
    exact ⟨[], [], [], hk, .refl h, hs, rfl, (fun x hx => by cases hx), fun cs _ => ⟨cs, rfl, rfl, fun _ _ => rfl, fun m hm => absurd hm (Nat.not_lt_zero m)⟩⟩
  | cons p r ih =>
    intro k μs K hs h hp hk
    obtain ⟨i, x⟩ := p
    simp only [elemsK] at hk
    split at hk
    · rename_i hik
      have hik := Nat.eq_of_beq_eq_true hik
      subst hik
      obtain ⟨vs, hk, hl, h1, hvs⟩ := cellsK_spec (hp (i, x) (by simp)) hk
      obtain ⟨ds, u, t, hk, ht, hs1, hdl, hds, _, _⟩ := lendsK_spec hs h (vs := (a.eval x).cells.toList) (by simpa using hl) (fun m h2 h3 => by simpa using hvs m h2 (by simpa using h3)) hk
      split at hk
      · rename_i hsz
        have hsz := Nat.eq_of_beq_eq_true hsz
        obtain ⟨es, u', t', hk, ht', hs2, hel, huni, hfill⟩ := ih (k := i + 1) hs1 ht.mr (fun p hp' => (hp p (by simp [hp'])).later ht.later ht.kept) hk
        have hvc : (a.eval x).cells.size = cz := by simpa [hsz] using hdl.symm
        refine ⟨ds :: es, u ++ u', t ++ t', hk, ?_, ?_, by simp [hel], ?_, ?_⟩
        · rw [updM_append]; exact ht.trans ht'
        · rw [updM_append]; exact hs2
        · intro y hy
          rcases List.mem_cons.1 hy with rfl | hy
          · exact hsz
          · exact huni y hy
        · intro cs hcs
          have hcs1 : i * cz + cz ≤ cs.size := by
            rw [List.length_cons] at hcs
            have : (i + 1) * cz ≤ (i + (r.length + 1)) * cz := Nat.mul_le_mul_right cz (by omega)
            rw [Nat.add_mul, Nat.one_mul] at this
            omega
          have hlen : i * cz + (a.eval x).cells.toList.length ≤ cs.toList.length := by simp; omega
          have hos : (over cs.toList (i * cz) (a.eval x).cells.toList).toArray.size = cs.size := by rw [List.size_toArray, over_length _ _ _ hlen, Array.length_toList]
          obtain ⟨cs', h2, h3, h4, h5⟩ := hfill (over cs.toList (i * cz) (a.eval x).cells.toList).toArray (by
            rw [hos]
            rw [List.length_cons] at hcs
            rwa [show i + 1 + r.length = i + (r.length + 1) by omega])
          refine ⟨cs', ?_, h3.trans hos, fun m hm => ?_, fun m hm => ?_⟩
          · rw [List.map_cons, fill_one _ (i := i) (off := i * cz) (size := cz) rfl hvc hcs1]
            exact h2
          · have hm2 : m < (i + 1) * cz := by rw [Nat.add_mul]; omega
            rw [h4 m hm2]
            have := over_get cs.toList (i * cz) (a.eval x).cells.toList hlen m
            rw [if_neg (by omega)] at this
            simpa using this
          · rw [updM_append]
            by_cases hmc : m < cz
            · have e1 : (ds :: es).flatten[m] = ds[m]'(by omega) := by
                simp only [List.flatten_cons]
                rw [List.getElem_append_left (by omega)]
              have hm2 : i * cz + m < (i + 1) * cz := by rw [Nat.add_mul]; omega
              rw [h4 _ hm2, e1]
              have e2 := over_get cs.toList (i * cz) (a.eval x).cells.toList hlen (i * cz + m)
              rw [if_pos ⟨by omega, by simp; omega⟩, Nat.add_sub_cancel_left] at e2
              have hm3 : m < (a.eval x).cells.toList.length := by simp; omega
              refine ⟨(a.eval x).cells.toList[m], ?_, (hds m (by omega) hm3).later ht'.later⟩
              rw [List.getElem?_eq_getElem hm3] at e2
              simpa using e2
            · have hm2 : m - cz < es.flatten.length := by
                simp only [List.flatten_cons, List.length_append] at hm
                omega
              obtain ⟨v, h6, h7⟩ := h5 (m - cz) hm2
              have e1 : (ds :: es).flatten[m] = es.flatten[m - cz] := by
                simp only [List.flatten_cons]
                rw [List.getElem_append_right (by omega)]
                simp only [hsz]
              refine ⟨v, ?_, ?_⟩
              · rw [← h6]
                congr 1
                rw [Nat.add_mul]
                omega
              · rw [e1]; exact h7
      · exact hk.elim
    · exact hk.elim

theorem sound_buildSlice {c : Cx} (hT : TabOk P c.tab) {ρ : Operand → AV} {t : TypeId} {n : Nat} {ps : Array (Nat × Operand)} (ho : o.op = .buildSlice t n ps) (h : MR B ι μ w)
    (hp : ∀ p ∈ ps.toList, RV w (imm B ι μ) ι μ (ρ p.2) (a.eval p.2)) (hk : opw1 c ρ μ o K) (hn : Nxt B ι μ w o a K next) : o.wp P a w next Q := by
  unfold opw1 at hk
  rw [ho] at hk
  simp only at hk
  split at hk
  · rename_i d e s1 s2 z hd ht
    have hdt := (hT t _ ht).desc
    simp only at hdt
    split at hk
    · rename_i ei hei hmu
      split at hk
      · rename_i hb
        rw [Bool.and_eq_true] at hb
        have hnl := Nat.eq_of_beq_eq_true hb.1
        have hsm := Nat.le_of_ble_eq_true hb.2
        obtain ⟨es, u, tt, hk, htn, hlent, hel, huni, hfill⟩ := elems_spec (Lent.refl μ) h hp hk
        obtain ⟨zv, hz, hzl, _⟩ := run_zero (hT e ei hei) w
        have hsize := run_sizeOf (hT e ei hei) w
        let zc : Array Value := if n * ei.size = 0 then #[] else zv.cells
        let cells : Array Value := (Array.range (n * ei.size)).map (fun i => zc[i % zc.size]!)
        obtain ⟨cs', h1, h2, _, h4⟩ := hfill cells (by simp [cells, hnl])
        have hcs : cs'.size = n * ei.size := by rw [h2]; simp [cells]
        have hfl : es.flatten.length = n * ei.size := by rw [flat_len huni, hel, hnl]
        have hmu' : updM μ u d = none := by
          rcases hlent d with e1 | ⟨c2, xs2, l2, e1, _⟩
          · rw [e1]; exact hmu
          · rw [hmu] at e1; cases e1
        have ht2 := Turn.alloc htn.mr hmu' (.row ei.size es false) cs' e ⟨by omega, huni, fun m h5 h6 => by
          obtain ⟨v, h7, h8⟩ := h4 m h5
          rw [Nat.zero_mul, Nat.zero_add, Array.getElem?_eq_getElem h6] at h7
          injection h7 with h7
          rw [h7]
          exact h8⟩
        have hrun : (execOp a.eval o).run P w = .ok (.value (.slice (some ⟨w.heap.size, 0, none⟩) n n)) (w.alloc (.cells cs' e)) := by
          unfold execOp
          simp only [ho]
          have hps : (ps.map fun x => (x.1, a.eval x.2)).toList = ps.toList.map fun p => (p.1, a.eval p.2) := by simp
          have hr : (Instr.buildSlice t n (ps.map fun x => (x.1, a.eval x.2))).run P w = .ok (.slice (some ⟨w.heap.size, 0, none⟩) n n) (w.alloc (.cells cs' e)) := by
            unfold Instr.buildSlice
            simp only [Sem.run_bind, run_underlying hdt, Result.andThen_ok, hsize]
            rw [if_neg (by omega)]
            have h1' : Instr.fill (fun i => some (i * ei.size, ei.size)) cells (ps.toList.map fun p => (p.1, a.eval p.2)) = some cs' := h1
            by_cases h0 : n * ei.size = 0
            · have hc : cells = (Array.range (n * ei.size)).map (fun i => (#[] : Array Value)[i % (#[] : Array Value).size]!) := by
                simp only [cells, zc, if_pos h0]
              rw [if_pos h0]
              rw [hc] at h1'
              simp only [Sem.run_bind, Sem.run_pure, Result.andThen_ok, hps, h1', newRow]; rfl
            · have hc : cells = (Array.range (n * ei.size)).map (fun i => zv.cells[i % zv.cells.size]!) := by
                simp only [cells, zc, if_neg h0]
              rw [if_neg h0]
              rw [hc] at h1'
              simp only [Sem.run_bind, Sem.run_pure, hz, Result.andThen_ok, hps, h1', newRow]; rfl
          simp only [Sem.run_bind]
          rw [show (Array.map (fun x => match x with | (i, x) => (i, a.eval x)) ps) = ps.map fun x => (x.1, a.eval x.2) from rfl, hr]
          rfl
        refine value_wp hrun (hn _ _ _ _ _ _ hk (by rw [updM_append, updM_one]; exact htn.trans ht2) (by
          rw [updM_append, updM_one]
          exact own_new (by omega) (alloc_new _ _) (by omega)))
      · exact hk.elim
    · exact hk.elim
  · exact hk.elim

end
end Go.KM
end
section
/- The K machine: append, copy. -/
namespace Go.KM
open Go

/-- A row of one's own moves on to a new block, and grows. -/
theorem Turn.realloc {B : Base} {ι : Idm} {μ : Mm} {w : World} (h : MR B ι μ w) {d c : Nat} {xs xs' : List (List D)} {l : Bool} (hd : μ d = some (.row c xs l)) (hlt0 : xs.length < xs'.length) (vs : Array Value) (T : TypeId)
    (hb : BlkD w (imm B ι μ) ι μ vs (.row c xs' l)) : Turn B ι (updI ι d w.heap.size) μ (upd1 μ d (.row c xs' l)) w (w.alloc (.cells vs T)) := by
  have hk : Kept ι (updI ι d w.heap.size) μ (upd1 μ d (.row c xs' l)) := by
    constructor
    · intro i cs hi
      have : d ≠ i := fun e => by rw [e] at hd; rw [hd] at hi; cases hi
      exact ⟨⟨cs, by rw [upd1_ne _ _ this]; exact hi⟩, by simp [updI, this]⟩
    · intro i c2 xs2 l2 hi
      by_cases e : d = i
      · subst e
        rw [hd] at hi
        injection hi with hi
        injection hi with e1 e2 e3
        subst e1 e2 e3
        exact ⟨xs', l, upd1_same _ _ _, .inr hlt0⟩
      · exact ⟨xs2, l2, by rw [upd1_ne _ _ e]; exact hi, .inl ⟨by simp [updI, e], rfl⟩⟩
  have hl : Later w (w.alloc (.cells vs T)) (imm B ι μ) (imm B (updI ι d w.heap.size) (upd1 μ d (.row c xs' l))) := by
    constructor
    · intro b off v hi hc
      have hlt := cell_lt hc
      refine ⟨by rw [World.cell?_alloc_lt w (a := ⟨b, off, none⟩) (h := hlt)]; exact hc, fun id b' h1 h2 => ?_, hi.2⟩
      by_cases e : d = id
      · subst e
        simp [updI] at h2
        omega
      · rw [upd1_ne _ _ e] at h1
        simp only [updI, if_neg e] at h2
        exact hi.1 id b' h1 h2
    · intro b vs' T' hb'
      have hlt := blk_lt hb'
      exact ⟨vs', by rw [alloc_old w _ hlt]; exact hb', rfl⟩
  refine ⟨?_, hk, hl⟩
  constructor
  · exact ⟨h.env.os, h.env.tape, h.env.output, by have := h.env.size; simp; omega⟩
  · intro b hb1 hb2
    have := h.env.size
    rw [alloc_old w _ (by omega)]
    exact h.frame b hb1 hb2
  · intro i j b hi hj
    simp only [updI] at hi hj
    by_cases e1 : d = i
    · by_cases e2 : d = j
      · omega
      · rw [if_pos e1] at hi
        rw [if_neg e2] at hj
        have := (h.lives j b hj).1
        simp at hi
        omega
    · by_cases e2 : d = j
      · rw [if_neg e1] at hi
        rw [if_pos e2] at hj
        have := (h.lives i b hi).1
        simp at hj
        omega
      · rw [if_neg e1] at hi
        rw [if_neg e2] at hj
        exact h.inj i j b hi hj
  · intro i
    by_cases e : d = i
    · simp [updI, upd1, e]
    · simp [updI, upd1, e, h.dom i]
  · intro i b hi
    simp only [updI] at hi
    by_cases e : d = i
    · rw [if_pos e] at hi
      have hs := h.env.size
      simp at hi
      exact ⟨by simp; omega, fun hlt => by omega⟩
    · rw [if_neg e] at hi
      obtain ⟨h1, h2⟩ := h.lives i b hi
      exact ⟨by simp; omega, h2⟩
  · intro i b hi
    by_cases e : d = i
    · subst e
      rw [upd1_same] at hi
      injection hi with hi
      subst hi
      refine BlkR_iff.2 ⟨w.heap.size, vs, T, by simp [updI], alloc_new w _, hb.later hl hk⟩
    · rw [upd1_ne _ _ e] at hi
      obtain ⟨g, vs', T', h1, h2, h3⟩ := BlkR_iff.1 (h.blks i b hi)
      obtain ⟨vs'', h4, _⟩ := hl.shp _ _ _ h2
      have hlt := blk_lt h2
      refine BlkR_iff.2 ⟨g, vs', T', by simp [updI, e, h1], ?_, h3.later hl hk⟩
      rw [alloc_old w _ hlt]
      exact h2

section
variable {P : Program} {B : Base} {ι : Idm} {μ : Mm} {w : World} {o : Oper} {a : Act} {next : Act → World → Prop} {Q : Exit → Act → World → Prop} {K : AV → Mem → List Nat → Prop}

theorem flat_take0 {α : Type} {xs : List (List α)} {c : Nat} (h : ∀ x ∈ xs, x.length = c) {n : Nat} (hn : n ≤ xs.length) : (xs.take n).flatten = xs.flatten.take (n * c) := by
  induction xs generalizing n with
  | nil => simp
  | cons x r ih =>
    cases n with
    | zero => simp
    | succ n =>
      have hx := h x (List.mem_cons_self ..)
      have := ih (fun y hy => h y (List.mem_cons_of_mem _ hy)) (n := n) (by simpa using hn)
      rw [List.take_succ_cons, List.flatten_cons, List.flatten_cons, this, List.take_append, hx]
      rw [List.take_of_length_le (l := x) (by rw [hx, Nat.add_mul]; omega)]
      congr 2
      rw [Nat.add_mul]; omega

theorem tail_spec (h : MR B ι μ w) {v : AV} {val : Value} (hv : RV w (imm B ι μ) ι μ v val) {K : List (List D) → List Nat → Prop} (hk : tailK μ v K) :
    ∃ ys tt, K ys tt ∧ (∀ w', (Builtin.lenOf val).run P w' = .ok ys.length w') ∧ ∀ size, (∀ z ∈ ys, z.length = size) → ∀ n, n ≤ ys.length → ∃ news : List Value, news.length = n * size ∧
      (∀ w', w'.heap = w.heap → (Builtin.firstCells size n val).run P w' = .ok news.toArray w') ∧ (∀ u ∈ news, one u) ∧
      ∀ m (h1 : m < (ys.take n).flatten.length) (h2 : m < news.length), Rd w (imm B ι μ) ((ys.take n).flatten[m]'h1) (news[m]'h2) := by
  unfold tailK at hk
  split at hk
  · rename_i xs
    cases hv with | d hr =>
    refine ⟨xs, [], hk, ?_⟩
    cases hr with
    | nil ad cap =>
      refine ⟨fun w' => by simp [Builtin.lenOf], fun size _ n hn => ⟨[], by simp at hn; simp [hn], fun w' _ => ?_, fun u hu => (by cases hu), fun m h1 h2 => absurd h2 (Nat.not_lt_zero m)⟩⟩
      have hn : n = 0 := by simpa using hn
      subst hn
      cases ad <;> simp [Builtin.firstCells, loadCells, loadCellsFrom]
    | sl b off cap c xs vs hc hcap hcell hrd =>
      refine ⟨fun w' => by simp [Builtin.lenOf], fun size hu n hn => ⟨(List.range (n * size)).map vs, by simp, fun w' hw' => ?_, fun u hu' => ?_, fun m h1 h2 => ?_⟩⟩
      · refine run_firstCells_some w' size n ⟨b, off, none⟩ _ _ _ (by simp) fun j v hj => ?_
        have hj2 : j < n * size := by
          rcases Nat.lt_or_ge j (n * size) with h | h
          · exact h
          · rw [List.getElem?_eq_none (by simpa using h)] at hj; cases hj
        rw [List.getElem?_map, List.getElem?_range hj2] at hj
        simp at hj
        have := (hcell j (by rw [flat_len hu]; exact Nat.lt_of_lt_of_le hj2 (Nat.mul_le_mul_right _ hn))).1
        rw [hj] at this
        rw [add_addr]
        simpa [World.cell?, hw'] using this
      · obtain ⟨j, hj, rfl⟩ := List.mem_map.1 hu'
        have hj2 : j < n * size := by simpa using hj
        exact (hrd j (by rw [flat_len hu]; exact Nat.lt_of_lt_of_le hj2 (Nat.mul_le_mul_right _ hn))).one
      · have hm : m < n * size := by simpa using h2
        have h3 : m < xs.flatten.length := by rw [flat_len hu]; exact Nat.lt_of_lt_of_le hm (Nat.mul_le_mul_right _ hn)
        have := hrd m h3
        simpa [flat_take0 hu hn] using this
  · cases hv
    refine ⟨[], [], hk, fun w' => by simp [Builtin.lenOf], fun size _ n hn => ⟨[], by simp at hn; simp [hn], fun w' _ => by simp [Builtin.firstCells], fun u hu => (by cases hu), fun m h1 h2 => absurd h2 (Nat.not_lt_zero m)⟩⟩
  · rename_i id len cc
    split at hk
    · rename_i c' xs l hrow
      obtain ⟨hlen, hk⟩ := hk
      obtain ⟨g, vs, T, h2, h3, h4, h5, h6⟩ := h.blks id _ hrow
      cases hv with | own hx hle hcap hi =>
      rw [hrow] at hx
      injection hx with hx
      injection hx with e1 e2 e3
      subst e1 e2 e3
      obtain ⟨h7, _, _⟩ := hi hlen
      rw [h2] at h7
      injection h7 with h7
      subst h7
      refine ⟨xs, [id], hk, fun w' => by simp [Builtin.lenOf, hlen], fun size hu n hn => ?_⟩
      have hns : n * size ≤ vs.size := by
        have : n * size ≤ xs.length * size := Nat.mul_le_mul_right _ hn
        rw [flat_len hu] at h4
        omega
      refine ⟨vs.toList.take (n * size), by simp; omega, fun w' hw' => ?_, fun u hu' => ?_, fun m h1 h2 => ?_⟩
      · refine run_firstCells_some w' size n ⟨g, 0, none⟩ _ _ _ (by simp; omega) fun j v hj => ?_
        rw [add_addr, Nat.zero_add]
        rw [List.getElem?_take] at hj
        split at hj
        · have := cell_blk h3 j
          have e2 : w'.cell? ⟨g, j, none⟩ = w.cell? ⟨g, j, none⟩ := by simp [World.cell?, hw']
          rw [e2, this]
          simpa using hj
        · cases hj
      · obtain ⟨j, hj⟩ := List.getElem?_of_mem hu'
        rw [List.getElem?_take] at hj
        split at hj
        · rename_i hjl
          have hj3 : j < xs.flatten.length := by rw [flat_len hu]; exact Nat.lt_of_lt_of_le hjl (Nat.mul_le_mul_right _ hn)
          have := h6 j hj3 (by omega)
          have e : vs[j]'(by omega) = u := by
            rw [Array.getElem?_toList, Array.getElem?_eq_getElem (by omega)] at hj
            injection hj
          rw [← e]
          exact this.one
        · cases hj
      · have hm : m < n * size := by simp at h2; omega
        have h3 : m < xs.flatten.length := by rw [flat_len hu]; exact Nat.lt_of_lt_of_le hm (Nat.mul_le_mul_right _ hn)
        have := h6 m h3 (by omega)
        simpa [flat_take0 hu hn] using this
    · exact hk.elim
  · exact hk.elim

theorem run_append_at (t ty e : TypeId) (i : TypeInfo) (z : Value) (ht : P.underlying t = some (.slice e)) (hi : P.info? e = some i) (hz : i.zero = some z)
    (base : Option Addr) (sLen sCap n : Nat) (x : Value) (olds news : List Value)
    (hx : ∀ w', (Builtin.lenOf x).run P w' = .ok n w')
    (hold : ∀ w', w'.heap = w.heap → (Builtin.firstCells i.size sLen (.slice base sLen sCap)).run P w' = .ok olds.toArray w')
    (hnews : ∀ w', w'.heap = w.heap → (Builtin.firstCells i.size n x).run P w' = .ok news.toArray w')
    (hg : sCap < sLen + n) (h63 : ((sLen + n : Nat) : Int) ≤ 9223372036854775807) (hfit : Builtin.nextslicecap (sLen + n) sCap * i.bytes ≤ 281474976710656) :
    (Builtin.append_ #[t, t] ty #[.slice base sLen sCap, x]).run P w =
      .ok (.slice (some ⟨w.heap.size, 0, none⟩) (sLen + n) (grownCap w (sLen + n) sCap e))
        (w.drew.alloc (.cells (olds.toArray ++ news.toArray ++ Builtin.zeroCells z.cells (grownCap w (sLen + n) sCap e - (sLen + n))) e)) := by
  have hn : ¬ (sLen + n ≤ sCap) := by omega
  have h63' : ¬ (9223372036854775807 < ((sLen : Int) + (n : Int))) := by omega
  have h48' : ¬ (281474976710656 < Builtin.nextslicecap (sLen + n) sCap * i.bytes) := by omega
  have hf := hnews w.drew rfl
  have hfo := hold w.drew rfl
  simp [Builtin.append_, run_underlying ht, sizeOf, typeInfo, zeroValue, hi, hz, hx, hn, h63', h48', Question.forced, hf, hfo, newRow, grownCap]
  congr 2
  apply Array.ext'
  simp [List.append_assoc]

theorem run_append_in (t ty e : TypeId) (i : TypeInfo) (ht : P.underlying t = some (.slice e)) (hi : P.info? e = some i)
    (g sLen sCap n : Nat) (cur : Array Value) (T : TypeId) (hg : w.heap[g]? = some (.cells cur T (0, 0))) (x : Value) (news : List Value)
    (hx : ∀ w', (Builtin.lenOf x).run P w' = .ok n w')
    (hnews : ∀ w', w'.heap = w.heap → (Builtin.firstCells i.size n x).run P w' = .ok news.toArray w') (h1 : ∀ u ∈ news, u.oneCell' = true)
    (hroom : sLen + n ≤ sCap) (hfit : sLen * i.size + news.length ≤ cur.size) :
    (Builtin.append_ #[t, t] ty #[.slice (some ⟨g, 0, none⟩) sLen sCap, x]).run P w =
      .ok (.slice (some ⟨g, 0, none⟩) (sLen + n) sCap) (w.setRow g (cur.toList.take (sLen * i.size) ++ news ++ cur.toList.drop (sLen * i.size + news.length)).toArray) := by
  have hf := hnews w rfl
  have hst := run_storeCells_at P g (sLen * i.size) T news 0 cur w hg (by simpa using hfit) h1
  simp only [Nat.add_zero] at hst
  simp [Builtin.append_, run_underlying ht, sizeOf, typeInfo, hi, hx, hroom, hf, Addr.add_lit, hst]
end
end Go.KM
end
section
/- The K machine: append, copy, max, min do what the machine says. -/
namespace Go.KM
open Go

section
variable {P : Program} {B : Base} {ι : Idm} {μ : Mm} {w : World} {o : Oper} {a : Act} {next : Act → World → Prop} {Q : Exit → Act → World → Prop} {K : AV → Mem → List Nat → Prop}

theorem grow_fits {need old bytes : Nat} (h : old < need) (hb : need * bytes ≤ 140737488355328) : Builtin.nextslicecap need old * bytes ≤ 281474976710656 := growslice_fits h hb

/-- Rows that are told, one behind the other. -/
theorem flat_append_rd {im : Imm} {xs ys : List (List D)} {as bs : List Value} (hl : xs.flatten.length = as.length)
    (h1 : ∀ m (h1 : m < xs.flatten.length) (h2 : m < as.length), Rd w im (xs.flatten[m]'h1) (as[m]'h2))
    (h2 : ∀ m (h1 : m < ys.flatten.length) (h2 : m < bs.length), Rd w im (ys.flatten[m]'h1) (bs[m]'h2)) {cs : List Value} (hc : ys.flatten.length ≤ bs.length) :
    ∀ m (h1 : m < (xs ++ ys).flatten.length) (h2 : m < (as ++ bs ++ cs).toArray.size), Rd w im ((xs ++ ys).flatten[m]'h1) ((as ++ bs ++ cs).toArray[m]'h2) := by
  intro m h3 h4
  simp only [List.getElem_toArray, List.flatten_append, List.append_assoc]
  simp only [List.flatten_append, List.length_append] at h3
  rcases Nat.lt_or_ge m as.length with h | h
  · rw [List.getElem_append_left (by omega), List.getElem_append_left h]
    exact h1 m (by omega) h
  · rw [List.getElem_append_right (by omega), List.getElem_append_right h, List.getElem_append_left (by omega)]
    have e : m - xs.flatten.length = m - as.length := by omega
    simp only [e]
    exact h2 (m - as.length) (by omega) (by omega)

theorem sound_append {c : Cx} (hT : TabOk P c.tab) {ρ : Operand → AV} {cl : Call} (ho : o.op = .call cl) (hc : cl.callee = .builtin .append) (h : MR B ι μ w)
    (hp : ∀ x ∈ cl.args.toList, RV w (imm B ι μ) ι μ (ρ x) (a.eval x)) (hk : opw1 c ρ μ o K) (hn : Nxt B ι μ w o a K next) : o.wp P a w next Q := by
  unfold opw1 at hk
  rw [ho] at hk
  simp only [hc] at hk
  split at hk
  · rename_i x y t t' hargs htys
    have hx := hp x (by rw [hargs]; simp)
    have hy := hp y (by rw [hargs]; simp)
    have ha : cl.args = #[x, y] := by rw [← Array.toArray_toList (xs := cl.args), hargs]
    have hty : cl.argTypes = #[t, t'] := by rw [← Array.toArray_toList (xs := cl.argTypes), htys]
    split at hk
    · rename_i e s1 s2 z htt ht
      have htt := Nat.eq_of_beq_eq_true htt
      subst htt
      have hdt := (hT t _ ht).desc
      simp only at hdt
      have run : ∀ {v w'}, (Builtin.append_ #[t, t] o.type #[a.eval x, a.eval y]).run P w = .ok v w' → (execOp a.eval o).run P w = .ok (.value v) w' := by
        intro v w' hr
        unfold execOp
        simp only [ho]
        simp [resolve, hc, ha, hty, invoke, builtin, hr]
      split at hk
      · rename_i ei hei
        obtain ⟨j, hj1, hj2, hj3, zv, hz1, hz2, hz3⟩ := (hT e ei hei).info
        have hzl : zv.cells.size = ei.size := by rw [← hz2]; exact (hT e ei hei).zero
        split at hk
        · -- the nil slice
          rename_i hxx
          rw [hxx] at hx
          generalize hxv : a.eval x = xv at hx
          cases hx
          split at hk
          · rename_i d hd
            split at hk
            · rename_i hmu
              obtain ⟨ys, tt, ⟨⟨h0, hb, hle, huni⟩, hk⟩, hlen, hcells⟩ := tail_spec h hy hk
              obtain ⟨news, hnl, hnews, hn1, hnr⟩ := hcells ei.size huni ys.length (Nat.le_refl _)
              have hr := run_append_at (P := P) (w := w) t o.type e j zv hdt hj1 hz1 none 0 0 ys.length (a.eval y) [] news hlen
                (fun w' _ => by simp [Builtin.firstCells]) (fun w' hw' => by rw [hj2]; exact hnews w' hw') (by omega) (by omega)
                (by rw [Nat.zero_add]; exact grow_fits h0 (by rw [hj3]; exact hb))
              rw [Nat.zero_add, ← hxv] at hr
              have hmr2 := h.heap (w' := w.drew) rfl rfl rfl rfl
              have hge := grownCap_ge w ys.length 0 e
              have hcs : (([] : List Value).toArray ++ news.toArray ++ Builtin.zeroCells zv.cells (grownCap w ys.length 0 e - ys.length)) =
                  (([] : List Value) ++ news ++ (Builtin.zeroCells zv.cells (grownCap w ys.length 0 e - ys.length)).toList).toArray := by simp
              have hcsz : (([] : List Value).toArray ++ news.toArray ++ Builtin.zeroCells zv.cells (grownCap w ys.length 0 e - ys.length)).size = grownCap w ys.length 0 e * ei.size := by
                rw [Array.size_append, Array.size_append, size_zeroCells, hzl]
                simp only [List.size_toArray, List.length_nil, hnl, Nat.zero_add]
                rw [← Nat.add_mul]
                congr 1
                omega
              have htn := Turn.alloc hmr2 hmu (.row ei.size ys false) (([] : List Value).toArray ++ news.toArray ++ Builtin.zeroCells zv.cells (grownCap w ys.length 0 e - ys.length)) e
                ⟨by rw [hcsz, flat_len huni]; exact Nat.mul_le_mul_right _ hge, huni, fun m h1 h2 => by
                have := flat_append_rd (w := w) (im := imm B ι μ) (xs := []) (ys := ys) (as := []) (bs := news) (cs := (Builtin.zeroCells zv.cells (grownCap w ys.length 0 e - ys.length)).toList) rfl
                  (fun m h1 _ => absurd h1 (Nat.not_lt_zero m)) (fun m h1 h2 => by
                    have := hnr m (by simpa using h1) h2
                    simp only [List.take_length] at this
                    exact this) (by rw [flat_len huni, hnl]; exact Nat.le_refl _) m h1 (by rw [← hcs]; exact h2)
                simp only [hcs]
                exact this.later (later_heap (w := w) (w' := w.drew) rfl _)⟩
              refine value_wp (run hr) (hn _ _ _ _ _ _ hk (by rw [updM_one]; exact (Turn.heap (w' := w.drew) h rfl rfl rfl rfl).trans htn) (by
                rw [updM_one]
                refine .own (upd1_same _ _ _) (Nat.le_refl _) hge (fun _ => ⟨by simp [updI], rfl, _, e, alloc_new w.drew _, ?_⟩)
                rw [hcsz]; exact Nat.le_refl _))
            · exact hk.elim
          · exact hk.elim
        · -- a row of one's own
          rename_i id len c' hxx
          rw [hxx] at hx
          generalize hxv : a.eval x = xv at hx
          split at hk
          · rename_i c2 xs l hrow
            obtain ⟨ys, tt, ⟨⟨hlx, e1, e2, hb, hle, huni⟩, hk⟩, hlen, hcells⟩ := tail_spec h hy hk
            subst e2
            cases hx with | own hx1 hxl hcap hi =>
            rename_i b cap c3 xs3 l3
            rw [hrow] at hx1
            injection hx1 with hx1
            injection hx1 with f1 f2 f3
            subst f1 f2 f3
            obtain ⟨g1, g2, vs, T, g3, g4⟩ := hi hlx
            subst g2
            obtain ⟨g, vs', T', k1, k2, k3, k4, k5⟩ := h.blks id _ hrow
            rw [g1] at k1
            injection k1 with k1
            subst k1
            rw [g3] at k2
            injection k2 with k2
            injection k2 with f1 f2
            subst f1 f2
            have hfl : xs.flatten.length = len * ei.size := by rw [flat_len k4, hlx]
            obtain ⟨news, hnl, hnews, hn1, hnr⟩ := hcells ei.size huni ys.length (Nat.le_refl _)
            rw [List.take_length] at hnr
            have hall : ∀ x ∈ xs ++ ys, x.length = ei.size := fun x hx => (List.mem_append.1 hx).elim (k4 x) (huni x)
            have hfl2 : (xs ++ ys).flatten.length = (len + ys.length) * ei.size := by rw [flat_len hall, List.length_append, hlx]
            have hysl : ys.flatten.length = ys.length * ei.size := flat_len huni
            have htk : ∀ m (h1 : m < xs.flatten.length) (h2 : m < (vs.toList.take (len * ei.size)).length), Rd w (imm B ι μ) (xs.flatten[m]'h1) ((vs.toList.take (len * ei.size))[m]'h2) := fun m h1 h2 => by
              simpa using k5 m h1 (by omega)
            have hvl : len * ei.size ≤ vs.size := by omega
            have hadd : (len + ys.length) * ei.size = len * ei.size + ys.length * ei.size := Nat.add_mul ..
            by_cases hroom : len + ys.length ≤ cap
            · have hfit : len * ei.size + news.length ≤ vs.size := by
                have := Nat.mul_le_mul_right ei.size hroom
                omega
              have hr := run_append_in (P := P) (w := w) t o.type e j hdt hj1 b len cap ys.length vs T g3 (a.eval y) news hlen
                (fun w' hw' => by rw [hj2]; exact hnews w' hw') (fun u hu => (one_iff u).1 (hn1 u hu)) hroom (by rw [hj2]; exact hfit)
              rw [hj2, setRow_eq g3, ← hxv] at hr
              have hsz : (vs.toList.take (len * ei.size) ++ news ++ vs.toList.drop (len * ei.size + news.length)).toArray.size = vs.size := by
                simp; omega
              have htn := Turn.write h hrow g1 vs (vs.toList.take (len * ei.size) ++ news ++ vs.toList.drop (len * ei.size + news.length)).toArray T g3 hsz (blk' := .row ei.size (xs ++ ys) l)
                ⟨rfl, by simp, fun hl => ⟨hl, by rw [hfl, hfl2]; omega, fun m hm => by
                  have h1 : m < len * ei.size := by omega
                  have h2 : m < vs.size := by omega
                  simp only [List.getElem?_toArray, List.append_assoc]
                  rw [List.getElem?_append_left (by simp; omega), List.getElem?_take, if_pos h1]
                  simp⟩⟩
                ⟨by rw [hsz, hfl2]; omega, hall, fun m h1 h2 => flat_append_rd (by rw [hfl]; simp; omega) htk hnr (by rw [hysl, hnl]; exact Nat.le_refl _) m h1 h2⟩
              refine value_wp (run hr) (hn _ _ _ _ _ _ hk (by rw [updM_one]; exact htn) (by
                rw [updM_one]
                exact .own (upd1_same _ _ _) (by simp; omega) hroom (fun _ => ⟨g1, rfl, _, T, setBlk_same g3, by rw [hsz]; exact g4⟩)))
            · have hr := run_append_at (P := P) (w := w) t o.type e j zv hdt hj1 hz1 (some ⟨b, 0, none⟩) len cap ys.length (a.eval y) (vs.toList.take (len * ei.size)) news hlen
                (fun w' hw' => by
                  rw [hj2]
                  refine run_firstCells_some w' ei.size len ⟨b, 0, none⟩ _ _ _ (by simp; omega) fun j v hj => ?_
                  rw [add_addr, Nat.zero_add]
                  rw [List.getElem?_take] at hj
                  split at hj
                  · have := cell_blk g3 j
                    have e2 : w'.cell? ⟨b, j, none⟩ = w.cell? ⟨b, j, none⟩ := by simp [World.cell?, hw']
                    rw [e2, this]
                    simpa using hj
                  · cases hj)
                (fun w' hw' => by rw [hj2]; exact hnews w' hw') (by omega) (by omega) (grow_fits (by omega) (by rw [hj3]; exact hb))
              rw [← hxv] at hr
              have hmr2 := h.heap (w' := w.drew) rfl rfl rfl rfl
              have hge := grownCap_ge w (len + ys.length) cap e
              have hcs : ((vs.toList.take (len * ei.size)).toArray ++ news.toArray ++ Builtin.zeroCells zv.cells (grownCap w (len + ys.length) cap e - (len + ys.length))) =
                  (vs.toList.take (len * ei.size) ++ news ++ (Builtin.zeroCells zv.cells (grownCap w (len + ys.length) cap e - (len + ys.length))).toList).toArray := by simp
              have hcsz : ((vs.toList.take (len * ei.size)).toArray ++ news.toArray ++ Builtin.zeroCells zv.cells (grownCap w (len + ys.length) cap e - (len + ys.length))).size = grownCap w (len + ys.length) cap e * ei.size := by
                rw [Array.size_append, Array.size_append, size_zeroCells, hzl]
                simp only [List.size_toArray, List.length_take, Array.length_toList, hnl]
                rw [Nat.min_eq_left hvl, ← hadd, ← Nat.add_mul]
                congr 1
                omega
              have htn := Turn.realloc hmr2 hrow (xs' := xs ++ ys) (by simp; omega) _ e ⟨by rw [hcsz, hfl2]; exact Nat.mul_le_mul_right _ hge, hall, fun m h1 h2 => by
                have := flat_append_rd (by rw [hfl]; simp; omega) htk hnr (cs := (Builtin.zeroCells zv.cells (grownCap w (len + ys.length) cap e - (len + ys.length))).toList) (by rw [hysl, hnl]; exact Nat.le_refl _) m h1 (by rw [← hcs]; exact h2)
                simp only [hcs]
                exact this.later (later_heap (w := w) (w' := w.drew) rfl _)⟩
              refine value_wp (run hr) (hn _ _ _ _ _ _ hk (by rw [updM_one]; exact (Turn.heap (w' := w.drew) h rfl rfl rfl rfl).trans htn) (by
                rw [updM_one]
                exact .own (upd1_same _ _ _) (by simp; omega) hge (fun _ => ⟨by simp [updI], rfl, _, e, alloc_new w.drew _, by rw [hcsz]; exact Nat.le_refl _⟩)))
          · exact hk.elim
        · exact hk.elim
      · exact hk.elim
    · exact hk.elim
  · exact hk.elim

theorem flat_drop0 {α : Type} {xs : List (List α)} {c : Nat} (h : ∀ x ∈ xs, x.length = c) {n : Nat} (hn : n ≤ xs.length) : (xs.drop n).flatten = xs.flatten.drop (n * c) := by
  induction xs generalizing n with
  | nil => simp
  | cons x r ih =>
    cases n with
    | zero => simp
    | succ n =>
      have hx := h x (List.mem_cons_self ..)
      have := ih (fun y hy => h y (List.mem_cons_of_mem _ hy)) (n := n) (by simpa using hn)
      rw [List.drop_succ_cons, List.flatten_cons, this, List.drop_append, hx, List.drop_eq_nil_of_le (as := x) (by rw [hx, Nat.add_mul]; omega), List.nil_append]
      congr 1
      rw [Nat.add_mul]; omega

theorem run_copy_at (t ty e : TypeId) (i : TypeInfo) (ht : P.underlying t = some (.slice e)) (hi : P.info? e = some i)
    (base : Option Addr) (sLen sCap n : Nat) (x : Value) (news : List Value) (hx : (Builtin.lenOf x).run P w = .ok n w)
    (hnews : (Builtin.firstCells i.size (min n sLen) x).run P w = .ok news.toArray w) {w' : World} {ad : Addr} (hst : base = some ad → (storeCells ad news).run P w = .ok () w') (hb : base = some ad) :
    (Builtin.copy_ #[t, t] ty #[.slice base sLen sCap, x]).run P w = .ok (.int .i64 (min n sLen : Nat)) w' := by
  have hmin : Nat.min n sLen = min n sLen := rfl
  have hst := hst hb
  subst hb
  simp [Builtin.copy_, run_underlying ht, sizeOf, typeInfo, hi, hx, hmin, hnews, hst, goInt]

theorem sound_copy {c : Cx} (hT : TabOk P c.tab) {ρ : Operand → AV} {cl : Call} (ho : o.op = .call cl) (hc : cl.callee = .builtin .copy) (h : MR B ι μ w)
    (hp : ∀ x ∈ cl.args.toList, RV w (imm B ι μ) ι μ (ρ x) (a.eval x)) (hk : opw1 c ρ μ o K) (hn : Nxt B ι μ w o a K next) : o.wp P a w next Q := by
  unfold opw1 at hk
  rw [ho] at hk
  simp only [hc] at hk
  split at hk
  · rename_i x y t t' hargs htys
    have hx := hp x (by rw [hargs]; simp)
    have hy := hp y (by rw [hargs]; simp)
    have ha : cl.args = #[x, y] := by rw [← Array.toArray_toList (xs := cl.args), hargs]
    have hty : cl.argTypes = #[t, t'] := by rw [← Array.toArray_toList (xs := cl.argTypes), htys]
    split at hk
    · rename_i e s1 s2 z htt ht
      have htt := Nat.eq_of_beq_eq_true htt
      subst htt
      have hdt := (hT t _ ht).desc
      simp only at hdt
      have run : ∀ {v w'}, (Builtin.copy_ #[t, t] o.type #[a.eval x, a.eval y]).run P w = .ok v w' → (execOp a.eval o).run P w = .ok (.value v) w' := by
        intro v w' hr
        unfold execOp
        simp only [ho]
        simp [resolve, hc, ha, hty, invoke, builtin, hr]
      split at hk
      · rename_i ei hei
        obtain ⟨j, hj1, hj2, hj3, zv, hz1, hz2, hz3⟩ := (hT e ei hei).info
        split at hk
        · rename_i id len c' hxx
          rw [hxx] at hx
          generalize hxv : a.eval x = xv at hx
          split at hk
          · rename_i c2 xs l hrow
            split at hk
            · obtain ⟨ys, tt, ⟨⟨hlx, e1, e2, huni⟩, hk2⟩, hlen, hcells⟩ := tail_spec h hy hk
              subst e2
              cases hx with | own hx1 hxl hcap hi =>
              rename_i b cap c3 xs3 l3
              rw [hrow] at hx1
              injection hx1 with hx1
              injection hx1 with f1 f2 f3
              subst f1 f2 f3
              obtain ⟨g1, g2, vs, T, g3, g4⟩ := hi hlx
              subst g2
              obtain ⟨g, vs', T', k1, k2, k3, k4, k5⟩ := h.blks id _ hrow
              rw [g1] at k1
              injection k1 with k1
              subst k1
              rw [g3] at k2
              injection k2 with k2
              injection k2 with f1 f2
              subst f1 f2
              let n := min ys.length len
              have hfl : xs.flatten.length = len * ei.size := by rw [flat_len k4, hlx]
              obtain ⟨news, hnl, hnews, hn1, hnr⟩ := hcells ei.size huni n (Nat.min_le_left _ _)
              have hnlen : n ≤ len := Nat.min_le_right _ _
              have hns : n * ei.size ≤ len * ei.size := Nat.mul_le_mul_right _ hnlen
              have e1 : ys.take len = ys.take n := by
                rcases Nat.le_total len ys.length with h | h
                · simp only [n]; rw [Nat.min_eq_right h]
                · simp only [n]; rw [Nat.min_eq_left h, List.take_of_length_le h, List.take_length]
              have e2 : xs.drop ys.length = xs.drop n := by
                rcases Nat.le_total ys.length len with h | h
                · simp only [n]; rw [Nat.min_eq_left h]
                · simp only [n]; rw [Nat.min_eq_right h, List.drop_eq_nil_of_le (by omega), List.drop_eq_nil_of_le (by omega)]
              rw [e1, e2] at hk2
              have hst := run_storeCells_at P b 0 T news 0 vs w g3 (by simp; omega) (fun u hu => (one_iff u).1 (hn1 u hu))
              simp only [Nat.add_zero, Nat.zero_add, List.take_zero, List.nil_append] at hst
              rw [setRow_eq g3] at hst
              have hr : (Builtin.copy_ #[t, t] o.type #[a.eval x, a.eval y]).run P w = .ok (.int .i64 n) (setBlk w b (.cells (news ++ vs.toList.drop news.length).toArray T (0, 0))) := by
                rw [hxv]
                exact run_copy_at t o.type e j hdt hj1 (some ⟨b, 0, none⟩) len cap ys.length (a.eval y) news (hlen w) (by rw [hj2]; exact hnews w rfl) (ad := ⟨b, 0, none⟩) (fun _ => hst) rfl
              have hall : ∀ x ∈ ys.take n ++ xs.drop n, x.length = ei.size := fun x hx => (List.mem_append.1 hx).elim (fun h => huni x (List.mem_of_mem_take h)) (fun h => k4 x (List.mem_of_mem_drop h))
              have hlen2 : (ys.take n ++ xs.drop n).length = len := by
                have : n ≤ ys.length := Nat.min_le_left _ _
                simp; omega
              have hfl2 : (ys.take n ++ xs.drop n).flatten.length = len * ei.size := by rw [flat_len hall, hlen2]
              have hsz : (news ++ vs.toList.drop news.length).toArray.size = vs.size := by simp; omega
              have hfd := flat_drop0 k4 (n := n) (by omega)
              have hft := flat_len (xs := ys.take n) (c := ei.size) (fun x hx => huni x (List.mem_of_mem_take hx))
              have hrd := flat_append_rd (w := w) (im := imm B ι μ) (xs := ys.take n) (ys := xs.drop n) (as := news) (bs := vs.toList.drop news.length) (cs := []) (by
                  have : n ≤ ys.length := Nat.min_le_left _ _
                  rw [hft, hnl, List.length_take, Nat.min_eq_left this]) hnr (fun m h1 h2 => by
                  have h3 : n * ei.size + m < xs.flatten.length := by
                    rw [hfd, List.length_drop] at h1
                    omega
                  have := k5 (n * ei.size + m) h3 (by omega)
                  simp only [hfd, List.getElem_drop, hnl]
                  simpa using this) (by
                  have e : vs.toList.length = vs.size := Array.length_toList
                  rw [hfd, List.length_drop, List.length_drop, hnl]
                  omega)
              have htn := Turn.write h hrow g1 vs (news ++ vs.toList.drop news.length).toArray T g3 hsz (blk' := .row ei.size (ys.take n ++ xs.drop n) false)
                ⟨rfl, by omega, fun hl => by cases hl⟩
                ⟨by rw [hsz, hfl2]; omega, hall, fun m h1 h2 => by simpa using hrd m h1 (by simpa using h2)⟩
              refine value_wp (run hr) (hn _ _ _ _ _ _ hk2 (by rw [updM_one]; exact htn) ?_)
              have : (min (ys.length : Int) (len : Int)) = (n : Int) := by simp only [n]; omega
              rw [this]
              exact .d (.int _ _)
            · exact hk.elim
          · exact hk.elim
        · exact hk.elim
      · exact hk.elim
    · exact hk.elim
  · exact hk.elim

theorem sound_max {c : Cx} {ρ : Operand → AV} {cl : Call} (ho : o.op = .call cl) (hc : cl.callee = .builtin .max) (h : MR B ι μ w)
    (hp : ∀ x ∈ cl.args.toList, RV w (imm B ι μ) ι μ (ρ x) (a.eval x)) (hk : opw1 c ρ μ o K) (hn : Nxt B ι μ w o a K next) : o.wp P a w next Q := by
  unfold opw1 at hk
  rw [ho] at hk
  simp only [hc] at hk
  split at hk
  · rename_i x y hargs
    have hx := hp x (by rw [hargs]; simp)
    have hy := hp y (by rw [hargs]; simp)
    have ha : cl.args = #[x, y] := by rw [← Array.toArray_toList (xs := cl.args), hargs]
    split at hk
    · rename_i k m k' n hxx hyy
      rw [hxx] at hx
      rw [hyy] at hy
      have hxv := rv_int hx
      have hyv := rv_int hy
      refine pure_wp hn h hk ?_ (.d (.int _ _))
      unfold execOp
      simp only [ho]
      simp [resolve, hc, ha, invoke, builtin, Builtin.max_, hxv, hyv, Builtin.max2]
    · exact hk.elim
  · exact hk.elim

theorem sound_min {c : Cx} {ρ : Operand → AV} {cl : Call} (ho : o.op = .call cl) (hc : cl.callee = .builtin .min) (h : MR B ι μ w)
    (hp : ∀ x ∈ cl.args.toList, RV w (imm B ι μ) ι μ (ρ x) (a.eval x)) (hk : opw1 c ρ μ o K) (hn : Nxt B ι μ w o a K next) : o.wp P a w next Q := by
  unfold opw1 at hk
  rw [ho] at hk
  simp only [hc] at hk
  split at hk
  · rename_i x y hargs
    have hx := hp x (by rw [hargs]; simp)
    have hy := hp y (by rw [hargs]; simp)
    have ha : cl.args = #[x, y] := by rw [← Array.toArray_toList (xs := cl.args), hargs]
    split at hk
    · rename_i k m k' n hxx hyy
      rw [hxx] at hx
      rw [hyy] at hy
      have hxv := rv_int hx
      have hyv := rv_int hy
      refine pure_wp hn h hk ?_ (.d (.int _ _))
      unfold execOp
      simp only [ho]
      simp [resolve, hc, ha, invoke, builtin, Builtin.min_, hxv, hyv, Builtin.min2]
    · exact hk.elim
  · exact hk.elim
end
end Go.KM
end
section
/- The K machine: each operation does what the machine says (8): all of them. -/
namespace Go.KM
open Go

variable {P : Program}
section
variable {B : Base} {ι : Idm} {μ : Mm} {w : World} {o : Oper} {a : Act} {next : Act → World → Prop} {Q : Exit → Act → World → Prop} {K : AV → Mem → List Nat → Prop}

/-- Operands are told by the slots. -/
theorem rv_operand {im : Imm} {fr : Fr} (hv : ∀ t, RV w im ι μ (getF fr t) (a.tmps.getD t undef)) (x : Operand) : RV w im ι μ (evO fr x) (a.eval x) := by
  cases x with
  | tmp t => exact hv t
  | func f => exact .fn f
  | global g => exact .any _
  | const v =>
    show RV w im ι μ (ofConst v) v
    unfold ofConst
    split
    · exact .d (.int _ _)
    · exact .d (.bool _)
    · exact .d (.str _)
    · exact .nils
    · exact .nilp
    · exact .any _

theorem op1_sound {G : GW} (hg : G.ok w) (hlow : ∀ i b, ι i = some b → G.low ≤ b) {c : Cx} (hT : TabOk P c.tab) (hC : ∀ f as F r F', c.C f as F r F' → Con P G f as F r F') {ρ : Operand → AV} (h : MR B ι μ w)
    (hr : ∀ x, RV w (imm B ι μ) ι μ (ρ x) (a.eval x)) (hk : opw1 c ρ μ o K) (hn : Nxt B ι μ w o a K next) : o.wp P a w next Q := by
  have hk0 := hk
  unfold opw1 at hk
  split at hk
  · rename_i ho; exact sound_move (c := c) (.inl ho) h (hr _) hk0 hn
  · rename_i ho; exact sound_move (c := c) (.inr ho) h (hr _) hk0 hn
  · rename_i ho; exact sound_binOp ho h (hr _) (hr _) hk hn
  · rename_i ho; exact sound_unOp (c := c) ho h (hr _) hk0 hn
  · rename_i ho; exact sound_pick (c := c) ho h (hr _) (hr _) (hr _) hk0 hn
  · rename_i ho; exact sound_convert hT ho h (hr _) hk0 hn
  · rename_i ho; exact sound_box (c := c) ho h (hr _) hk0 hn
  · rename_i ho; exact sound_alloc hT ho h hk0 hn
  · rename_i ho; exact sound_load hT ho h (hr _) hk0 hn
  · rename_i ho; exact sound_fieldAddr hT ho h (hr _) hk0 hn
  · rename_i ho; exact sound_indexAddr hT ho h (hr _) (hr _) hk0 hn
  · rename_i ho; exact sound_index hT ho h (hr _) (hr _) hk0 hn
  · rename_i ho; exact sound_store hT ho h (hr _) (hr _) hk0 hn
  · rename_i ho; exact sound_extract (c := c) ho h (hr _) hk0 hn
  · rename_i ho; exact sound_nilCheck (c := c) ho h (hr _) hk0 hn
  · rename_i ho; exact sound_build hT ho h (fun _ _ => hr _) hk0 hn
  · rename_i ho; exact sound_buildSlice hT ho h (fun _ _ => hr _) hk0 hn
  · rename_i ho; exact sound_makeSlice hT ho h (hr _) (hr _) hk0 hn
  · rename_i ho; exact sound_slice hT ho h (hr _) (fun _ _ => hr _) (fun _ _ => hr _) hk0 hn
  · rename_i ho; exact sound_makeInterface hT ho h (hr _) hk0 hn
  · rename_i cl ho
    split at hk
    · rename_i hc; exact sound_len hT ho hc h (fun _ _ => hr _) hk0 hn
    · rename_i hc; exact sound_append hT ho hc h (fun _ _ => hr _) hk0 hn
    · rename_i hc; exact sound_copy hT ho hc h (fun _ _ => hr _) hk0 hn
    · rename_i hc; exact sound_max (c := c) ho hc h (fun _ _ => hr _) hk0 hn
    · rename_i hc; exact sound_min (c := c) ho hc h (fun _ _ => hr _) hk0 hn
    · rename_i hc; exact sound_call hg hlow hC ho hc h (hr _) (fun _ _ => hr _) hk0 hn
    · exact hk.elim
  · exact hk.elim

end
end Go.KM
end
