/- The law StepStands of the given program answers true for every input.  Part 3 of 10: K141, K142, K15, K16, K17, K18, K19. -/
import Derived.Test.YtdiojmcleapkdaaGreatDoorM2
import Derived.Laws.BytesArg
set_option linter.all false
section
/- The K machine: arrays, structs compared, calls behind interfaces, closures: what is asked of the program; soundness. -/
namespace Go.KM
open Go

/-- A struct of so many numbers. -/
structure EqOk (P : Program) (t : TypeId) (n : Nat) : Prop where
  fields : ∃ fs : List Field, P.underlying t = some (.struct fs.toArray) ∧ fs.length = n ∧ ∀ i (h : i < fs.length), (fs[i]).name ≠ "_" ∧ (fs[i]).offset = i ∧ ∃ k, P.underlying (fs[i]).type = some (.int k)
  held : P.stoodInHeld t = false
  guard : P.eqGuardType P.depth t = false
structure MethOk (P : Program) (t : TypeId) (s : String) (f : FuncId) : Prop where
  row : ∃ j m, P.info? t = some j ∧ j.methods.find? (·.name == s) = some m ∧ m.path = #[] ∧ m.func = some (f, false)
  desc : ∃ d, P.underlying t = some d ∧ (match d with | .pointer _ => False | _ => True)
structure ExOk (P : Program) (c : Cx) : Prop where
  eqs : ∀ t n, c.eqs t = some n → EqOk P t n
  meth : ∀ t s f, c.meth t s = some f → MethOk P t s f

abbrev Pairs := List (IntKind × Int × Int)
def allEq : Pairs → Bool
  | [] => true
  | (_, a, b) :: r => a == b && allEq r
theorem intsK_spec {as : List AV} : ∀ {bs : List AV} {K : Bool → Prop}, intsK as bs K → ∃ l : Pairs, K (allEq l) ∧ as = l.map (fun c => .d (.int c.1 c.2.1)) ∧ bs = l.map (fun c => .d (.int c.1 c.2.2)) := by
  induction as with
  | nil =>
    intro bs K h
    cases bs with
    | nil => exact ⟨[], h, rfl, rfl⟩
    | cons b r => exact h.elim
  | cons a r ih =>
    intro bs K h
    unfold intsK at h
    split at h
    · rename_i e; cases e
    · rename_i k m r' k' n s e1
      injection e1 with e1 e2
      subst e1; subst e2
      split at h
      · rename_i e
        have e := of_decide_eq_true e
        subst e
        obtain ⟨l, h1, h2, h3⟩ := ih h
        exact ⟨(k, m, n) :: l, h1, by simp [h2], by simp [h3]⟩
      · exact h.elim
    · exact h.elim
section
variable {P : Program} {w : World}
theorem run_part_int {t : TypeId} {k : IntKind} (h : P.underlying t = some (.int k)) {cs : Array Value} {off : Nat} {v : Value} (hc : cs[off]? = some v) : (part t cs off).run P w = .ok v w := by
  unfold part isAgg
  simp [run_underlying h, hc]
theorem equal_ints {t : TypeId} {n : Nat} (he : EqOk P t n) {l : Pairs} (hl : l.length = n) :
    (Op.equal t (.agg (l.map (fun c => Value.int c.1 c.2.1)).toArray) (.agg (l.map (fun c => Value.int c.1 c.2.2)).toArray)).run P w = .ok (allEq l) w := by
  obtain ⟨fs, h1, h2, h3⟩ := he.fields
  unfold Op.equal Op.maxDepth
  rw [show (10000 : Nat) = 9999 + 1 from rfl, Op.equalIn]
  rw [Sem.run_bind, run_underlying h1]
  simp [he.held]
  have key : ∀ (gs : List Field) (j : Nat), gs = fs.drop j → (Sem.run P
          (forIn gs ((none : Option Bool), ()) fun f __s =>
            if f.name = "_" then pure (ForInStep.yield ((none : Option Bool), ()))
            else do
              let __do_lift ← part f.type (List.map (fun c : IntKind × Int × Int => Value.int c.fst c.snd.fst) l).toArray f.offset
              let __do_lift_1 ← part f.type (List.map (fun c : IntKind × Int × Int => Value.int c.fst c.snd.snd) l).toArray f.offset
              let __do_lift ← Op.equalIn 9999 f.type __do_lift __do_lift_1
              if __do_lift = false then pure (ForInStep.done (some false, ())) else pure (ForInStep.yield (none, ())))
          w) = .ok (if allEq (l.drop j) = true then none else some false, ()) w := by
    intro gs
    induction gs with
    | nil =>
      intro j hj
      have : fs.length ≤ j := by
        have := congrArg List.length hj
        simp at this
        omega
      rw [List.drop_eq_nil_of_le (by omega)]
      simp [allEq]
    | cons f gs ih =>
      intro j hj
      have hlt : j < fs.length := by
        have := congrArg List.length hj
        simp at this
        omega
      rw [List.drop_eq_getElem_cons hlt] at hj
      injection hj with e1 e2
      have hlt2 : j < l.length := by omega
      obtain ⟨g1, g2, k, g3⟩ := h3 j hlt
      rw [← e1] at g1 g2 g3
      rw [List.drop_eq_getElem_cons hlt2]
      have p1 := run_part_int (w := w) g3 (cs := (List.map (fun c : IntKind × Int × Int => Value.int c.fst c.snd.fst) l).toArray) (off := f.offset) (v := .int (l[j]).1 (l[j]).2.1) (by simp [g2, hlt2])
      have p2 := run_part_int (w := w) g3 (cs := (List.map (fun c : IntKind × Int × Int => Value.int c.fst c.snd.snd) l).toArray) (off := f.offset) (v := .int (l[j]).1 (l[j]).2.2) (by simp [g2, hlt2])
      have p3 : (Op.equalIn 9999 f.type (.int (l[j]).1 (l[j]).2.1) (.int (l[j]).1 (l[j]).2.2)).run P w = .ok ((l[j]).2.1 == (l[j]).2.2) w := by
        rw [show (9999 : Nat) = 9998 + 1 from rfl, Op.equalIn, Sem.run_bind, run_underlying g3]
        simp
      rw [List.forIn_cons]
      simp only [if_neg g1, Sem.run_bind, p1, p2, p3, Result.andThen]
      cases hb : ((l[j]).2.1 == (l[j]).2.2)
      · simp [allEq, hb]
      · simp only [Bool.true_eq_false, if_false, Sem.run_pure, Result.andThen]
        rw [ih (j + 1) e2]
        simp [allEq, hb]
  rw [key fs 0 rfl, List.drop_zero]
  cases allEq l <;> simp
end
section
variable {P : Program} {B : Base} {ι : Idm} {μ : Mm} {w : World} {o : Oper} {a : Act} {next : Act → World → Prop} {Q : Exit → Act → World → Prop} {K : AV → Mem → List Nat → Prop}

theorem rv_pairs {im : Imm} {l : Pairs} (g : IntKind × Int × Int → Int) {v : Value} (h : RV w im ι μ (.agg (l.map fun c => .d (.int c.1 (g c)))) v) : v = .agg (l.map fun c => Value.int c.1 (g c)).toArray := by
  cases h with
  | agg hl h1 hv =>
    rename_i vs
    congr 2
    refine List.ext_getElem (by simpa using hl.symm) fun i h2 h3 => ?_
    have := hv i (by simpa using h3) h2
    rw [List.getElem_map] at this ⊢
    exact rv_int this
theorem isBool_spec {tab : Tab} {t : Nat} (h : isBool tab t = true) : ∃ i, tab t = some i ∧ i.td = .bool := by
  unfold isBool at h
  split at h
  · rename_i s b z e; exact ⟨_, e, rfl⟩
  · cases h
theorem equal_bools {t : TypeId} (h : P.underlying t = some .bool) (x y : Bool) : (Op.equal t (.bool x) (.bool y)).run P w = .ok (x == y) w := by
  unfold Op.equal Op.maxDepth
  rw [show (10000 : Nat) = 9999 + 1 from rfl, Op.equalIn, Sem.run_bind, run_underlying h]
  simp
theorem soundX_eq {c : Cx} (hT : TabOk P c.tab) (hE : ExOk P c) {ρ : Operand → AV} {op : BinOp} {t t' : TypeId} {x y : Operand} (ho : o.op = .binOp op t x y t') (h : MR B ι μ w)
    (hx : RV w (imm B ι μ) ι μ (ρ x) (a.eval x)) (hy : RV w (imm B ι μ) ι μ (ρ y) (a.eval y)) (hk : opx c ρ μ o K) (hn : Nxt B ι μ w o a K next) : o.wp P a w next Q := by
  unfold opx at hk
  rw [ho] at hk
  simp only at hk
  split at hk
  · rename_i x1 y1 hn1 hxx hyy
    rw [hxx] at hx
    rw [hyy] at hy
    have v1 := rv_bool hx
    have v2 := rv_bool hy
    split at hk
    · rename_i hb
      obtain ⟨i, hi, hd⟩ := isBool_spec hb
      have hd2 := (hT t i hi).desc
      rw [hd] at hd2
      have hq := equal_bools (w := w) hd2 x1 y1
      refine pure_wp hn h hk (run_binOper ho (by rw [v1, v2]; unfold eqGuard; rfl) ?_) (.d (.bool _))
      rw [v1, v2]
      simp [binOp, hq]
    · rename_i hb
      obtain ⟨i, hi, hd⟩ := isBool_spec hb
      have hd2 := (hT t i hi).desc
      rw [hd] at hd2
      have hq := equal_bools (w := w) hd2 x1 y1
      refine pure_wp hn h hk (run_binOper ho (by rw [v1, v2]; unfold eqGuard; rfl) ?_) (.d (.bool _))
      rw [v1, v2]
      simp [binOp, hq, bne]
    · exact hk.elim
  · rename_i n as bs hn1 hxx hyy
    rw [hxx] at hx
    rw [hyy] at hy
    split at hk
    · rename_i hlen
      rw [Bool.and_eq_true] at hlen
      have hl1 := Nat.eq_of_beq_eq_true hlen.1
      have he := hE.eqs t n hn1
      split at hk
      · obtain ⟨l, hk2, e1, e2⟩ := intsK_spec hk
        subst e1; subst e2
        have v1 := rv_pairs (fun c => c.2.1) hx
        have v2 := rv_pairs (fun c => c.2.2) hy
        have hq := equal_ints (w := w) he (l := l) (by simpa using hl1)
        refine pure_wp hn h hk2 (run_binOper ho (by rw [v1, v2]; unfold eqGuard; simp [he.guard]) ?_) (.d (.bool _))
        rw [v1, v2]
        simp [binOp, hq]
      · obtain ⟨l, hk2, e1, e2⟩ := intsK_spec hk
        subst e1; subst e2
        have v1 := rv_pairs (fun c => c.2.1) hx
        have v2 := rv_pairs (fun c => c.2.2) hy
        have hq := equal_ints (w := w) he (l := l) (by simpa using hl1)
        refine pure_wp hn h hk2 (run_binOper ho (by rw [v1, v2]; unfold eqGuard; simp [he.guard]) ?_) (.d (.bool _))
        rw [v1, v2]
        simp [binOp, hq]
      · obtain ⟨l, hk2, e1, e2⟩ := intsK_spec hk
        exact hk2.elim
    · exact hk.elim
  · exact hk.elim

theorem el_new {d n : Nat} {xs : List (List D)} {l : Bool} {w' : World} {im : Imm} (hn : xs.length = n) :
    RV w' im (updI ι d w.heap.size) (upd1 μ d (.row 1 xs l)) (.el d 0 0 1 n) (.pointer (some ⟨w.heap.size, 0, none⟩)) := by
  have := RV.el (w := w') (im := im) (ι := updI ι d w.heap.size) (μ := upd1 μ d (.row 1 xs l)) (id := d) (i := 0) (off := 0) (c := 1) (len := n) (b := w.heap.size) (upd1_same _ _ _) (by omega) (fun _ => ⟨by simp [updI], rfl⟩)
  simpa using this
theorem byteArr_spec {tab : Tab} {t n : Nat} (h : byteArr tab t = some n) : ∃ e s b z s2 b2 z2, tab t = some ⟨.array n e, s, b, z⟩ ∧ tab e = some ⟨.int .u8, s2, b2, z2⟩ := by
  unfold byteArr at h
  split at h
  · rename_i m e s b z h1
    split at h
    · rename_i s2 b2 z2 h2
      injection h with h
      subst h
      exact ⟨e, s, b, z, s2, b2, z2, h1, h2⟩
    · cases h
  · cases h

theorem soundX_alloc {c : Cx} (hT : TabOk P c.tab) (hB : ∀ t n i, byteArr c.tab t = some n → c.tab t = some i → i.zero = List.replicate n (.d (.int .u8 0))) {ρ : Operand → AV} {t : TypeId} (ho : o.op = .alloc t) (h : MR B ι μ w)
    (hk : opx c ρ μ o K) (hn : Nxt B ι μ w o a K next) : o.wp P a w next Q := by
  unfold opx at hk
  rw [ho] at hk
  simp only at hk
  split at hk
  · rename_i d n hd hb
    split at hk
    · rename_i hmu
      obtain ⟨e, s, b, zz, s2, b2, z2, h1, h2⟩ := byteArr_spec hb
      have hti := hT t _ h1
      obtain ⟨z, hz, hl, hv⟩ := run_zero hti w
      have hzz := hB t n _ hb h1
      simp only at hzz hl hv
      subst hzz
      rw [List.length_replicate] at hl
      have hf : (List.replicate n [D.int .u8 0]).flatten = List.replicate n (D.int .u8 0) := by
        clear hl hv hb h1 hk hti
        induction n with
        | zero => rfl
        | succ n ih => rw [List.replicate_succ, List.flatten_cons, ih]; rfl
      have htn := Turn.alloc h hmu (.row 1 (List.replicate n [.int .u8 0]) false) z.cells t ⟨by rw [hf, List.length_replicate]; omega, fun x hx => by rw [(List.mem_replicate.1 hx).2]; rfl, fun m h5 h6 => by
        have h7 := (hv m (by simpa using (by rw [← hl] at h6; exact h6)) h6).rv w (imm B ι μ) ι μ
        simp only [hf, List.getElem_replicate]
        rw [List.getElem_replicate] at h7
        cases h7.2 with | d hd => exact hd⟩
      refine value_wp (w' := w.alloc (.cells z.cells t)) (val := .pointer (some ⟨w.heap.size, 0, none⟩)) ?_ (hn _ _ _ _ _ _ hk (by rw [updM_one]; exact htn) (by rw [updM_one]; exact el_new (by simp)))
      unfold execOp
      simp only [ho]
      simp [Instr.alloc, hz, newVar, newRow]
    · exact hk.elim
  · exact hk.elim

theorem soundX_build {c : Cx} (hT : TabOk P c.tab) {ρ : Operand → AV} {t : TypeId} {ps : Array (Nat × Operand)} (ho : o.op = .build t ps) (h : MR B ι μ w)
    (hp : ∀ p ∈ ps.toList, RV w (imm B ι μ) ι μ (ρ p.2) (a.eval p.2)) (hk : opx c ρ μ o K) (hn : Nxt B ι μ w o a K next) : o.wp P a w next Q := by
  unfold opx at hk
  rw [ho] at hk
  simp only at hk
  split at hk
  · rename_i n e s1 s2 z ht
    have hti := hT t _ ht
    have h1 := hti.desc
    simp only at h1
    obtain ⟨j, hj1, hj2, hj3, zv, hz1, hz2, hz3⟩ := hti.info
    split at hk
    · rename_i ei he
      have hei := hT e _ he
      obtain ⟨cs', hk, cur', hf, hb⟩ := parts_spec (place := fun i => some (i * ei.size, ei.size)) (fs := (List.range n).map fun i => (i * ei.size, e)) (tab := c.tab) (fun i off t' ti hi ht' => by
        rw [List.getElem?_map] at hi
        obtain ⟨k, hk1, hk2⟩ := Option.map_eq_some_iff.1 hi
        injection hk2 with e1 e2
        subst e2
        rw [he] at ht'
        injection ht' with ht'
        subst ht'
        have : k = i := by
          have := List.getElem?_eq_some_iff.1 hk1
          obtain ⟨h7, h8⟩ := this
          simpa using h8.symm
        rw [← e1, this]) hp (cur := zv.cells) ⟨hz2.symm, fun m h6 h7 => (hz3 m h6 h7).rv _ _ _ _⟩ hk
      obtain ⟨hb1, hb2⟩ := hb
      refine pure_wp hn h hk (val := .agg cur') ?_ ?_
      · unfold execOp
        simp only [ho]
        simp [Instr.build, zeroValue, typeInfo, hj1, hz1, run_underlying h1, run_sizeOf hei, hf]
      · have := RV.agg (w := w) (im := imm B ι μ) (ι := ι) (μ := μ) (cs := cs') (vs := cur'.toList) (by simp [hb1]) (fun v hv => by
            obtain ⟨m, hm, e⟩ := List.getElem_of_mem hv
            have := (hb2 m (by simp at hm; omega) (by simpa using hm)).1
            rw [← e]
            simpa using this) (fun m h6 h7 => by simpa using (hb2 m h6 (by simpa using h7)).2)
        simpa using this
    · exact hk.elim
  · exact hk.elim
end
end Go.KM
end
section
/- The K machine: the other operations, the rest; all of them. -/
namespace Go.KM
open Go

section
variable {P : Program} {B : Base} {ι : Idm} {μ : Mm} {w : World} {o : Oper} {a : Act} {next : Act → World → Prop} {Q : Exit → Act → World → Prop} {K : AV → Mem → List Nat → Prop}

theorem agg_val {im : Imm} {cs : List AV} {v : Value} (h : RV w im ι μ (.agg cs) v) : ∃ vs : List Value, v = .agg vs.toArray ∧ cs.length = vs.length ∧ (∀ v ∈ vs, one v) ∧ ∀ m (h1 : m < cs.length) (h2 : m < vs.length), RV w im ι μ (cs[m]'h1) (vs[m]'h2) := by
  cases h with | agg hl h1 hv => exact ⟨_, rfl, hl, h1, hv⟩
theorem el_val {im : Imm} {id i off c len : Nat} {v : Value} (h : RV w im ι μ (.el id i off c len) v) : ∃ b c' xs l, μ id = some (.row c' xs l) ∧ len ≤ xs.length ∧ (xs.length = len → ι id = some b ∧ c' = c) ∧ v = .pointer (some ⟨b, i * c + off, none⟩) := by
  cases h with | el hl hle h => exact ⟨_, _, _, _, hl, hle, h, rfl⟩

theorem soundX_index {c : Cx} (hT : TabOk P c.tab) {ρ : Operand → AV} {t : TypeId} {x y : Operand} (ho : o.op = .index t x y) (h : MR B ι μ w)
    (hx : RV w (imm B ι μ) ι μ (ρ x) (a.eval x)) (hy : RV w (imm B ι μ) ι μ (ρ y) (a.eval y)) (hk : opx c ρ μ o K) (hn : Nxt B ι μ w o a K next) : o.wp P a w next Q := by
  unfold opx at hk
  rw [ho] at hk
  simp only at hk
  split at hk
  · rename_i n e s1 s2 z cs k i ht hxx hyy
    rw [hxx] at hx
    rw [hyy] at hy
    obtain ⟨vs, hv, hl, h1, hvs⟩ := agg_val hx
    have hyv := rv_int hy
    have hd := (hT t _ ht).desc
    simp only at hd
    split at hk
    · rename_i ei he
      have hei := hT e _ he
      obtain ⟨⟨h0, hlt⟩, hk⟩ := hk
      obtain ⟨h2, hk⟩ := dropK_spec hk
      have hrun : ∀ val, (part e vs.toArray (i.toNat * ei.size)).run P w = .ok val w → (execOp a.eval o).run P w = .ok (.value val) w := by
        intro val hp
        unfold execOp
        simp only [ho, hv, hyv]
        simp [Instr.index, asIntOf, run_underlying hd, h0, hlt, run_sizeOf hei, hp]
      split at hk
      · rename_i hs
        obtain ⟨h3, hk⟩ := takeK_spec hk
        refine pure_wp hn h hk (hrun (.agg ((vs.drop (i.toNat * ei.size)).take ei.size).toArray) ?_) (.agg (by simp; omega) (fun v hv => h1 v (List.mem_of_mem_drop (List.mem_of_mem_take hv))) (fun m h4 h5 => ?_))
        · unfold part
          rw [Sem.run_bind, run_isAgg hei, hs]
          simp [run_sizeOf hei, List.extract_eq_take_drop]
        · simp only [List.getElem_take, List.getElem_drop]
          exact hvs _ _ _
      · rename_i hs
        obtain ⟨h3, hk⟩ := takeK_spec hk
        have hlt2 : i.toNat * ei.size < cs.length := by simp at h3; omega
        have e1 : (cs.drop (i.toNat * ei.size)).take 1 = [cs[i.toNat * ei.size]] := by
          rw [List.drop_eq_getElem_cons hlt2]; rfl
        rw [e1] at hk
        simp only [frc_eq] at hk
        refine pure_wp hn h hk (hrun (vs[i.toNat * ei.size]'(by omega)) ?_) (hvs _ _ _)
        unfold part
        rw [Sem.run_bind, run_isAgg hei, hs]
        have : i.toNat * ei.size < vs.length := by omega
        simp [this]
    · exact hk.elim
  · exact hk.elim

theorem soundX_indexAddr {c : Cx} (hT : TabOk P c.tab) {ρ : Operand → AV} {t : TypeId} {x y : Operand} (ho : o.op = .indexAddr t x y) (h : MR B ι μ w)
    (hx : RV w (imm B ι μ) ι μ (ρ x) (a.eval x)) (hy : RV w (imm B ι μ) ι μ (ρ y) (a.eval y)) (hk : opx c ρ μ o K) (hn : Nxt B ι μ w o a K next) : o.wp P a w next Q := by
  unfold opx at hk
  rw [ho] at hk
  simp only at hk
  split at hk
  · rename_i n e s1 s2 z id off k i ht hxx hyy
    rw [hxx] at hx
    rw [hyy] at hy
    obtain ⟨⟨cs0, hcs0⟩, b, hb, hv⟩ := addr_val hx
    have hyv := rv_int hy
    have hd := (hT t _ ht).desc
    simp only at hd
    split at hk
    · rename_i ei he
      have hei := hT e _ he
      obtain ⟨⟨h0, hlt⟩, hk⟩ := hk
      refine pure_wp hn h hk (val := .pointer (some ⟨b, off + i.toNat * ei.size, none⟩)) ?_ (.addr ⟨cs0, hcs0⟩ hb)
      unfold execOp
      simp only [ho, hv, hyv]
      simp [Instr.indexAt, asIntOf, run_underlying hd, h0, hlt, run_sizeOf hei, Instr.sureAddr, add_addr]
    · exact hk.elim
  · rename_i n e s1 s2 z id len k i ht hxx hyy
    rw [hxx] at hx
    rw [hyy] at hy
    obtain ⟨b, c', xs, l, hm, hle, hb, hv⟩ := el_val hx
    have hyv := rv_int hy
    have hd := (hT t _ ht).desc
    simp only at hd
    split at hk
    · rename_i ei he
      have hei := hT e _ he
      split at hk
      · rename_i hq
        rw [Bool.and_eq_true] at hq
        have q1 := Nat.eq_of_beq_eq_true hq.1
        have q2 := Nat.eq_of_beq_eq_true hq.2
        obtain ⟨⟨h0, hlt⟩, hk⟩ := hk
        refine pure_wp hn h hk (val := .pointer (some ⟨b, i.toNat * 1 + 0, none⟩)) ?_ (.el hm hle hb)
        unfold execOp
        simp only [ho, hv, hyv]
        simp [Instr.indexAt, asIntOf, run_underlying hd, h0, hlt, run_sizeOf hei, Instr.sureAddr, add_addr, q2]
      · exact hk.elim
    · exact hk.elim
  · exact hk.elim

theorem soundX_slice {c : Cx} (hT : TabOk P c.tab) {ρ : Operand → AV} {t : TypeId} {x : Operand} {lo hi mx : Option Operand} (ho : o.op = .slice t x lo hi mx) (h : MR B ι μ w)
    (hx : RV w (imm B ι μ) ι μ (ρ x) (a.eval x)) (hk : opx c ρ μ o K) (hn : Nxt B ι μ w o a K next) : o.wp P a w next Q := by
  have hk0 : lo = none ∧ hi = none ∧ mx = none := by
    cases lo with
    | some _ => unfold opx at hk; rw [ho] at hk; exact hk.elim
    | none => cases hi with
      | some _ => unfold opx at hk; rw [ho] at hk; exact hk.elim
      | none => cases mx with
        | some _ => unfold opx at hk; rw [ho] at hk; exact hk.elim
        | none => exact ⟨rfl, rfl, rfl⟩
  obtain ⟨rfl, rfl, rfl⟩ := hk0
  unfold opx at hk
  rw [ho] at hk
  simp only at hk
  split at hk
  · rename_i n e s1 s2 z id len ht hxx
    rw [hxx] at hx
    obtain ⟨b, c', xs, l, hm, hle, hb, hv⟩ := el_val hx
    have hd := (hT t _ ht).desc
    simp only at hd
    split at hk
    · rename_i ei hq he
      have hei := hT e _ he
      have q1 := Nat.eq_of_beq_eq_true hq
      split at hk
      · rename_i hq2
        have q2 := Nat.eq_of_beq_eq_true hq2
        refine pure_wp hn h hk (val := .slice (some ⟨b, 0, none⟩) len len) ?_ (.own hm hle (Nat.le_refl _) (fun e => ?_))
        · unfold execOp
          simp only [ho, hv]
          have ha : ∀ (A : Addr), A.add 0 = A := fun A => by unfold Addr.add; split <;> simp_all
          simp [Instr.sliceAt, run_underlying hd, run_sizeOf hei, Instr.sureAddr, Instr.sliceBounds, q1, ha]
        · obtain ⟨g1, g2⟩ := hb e
          obtain ⟨g, vs, T, h1, h2, h3, h4, h5⟩ := h.blks id _ hm
          rw [g1] at h1
          injection h1 with h1
          subst h1
          refine ⟨g1, g2, vs, T, h2, ?_⟩
          have := flat_len h4
          rw [g2] at this
          omega
      · exact hk.elim
    · exact hk.elim
  · exact hk.elim

theorem bytesK_spec {ys : List (List D)} : ∀ {K : List UInt8 → Prop}, bytesK ys K → ∃ ns : List Int, K (ns.map fun n => UInt8.ofNat n.toNat) ∧ ys = ns.map fun n => [.int .u8 n] := by
  induction ys with
  | nil => intro K h; exact ⟨[], h, rfl⟩
  | cons y r ih =>
    intro K h
    unfold bytesK at h
    split at h
    · rename_i e; cases e
    · rename_i n r' e
      injection e with e1 e2
      subst e1; subst e2
      obtain ⟨ns, h1, h2⟩ := ih h
      exact ⟨n :: ns, h1, by simp [h2]⟩
    · exact h.elim
theorem foldl_push (l : List UInt8) (s : ByteArray) : l.foldl (fun r b => r.push b) s = ⟨s.data ++ l.toArray⟩ := by
  induction l generalizing s with
  | nil => simp
  | cons b r ih => rw [List.foldl_cons, ih]; simp [ByteArray.push]

theorem flat_bytes (ns : List Int) : (ns.map fun n => [D.int .u8 n]).flatten = ns.map fun n => D.int .u8 n := by
  induction ns with
  | nil => rfl
  | cons n r ih => rw [List.map_cons, List.flatten_cons, ih]; rfl
theorem rd_int {im : Imm} {k : IntKind} {n : Int} {v : Value} (h : Rd w im (.int k n) v) : v = .int k n := by cases h; rfl
theorem soundX_convert {c : Cx} (hT : TabOk P c.tab) {ρ : Operand → AV} {s t : TypeId} {x : Operand} (ho : o.op = .convert s t x) (h : MR B ι μ w)
    (hx : RV w (imm B ι μ) ι μ (ρ x) (a.eval x)) (hk : opx c ρ μ o K) (hn : Nxt B ι μ w o a K next) : o.wp P a w next Q := by
  unfold opx at hk
  rw [ho] at hk
  simp only at hk
  split at hk
  · rename_i e s1 s2 z s3 s4 z2 hs ht
    split at hk
    · rename_i s5 s6 z3 he
      have ds := (hT s _ hs).desc
      have dt := (hT t _ ht).desc
      have de := (hT e _ he).desc
      simp only at ds dt de
      have hsl : ∃ p n cap, a.eval x = .slice p n cap := by
        generalize a.eval x = v at hx
        unfold tailK at hk
        split at hk
        · rename_i e; rw [e] at hx; cases hx with | d hr => cases hr <;> exact ⟨_, _, _, rfl⟩
        · rename_i e; rw [e] at hx; cases hx; exact ⟨_, _, _, rfl⟩
        · rename_i e; rw [e] at hx; cases hx; exact ⟨_, _, _, rfl⟩
        · exact hk.elim
      obtain ⟨ys, tt, hk, hlen, hfirst⟩ := tail_spec (P := P) h hx hk
      obtain ⟨ns, hk2, hys⟩ := bytesK_spec hk
      subst hys
      refine pure_wp hn h hk2 (val := .string ⟨(ns.map fun n => UInt8.ofNat n.toNat).toArray⟩) ?_ (.d (.str _))
      obtain ⟨news, hnl, hnr, _, hnd⟩ := hfirst 1 (fun z hz => by obtain ⟨n, _, rfl⟩ := List.mem_map.1 hz; rfl) (ns.map fun n => [D.int .u8 n]).length (Nat.le_refl _)
      have hflat : ((ns.map fun n => [D.int .u8 n]).take (ns.map fun n => [D.int .u8 n]).length).flatten = ns.map fun n => D.int .u8 n := by
        rw [List.take_length]
        exact flat_bytes ns
      have hnews : news = ns.map fun n => Value.int .u8 n := by
        refine List.ext_getElem (by simpa using hnl) fun m h1 h2 => ?_
        have := hnd m (by rw [hflat]; simpa using h2) h1
        simp only [hflat, List.getElem_map] at this ⊢
        exact rd_int this
      subst hnews
      rw [List.length_map] at hnr hlen
      have hlen2 := hlen w
      unfold execOp
      simp only [ho]
      obtain ⟨p, n, cap, hsl⟩ := hsl
      rw [hsl] at hlen2 hnr ⊢
      · have hn1 : n = ns.length := by simpa [Builtin.lenOf] using hlen2
        subst hn1
        have hn2 := hnr w rfl
        have hcs : (convert s t (.slice p ns.length cap)).run P w = (Conv.bytesToString (.slice p ns.length cap)).run P w := by
          unfold convert
          simp [run_underlying ds, run_underlying dt, run_underlying de]
        simp only [Sem.run_bind, hcs]
        cases p with
        | none =>
          have : ns = [] := by
            simp [Builtin.firstCells] at hn2
            exact hn2
          subst this
          simp [Conv.bytesToString]
          rfl
        | some ad =>
          have hl : (loadCells ad ns.length).run P w = .ok (ns.map fun n => Value.int .u8 n).toArray w := by simpa [Builtin.firstCells] using hn2
          rw [run_bytesToString w ad ns.length cap ns (by simpa using hl)]
          have : ns.foldl (fun r n => r.push (UInt8.ofNat n.toNat)) ByteArray.empty = ⟨(ns.map fun n => UInt8.ofNat n.toNat).toArray⟩ := by
            have := foldl_push (ns.map fun n => UInt8.ofNat n.toNat) ByteArray.empty
            rw [List.foldl_map] at this
            rw [this]
            simp
          simp [this]
    · exact hk.elim
  · exact hk.elim

theorem soundX_makeFunc {c : Cx} {ρ : Operand → AV} {fn : Fn} {first caps : Array Operand} (ho : o.op = .makeFunc fn first caps) (h : MR B ι μ w)
    (hp : ∀ x ∈ caps.toList, RV w (imm B ι μ) ι μ (ρ x) (a.eval x)) (hk : opx c ρ μ o K) (hn : Nxt B ι μ w o a K next) : o.wp P a w next Q := by
  unfold opx at hk
  rw [ho] at hk
  simp only at hk
  split at hk
  · rename_i f e
    rw [evK_eq] at hk
    have e : first = #[] := by cases first; simpa using e
    refine pure_wp hn h hk (val := .func (.func f) #[] (caps.toList.map a.eval).toArray) ?_ (.clo f (by simp) (fun m h1 h2 => ?_))
    · unfold execOp
      simp only [ho]
      have : caps.map a.eval = (caps.toList.map a.eval).toArray := by rw [← List.map_toArray, Array.toArray_toList]
      simp [Instr.makeFunc, e, this]
    · have := hp (caps.toList[m]'(by simpa using h1)) (List.getElem_mem _)
      rw [List.getElem_map, List.getElem_map]
      exact this
  · exact hk.elim

theorem soundX_invoke {G : GW} (hg : G.ok w) (hlow : ∀ i b, ι i = some b → G.low ≤ b) {c : Cx} (hE : ExOk P c) (hC : ∀ f as F r F', c.C f as F r F' → Con P G f as F r F') {ρ : Operand → AV} {cl : Call} (ho : o.op = .call cl) (h : MR B ι μ w)
    (hp : ∀ x ∈ o.op.operands.toList, RV w (imm B ι μ) ι μ (ρ x) (a.eval x)) (hk : opx c ρ μ o K) (hn : Nxt B ι μ w o a K next) : o.wp P a w next Q := by
  unfold opx at hk
  rw [ho] at hk
  simp only at hk
  split at hk
  · rename_i x name hc
    have hx := hp x (by simp [ho, Op.operands, Call.operands, hc])
    have hpa : ∀ y ∈ cl.args.toList, RV w (imm B ι μ) ι μ (ρ y) (a.eval y) := fun y hy => hp y (by
      simp only [ho, Op.operands, Call.operands]
      simp [Array.mem_toList_iff.1 hy])
    split at hk
    · rename_i t v hxx
      rw [hxx] at hx
      generalize hv : a.eval x = val at hx
      cases hx with
      | iface hr =>
        rename_i vv
        split at hk
        · rename_i f hm
          obtain ⟨⟨j, m, m1, m2, m3, m4⟩, d, d1, d2⟩ := hE.meth t name f hm
          rw [evK_eq] at hk
          have hargs : (cl.args.toList.map a.eval).toArray = cl.args.map a.eval := by rw [← List.map_toArray, Array.toArray_toList]
          refine vcall_sound hg hlow hC h (vals := vv :: cl.args.toList.map a.eval) (by simp) (fun m h1 h2 => ?_) (fun hco => ?_) hk hn
          · cases m with
            | zero => exact hr
            | succ m => exact args_rv hpa m (by simpa using h1) (by simpa using h2)
          · have hmeth : (method (P.types.size + Made.depth) t vv name).run P w = .ok (f, vv) w := by
              have : P.types.size + Made.depth = (P.types.size + (Made.depth - 1)) + 1 := by
                have : 0 < Made.depth := by decide
                omega
              rw [this]
              unfold method
              have hf : (follow [] t (.val vv)).run P w = .ok (t, .val vv) w := by unfold follow; rfl
              have hrec : ∀ n, (receiverAt t (.val vv) false n).run P w = .ok vv w := by
                intro n
                unfold receiverAt
                rw [Sem.run_bind, run_underlying d1]
                cases d <;> first | exact d2.elim | simp [Place.get]
              simp [typeInfo, m1, m2, m3, m4, hf, hrec]
            unfold execOp
            simp only [ho]
            have e0 : (#[Value.iface t vv] ++ cl.args.map a.eval)[0]? = some (.iface t vv) := by rw [Array.getElem?_append_left (by simp)]; rfl
            have e1 : (#[Value.iface t vv] ++ cl.args.map a.eval).extract 1 (#[Value.iface t vv] ++ cl.args.map a.eval).size = cl.args.map a.eval := by simp
            have e2 : #[vv] ++ cl.args.map a.eval = (vv :: cl.args.toList.map a.eval).toArray := by rw [← hargs]; simp
            simp only [resolve, hc, hv, Sem.run_bind, Sem.run_pure, Result.andThen_ok, invoke, e0, e1, callMethod]
            simp only [Sem.run_bind, run_program, Result.andThen_ok, hmeth]
            rw [e2, callFunc_run hco]
        · exact hk.elim
    · exact hk.elim
  · exact hk.elim

/-- What is asked of the program beside its types. -/
structure ByOk (c : Cx) : Prop where
  zero : ∀ t n i, byteArr c.tab t = some n → c.tab t = some i → i.zero = List.replicate n (.d (.int .u8 0))

theorem opx_sound {G : GW} (hg : G.ok w) (hlow : ∀ i b, ι i = some b → G.low ≤ b) {c : Cx} (hT : TabOk P c.tab) (hE : ExOk P c) (hB : ByOk c) (hC : ∀ f as F r F', c.C f as F r F' → Con P G f as F r F') {ρ : Operand → AV} (h : MR B ι μ w)
    (hr : ∀ x, RV w (imm B ι μ) ι μ (ρ x) (a.eval x)) (hk : opx c ρ μ o K) (hn : Nxt B ι μ w o a K next) : o.wp P a w next Q := by
  have hk0 := hk
  unfold opx at hk
  split at hk
  · rename_i ho; exact soundX_eq hT hE ho h (hr _) (hr _) hk0 hn
  · rename_i ho; exact soundX_alloc hT hB.zero ho h hk0 hn
  · rename_i ho; exact soundX_build hT ho h (fun _ _ => hr _) hk0 hn
  · rename_i ho; exact soundX_index hT ho h (hr _) (hr _) hk0 hn
  · rename_i ho; exact soundX_indexAddr hT ho h (hr _) (hr _) hk0 hn
  · rename_i ho; exact soundX_slice hT ho h (hr _) hk0 hn
  · rename_i ho; exact soundX_convert hT ho h (hr _) hk0 hn
  · rename_i ho; exact soundX_makeFunc (c := c) ho h (fun _ _ => hr _) hk0 hn
  · rename_i ho; exact soundX_invoke hg hlow hE hC ho h (fun _ _ => hr _) hk0 hn
  · exact hk.elim
theorem op_sound {G : GW} (hg : G.ok w) (hlow : ∀ i b, ι i = some b → G.low ≤ b) {c : Cx} (hT : TabOk P c.tab) (hE : ExOk P c) (hB : ByOk c) (hC : ∀ f as F r F', c.C f as F r F' → Con P G f as F r F') {ρ : Operand → AV} (h : MR B ι μ w)
    (hr : ∀ x, RV w (imm B ι μ) ι μ (ρ x) (a.eval x)) (hk : opw c ρ μ o K) (hn : Nxt B ι μ w o a K next) : o.wp P a w next Q := by
  unfold opw at hk
  split at hk
  · exact op1_sound hg hlow hT hC h hr hk hn
  · exact opx_sound hg hlow hT hE hB hC h hr hk hn
end
end Go.KM
end
section
/- The K machine: an operation hangs on its operands and on the memory that it names, and has one outcome. -/
namespace Go.KM
open Go

theorem cellsK_loc {a : AV} {K : List AV → Prop} (h : cellsK a K) : ∃ cs, K cs ∧ ∀ K' : List AV → Prop, K' cs → cellsK a K' := by
  cases a <;> simp only [cellsK] at h ⊢ <;> first | exact ⟨_, h, fun _ h => h⟩ | exact h.elim
theorem takeK_loc {α : Type} {n : Nat} {l : List α} {K : List α → Prop} (h : takeK n l K) : ∃ cs, K cs ∧ ∀ K' : List α → Prop, K' cs → takeK n l K' := by
  obtain ⟨h1, h2⟩ := takeK_spec h
  exact ⟨_, h2, fun _ h => takeK_of h1 h⟩
theorem dropK_loc {α : Type} {n : Nat} {l : List α} {K : List α → Prop} (h : dropK n l K) : ∃ cs, K cs ∧ ∀ K' : List α → Prop, K' cs → dropK n l K' := by
  induction n generalizing l with
  | zero => exact ⟨_, h, fun _ h => h⟩
  | succ n ih => cases l with
    | nil => exact h.elim
    | cons x r => exact ih h
theorem overK_loc {l : List AV} {n : Nat} {vs : List AV} {K : List AV → Prop} (h : overK l n vs K) : ∃ cs, K cs ∧ ∀ K' : List AV → Prop, K' cs → overK l n vs K' := by
  induction l generalizing n vs K with
  | nil => cases n <;> cases vs <;> simp only [overK] at h ⊢ <;> first | exact ⟨_, h, fun _ h => h⟩ | exact h.elim
  | cons x r ih => cases n with
    | zero => cases vs with
      | nil => exact ⟨_, h, fun _ h => h⟩
      | cons v vs =>
        obtain ⟨cs, h1, h2⟩ := ih (n := 0) (vs := vs) h
        exact ⟨_, h1, fun K' h => h2 _ h⟩
    | succ n =>
      obtain ⟨cs, h1, h2⟩ := ih (n := n) (vs := vs) h
      exact ⟨_, h1, fun K' h => h2 _ h⟩
theorem exS_loc {sh : List AV} : ∀ {K : List D → Prop}, exS sh K → ∃ ds, K ds ∧ ∀ K' : List D → Prop, K' ds → exS sh K' := by
  induction sh with
  | nil => intro K h; exact ⟨_, h, fun _ h => h⟩
  | cons x r ih =>
    intro K h
    unfold exS at h
    split at h
    · cases ‹_ = _›
    all_goals first
      | (rename_i e
         cases e
         obtain ⟨n, h⟩ := h
         obtain ⟨ds, h1, h2⟩ := ih h
         exact ⟨_, h1, fun K' h => ⟨n, h2 _ h⟩⟩)
      | exact h.elim
theorem frc_loc {a : AV} {K : AV → Prop} (h : frc a K) : K a ∧ ∀ K' : AV → Prop, K' a → frc a K' := by
  rw [frc_eq] at h
  exact ⟨h, fun K' h => by rw [frc_eq]; exact h⟩

section
variable {μ : Mm} {K : D → Mem → List Nat → Prop}
theorem lendK_loc {a : AV} (h : lendK μ a K) : ∃ x u t, K x u t ∧ ∀ (μ' : Mm) (K' : D → Mem → List Nat → Prop), (∀ i ∈ t, μ' i = μ i) → K' x u t → lendK μ' a K' := by
  unfold lendK at h
  split at h
  · exact ⟨_, _, _, h, fun _ _ _ h => h⟩
  · exact ⟨_, _, _, h, fun _ _ _ h => h⟩
  · rename_i id len cc
    split at h
    · rename_i c' xs l e
      obtain ⟨hc, h⟩ := h
      refine ⟨_, _, _, h, fun μ' K' hm h => ?_⟩
      unfold lendK
      simp only [hm id (List.mem_singleton.2 rfl), e]
      exact ⟨hc, h⟩
    · exact h.elim
  · exact h.elim
end
theorem lendsK_loc {μ : Mm} {as : List AV} : ∀ {K : List D → Mem → List Nat → Prop}, lendsK μ as K → ∃ x u t, K x u t ∧ ∀ (μ' : Mm) (K' : List D → Mem → List Nat → Prop), (∀ i ∈ t, μ' i = μ i) → K' x u t → lendsK μ' as K' := by
  induction as with
  | nil => intro K h; exact ⟨_, _, _, h, fun _ _ _ h => h⟩
  | cons a r ih =>
    intro K h
    obtain ⟨x, u, t, h, h1⟩ := lendK_loc (show lendK μ a _ from h)
    obtain ⟨x', u', t', h, h2⟩ := ih h
    exact ⟨_, _, _, h, fun μ' K' hm h => h1 μ' _ (fun i hi => hm i (List.mem_append_left _ hi)) (h2 μ' _ (fun i hi => hm i (List.mem_append_right _ hi)) h)⟩
theorem cellA_loc {μ : Mm} {dom : List Nat} {a : AV} {K : AV → Mem → List Nat → Prop} (h : cellA μ dom a K) :
    ∃ x u t, K x u t ∧ ∀ (μ' : Mm) (K' : AV → Mem → List Nat → Prop), (∀ i ∈ t, μ' i = μ i) → K' x u t → cellA μ' dom a K' := by
  cases a
  case own id len c =>
    simp only [cellA] at h
    split at h
    · rename_i e
      exact ⟨_, _, _, h, fun μ' K' _ h => by simp only [cellA, e]; exact h⟩
    · rename_i e
      obtain ⟨x, u, t, h, h1⟩ := lendK_loc h
      exact ⟨_, _, _, h, fun μ' K' hm h => by simp only [cellA, e]; exact h1 μ' _ hm h⟩
  case addr id off =>
    simp only [cellA] at h
    split at h
    · rename_i e
      exact ⟨_, _, _, h, fun μ' K' _ h => by simp only [cellA, e]; exact h⟩
    · exact h.elim
  case fn f => exact ⟨_, _, _, h, fun μ' K' _ h => h⟩
  all_goals
    simp only [cellA] at h ⊢
    obtain ⟨x, u, t, h, h1⟩ := lendK_loc h
    exact ⟨_, _, _, h, fun μ' K' hm h => h1 μ' _ hm h⟩
theorem cellsA_loc {μ : Mm} {dom : List Nat} {as : List AV} : ∀ {K : List AV → Mem → List Nat → Prop}, cellsA μ dom as K →
    ∃ x u t, K x u t ∧ ∀ (μ' : Mm) (K' : List AV → Mem → List Nat → Prop), (∀ i ∈ t, μ' i = μ i) → K' x u t → cellsA μ' dom as K' := by
  induction as with
  | nil => intro K h; exact ⟨_, _, _, h, fun _ _ _ h => h⟩
  | cons a r ih =>
    intro K h
    obtain ⟨x, u, t, h, h1⟩ := cellA_loc (show cellA μ dom a _ from h)
    obtain ⟨x', u', t', h, h2⟩ := ih h
    exact ⟨_, _, _, h, fun μ' K' hm h => h1 μ' _ (fun i hi => hm i (List.mem_append_left _ hi)) (h2 μ' _ (fun i hi => hm i (List.mem_append_right _ hi)) h)⟩
theorem argA_loc {μ : Mm} {dom : List Nat} {a : AV} {K : AV → Mem → List Nat → Prop} (h : argA μ dom a K) :
    ∃ x u t, K x u t ∧ ∀ (μ' : Mm) (K' : AV → Mem → List Nat → Prop), (∀ i ∈ t, μ' i = μ i) → K' x u t → argA μ' dom a K' := by
  cases a
  case agg cs =>
    obtain ⟨x, u, t, h, h1⟩ := cellsA_loc (show cellsA μ dom cs _ from h)
    exact ⟨_, _, _, h, fun μ' K' hm h => h1 μ' _ hm h⟩
  all_goals
    simp only [argA] at h ⊢
    exact cellA_loc h
theorem argsA_loc {μ : Mm} {dom : List Nat} {as : List AV} : ∀ {K : List AV → Mem → List Nat → Prop}, argsA μ dom as K →
    ∃ x u t, K x u t ∧ ∀ (μ' : Mm) (K' : List AV → Mem → List Nat → Prop), (∀ i ∈ t, μ' i = μ i) → K' x u t → argsA μ' dom as K' := by
  induction as with
  | nil => intro K h; exact ⟨_, _, _, h, fun _ _ _ h => h⟩
  | cons a r ih =>
    intro K h
    obtain ⟨x, u, t, h, h1⟩ := argA_loc (show argA μ dom a _ from h)
    obtain ⟨x', u', t', h, h2⟩ := ih h
    exact ⟨_, _, _, h, fun μ' K' hm h => h1 μ' _ (fun i hi => hm i (List.mem_append_left _ hi)) (h2 μ' _ (fun i hi => hm i (List.mem_append_right _ hi)) h)⟩

theorem partsK_loc {tab : Tab} {ρ : Operand → AV} {fs : List (Nat × Nat)} {ps : List (Nat × Operand)} : ∀ {cs : List AV} {K : List AV → Prop}, partsK tab ρ fs ps cs K →
    ∃ cs', K cs' ∧ ∀ (ρ' : Operand → AV) (K' : List AV → Prop), (∀ p ∈ ps, ρ' p.2 = ρ p.2) → K' cs' → partsK tab ρ' fs ps cs K' := by
  induction ps with
  | nil => intro cs K h; exact ⟨_, h, fun _ _ _ h => h⟩
  | cons p r ih =>
    obtain ⟨i, x⟩ := p
    intro cs K h
    unfold partsK at h
    split at h
    · rename_i o t e1
      split at h
      · rename_i ti e2
        obtain ⟨vs, h, h1⟩ := cellsK_loc h
        split at h
        · rename_i e3
          obtain ⟨cs2, h, h2⟩ := overK_loc h
          obtain ⟨cs', h, h3⟩ := ih h
          refine ⟨cs', h, fun ρ' K' hr h => ?_⟩
          unfold partsK
          simp only [e1, e2]
          rw [hr _ (List.mem_cons_self ..)]
          refine h1 _ ?_
          simp only [e3]
          exact h2 _ (h3 ρ' K' (fun p hp => hr p (List.mem_cons_of_mem _ hp)) h)
        · exact h.elim
      · exact h.elim
    · exact h.elim
theorem elemsK_loc {μ : Mm} {ρ : Operand → AV} {c : Nat} {ps : List (Nat × Operand)} : ∀ {n : Nat} {K : List (List D) → Mem → List Nat → Prop}, elemsK μ ρ c ps n K →
    ∃ x u t, K x u t ∧ ∀ (ρ' : Operand → AV) (μ' : Mm) (K' : List (List D) → Mem → List Nat → Prop), (∀ p ∈ ps, ρ' p.2 = ρ p.2) → (∀ i ∈ t, μ' i = μ i) → K' x u t → elemsK μ' ρ' c ps n K' := by
  induction ps with
  | nil => intro n K h; exact ⟨_, _, _, h, fun _ _ _ _ _ h => h⟩
  | cons p r ih =>
    obtain ⟨i, x⟩ := p
    intro n K h
    unfold elemsK at h
    split at h
    · rename_i e1
      obtain ⟨vs, h, h1⟩ := cellsK_loc h
      obtain ⟨ds, u, t, h, h2⟩ := lendsK_loc h
      split at h
      · rename_i e2
        obtain ⟨x', u', t', h, h3⟩ := ih h
        refine ⟨_, _, _, h, fun ρ' μ' K' hr hm h => ?_⟩
        unfold elemsK
        simp only [e1]
        rw [hr _ (List.mem_cons_self ..)]
        refine h1 _ (h2 μ' _ (fun i hi => hm i (List.mem_append_left _ hi)) ?_)
        simp only [e2]
        exact h3 ρ' μ' _ (fun p hp => hr p (List.mem_cons_of_mem _ hp)) (fun i hi => hm i (List.mem_append_right _ hi)) h
      · exact h.elim
    · exact h.elim
theorem bin_loc {op : BinOp} {k : IntKind} {a b : Int} {K : AV → Prop} (h : bin op k a b K) : ∃ v, K v ∧ ∀ K' : AV → Prop, K' v → bin op k a b K' := by
  cases op <;> simp only [bin] at h ⊢ <;> first
    | exact ⟨_, h, fun _ h => h⟩
    | (obtain ⟨hc, h⟩ := h; exact ⟨_, h, fun _ h => ⟨hc, h⟩⟩)
theorem binop_loc {op : BinOp} {x y : AV} {K : AV → Prop} (h : binop op x y K) : ∃ v, K v ∧ ∀ K' : AV → Prop, K' v → binop op x y K' := by
  unfold binop at h
  split at h
  · obtain ⟨hc, h⟩ := h; exact ⟨_, h, fun _ h => ⟨hc, h⟩⟩
  · obtain ⟨hc, h⟩ := h; exact ⟨_, h, fun _ h => ⟨hc, h⟩⟩
  · rename_i op' k m k' n h1 h2
    split at h
    · rename_i e
      obtain ⟨v, h, h3⟩ := bin_loc h
      refine ⟨v, h, fun K' h => ?_⟩
      cases op' <;> first
        | (simp only [binop, e]; exact h3 _ h)
        | simp at h1
        | simp at h2
    · exact h.elim
  · exact ⟨_, h, fun _ h => h⟩
  · exact ⟨_, h, fun _ h => h⟩
  · obtain ⟨hc, h⟩ := h; exact ⟨_, h, fun _ h => ⟨hc, h⟩⟩
  · exact h.elim
theorem tailK_loc {μ : Mm} {v : AV} {K : List (List D) → List Nat → Prop} (h : tailK μ v K) : ∃ ys tt, K ys tt ∧ ∀ (μ' : Mm) (K' : List (List D) → List Nat → Prop), (∀ i ∈ tt, μ' i = μ i) → K' ys tt → tailK μ' v K' := by
  unfold tailK at h
  split at h
  · exact ⟨_, _, h, fun _ _ _ h => h⟩
  · exact ⟨_, _, h, fun _ _ _ h => h⟩
  · rename_i id len cc
    split at h
    · rename_i e
      obtain ⟨hc, h⟩ := h
      refine ⟨_, _, h, fun μ' K' hm h => ?_⟩
      unfold tailK
      simp only [hm id (List.mem_singleton.2 rfl), e]
      exact ⟨hc, h⟩
    · exact h.elim
  · exact h.elim
end Go.KM
end
section
/- The K machine: an operation hangs on its operands and on the memory that it names: all operations. -/
namespace Go.KM
open Go

theorem haveM_loc {μ μ' : Mm} {F : Mem} (hm : ∀ i ∈ ids F, μ' i = μ i) (h : haveM μ F) : haveM μ' F := haveM_imp hm h
theorem newM_loc {μ μ' : Mm} {F : Mem} : ∀ {F' : Mem}, (∀ i ∈ ids F', μ' i = μ i) → newM μ F F' → newM μ' F F'
  | [], _, h => h
  | (i, b) :: r, hm, h => by
    refine ⟨?_, newM_loc (fun j hj => hm j (List.mem_cons_of_mem _ hj)) h.2⟩
    rw [hm i (List.mem_cons_self ..)]
    exact h.1
theorem vcall_loc {μ : Mm} {C : List AV → Mem → AV → Mem → Prop} {raw : List AV} {K : AV → Mem → List Nat → Prop} (h : VCall μ C raw K) :
    ∃ v u t, K v u t ∧ ∀ (μ' : Mm) (K' : AV → Mem → List Nat → Prop), (∀ i ∈ t, μ' i = μ i) → K' v u t → VCall μ' C raw K' := by
  obtain ⟨F, r, F', D, hF, hok, hnew, hsub, hnd, hnd', hD, hDn, h⟩ := h
  obtain ⟨l, u, t, ⟨hc, h⟩, h1⟩ := argsA_loc h
  refine ⟨_, _, _, h, fun μ' K' hm h => ?_⟩
  refine .mkD F r F' D (haveM_loc (fun i hi => hm i (by simp [hi])) hF) hok (newM_loc (fun i hi => hm i (by simp [hi])) hnew) hsub hnd hnd' hD hDn ?_
  exact h1 μ' _ (fun i hi => hm i (by simp [hi])) ⟨hc, h⟩

section
variable {c : Cx} {ρ : Operand → AV} {μ : Mm} {o : Oper} {K : AV → Mem → List Nat → Prop}

/-- The outcome of an operation: from the same operands and memory the same. -/
def Loc1 (c : Cx) (ρ : Operand → AV) (μ : Mm) (o : Oper) (v : AV) (u : Mem) (t : List Nat) : Prop :=
  ∀ (ρ' : Operand → AV) (μ' : Mm) (K' : AV → Mem → List Nat → Prop), (∀ x ∈ o.op.operands.toList, ρ' x = ρ x) → (∀ i ∈ t, μ' i = μ i) → K' v u t → opw1 c ρ' μ' o K'

theorem opw1_loc (hk : opw1 c ρ μ o K) : ∃ v u t, K v u t ∧ Loc1 c ρ μ o v u t := by
  unfold opw1 at hk
  split at hk
  -- move, assign
  · rename_i ho
    obtain ⟨h, h1⟩ := frc_loc hk
    exact ⟨_, _, _, h, fun ρ' μ' K' hr _ h => by unfold opw1; simp only [ho]; rw [hr _ (by simp [ho, Op.operands])]; exact h1 (fun v => K' v [] []) h⟩
  · rename_i ho
    obtain ⟨h, h1⟩ := frc_loc hk
    exact ⟨_, _, _, h, fun ρ' μ' K' hr _ h => by unfold opw1; simp only [ho]; rw [hr _ (by simp [ho, Op.operands])]; exact h1 (fun v => K' v [] []) h⟩
  -- binOp
  · rename_i ho
    obtain ⟨v, h, h1⟩ := binop_loc hk
    exact ⟨_, _, _, h, fun ρ' μ' K' hr _ h => by
      unfold opw1; simp only [ho]; rw [hr _ (by simp [ho, Op.operands]), hr _ (by simp [ho, Op.operands])]; exact h1 (fun v => K' v [] []) h⟩
  -- unOp
  · rename_i ho
    split at hk
    · rename_i e
      exact ⟨_, _, _, hk, fun ρ' μ' K' hr _ h => by unfold opw1; simp only [ho]; rw [hr _ (by simp [ho, Op.operands])]; simp only [e]; exact h⟩
    · rename_i e
      exact ⟨_, _, _, hk, fun ρ' μ' K' hr _ h => by unfold opw1; simp only [ho]; rw [hr _ (by simp [ho, Op.operands])]; simp only [e]; exact h⟩
    · exact hk.elim
  -- pick
  · rename_i b x y ho
    split at hk
    · rename_i bv e
      obtain ⟨hk1, hk2⟩ := hk
      cases bv
      · obtain ⟨h, h1⟩ := frc_loc (hk2 rfl)
        exact ⟨_, _, _, h, fun ρ' μ' K' hr _ h => by
          unfold opw1; simp only [ho]
          rw [hr b (by simp [ho, Op.operands])]; simp only [e]
          exact .no rfl (by rw [hr y (by simp [ho, Op.operands])]; exact h1 (fun v => K' v [] []) h)⟩
      · obtain ⟨h, h1⟩ := frc_loc (hk1 rfl)
        exact ⟨_, _, _, h, fun ρ' μ' K' hr _ h => by
          unfold opw1; simp only [ho]
          rw [hr b (by simp [ho, Op.operands])]; simp only [e]
          exact .yes rfl (by rw [hr x (by simp [ho, Op.operands])]; exact h1 (fun v => K' v [] []) h)⟩
    · exact hk.elim
  -- convert
  · rename_i ho
    split at hk
    · rename_i e1 e2 e3
      exact ⟨_, _, _, hk, fun ρ' μ' K' hr _ h => by unfold opw1; simp only [ho]; rw [hr _ (by simp [ho, Op.operands])]; simp only [e1, e2, e3]; exact h⟩
    · exact hk.elim
  -- box
  · rename_i ho
    split at hk
    · rename_i d e1
      split at hk
      · rename_i e2
        obtain ⟨cs, h, h1⟩ := cellsK_loc hk
        exact ⟨_, _, _, h, fun ρ' μ' K' hr hm h => by
          unfold opw1; simp only [ho]; rw [hr _ (by simp [ho, Op.operands])]; simp only [e1, hm d (by simp), e2]; exact h1 (fun cs => K' (.addr d 0) [(d, .box cs)] [d]) h⟩
      · exact hk.elim
    · exact hk.elim
  -- alloc
  · rename_i ho
    split at hk
    · rename_i d i e1 e2
      split at hk
      · rename_i e3
        exact ⟨_, _, _, hk, fun ρ' μ' K' hr hm h => by unfold opw1; simp only [ho, e1, e2, hm d (by simp), e3]; exact h⟩
      · exact hk.elim
    · exact hk.elim
  -- load
  · rename_i t x ho
    split at hk
    · rename_i i id off e1 e2
      split at hk
      · rename_i cs e3
        split at hk
        · rename_i e4
          obtain ⟨cs1, hk, h1⟩ := dropK_loc hk
          obtain ⟨cs2, hk, h2⟩ := takeK_loc hk
          refine ⟨_, _, _, hk, fun ρ' μ' K' hr hm h => ?_⟩
          unfold opw1; simp only [ho]; rw [hr _ (by simp [ho, Op.operands])]; simp only [e1, e2, hm id (by simp), e3, e4]
          exact h1 _ (h2 _ h)
        · rename_i e4
          obtain ⟨cs1, hk, h1⟩ := dropK_loc hk
          obtain ⟨cs2, hk, h2⟩ := takeK_loc hk
          split at hk
          · rename_i v
            obtain ⟨hk, h3⟩ := frc_loc hk
            refine ⟨_, _, _, hk, fun ρ' μ' K' hr hm h => ?_⟩
            unfold opw1; simp only [ho]; rw [hr _ (by simp [ho, Op.operands])]; simp only [e1, e2, hm id (by simp), e3, e4]
            refine h1 _ (h2 _ ?_)
            exact h3 (fun v => K' v [] [id]) h
          · exact hk.elim
      · exact hk.elim
    · rename_i i cs e1 e2
      split at hk
      · rename_i e4
        obtain ⟨cs1, hk, h1⟩ := takeK_loc hk
        rw [mapdK_eq] at hk
        refine ⟨_, _, _, hk, fun ρ' μ' K' hr hm h => ?_⟩
        unfold opw1; simp only [ho]; rw [hr _ (by simp [ho, Op.operands])]; simp only [e1, e2, e4]
        refine h1 _ ?_
        rw [mapdK_eq]
        exact h
      · rename_i e4
        split at hk
        · refine ⟨_, _, _, hk, fun ρ' μ' K' hr hm h => ?_⟩
          unfold opw1; simp only [ho]; rw [hr _ (by simp [ho, Op.operands])]; simp only [e1, e2, e4]
          exact h
        · exact hk.elim
    · rename_i i id j off c' len e1 e2
      split at hk
      · rename_i c'' xs l e3
        obtain ⟨hc, h0, hk⟩ := hk
        obtain ⟨es, ⟨hx, hk⟩, h1⟩ := exS_loc hk
        split at hk
        · rename_i e4
          rw [mapdK_eq] at hk
          obtain ⟨cs1, hk, h2⟩ := dropK_loc hk
          obtain ⟨cs2, hk, h3⟩ := takeK_loc hk
          refine ⟨_, _, _, hk, fun ρ' μ' K' hr hm h => ?_⟩
          unfold opw1; simp only [ho]; rw [hr _ (by simp [ho, Op.operands])]; simp only [e1, e2, hm id (by simp), e3]
          refine ⟨hc, h0, h1 _ ⟨hx, ?_⟩⟩
          simp only [e4, mapdK_eq]
          exact h2 _ (h3 _ h)
        · rename_i e4
          obtain ⟨cs1, hk, h2⟩ := dropK_loc hk
          split at hk
          · refine ⟨_, _, _, hk, fun ρ' μ' K' hr hm h => ?_⟩
            unfold opw1; simp only [ho]; rw [hr _ (by simp [ho, Op.operands])]; simp only [e1, e2, hm id (by simp), e3]
            refine ⟨hc, h0, h1 _ ⟨hx, ?_⟩⟩
            simp only [e4]
            exact h2 _ h
          · exact hk.elim
      · exact hk.elim
    · exact hk.elim
  -- fieldAddr
  · rename_i ho
    split at hk
    · rename_i e1 e2
      split at hk
      · rename_i e3
        exact ⟨_, _, _, hk, fun ρ' μ' K' hr _ h => by unfold opw1; simp only [ho]; rw [hr _ (by simp [ho, Op.operands])]; simp only [e1, e2, e3]; exact h⟩
      · exact hk.elim
    · rename_i e1 e2
      split at hk
      · rename_i e3
        obtain ⟨cs1, hk, h2⟩ := dropK_loc hk
        exact ⟨_, _, _, hk, fun ρ' μ' K' hr _ h => by unfold opw1; simp only [ho]; rw [hr _ (by simp [ho, Op.operands])]; simp only [e1, e2, e3]; exact h2 _ h⟩
      · exact hk.elim
    · exact hk.elim
  -- indexAddr
  · rename_i ho
    split at hk
    · rename_i e1 e2 e3
      split at hk
      · rename_i e4
        obtain ⟨h0, hk⟩ := hk
        obtain ⟨es, ⟨hx, hk⟩, h1⟩ := exS_loc hk
        exact ⟨_, _, _, hk, fun ρ' μ' K' hr _ h => by
          unfold opw1; simp only [ho]; rw [hr _ (by simp [ho, Op.operands]), hr _ (by simp [ho, Op.operands])]; simp only [e1, e2, e3, e4]; exact ⟨h0, h1 _ ⟨hx, h⟩⟩⟩
      · exact hk.elim
    · rename_i e1 e2 e3
      split at hk
      · rename_i e4
        split at hk
        · rename_i e5
          obtain ⟨h0, hk⟩ := hk
          exact ⟨_, _, _, hk, fun ρ' μ' K' hr _ h => by
            unfold opw1; simp only [ho]; rw [hr _ (by simp [ho, Op.operands]), hr _ (by simp [ho, Op.operands])]; simp only [e1, e2, e3, e4, e5]; exact ⟨h0, h⟩⟩
        · exact hk.elim
      · exact hk.elim
    · exact hk.elim
  -- index
  · rename_i ho
    split at hk
    · rename_i e1 e2 e3
      obtain ⟨h0, hk⟩ := hk
      exact ⟨_, _, _, hk, fun ρ' μ' K' hr _ h => by
        unfold opw1; simp only [ho]; rw [hr _ (by simp [ho, Op.operands]), hr _ (by simp [ho, Op.operands])]; simp only [e1, e2, e3]; exact ⟨h0, h⟩⟩
    · exact hk.elim
  -- store
  · rename_i t x y ho
    split at hk
    · rename_i i e1
      split at hk
      · rename_i id off e2
        split at hk
        · rename_i cs e3
          obtain ⟨vs, hk, h1⟩ := cellsK_loc hk
          split at hk
          · rename_i e4
            obtain ⟨cs', hk, h2⟩ := overK_loc hk
            refine ⟨_, _, _, hk, fun ρ' μ' K' hr hm h => ?_⟩
            unfold opw1; simp only [ho, e1]; rw [hr x (by simp [ho, Op.operands]), hr y (by simp [ho, Op.operands])]; simp only [e2, hm id (by simp), e3]
            refine h1 _ ?_
            simp only [e4]
            exact h2 _ h
          · exact hk.elim
        · exact hk.elim
      · rename_i id j off c' len e2
        split at hk
        · rename_i c'' xs l e3
          split at hk
          · obtain ⟨vs, hk, h1⟩ := cellsK_loc hk
            obtain ⟨ds, u, tt, hk, h2⟩ := lendsK_loc hk
            split at hk
            · rename_i e4
              obtain ⟨hc, hk⟩ := hk
              refine ⟨_, _, _, hk, fun ρ' μ' K' hr hm h => ?_⟩
              unfold opw1; simp only [ho, e1]; rw [hr x (by simp [ho, Op.operands]), hr y (by simp [ho, Op.operands])]; simp only [e2, hm id (by simp), e3]
              refine h1 _ (h2 μ' _ (fun i hi => hm i (List.mem_append_left _ hi)) ?_)
              simp only [e4]
              exact ⟨hc, h⟩
            · exact hk.elim
          · exact hk.elim
        · exact hk.elim
      · exact hk.elim
    · exact hk.elim
  -- extract
  · rename_i ho
    split at hk
    · rename_i e1
      split at hk
      · rename_i e2
        obtain ⟨h, h1⟩ := frc_loc hk
        exact ⟨_, _, _, h, fun ρ' μ' K' hr _ h => by unfold opw1; simp only [ho]; rw [hr _ (by simp [ho, Op.operands])]; simp only [e1, e2]; exact h1 (fun v => K' v [] []) h⟩
      · exact hk.elim
    · exact hk.elim
  -- nilCheck
  · rename_i ho
    split at hk
    · rename_i e1
      exact ⟨_, _, _, hk, fun ρ' μ' K' hr _ h => by unfold opw1; simp only [ho]; rw [hr _ (by simp [ho, Op.operands])]; simp only [e1]; exact h⟩
    · exact hk.elim
  -- build
  · rename_i ho
    split at hk
    · rename_i e1
      obtain ⟨cs, hk, h1⟩ := partsK_loc hk
      refine ⟨_, _, _, hk, fun ρ' μ' K' hr _ h => ?_⟩
      unfold opw1; simp only [ho, e1]
      exact h1 ρ' _ (fun p hp => hr _ (by simp only [ho, Op.operands]; exact List.mem_map.2 ⟨p, hp, rfl⟩)) h
    · exact hk.elim
  -- buildSlice
  · rename_i ho
    split at hk
    · rename_i d e s1 s2 z e1 e2
      split at hk
      · rename_i ei e3 e4
        split at hk
        · rename_i e5
          obtain ⟨es, u, tt, hk, h1⟩ := elemsK_loc hk
          refine ⟨_, _, _, hk, fun ρ' μ' K' hr hm h => ?_⟩
          unfold opw1; simp only [ho, e1, e2, e3, hm d (by simp), e4, e5]
          exact h1 ρ' μ' _ (fun p hp => hr _ (by simp only [ho, Op.operands]; exact List.mem_map.2 ⟨p, hp, rfl⟩)) (fun i hi => hm i (List.mem_append_left _ hi)) h
        · exact hk.elim
      · exact hk.elim
    · exact hk.elim
  -- makeSlice
  · rename_i ho
    split at hk
    · rename_i d e s1 s2 z n m e1 e2 e3 e4
      split at hk
      · rename_i ei e5 e6
        split at hk
        · rename_i zz e7
          obtain ⟨h0, hk⟩ := hk
          refine ⟨_, _, _, hk, fun ρ' μ' K' hr hm h => ?_⟩
          unfold opw1; simp only [ho]; rw [hr _ (by simp [ho, Op.operands]), hr _ (by simp [ho, Op.operands])]; simp only [e1, e2, e3, e4, e5, hm d (by simp), e6, e7]
          exact ⟨h0, h⟩
        · exact hk.elim
      · exact hk.elim
    · exact hk.elim
  -- slice
  · rename_i t x lo hi ho
    have hl : ∀ (ρ' : Operand → AV) (z : Int), (∀ x ∈ o.op.operands.toList, ρ' x = ρ x) → bnd ρ' lo z = bnd ρ lo z := fun ρ' z hr => by
      cases lo with
      | none => rfl
      | some a => exact hr a (by simp [ho, Op.operands])
    have hh : ∀ (ρ' : Operand → AV) (z : Int), (∀ x ∈ o.op.operands.toList, ρ' x = ρ x) → bnd ρ' hi z = bnd ρ hi z := fun ρ' z hr => by
      cases hi with
      | none => rfl
      | some a => exact hr a (by simp [ho, Op.operands])
    split at hk
    · rename_i xs e1
      split at hk
      · rename_i e s1 s2 z e2
        split at hk
        · rename_i ei k1 l k2 h e3 e4 e5
          obtain ⟨h0, hk⟩ := hk
          refine ⟨_, _, _, hk, fun ρ' μ' K' hr hm h => ?_⟩
          unfold opw1; simp only [ho]; rw [hr x (by simp [ho, Op.operands])]; simp only [e1, e2, hl ρ' _ hr, hh ρ' _ hr, e3, e4, e5]
          exact ⟨h0, h⟩
        · exact hk.elim
      · exact hk.elim
    · rename_i s e1
      split at hk
      · rename_i e2 e4 e5
        obtain ⟨h0, hk⟩ := hk
        refine ⟨_, _, _, hk, fun ρ' μ' K' hr hm h => ?_⟩
        unfold opw1; simp only [ho]; rw [hr x (by simp [ho, Op.operands])]; simp only [e1, e2, hl ρ' _ hr, hh ρ' _ hr, e4, e5]
        exact ⟨h0, h⟩
      · exact hk.elim
    · rename_i e1
      split at hk
      · rename_i e2 e4 e5
        split at hk
        · rename_i e3
          obtain ⟨h0, hk⟩ := hk
          refine ⟨_, _, _, hk, fun ρ' μ' K' hr hm h => ?_⟩
          unfold opw1; simp only [ho]; rw [hr x (by simp [ho, Op.operands])]; simp only [e1, e2, hl ρ' _ hr, hh ρ' _ hr, e4, e5, e3]
          exact ⟨h0, h⟩
        · exact hk.elim
      · exact hk.elim
    · exact hk.elim
  -- makeInterface
  · rename_i ho
    split at hk
    · rename_i e1
      obtain ⟨h, h1⟩ := frc_loc hk
      exact ⟨_, _, _, h, fun ρ' μ' K' hr _ h => by unfold opw1; simp only [ho]; rw [hr _ (by simp [ho, Op.operands])]; simp only [e1]; exact h1 _ h⟩
    · exact hk.elim
  -- call
  · rename_i cl ho
    have ha : ∀ (ρ' : Operand → AV), (∀ x ∈ o.op.operands.toList, ρ' x = ρ x) → ∀ x ∈ cl.args.toList, ρ' x = ρ x := fun ρ' hr x hx => hr x (by
      simp only [ho, Op.operands, Call.operands]
      simp [Array.mem_toList_iff.1 hx])
    split at hk
    · rename_i hc
      split at hk
      · rename_i x t e1 e2
        have hx : ∀ (ρ' : Operand → AV), (∀ x ∈ o.op.operands.toList, ρ' x = ρ x) → ρ' x = ρ x := fun ρ' hr => ha ρ' hr x (by rw [e1]; exact List.mem_singleton.2 rfl)
        split at hk
        · rename_i e3 e4
          exact ⟨_, _, _, hk, fun ρ' μ' K' hr _ h => by unfold opw1; simp only [ho, hc, e1, e2]; rw [hx ρ' hr]; simp only [e3, e4]; exact h⟩
        · rename_i e3 e4
          exact ⟨_, _, _, hk, fun ρ' μ' K' hr _ h => by unfold opw1; simp only [ho, hc, e1, e2]; rw [hx ρ' hr]; simp only [e3, e4]; exact h⟩
        · rename_i e3 e4
          exact ⟨_, _, _, hk, fun ρ' μ' K' hr _ h => by unfold opw1; simp only [ho, hc, e1, e2]; rw [hx ρ' hr]; simp only [e3, e4]; exact h⟩
        · rename_i e3 e4
          exact ⟨_, _, _, hk, fun ρ' μ' K' hr _ h => by unfold opw1; simp only [ho, hc, e1, e2]; rw [hx ρ' hr]; simp only [e3, e4]; exact h⟩
        · exact hk.elim
      · exact hk.elim
    · rename_i hc
      split at hk
      · rename_i x y t t' e1 e2
        have hx : ∀ (ρ' : Operand → AV), (∀ x ∈ o.op.operands.toList, ρ' x = ρ x) → ρ' x = ρ x ∧ ρ' y = ρ y := fun ρ' hr => ⟨ha ρ' hr x (by rw [e1]; simp), ha ρ' hr y (by rw [e1]; simp)⟩
        split at hk
        · rename_i e3 e4
          split at hk
          · rename_i ei e5
            split at hk
            · rename_i e6
              split at hk
              · rename_i d e7
                split at hk
                · rename_i e8
                  obtain ⟨ys, tt, ⟨h0, hk⟩, h1⟩ := tailK_loc hk
                  refine ⟨_, _, _, hk, fun ρ' μ' K' hr hm h => ?_⟩
                  unfold opw1; simp only [ho, hc, e1, e2, e3, e4, e5]; rw [(hx ρ' hr).1, (hx ρ' hr).2]; simp only [e6, e7, hm d (by simp), e8]
                  exact h1 μ' _ (fun i hi => hm i (List.mem_append_left _ hi)) ⟨h0, h⟩
                · exact hk.elim
              · exact hk.elim
            · rename_i id len c' e6
              split at hk
              · rename_i e7
                obtain ⟨ys, tt, ⟨h0, hk⟩, h1⟩ := tailK_loc hk
                refine ⟨_, _, _, hk, fun ρ' μ' K' hr hm h => ?_⟩
                unfold opw1; simp only [ho, hc, e1, e2, e3, e4, e5]; rw [(hx ρ' hr).1, (hx ρ' hr).2]; simp only [e6, hm id (by simp), e7]
                exact h1 μ' _ (fun i hi => hm i (List.mem_append_left _ hi)) ⟨h0, h⟩
              · exact hk.elim
            · exact hk.elim
          · exact hk.elim
        · exact hk.elim
      · exact hk.elim
    · rename_i hc
      split at hk
      · rename_i x y t t' e1 e2
        have hx : ∀ (ρ' : Operand → AV), (∀ x ∈ o.op.operands.toList, ρ' x = ρ x) → ρ' x = ρ x ∧ ρ' y = ρ y := fun ρ' hr => ⟨ha ρ' hr x (by rw [e1]; simp), ha ρ' hr y (by rw [e1]; simp)⟩
        split at hk
        · rename_i e3 e4
          split at hk
          · rename_i ei e5
            split at hk
            · rename_i id len c' e6
              split at hk
              · rename_i e7
                split at hk
                · obtain ⟨ys, tt, ⟨h0, hk⟩, h1⟩ := tailK_loc hk
                  refine ⟨_, _, _, hk, fun ρ' μ' K' hr hm h => ?_⟩
                  unfold opw1; simp only [ho, hc, e1, e2, e3, e4, e5]; rw [(hx ρ' hr).1, (hx ρ' hr).2]; simp only [e6, hm id (by simp), e7]
                  exact h1 μ' _ (fun i hi => hm i (List.mem_append_left _ hi)) ⟨h0, h⟩
                · exact hk.elim
              · exact hk.elim
            · exact hk.elim
          · exact hk.elim
        · exact hk.elim
      · exact hk.elim
    · rename_i hc
      split at hk
      · rename_i x y e1
        have hx : ∀ (ρ' : Operand → AV), (∀ x ∈ o.op.operands.toList, ρ' x = ρ x) → ρ' x = ρ x ∧ ρ' y = ρ y := fun ρ' hr => ⟨ha ρ' hr x (by rw [e1]; simp), ha ρ' hr y (by rw [e1]; simp)⟩
        split at hk
        · rename_i e3 e4
          exact ⟨_, _, _, hk, fun ρ' μ' K' hr hm h => by unfold opw1; simp only [ho, hc, e1]; rw [(hx ρ' hr).1, (hx ρ' hr).2]; simp only [e3, e4]; exact h⟩
        · exact hk.elim
      · exact hk.elim
    · rename_i hc
      split at hk
      · rename_i x y e1
        have hx : ∀ (ρ' : Operand → AV), (∀ x ∈ o.op.operands.toList, ρ' x = ρ x) → ρ' x = ρ x ∧ ρ' y = ρ y := fun ρ' hr => ⟨ha ρ' hr x (by rw [e1]; simp), ha ρ' hr y (by rw [e1]; simp)⟩
        split at hk
        · rename_i e3 e4
          exact ⟨_, _, _, hk, fun ρ' μ' K' hr hm h => by unfold opw1; simp only [ho, hc, e1]; rw [(hx ρ' hr).1, (hx ρ' hr).2]; simp only [e3, e4]; exact h⟩
        · exact hk.elim
      · exact hk.elim
    · rename_i f hc
      split at hk
      · rename_i f e1
        rw [evK_eq] at hk
        obtain ⟨v, u, t, h, h1⟩ := vcall_loc hk
        refine ⟨_, _, _, h, fun ρ' μ' K' hr hm h => ?_⟩
        unfold opw1; simp only [ho, hc]
        rw [hr _ (by simp [ho, Op.operands, Call.operands, hc])]
        simp only [e1]
        rw [evK_eq, List.map_congr_left (ha ρ' hr)]
        exact h1 μ' K' hm h
      · rename_i f caps e1
        rw [evK_eq] at hk
        obtain ⟨v, u, t, h, h1⟩ := vcall_loc hk
        refine ⟨_, _, _, h, fun ρ' μ' K' hr hm h => ?_⟩
        unfold opw1; simp only [ho, hc]
        rw [hr _ (by simp [ho, Op.operands, Call.operands, hc])]
        simp only [e1]
        rw [evK_eq, List.map_congr_left (ha ρ' hr)]
        exact h1 μ' K' hm h
      · exact hk.elim
    · exact hk.elim
  · exact hk.elim

/-- The outcome of an operation: from the same operands and memory the same. -/
def Loc (c : Cx) (ρ : Operand → AV) (μ : Mm) (o : Oper) (v : AV) (u : Mem) (t : List Nat) : Prop :=
  ∀ (ρ' : Operand → AV) (μ' : Mm) (K' : AV → Mem → List Nat → Prop), (∀ x ∈ o.op.operands.toList, ρ' x = ρ x) → (∀ i ∈ t, μ' i = μ i) → K' v u t → opw c ρ' μ' o K'
theorem intsK_loc {as : List AV} : ∀ {bs : List AV} {K : Bool → Prop}, intsK as bs K → ∃ e, K e ∧ ∀ K' : Bool → Prop, K' e → intsK as bs K' := by
  induction as with
  | nil =>
    intro bs K h
    cases bs with
    | nil => exact ⟨_, h, fun _ h => h⟩
    | cons b r => exact h.elim
  | cons x r ih =>
    intro bs K h
    unfold intsK at h
    split at h
    · rename_i e; cases e
    · rename_i k m r' k' n s e1
      injection e1 with e1 e2
      subst e1; subst e2
      split at h
      · rename_i e
        obtain ⟨b, h1, h2⟩ := ih h
        exact ⟨_, h1, fun K' h => by unfold intsK; simp only [e]; exact h2 _ h⟩
      · exact h.elim
    · exact h.elim
theorem bytesK_loc {ys : List (List D)} : ∀ {K : List UInt8 → Prop}, bytesK ys K → ∃ l, K l ∧ ∀ K' : List UInt8 → Prop, K' l → bytesK ys K' := by
  induction ys with
  | nil => intro K h; exact ⟨_, h, fun _ h => h⟩
  | cons y r ih =>
    intro K h
    unfold bytesK at h
    split at h
    · rename_i e; cases e
    · rename_i n r' e
      injection e with e1 e2
      subst e1; subst e2
      obtain ⟨l, h1, h2⟩ := ih h
      exact ⟨_, h1, fun K' h => h2 _ h⟩
    · exact h.elim
theorem opx_loc (hk : opx c ρ μ o K) : ∃ v u t, K v u t ∧ ∀ (ρ' : Operand → AV) (μ' : Mm) (K' : AV → Mem → List Nat → Prop), (∀ x ∈ o.op.operands.toList, ρ' x = ρ x) → (∀ i ∈ t, μ' i = μ i) → K' v u t → opx c ρ' μ' o K' := by
  unfold opx at hk
  split at hk
  · rename_i op t x y t' ho
    split at hk
    · rename_i x1 y1 e1 e2 e3
      split at hk
      · rename_i e4
        exact ⟨_, _, _, hk, fun ρ' μ' K' hr _ h => by
          unfold opx; simp only [ho]; rw [hr x (by simp [ho, Op.operands]), hr y (by simp [ho, Op.operands])]; simp only [e1, e2, e3, e4]; exact h⟩
      · rename_i e4
        exact ⟨_, _, _, hk, fun ρ' μ' K' hr _ h => by
          unfold opx; simp only [ho]; rw [hr x (by simp [ho, Op.operands]), hr y (by simp [ho, Op.operands])]; simp only [e1, e2, e3, e4]; exact h⟩
      · exact hk.elim
    · rename_i n as bs e1 e2 e3
      split at hk
      · rename_i e4
        split at hk
        · obtain ⟨e, hk, h1⟩ := intsK_loc hk
          exact ⟨_, _, _, hk, fun ρ' μ' K' hr _ h => by
            unfold opx; simp only [ho]; rw [hr x (by simp [ho, Op.operands]), hr y (by simp [ho, Op.operands])]; simp only [e1, e2, e3, e4]; exact h1 (fun e => K' (.d (.bool e)) [] []) h⟩
        · obtain ⟨e, hk, h1⟩ := intsK_loc hk
          exact ⟨_, _, _, hk, fun ρ' μ' K' hr _ h => by
            unfold opx; simp only [ho]; rw [hr x (by simp [ho, Op.operands]), hr y (by simp [ho, Op.operands])]; simp only [e1, e2, e3, e4]; exact h1 (fun e => K' (.d (.bool (!e))) [] []) h⟩
        · obtain ⟨e, hk, h1⟩ := intsK_loc hk
          exact hk.elim
      · exact hk.elim
    · exact hk.elim
  · rename_i ho
    split at hk
    · rename_i d n e1 e2
      split at hk
      · rename_i e3
        exact ⟨_, _, _, hk, fun ρ' μ' K' hr hm h => by unfold opx; simp only [ho, e1, e2, hm d (by simp), e3]; exact h⟩
      · exact hk.elim
    · exact hk.elim
  · rename_i ho
    split at hk
    · rename_i n e s1 s2 z e1
      split at hk
      · rename_i ei e2
        obtain ⟨cs, hk, h1⟩ := partsK_loc hk
        refine ⟨_, _, _, hk, fun ρ' μ' K' hr _ h => ?_⟩
        unfold opx; simp only [ho, e1, e2]
        exact h1 ρ' _ (fun p hp => hr _ (by simp only [ho, Op.operands]; exact List.mem_map.2 ⟨p, hp, rfl⟩)) h
      · exact hk.elim
    · exact hk.elim
  · rename_i t x y ho
    split at hk
    · rename_i e1 e2 e3
      split at hk
      · rename_i ei e4
        obtain ⟨h0, hk⟩ := hk
        obtain ⟨cs1, hk, h1⟩ := dropK_loc hk
        split at hk
        · rename_i e5
          obtain ⟨cs2, hk, h2⟩ := takeK_loc hk
          refine ⟨_, _, _, hk, fun ρ' μ' K' hr _ h => ?_⟩
          unfold opx; simp only [ho]; rw [hr x (by simp [ho, Op.operands]), hr y (by simp [ho, Op.operands])]; simp only [e1, e2, e3, e4]
          refine ⟨h0, h1 _ ?_⟩
          simp only [e5]
          exact h2 _ h
        · rename_i e5
          obtain ⟨cs2, hk, h2⟩ := takeK_loc hk
          split at hk
          · obtain ⟨hk, h3⟩ := frc_loc hk
            refine ⟨_, _, _, hk, fun ρ' μ' K' hr _ h => ?_⟩
            unfold opx; simp only [ho]; rw [hr x (by simp [ho, Op.operands]), hr y (by simp [ho, Op.operands])]; simp only [e1, e2, e3, e4]
            refine ⟨h0, h1 _ ?_⟩
            simp only [e5]
            refine h2 _ ?_
            exact h3 (fun v => K' v [] []) h
          · exact hk.elim
      · exact hk.elim
    · exact hk.elim
  · rename_i t x y ho
    split at hk
    · rename_i e1 e2 e3
      split at hk
      · rename_i ei e4
        obtain ⟨h0, hk⟩ := hk
        refine ⟨_, _, _, hk, fun ρ' μ' K' hr _ h => ?_⟩
        unfold opx; simp only [ho]; rw [hr x (by simp [ho, Op.operands]), hr y (by simp [ho, Op.operands])]; simp only [e1, e2, e3, e4]
        exact ⟨h0, h⟩
      · exact hk.elim
    · rename_i e1 e2 e3
      split at hk
      · rename_i ei e4
        split at hk
        · rename_i e5
          obtain ⟨h0, hk⟩ := hk
          refine ⟨_, _, _, hk, fun ρ' μ' K' hr _ h => ?_⟩
          unfold opx; simp only [ho]; rw [hr x (by simp [ho, Op.operands]), hr y (by simp [ho, Op.operands])]; simp only [e1, e2, e3, e4, e5]
          exact ⟨h0, h⟩
        · exact hk.elim
      · exact hk.elim
    · exact hk.elim
  · rename_i t x ho
    split at hk
    · rename_i e1 e2
      split at hk
      · rename_i ei e3 e4
        split at hk
        · rename_i e5
          refine ⟨_, _, _, hk, fun ρ' μ' K' hr _ h => ?_⟩
          unfold opx; simp only [ho]; rw [hr x (by simp [ho, Op.operands])]; simp only [e1, e2, e3, e4, e5]
          exact h
        · exact hk.elim
      · exact hk.elim
    · exact hk.elim
  · rename_i s t x ho
    split at hk
    · rename_i e1 e2
      split at hk
      · rename_i e3
        obtain ⟨ys, tt, hk, h1⟩ := tailK_loc hk
        obtain ⟨l, hk, h2⟩ := bytesK_loc hk
        refine ⟨_, _, _, hk, fun ρ' μ' K' hr hm h => ?_⟩
        unfold opx; simp only [ho, e1, e2, e3]; rw [hr x (by simp [ho, Op.operands])]
        exact h1 μ' _ hm (h2 (fun bs => K' (.d (.str ⟨bs.toArray⟩)) [] tt) h)
      · exact hk.elim
    · exact hk.elim
  · rename_i fn first caps ho
    split at hk
    · rename_i f e1
      rw [evK_eq] at hk
      refine ⟨_, _, _, hk, fun ρ' μ' K' hr _ h => ?_⟩
      unfold opx; simp only [ho, e1]
      rw [evK_eq, List.map_congr_left (fun x hx => hr x (by simp only [ho, Op.operands]; simp [Array.mem_toList_iff.1 hx]))]
      exact h
    · exact hk.elim
  · rename_i cl ho
    split at hk
    · rename_i x name hc
      split at hk
      · rename_i t v e1
        split at hk
        · rename_i f e2
          rw [evK_eq] at hk
          obtain ⟨v, u, t, h, h1⟩ := vcall_loc hk
          refine ⟨_, _, _, h, fun ρ' μ' K' hr hm h => ?_⟩
          unfold opx; simp only [ho, hc]
          rw [hr x (by simp [ho, Op.operands, Call.operands, hc])]
          simp only [e1, e2]
          rw [evK_eq, List.map_congr_left (fun x hx => hr x (by simp only [ho, Op.operands, Call.operands]; simp [Array.mem_toList_iff.1 hx]))]
          exact h1 μ' K' hm h
        · exact hk.elim
      · exact hk.elim
    · exact hk.elim
  · exact hk.elim
theorem opw_loc (hk : opw c ρ μ o K) : ∃ v u t, K v u t ∧ Loc c ρ μ o v u t := by
  unfold opw at hk
  split at hk
  · rename_i e
    obtain ⟨v, u, t, h, h1⟩ := opw1_loc hk
    exact ⟨v, u, t, h, fun ρ' μ' K' hr hm h => by unfold opw; simp only [e]; exact h1 ρ' μ' K' hr hm h⟩
  · rename_i e
    obtain ⟨v, u, t, h, h1⟩ := opx_loc hk
    exact ⟨v, u, t, h, fun ρ' μ' K' hr hm h => by unfold opw; simp only [e]; exact h1 ρ' μ' K' hr hm h⟩
end
end Go.KM
end
section
/- The K machine: traces of a region's operations. -/
namespace Go.KM
open Go

def evF (f : Nat → AV) : Operand → AV
  | .tmp t => f t
  | .const v => ofConst v
  | .func f => .fn f
  | .global _ => .any
theorem evF_eq (fr : Fr) : evO fr = evF (getF fr) := by funext x; cases x <;> rfl
def putN (n : Nat) (f : Nat → AV) (d : Option Tmp) (v : AV) : Nat → AV := fun t => if d = some t ∧ t < n then v else f t

/-- The record of one operation. -/
structure Ent where
  v : AV
  u : Mem
  t : List Nat
def Ent.note (e : Ent) : Rec := (e.t, ids e.u)

def wantF (all : List Oper) (f : Nat → AV) (o : Oper) : Option Bool :=
  match o.guard with
  | none => some true
  | some (g, want) => match (all[g]?).bind (·.dst) with
    | some t => match f t with
      | .d (.bool b) => some (b == want)
      | .tup [] => some false
      | _ => none
    | none => none

def TrOp (c : Cx) (all : List Oper) (f : Nat → AV) (μ : Mm) (o : Oper) (e : Ent) : Prop :=
  (wantF all f o = some true ∧ Loc c (evF f) μ o e.v e.u e.t) ∨ (wantF all f o = some false ∧ e = ⟨.tup [], [], []⟩)

def Tr (c : Cx) (all : List Oper) (n : Nat) : List Oper → (Nat → AV) → Mm → List Ent → Prop
  | [], _, _, [] => True
  | o :: r, f, μ, e :: es => TrOp c all f μ o e ∧ Tr c all n r (putN n f o.dst e.v) (updM μ e.u) es
  | _, _, _, _ => False

def runF (n : Nat) : List Oper → List Ent → (Nat → AV) → (Nat → AV)
  | o :: r, e :: es, f => runF n r es (putN n f o.dst e.v)
  | _, _, f => f
def runM : List Ent → Mm → Mm
  | [], μ => μ
  | e :: es, μ => runM es (updM μ e.u)

theorem looks_operand {all : List Oper} {o : Oper} {t : Nat} (h : Operand.tmp t ∈ o.op.operands.toList) : t ∈ looks all o := by
  unfold looks
  exact List.mem_append_right _ (List.mem_filterMap.2 ⟨_, h, rfl⟩)
theorem wantF_same {all : List Oper} {f f' : Nat → AV} {o : Oper} (hf : ∀ t ∈ looks all o, f' t = f t) : wantF all f' o = wantF all f o := by
  unfold wantF
  cases hg : o.guard with
  | none => rfl
  | some gw =>
    obtain ⟨g, want⟩ := gw
    simp only
    cases ht : (all[g]?).bind (·.dst) with
    | none => rfl
    | some t =>
      simp only
      rw [hf t (by unfold looks; rw [hg]; simp only [ht]; exact List.mem_append_left _ (List.mem_singleton.2 rfl))]
theorem evF_same {all : List Oper} {f f' : Nat → AV} {o : Oper} (hf : ∀ t ∈ looks all o, f' t = f t) : ∀ x ∈ o.op.operands.toList, evF f' x = evF f x := by
  intro x hx
  cases x with
  | tmp t => exact hf t (looks_operand hx)
  | _ => rfl
theorem TrOp.same {c : Cx} {all : List Oper} {f f' : Nat → AV} {μ μ' : Mm} {o : Oper} {e : Ent} (hf : ∀ t ∈ looks all o, f' t = f t) (hm : ∀ i ∈ e.t, μ' i = μ i) (h : TrOp c all f μ o e) : TrOp c all f' μ' o e := by
  rcases h with ⟨h1, h2⟩ | ⟨h1, h2⟩
  · refine .inl ⟨by rw [wantF_same hf]; exact h1, fun ρ' μ2 K' hr hm2 hk => h2 ρ' μ2 K' ?_ ?_ hk⟩
    · intro x hx
      rw [hr x hx, evF_same hf x hx]
    · intro i hi
      rw [hm2 i hi, hm i hi]
  · exact .inr ⟨by rw [wantF_same hf]; exact h1, h2⟩

theorem setF_self (fr : Fr) (t : Nat) (v : AV) (h : getF fr t = v) : getF (setF fr t v) = getF fr := by
  funext m
  rw [getF_setF]
  split
  · rename_i e
    rw [← e.1, h]
  · rfl
theorem getF_putN (fr : Fr) (o : Oper) (v : AV) (K : Fr → Prop) (h : putDst o v fr K) : ∃ fr', K fr' ∧ fr'.length = fr.length ∧ getF fr' = putN fr.length (getF fr) o.dst v := by
  unfold putDst at h
  cases hd : o.dst with
  | none =>
    rw [hd] at h
    refine ⟨fr, h, rfl, ?_⟩
    funext t
    simp [putN]
  | some d =>
    rw [hd] at h
    simp only [setFK_eq] at h
    refine ⟨_, h, setF_length _ _ _, ?_⟩
    funext t
    rw [getF_setF]
    unfold putN
    by_cases e : d = t
    · subst e; simp
    · simp [e]

/-- What is known of guards is so. -/
def DecOk (dec : Dec) (f : Nat → AV) : Prop := ∀ t b, lookD dec t = some b → f t = .d (.bool b)
theorem lookD_drop {dec : Dec} {d t : Nat} {b : Bool} (h : lookD (dropD dec (some d)) t = some b) : t ≠ d ∧ lookD dec t = some b := by
  induction dec with
  | nil => cases h
  | cons p r ih =>
    obtain ⟨i, x⟩ := p
    simp only [dropD] at h
    cases hb : Nat.beq i d
    · rw [hb] at h
      simp only [lookD] at h ⊢
      cases h2 : Nat.beq i t
      · rw [h2] at h
        exact ih h
      · rw [h2] at h
        have e1 := Nat.ne_of_beq_eq_false hb
        have e2 := Nat.eq_of_beq_eq_true h2
        exact ⟨by omega, h⟩
    · rw [hb] at h
      obtain ⟨h3, h4⟩ := ih h
      refine ⟨h3, ?_⟩
      simp only [lookD]
      have e1 := Nat.eq_of_beq_eq_true hb
      rw [beq_no (by omega : i ≠ t)]
      exact h4
theorem DecOk.put {dec : Dec} {f : Nat → AV} (h : DecOk dec f) (n : Nat) (d : Option Tmp) (v : AV) : DecOk (dropD dec d) (putN n f d v) := by
  intro t b hb
  cases d with
  | none =>
    have : dropD dec none = dec := by cases dec <;> rfl
    rw [this] at hb
    simp [putN, h t b hb]
  | some d =>
    obtain ⟨h1, h2⟩ := lookD_drop hb
    unfold putN
    rw [if_neg (by rintro ⟨e, _⟩; injection e with e; exact h1 e.symm)]
    exact h t b h2
theorem DecOk.cons {dec : Dec} {f : Nat → AV} (h : DecOk dec f) {t : Nat} {b : Bool} (ht : f t = .d (.bool b)) : DecOk ((t, b) :: dec) f := by
  intro t' b' hb
  simp only [lookD] at hb
  cases h2 : Nat.beq t t'
  · rw [h2] at hb; exact h _ _ hb
  · rw [h2] at hb
    injection hb with hb
    subst hb
    rw [← Nat.eq_of_beq_eq_true h2]
    exact ht
theorem pickOf_spec {dec : Dec} {c : Cx} {fr : Fr} {μ : Mm} {o : Oper} {x : Operand} (hd : DecOk dec (getF fr)) (h : pickOf dec o.op = some x) {K : AV → Mem → List Nat → Prop} (hk : K (evO fr x) [] []) : opw c (evO fr) μ o K := by
  unfold pickOf at h
  split at h
  · rename_i t x0 y0 ho
    have hX : isX c o.op = false := by rw [ho]; rfl
    unfold opw
    rw [hX]
    unfold opw1
    simp only [ho]
    split at h
    · rename_i hl
      injection h with h
      subst h
      have : evO fr (.tmp t) = .d (.bool true) := hd _ _ hl
      rw [this]
      exact .yes rfl (by rw [frc_eq]; exact hk)
    · rename_i hl
      injection h with h
      subst h
      have : evO fr (.tmp t) = .d (.bool false) := hd _ _ hl
      rw [this]
      exact .no rfl (by rw [frc_eq]; exact hk)
    · cases h
  · cases h

theorem opsw_tr {c : Cx} {all r : List Oper} : ∀ {acc : List Rec} {dec : Dec} {fr : Fr} {mem : Mem} {K : List Rec → Fr → Mem → Prop}, DecOk dec (getF fr) → opsw c all r acc dec fr mem K →
    ∃ es fr' mem', Tr c all fr.length r (getF fr) (getM mem) es ∧ fr'.length = fr.length ∧ K (acc ++ es.map Ent.note) fr' mem' ∧ getF fr' = runF fr.length r es (getF fr) ∧ getM mem' = runM es (getM mem) := by
  induction r with
  | nil => intro acc dec fr mem K _ h; exact ⟨[], fr, mem, trivial, rfl, by rw [List.map_nil, List.append_nil]; exact h, rfl, rfl⟩
  | cons o r ih =>
    intro acc dec fr mem K hd h
    have go : ∀ (dec2 : Dec) (fr2 : Fr), DecOk dec2 (getF fr) → getF fr2 = getF fr → fr2.length = fr.length → wantF all (getF fr) o = some true →
        (match pickOf dec2 o.op with
          | some x => frc (evO fr2 x) fun v => putDst o v fr2 fun fr' => opsw c all r (acc ++ [([], [])]) (dropD dec2 o.dst) fr' mem K
          | none => opw c (evO fr2) (getM mem) o fun v u t => putDst o v fr2 fun fr' => putMK mem u fun mem' => opsw c all r (acc ++ [(t, u.map (·.1))]) (dropD dec2 o.dst) fr' mem' K) →
        ∃ es fr' mem', Tr c all fr.length (o :: r) (getF fr) (getM mem) es ∧ fr'.length = fr.length ∧ K (acc ++ es.map Ent.note) fr' mem' ∧ getF fr' = runF fr.length (o :: r) es (getF fr) ∧ getM mem' = runM es (getM mem) := by
      intro dec2 fr2 hd2 e1 e2 hw h
      have h : opw c (evO fr2) (getM mem) o fun v u t => putDst o v fr2 fun fr' => putMK mem u fun mem' => opsw c all r (acc ++ [(t, u.map (·.1))]) (dropD dec2 o.dst) fr' mem' K := by
        split at h
        · rename_i x hp
          rw [frc_eq] at h
          exact pickOf_spec (by rw [e1]; exact hd2) hp h
        · exact h
      obtain ⟨v, u, t, h, hl⟩ := opw_loc h
      obtain ⟨fr3, h, e3, e4⟩ := getF_putN _ _ _ _ h
      rw [putMK_eq] at h
      obtain ⟨es, fr', mem', h1, h2, h3, h4, h5⟩ := ih (by rw [e4, e1]; exact hd2.put _ _ _) h
      rw [e3, e4, e2, e1] at h1 h4
      rw [getM_putM] at h1 h5
      refine ⟨⟨v, u, t⟩ :: es, fr', mem', ⟨.inl ⟨hw, by rw [← e1, ← evF_eq]; exact hl⟩, h1⟩, by omega, ?_, h4, h5⟩
      simpa [Ent.note, ids] using h3
    have skip : ∀ (dec2 : Dec) (fr2 : Fr), DecOk dec2 (getF fr) → getF fr2 = getF fr → fr2.length = fr.length → wantF all (getF fr) o = some false →
        (putDst o (.tup []) fr2 fun fr' => opsw c all r (acc ++ [([], [])]) (dropD dec2 o.dst) fr' mem K) →
        ∃ es fr' mem', Tr c all fr.length (o :: r) (getF fr) (getM mem) es ∧ fr'.length = fr.length ∧ K (acc ++ es.map Ent.note) fr' mem' ∧ getF fr' = runF fr.length (o :: r) es (getF fr) ∧ getM mem' = runM es (getM mem) := by
      intro dec2 fr2 hd2 e1 e2 hw h
      obtain ⟨fr3, h, e3, e4⟩ := getF_putN _ _ _ _ h
      obtain ⟨es, fr', mem', h1, h2, h3, h4, h5⟩ := ih (by rw [e4, e1]; exact hd2.put _ _ _) h
      rw [e3, e4, e2, e1] at h1 h4
      refine ⟨⟨.tup [], [], []⟩ :: es, fr', mem', ⟨.inr ⟨hw, rfl⟩, h1⟩, by omega, ?_, h4, h5⟩
      simpa [Ent.note, ids] using h3
    rw [opsw_cons] at h
    simp only at h
    split at h
    · rename_i hg
      exact go dec fr hd rfl rfl (by simp [wantF, hg]) h
    · rename_i g want hg
      split at h
      · rename_i t ht
        split at h
        · rename_i hl
          have hb := hd _ _ hl
          have hw : wantF all (getF fr) o = some (true == want) := by simp [wantF, hg, ht, hb]
          cases want
          · exact skip dec fr hd rfl rfl hw h
          · exact go dec fr hd rfl rfl hw h
        · rename_i hl
          have hb := hd _ _ hl
          have hw : wantF all (getF fr) o = some (false == want) := by simp [wantF, hg, ht, hb]
          cases want
          · exact go dec fr hd rfl rfl hw h
          · exact skip dec fr hd rfl rfl hw h
        · split at h
          · rename_i b hb
            have hw : wantF all (getF fr) o = some (b == want) := by simp [wantF, hg, ht, hb]
            obtain ⟨hA, hB⟩ := h
            cases b
            · have h := hB rfl
              rw [setFK_eq] at h
              cases want
              · exact go _ _ (hd.cons hb) (setF_self _ _ _ hb) (setF_length _ _ _) hw h
              · exact skip _ _ (hd.cons hb) (setF_self _ _ _ hb) (setF_length _ _ _) hw h
            · have h := hA rfl
              rw [setFK_eq] at h
              cases want
              · exact skip _ _ (hd.cons hb) (setF_self _ _ _ hb) (setF_length _ _ _) hw h
              · exact go _ _ (hd.cons hb) (setF_self _ _ _ hb) (setF_length _ _ _) hw h
          · rename_i hb
            exact skip dec fr hd rfl rfl (by simp [wantF, hg, ht, hb]) h
          · exact h.elim
      · exact h.elim

/-! One operation of a trace. -/
section
variable {P : Program} {B : Base} {Q : Exit → Act → World → Prop} {ops : Array Oper}

theorem evF_rv {w : World} {im : Imm} {ι : Idm} {μ : Mm} {f : Nat → AV} {a : Act} (hv : ∀ t, RV w im ι μ (f t) (a.tmps.getD t undef)) (x : Operand) : RV w im ι μ (evF f x) (a.eval x) := by
  cases x with
  | tmp t => exact hv t
  | func f => exact .fn f
  | global g => exact .any _
  | const v => exact rv_operand (fr := []) (a := a) (fun t => by cases t <;> exact .any _) (.const v)

theorem rv_tup0 {w : World} {im : Imm} {ι : Idm} {μ : Mm} {v : Value} (h : RV w im ι μ (.tup []) v) : v = .tuple #[] := by
  cases h with
  | @tup cs vs hl _ =>
    have : vs = [] := by cases vs with
      | nil => rfl
      | cons x r => simp at hl
    subst this
    rfl
structure Start where
  ι : Idm
  μ : Mm
  w : World
/-- The whole state is told: slots, memory. -/
structure RS (B : Base) (st : Start) (ι : Idm) (μ : Mm) (f : Nat → AV) (n : Nat) (a : Act) (w : World) : Prop where
  defers : a.defers = []
  size : a.tmps.size = n
  far : ∀ t, n ≤ t → f t = .any
  turn : Turn B st.ι ι st.μ μ st.w w
  vals : ∀ t, RV w (imm B ι μ) ι μ (f t) (a.tmps.getD t undef)
variable {st : Start}
theorem RS.mr {ι : Idm} {μ : Mm} {f : Nat → AV} {n : Nat} {a : Act} {w : World} (h : RS B st ι μ f n a w) : MR B ι μ w := h.turn.mr

/-- Where a call began is as contracts ask. -/
structure Good (G : GW) (B : Base) (st : Start) : Prop where
  ok : G.ok st.w
  low : ∀ i b, st.ι i = some b → G.low ≤ b
  w0 : B.w0 = st.w
  io : ∀ b, B.io b → ∃ i, st.ι i = some b
  mr : MR B st.ι st.μ st.w
theorem Good.now {G : GW} (hG : Good G B st) {ι : Idm} {μ : Mm} {f : Nat → AV} {n : Nat} {a : Act} {w : World} (h : RS B st ι μ f n a w) : G.ok w ∧ ∀ i b, ι i = some b → G.low ≤ b := by
  have hmr := h.turn.mr
  have hw0 := hG.w0
  have hsz := G.size _ hG.ok
  constructor
  · refine G.keep st.w w (fun p => B.io p.block) hG.ok ⟨by rw [← hw0]; exact hmr.env.os, by rw [← hw0]; exact hmr.env.output, fun i hi => ?_⟩ (fun p hp => ?_)
    · by_cases hio : B.io i
      · obtain ⟨j, hj⟩ := hG.io i hio
        have hd := hG.mr.dom j
        rw [hj] at hd
        cases hb : st.μ j with
        | none => rw [hb] at hd; cases hd
        | some blk =>
          obtain ⟨g, vs, T, h1, h2, _⟩ := BlkR_iff.1 (hG.mr.blks j blk hb)
          rw [hj] at h1
          injection h1 with h1
          subst h1
          obtain ⟨vs', h3, h4⟩ := h.turn.later.shp _ _ _ h2
          rw [h2, h3]
          exact ⟨rfl, rfl, h4, fun k hk => absurd hio hk⟩
      · have := hmr.frame i (by rw [hw0]; exact hi) hio
        rw [hw0] at this
        rw [this]
        cases hx : st.w.heap[i]? with
        | none => rfl
        | some o => cases o <;> simp
    · obtain ⟨j, hj⟩ := hG.io _ hp
      exact hG.low j _ hj
  · intro i b hi
    obtain ⟨h1, h2⟩ := hmr.lives i b hi
    rcases Nat.lt_or_ge b B.w0.heap.size with h3 | h3
    · obtain ⟨j, hj⟩ := hG.io b (h2 h3)
      exact hG.low j b hj
    · rw [hw0] at h3; omega

theorem RS.put {ι ι' : Idm} {μ μ' : Mm} {f : Nat → AV} {n : Nat} {a : Act} {w w' : World} (h : RS B st ι μ f n a w) (ht : Turn B ι ι' μ μ' w w') {d : Option Tmp} {v : AV} {val : Value}
    (hv : RV w' (imm B ι' μ') ι' μ' v val) : RS B st ι' μ' (putN n f d v) n (a.put d val) w' where
  defers := by cases d <;> exact h.defers
  size := by cases d <;> simp [Act.put, h.size]
  far := fun t ht => by
    unfold putN
    rw [if_neg (by omega)]
    exact h.far t ht
  turn := h.turn.trans ht
  vals := fun t => by
    have hold := (h.vals t).later ht.later ht.kept
    unfold putN
    cases d with
    | none => simpa [Act.put] using hold
    | some d =>
      by_cases e : d = t ∧ t < n
      · obtain ⟨e, hlt⟩ := e
        subst e
        rw [if_pos ⟨rfl, hlt⟩]
        have : (a.put (some d) val).tmps.getD d undef = val := by
          simp [Act.put, h.size, hlt]
        rw [this]
        exact hv
      · rw [if_neg (by simpa using e)]
        have : (a.put (some d) val).tmps.getD t undef = a.tmps.getD t undef := by
          simp only [Act.put]
          by_cases e2 : d = t
          · subst e2
            have hge : n ≤ d := Nat.le_of_not_lt fun hl => e ⟨rfl, hl⟩
            have h1 := h.size
            simp [Array.getElem?_eq_none (xs := a.tmps) (by omega : a.tmps.size ≤ d), Array.getElem?_eq_none (xs := a.tmps.setIfInBounds d val) (by simp; omega : (a.tmps.setIfInBounds d val).size ≤ d)]
          · simp [Array.getElem?_setIfInBounds_ne e2]
        rw [this]
        exact hold

theorem trop_sound {G : GW} (hG : Good G B st) {c : Cx} (hT : TabOk P c.tab) (hE : ExOk P c) (hB : ByOk c) (hC : ∀ f as F r F', c.C f as F r F' → Con P G f as F r F') {ι : Idm} {μ : Mm} {f : Nat → AV} {n : Nat} {a : Act} {w : World} {o : Oper} {e : Ent} {i : Nat} {K : Act → World → Prop}
    (h : RS B st ι μ f n a w) (hi : ops[i]? = some o) (ht : TrOp c ops.toList f μ o e)
    (hk : ∀ ι' a' w', RS B st ι' (updM μ e.u) (putN n f o.dst e.v) n a' w' → K a' w') : wpOp P ops Q i K a w := by
  have hw : ∀ b, wantF ops.toList f o = some b → Region.wanted o (yielded ops a.tmps) = b := by
    intro b hb
    unfold wantF at hb
    unfold Region.wanted
    split at hb
    · rename_i hg
      rw [hg]
      simpa using hb
    · rename_i g want hg
      rw [hg]
      simp only
      split at hb
      · rename_i t ht
        split at hb
        · rename_i bv hbv
          have hv := h.vals t
          rw [hbv] at hv
          have hv := rv_bool hv
          have ht' : (ops[g]?).bind (·.dst) = some t := by simpa using ht
          have hlt : t < a.tmps.size := by
            rcases Nat.lt_or_ge t a.tmps.size with h1 | h1
            · exact h1
            · have := h.far t (by rw [← h.size]; exact h1)
              rw [this] at hbv
              cases hbv
          have hy : yielded ops a.tmps g = some bv := by
            have h2 : a.tmps[t]? = some (.bool bv) := by
              rw [Array.getElem?_eq_getElem hlt]
              simp only [Array.getD, hlt, dif_pos] at hv
              simpa using hv
            simp [yielded, ht', h2]
          rw [hy]
          simpa using hb
        · rename_i hbv
          have hv := h.vals t
          rw [hbv] at hv
          have ht' : (ops[g]?).bind (·.dst) = some t := by simpa using ht
          have hlt : t < a.tmps.size := by
            rcases Nat.lt_or_ge t a.tmps.size with h1 | h1
            · exact h1
            · have := h.far t (by rw [← h.size]; exact h1)
              rw [this] at hbv
              cases hbv
          have hy : yielded ops a.tmps g = none := by
            have h2 : a.tmps[t]? = some (.tuple #[]) := by
              rw [Array.getElem?_eq_getElem hlt]
              simp only [Array.getD, hlt, dif_pos] at hv
              exact congrArg some (rv_tup0 hv)
            simp [yielded, ht', h2]
          rw [hy]
          simpa using hb
        · cases hb
      · cases hb
  unfold wpOp
  simp only [hi]
  rcases ht with ⟨h1, h2⟩ | ⟨h1, h2⟩
  · rw [if_pos (hw _ h1)]
    refine .inl (op_sound (hG.now h).1 (hG.now h).2 hT hE hB hC h.mr (evF_rv h.vals) (h2 (evF f) μ (fun v u t => v = e.v ∧ u = e.u ∧ t = e.t) (fun _ _ => rfl) (fun _ _ => rfl) ⟨rfl, rfl, rfl⟩) ?_)
    intro v u t val w' ι' ⟨e1, e2, e3⟩ htn hv
    subst e1 e2
    exact hk _ _ _ (h.put htn hv)
  · rw [if_neg (by rw [hw _ h1]; exact Bool.false_ne_true)]
    subst h2
    exact hk ι _ _ (h.put (.refl h.mr) (.tup (vs := []) rfl (fun m h1 => absurd h1 (Nat.not_lt_zero m))))

theorem seq_sound {G : GW} (hG : Good G B st) {c : Cx} (hT : TabOk P c.tab) (hE : ExOk P c) (hB : ByOk c) (hC : ∀ f as F r F', c.C f as F r F' → Con P G f as F r F') {n : Nat} : ∀ (r : List Oper) (k : Nat) {ι : Idm} {μ : Mm} {f : Nat → AV} {a : Act} {w : World} {es : List Ent},
    (∀ j, r[j]? = ops[k + j]?) → RS B st ι μ f n a w → Tr c ops.toList n r f μ es → (∀ ι a w, RS B st ι (runM es μ) (runF n r es f) n a w → Q .normal a w) → wpOps P ops Q (List.range' k r.length) a w := by
  intro r
  induction r with
  | nil =>
    intro k ι μ f a w es _ h ht hq
    cases es with
    | nil => exact hq _ _ _ h
    | cons e es => exact ht.elim
  | cons o r ih =>
    intro k ι μ f a w es hr h ht hq
    cases es with
    | nil => exact ht.elim
    | cons e es =>
      obtain ⟨h1, h2⟩ := ht
      rw [List.length_cons, List.range'_succ, wpOps_cons]
      refine trop_sound hG hT hE hB hC h (by have := hr 0; simpa using this.symm) h1 fun ι' a' w' h3 => ?_
      exact ih (k + 1) (fun j => by have := hr (j + 1); rw [show k + 1 + j = k + (j + 1) by omega, ← this]; simp) h3 h2 (fun ι a w h4 => hq ι a w h4)
end
end Go.KM
end
section
/- The K machine: operations in any order that their edges allow. -/
namespace Go.KM
open Go

/-! Writers, of which some have run. -/
section
variable {β : Type}
def app (g : Nat → Option β) (h : Nat → β) : Nat → β := fun x => (g x).getD (h x)
def runS (S : Nat → Bool) : Nat → List (Nat → Option β) → (Nat → β) → (Nat → β)
  | _, [], h => h
  | k, g :: r, h => runS S (k + 1) r (if S k then app g h else h)

theorem runS_congr {S S' : Nat → Bool} {x : Nat} {gs : List (Nat → Option β)} : ∀ {k : Nat} {h h' : Nat → β},
    (∀ j g, gs[j]? = some g → (g x).isSome = true → S (k + j) = S' (k + j)) → h x = h' x → runS S k gs h x = runS S' k gs h' x := by
  induction gs with
  | nil => intro k h h' _ e; exact e
  | cons g r ih =>
    intro k h h' hs e
    refine ih (fun j g' hj hg => by have := hs (j + 1) g' (by simpa using hj) hg; rwa [show k + (j + 1) = k + 1 + j by omega] at this) ?_
    cases hg : g x with
    | none =>
      have : ∀ (b : Bool) (h : Nat → β), (if b then app g h else h) x = h x := fun b h => by cases b <;> simp [app, hg]
      rw [this, this, e]
    | some v =>
      have := hs 0 g (by simp) (by rw [hg]; rfl)
      rw [Nat.add_zero] at this
      rw [this]
      cases S' k <;> simp [app, hg, e]
theorem runS_none {S : Nat → Bool} {x : Nat} {gs : List (Nat → Option β)} : ∀ {k : Nat} {h : Nat → β},
    (∀ j g, gs[j]? = some g → (g x).isSome = true → S (k + j) = false) → runS S k gs h x = h x := by
  induction gs with
  | nil => intro k h _; rfl
  | cons g r ih =>
    intro k h hs
    show runS S (k + 1) r _ x = h x
    rw [ih (fun j g' hj hg => by have := hs (j + 1) g' (by simpa using hj) hg; rwa [show k + (j + 1) = k + 1 + j by omega] at this)]
    cases hg : g x with
    | none => cases S k <;> simp [app, hg]
    | some v =>
      have := hs 0 g (by simp) (by rw [hg]; rfl)
      rw [Nat.add_zero] at this
      simp [this]
theorem runS_last {S : Nat → Bool} {x : Nat} {v : β} {g : Nat → Option β} {gs : List (Nat → Option β)} : ∀ {k i : Nat} {h : Nat → β},
    gs[i]? = some g → S (k + i) = true → g x = some v → (∀ j g', i < j → gs[j]? = some g' → (g' x).isSome = true → S (k + j) = false) → runS S k gs h x = v := by
  induction gs with
  | nil => intro k i h hi; simp at hi
  | cons g0 r ih =>
    intro k i h hi hs hv hl
    cases i with
    | succ i =>
      exact ih (k := k + 1) (i := i) (by simpa using hi) (by rwa [show k + 1 + i = k + (i + 1) by omega]) hv
        (fun j g' hj hg hx => by have := hl (j + 1) g' (by omega) (by simpa using hg) hx; rwa [show k + (j + 1) = k + 1 + j by omega] at this)
    | zero =>
      have e : g0 = g := by simpa using hi
      subst e
      show runS S (k + 1) r _ x = v
      rw [runS_none (fun j g' hj hg => by have := hl (j + 1) g' (by omega) (by simpa using hj) hg; rwa [show k + (j + 1) = k + 1 + j by omega] at this)]
      rw [Nat.add_zero] at hs
      simp [hs, app, hv]
theorem runS_add {S S' : Nat → Bool} {i : Nat} {g : Nat → Option β} {gs : List (Nat → Option β)} {h : Nat → β} (hi : gs[i]? = some g) (hS : ∀ j, j ≠ i → S' j = S j) (hSi : S' i = true)
    (hl : ∀ j g' x, i < j → gs[j]? = some g' → (g x).isSome = true → (g' x).isSome = true → S' j = false) : runS S' 0 gs h = app g (runS S 0 gs h) := by
  funext x
  cases hg : g x with
  | none =>
    rw [show app g (runS S 0 gs h) x = runS S 0 gs h x by simp [app, hg]]
    refine runS_congr (fun j g' hj hx => ?_) rfl
    rw [Nat.zero_add]
    by_cases e : j = i
    · subst e
      rw [hi] at hj
      injection hj with hj
      rw [← hj, hg] at hx
      cases hx
    · exact hS j e
  | some v =>
    rw [show app g (runS S 0 gs h) x = v by simp [app, hg]]
    exact runS_last hi (by rw [Nat.zero_add]; exact hSi) hg (fun j g' hj hg' hx => by rw [Nat.zero_add]; exact hl j g' x hj hg' (by rw [hg]; rfl) hx)
end

/-! A trace's writers. -/
def gF (n : Nat) : List Oper → List Ent → List (Nat → Option AV)
  | o :: r, e :: es => (fun t => if o.dst = some t ∧ t < n then some e.v else none) :: gF n r es
  | _, _ => []
def lastM : Mem → Nat → Option (Option Blk)
  | [], _ => none
  | (j, b) :: u, i => match lastM u i with
    | some x => some x
    | none => if j = i then some (some b) else none
def gM (es : List Ent) : List (Nat → Option (Option Blk)) := es.map fun e => lastM e.u

theorem putN_app (n : Nat) (f : Nat → AV) (d : Option Tmp) (v : AV) : putN n f d v = app (fun t => if d = some t ∧ t < n then some v else none) f := by
  funext t
  unfold putN app
  by_cases h : d = some t ∧ t < n <;> simp [h]
theorem updM_app (u : Mem) : ∀ μ : Mm, updM μ u = app (lastM u) μ := by
  induction u with
  | nil => intro μ; rfl
  | cons p u ih =>
    obtain ⟨j, b⟩ := p
    intro μ
    show updM (fun i => if j = i then some b else μ i) u = _
    rw [ih]
    funext i
    unfold app
    simp only [lastM]
    cases lastM u i with
    | some x => rfl
    | none => by_cases e : j = i <;> simp [e]
theorem lastM_ids {u : Mem} {i : Nat} : (lastM u i).isSome = true → i ∈ ids u := by
  induction u with
  | nil => intro h; cases h
  | cons p u ih =>
    obtain ⟨j, b⟩ := p
    intro h
    unfold lastM at h
    cases hl : lastM u i with
    | some x => exact List.mem_cons_of_mem _ (ih (by rw [hl]; rfl))
    | none =>
      rw [hl] at h
      by_cases e : j = i
      · subst e; exact List.mem_cons_self ..
      · simp [e] at h
theorem runF_S {S : Nat → Bool} {n : Nat} : ∀ {r : List Oper} {es : List Ent} {k : Nat} {f : Nat → AV}, (∀ j, j < r.length → S (k + j) = true) → runF n r es f = runS S k (gF n r es) f := by
  intro r
  induction r with
  | nil => intro es k f _; cases es <;> rfl
  | cons o r ih =>
    intro es k f h
    cases es with
    | nil => rfl
    | cons e es =>
      show runF n r es (putN n f o.dst e.v) = runS S (k + 1) (gF n r es) _
      have h0 := h 0 (by simp)
      rw [Nat.add_zero] at h0
      rw [if_pos h0, ← putN_app]
      exact ih (fun j hj => by have := h (j + 1) (by simpa using hj); rwa [show k + (j + 1) = k + 1 + j by omega] at this)
theorem runM_S {S : Nat → Bool} : ∀ {es : List Ent} {k : Nat} {μ : Mm}, (∀ j, j < es.length → S (k + j) = true) → runM es μ = runS S k (gM es) μ := by
  intro es
  induction es with
  | nil => intro k μ _; rfl
  | cons e es ih =>
    intro k μ h
    show runM es (updM μ e.u) = runS S (k + 1) (gM es) _
    have h0 := h 0 (by simp)
    rw [Nat.add_zero] at h0
    rw [if_pos h0, ← updM_app]
    exact ih (fun j hj => by have := h (j + 1) (by simpa using hj); rwa [show k + (j + 1) = k + 1 + j by omega] at this)

theorem Tr.length {c : Cx} {all : List Oper} {n : Nat} : ∀ {r : List Oper} {es : List Ent} {f : Nat → AV} {μ : Mm}, Tr c all n r f μ es → es.length = r.length := by
  intro r
  induction r with
  | nil => intro es f μ h; cases es with
    | nil => rfl
    | cons e es => exact h.elim
  | cons o r ih => intro es f μ h; cases es with
    | nil => exact h.elim
    | cons e es => simp [ih h.2]
/-- An operation of the trace, from what stood ahead of it. -/
theorem Tr.get {c : Cx} {all : List Oper} {n : Nat} : ∀ {r : List Oper} {es : List Ent} {k i : Nat} {f : Nat → AV} {μ : Mm} {o : Oper}, Tr c all n r f μ es → r[i]? = some o →
    ∃ e, es[i]? = some e ∧ TrOp c all (runS (fun j => decide (j < k + i)) k (gF n r es) f) (runS (fun j => decide (j < k + i)) k (gM es) μ) o e := by
  intro r
  induction r with
  | nil => intro es k i f μ o _ hi; simp at hi
  | cons o' r ih =>
    intro es k i f μ o h hi
    cases es with
    | nil => exact h.elim
    | cons e es =>
      obtain ⟨h1, h2⟩ := h
      cases i with
      | zero =>
        have e1 : o' = o := by simpa using hi
        subst e1
        refine ⟨e, rfl, ?_⟩
        have hn : ∀ {β : Type} (gs : List (Nat → Option β)) (h : Nat → β), runS (fun j => decide (j < k + 0)) k gs h = h := fun gs h => by
          funext x
          exact runS_none (fun j g _ _ => by simp)
        rw [hn, hn]
        exact h1
      | succ i =>
        obtain ⟨e', h3, h4⟩ := ih (k := k + 1) h2 (by simpa using hi)
        refine ⟨e', by simpa using h3, ?_⟩
        have e1 : (fun j => decide (j < k + (i + 1))) = (fun j => decide (j < k + 1 + i)) := by funext j; rw [show k + (i + 1) = k + 1 + i by omega]
        rw [e1]
        show TrOp c all (runS _ (k + 1) (gF n r es) (if decide (k < k + 1 + i) = true then _ else _)) (runS _ (k + 1) (gM es) (if decide (k < k + 1 + i) = true then _ else _)) o e'
        have : decide (k < k + 1 + i) = true := by simp; omega
        rw [if_pos this, if_pos this, ← putN_app, ← updM_app]
        exact h4
theorem gF_get {n : Nat} : ∀ {r : List Oper} {es : List Ent} {j : Nat} {g : Nat → Option AV}, (gF n r es)[j]? = some g →
    ∃ o e, r[j]? = some o ∧ es[j]? = some e ∧ g = fun t => if o.dst = some t ∧ t < n then some e.v else none := by
  intro r
  induction r with
  | nil => intro es j g h; cases es <;> simp [gF] at h
  | cons o r ih =>
    intro es j g h
    cases es with
    | nil => simp [gF] at h
    | cons e es =>
      cases j with
      | zero => exact ⟨o, e, rfl, rfl, by simpa [gF] using h.symm⟩
      | succ j => simpa using ih (es := es) (j := j) (by simpa [gF] using h)
theorem gM_get {es : List Ent} {j : Nat} {g : Nat → Option (Option Blk)} (h : (gM es)[j]? = some g) : ∃ e, es[j]? = some e ∧ g = lastM e.u := by
  unfold gM at h
  rw [List.getElem?_map] at h
  cases he : es[j]? with
  | none => rw [he] at h; cases h
  | some e => rw [he] at h; exact ⟨e, rfl, by simpa using h.symm⟩

/-! The order. -/
inductive Bef (ops : List Oper) : Nat → Nat → Prop
  | one {i j : Nat} {o : Oper} (h : ops[j]? = some o) (he : i ∈ edges o) : Bef ops i j
  | more {i e j : Nat} {o : Oper} (h : ops[j]? = some o) (he : e ∈ edges o) (hb : Bef ops i e) : Bef ops i j

theorem befs_spec {ops : List Oper} : ∀ (r : List Oper) (acc : List Nat) (k : Nat), acc.length = k → (∀ j, r[j]? = ops[k + j]?) → (∀ j i, j < k → (acc.getD j 0).testBit i = true → Bef ops i j) →
    ∀ j i, ((befs r acc).getD j 0).testBit i = true → Bef ops i j := by
  intro r
  induction r with
  | nil =>
    intro acc k hk _ h j i hb
    rcases Nat.lt_or_ge j k with hj | hj
    · exact h j i hj hb
    · rw [show befs [] acc = acc from rfl, List.getD_eq_getElem?_getD, List.getElem?_eq_none (by omega)] at hb
      simp at hb
  | cons o r ih =>
    intro acc k hk hr h
    refine ih _ (k + 1) (by simp [hk]) (fun j => by have := hr (j + 1); rw [show k + 1 + j = k + (j + 1) by omega, ← this]; simp) ?_
    intro j i hj hb
    rcases Nat.lt_or_ge j k with hj2 | hj2
    · rw [List.getD_eq_getElem?_getD, List.getElem?_append_left (by omega), ← List.getD_eq_getElem?_getD] at hb
      exact h j i hj2 hb
    · have hjk : j = k := by omega
      subst hjk
      rw [List.getD_eq_getElem?_getD, List.getElem?_append_right (by omega), hk] at hb
      simp only [Nat.sub_self, List.getElem?_cons_zero, Option.getD_some] at hb
      have ho : ops[j]? = some o := by have := hr 0; simpa using this.symm
      have key : ∀ (l : List Nat) (s : Nat), (∀ e ∈ l, e ∈ edges o) → (l.foldl (fun s i => s ||| 2 ^ i ||| acc.getD i 0) s).testBit i = true → s.testBit i = true ∨ Bef ops i j := by
        intro l
        induction l with
        | nil => intro s _ h; exact .inl h
        | cons e l ih2 =>
          intro s hl hb
          rcases ih2 _ (fun e he => hl e (List.mem_cons_of_mem _ he)) hb with h1 | h1
          · rw [Nat.testBit_or, Nat.testBit_or, Bool.or_eq_true, Bool.or_eq_true, Nat.testBit_two_pow] at h1
            rcases h1 with (h1 | h1) | h1
            · exact .inl h1
            · have : e = i := by simpa using h1
              subst this
              exact .inr (.one ho (hl _ (List.mem_cons_self ..)))
            · rcases Nat.lt_or_ge e j with he | he
              · exact .inr (.more ho (hl _ (List.mem_cons_self ..)) (h e i he h1))
              · rw [List.getD_eq_getElem?_getD, List.getElem?_eq_none (by omega)] at h1
                simp at h1
          · exact .inr h1
      rcases key _ 0 (fun _ h => h) hb with h1 | h1
      · simp at h1
      · exact h1
theorem befs_bef {ops : List Oper} {j i : Nat} (h : ((befs ops []).getD j 0).testBit i = true) : Bef ops i j :=
  befs_spec ops [] 0 rfl (fun j => by rw [Nat.zero_add]) (fun j i h => absurd h (Nat.not_lt_zero _)) j i h
end Go.KM
end
section
/- The K machine: a region that draws its order. -/
namespace Go.KM
open Go

theorem recsOk_spec : ∀ {k : Nat} {rs : List Rec} {bs : List Nat}, recsOk k rs bs = true → ∀ i j a b, i < j → rs[i]? = some a → rs[j]? = some b → memMeets a b = true → (bs.getD j 0).testBit (k + i) = true := by
  have from_spec : ∀ {i : Nat} {ri : Rec} {rs : List Rec} {bs : List Nat}, apartFrom i ri rs bs = true → ∀ j b, rs[j]? = some b → memMeets ri b = true → (bs.getD j 0).testBit i = true := by
    intro i ri rs
    induction rs with
    | nil => intro bs _ j b hj; simp at hj
    | cons r rs ih =>
      intro bs h j b hj hm
      cases bs with
      | nil => cases h
      | cons m bs =>
        simp only [apartFrom, Bool.and_eq_true] at h
        cases j with
        | zero =>
          have e : r = b := by simpa using hj
          subst e
          rw [hm] at h
          simpa using h.1
        | succ j =>
          have := ih h.2 j b (by simpa using hj) hm
          simpa using this
  intro k rs
  induction rs generalizing k with
  | nil => intro bs _ i j a b _ hi; simp at hi
  | cons r rs ih =>
    intro bs h i j a b hij hi hj hm
    cases bs with
    | nil => cases h
    | cons m bs =>
      simp only [recsOk, Bool.and_eq_true] at h
      cases j with
      | zero => omega
      | succ j =>
        cases i with
        | zero =>
          have e : r = a := by simpa using hi
          subst e
          have := from_spec h.1 j b (by simpa using hj) hm
          simpa using this
        | succ i =>
          have := ih (k := k + 1) h.2 i j a b (by omega) (by simpa using hi) (by simpa using hj) hm
          rw [show k + 1 + i = k + (i + 1) by omega] at this
          simpa using this

theorem tmpsOk_spec {all : List Oper} : ∀ {k : Nat} {rs : List Oper} {bs : List Nat}, tmpsOk all k rs bs = true →
    (∀ i j a b, i < j → rs[i]? = some a → rs[j]? = some b → tmpsMeet all a b = true → (bs.getD j 0).testBit (k + i) = true) ∧ (∀ i a, rs[i]? = some a → ∀ e ∈ edges a, e < k + i) := by
  have from_spec : ∀ {i : Nat} {ri : Oper} {rs : List Oper} {bs : List Nat}, tmpsFrom all i ri rs bs = true → ∀ j b, rs[j]? = some b → tmpsMeet all ri b = true → (bs.getD j 0).testBit i = true := by
    intro i ri rs
    induction rs with
    | nil => intro bs _ j b hj; simp at hj
    | cons r rs ih =>
      intro bs h j b hj hm
      cases bs with
      | nil => cases h
      | cons m bs =>
        simp only [tmpsFrom, Bool.and_eq_true] at h
        cases j with
        | zero =>
          have e : r = b := by simpa using hj
          subst e
          rw [hm] at h
          simpa using h.1
        | succ j =>
          have := ih h.2 j b (by simpa using hj) hm
          simpa using this
  intro k rs
  induction rs generalizing k with
  | nil => intro bs _; exact ⟨fun i j a b _ hi => by simp at hi, fun i a hi => by simp at hi⟩
  | cons r rs ih =>
    intro bs h
    cases bs with
    | nil => cases h
    | cons m bs =>
      simp only [tmpsOk, Bool.and_eq_true] at h
      obtain ⟨ih1, ih2⟩ := ih (k := k + 1) h.2
      constructor
      · intro i j a b hij hi hj hm
        cases j with
        | zero => omega
        | succ j =>
          cases i with
          | zero =>
            have e : r = a := by simpa using hi
            subst e
            have := from_spec h.1.1 j b (by simpa using hj) hm
            simpa using this
          | succ i =>
            have := ih1 i j a b (by omega) (by simpa using hi) (by simpa using hj) hm
            rw [show k + 1 + i = k + (i + 1) by omega] at this
            simpa using this
      · intro i a hi e he
        cases i with
        | zero =>
          have e1 : r = a := by simpa using hi
          subst e1
          have := List.all_eq_true.1 h.1.2 e he
          have := Nat.le_of_ble_eq_true this
          omega
        | succ i =>
          have := ih2 i a (by simpa using hi) e he
          omega

theorem meets_of {a b : List Nat} {x : Nat} (ha : x ∈ a) (hb : x ∈ b) : meets a b = true := by
  induction a with
  | nil => cases ha
  | cons y r ih =>
    unfold meets
    split
    · rfl
    · rename_i hn
      rcases List.mem_cons.1 ha with e | h
      · subst e; exact absurd (by simpa using hb) hn
      · exact ih h

/-- How many are still to run. -/
def cnt (S : Nat → Bool) : Nat → Nat
  | 0 => 0
  | n + 1 => cnt S n + (if S n then 0 else 1)
theorem cnt_zero {S : Nat → Bool} {n : Nat} (h : cnt S n = 0) : ∀ j, j < n → S j = true := by
  induction n with
  | zero => intro j hj; omega
  | succ n ih =>
    intro j hj
    unfold cnt at h
    by_cases e : j = n
    · subst e
      cases hs : S j
      · rw [hs] at h; simp at h
      · rfl
    · exact ih (by omega) j (by omega)
theorem cnt_same {S S' : Nat → Bool} {n : Nat} (h : ∀ j, j < n → S' j = S j) : cnt S' n = cnt S n := by
  induction n with
  | zero => rfl
  | succ n ih => unfold cnt; rw [ih fun j hj => h j (by omega), h n (by omega)]
theorem cnt_step {S S' : Nat → Bool} {n i : Nat} (hi : i < n) (hS : S i = false) (hSi : S' i = true) (h : ∀ j, j ≠ i → S' j = S j) : cnt S' n + 1 = cnt S n := by
  induction n with
  | zero => omega
  | succ n ih =>
    unfold cnt
    by_cases e : i = n
    · subst e
      rw [cnt_same fun j hj => h j (by omega), hS, hSi]
      simp
    · have := ih (by omega)
      rw [h n (by omega)]
      omega
theorem cnt_none {S : Nat → Bool} {n : Nat} (h : ∀ j, S j = false) : cnt S n = n := by
  induction n with
  | zero => rfl
  | succ n ih => unfold cnt; rw [ih, h n]; simp

section
variable {P : Program} {B : Base} {st : Start} {Q : Exit → Act → World → Prop} {ops : Array Oper}

theorem any_sound {G : GW} (hG : Good G B st) {c : Cx} (hT : TabOk P c.tab) (hEx : ExOk P c) (hB : ByOk c) (hC : ∀ f as F r F', c.C f as F r F' → Con P G f as F r F') {n : Nat} {f : Nat → AV} {μ : Mm} {es : List Ent}
    (ht : Tr c ops.toList n ops.toList f μ es)
    (hM : ∀ i j a b, i < j → es[i]? = some a → es[j]? = some b → memMeets a.note b.note = true → Bef ops.toList i j)
    (hS : ∀ i j a b, i < j → ops.toList[i]? = some a → ops.toList[j]? = some b → tmpsMeet ops.toList a b = true → Bef ops.toList i j)
    (hE : ∀ i a, ops.toList[i]? = some a → ∀ e ∈ edges a, e < i)
    (hq : ∀ ι a w, RS B st ι (runM es μ) (runF n ops.toList es f) n a w → Q .normal a w) :
    ∀ (fuel : Nat) (listed : Array Bool) {ι : Idm} {a : Act} {w : World}, listed.size = ops.size → cnt (fun j => listed.getD j false) ops.size = fuel →
      (∀ j o, ops.toList[j]? = some o → listed.getD j false = true → ∀ e ∈ edges o, listed.getD e false = true) →
      RS B st ι (runS (fun j => listed.getD j false) 0 (gM es) μ) (runS (fun j => listed.getD j false) 0 (gF n ops.toList es) f) n a w →
      wpAny P .any ops Q fuel listed a w := by
  intro fuel
  have hlen := ht.length
  have hfin : ∀ (listed : Array Bool) {ι : Idm} {a : Act} {w : World}, (∀ j, j < ops.size → listed.getD j false = true) →
      RS B st ι (runS (fun j => listed.getD j false) 0 (gM es) μ) (runS (fun j => listed.getD j false) 0 (gF n ops.toList es) f) n a w → Q .normal a w := by
    intro listed ι a w hall h
    refine hq ι a w ?_
    rw [runM_S (S := fun j => listed.getD j false) (k := 0) (fun j hj => by rw [Nat.zero_add]; exact hall j (by rw [hlen] at hj; simpa using hj)),
      runF_S (S := fun j => listed.getD j false) (k := 0) (fun j hj => by rw [Nat.zero_add]; exact hall j (by simpa using hj))]
    exact h
  have hgt : ∀ (listed : Array Bool) (j : Nat), listed.size = ops.size → j < ops.size → listed.getD j true = listed.getD j false := by
    intro listed j h1 h2
    simp [Array.getD, show j < listed.size by omega]
  have hready : ∀ (listed : Array Bool), listed.size = ops.size → Region.ready .any ops listed = [] → ∀ j, j < ops.size → listed.getD j false = true := by
    intro listed hsz hr j
    induction j using Nat.strongRecOn with
    | ind j ih =>
      intro hj
      cases hlj : listed.getD j false
      · have ho : ops[j]? = some ops[j] := Array.getElem?_eq_getElem hj
        have : j ∈ Region.ready .any ops listed := mem_ready.2 ⟨by rw [hgt _ _ hsz hj]; exact hlj, ops[j], ho, fun e he hb => by
          have hed : e.on ∈ edges ops[j] := by
            unfold edges
            exact List.mem_filterMap.2 ⟨e, Array.mem_toList_iff.2 he, by simp [hb]⟩
          have hlt := hE j ops[j] (by simp) e.on hed
          exact ih e.on hlt (by omega)⟩
        rw [hr] at this
        cases this
      · rfl
  induction fuel with
  | zero =>
    intro listed ι a w hsz hc hcl h
    have hall := cnt_zero hc
    refine ⟨?_, hfin listed hall h⟩
    apply List.eq_nil_iff_forall_not_mem.2
    intro j hj
    obtain ⟨h1, o, ho, _⟩ := mem_ready.1 hj
    have hj := (Array.getElem?_eq_some_iff.1 ho).1
    rw [hgt _ _ hsz hj, hall j hj] at h1
    cases h1
  | succ fuel ih =>
    intro listed ι a w hsz hc hcl h
    refine ⟨fun hr => hfin listed (hready listed hsz hr) h, fun i hi => ?_⟩
    obtain ⟨hun, o, ho, hed⟩ := mem_ready.1 hi
    have hiN := (Array.getElem?_eq_some_iff.1 ho).1
    rw [hgt _ _ hsz hiN] at hun
    have ho' : ops.toList[i]? = some o := by simpa using ho
    have hedl : ∀ e ∈ edges o, listed.getD e false = true := by
      intro e he
      unfold edges at he
      obtain ⟨x, hx, hx2⟩ := List.mem_filterMap.1 he
      split at hx2
      · rename_i hb
        injection hx2 with hx2
        subst hx2
        exact hed x (by simpa using hx) hb
      · cases hx2
    -- what stands ahead of one that is listed is listed
    have hbef : ∀ {j k : Nat}, Bef ops.toList j k → listed.getD k false = true → listed.getD j false = true := by
      intro j k hb
      induction hb with
      | one h1 he => intro hk; exact hcl _ _ h1 hk _ he
      | more h1 he _ ih => intro hk; exact ih (hcl _ _ h1 hk _ he)
    have hbefi : ∀ {j : Nat}, Bef ops.toList j i → listed.getD j false = true := by
      intro j hb
      cases hb with
      | one h1 he =>
        rw [ho'] at h1
        injection h1 with h1
        subst h1
        exact hedl _ he
      | more h1 he hb =>
        rw [ho'] at h1
        injection h1 with h1
        subst h1
        exact hbef hb (hedl _ he)
    have hlater : ∀ {j : Nat}, Bef ops.toList i j → listed.getD j false = false := by
      intro j hb
      cases hlj : listed.getD j false
      · rfl
      · rw [hbef hb hlj] at hun
        cases hun
    obtain ⟨e, he, hop⟩ := ht.get (k := 0) ho'
    rw [Nat.zero_add] at hop
    have hF : ∀ t ∈ looks ops.toList o, runS (fun j => listed.getD j false) 0 (gF n ops.toList es) f t = runS (fun j => decide (j < i)) 0 (gF n ops.toList es) f t := by
      intro t hl
      refine runS_congr (fun j g hj hg => ?_) rfl
      rw [Nat.zero_add]
      obtain ⟨oj, ej, h1, h2, h3⟩ := gF_get hj
      subst h3
      have hd : oj.dst = some t := by
        by_cases hd : oj.dst = some t ∧ t < n
        · exact hd.1
        · simp [hd] at hg
      rcases Nat.lt_trichotomy j i with hji | hji | hji
      · rw [hbefi (hS j i oj o hji h1 ho' (by
          unfold tmpsMeet
          rw [hd]
          simp [hl]))]
        simp [hji]
      · subst hji
        rw [hun]
        simp
      · rw [hlater (hS i j o oj hji ho' h1 (by
          unfold tmpsMeet
          rw [hd]
          simp [hl]))]
        simp; omega
    have hMm : ∀ id ∈ e.t, runS (fun j => listed.getD j false) 0 (gM es) μ id = runS (fun j => decide (j < i)) 0 (gM es) μ id := by
      intro id hl
      refine runS_congr (fun j g hj hg => ?_) rfl
      rw [Nat.zero_add]
      obtain ⟨ej, h2, h3⟩ := gM_get hj
      subst h3
      have hid := lastM_ids hg
      rcases Nat.lt_trichotomy j i with hji | hji | hji
      · rw [hbefi (hM j i ej e hji h2 he (by
          unfold memMeets
          rw [meets_of (x := id) (a := ej.note.2) (b := e.note.1 ++ e.note.2) hid (List.mem_append_left _ hl)]
          rfl))]
        simp [hji]
      · subst hji
        rw [hun]
        simp
      · rw [hlater (hM i j e ej hji he h2 (by
          unfold memMeets
          rw [meets_of (x := id) (a := ej.note.2) (b := e.note.1 ++ e.note.2) hid (List.mem_append_left _ hl), Bool.or_true]))]
        simp; omega
    refine trop_sound hG hT hEx hB hC h ho (hop.same hF hMm) fun ι' a' w' h2 => ?_
    have hS' : ∀ j, j ≠ i → (listed.setIfInBounds i true).getD j false = listed.getD j false := fun j hj => getD_set_ne false (Ne.symm hj)
    have hSi : (listed.setIfInBounds i true).getD i false = true := by
      simp [Array.getD, show i < listed.size by omega]
    refine ih (listed.setIfInBounds i true) (ι := ι') (by simpa using hsz) ?_ ?_ ?_
    · have := cnt_step (S := fun j => listed.getD j false) (S' := fun j => (listed.setIfInBounds i true).getD j false) hiN hun hSi hS'
      omega
    · intro j oj hoj hlj x hx
      by_cases hji : j = i
      · subst hji
        rw [ho'] at hoj
        injection hoj with hoj
        subst hoj
        exact getD_set_true (hedl x hx)
      · rw [hS' j hji] at hlj
        exact getD_set_true (hcl j oj hoj hlj x hx)
    · have hgm : (gM es)[i]? = some (lastM e.u) := by simp [gM, he]
      have hgf : (gF n ops.toList es)[i]? = some (fun t => if o.dst = some t ∧ t < n then some e.v else none) := by
        have : ∀ (r : List Oper) (es : List Ent) (i : Nat), r[i]? = some o → es[i]? = some e → (gF n r es)[i]? = some (fun t => if o.dst = some t ∧ t < n then some e.v else none) := by
          intro r
          induction r with
          | nil => intro es i h; simp at h
          | cons o1 r ihr =>
            intro es i h1 h2
            cases es with
            | nil => simp at h2
            | cons e1 es =>
              cases i with
              | zero =>
                have a1 : o1 = o := by simpa using h1
                have a2 : e1 = e := by simpa using h2
                subst a1 a2
                rfl
              | succ i => simpa [gF] using ihr es i (by simpa using h1) (by simpa using h2)
        exact this _ _ _ ho' he
      rw [runS_add hgm hS' hSi (fun j g' x hj hg' hx hx' => by
          obtain ⟨ej, h5, h6⟩ := gM_get hg'
          subst h6
          have hb := hM i j e ej hj he h5 (by
            unfold memMeets
            rw [meets_of (x := x) (a := e.note.2) (b := ej.note.1 ++ ej.note.2) (lastM_ids hx) (List.mem_append_right _ (lastM_ids hx'))]
            rfl)
          rw [hS' j (by omega)]
          exact hlater hb),
        runS_add hgf hS' hSi (fun j g' x hj hg' hx hx' => by
          obtain ⟨oj, ej, h4, h5, h6⟩ := gF_get hg'
          subst h6
          have hd1 : o.dst = some x := by
            by_cases hd : o.dst = some x ∧ x < n
            · exact hd.1
            · simp [hd] at hx
          have hd2 : oj.dst = some x := by
            by_cases hd : oj.dst = some x ∧ x < n
            · exact hd.1
            · simp [hd] at hx'
          have hb := hS i j o oj hj ho' h4 (by
            unfold tmpsMeet
            rw [hd1, hd2]
            simp)
          rw [hS' j (by omega)]
          exact hlater hb), ← putN_app, ← updM_app]
      exact h2
end
end Go.KM
end
