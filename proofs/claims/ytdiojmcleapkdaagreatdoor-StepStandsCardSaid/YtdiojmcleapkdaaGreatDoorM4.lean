/- The law StepStands of the given program answers true for every input.  Part 4 of 10: K20, K21, K22, K23, K24, K25, K26, K32, K33, PN, K34, K35, S0, C53. -/
import Derived.Test.YtdiojmcleapkdaaGreatDoorM3
import Derived.Scope
import Derived.Extends
import Derived.Below
import Derived.ChangeArms
import Derived.SizedLaws
import Derived.ChangeAgain
import Derived.ChangeShapes
import Derived.OpenShut
import Derived.WideKeyArgs
import Derived.Carry
import Derived.ProofKit
import Derived.RowKit
import Derived.Test.YtdiojmcleapkdaaGreatDoorChecked
set_option linter.all false
section
/- The K machine: what it says of code holds. -/
namespace Go.KM
open Go

/-! Memory is forgotten. -/
theorem leM_get {dom : List Nat} {mem mem' : Mem} (h : leM dom mem mem') {i : Nat} {b : Blk} (hi : getM mem' i = some b) : getM mem i = some b ∧ okBlk dom b = true := by
  induction mem' with
  | nil => cases hi
  | cons p r ih =>
    obtain ⟨j, b'⟩ := p
    unfold leM at h
    split at h
    · rename_i hok
      unfold getM at hi
      split at hi
      · rename_i e
        have e := Nat.eq_of_beq_eq_true e
        subst e
        injection hi with hi
        subst hi
        exact ⟨h.1, hok⟩
      · exact ih h.2 hi
    · exact h.elim
theorem leF_get {dom : List Nat} : ∀ {fr fr' : Fr}, leF dom fr fr' → fr.length = fr'.length ∧ ∀ t, getF fr' t = .any ∨ (getF fr' t = getF fr t ∧ okAV dom (getF fr' t) = true) ∨ (getF fr t = .nils ∧ getF fr' t = .d (.sl [])) := by
  intro fr
  induction fr with
  | nil => intro fr' h; cases fr' with
    | nil => exact ⟨rfl, fun t => .inl (by cases t <;> rfl)⟩
    | cons v' r' => exact h.elim
  | cons v r ih =>
    intro fr' h
    cases fr' with
    | nil => exact h.elim
    | cons v' r' =>
      have key : leF dom r r' ∧ (v' = .any ∨ (v' = v ∧ okAV dom v' = true) ∨ (v = .nils ∧ v' = .d (.sl []))) := by
        unfold leF at h
        split at h
        · contradiction
        · rename_i e1 e2
          cases e1; cases e2
          exact ⟨h, .inl rfl⟩
        · rename_i e1 e2
          cases e1; cases e2
          obtain ⟨h1, h2⟩ := h
          subst h1
          exact ⟨h2, .inr (.inr ⟨rfl, rfl⟩)⟩
        · rename_i e1 e2
          cases e1; cases e2
          split at h
          · rename_i hok
            exact ⟨h.2, .inr (.inl ⟨h.1.symm, hok⟩)⟩
          · exact h.elim
        · exact h.elim
      obtain ⟨h1, h2⟩ := ih key.1
      refine ⟨by simp [h1], fun t => ?_⟩
      cases t with
      | zero => exact key.2
      | succ t => exact h2 t
theorem okBlk_box {dom : List Nat} {cs : List AV} (h : okBlk dom (.box cs) = true) : okAV.okAVs dom cs = true := h

section
variable {P : Program} {B : Base} {st : Start}
theorem RS.forget {ι : Idm} {mem mem' : Mem} {f f' : Nat → AV} {n : Nat} {a : Act} {w : World} (h : RS B st ι (getM mem) f n a w) (hm : leM (ids mem') mem mem')
    (hf : ∀ t, f' t = .any ∨ (f' t = f t ∧ okAV (ids mem') (f' t) = true) ∨ (f t = .nils ∧ f' t = .d (.sl []))) (hk : ∀ i, st.μ i ≠ none → i ∈ ids mem') :
    ∃ ι', RS B st ι' (getM mem') f' n a w := by
  let ι1 : Idm := fun i => if i ∈ ids mem' then ι i else none
  have i1 : ∀ {i}, i ∈ ids mem' → ι1 i = ι i := fun hi => if_pos hi
  have i0 : ∀ {i}, i ∉ ids mem' → ι1 i = none := fun hi => if_neg hi
  have sub : ∀ {i b}, ι1 i = some b → ι i = some b := fun {i b} hi => by
    by_cases e : i ∈ ids mem'
    · rwa [i1 e] at hi
    · rw [i0 e] at hi; cases hi
  have mm : ∀ i, i ∈ ids mem' → getM mem' i = getM mem i ∧ ι1 i = ι i := fun i hi => by
    refine ⟨?_, i1 hi⟩
    cases hb : getM mem' i with
    | none => exact absurd hb (getM_mem.2 hi)
    | some b => rw [(leM_get hm hb).1]
  have him : ∀ b off, imm B ι (getM mem) b off → imm B ι1 (getM mem') b off := fun b off ⟨h1, h2⟩ =>
    ⟨fun id blk e1 e2 => h1 id blk (leM_get hm e1).1 (sub e2), h2⟩
  have hl : Later w w (imm B ι (getM mem)) (imm B ι1 (getM mem')) := ⟨fun b off v hi hc => ⟨hc, him _ _ hi⟩, fun b vs T hb => ⟨vs, hb, rfl⟩⟩
  have hv : ∀ {a : AV} {v : Value}, okAV (ids mem') a = true → RV w (imm B ι (getM mem)) ι (getM mem) a v → RV w (imm B ι1 (getM mem')) ι1 (getM mem') a v :=
    fun hok h => (h.later hl (.refl _ _)).restrict mm hok
  have hmr := h.turn.mr
  refine ⟨ι1, h.defers, h.size, fun t ht => ?_, ⟨⟨hmr.env, hmr.frame, ?_, ?_, ?_, ?_⟩, ⟨?_, ?_⟩, ?_⟩, fun t => ?_⟩
  · rcases hf t with e | ⟨e, _⟩ | ⟨e, _⟩
    · exact e
    · rw [e]; exact h.far t ht
    · rw [h.far t ht] at e; cases e
  · exact fun i j b e1 e2 => hmr.inj i j b (sub e1) (sub e2)
  · intro i
    by_cases e : i ∈ ids mem'
    · rw [(mm i e).1, i1 e]; exact hmr.dom i
    · rw [i0 e]
      cases hb : getM mem' i with
      | none => rfl
      | some b => exact absurd (getM_mem.1 (by rw [hb]; exact fun h => by cases h)) e
  · exact fun i b e => hmr.lives i b (sub e)
  · intro i blk hi
    obtain ⟨h1, hok⟩ := leM_get hm hi
    have hin : i ∈ ids mem' := getM_mem.1 (by rw [hi]; exact fun h => by cases h)
    have hb := hmr.blks i blk h1
    cases blk with
    | box cs =>
      obtain ⟨b, vs, T, e1, e2, e3, e4⟩ := hb
      exact ⟨b, vs, T, by rw [i1 hin]; exact e1, e2, e3, fun m h1 h2 => ⟨(e4 m h1 h2).1, hv (okAVs_get hok m h1) (e4 m h1 h2).2⟩⟩
    | row c xs l =>
      obtain ⟨b, vs, T, e1, e2, e3, e4, e5⟩ := hb
      exact ⟨b, vs, T, by rw [i1 hin]; exact e1, e2, e3, e4, fun m h1 h2 => (e5 m h1 h2).later hl⟩
  · intro i cs hi
    have hin := hk i (by rw [hi]; exact fun h => by cases h)
    obtain ⟨h1, h2⟩ := h.turn.kept.box i cs hi
    rw [(mm i hin).1, i1 hin]
    exact ⟨h1, h2⟩
  · intro i c xs l hi
    have hin := hk i (by rw [hi]; exact fun h => by cases h)
    obtain ⟨xs', l', h1, h2⟩ := h.turn.kept.row i c xs l hi
    rw [(mm i hin).1, i1 hin]
    exact ⟨xs', l', h1, h2⟩
  · exact h.turn.later.trans hl
  · rcases hf t with e | ⟨e, hok⟩ | ⟨e1, e2⟩
    · rw [e]; exact .any _
    rotate_left
    · rw [e2]
      have := h.vals t
      rw [e1] at this
      generalize a.tmps.getD t undef = v at this
      cases this
      exact .d (.nil _ _)
    · have := h.vals t
      rw [← e] at this
      exact hv hok this

theorem RS.drew {ι : Idm} {μ : Mm} {f : Nat → AV} {n : Nat} {a : Act} {w : World} {k : Nat} (h : RS B st ι μ f n a w) : RS B st ι μ f n a { w with drawn := k } where
  defers := h.defers
  size := h.size
  far := h.far
  turn := h.turn.trans (Turn.heap h.mr rfl rfl rfl rfl)
  vals := fun t => (h.vals t).later (later_heap (w := w) (w' := { w with drawn := k }) rfl _) (.refl _ _)

/-- The state is one of those that Q names. -/
def Told (B : Base) (st : Start) (n : Nat) (q : Fr → Mem → Prop) (a : Act) (w : World) : Prop := ∃ fr mem ι, q fr mem ∧ fr.length = n ∧ RS B st ι (getM mem) (getF fr) n a w
def OutR (B : Base) (st : Start) (n : Nat) (Q : Out → Prop) : Exit → Act → World → Prop
  | .normal, a, w => Told B st n (fun fr mem => Q (.normal fr mem)) a w
  | .exit i, a, w => Told B st n (fun fr mem => Q (.exit i fr mem)) a w
  | .ret, a, w => Told B st n (fun fr mem => Q (.ret fr mem)) a w
  | _, _, _ => False

/-- A loop by two counts of one's own. -/
theorem wp_loop_n {Q : Exit → Act → World → Prop} {a : Act} {w : World} {c : Code} (I : Nat → Nat → Act → World → Prop) {n0 k0 : Nat} (h₀ : I n0 k0 a w)
    (round : ∀ n k a w, I n k a w → c.wp P (Exit.then (fun a' w' => ∃ n' k', (n' < n ∨ (n' = n ∧ k' < k)) ∧ I n' k' a' w') Q) a w) : (Code.loop c).wp P Q a w := by
  intro b k cs
  have key : ∀ n j a w, I n j a w →
      ∃ e a' w', Q e a' w' ∧ Arrives P (lone (b.at a (.code c :: .inLoop c :: k)) cs w) b k cs e a' w' := by
    intro n
    induction n using Nat.strongRecOn with
    | _ n ih1 =>
      intro j
      induction j using Nat.strongRecOn with
      | _ j ih2 =>
        intro a w hI
        obtain ⟨e, a₁, w₁, hq, harr⟩ := round n j a w hI b (.inLoop c :: k) cs
        cases e with
        | normal =>
          obtain ⟨n', j', hlt, hI₁⟩ := hq
          have : ∃ e a' w', Q e a' w' ∧ Arrives P (lone (b.at a₁ (.code c :: .inLoop c :: k)) cs w₁) b k cs e a' w' := by
            rcases hlt with hlt | ⟨rfl, hlt⟩
            · exact ih1 n' hlt j' a₁ w₁ hI₁
            · exact ih2 j' hlt a₁ w₁ hI₁
          obtain ⟨e₂, a₂, w₂, hq₂, harr₂⟩ := this
          exact ⟨e₂, a₂, w₂, hq₂, .of_steps (Steps.trans harr (.one step_inLoop)) harr₂⟩
        | exit id => exact ⟨_, a₁, w₁, hq, .pass (x := .inLoop c) rfl (fun _ _ => .inl (by simp)) harr⟩
        | goto l => exact ⟨_, a₁, w₁, hq, .pass (x := .inLoop c) rfl (fun _ _ => .inl (by simp)) harr⟩
        | ret => exact ⟨_, a₁, w₁, hq, .pass (x := .inLoop c) rfl (fun _ _ => .inl (by simp)) harr⟩
        | panic ch => exact ⟨_, a₁, w₁, hq, .pass (x := .inLoop c) rfl (fun _ _ => .inl (by simp)) harr⟩
        | outgrown => exact ⟨_, a₁, w₁, hq, .pass (x := .inLoop c) rfl (fun _ _ => .inl (by simp)) harr⟩
  obtain ⟨e, a', w', hq, harr⟩ := key _ _ a w h₀
  exact ⟨e, a', w', hq, .of_steps (.one step_loop) harr⟩

theorem keepM_get {mem : Mem} {keep : List Nat} (h : keepM mem keep) : ∀ i ∈ keep, i ∈ ids mem := by
  induction keep with
  | nil => intro i hi; cases hi
  | cons j r ih =>
    intro i hi
    rcases List.mem_cons.1 hi with e | e
    · subst e; exact mem_of_contains h.1
    · exact ih h.2 i e

theorem code_sound {G : GW} (hG : Good G B st) (hmix : P.follows .mixedOrders = true) {c : Cx} (hT : TabOk P c.tab) (hE : ExOk P c) (hB : ByOk c) (hC : ∀ f asq F r F', c.C f asq F r F' → Con P G f asq F r F') (hkeep : ∀ i, st.μ i ≠ none → i ∈ c.keep) {n : Nat} {code : Code} :
    ∀ {fr : Fr} {mem : Mem} {Q : Out → Prop} {ι : Idm} {a : Act} {w : World}, awp c code fr mem Q → fr.length = n → RS B st ι (getM mem) (getF fr) n a w → code.wp P (OutR B st n Q) a w := by
  induction code with
  | skip => intro fr mem Q ι a w h hn hs; exact wp_skip ⟨fr, mem, ι, h, hn, hs⟩
  | label l => intro fr mem Q ι a w h hn hs; exact wp_label ⟨fr, mem, ι, h, hn, hs⟩
  | scope x ih =>
    intro fr mem Q ι a w h hn hs
    rw [awp_scope] at h
    refine wp_scope_straight (wp_mono (ih h hn hs) ?_)
    intro e a w hq
    cases e with
    | goto l => exact hq.elim
    | panic ch => exact hq.elim
    | outgrown => exact hq.elim
    | normal => exact hq
    | exit i => exact hq
    | ret => exact hq
  | exit id => intro fr mem Q ι a w h hn hs; exact wp_exit ⟨fr, mem, ι, h, hn, hs⟩
  | ret => intro fr mem Q ι a w h hn hs; exact wp_ret ⟨fr, mem, ι, h, hn, hs⟩
  | region id ops draw =>
    intro fr mem Q ι a w h hn hs
    rw [awp_region] at h
    obtain ⟨es, fr', mem', h1, h2, h3, h4, h5⟩ := opsw_tr (fun _ _ h => by cases h) h
    rw [hn] at h1 h4
    cases draw with
    | false =>
      refine wp_region ?_
      have hr : List.range ops.size = List.range' 0 ops.toList.length := by rw [List.range_eq_range']; simp
      rw [hr]
      exact seq_sound hG hT hE hB hC ops.toList 0 (fun j => by simp) hs h1 (fun ι a w h6 => ⟨fr', mem', ι, h3, by omega, by rw [h4, h5]; exact h6⟩)
    | true =>
      simp only at h3
      split at h3
      · rename_i hok
        rw [Bool.and_eq_true, List.nil_append] at hok
        refine wp_region_any hmix ?_
        refine any_sound hG hT hE hB hC h1 ?_ ?_ ?_ (fun ι a w h6 => ⟨fr', mem', ι, h3, by omega, by rw [h4, h5]; exact h6⟩) ops.size (Array.replicate ops.size false) (ι := ι) (by simp) ?_ ?_ ?_
        · intro i j a b hij ha hb hm
          have := recsOk_spec hok.1 i j a.note b.note hij (by simp [ha]) (by simp [hb]) hm
          rw [Nat.zero_add] at this
          exact befs_bef this
        · intro i j a b hij ha hb hm
          have := (tmpsOk_spec hok.2).1 i j a b hij ha hb hm
          rw [Nat.zero_add] at this
          exact befs_bef this
        · intro i a ha e he
          have := (tmpsOk_spec hok.2).2 i a ha e he
          omega
        · exact cnt_none (fun j => by simp [Array.getD])
        · intro j o _ hl
          simp [Array.getD] at hl
        · have e1 : ∀ {β : Type} (gs : List (Nat → Option β)) (h : Nat → β), runS (fun j => (Array.replicate ops.size false).getD j false) 0 gs h = h := fun gs h => by
            funext x
            exact runS_none (fun j g _ _ => by simp [Array.getD])
          rw [e1, e1]
          exact hs.drew
      · exact h3.elim
  | seq x y ihx ihy =>
    intro fr mem Q ι a w h hn hs
    rw [awp_seq] at h
    refine wp_seq (wp_mono (ihx h hn hs) ?_)
    intro e a w hq
    cases e with
    | normal => obtain ⟨fr', mem', ι', h1, h2, h3⟩ := hq; exact ihy h1 h2 h3
    | exit i => obtain ⟨fr', mem', ι', h1, h2, h3⟩ := hq; exact ⟨fr', mem', ι', h1, h2, h3⟩
    | ret => obtain ⟨fr', mem', ι', h1, h2, h3⟩ := hq; exact ⟨fr', mem', ι', h1, h2, h3⟩
    | goto l => exact hq.elim
    | panic ch => exact hq.elim
    | outgrown => exact hq.elim
  | cond x y z ihy ihz =>
    intro fr mem Q ι a w h hn hs
    rw [awp_cond] at h
    split at h
    · rename_i t ht
      have hv := evF_rv hs.vals x
      rw [← evF_eq, ht] at hv
      have hv := rv_bool hv
      obtain ⟨hA, hB⟩ := h
      exact wp_cond_split hv (fun e => ihy (hA e) hn hs) (fun e => ihz (hB e) hn hs)
    · exact h.elim
  | block id x ih =>
    intro fr mem Q ι a w h hn hs
    rw [awp_block] at h
    refine wp_block (wp_mono (ih h hn hs) ?_)
    intro e a w hq
    cases e with
    | normal => obtain ⟨fr', mem', ι', h1, h2, h3⟩ := hq; exact ⟨fr', mem', ι', h1, h2, h3⟩
    | exit i =>
      obtain ⟨fr', mem', ι', h1, h2, h3⟩ := hq
      simp only at h1
      split at h1
      · rename_i e
        have e := Nat.eq_of_beq_eq_true e
        subst e
        simp only [Exit.inBlock, if_pos]
        exact ⟨fr', mem', ι', h1, h2, h3⟩
      · rename_i e
        have e := Nat.ne_of_beq_eq_false e
        simp only [Exit.inBlock, if_neg e]
        exact ⟨fr', mem', ι', h1, h2, h3⟩
    | ret => obtain ⟨fr', mem', ι', h1, h2, h3⟩ := hq; exact ⟨fr', mem', ι', h1, h2, h3⟩
    | goto l => exact hq.elim
    | panic ch => exact hq.elim
    | outgrown => exact hq.elim
  | loop x ih =>
    intro fr mem Q ι a w h hn hs
    rw [awp_loop] at h
    let step : Step := fun fr mem K => awp c x fr mem fun
      | .normal fr mem => K fr mem
      | .exit i fr mem => Q (.exit i fr mem)
      | .ret fr mem => Q (.ret fr mem)
    let I : Nat → Nat → Act → World → Prop := fun k j a w => match k with
      | 0 => ∃ (σ : Type) (f : σ → Fr) (m : σ → Mem) (inv : σ → Prop) (μ : σ → Nat) (s : σ),
          (∀ s, inv s → step (f s) (m s) fun fr' mem' => ∃ s', inv s' ∧ μ s' < μ s ∧ leF (ids (m s')) fr' (f s') ∧ leM (ids (m s')) mem' (m s') ∧ keepM (m s') c.keep) ∧
          inv s ∧ μ s = j ∧ (f s).length = n ∧ ∃ ι, RS B st ι (getM (m s)) (getF (f s)) n a w
      | k + 1 => j = 0 ∧ ∃ fr mem ι, step fr mem (fun fr' mem' => rollN c.keep step k fr' mem') ∧ fr.length = n ∧ RS B st ι (getM mem) (getF fr) n a w
    have enter : ∀ k {fr mem ι a w}, rollN c.keep step k fr mem → fr.length = n → RS B st ι (getM mem) (getF fr) n a w → ∃ j, I k j a w := by
      intro k fr mem ι a w h hn hs
      cases k with
      | zero =>
        obtain ⟨σ, f, m, inv, μ, s0, hi, hf, hm, hke, hround⟩ := h
        obtain ⟨ι1, hs1⟩ := hs.forget hm (leF_get hf).2 (fun i hi => keepM_get hke i (hkeep i hi))
        exact ⟨μ s0, σ, f, m, inv, μ, s0, hround, hi, rfl, by rw [← (leF_get hf).1]; exact hn, ι1, hs1⟩
      | succ k =>
        obtain ⟨fr1, mem1, hf, hm, hke, h⟩ := h
        obtain ⟨ι1, hs1⟩ := hs.forget hm (leF_get hf).2 (fun i hi => keepM_get hke i (hkeep i hi))
        exact ⟨0, rfl, fr1, mem1, ι1, h, by rw [← (leF_get hf).1]; exact hn, hs1⟩
    obtain ⟨k0, h⟩ := h
    obtain ⟨j0, h0⟩ := enter k0 h hn hs
    refine wp_loop_n I h0 ?_
    intro k j a w hI
    cases k with
    | zero =>
      obtain ⟨σ, f, m, inv, μ, s, hround, h1, h2, h3, ι2, h4⟩ := hI
      subst h2
      refine wp_mono (ih (hround s h1) h3 h4) ?_
      intro e a w hq
      cases e with
      | normal =>
        obtain ⟨fr', mem', ι', ⟨s', g1, g2, g3, g4, g5⟩, h2, h3⟩ := hq
        obtain ⟨ι3, hs3⟩ := h3.forget g4 (leF_get g3).2 (fun i hi => keepM_get g5 i (hkeep i hi))
        exact ⟨0, μ s', .inr ⟨rfl, g2⟩, σ, f, m, inv, μ, s', hround, g1, rfl, by rw [← (leF_get g3).1]; exact h2, ι3, hs3⟩
      | exit i => obtain ⟨fr', mem', ι', h1, h2, h3⟩ := hq; exact ⟨fr', mem', ι', h1, h2, h3⟩
      | ret => obtain ⟨fr', mem', ι', h1, h2, h3⟩ := hq; exact ⟨fr', mem', ι', h1, h2, h3⟩
      | goto l => exact hq.elim
      | panic ch => exact hq.elim
      | outgrown => exact hq.elim
    | succ k =>
      obtain ⟨hj, fr, mem, ι2, h1, h3, h4⟩ := hI
      refine wp_mono (ih h1 h3 h4) ?_
      intro e a w hq
      cases e with
      | normal =>
        obtain ⟨fr', mem', ι', g1, h2, h3⟩ := hq
        obtain ⟨j', h5⟩ := enter k g1 h2 h3
        exact ⟨k, j', .inl (Nat.lt_succ_self k), h5⟩
      | exit i => obtain ⟨fr', mem', ι', h1, h2, h3⟩ := hq; exact ⟨fr', mem', ι', h1, h2, h3⟩
      | ret => obtain ⟨fr', mem', ι', h1, h2, h3⟩ := hq; exact ⟨fr', mem', ι', h1, h2, h3⟩
      | goto l => exact hq.elim
      | panic ch => exact hq.elim
      | outgrown => exact hq.elim
  | _ => intro fr mem Q ι a w h; exact h.elim
end
end Go.KM
end
section
/- The K machine: a function's contract from what its body does. -/
namespace Go.KM
open Go

def loadB (tab : Tab) (t : Nat) (μ : Mm) (a : AV) (K : AV → Prop) : Prop :=
  match tab t, a with
  | some i, .addr id off => match μ id with
    | some (.box cs) => match isStruct i.td with
      | true => dropK off cs fun cs => takeK i.size cs fun cs => K (.agg cs)
      | false => dropK off cs fun cs => takeK 1 cs fun cs => match cs with
        | [v] => frc v K
        | _ => False
    | _ => False
  | _, _ => False
/-- What a function returns. -/
def resK (tab : Tab) (fr : Fr) (μ : Mm) : List ResultVar → (List AV → Prop) → Prop
  | [], K => K []
  | .tmp t :: r, K => frc (getF fr t) fun v => resK tab fr μ r fun l => K (v :: l)
  | .cell x t :: r, K => loadB tab t μ (getF fr x) fun v => resK tab fr μ r fun l => K (v :: l)
def tupOf : List AV → AV
  | [x] => x
  | l => .tup l
/-- A function has come to its end: its value, and the memory F' that the caller gets. -/
def doneK (tab : Tab) (rs : List ResultVar) (F' : Mem) (K : AV → Prop) : Out → Prop
  | .normal fr mem => resK tab fr (getM mem) rs fun vs => argsA (getM mem) (ids F') vs fun l u _ => putMK mem u fun mem' => leM (ids F') mem' F' ∧ K (tupOf l)
  | .ret fr mem => resK tab fr (getM mem) rs fun vs => argsA (getM mem) (ids F') vs fun l u _ => putMK mem u fun mem' => leM (ids F') mem' F' ∧ K (tupOf l)
  | .exit _ _ _ => False
/-- The frame at a function's door. -/
def frm (n : Nat) (l : List AV) : Fr := l ++ List.replicate (n - l.length) .any

section
variable {P : Program} {B : Base} {ι : Idm} {μ : Mm} {w : World}
theorem loadB_spec {tab : Tab} (hT : TabOk P tab) {t : TypeId} {u : AV} {v : Value} {K : AV → Prop} (h : MR B ι μ w) (hx : RV w (imm B ι μ) ι μ u v) (hk : loadB tab t μ u K) :
    ∃ x val ad, K x ∧ v = .pointer (some ad) ∧ (loadVar t ad).run P w = .ok val w ∧ RV w (imm B ι μ) ι μ x val := by
  unfold loadB at hk
  split at hk
  · rename_i i id off ht
    have hti := hT t i ht
    obtain ⟨⟨cs0, hcs0⟩, b, hb, hv⟩ := addr_val hx
    split at hk
    · rename_i cs hcs
      obtain ⟨vs, T, h1, h2, h3⟩ := box_cell (h.blks id _ hcs) hb
      split at hk
      · rename_i htd
        obtain ⟨h4, hk⟩ := dropK_spec hk
        obtain ⟨h5, hk⟩ := takeK_spec hk
        have h6 : off + i.size ≤ cs.length := by simp at h5; omega
        have hr : (loadVar t ⟨b, off, none⟩).run P w = .ok (.agg ((vs.toList.drop off).take i.size).toArray) w := by
          refine run_load_agg hti htd (by simp; omega) (fun m v hm => ?_)
          rw [cell_blk h1]
          have : m < i.size := by
            rcases Nat.lt_or_ge m i.size with h | h
            · exact h
            · rw [List.getElem?_eq_none (by simp; omega)] at hm; cases hm
          rw [List.getElem?_take, if_pos this, List.getElem?_drop] at hm
          simpa using hm
        exact ⟨_, _, _, hk, hv, hr, agg_told h2 h3 h6⟩
      · rename_i hne
        obtain ⟨h4, hk⟩ := dropK_spec hk
        obtain ⟨h5, hk⟩ := takeK_spec hk
        have hlt : off < cs.length := by simp at h5; omega
        have e : (cs.drop off).take 1 = [cs[off]] := by
          rw [List.drop_eq_getElem_cons hlt]; rfl
        rw [e] at hk
        simp only [frc_eq] at hk
        have h6 := (h3 off hlt (by omega)).2
        have hs : isStruct i.td = false := hne
        exact ⟨_, _, _, hk, hv, run_load_one hti hs (by rw [cell_blk h1]; exact Array.getElem?_eq_getElem _), h6⟩
    · exact hk.elim
  · exact hk.elim

def readRes (tmps : Array Value) : ResultVar → Sem Value
  | .tmp t => pure (tmps.getD t undef)
  | .cell a t => do loadVar t (← asAddr (tmps.getD a undef))
theorem results_eq (fn : Func) (tmps : Array Value) : results fn tmps = ((fn.results.mapM (readRes tmps)) >>= fun vs => pure (if h : vs.size = 1 then vs[0] else .tuple vs)) := by
  unfold results
  congr 1

theorem res_spec {tab : Tab} (hT : TabOk P tab) {fr : Fr} {tmps : Array Value} (h : MR B ι μ w) (hv : ∀ t, RV w (imm B ι μ) ι μ (getF fr t) (tmps.getD t undef)) {rs : List ResultVar} :
    ∀ {K : List AV → Prop}, resK tab fr μ rs K → ∃ xs vals, K xs ∧ (rs.mapM (readRes tmps)).run P w = .ok vals w ∧ xs.length = vals.length ∧
      ∀ m (h1 : m < xs.length) (h2 : m < vals.length), RV w (imm B ι μ) ι μ (xs[m]'h1) (vals[m]'h2) := by
  induction rs with
  | nil => intro K hk; exact ⟨[], [], hk, by simp, rfl, fun m h1 => absurd h1 (Nat.not_lt_zero m)⟩
  | cons x r ih =>
    intro K hk
    have hone : ∃ v val, resK tab fr μ r (fun l => K (v :: l)) ∧ (readRes tmps x).run P w = .ok val w ∧ RV w (imm B ι μ) ι μ v val := by
      cases x with
      | tmp t =>
        simp only [resK, frc_eq] at hk
        exact ⟨_, _, hk, by simp [readRes], hv t⟩
      | cell x t =>
        obtain ⟨v, val, ad, h1, h2, h3, h4⟩ := loadB_spec hT h (hv x) hk
        refine ⟨v, val, h1, ?_, h4⟩
        simp only [readRes]
        rw [h2]
        simp [asAddr, h3]
    obtain ⟨v, val, hk, hr, hval⟩ := hone
    obtain ⟨xs, vals, hk, hr2, hl, hvs⟩ := ih hk
    refine ⟨v :: xs, val :: vals, hk, ?_, by simp [hl], fun m h1 h2 => ?_⟩
    · rw [List.mapM_cons]
      simp [hr, hr2]
    · cases m with
      | zero => exact hval
      | succ m => exact hvs m (by simpa using h1) (by simpa using h2)

theorem tup_rv {im : Imm} {xs : List AV} {vals : List Value} (hl : xs.length = vals.length) (hv : ∀ m (h1 : m < xs.length) (h2 : m < vals.length), RV w im ι μ (xs[m]'h1) (vals[m]'h2)) :
    RV w im ι μ (tupOf xs) (if h : vals.toArray.size = 1 then vals.toArray[0] else .tuple vals.toArray) := by
  match xs, vals, hl with
  | [x], [v], _ => exact hv 0 (by simp) (by simp)
  | [], [], _ => exact .tup rfl hv
  | x :: y :: xs, v :: u :: vs, hl =>
    have : ¬ (v :: u :: vs).toArray.size = 1 := by simp
    rw [dif_neg this]
    exact .tup hl hv

theorem frm_get (n : Nat) (asq : List AV) (t : Nat) : getF (frm n asq) t = (asq[t]?).getD .any := by
  have h0 : ∀ (k t : Nat), getF (List.replicate k .any) t = .any := by
    intro k
    induction k with
    | zero => intro t; cases t <;> rfl
    | succ k ih => intro t; cases t with
      | zero => rfl
      | succ t => exact ih t
  unfold frm
  generalize n - asq.length = k
  induction asq generalizing t with
  | nil => simpa using h0 k t
  | cons a r ih => cases t with
    | zero => rfl
    | succ t =>
      show getF (r ++ List.replicate k .any) t = _
      simpa using ih t

/-- A contract, from what the body does. -/
theorem contract_of_awp {G : GW} (hmix : P.follows .mixedOrders = true) {c : Cx} (hT : TabOk P c.tab) (hE : ExOk P c) (hB : ByOk c) (hC : ∀ f asq F r F', c.C f asq F r F' → Con P G f asq F r F') {f : FuncId} {fn : Func} {code : Code} {asq : List AV} {F F' : Mem} {r : AV}
    (hf : P.funcs[f]? = some fn) (hb : fn.body = some code) (hname : (fn.name == "runtime.NumGoroutine") = false) (hkeep : c.keep = ids F) (hkeep' : keepM F' (ids F)) (hlen : asq.length ≤ fn.ntmps)
    (h : awp c code (frm fn.ntmps asq) F (doneK c.tab fn.results.toList F' fun r' => r' = r)) : Con P G f asq F r F' := by
  refine ⟨⟨fn, hf, hname, by rw [hb]; rfl⟩, ?_⟩
  intro w im ι vs hg hlow hmr hl hv
  have hsz : (frm fn.ntmps asq).length = fn.ntmps := by simp [frm]; omega
  refine calls_of_wp hf hb ?_
  have hs : RS (baseOf w im ι) ⟨ι, getM F, w⟩ ι (getM F) (getF (frm fn.ntmps asq)) fn.ntmps { tmps := vs.toArray ++ Array.replicate (fn.ntmps - vs.toArray.size) undef, defers := [] } w := {
    defers := rfl
    size := by simp; omega
    far := fun t ht => getF_far _ _ (by omega)
    turn := .refl hmr
    vals := fun t => by
      rw [frm_get]
      rcases Nat.lt_or_ge t asq.length with hlt | hge
      · have h2 : t < vs.length := by omega
        rw [List.getElem?_eq_getElem hlt, Option.getD_some]
        have : (vs.toArray ++ Array.replicate (fn.ntmps - vs.toArray.size) undef).getD t undef = vs[t] := by
          rw [Array.getD_eq_getD_getElem?, Array.getElem?_append_left (by simpa using h2)]
          simp [h2]
        show RV _ _ _ _ _ ((vs.toArray ++ Array.replicate (fn.ntmps - vs.toArray.size) undef).getD t undef)
        rw [this]
        exact hv t hlt h2
      · rw [List.getElem?_eq_none hge, Option.getD_none]
        exact .any _ }
  have hmain := code_sound (G := G) (st := ⟨ι, getM F, w⟩) ⟨hg, hlow, rfl, fun b hb => hb, hmr⟩ hmix hT hE hB hC (fun i hi => by rw [hkeep]; exact getM_mem.1 hi) h hsz hs
  have fin : ∀ a w', Told (baseOf w im ι) ⟨ι, getM F, w⟩ fn.ntmps (fun fr mem => resK c.tab fr (getM mem) fn.results.toList fun vs => argsA (getM mem) (ids F') vs fun l u _ => putMK mem u fun mem' => leM (ids F') mem' F' ∧ tupOf l = r) a w' →
      a.defers = [] ∧ ∃ v, (results fn a.tmps).run P w' = .ok v w' ∧ ∃ v' ι', (Ending.returned v) = .returned v' ∧ Turn (baseOf w im ι) ι ι' (getM F) (getM F') w w' ∧
        RV w' (imm (baseOf w im ι) ι' (getM F')) ι' (getM F') r v' := by
    rintro a w' ⟨fr, mem, ι1, hq, hn, hs⟩
    obtain ⟨xs, vals, hq, hrun, hl2, hvals⟩ := res_spec hT hs.mr (fun t => hs.vals t) hq
    obtain ⟨ys, u, t, hq, htn, hok, hl3, hys, hd, hg, _⟩ := argsA_spec (dom := ids F') (Lent.refl _) hs.mr hl2 hvals hq
    rw [putMK_eq] at hq
    obtain ⟨hle, hr⟩ := hq
    rw [← getM_putM] at htn hys
    let a2 : Act := { tmps := vals.toArray, defers := [] }
    have hs2 : RS (baseOf w im ι) ⟨ι, getM F, w⟩ ι1 (getM (putM mem u)) (fun t => (ys[t]?).getD .any) vals.length a2 w' := {
      defers := rfl
      size := by simp [a2]
      far := fun t ht => by
        show (ys[t]?).getD .any = .any
        rw [List.getElem?_eq_none (by omega)]
        rfl
      turn := hs.turn.trans htn
      vals := fun t => by
        show RV _ _ _ _ ((ys[t]?).getD .any) _
        rcases Nat.lt_or_ge t ys.length with h1 | h1
        · rw [List.getElem?_eq_getElem h1, Option.getD_some]
          have h2 : t < vals.length := by omega
          have : a2.tmps.getD t undef = vals[t] := by simp [a2, h2]
          rw [this]
          exact hys t h1 h2
        · rw [List.getElem?_eq_none h1]
          exact .any _ }
    obtain ⟨ι', hs3⟩ := hs2.forget (f' := fun t => (ys[t]?).getD .any) hle (fun t => by
      rcases Nat.lt_or_ge t ys.length with h1 | h1
      · refine .inr (.inl ⟨rfl, ?_⟩)
        show okAV _ ((ys[t]?).getD .any) = true
        rw [List.getElem?_eq_getElem h1]
        exact okAVs_get hok t h1
      · refine .inl ?_
        show (ys[t]?).getD .any = .any
        rw [List.getElem?_eq_none h1]
        rfl) (fun i hi => keepM_get hkeep' i (getM_mem.1 hi))
    refine ⟨hs.defers, (if h : vals.toArray.size = 1 then vals.toArray[0] else .tuple vals.toArray), ?_, _, ι', rfl, hs3.turn, ?_⟩
    · rw [results_eq]
      simp only [Array.mapM_eq_mapM_toList, Sem.run_bind]
      simp [hrun]
    · subst hr
      refine tup_rv hl3 (fun m h1 h2 => ?_)
      have := hs3.vals m
      have e1 : (ys[m]?).getD AV.any = ys[m] := by simp [h1]
      have e2 : a2.tmps.getD m undef = vals[m] := by simp [a2, h2]
      rw [e2] at this
      simp only [e1] at this
      exact this
  refine wp_mono hmain ?_
  intro e a w' hq
  cases e with
  | normal => exact fin a w' hq
  | ret => exact fin a w' hq
  | exit id => obtain ⟨_, _, _, h1, _⟩ := hq; exact h1.elim
  | goto l => exact hq.elim
  | panic ch => exact hq.elim
  | outgrown => exact hq.elim
end
end Go.KM
end
section
/- The K machine: the table of types, read off the program. -/
namespace Go.KM
open Go

def zcOf : Value → Option AV
  | .int k n => some (.d (.int k n))
  | .bool b => some (.d (.bool b))
  | .string s => some (.d (.str s))
  | .slice none 0 0 => some .nils
  | .pointer none => some .nilp
  | v => if v.oneCell' then some .any else none
def tdOf : TypeDesc → Option TD
  | .int k => some (.int k)
  | .bool => some .bool
  | .string => some .str
  | .slice e => some (.slice e)
  | .struct fs => some (.struct (fs.toList.map fun f => (f.offset, f.type)))
  | .array n e => some (.array n e)
  | .interface _ => none
  | _ => some .other
def tiOf (P : Program) (t : TypeId) : Option TI :=
  match P.info? t, P.underlying t with
  | some j, some d => match j.zero, tdOf d with
    | some z, some td => match z.cells.toList.mapM zcOf with
      | some zs => if zs.length = j.size ∧ (isStruct td || j.size == 1) = true then some ⟨td, j.size, j.bytes, zs⟩ else none
      | none => none
    | _, _ => none
  | _, _ => none
def look : List (Nat × TI) → Tab
  | [], _ => none
  | (i, x) :: r, n => match Nat.beq i n with
    | true => some x
    | false => look r n
def fieldsOk (l : List (Nat × TI)) : TD → Bool
  | .struct fs => fs.all fun f => match look l f.2 with
    | some i => i.size != 0
    | none => false
  | .array _ e => match look l e with
    | some i => i.size != 0
    | none => false
  | _ => true

theorem look_mem {l : List (Nat × TI)} {n : Nat} {i : TI} (h : look l n = some i) : (n, i) ∈ l := by
  induction l with
  | nil => cases h
  | cons p r ih =>
    obtain ⟨j, x⟩ := p
    unfold look at h
    split at h
    · rename_i e
      have e := Nat.eq_of_beq_eq_true e
      subst e
      injection h with h
      subst h
      exact List.mem_cons_self ..
    · exact List.mem_cons_of_mem _ (ih h)
theorem zcOf_spec {v : Value} {a : AV} (h : zcOf v = some a) : ZC a v := by
  unfold zcOf at h
  split at h
  · injection h with h; subst h; exact ⟨rfl, rfl⟩
  · injection h with h; subst h; rfl
  · injection h with h; subst h; rfl
  · injection h with h; subst h; trivial
  · injection h with h; subst h; trivial
  · split at h
    · rename_i h1
      injection h with h
      subst h
      exact (one_iff _).2 h1
    · cases h
theorem mapM_zc : ∀ {l : List Value} {zs : List AV}, l.mapM zcOf = some zs → zs.length = l.length ∧ ∀ m (h1 : m < zs.length) (h2 : m < l.length), ZC (zs[m]'h1) (l[m]'h2) := by
  intro l
  induction l with
  | nil => intro zs h; simp at h; subst h; exact ⟨rfl, fun m h1 => absurd h1 (Nat.not_lt_zero m)⟩
  | cons v r ih =>
    intro zs h
    rw [List.mapM_cons] at h
    cases ha : zcOf v with
    | none => rw [ha] at h; cases h
    | some a =>
      rw [ha] at h
      cases hr : r.mapM zcOf with
      | none => rw [hr] at h; cases h
      | some zr =>
        rw [hr] at h
        have h : a :: zr = zs := by simpa using h
        subst h
        obtain ⟨h1, h2⟩ := ih hr
        refine ⟨by simp [h1], fun m h3 h4 => ?_⟩
        cases m with
        | zero => exact zcOf_spec ha
        | succ m => exact h2 m (by simpa using h3) (by simpa using h4)

theorem tabOk_of {P : Program} {l : List (Nat × TI)} (h : (l.map fun e => tiOf P e.1) = l.map fun e => some e.2) (h2 : (l.all fun e => fieldsOk l e.2.td) = true) : TabOk P (look l) := by
  have key : ∀ t i, look l t = some i → tiOf P t = some i ∧ fieldsOk l i.td = true := by
    intro t i hi
    have hm := look_mem hi
    refine ⟨?_, List.all_eq_true.1 h2 _ hm⟩
    obtain ⟨k, hk, e⟩ := List.getElem_of_mem hm
    have := congrArg (fun x => x[k]?) h
    simp only [List.getElem?_map, List.getElem?_eq_getElem hk, Option.map_some, e] at this
    injection this
  have info : ∀ t i, tiOf P t = some i → ∃ j d z zs, P.info? t = some j ∧ P.underlying t = some d ∧ j.zero = some z ∧ tdOf d = some i.td ∧ z.cells.toList.mapM zcOf = some zs ∧ zs.length = j.size ∧
      (isStruct i.td || j.size == 1) = true ∧ i.size = j.size ∧ i.bytes = j.bytes ∧ i.zero = zs := by
    intro t i hi
    unfold tiOf at hi
    split at hi
    · rename_i j d h1 h2
      split at hi
      · rename_i z td h3 h4
        split at hi
        · rename_i zs h5
          split at hi
          · rename_i hc
            injection hi with hi
            subst hi
            exact ⟨j, d, z, zs, h1, h2, h3, h4, h5, hc.1, hc.2, rfl, rfl, rfl⟩
          · cases hi
        · cases hi
      · cases hi
    · cases hi
  intro t i hi
  obtain ⟨hti, hfo⟩ := key t i hi
  obtain ⟨j, d, z, zs, h1, h2, h3, h4, h5, h6, h7, e1, e2, e3⟩ := info t i hti
  obtain ⟨h8, h9⟩ := mapM_zc h5
  refine ⟨⟨j, h1, e1.symm, e2.symm, z, h3, ?_, ?_⟩, by rw [e3, e1, h6], ?_, fun hs => ?_⟩
  · rw [e3, h8]; simp
  · rw [e3]
    intro m k1 k2
    have := h9 m k1 (by simpa using k2)
    rwa [Array.getElem_toList] at this
  · generalize htd : i.td = td at *
    cases d <;> simp only [tdOf] at h4 <;> first
      | (injection h4 with h4; subst h4; first | exact h2 | exact ⟨_, h2, trivial⟩ | skip)
      | cases h4
    rename_i fields
    refine ⟨fields, h2, rfl, fun f hf => ?_⟩
    have h10 := List.all_eq_true.1 hfo (f.offset, f.type) (List.mem_map.2 ⟨f, hf, rfl⟩)
    simp only at h10
    split at h10
    · rename_i fi hfi
      obtain ⟨hk, _⟩ := key _ _ hfi
      obtain ⟨j2, d2, z2, zs2, g1, g2, g3, g4, g5, g6, g7, g8, g9, g10⟩ := info _ _ hk
      exact ⟨fi, j2, hfi, g1, g8.symm, by simpa using h10⟩
    · cases h10
  · have : isStruct i.td = false := by
      cases htd : i.td <;> first | rfl | (rw [htd] at hs; cases hs)
    rw [this] at h7
    rw [e1]
    simpa using h7

/-! What is asked beside: structs compared number by number, methods behind interfaces. -/
def eqOkB (P : Program) (t n : Nat) : Bool :=
  match P.underlying t with
  | some (.struct fs) => Nat.beq fs.toList.length n && (List.range n).all (fun i => match fs.toList[i]? with
      | some f => f.name != "_" && f.offset == i && (match P.underlying f.type with | some (.int _) => true | _ => false)
      | none => false) && !P.stoodInHeld t && !P.eqGuardType P.depth t
  | _ => false
theorem eqOk_of {P : Program} {t n : Nat} (h : eqOkB P t n = true) : EqOk P t n := by
  unfold eqOkB at h
  split at h
  · rename_i fs hd
    simp only [Bool.and_eq_true, Bool.not_eq_true'] at h
    obtain ⟨⟨⟨h1, h2⟩, h3⟩, h4⟩ := h
    have h1 := Nat.eq_of_beq_eq_true h1
    refine ⟨⟨fs.toList, by simpa using hd, h1, fun i hi => ?_⟩, h3, h4⟩
    have := List.all_eq_true.1 h2 i (List.mem_range.2 (by omega))
    rw [List.getElem?_eq_getElem hi] at this
    simp only [Bool.and_eq_true] at this
    obtain ⟨⟨g1, g2⟩, g3⟩ := this
    refine ⟨by simpa using g1, by simpa using g2, ?_⟩
    split at g3
    · rename_i k hk; exact ⟨k, hk⟩
    · cases g3
  · cases h
def methOkB (P : Program) (t : Nat) (s : String) (f : FuncId) : Bool :=
  match P.info? t, P.underlying t with
  | some j, some d => (match j.methods.find? (·.name == s) with
      | some m => m.path.isEmpty && (match m.func with | some (g, false) => Nat.beq g f | _ => false)
      | none => false) && (match d with | .pointer _ => false | _ => true)
  | _, _ => false
theorem methOk_of {P : Program} {t : Nat} {s : String} {f : FuncId} (h : methOkB P t s f = true) : MethOk P t s f := by
  unfold methOkB at h
  split at h
  · rename_i j d h1 h2
    rw [Bool.and_eq_true] at h
    obtain ⟨h3, h4⟩ := h
    split at h3
    · rename_i m hm
      rw [Bool.and_eq_true] at h3
      obtain ⟨h5, h6⟩ := h3
      split at h6
      · rename_i g hg
        have := Nat.eq_of_beq_eq_true h6
        subst this
        exact ⟨⟨j, m, h1, hm, by simpa using h5, hg⟩, d, h2, by cases d <;> first | trivial | cases h4⟩
      · cases h6
    · cases h3
  · cases h
def lookE : List (Nat × Nat) → Nat → Option Nat
  | [], _ => none
  | (i, x) :: r, n => match Nat.beq i n with
    | true => some x
    | false => lookE r n
def lookMe : List (Nat × String × FuncId) → Nat → String → Option FuncId
  | [], _, _ => none
  | (t, s, f) :: r, t', s' => match Nat.beq t t', decide (s = s') with
    | true, true => some f
    | _, _ => lookMe r t' s'
theorem lookE_mem {l : List (Nat × Nat)} {t n : Nat} (h : lookE l t = some n) : (t, n) ∈ l := by
  induction l with
  | nil => cases h
  | cons p r ih =>
    obtain ⟨i, x⟩ := p
    unfold lookE at h
    split at h
    · rename_i e
      have e := Nat.eq_of_beq_eq_true e
      subst e
      injection h with h
      subst h
      exact List.mem_cons_self ..
    · exact List.mem_cons_of_mem _ (ih h)
theorem lookMe_mem {l : List (Nat × String × FuncId)} {t : Nat} {s : String} {f : FuncId} (h : lookMe l t s = some f) : (t, s, f) ∈ l := by
  induction l with
  | nil => cases h
  | cons p r ih =>
    obtain ⟨i, x, g⟩ := p
    unfold lookMe at h
    split at h
    · rename_i e1 e2
      have e1 := Nat.eq_of_beq_eq_true e1
      have e2 := of_decide_eq_true e2
      subst e1; subst e2
      injection h with h
      subst h
      exact List.mem_cons_self ..
    · exact List.mem_cons_of_mem _ (ih h)
theorem exOk_of {P : Program} {c : Cx} {le : List (Nat × Nat)} {lm : List (Nat × String × FuncId)} (he : c.eqs = lookE le) (hm : c.meth = lookMe lm) (h1 : (le.all fun e => eqOkB P e.1 e.2) = true) (h2 : (lm.all fun e => methOkB P e.1 e.2.1 e.2.2) = true) : ExOk P c where
  eqs := fun t n h => eqOk_of (List.all_eq_true.1 h1 _ (lookE_mem (by rw [← he]; exact h)))
  meth := fun t s f h => methOk_of (List.all_eq_true.1 h2 _ (lookMe_mem (by rw [← hm]; exact h)))
def avBytes : Nat → List AV → Bool
  | 0, [] => true
  | n + 1, .d (.int .u8 0) :: r => avBytes n r
  | _, _ => false
theorem avBytes_spec {n : Nat} {l : List AV} (h : avBytes n l = true) : l = List.replicate n (.d (.int .u8 0)) := by
  induction n generalizing l with
  | zero => cases l with
    | nil => rfl
    | cons x r => cases h
  | succ n ih =>
    unfold avBytes at h
    split at h
    · rename_i e; cases e
    · rename_i n' r e
      injection e with e
      subst e
      rw [ih h, List.replicate_succ]
    · cases h
theorem byOk_of {c : Cx} {l : List (Nat × TI)} (ht : c.tab = look l) (h : (l.all fun e => match byteArr (look l) e.1 with | some n => avBytes n e.2.zero | none => true) = true) : ByOk c where
  zero := fun t n i h1 h2 => by
    rw [ht] at h1 h2
    have := List.all_eq_true.1 h _ (look_mem h2)
    simp only [h1] at this
    exact avBytes_spec this
end Go.KM
end
section
/- The K machine: contracts under other names of memory. -/
namespace Go.KM
open Go

def renAV (σ : Nat → Nat) : AV → AV
  | .addr i o => .addr (σ i) o
  | .el i j o c l => .el (σ i) j o c l
  | .own i l c => .own (σ i) l c
  | .agg cs => .agg (renAVs σ cs)
  | .tup vs => .tup (renAVs σ vs)
  | .iface t v => .iface t (renAV σ v)
  | .clo f cs => .clo f (renAVs σ cs)
  | .any => .any
  | .d x => .d x
  | .nils => .nils
  | .nilp => .nilp
  | .ro cs => .ro cs
  | .fn f => .fn f
  where renAVs (σ : Nat → Nat) : List AV → List AV
  | [] => []
  | v :: r => renAV σ v :: renAVs σ r
def renBlk (σ : Nat → Nat) : Blk → Blk
  | .box cs => .box (renAV.renAVs σ cs)
  | .row c xs l => .row c xs l
def renMem (σ : Nat → Nat) : Mem → Mem
  | [] => []
  | (i, b) :: r => (σ i, renBlk σ b) :: renMem σ r

theorem renAVs_length (σ : Nat → Nat) (cs : List AV) : (renAV.renAVs σ cs).length = cs.length := by
  induction cs with
  | nil => rfl
  | cons v r ih => simp [renAV.renAVs, ih]
theorem renAVs_get (σ : Nat → Nat) (cs : List AV) (m : Nat) (h : m < (renAV.renAVs σ cs).length) (h' : m < cs.length) : (renAV.renAVs σ cs)[m] = renAV σ cs[m] := by
  induction cs generalizing m with
  | nil => exact absurd h' (Nat.not_lt_zero m)
  | cons v r ih => cases m with
    | zero => rfl
    | succ m => exact ih m (by simpa [renAV.renAVs] using h) (by simpa using h')

/-- Names are exchanged. -/
structure Swap (σ τ : Nat → Nat) : Prop where
  st : ∀ i, σ (τ i) = i
  ts : ∀ i, τ (σ i) = i
theorem Swap.symm {σ τ : Nat → Nat} (h : Swap σ τ) : Swap τ σ := ⟨h.ts, h.st⟩

mutual
theorem renAV_back {σ τ : Nat → Nat} (h : Swap σ τ) : ∀ a : AV, renAV τ (renAV σ a) = a
  | .addr i o => by simp [renAV, h.ts]
  | .el i j o c l => by simp [renAV, h.ts]
  | .own i l c => by simp [renAV, h.ts]
  | .agg cs => by simp [renAV, renAVs_back h cs]
  | .tup vs => by simp [renAV, renAVs_back h vs]
  | .iface t v => by simp [renAV, renAV_back h v]
  | .clo f cs => by simp [renAV, renAVs_back h cs]
  | .any => rfl
  | .d x => rfl
  | .nils => rfl
  | .nilp => rfl
  | .ro cs => rfl
  | .fn f => rfl
theorem renAVs_back {σ τ : Nat → Nat} (h : Swap σ τ) : ∀ l : List AV, renAV.renAVs τ (renAV.renAVs σ l) = l
  | [] => rfl
  | v :: r => by simp [renAV.renAVs, renAV_back h v, renAVs_back h r]
end
theorem renBlk_back {σ τ : Nat → Nat} (h : Swap σ τ) (b : Blk) : renBlk τ (renBlk σ b) = b := by
  cases b with
  | box cs => simp [renBlk, renAVs_back h]
  | row c xs l => rfl

def renM (σ τ : Nat → Nat) (μ : Mm) : Mm := fun j => (μ (τ j)).map (renBlk σ)
def renI (τ : Nat → Nat) (ι : Idm) : Idm := fun j => ι (τ j)
theorem renM_back {σ τ : Nat → Nat} (h : Swap σ τ) (μ : Mm) : renM τ σ (renM σ τ μ) = μ := by
  funext i
  unfold renM
  rw [h.ts]
  cases μ i with
  | none => rfl
  | some b => simp [renBlk_back h]
theorem renI_back {σ τ : Nat → Nat} (h : Swap σ τ) (ι : Idm) : renI σ (renI τ ι) = ι := by
  funext i
  unfold renI
  rw [h.ts]
theorem getM_ren {σ τ : Nat → Nat} (h : Swap σ τ) (F : Mem) : getM (renMem σ F) = renM σ τ (getM F) := by
  funext j
  unfold renM
  induction F with
  | nil => rfl
  | cons p r ih =>
    obtain ⟨i, b⟩ := p
    simp only [renMem, getM]
    by_cases e : σ i = j
    · subst e
      rw [h.ts]
      simp
    · have e2 : i ≠ τ j := fun e2 => e (by rw [e2, h.st])
      rw [beq_no e, beq_no e2]
      exact ih

section
variable {σ τ : Nat → Nat}
theorem RV.ren {w : World} {im : Imm} {ι : Idm} {μ : Mm} (h : Swap σ τ) {a : AV} {v : Value} (hv : RV w im ι μ a v) : RV w im (renI τ ι) (renM σ τ μ) (renAV σ a) v := by
  have hm : ∀ {i b}, μ i = some b → renM σ τ μ (σ i) = some (renBlk σ b) := fun {i b} e => by unfold renM; rw [h.ts, e]; rfl
  have hi : ∀ i, renI τ ι (σ i) = ι i := fun i => by unfold renI; rw [h.ts]
  induction hv with
  | any v => exact .any v
  | d h => exact .d h
  | nils => exact .nils
  | nilp => exact .nilp
  | addr hl h1 =>
    obtain ⟨cs, hl⟩ := hl
    exact .addr ⟨_, hm hl⟩ (by rw [hi]; exact h1)
  | ro vs h1 h2 => exact .ro vs h1 h2
  | el hl hle h1 => exact .el (hm hl) hle (fun e => by rw [hi]; exact h1 e)
  | own hl hle hcap h1 => exact .own (hm hl) hle hcap (fun e => by rw [hi]; exact h1 e)
  | agg hl h1 _ ih => exact .agg (by rw [renAVs_length]; exact hl) h1 (fun m h2 h3 => by rw [renAVs_get _ _ _ _ (by rwa [renAVs_length] at h2)]; exact ih m _ h3)
  | tup hl _ ih => exact .tup (by rw [renAVs_length]; exact hl) (fun m h2 h3 => by rw [renAVs_get _ _ _ _ (by rwa [renAVs_length] at h2)]; exact ih m _ h3)
  | fn f => exact .fn f
  | iface _ ih => exact .iface ih
  | clo f hl _ ih => exact .clo f (by rw [renAVs_length]; exact hl) (fun m h2 h3 => by rw [renAVs_get _ _ _ _ (by rwa [renAVs_length] at h2)]; exact ih m _ h3)

theorem imm_ren (h : Swap σ τ) (B : Base) (ι : Idm) (μ : Mm) : imm B (renI τ ι) (renM σ τ μ) = imm B ι μ := by
  funext b off
  refine propext ⟨fun ⟨h1, h2⟩ => ⟨fun id blk e1 e2 => ?_, h2⟩, fun ⟨h1, h2⟩ => ⟨fun id blk e1 e2 => ?_, h2⟩⟩
  · obtain ⟨c, xs, e3, e4⟩ := h1 (σ id) (renBlk σ blk) (by unfold renM; rw [h.ts, e1]; rfl) (by unfold renI; rw [h.ts]; exact e2)
    cases blk with
    | box cs => cases e3
    | row c2 xs2 l2 => exact ⟨c, xs, e3, e4⟩
  · unfold renM at e1
    unfold renI at e2
    cases hb : μ (τ id) with
    | none => rw [hb] at e1; cases e1
    | some b0 =>
      rw [hb] at e1
      obtain ⟨c, xs, e3, e4⟩ := h1 (τ id) b0 hb e2
      subst e3
      injection e1 with e1
      exact ⟨c, xs, e1.symm, e4⟩

theorem MR.ren (h : Swap σ τ) {B : Base} {ι : Idm} {μ : Mm} {w : World} (hm : MR B ι μ w) : MR B (renI τ ι) (renM σ τ μ) w where
  env := hm.env
  frame := hm.frame
  inj := fun i j b h1 h2 => by
    have := hm.inj _ _ b h1 h2
    rw [← h.st i, ← h.st j, this]
  dom := fun i => by
    unfold renI renM
    rw [hm.dom]
    cases μ (τ i) <;> rfl
  lives := fun i b hi => hm.lives _ b hi
  blks := fun j blk hj => by
    rw [imm_ren h]
    unfold renM at hj
    cases hb : μ (τ j) with
    | none => rw [hb] at hj; cases hj
    | some b0 =>
      rw [hb] at hj
      injection hj with hj
      subst hj
      have := hm.blks _ _ hb
      cases b0 with
      | box cs =>
        obtain ⟨b, vs, T, h1, h2, h3, h4⟩ := this
        exact ⟨b, vs, T, h1, h2, by rw [renAVs_length]; exact h3, fun m h5 h6 => by
          have h7 : m < cs.length := by rwa [renAVs_length] at h5
          rw [renAVs_get _ _ _ _ h7]
          exact ⟨(h4 m h7 h6).1, (h4 m h7 h6).2.ren h⟩⟩
      | row c xs l => exact this

theorem Turn.ren (h : Swap σ τ) {B : Base} {ι ι2 : Idm} {μ μ2 : Mm} {w w2 : World} (ht : Turn B ι ι2 μ μ2 w w2) : Turn B (renI τ ι) (renI τ ι2) (renM σ τ μ) (renM σ τ μ2) w w2 where
  mr := ht.mr.ren h
  kept := by
    constructor
    · intro i cs hi
      unfold renM at hi
      cases hb : μ (τ i) with
      | none => rw [hb] at hi; cases hi
      | some b0 =>
        rw [hb] at hi
        injection hi with hi
        cases b0 with
        | row c xs l => cases hi
        | box cs0 =>
          obtain ⟨⟨cs1, h1⟩, h2⟩ := ht.kept.box _ _ hb
          exact ⟨⟨renAV.renAVs σ cs1, by unfold renM; rw [h1]; rfl⟩, h2⟩
    · intro i c xs l hi
      unfold renM at hi
      cases hb : μ (τ i) with
      | none => rw [hb] at hi; cases hi
      | some b0 =>
        rw [hb] at hi
        injection hi with hi
        cases b0 with
        | box cs0 => cases hi
        | row c0 xs0 l0 =>
          injection hi with e1 e2 e3
          subst e1 e2 e3
          obtain ⟨xs1, l1, h1, h2⟩ := ht.kept.row _ _ _ _ hb
          exact ⟨xs1, l1, by unfold renM; rw [h1]; rfl, h2⟩
  later := by rw [imm_ren h, imm_ren h]; exact ht.later

theorem baseOf_ren (h : Swap σ τ) (w : World) (im : Imm) (ι : Idm) : baseOf w im (renI τ ι) = baseOf w im ι := by
  unfold baseOf
  congr 1
  funext b
  refine propext ⟨fun ⟨i, hi⟩ => ⟨τ i, hi⟩, fun ⟨i, hi⟩ => ⟨σ i, by unfold renI; rw [h.ts]; exact hi⟩⟩

/-- A contract holds under other names too. -/
theorem Contract.ren {P : Program} {G : GW} (h : Swap σ τ) {f : FuncId} {vs0 : List AV} {F : Mem} {r : AV} {F' : Mem} (hc : Contract P G f vs0 F r F') :
    Contract P G f (renAV.renAVs σ vs0) (renMem σ F) (renAV σ r) (renMem σ F') := by
  intro w im ι vs hg hlow hmr hl hv
  rw [getM_ren h] at hmr hv ⊢
  have hmr2 := hmr.ren h.symm
  rw [renM_back h, ← baseOf_ren h.symm] at hmr2
  refine (hc w im (renI σ ι) vs hg (fun i b hi => hlow _ b hi) hmr2 (by rw [← hl, renAVs_length]) (fun m h1 h2 => ?_)).mono ?_
  · have h3 : m < (renAV.renAVs σ vs0).length := by rw [renAVs_length]; exact h1
    have := (hv m h3 h2).ren h.symm
    rw [renAVs_get _ _ _ _ h1, renAV_back h, renM_back h] at this
    have e := imm_ren h.symm (baseOf w im ι) ι (renM σ τ (getM F))
    rw [renM_back h] at e
    rw [baseOf_ren h.symm, e]
    exact this
  · rintro e w' ⟨v, ι', rfl, ht, hr⟩
    refine ⟨v, renI τ ι', rfl, ?_, ?_⟩
    · have := ht.ren h
      rw [renI_back h.symm, baseOf_ren h.symm] at this
      rw [getM_ren h]
      exact this
    · have := hr.ren h
      rw [baseOf_ren h.symm] at this
      rw [getM_ren h, imm_ren h]
      exact this
end

/-- A call that hands over new memory. -/
theorem VCall.new {μ : Mm} {C : List AV → Mem → AV → Mem → Prop} {raw : List AV} {K : AV → Mem → List Nat → Prop} (id : Nat) (b : Blk) (r : AV) (hn : μ id = none)
    (h : argsA μ [] raw fun l u t => C l [] r [(id, b)] ∧ K r (u ++ [(id, b)]) (t ++ [] ++ [id])) : VCall μ C raw K :=
  .mk [] r [(id, b)] trivial rfl ⟨.inr hn, trivial⟩ (fun _ h => by cases h) (List.nodup_cons.2 ⟨by simp, .nil⟩) .nil h
def swp (a b : Nat) : Nat → Nat := fun i => if i = a then b else if i = b then a else i
theorem swp_swap (a b : Nat) : Swap (swp a b) (swp a b) := by
  have : ∀ i, swp a b (swp a b i) = i := by
    intro i
    unfold swp
    by_cases h1 : i = a
    · subst h1
      by_cases h2 : b = i
      · simp [h2]
      · simp [h2]
    · by_cases h2 : i = b
      · subst h2; simp [h1]
      · simp [h1, h2]
  exact ⟨this, this⟩
theorem swp_a (a b : Nat) : swp a b a = b := by simp [swp]
theorem Con.ren {P : Program} {G : GW} {σ τ : Nat → Nat} (h : Swap σ τ) {f : FuncId} {vs : List AV} {F : Mem} {r : AV} {F' : Mem} (hc : Con P G f vs F r F') :
    Con P G f (renAV.renAVs σ vs) (renMem σ F) (renAV σ r) (renMem σ F') := ⟨hc.1, hc.2.ren h⟩
end Go.KM
end
section
/- The K machine: what a call hands over as its own may be told as data. -/
namespace Go.KM
open Go

theorem Contract.lend {P : Program} {G : GW} {f : FuncId} {asq : List AV} {d n c : Nat} {xs : List (List D)} (hn : xs.length = n) (hc : Contract P G f asq [] (.own d n c) [(d, .row c xs false)]) : Contract P G f asq [] (.d (.sl xs)) [] := by
  subst hn
  intro w im ι vs hg hlow hmr hl hv
  refine (hc w im ι vs hg hlow hmr hl hv).mono ?_
  rintro e w' ⟨v, ι', rfl, ht, hr⟩
  cases hr with
  | own hm hle hcap hx =>
    rename_i b cap c' xs' l
    have hm2 : getM [(d, Blk.row c xs false)] d = some (.row c xs false) := by simp [getM]
    rw [hm2] at hm
    injection hm with hm
    injection hm with e1 e2 e3
    subst e1 e2
    obtain ⟨h1, _, vs2, T, h2, h3⟩ := hx rfl
    have hlend := Turn.lend ht.mr hm2
    have hrd := lent_rd hlend.mr (upd1_same _ _ _) h1 (show xs.length ≤ cap by omega)
    have ht2 := ht.trans hlend
    let a2 : Act := { tmps := #[.slice (some ⟨b, 0, none⟩) xs.length cap], defers := [] }
    have hs2 : RS (baseOf w im ι) ⟨ι, getM [], w⟩ ι' (getM [(d, .row c xs true)]) (fun t => (([AV.d (.sl xs)] : List AV)[t]?).getD .any) 1 a2 w' := {
      defers := rfl
      size := rfl
      far := fun t ht => by
        show (([AV.d (.sl xs)] : List AV)[t]?).getD .any = .any
        rw [List.getElem?_eq_none (by simpa using ht)]
        rfl
      turn := by
        have e : getM [(d, Blk.row c xs true)] = upd1 (getM [(d, .row c xs false)]) d (.row c xs true) := by
          funext i
          unfold upd1
          by_cases hi : d = i
          · subst hi; simp [getM]
          · simp [getM, beq_no hi, hi]
        rw [e]
        exact ht2
      vals := fun t => by
        cases t with
        | zero =>
          have e : getM [(d, Blk.row c xs true)] = upd1 (getM [(d, .row c xs false)]) d (.row c xs true) := by
            funext i
            unfold upd1
            by_cases hi : d = i
            · subst hi; simp [getM]
            · simp [getM, beq_no hi, hi]
          rw [e]
          exact .d hrd
        | succ t => exact .any _ }
    obtain ⟨ι2, hs3⟩ := hs2.forget (mem' := []) (f' := fun t => (([AV.d (.sl xs)] : List AV)[t]?).getD .any) trivial (fun t => by
      cases t with
      | zero => exact .inr (.inl ⟨rfl, rfl⟩)
      | succ t => exact .inl rfl) (fun i hi => absurd rfl hi)
    refine ⟨_, ι2, rfl, hs3.turn, ?_⟩
    exact hs3.vals 0
theorem Con.lend {P : Program} {G : GW} {f : FuncId} {asq : List AV} {d n c : Nat} {xs : List (List D)} (hn : xs.length = n) (hc : Con P G f asq [] (.own d n c) [(d, .row c xs false)]) : Con P G f asq [] (.d (.sl xs)) [] := ⟨hc.1, hc.2.lend hn⟩
end Go.KM
end
section
/- The K machine: contracts from walks by other means: scalars in, scalars out, all that was there stands. -/
namespace Go.KM
open Go
/-- The world has more blocks. -/
theorem Turn.ext {B : Base} {ι : Idm} {μ : Mm} {w w' : World} (h : MR B ι μ w) (e : w.Extends w') : Turn B ι ι μ μ w w' := by
  have hl : Later w w' (imm B ι μ) (imm B ι μ) := by
    constructor
    · intro b off v hi hc
      have hlt : b < w.heap.size := cell_lt hc
      exact ⟨by rw [e.cell ⟨b, off, none⟩ hlt]; exact hc, hi⟩
    · intro b vs T hb
      exact ⟨vs, by rw [e.block b (blk_lt hb)]; exact hb, rfl⟩
  refine ⟨?_, .refl _ _, hl⟩
  constructor
  · exact ⟨e.os.trans h.env.os, e.tape.trans h.env.tape, e.output.trans h.env.output, Nat.le_trans h.env.size e.size⟩
  · intro b hb1 hb2
    rw [e.block b (Nat.lt_of_lt_of_le hb1 h.env.size)]
    exact h.frame b hb1 hb2
  · exact h.inj
  · exact h.dom
  · intro i b hi
    obtain ⟨h1, h2⟩ := h.lives i b hi
    exact ⟨Nat.lt_of_lt_of_le h1 e.size, h2⟩
  · intro i b hi
    obtain ⟨g, vs, T, h1, h2, h3⟩ := BlkR_iff.1 (h.blks i b hi)
    exact BlkR_iff.2 ⟨g, vs, T, h1, by rw [e.block g (blk_lt h2)]; exact h2, h3.later hl (.refl _ _)⟩
/-- A scalar's value. -/
def sv : AV → Option Value
  | .d (.int k n) => some (.int k n)
  | .d (.bool b) => some (.bool b)
  | .d (.str s) => some (.string s)
  | _ => none
def svs : List AV → Option (List Value)
  | [] => some []
  | a :: r => match sv a, svs r with
    | some v, some vs => some (v :: vs)
    | _, _ => none
theorem sv_rv {w : World} {im : Imm} {ι : Idm} {μ : Mm} {a : AV} {v : Value} (h : sv a = some v) : RV w im ι μ a v := by
  unfold sv at h
  split at h
  · cases h; exact .d (.int _ _)
  · cases h; exact .d (.bool _)
  · cases h; exact .d (.str _)
  · cases h
theorem rv_sv {w : World} {im : Imm} {ι : Idm} {μ : Mm} {a : AV} {v v' : Value} (h : sv a = some v) (hr : RV w im ι μ a v') : v' = v := by
  unfold sv at h
  split at h
  · cases h; exact rv_int hr
  · cases h; exact rv_bool hr
  · cases h; exact rv_str hr
  · cases h
theorem svs_len : ∀ {asq : List AV} {vs : List Value}, svs asq = some vs → asq.length = vs.length
  | [], vs, h => by cases h; rfl
  | a :: r, vs, h => by
    unfold svs at h
    split at h
    · rename_i v vs' h1 h2
      cases h
      simp [svs_len h2]
    · cases h
theorem svs_get : ∀ {asq : List AV} {vs : List Value}, svs asq = some vs → ∀ m (h1 : m < asq.length) (h2 : m < vs.length), sv (asq[m]'h1) = some (vs[m]'h2)
  | [], vs, h, m, h1, _ => absurd h1 (Nat.not_lt_zero m)
  | a :: r, vs, h, m, h1, h2 => by
    unfold svs at h
    split at h
    · rename_i v vs' e1 e2
      cases h
      cases m with
      | zero => exact e1
      | succ m => exact svs_get e2 m (by simpa using h1) (by simpa using h2)
    · cases h
/-- A result of scalars. -/
def svr : AV → Option Value
  | .tup vs => (svs vs).map fun l => .tuple l.toArray
  | a => sv a
theorem svr_rv {w : World} {im : Imm} {ι : Idm} {μ : Mm} {a : AV} {v : Value} (h : svr a = some v) : RV w im ι μ a v := by
  unfold svr at h
  split at h
  · rename_i vs
    cases hs : svs vs with
    | none => rw [hs] at h; cases h
    | some l =>
      rw [hs] at h
      cases h
      exact .tup (svs_len hs) fun m h1 h2 => sv_rv (svs_get hs m h1 h2)
  · exact sv_rv h
theorem Con.of_calls {P : Program} {G : GW} {f : FuncId} {asq : List AV} {r : AV} {vs : List Value} {v : Value} (hok : CallOk P f) (ha : svs asq = some vs) (hr : svr r = some v)
    (h : ∀ w, G.ok w → Calls P f vs.toArray w fun e w' => e = .returned v ∧ w.Extends w') : Con P G f asq [] r [] := by
  refine ⟨hok, fun w im ι vs' hw hlow hm hlen hv => ?_⟩
  have e : vs' = vs := by
    apply List.ext_getElem
    · rw [← hlen, svs_len ha]
    · intro m h1 h2
      exact rv_sv (svs_get ha m (by omega) h2) (hv m (by omega) h1)
  subst e
  refine (h w hw).mono ?_
  rintro e w' ⟨rfl, he⟩
  exact ⟨v, ι, rfl, .ext hm he, svr_rv hr⟩
end Go.KM
end
section
/- The K machine: calls with memory of one's own that keeps its names; what is not changed is not told anew. -/
namespace Go.KM
open Go
theorem newM_same {μ : Nat → Option Blk} {F : Mem} : ∀ {F' : Mem}, (∀ i, i ∈ ids F' → i ∈ ids F) → newM μ F F'
  | [], _ => trivial
  | (i, b) :: r, h => ⟨.inl (getM_mem.2 (h i (by simp [ids]))), newM_same fun j hj => h j (by simp only [ids, List.map_cons, List.mem_cons]; exact .inr hj)⟩
theorem argsA_imp {μ : Mm} {dom : List Nat} {raw : List AV} {K K' : List AV → Mem → List Nat → Prop} (hk : ∀ l u t, K l u t → K' l u t) (h : argsA μ dom raw K) : argsA μ dom raw K' := by
  obtain ⟨l, u, t, h, h1⟩ := argsA_loc h
  exact h1 μ K' (fun _ _ => rfl) (hk _ _ _ h)
/-- What D tells of F', the rest as it was. -/
def deltaM (F D : Mem) : Mem → Prop
  | [] => True
  | (i, b) :: r => (getM D i = some b ∨ (getM D i = none ∧ getM F i = some b)) ∧ deltaM F D r
theorem deltaM_get {F D : Mem} : ∀ {F' : Mem}, deltaM F D F' → ∀ {i b}, getM F' i = some b → getM D i = some b ∨ (getM D i = none ∧ getM F i = some b)
  | [], _, i, b, h => by cases h
  | (j, c) :: r, hd, i, b, h => by
    unfold getM at h
    split at h
    · rename_i e
      have e := Nat.eq_of_beq_eq_true e
      subst e
      cases h
      exact hd.1
    · exact deltaM_get hd.2 h
theorem VCall.sameC {μ : Nat → Option Blk} {C : List AV → Mem → AV → Mem → Prop} {raw : List AV} {K : AV → Mem → List Nat → Prop} {l0 : List AV} {F F' : Mem} {r : AV} (hc : C l0 F r F') (D : Mem) (hF : haveM μ F) (hok : okMem (ids F) F = true) (hid : ids F' = ids F) (hnd : (ids F).Nodup)
    (hD : deltaM F D F') (hDs : ∀ i, i ∈ ids D → i ∈ ids F') (hDn : (ids D).Nodup)
    (h : argsA μ (ids F) raw fun l u t => l = l0 ∧ K r (u ++ D) (t ++ ids F ++ ids F')) : VCall μ C raw K :=
  .mkD F r F' D hF hok (newM_same fun i hi => by rw [← hid]; exact hi) (fun i hi => by rw [hid]; exact hi) (by rw [hid]; exact hnd) hnd (fun i => by
    cases e : getM F' i with
    | some b => 
      rcases deltaM_get hD e with h1 | ⟨h1, h2⟩
      · exact .inl h1
      · exact .inr ⟨h1, h2.symm⟩
    | none =>
      refine .inl ?_
      cases h1 : getM D i with
      | none => rfl
      | some b =>
        have := hDs i (getM_mem.1 (by rw [h1]; simp))
        exact absurd e (getM_mem.2 this)) hDn (argsA_imp (fun l u t ⟨e, k⟩ => ⟨e ▸ hc, k⟩) h)
end Go.KM
end
section
/- The K machine: contracts used in walks by other means: data in, data out, nothing of one's own. -/
namespace Go.KM
open Go
/-- Nothing is one's own: all stands. -/
def topI : Imm := fun _ _ => True
def noI : Idm := fun _ => none
theorem imm_top (w : World) : imm (baseOf w topI noI) noI (getM []) = topI := by
  funext b off
  refine propext ⟨fun _ => trivial, fun _ => ⟨(fun id blk h => by cases h), fun _ => .inr trivial⟩⟩
theorem MR.top (w : World) : MR (baseOf w topI noI) noI (getM []) w where
  env := ⟨rfl, rfl, rfl, Nat.le_refl _⟩
  frame := fun b _ _ => rfl
  inj := fun i j b h => by cases h
  dom := fun i => rfl
  lives := fun i b h => by cases h
  blks := fun i b h => by cases h
/-- Data that is told in a world. -/
abbrev RT (w : World) (a : AV) (v : Value) : Prop := RV w topI noI (getM []) a v
theorem Turn.extends {w w' : World} {ι' : Idm} (h : Turn (baseOf w topI noI) noI ι' (getM []) (getM []) w w') : w.Extends w' := by
  have hf : ∀ b, b < w.heap.size → w'.heap[b]? = w.heap[b]? := fun b hb => h.mr.frame b hb (fun ⟨i, hi⟩ => by cases hi)
  refine ⟨h.mr.env.os, h.mr.env.tape, h.mr.env.output, h.mr.env.size, fun a ha => ?_, fun a ha => ?_, hf⟩
  · unfold World.cell?; rw [hf _ ha]
  · unfold World.frozen?; rw [hf _ ha]
theorem GW.ext {G : GW} {w w' : World} (hw : G.ok w) (he : w.Extends w') : G.ok w' := by
  refine G.keep w w' (fun _ => False) hw ⟨he.os, he.output, fun i hi => ?_⟩ (fun p hp => hp.elim)
  rw [he.block i hi]
  cases hx : w.heap[i]? with
  | none => rfl
  | some o => cases o <;> simp
theorem Con.calls {P : Program} {G : GW} {f : FuncId} {asq : List AV} {r : AV} (hc : Con P G f asq [] r []) {w : World} (hw : G.ok w) {vs : List Value} (hl : asq.length = vs.length)
    (hv : ∀ m (h1 : m < asq.length) (h2 : m < vs.length), RT w (asq[m]'h1) (vs[m]'h2)) :
    Calls P f vs.toArray w fun e w' => ∃ v, e = .returned v ∧ w.Extends w' ∧ G.ok w' ∧ RT w' r v := by
  refine (hc.2 w topI noI vs hw (fun i b h => by cases h) (MR.top w) hl (by rw [imm_top]; exact hv)).mono ?_
  rintro e w' ⟨v, ι', rfl, ht, hr⟩
  have hι : ι' = noI := by
    funext i
    have := ht.mr.dom i
    cases h : ι' i with
    | none => rfl
    | some b => rw [h] at this; cases this
  subst hι
  rw [imm_top] at hr
  have he := Turn.extends ht
  exact ⟨v, rfl, he, GW.ext hw he, hr⟩
theorem RT.ext {w w' : World} (h : w.Extends w') {x : D} {v : Value} (k : RT w (.d x) v) : RT w' (.d x) v := by
  cases k with
  | d k => exact .d (k.later ⟨fun b off v _ hc => ⟨by rw [h.cell ⟨b, off, none⟩ (cell_lt hc)]; exact hc, trivial⟩, fun b vs T hb => ⟨vs, by rw [h.block b (blk_lt hb)]; exact hb, rfl⟩⟩)
/-- A contract, data in, a text out, from a walk. -/
theorem Con.of_text {P : Program} {G : GW} {f : FuncId} {x : D} {s : ByteArray} (hok : CallOk P f) (h : ∀ w v, G.ok w → RT w (.d x) v → Calls P f #[v] w fun e w' => e = .returned (.string s) ∧ w.Extends w') : Con P G f [.d x] [] (.d (.str s)) [] := by
  refine ⟨hok, fun w im ι vs hw _ hm hlen hv => ?_⟩
  match vs, hlen with
  | [v], _ =>
    have hv0 := hv 0 (by simp) (by simp)
    have hr : RT w (.d x) v := by
      cases hv0 with
      | d k => exact .d (k.later ⟨fun b off v _ hc => ⟨hc, trivial⟩, fun b vs T hb => ⟨vs, hb, rfl⟩⟩)
    refine (h w v hw hr).mono ?_
    rintro e w' ⟨rfl, he⟩
    exact ⟨_, ι, rfl, .ext hm he, .d (.str _)⟩
end Go.KM
end
section
/- What a row's reading tells of an argument: as data. -/
namespace Go.KM
open Go
/-- Data of a type. -/
def Fit (P : Program) : Nat → TypeId → List D → Prop
  | 0, _, _ => False
  | f + 1, t, ds => match P.underlying t with
    | some .bool => ∃ b, ds = [.bool b]
    | some (.int k) => ∃ n, ds = [.int k n] ∧ k.min ≤ n ∧ n ≤ k.max
    | some .string => ∃ s : ByteArray, ds = [.str s] ∧ s.size ≤ reachBytes
    | some (.slice e) => ∃ xs, ds = [.sl xs] ∧ (∀ x ∈ xs, Fit P f e x) ∧ xs.length ≤ reachBytes
    | some (.struct fs) => ds.length = P.cellsOf t ∧ ∀ (i : Nat) (fd : Field), fs[i]? = some fd → Fit P f fd.type ((ds.drop fd.offset).take (P.cellsOf fd.type))
    | _ => False
/-- Fields lie side by side. -/
def tiles (P : Program) : Nat → List Field → Nat → Bool
  | o, [], n => Nat.beq o n
  | o, f :: r, n => Nat.beq f.offset o && tiles P (o + P.cellsOf f.type) r n
def plainB (P : Program) : Nat → TypeId → Bool
  | 0, _ => false
  | f + 1, t => match P.underlying t with
    | some .bool => Nat.beq (P.cellsOf t) 1
    | some (.int _) => Nat.beq (P.cellsOf t) 1
    | some .string => Nat.beq (P.cellsOf t) 1
    | some (.slice e) => Nat.beq (P.cellsOf t) 1 && (Nat.blt 0 (P.cellsOf e) && (Nat.blt 0 (P.bytesOf e) && plainB P f e))
    | some (.struct fs) => tiles P 0 fs.toList (P.cellsOf t) && fs.toList.all fun fd => plainB P f fd.type
    | _ => false
/-- Cells tell data. -/
structure Tells (w : World) (ds : List D) (cs : List Value) : Prop where
  len : ds.length = cs.length
  rd : ∀ m (h1 : m < ds.length) (h2 : m < cs.length), Rd w topI (ds[m]'h1) (cs[m]'h2)
theorem Tells.one {w : World} {d : D} {v : Value} (h : Rd w topI d v) : Tells w [d] [v] where
  len := rfl
  rd := fun m h1 h2 => by
    obtain rfl : m = 0 := by simpa using h1
    exact h
theorem Tells.app {w : World} {a b : List D} {c d : List Value} (h : Tells w a c) (k : Tells w b d) : Tells w (a ++ b) (c ++ d) where
  len := by simp [h.len, k.len]
  rd := fun m h1 h2 => by
    rcases Nat.lt_or_ge m a.length with hm | hm
    · rw [List.getElem_append_left hm, List.getElem_append_left (by rw [← h.len]; exact hm)]
      exact h.rd m _ _
    · have hl := h.len
      rw [List.getElem_append_right hm, List.getElem_append_right (by omega)]
      have h3 : m - a.length < b.length := by simp at h1; omega
      have h4 : m - c.length < d.length := by simp at h2; omega
      have := k.rd (m - a.length) h3 (by omega)
      simpa [hl] using this
theorem tells_fields {P : Program} {w : World} {f : Nat} {cs : List Value} {n : Nat} (hn : cs.length = n) : ∀ {fs : List Field} {o : Nat}, tiles P o fs n = true → o ≤ n →
    (∀ (i : Nat) (fd : Field), fs[i]? = some fd → ∃ ds, Tells w ds ((cs.drop fd.offset).take (P.cellsOf fd.type)) ∧ Fit P f fd.type ds ∧ ds.length = P.cellsOf fd.type) →
    ∃ ds, Tells w ds (cs.drop o) ∧ ∀ (i : Nat) (fd : Field), fs[i]? = some fd → Fit P f fd.type ((ds.drop (fd.offset - o)).take (P.cellsOf fd.type)) ∧ o ≤ fd.offset
  | [], o, ht, ho, _ => by
    have e := Nat.eq_of_beq_eq_true ht
    subst e
    refine ⟨[], ?_, fun i fd h => by simp at h⟩
    rw [List.drop_of_length_le (by omega)]
    exact ⟨rfl, fun m h1 => absurd h1 (Nat.not_lt_zero m)⟩
  | fd0 :: r, o, ht, ho, h => by
    unfold tiles at ht
    rw [Bool.and_eq_true] at ht
    have e := Nat.eq_of_beq_eq_true ht.1
    obtain ⟨d0, t0, f0, l0⟩ := h 0 fd0 rfl
    rw [e] at t0
    have hl := t0.len
    rw [List.length_take, List.length_drop] at hl
    have ho2 : o + P.cellsOf fd0.type ≤ n := by
      rw [l0] at hl
      omega
    obtain ⟨ds, t1, f1⟩ := tells_fields hn ht.2 ho2 fun i fd hi => h (i + 1) fd (by simpa using hi)
    refine ⟨d0 ++ ds, ?_, fun i fd hi => ?_⟩
    · have := t0.app t1
      rw [show (cs.drop o).take (P.cellsOf fd0.type) ++ cs.drop (o + P.cellsOf fd0.type) = cs.drop o by rw [← List.drop_drop]; exact List.take_append_drop _ _] at this
      exact this
    · cases i with
      | zero =>
        simp at hi
        subst hi
        rw [e, Nat.sub_self, List.drop_zero, ← l0, List.take_left]
        exact ⟨f0, Nat.le_refl _⟩
      | succ i =>
        obtain ⟨g1, g2⟩ := f1 i fd (by simpa using hi)
        refine ⟨?_, by omega⟩
        rw [List.drop_append, List.drop_of_length_le (by omega : d0.length ≤ fd.offset - o), List.nil_append, l0, show fd.offset - o - P.cellsOf fd0.type = fd.offset - (o + P.cellsOf fd0.type) by omega]
        exact g1
theorem cells_get {w : World} {a : Addr} {n : Nat} {cs : List Value} (h : w.cells? 0 a n = some cs) : cs.length = n ∧ ∀ i (h1 : i < cs.length), w.cell? (a.add i) = some (cs[i]'h1) := by
  unfold World.cells? at h
  rw [if_pos (Nat.zero_le _)] at h
  have key : ∀ (l : List Nat) (r : List Value), l.mapM (fun i => w.cell? (a.add i)) = some r → r.length = l.length ∧ ∀ i (h1 : i < r.length) (h2 : i < l.length), w.cell? (a.add (l[i]'h2)) = some (r[i]'h1) := by
    intro l
    induction l with
    | nil => intro r h; simp at h; subst h; exact ⟨rfl, fun i h1 => absurd h1 (Nat.not_lt_zero i)⟩
    | cons x l ih =>
      intro r h
      rw [List.mapM_cons] at h
      cases hx : w.cell? (a.add x) with
      | none => rw [hx] at h; simp at h
      | some v =>
        rw [hx] at h
        cases hr : l.mapM (fun i => w.cell? (a.add i)) with
        | none => rw [hr] at h; simp at h
        | some r' =>
          rw [hr] at h
          simp at h
          subst h
          obtain ⟨g1, g2⟩ := ih r' hr
          refine ⟨by simp [g1], fun i h1 h2 => ?_⟩
          cases i with
          | zero => exact hx
          | succ i => exact g2 i (by simpa using h1) (by simpa using h2)
  obtain ⟨h1, h2⟩ := key _ _ h
  rw [List.length_range] at h1
  refine ⟨h1, fun i hi => ?_⟩
  have := h2 i hi (by rw [List.length_range]; omega)
  simpa using this
theorem add_at (b off i j : Nat) : ((⟨b, off, none⟩ : Addr).add i).add j = ⟨b, off + i + j, none⟩ := by
  unfold Addr.add
  by_cases h1 : i = 0 <;> by_cases h2 : j = 0 <;> simp [h1, h2]
theorem spot_none {w : World} {a : Addr} {v : Value} (h : w.cell? a = some v) : a.spot = none := by
  unfold World.cell? at h
  split at h
  · split at h
    · cases h
    · rename_i hs; simpa using hs
  · cases h
theorem flat_place {α : Type} {xs : List (List α)} {c : Nat} (h : ∀ x ∈ xs, x.length = c) (hc : 0 < c) {m : Nat} (hm : m < xs.flatten.length) :
    ∃ (h1 : m / c < xs.length) (h2 : m % c < (xs[m / c]'h1).length), xs.flatten[m] = (xs[m / c]'h1)[m % c]'h2 := by
  induction xs generalizing m with
  | nil => simp at hm
  | cons x r ih =>
    have hx := h x (by simp)
    rcases Nat.lt_or_ge m c with hlt | hge
    · have e0 : m / c = 0 := Nat.div_eq_of_lt hlt
      have e1 : m % c = m := Nat.mod_eq_of_lt hlt
      refine ⟨by rw [e0]; simp, ?_, ?_⟩
      · simp only [e0, e1, List.getElem_cons_zero]; omega
      · simp only [e0, e1, List.getElem_cons_zero, List.flatten_cons]
        rw [List.getElem_append_left (by omega)]
    · have hm' : m - c < r.flatten.length := by simp at hm ⊢; omega
      obtain ⟨g1, g2, g3⟩ := ih (fun y hy => h y (by simp [hy])) hm'
      have e0 : m / c = (m - c) / c + 1 := Nat.div_eq_sub_div hc hge
      have e1 : m % c = (m - c) % c := by rw [← Nat.mod_eq_sub_mod hge]
      refine ⟨by simp [e0]; exact g1, ?_, ?_⟩
      · simp only [e0, e1, List.getElem_cons_succ]; exact g2
      · simp only [e0, e1, List.getElem_cons_succ, List.flatten_cons]
        rw [List.getElem_append_right (by omega)]
        simp only [hx]
        exact g3
theorem trod_fit {H : Type} {enc : TypeId × Value → H} {P : Program} {w : World} {sp : Nat → Bool} {held : Bool} : ∀ (f n : Nat) (t : TypeId) (cs : List Value) (d : DataW H) (ps : List MemPlace), plainB P f t = true →
    DataW.trod enc P w 0 sp held n t cs = some (d, ps) → (∀ k ∈ d.weights P t, k ≤ reachBytes) → ∃ ds, Tells w ds cs ∧ Fit P f t ds ∧ ds.length = P.cellsOf t := by
  intro f
  induction f with
  | zero => intro n t cs d ps hp; cases hp
  | succ f ih =>
    intro n t cs d ps hp h hw
    unfold plainB at hp
    unfold Fit
    split at hp
    · rename_i hu
      obtain ⟨b, rfl, _⟩ := DataW.trod_bool hu h
      refine ⟨[.bool b], .one (.bool b), ⟨b, rfl⟩, (Nat.eq_of_beq_eq_true hp).symm⟩
    · rename_i k hu
      obtain ⟨m, rfl, _, hwf⟩ := DataW.trod_int hu h
      simp only [Lit.wf, Bool.and_eq_true, decide_eq_true_eq] at hwf
      refine ⟨[.int k m], .one (.int k m), ⟨m, rfl, hwf.1, hwf.2⟩, (Nat.eq_of_beq_eq_true hp).symm⟩
    · rename_i hu
      obtain ⟨s, rfl, hx, _⟩ := DataW.trod_string hu h
      cases hx
      refine ⟨[.str s], .one (.str s), ⟨s, rfl, ?_⟩, (Nat.eq_of_beq_eq_true hp).symm⟩
      have := hw s.data.toList.length (by simp [DataW.weights])
      rwa [Array.length_toList] at this
    · rename_i e hu
      simp only [Bool.and_eq_true] at hp
      obtain ⟨p1, p2, p3, p4⟩ := hp
      have p2 : 0 < P.cellsOf e := Nat.le_of_ble_eq_true p2
      have p3 : 0 < P.bytesOf e := Nat.le_of_ble_eq_true p3
      have p1 := (Nat.eq_of_beq_eq_true p1).symm
      rcases DataW.trod_slice hu h with ⟨rfl, hx⟩ | ⟨a, len, cap, elems, rest, n', rfl, rfl, hx, _, hlc, _, hel, hget, _, _⟩
      · exact ⟨[.sl []], .one (.nil _ _), ⟨[], rfl, (fun x hx => by cases hx), Nat.zero_le _⟩, p1⟩
      · cases hx
        have hwl : len ≤ reachBytes := by
          have h2 := hw (((elems.map (·.1)).length + (rest.map (·.1)).length) * P.bytesOf e) (by simp [DataW.weights, hu])
          rw [List.length_map, hel] at h2
          have : len * 1 ≤ (len + (rest.map (·.1)).length) * P.bytesOf e := Nat.mul_le_mul (by omega) p3
          omega
        have hea : ∀ i, i < len → ∃ cs', w.cells? 0 (a.add (i * P.cellsOf e)) (P.cellsOf e) = some cs' ∧ ∃ ds, Tells w ds cs' ∧ Fit P f e ds ∧ ds.length = P.cellsOf e := by
          intro i hi
          have hg := hget i hi
          rw [List.getElem?_eq_getElem (by omega)] at hg
          cases hc : w.cells? 0 (a.add (i * P.cellsOf e)) (P.cellsOf e) with
          | none => rw [hc] at hg; cases hg
          | some cs' =>
            rw [hc] at hg
            refine ⟨cs', rfl, ih n' e cs' (elems[i]'(by omega)).1 (elems[i]'(by omega)).2 p4 hg fun k hk => hw k ?_⟩
            simp only [DataW.weights, hu, List.mem_cons, List.mem_append]
            refine .inr (.inl ?_)
            have hm : (elems[i]'(by omega)).1 ∈ elems.map (·.1) := List.mem_map.2 ⟨_, List.getElem_mem _, rfl⟩
            generalize elems.map (·.1) = es at hm
            induction es with
            | nil => cases hm
            | cons y r ihr =>
              simp only [DataW.weightsAll, List.mem_append]
              rcases List.mem_cons.1 hm with e2 | hm
              · rw [← e2]; exact .inl hk
              · exact .inr (ihr hm)
        rcases Nat.eq_zero_or_pos len with rfl | hpos
        · exact ⟨[.sl []], .one (.nil _ _), ⟨[], rfl, (fun x hx => by cases hx), Nat.zero_le _⟩, p1⟩
        · have hspot : a.spot = none := by
            obtain ⟨cs', h1, _⟩ := hea 0 hpos
            obtain ⟨h2, h3⟩ := cells_get h1
            have := spot_none (h3 0 (by omega))
            rw [Nat.zero_mul] at this
            unfold Addr.add at this
            simpa using this
          obtain ⟨b, off, spot⟩ := a
          simp only at hspot
          subst hspot
          have hex : ∃ g : Nat → List D, ∀ i, i < len → ∃ cs', w.cells? 0 ((⟨b, off, none⟩ : Addr).add (i * P.cellsOf e)) (P.cellsOf e) = some cs' ∧ Tells w (g i) cs' ∧ Fit P f e (g i) ∧ (g i).length = P.cellsOf e := by
            refine ⟨fun i => if hi : i < len then (hea i hi).choose_spec.2.choose else [], fun i hi => ?_⟩
            simp only [dif_pos hi]
            exact ⟨_, (hea i hi).choose_spec.1, (hea i hi).choose_spec.2.choose_spec⟩
          obtain ⟨g, hg⟩ := hex
          have hlen : ∀ x ∈ (List.range len).map g, x.length = P.cellsOf e := by
            intro x hx
            obtain ⟨i, hi, rfl⟩ := List.mem_map.1 hx
            obtain ⟨_, _, _, _, h3⟩ := hg i (List.mem_range.1 hi)
            exact h3
          have hplace : ∀ m (hm : m < ((List.range len).map g).flatten.length), ∃ v, w.cell? ⟨b, off + m, none⟩ = some v ∧ Rd w topI (((List.range len).map g).flatten[m]'hm) v := by
            intro m hm
            obtain ⟨h1, h2, h3⟩ := flat_place hlen p2 hm
            have hi : m / P.cellsOf e < len := by simpa using h1
            obtain ⟨cs', c1, c2, _, c4⟩ := hg _ hi
            obtain ⟨c5, c6⟩ := cells_get c1
            have hj : m % P.cellsOf e < P.cellsOf e := Nat.mod_lt _ p2
            have c7 := c6 (m % P.cellsOf e) (by omega)
            rw [add_at, show off + m / P.cellsOf e * P.cellsOf e + m % P.cellsOf e = off + m by rw [Nat.add_assoc, Nat.mul_comm (m / P.cellsOf e), Nat.div_add_mod]] at c7
            refine ⟨_, c7, ?_⟩
            rw [h3]
            have := c2.rd (m % P.cellsOf e) (by omega) (by omega)
            simpa using this
          refine ⟨[.sl ((List.range len).map g)], .one ?_, ⟨_, rfl, ?_, ?_⟩, p1⟩
          · have hl2 : ((List.range len).map g).length = len := by simp
            have hcells : ∃ vs : Nat → Value, ∀ m (hm : m < ((List.range len).map g).flatten.length), w.cell? ⟨b, off + m, none⟩ = some (vs m) ∧ Rd w topI (((List.range len).map g).flatten[m]'hm) (vs m) := by
              refine ⟨fun m => if hm : m < ((List.range len).map g).flatten.length then (hplace m hm).choose else undef, fun m hm => ?_⟩
              simp only [dif_pos hm]
              exact (hplace m hm).choose_spec
            obtain ⟨vs, hvs⟩ := hcells
            have := Rd.sl (w := w) (im := topI) b off cap (P.cellsOf e) ((List.range len).map g) vs hlen (by omega) (fun m hm => ⟨(hvs m hm).1, trivial⟩) (fun m hm => (hvs m hm).2)
            rwa [hl2] at this
          · intro x hx
            obtain ⟨i, hi, rfl⟩ := List.mem_map.1 hx
            obtain ⟨_, _, _, h3, _⟩ := hg i (List.mem_range.1 hi)
            exact h3
          · simp; omega
    · rename_i fs hu
      rw [Bool.and_eq_true] at hp
      obtain ⟨xs, n', rfl, hx, hcl, hxl, hget⟩ := DataW.trod_struct hu h
      cases hx
      have hf : ∀ (i : Nat) (fd : Field), fs.toList[i]? = some fd → ∃ ds, Tells w ds ((cs.drop fd.offset).take (P.cellsOf fd.type)) ∧ Fit P f fd.type ds ∧ ds.length = P.cellsOf fd.type := by
        intro i fd hi
        have hi' : fs[i]? = some fd := by simpa using hi
        have hil : i < fs.size := (Array.getElem?_eq_some_iff.1 hi').1
        have hg := hget i fd hi'
        rw [List.getElem?_eq_getElem (by omega)] at hg
        have hpl : plainB P f fd.type = true := List.all_eq_true.1 hp.2 fd (List.mem_of_getElem? hi)
        refine ih n' fd.type _ (xs[i]'(by omega)).1 (xs[i]'(by omega)).2 hpl hg fun k hk => hw k ?_
        simp only [DataW.weights, hu]
        refine DataW.weights_mem_each (j := i) (t := fd.type) (d := (xs[i]'(by omega)).1) ?_ ?_ k hk
        · rw [List.getElem?_map, hi]; rfl
        · rw [List.getElem?_map, List.getElem?_eq_getElem (by omega)]; rfl
      obtain ⟨ds, t1, f1⟩ := tells_fields hcl hp.1 (Nat.zero_le _) hf
      rw [List.drop_zero] at t1
      refine ⟨ds, t1, ⟨t1.len.trans hcl, fun i fd hi => ?_⟩, t1.len.trans hcl⟩
      have := (f1 i fd (by simpa using hi)).1
      rwa [Nat.sub_zero] at this
    · cases hp
end Go.KM
end
section
/- Naturals as lists of words of 32 bits: plain laws. -/
namespace RN

/-- The value of a list of words, the lowest first. -/
def wv : List Int → Nat
  | [] => 0
  | x :: xs => x.toNat + 4294967296 * wv xs

/-- The right list of a number. -/
def wl (n : Nat) : List Int := if h : n = 0 then [] else ((n % 4294967296 : Nat) : Int) :: wl (n / 4294967296)
  termination_by n
  decreasing_by omega

/-- All words are words. -/
def WF (l : List Int) : Prop := ∀ x ∈ l, 0 ≤ x ∧ x < 4294967296

theorem wl_zero : wl 0 = [] := by unfold wl; simp
theorem wl_pos {n : Nat} (h : n ≠ 0) : wl n = ((n % 4294967296 : Nat) : Int) :: wl (n / 4294967296) := by
  rw [wl]; simp [h]

theorem WF.nil : WF [] := fun _ h => nomatch h
theorem WF.cons {x : Int} {l : List Int} (h0 : 0 ≤ x) (h1 : x < 4294967296) (h : WF l) : WF (x :: l) := by
  intro y hy
  rcases List.mem_cons.1 hy with rfl | hy
  · exact ⟨h0, h1⟩
  · exact h y hy
theorem WF.head {x : Int} {l : List Int} (h : WF (x :: l)) : 0 ≤ x ∧ x < 4294967296 := h x List.mem_cons_self
theorem WF.tail {x : Int} {l : List Int} (h : WF (x :: l)) : WF l := fun y hy => h y (List.mem_cons_of_mem _ hy)
theorem WF.append {a b : List Int} (ha : WF a) (hb : WF b) : WF (a ++ b) := by
  intro x hx
  rcases List.mem_append.1 hx with h | h
  · exact ha x h
  · exact hb x h
theorem WF.left {a b : List Int} (h : WF (a ++ b)) : WF a := fun x hx => h x (List.mem_append_left _ hx)
theorem WF.right {a b : List Int} (h : WF (a ++ b)) : WF b := fun x hx => h x (List.mem_append_right _ hx)
theorem WF.take {l : List Int} (h : WF l) (n : Nat) : WF (l.take n) := fun x hx => h x (List.mem_of_mem_take hx)
theorem WF.drop {l : List Int} (h : WF l) (n : Nat) : WF (l.drop n) := fun x hx => h x (List.mem_of_mem_drop hx)
theorem WF.set {l : List Int} (h : WF l) (n : Nat) {x : Int} (h0 : 0 ≤ x) (h1 : x < 4294967296) : WF (l.set n x) := by
  intro y hy
  rcases List.mem_or_eq_of_mem_set hy with hy | rfl
  · exact h y hy
  · exact ⟨h0, h1⟩
theorem WF.zeros (n : Nat) : WF (List.replicate n 0) := by
  intro x hx
  rw [(List.mem_replicate.1 hx).2]; omega
theorem WF.getD {l : List Int} (h : WF l) (i : Nat) : 0 ≤ l.getD i 0 ∧ l.getD i 0 < 4294967296 := by
  rw [List.getD_eq_getElem?_getD]
  rcases hx : l[i]? with _ | x
  · simp
  · exact h x (List.mem_of_getElem? hx)

theorem wl_WF (n : Nat) : WF (wl n) := by
  induction n using Nat.strongRecOn with
  | _ n ih =>
    by_cases h : n = 0
    · subst h; rw [wl_zero]; exact WF.nil
    · rw [wl_pos h]
      exact WF.cons (by omega) (by omega) (ih _ (by omega))

theorem wv_wl (n : Nat) : wv (wl n) = n := by
  induction n using Nat.strongRecOn with
  | _ n ih =>
    by_cases h : n = 0
    · subst h; rw [wl_zero]; rfl
    · rw [wl_pos h, wv, ih _ (by omega)]
      omega

theorem wl_inj {a b : Nat} (h : wl a = wl b) : a = b := by rw [← wv_wl a, h, wv_wl]

theorem wl_nil {n : Nat} : wl n = [] ↔ n = 0 := by
  constructor
  · intro h; rw [← wv_wl n, h]; rfl
  · rintro rfl; exact wl_zero

theorem wv_append (a b : List Int) : wv (a ++ b) = wv a + 4294967296 ^ a.length * wv b := by
  induction a with
  | nil => simp [wv]
  | cons x a ih =>
    simp only [List.cons_append, wv, ih, List.length_cons, Nat.pow_succ]
    rw [Nat.mul_add, ← Nat.mul_assoc, Nat.mul_comm 4294967296 (4294967296 ^ a.length)]
    omega

theorem wv_lt {l : List Int} (h : WF l) : wv l < 4294967296 ^ l.length := by
  induction l with
  | nil => simp [wv]
  | cons x l ih =>
    have := ih h.tail
    have hx := h.head
    rw [wv, List.length_cons, Nat.pow_succ]
    have : x.toNat < 4294967296 := by omega
    generalize 4294967296 ^ l.length = m at *
    omega

theorem wv_zeros (n : Nat) : wv (List.replicate n 0) = 0 := by
  induction n with
  | zero => rfl
  | succ n ih => rw [List.replicate_succ, wv, ih]; rfl

/-- A list whose highest word is not 0 is right. -/
def Right (l : List Int) : Prop := ∀ x, l.getLast? = some x → x ≠ 0

theorem wl_Right (n : Nat) : Right (wl n) := by
  induction n using Nat.strongRecOn with
  | _ n ih =>
    by_cases h : n = 0
    · subst h; rw [wl_zero]; intro x hx; simp at hx
    · rw [wl_pos h]
      intro x hx
      by_cases h2 : n / 4294967296 = 0
      · rw [h2, wl_zero] at hx
        simp at hx
        omega
      · rw [List.getLast?_cons] at hx
        have h3 : wl (n / 4294967296) ≠ [] := fun e => h2 (wl_nil.1 e)
        rw [List.getLast?_eq_some_getLast h3] at hx
        simp at hx
        exact ih (n / 4294967296) (by omega) x (by rw [List.getLast?_eq_some_getLast h3, hx])

theorem wv_pos_of {l : List Int} (h : WF l) (hr : Right l) (hne : l ≠ []) : wv l ≠ 0 := by
  induction l with
  | nil => exact absurd rfl hne
  | cons x l ih =>
    have hx := h.head
    rw [wv]
    by_cases e : l = []
    · subst e
      have := hr x rfl
      have : wv [] = 0 := rfl
      omega
    · have := ih h.tail (fun y hy => hr y (by rw [List.getLast?_cons, hy]; rfl)) e
      omega

theorem wl_wv {l : List Int} (h : WF l) (hr : Right l) : wl (wv l) = l := by
  induction l with
  | nil => exact wl_zero
  | cons x l ih =>
    have hx := h.head
    have h0 := wv_pos_of h hr (by simp)
    rw [wl_pos h0]
    have e1 : wv (x :: l) % 4294967296 = x.toNat := by rw [wv]; omega
    have e2 : wv (x :: l) / 4294967296 = wv l := by rw [wv]; omega
    rw [e1, e2]
    have : wl (wv l) = l := by
      by_cases e : l = []
      · subst e; exact wl_zero
      · exact ih h.tail (fun y hy => hr y (by rw [List.getLast?_cons, hy]; rfl))
    rw [this]
    congr 1
    omega

theorem wl_len {n m : Nat} (h : n < 4294967296 ^ m) : (wl n).length ≤ m := by
  induction m generalizing n with
  | zero => have : n = 0 := by simpa using h
            subst this; rw [wl_zero]; simp
  | succ m ih =>
    by_cases e : n = 0
    · subst e; rw [wl_zero]; simp
    · rw [wl_pos e, List.length_cons]
      have : n / 4294967296 < 4294967296 ^ m := by
        rw [Nat.pow_succ] at h
        exact Nat.div_lt_of_lt_mul (by rw [Nat.mul_comm]; exact h)
      have := ih this
      omega

theorem wl_len_ge {n m : Nat} (h : (wl n).length ≤ m) : n < 4294967296 ^ m := by
  have h1 := wv_lt (wl_WF n)
  rw [wv_wl] at h1
  exact Nat.lt_of_lt_of_le h1 (Nat.pow_le_pow_right (by decide) h)

theorem wl_len_wv {l : List Int} (h : WF l) : (wl (wv l)).length ≤ l.length := wl_len (wv_lt h)

end RN
end
section
/- Readings of structs, slices, words: as data. -/
namespace Go.KM
open Go RN
section
variable {P : Program} {f : Nat} {t : TypeId} {ds : List D}
theorem fit_int {k : IntKind} (hu : P.underlying t = some (.int k)) (h : Fit P f t ds) : ∃ n, ds = [.int k n] ∧ k.min ≤ n ∧ n ≤ k.max := by
  cases f with
  | zero => exact h.elim
  | succ f => unfold Fit at h; rw [hu] at h; exact h
theorem fit_bool (hu : P.underlying t = some .bool) (h : Fit P f t ds) : ∃ b, ds = [.bool b] := by
  cases f with
  | zero => exact h.elim
  | succ f => unfold Fit at h; rw [hu] at h; exact h
theorem fit_str (hu : P.underlying t = some .string) (h : Fit P f t ds) : ∃ s : ByteArray, ds = [.str s] ∧ s.size ≤ reachBytes := by
  cases f with
  | zero => exact h.elim
  | succ f => unfold Fit at h; rw [hu] at h; exact h
theorem fit_struct {fs : Array Field} (hu : P.underlying t = some (.struct fs)) (h : Fit P f t ds) : ∃ f', ds.length = P.cellsOf t ∧ ∀ (i : Nat) (fd : Field), fs[i]? = some fd → Fit P f' fd.type ((ds.drop fd.offset).take (P.cellsOf fd.type)) := by
  cases f with
  | zero => exact h.elim
  | succ f => unfold Fit at h; rw [hu] at h; exact ⟨f, h⟩
theorem fit_list {α : Type} {g : α → List D} {Q : α → Prop} {e : TypeId} (hu : P.underlying t = some (.slice e)) (he : ∀ {f : Nat} {x : List D}, Fit P f e x → ∃ a, x = g a ∧ Q a) (h : Fit P f t ds) :
    ∃ l : List α, ds = [.sl (l.map g)] ∧ (∀ a ∈ l, Q a) ∧ l.length ≤ reachBytes := by
  cases f with
  | zero => exact h.elim
  | succ f =>
    unfold Fit at h
    rw [hu] at h
    obtain ⟨xs, rfl, h1, h2⟩ := h
    have key : ∀ xs : List (List D), (∀ x ∈ xs, Fit P f e x) → ∃ l : List α, xs = l.map g ∧ ∀ a ∈ l, Q a := by
      intro xs
      induction xs with
      | nil => intro _; exact ⟨[], rfl, fun a ha => by cases ha⟩
      | cons x r ih =>
        intro hx
        obtain ⟨a, rfl, hq⟩ := he (hx x (by simp))
        obtain ⟨l, rfl, hl⟩ := ih fun y hy => hx y (by simp [hy])
        exact ⟨a :: l, rfl, fun b hb => by
          rcases List.mem_cons.1 hb with rfl | hb
          · exact hq
          · exact hl b hb⟩
    obtain ⟨l, rfl, hl⟩ := key xs h1
    exact ⟨l, rfl, hl, by simpa using h2⟩
theorem fit_words {e : TypeId} (hu : P.underlying t = some (.slice e)) (he : P.underlying e = some (.int .u32)) (h : Fit P f t ds) : ∃ l : List Int, ds = [.sl (l.map fun x => [.int .u32 x])] ∧ WF l ∧ l.length ≤ reachBytes := by
  obtain ⟨l, h1, h2, h3⟩ := fit_list (g := fun x : Int => [D.int .u32 x]) (Q := fun x => 0 ≤ x ∧ x < 4294967296) hu (fun {f x} hx => by
    obtain ⟨n, rfl, a, b⟩ := fit_int he hx
    have e1 : IntKind.u32.min = 0 := by decide
    have e2 : IntKind.u32.max = 4294967295 := by decide
    exact ⟨n, rfl, by omega, by omega⟩) h
  exact ⟨l, h1, h2, h3⟩
end
theorem listLen1 {α : Type} {l : List α} (h : l.length = 1) : ∃ a, l = [a] := by
  match l, h with
  | [a], _ => exact ⟨a, rfl⟩
theorem listLen3 {α : Type} {l : List α} (h : l.length = 3) : ∃ a b c, l = [a, b, c] := by
  match l, h with
  | [a, b, c], _ => exact ⟨a, b, c, rfl⟩
theorem listLen4 {α : Type} {l : List α} (h : l.length = 4) : ∃ a b c d, l = [a, b, c, d] := by
  match l, h with
  | [a, b, c, d], _ => exact ⟨a, b, c, d, rfl⟩
theorem listLen5 {α : Type} {l : List α} (h : l.length = 5) : ∃ a b c d e, l = [a, b, c, d, e] := by
  match l, h with
  | [a, b, c, d, e], _ => exact ⟨a, b, c, d, e, rfl⟩
theorem listLen6 {α : Type} {l : List α} (h : l.length = 6) : ∃ a b c d e f, l = [a, b, c, d, e, f] := by
  match l, h with
  | [a, b, c, d, e, f], _ => exact ⟨a, b, c, d, e, f, rfl⟩
theorem listLen7 {α : Type} {l : List α} (h : l.length = 7) : ∃ a b c d e f g, l = [a, b, c, d, e, f, g] := by
  match l, h with
  | [a, b, c, d, e, f, g], _ => exact ⟨a, b, c, d, e, f, g, rfl⟩
theorem listLen11 {α : Type} {l : List α} (h : l.length = 11) : ∃ a b c d e f g h i j k, l = [a, b, c, d, e, f, g, h, i, j, k] := by
  match l, h with
  | [a, b, c, d, e, f, g, h, i, j, k], _ => exact ⟨a, b, c, d, e, f, g, h, i, j, k, rfl⟩
/-- A struct's value, read as data. -/
theorem RT.agg_of {w : World} {ds : List D} {v : Value} (h : Tells w ds v.cells.toList) (hn : 1 < ds.length) : RT w (.agg (ds.map .d)) v := by
  have hl := h.len
  have hv : ∃ cs, v = .agg cs := by
    cases v with
    | agg cs => exact ⟨cs, rfl⟩
    | _ => simp [Value.cells] at hl; omega
  obtain ⟨cs, rfl⟩ := hv
  have he : cs = cs.toList.toArray := by simp
  rw [he]
  refine .agg (by simpa [Value.cells] using hl) (fun u hu => ?_) (fun m h1 h2 => ?_)
  · obtain ⟨m, hm, rfl⟩ := List.mem_iff_getElem.1 hu
    exact (h.rd m (by rw [hl]; exact hm) hm).one
  · rw [List.getElem_map]
    exact .d (h.rd m (by simpa using h1) h2)
end Go.KM
end
section
/- What a row asks behind a call that leaves all as it was. -/
namespace Go.KM
open Go
theorem low_le {P : Program} {W : World} (h : W.ShapedOpen P) (hg : P.globals.size < P.low) : P.low ≤ W.heap.size := by
  obtain ⟨_, h2⟩ := h
  have h3 : P.low - 1 < (begin P (fun _ _ => 0) default).world.heap.size := by
    have : P.low = (begin P (fun _ _ => 0) default).world.heap.size := rfl
    omega
  obtain ⟨o, _, h4, _⟩ := h2 (P.low - 1) (by omega) h3
  have := (Array.getElem?_eq_some_iff.1 h4).1
  omega
section
variable {H : Type} {enc : TypeId × Value → H} {P : Program} {W W' : World}
theorem ext_same (he : W.Extends W') {p : MemPlace} (hp : p.block < W.heap.size) : W.sameAt W' p := by
  cases p with
  | cell b off => exact he.cell ⟨b, off, none⟩ hp
  | map b => exact he.block b hp
theorem trodAll_stays (hL : laidOutB P = true) {sp : Nat → Bool} : ∀ {ts : List TypeId} {vs : List Value} {ds : List (DataW H)} {ps : List MemPlace}, (∀ t ∈ ts, P.readableRec t = true ∧ t < P.types.size) →
    DataW.TrodAll enc P W 0 (fun _ => true) true ts vs ds ps → (∀ p ∈ ps, W.sameAt W' p) → (∀ p ∈ ps, sp p.block = true) → DataW.TrodAll enc P W' 0 sp true ts vs ds ps
  | [], [], [], ps, _, h, _, _ => h
  | t :: ts, v :: vs, d :: ds, ps, ht, h, h1, h2 => by
    obtain ⟨p, q, g1, g2, rfl⟩ := h
    obtain ⟨r1, r2⟩ := ht t (by simp)
    exact ⟨p, q, WideElems.Trod_stays hL r1 r2 g1 (fun x hx => h1 x (by simp [hx])) (fun x hx => h2 x (by simp [hx])), trodAll_stays hL (fun t ht' => ht t (by simp [ht'])) g2 (fun x hx => h1 x (by simp [hx])) (fun x hx => h2 x (by simp [hx])), rfl⟩
  | [], _ :: _, _, _, _, h, _, _ => h.elim
  | [], [], _ :: _, _, _, h, _, _ => h.elim
  | _ :: _, [], _, _, _, h, _, _ => h.elim
  | _ :: _, _ :: _, [], _, _, h, _, _ => h.elim
theorem ext_kept (he : W.Extends W') (may : MemPlace → Prop) : W.keptBut W' may := by
  refine ⟨he.os, he.output, fun i hi => ?_⟩
  rw [he.block i hi]
  cases hx : W.heap[i]? with
  | none => rfl
  | some o => cases o <;> simp
theorem post_of_ext {f : Func} {s : ChangeSpec} {args : Array Value} {ds gs : List (DataW H)} {before : List MemPlace} {tb : TypeId} (hW : DataW.Whole enc P f.params.toList s.vars false W args.toList ds gs before) (he : W.Extends W')
    (hL : laidOutB P = true) (hT : ∀ t ∈ f.params.toList, P.readableRec t = true ∧ t < P.types.size) (hr : f.resultTypes = #[tb]) (hb : P.underlying tb = some .bool) (hv : s.vars = []) (hs : s.fn H (ds ++ gs) = { results := [.lit (.bool true)], args := ds }) :
    s.post enc P f false true false false W args (.bool true) W' := by
  have hW' := hW
  have hlt := hW.lt
  obtain ⟨p, q, hA, hV, rfl, _, _⟩ := hW
  rw [hv] at hV
  obtain ⟨rfl, rfl⟩ := ChangeShapes.trodVars_none hV
  refine ⟨ds, [], p ++ [], [], p, [], hW', ?_, ?_, ?_, ext_kept he _, fun h => by cases h⟩
  · rw [hs, hr]
    exact trodAll_cons_mk (RowKit.shut_bool hb _) ChangeShapes.trodAll_mk0
  · rw [hs]
    exact trodAll_stays hL hT hA (fun x hx => ext_same he (hlt x (by simp [hx]))) (fun x hx => by simpa using hlt x (by simp [hx]))
  · rw [hs, hv]
    rfl
end
/-- A laid datum's cells. -/
def flatW : DataW Unit → List Value
  | .lit (.int k n) => [.int k n]
  | .agg parts => flatWs parts
  | _ => []
  where flatWs : List (DataW Unit) → List Value
  | [] => []
  | d :: r => flatW d ++ flatWs r
def setCells (w : World) (g : Nat) (d : DataW Unit) : World :=
  { w with heap := w.heap.modify g fun
      | .cells _ t frozen => .cells (flatW d).toArray t frozen
      | o => o }
end Go.KM
end
section
/- The seat's table of types; the worlds that its contracts ask for. -/
namespace Go.KM
open Go
def tyl : List (Nat × TI) := [
  (54, { td := TD.struct [(0, 52), (2, 32)], size := 3, bytes := 56, zero := [AV.d (D.bool false), AV.nils, AV.nils] }),
  (32, { td := TD.slice 127, size := 1, bytes := 24, zero := [AV.nils] }),
  (9, { td := TD.str, size := 1, bytes := 16, zero := [AV.d (D.str { data := { toList := [] } })] }),
  (59, { td := TD.struct [(0, 3), (1, 3), (2, 3), (3, 3)], size := 4, bytes := 32, zero := [AV.d (D.int IntKind.i64 0), AV.d (D.int IntKind.i64 0), AV.d (D.int IntKind.i64 0), AV.d (D.int IntKind.i64 0)] }),
  (3, { td := TD.int IntKind.i64, size := 1, bytes := 8, zero := [AV.d (D.int IntKind.i64 0)] }),
  (43, { td := TD.slice 54, size := 1, bytes := 24, zero := [AV.nils] }),
  (52, { td := TD.struct [(0, 4), (1, 32)], size := 2, bytes := 32, zero := [AV.d (D.bool false), AV.nils] }),
  (127, { td := TD.int IntKind.u32, size := 1, bytes := 4, zero := [AV.d (D.int IntKind.u32 0)] }),
  (46, { td := TD.struct [(0, 9), (1, 43), (2, 44), (3, 43), (4, 43)], size := 5, bytes := 112, zero := [AV.d (D.str { data := { toList := [] } }), AV.nils, AV.nils, AV.nils, AV.nils] }),
  (44, { td := TD.slice 43, size := 1, bytes := 24, zero := [AV.nils] }),
  (42, { td := TD.struct [(0, 40), (1, 23), (2, 3), (3, 3)], size := 4, bytes := 64, zero := [AV.nils, AV.nils, AV.d (D.int IntKind.i64 0), AV.d (D.int IntKind.i64 0)] }),
  (110, { td := TD.struct [(0, 3), (1, 3), (2, 3), (3, 54)], size := 6, bytes := 80, zero := [AV.d (D.int IntKind.i64 0), AV.d (D.int IntKind.i64 0), AV.d (D.int IntKind.i64 0), AV.d (D.bool false), AV.nils, AV.nils] }),
  (48, { td := TD.struct [(0, 42), (4, 46), (9, 43), (10, 3)], size := 11, bytes := 208, zero := [AV.nils, AV.nils, AV.d (D.int IntKind.i64 0), AV.d (D.int IntKind.i64 0), AV.d (D.str { data := { toList := [] } }), AV.nils, AV.nils, AV.nils, AV.nils, AV.nils, AV.d (D.int IntKind.i64 0)] }),
  (5, { td := TD.int IntKind.u8, size := 1, bytes := 1, zero := [AV.d (D.int IntKind.u8 0)] }),
  (90, { td := TD.int IntKind.u64, size := 1, bytes := 8, zero := [AV.d (D.int IntKind.u64 0)] }),
  (4, { td := TD.bool, size := 1, bytes := 1, zero := [AV.d (D.bool false)] }),
  (57, { td := TD.struct [(0, 44), (1, 44), (2, 43), (3, 43)], size := 4, bytes := 96, zero := [AV.nils, AV.nils, AV.nils, AV.nils] }),
  (26, { td := TD.slice 34, size := 1, bytes := 24, zero := [AV.nils] }),
  (111, { td := TD.slice 9, size := 1, bytes := 24, zero := [AV.nils] }),
  (163, { td := TD.struct [(0, 83)], size := 1, bytes := 8, zero := [AV.nilp] }),
  (86, { td := TD.struct [(0, 48), (11, 54), (14, 54), (17, 43), (18, 83), (19, 57)], size := 23, bytes := 448, zero := [AV.nils, AV.nils, AV.d (D.int IntKind.i64 0), AV.d (D.int IntKind.i64 0), AV.d (D.str { data := { toList := [] } }), AV.nils, AV.nils, AV.nils, AV.nils, AV.nils, AV.d (D.int IntKind.i64 0), AV.d (D.bool false), AV.nils, AV.nils, AV.d (D.bool false), AV.nils, AV.nils, AV.nils, AV.nilp, AV.nils, AV.nils, AV.nils, AV.nils] }),
  (34, { td := TD.struct [(0, 4), (1, 32), (2, 32)], size := 3, bytes := 56, zero := [AV.d (D.bool false), AV.nils, AV.nils] }),
  (99, { td := TD.struct [(0, 54), (3, 43), (4, 43)], size := 5, bytes := 104, zero := [AV.d (D.bool false), AV.nils, AV.nils, AV.nils, AV.nils] }),
  (144, { td := TD.struct [(0, 141), (1, 142)], size := 2, bytes := 32, zero := [AV.nilp, AV.nils] }),
  (21, { td := TD.int IntKind.i32, size := 1, bytes := 4, zero := [AV.d (D.int IntKind.i32 0)] }),
  (40, { td := TD.slice 110, size := 1, bytes := 24, zero := [AV.nils] }),
  (142, { td := TD.slice 5, size := 1, bytes := 24, zero := [AV.nils] }),
  (23, { td := TD.slice 3, size := 1, bytes := 24, zero := [AV.nils] }),
  (165, { td := TD.struct [(0, 163)], size := 1, bytes := 8, zero := [AV.nilp] }),
  (29, { td := TD.struct [(0, 9), (1, 26), (2, 27), (3, 26), (4, 26)], size := 5, bytes := 112, zero := [AV.d (D.str { data := { toList := [] } }), AV.nils, AV.nils, AV.nils, AV.nils] }),
  (170, { td := TD.struct [(0, 9), (1, 3), (2, 4)], size := 3, bytes := 32, zero := [AV.d (D.str { data := { toList := [] } }), AV.d (D.int IntKind.i64 0), AV.d (D.bool false)] }),
  (31, { td := TD.struct [(0, 25), (4, 29), (9, 26), (10, 3)], size := 11, bytes := 208, zero := [AV.nils, AV.nils, AV.d (D.int IntKind.i64 0), AV.d (D.int IntKind.i64 0), AV.d (D.str { data := { toList := [] } }), AV.nils, AV.nils, AV.nils, AV.nils, AV.nils, AV.d (D.int IntKind.i64 0)] }),
  (25, { td := TD.struct [(0, 22), (1, 23), (2, 3), (3, 3)], size := 4, bytes := 64, zero := [AV.nils, AV.nils, AV.d (D.int IntKind.i64 0), AV.d (D.int IntKind.i64 0)] }),
  (167, { td := TD.struct [(0, 54), (3, 43), (4, 43)], size := 5, bytes := 104, zero := [AV.d (D.bool false), AV.nils, AV.nils, AV.nils, AV.nils] }),
  (175, { td := TD.struct [(0, 3), (1, 9), (2, 3)], size := 3, bytes := 32, zero := [AV.d (D.int IntKind.i64 0), AV.d (D.str { data := { toList := [] } }), AV.d (D.int IntKind.i64 0)] }),
  (217, { td := TD.array 256 4, size := 256, bytes := 256, zero := [AV.d (D.bool false), AV.d (D.bool false), AV.d (D.bool false), AV.d (D.bool false), AV.d (D.bool false), AV.d (D.bool false), AV.d (D.bool false), AV.d (D.bool false), AV.d (D.bool false), AV.d (D.bool false), AV.d (D.bool false), AV.d (D.bool false), AV.d (D.bool false), AV.d (D.bool false), AV.d (D.bool false), AV.d (D.bool false), AV.d (D.bool false), AV.d (D.bool false), AV.d (D.bool false), AV.d (D.bool false), AV.d (D.bool false), AV.d (D.bool false), AV.d (D.bool false), AV.d (D.bool false), AV.d (D.bool false), AV.d (D.bool false), AV.d (D.bool false), AV.d (D.bool false), AV.d (D.bool false), AV.d (D.bool false), AV.d (D.bool false), AV.d (D.bool false), AV.d (D.bool false), AV.d (D.bool false), AV.d (D.bool false), AV.d (D.bool false), AV.d (D.bool false), AV.d (D.bool false), AV.d (D.bool false), AV.d (D.bool false), AV.d (D.bool false), AV.d (D.bool false), AV.d (D.bool false), AV.d (D.bool false), AV.d (D.bool false), AV.d (D.bool false), AV.d (D.bool false), AV.d (D.bool false), AV.d (D.bool false), AV.d (D.bool false), AV.d (D.bool false), AV.d (D.bool false), AV.d (D.bool false), AV.d (D.bool false), AV.d (D.bool false), AV.d (D.bool false), AV.d (D.bool false), AV.d (D.bool false), AV.d (D.bool false), AV.d (D.bool false), AV.d (D.bool false), AV.d (D.bool false), AV.d (D.bool false), AV.d (D.bool false), AV.d (D.bool false), AV.d (D.bool false), AV.d (D.bool false), AV.d (D.bool false), AV.d (D.bool false), AV.d (D.bool false), AV.d (D.bool false), AV.d (D.bool false), AV.d (D.bool false), AV.d (D.bool false), AV.d (D.bool false), AV.d (D.bool false), AV.d (D.bool false), AV.d (D.bool false), AV.d (D.bool false), AV.d (D.bool false), AV.d (D.bool false), AV.d (D.bool false), AV.d (D.bool false), AV.d (D.bool false), AV.d (D.bool false), AV.d (D.bool false), AV.d (D.bool false), AV.d (D.bool false), AV.d (D.bool false), AV.d (D.bool false), AV.d (D.bool false), AV.d (D.bool false), AV.d (D.bool false), AV.d (D.bool false), AV.d (D.bool false), AV.d (D.bool false), AV.d (D.bool false), AV.d (D.bool false), AV.d (D.bool false), AV.d (D.bool false), AV.d (D.bool false), AV.d (D.bool false), AV.d (D.bool false), AV.d (D.bool false), AV.d (D.bool false), AV.d (D.bool false), AV.d (D.bool false), AV.d (D.bool false), AV.d (D.bool false), AV.d (D.bool false), AV.d (D.bool false), AV.d (D.bool false), AV.d (D.bool false), AV.d (D.bool false), AV.d (D.bool false), AV.d (D.bool false), AV.d (D.bool false), AV.d (D.bool false), AV.d (D.bool false), AV.d (D.bool false), AV.d (D.bool false), AV.d (D.bool false), AV.d (D.bool false), AV.d (D.bool false), AV.d (D.bool false), AV.d (D.bool false), AV.d (D.bool false), AV.d (D.bool false), AV.d (D.bool false), AV.d (D.bool false), AV.d (D.bool false), AV.d (D.bool false), AV.d (D.bool false), AV.d (D.bool false), AV.d (D.bool false), AV.d (D.bool false), AV.d (D.bool false), AV.d (D.bool false), AV.d (D.bool false), AV.d (D.bool false), AV.d (D.bool false), AV.d (D.bool false), AV.d (D.bool false), AV.d (D.bool false), AV.d (D.bool false), AV.d (D.bool false), AV.d (D.bool false), AV.d (D.bool false), AV.d (D.bool false), AV.d (D.bool false), AV.d (D.bool false), AV.d (D.bool false), AV.d (D.bool false), AV.d (D.bool false), AV.d (D.bool false), AV.d (D.bool false), AV.d (D.bool false), AV.d (D.bool false), AV.d (D.bool false), AV.d (D.bool false), AV.d (D.bool false), AV.d (D.bool false), AV.d (D.bool false), AV.d (D.bool false), AV.d (D.bool false), AV.d (D.bool false), AV.d (D.bool false), AV.d (D.bool false), AV.d (D.bool false), AV.d (D.bool false), AV.d (D.bool false), AV.d (D.bool false), AV.d (D.bool false), AV.d (D.bool false), AV.d (D.bool false), AV.d (D.bool false), AV.d (D.bool false), AV.d (D.bool false), AV.d (D.bool false), AV.d (D.bool false), AV.d (D.bool false), AV.d (D.bool false), AV.d (D.bool false), AV.d (D.bool false), AV.d (D.bool false), AV.d (D.bool false), AV.d (D.bool false), AV.d (D.bool false), AV.d (D.bool false), AV.d (D.bool false), AV.d (D.bool false), AV.d (D.bool false), AV.d (D.bool false), AV.d (D.bool false), AV.d (D.bool false), AV.d (D.bool false), AV.d (D.bool false), AV.d (D.bool false), AV.d (D.bool false), AV.d (D.bool false), AV.d (D.bool false), AV.d (D.bool false), AV.d (D.bool false), AV.d (D.bool false), AV.d (D.bool false), AV.d (D.bool false), AV.d (D.bool false), AV.d (D.bool false), AV.d (D.bool false), AV.d (D.bool false), AV.d (D.bool false), AV.d (D.bool false), AV.d (D.bool false), AV.d (D.bool false), AV.d (D.bool false), AV.d (D.bool false), AV.d (D.bool false), AV.d (D.bool false), AV.d (D.bool false), AV.d (D.bool false), AV.d (D.bool false), AV.d (D.bool false), AV.d (D.bool false), AV.d (D.bool false), AV.d (D.bool false), AV.d (D.bool false), AV.d (D.bool false), AV.d (D.bool false), AV.d (D.bool false), AV.d (D.bool false), AV.d (D.bool false), AV.d (D.bool false), AV.d (D.bool false), AV.d (D.bool false), AV.d (D.bool false), AV.d (D.bool false), AV.d (D.bool false), AV.d (D.bool false), AV.d (D.bool false), AV.d (D.bool false), AV.d (D.bool false), AV.d (D.bool false), AV.d (D.bool false), AV.d (D.bool false), AV.d (D.bool false), AV.d (D.bool false), AV.d (D.bool false), AV.d (D.bool false), AV.d (D.bool false), AV.d (D.bool false), AV.d (D.bool false), AV.d (D.bool false), AV.d (D.bool false), AV.d (D.bool false), AV.d (D.bool false), AV.d (D.bool false)] }),
  (36, { td := TD.struct [(0, 34), (3, 34), (6, 26)], size := 7, bytes := 136, zero := [AV.d (D.bool false), AV.nils, AV.nils, AV.d (D.bool false), AV.nils, AV.nils, AV.nils] }),
  (22, { td := TD.slice 102, size := 1, bytes := 24, zero := [AV.nils] }),
  (27, { td := TD.slice 26, size := 1, bytes := 24, zero := [AV.nils] }),
  (272, { td := TD.struct [(0, 5), (1, 5)], size := 2, bytes := 2, zero := [AV.d (D.int IntKind.u8 0), AV.d (D.int IntKind.u8 0)] }),
  (82, { td := TD.other, size := 1, bytes := 8, zero := [AV.nilp] }),
  (102, { td := TD.struct [(0, 3), (1, 3), (2, 3), (3, 34)], size := 6, bytes := 80, zero := [AV.d (D.int IntKind.i64 0), AV.d (D.int IntKind.i64 0), AV.d (D.int IntKind.i64 0), AV.d (D.bool false), AV.nils, AV.nils] }),
  (141, { td := TD.other, size := 1, bytes := 8, zero := [AV.nilp] }),
  (260, { td := TD.slice 32, size := 1, bytes := 24, zero := [AV.nils] }),
  (168, { td := TD.other, size := 1, bytes := 8, zero := [AV.nilp] }),
  (83, { td := TD.other, size := 1, bytes := 8, zero := [AV.nilp] }),
  (226, { td := TD.struct [(0, 3), (1, 3), (2, 3)], size := 3, bytes := 24, zero := [AV.d (D.int IntKind.i64 0), AV.d (D.int IntKind.i64 0), AV.d (D.int IntKind.i64 0)] }),
  (118, { td := TD.struct [(0, 3), (1, 3)], size := 2, bytes := 16, zero := [AV.d (D.int IntKind.i64 0), AV.d (D.int IntKind.i64 0)] }),
  (103, { td := TD.array 6 9, size := 6, bytes := 96, zero := [AV.d (D.str { data := { toList := [] } }), AV.d (D.str { data := { toList := [] } }), AV.d (D.str { data := { toList := [] } }), AV.d (D.str { data := { toList := [] } }), AV.d (D.str { data := { toList := [] } }), AV.d (D.str { data := { toList := [] } })] }),
  (120, { td := TD.struct [(0, 118), (2, 3)], size := 3, bytes := 24, zero := [AV.d (D.int IntKind.i64 0), AV.d (D.int IntKind.i64 0), AV.d (D.int IntKind.i64 0)] }),
  (214, { td := TD.array 9 5, size := 9, bytes := 9, zero := [AV.d (D.int IntKind.u8 0), AV.d (D.int IntKind.u8 0), AV.d (D.int IntKind.u8 0), AV.d (D.int IntKind.u8 0), AV.d (D.int IntKind.u8 0), AV.d (D.int IntKind.u8 0), AV.d (D.int IntKind.u8 0), AV.d (D.int IntKind.u8 0), AV.d (D.int IntKind.u8 0)] }),
  (222, { td := TD.other, size := 1, bytes := 8, zero := [AV.nilp] }),
  (273, { td := TD.array 16 272, size := 32, bytes := 32, zero := [AV.d (D.int IntKind.u8 0), AV.d (D.int IntKind.u8 0), AV.d (D.int IntKind.u8 0), AV.d (D.int IntKind.u8 0), AV.d (D.int IntKind.u8 0), AV.d (D.int IntKind.u8 0), AV.d (D.int IntKind.u8 0), AV.d (D.int IntKind.u8 0), AV.d (D.int IntKind.u8 0), AV.d (D.int IntKind.u8 0), AV.d (D.int IntKind.u8 0), AV.d (D.int IntKind.u8 0), AV.d (D.int IntKind.u8 0), AV.d (D.int IntKind.u8 0), AV.d (D.int IntKind.u8 0), AV.d (D.int IntKind.u8 0), AV.d (D.int IntKind.u8 0), AV.d (D.int IntKind.u8 0), AV.d (D.int IntKind.u8 0), AV.d (D.int IntKind.u8 0), AV.d (D.int IntKind.u8 0), AV.d (D.int IntKind.u8 0), AV.d (D.int IntKind.u8 0), AV.d (D.int IntKind.u8 0), AV.d (D.int IntKind.u8 0), AV.d (D.int IntKind.u8 0), AV.d (D.int IntKind.u8 0), AV.d (D.int IntKind.u8 0), AV.d (D.int IntKind.u8 0), AV.d (D.int IntKind.u8 0), AV.d (D.int IntKind.u8 0), AV.d (D.int IntKind.u8 0)] }),
  (221, { td := TD.other, size := 1, bytes := 8, zero := [AV.nilp] }),
  (177, { td := TD.other, size := 1, bytes := 8, zero := [AV.nilp] }),
  (189, { td := TD.other, size := 1, bytes := 8, zero := [AV.nilp] }),
  (270, { td := TD.array 256 5, size := 256, bytes := 256, zero := [AV.d (D.int IntKind.u8 0), AV.d (D.int IntKind.u8 0), AV.d (D.int IntKind.u8 0), AV.d (D.int IntKind.u8 0), AV.d (D.int IntKind.u8 0), AV.d (D.int IntKind.u8 0), AV.d (D.int IntKind.u8 0), AV.d (D.int IntKind.u8 0), AV.d (D.int IntKind.u8 0), AV.d (D.int IntKind.u8 0), AV.d (D.int IntKind.u8 0), AV.d (D.int IntKind.u8 0), AV.d (D.int IntKind.u8 0), AV.d (D.int IntKind.u8 0), AV.d (D.int IntKind.u8 0), AV.d (D.int IntKind.u8 0), AV.d (D.int IntKind.u8 0), AV.d (D.int IntKind.u8 0), AV.d (D.int IntKind.u8 0), AV.d (D.int IntKind.u8 0), AV.d (D.int IntKind.u8 0), AV.d (D.int IntKind.u8 0), AV.d (D.int IntKind.u8 0), AV.d (D.int IntKind.u8 0), AV.d (D.int IntKind.u8 0), AV.d (D.int IntKind.u8 0), AV.d (D.int IntKind.u8 0), AV.d (D.int IntKind.u8 0), AV.d (D.int IntKind.u8 0), AV.d (D.int IntKind.u8 0), AV.d (D.int IntKind.u8 0), AV.d (D.int IntKind.u8 0), AV.d (D.int IntKind.u8 0), AV.d (D.int IntKind.u8 0), AV.d (D.int IntKind.u8 0), AV.d (D.int IntKind.u8 0), AV.d (D.int IntKind.u8 0), AV.d (D.int IntKind.u8 0), AV.d (D.int IntKind.u8 0), AV.d (D.int IntKind.u8 0), AV.d (D.int IntKind.u8 0), AV.d (D.int IntKind.u8 0), AV.d (D.int IntKind.u8 0), AV.d (D.int IntKind.u8 0), AV.d (D.int IntKind.u8 0), AV.d (D.int IntKind.u8 0), AV.d (D.int IntKind.u8 0), AV.d (D.int IntKind.u8 0), AV.d (D.int IntKind.u8 0), AV.d (D.int IntKind.u8 0), AV.d (D.int IntKind.u8 0), AV.d (D.int IntKind.u8 0), AV.d (D.int IntKind.u8 0), AV.d (D.int IntKind.u8 0), AV.d (D.int IntKind.u8 0), AV.d (D.int IntKind.u8 0), AV.d (D.int IntKind.u8 0), AV.d (D.int IntKind.u8 0), AV.d (D.int IntKind.u8 0), AV.d (D.int IntKind.u8 0), AV.d (D.int IntKind.u8 0), AV.d (D.int IntKind.u8 0), AV.d (D.int IntKind.u8 0), AV.d (D.int IntKind.u8 0), AV.d (D.int IntKind.u8 0), AV.d (D.int IntKind.u8 0), AV.d (D.int IntKind.u8 0), AV.d (D.int IntKind.u8 0), AV.d (D.int IntKind.u8 0), AV.d (D.int IntKind.u8 0), AV.d (D.int IntKind.u8 0), AV.d (D.int IntKind.u8 0), AV.d (D.int IntKind.u8 0), AV.d (D.int IntKind.u8 0), AV.d (D.int IntKind.u8 0), AV.d (D.int IntKind.u8 0), AV.d (D.int IntKind.u8 0), AV.d (D.int IntKind.u8 0), AV.d (D.int IntKind.u8 0), AV.d (D.int IntKind.u8 0), AV.d (D.int IntKind.u8 0), AV.d (D.int IntKind.u8 0), AV.d (D.int IntKind.u8 0), AV.d (D.int IntKind.u8 0), AV.d (D.int IntKind.u8 0), AV.d (D.int IntKind.u8 0), AV.d (D.int IntKind.u8 0), AV.d (D.int IntKind.u8 0), AV.d (D.int IntKind.u8 0), AV.d (D.int IntKind.u8 0), AV.d (D.int IntKind.u8 0), AV.d (D.int IntKind.u8 0), AV.d (D.int IntKind.u8 0), AV.d (D.int IntKind.u8 0), AV.d (D.int IntKind.u8 0), AV.d (D.int IntKind.u8 0), AV.d (D.int IntKind.u8 0), AV.d (D.int IntKind.u8 0), AV.d (D.int IntKind.u8 0), AV.d (D.int IntKind.u8 0), AV.d (D.int IntKind.u8 0), AV.d (D.int IntKind.u8 0), AV.d (D.int IntKind.u8 0), AV.d (D.int IntKind.u8 0), AV.d (D.int IntKind.u8 0), AV.d (D.int IntKind.u8 0), AV.d (D.int IntKind.u8 0), AV.d (D.int IntKind.u8 0), AV.d (D.int IntKind.u8 0), AV.d (D.int IntKind.u8 0), AV.d (D.int IntKind.u8 0), AV.d (D.int IntKind.u8 0), AV.d (D.int IntKind.u8 0), AV.d (D.int IntKind.u8 0), AV.d (D.int IntKind.u8 0), AV.d (D.int IntKind.u8 0), AV.d (D.int IntKind.u8 0), AV.d (D.int IntKind.u8 0), AV.d (D.int IntKind.u8 0), AV.d (D.int IntKind.u8 0), AV.d (D.int IntKind.u8 0), AV.d (D.int IntKind.u8 0), AV.d (D.int IntKind.u8 0), AV.d (D.int IntKind.u8 0), AV.d (D.int IntKind.u8 0), AV.d (D.int IntKind.u8 0), AV.d (D.int IntKind.u8 0), AV.d (D.int IntKind.u8 0), AV.d (D.int IntKind.u8 0), AV.d (D.int IntKind.u8 0), AV.d (D.int IntKind.u8 0), AV.d (D.int IntKind.u8 0), AV.d (D.int IntKind.u8 0), AV.d (D.int IntKind.u8 0), AV.d (D.int IntKind.u8 0), AV.d (D.int IntKind.u8 0), AV.d (D.int IntKind.u8 0), AV.d (D.int IntKind.u8 0), AV.d (D.int IntKind.u8 0), AV.d (D.int IntKind.u8 0), AV.d (D.int IntKind.u8 0), AV.d (D.int IntKind.u8 0), AV.d (D.int IntKind.u8 0), AV.d (D.int IntKind.u8 0), AV.d (D.int IntKind.u8 0), AV.d (D.int IntKind.u8 0), AV.d (D.int IntKind.u8 0), AV.d (D.int IntKind.u8 0), AV.d (D.int IntKind.u8 0), AV.d (D.int IntKind.u8 0), AV.d (D.int IntKind.u8 0), AV.d (D.int IntKind.u8 0), AV.d (D.int IntKind.u8 0), AV.d (D.int IntKind.u8 0), AV.d (D.int IntKind.u8 0), AV.d (D.int IntKind.u8 0), AV.d (D.int IntKind.u8 0), AV.d (D.int IntKind.u8 0), AV.d (D.int IntKind.u8 0), AV.d (D.int IntKind.u8 0), AV.d (D.int IntKind.u8 0), AV.d (D.int IntKind.u8 0), AV.d (D.int IntKind.u8 0), AV.d (D.int IntKind.u8 0), AV.d (D.int IntKind.u8 0), AV.d (D.int IntKind.u8 0), AV.d (D.int IntKind.u8 0), AV.d (D.int IntKind.u8 0), AV.d (D.int IntKind.u8 0), AV.d (D.int IntKind.u8 0), AV.d (D.int IntKind.u8 0), AV.d (D.int IntKind.u8 0), AV.d (D.int IntKind.u8 0), AV.d (D.int IntKind.u8 0), AV.d (D.int IntKind.u8 0), AV.d (D.int IntKind.u8 0), AV.d (D.int IntKind.u8 0), AV.d (D.int IntKind.u8 0), AV.d (D.int IntKind.u8 0), AV.d (D.int IntKind.u8 0), AV.d (D.int IntKind.u8 0), AV.d (D.int IntKind.u8 0), AV.d (D.int IntKind.u8 0), AV.d (D.int IntKind.u8 0), AV.d (D.int IntKind.u8 0), AV.d (D.int IntKind.u8 0), AV.d (D.int IntKind.u8 0), AV.d (D.int IntKind.u8 0), AV.d (D.int IntKind.u8 0), AV.d (D.int IntKind.u8 0), AV.d (D.int IntKind.u8 0), AV.d (D.int IntKind.u8 0), AV.d (D.int IntKind.u8 0), AV.d (D.int IntKind.u8 0), AV.d (D.int IntKind.u8 0), AV.d (D.int IntKind.u8 0), AV.d (D.int IntKind.u8 0), AV.d (D.int IntKind.u8 0), AV.d (D.int IntKind.u8 0), AV.d (D.int IntKind.u8 0), AV.d (D.int IntKind.u8 0), AV.d (D.int IntKind.u8 0), AV.d (D.int IntKind.u8 0), AV.d (D.int IntKind.u8 0), AV.d (D.int IntKind.u8 0), AV.d (D.int IntKind.u8 0), AV.d (D.int IntKind.u8 0), AV.d (D.int IntKind.u8 0), AV.d (D.int IntKind.u8 0), AV.d (D.int IntKind.u8 0), AV.d (D.int IntKind.u8 0), AV.d (D.int IntKind.u8 0), AV.d (D.int IntKind.u8 0), AV.d (D.int IntKind.u8 0), AV.d (D.int IntKind.u8 0), AV.d (D.int IntKind.u8 0), AV.d (D.int IntKind.u8 0), AV.d (D.int IntKind.u8 0), AV.d (D.int IntKind.u8 0), AV.d (D.int IntKind.u8 0), AV.d (D.int IntKind.u8 0), AV.d (D.int IntKind.u8 0), AV.d (D.int IntKind.u8 0), AV.d (D.int IntKind.u8 0), AV.d (D.int IntKind.u8 0), AV.d (D.int IntKind.u8 0), AV.d (D.int IntKind.u8 0), AV.d (D.int IntKind.u8 0), AV.d (D.int IntKind.u8 0), AV.d (D.int IntKind.u8 0), AV.d (D.int IntKind.u8 0), AV.d (D.int IntKind.u8 0), AV.d (D.int IntKind.u8 0), AV.d (D.int IntKind.u8 0), AV.d (D.int IntKind.u8 0), AV.d (D.int IntKind.u8 0), AV.d (D.int IntKind.u8 0), AV.d (D.int IntKind.u8 0), AV.d (D.int IntKind.u8 0), AV.d (D.int IntKind.u8 0), AV.d (D.int IntKind.u8 0), AV.d (D.int IntKind.u8 0), AV.d (D.int IntKind.u8 0), AV.d (D.int IntKind.u8 0), AV.d (D.int IntKind.u8 0), AV.d (D.int IntKind.u8 0), AV.d (D.int IntKind.u8 0), AV.d (D.int IntKind.u8 0), AV.d (D.int IntKind.u8 0), AV.d (D.int IntKind.u8 0), AV.d (D.int IntKind.u8 0), AV.d (D.int IntKind.u8 0), AV.d (D.int IntKind.u8 0), AV.d (D.int IntKind.u8 0), AV.d (D.int IntKind.u8 0), AV.d (D.int IntKind.u8 0)] })]

set_option maxRecDepth 100000 in
theorem tyl_ok : TabOk Go.Proofs.Tryz.prog (look tyl) := tabOk_of (by kernel_rfl) (by kernel_rfl)
theorem mixed : Go.Proofs.Tryz.prog.follows .mixedOrders = true := by kernel_rfl
/-- The worlds: the program's shape. -/
noncomputable def gw : GW where
  ok := fun w => w.ShapedOpen Go.Proofs.Tryz.prog ∧ Go.Proofs.Tryz.prog.low ≤ w.heap.size
  low := Go.Proofs.Tryz.prog.low
  size := fun _ h => h.2
  keep := fun w w' may h hk hm => ⟨h.1.keptBut hk hm, by
    rcases Nat.lt_or_ge w'.heap.size w.heap.size with hlt | hge
    · have := hk.2.2 w'.heap.size hlt
      rw [Array.getElem?_eq_none (Nat.le_refl _), Array.getElem?_eq_getElem hlt] at this
      split at this
      · contradiction
      · contradiction
      · cases this
    · exact Nat.le_trans h.2 hge⟩
noncomputable abbrev CN := Con Go.Proofs.Tryz.prog gw
def eqL : List (Nat × Nat) := [(59, 4), (226, 3)]
def meL : List (Nat × String × FuncId) := [(163, "Add", 216), (163, "Fits", 217), (163, "Mul", 218), (163, "Neg", 219), (163, "Of", 220), (163, "Pow", 221), (163, "Quo", 222), (163, "Sub", 223)]
noncomputable def cx (keep : List Nat) : Cx := { tab := look tyl, C := CN, keep, eqs := lookE eqL, meth := lookMe meL }
theorem ex_ok (keep : List Nat) : ExOk Go.Proofs.Tryz.prog (cx keep) := exOk_of (le := eqL) (lm := meL) rfl rfl (by kernel_rfl) (by kernel_rfl)
theorem by_ok (keep : List Nat) : ByOk (cx keep) := byOk_of (l := tyl) rfl (by kernel_rfl)
/-- A contract for a function without memory. -/
theorem con_of {f : FuncId} {fn : Func} {code : Code} {vs : List AV} {r : AV}
    (hf : Go.Proofs.Tryz.prog.funcs[f]? = some fn) (hb : fn.body = some code) (hname : (fn.name == "runtime.NumGoroutine") = false) (hlen : vs.length ≤ fn.ntmps)
    (h : awp (cx []) code (frm fn.ntmps vs) [] (doneK (look tyl) fn.results.toList [] fun r' => r' = r)) : CN f vs [] r [] :=
  contract_of_awp (c := cx []) mixed tyl_ok (ex_ok _) (by_ok _) (fun _ _ _ _ _ h => h) hf hb hname rfl trivial hlen h
/-- A contract for a function that uses memory. -/
theorem conF_of {f : FuncId} {fn : Func} {code : Code} {vs : List AV} {F F' : Mem} {r : AV}
    (hf : Go.Proofs.Tryz.prog.funcs[f]? = some fn) (hb : fn.body = some code) (hname : (fn.name == "runtime.NumGoroutine") = false) (hkeep : keepM F' (ids F)) (hlen : vs.length ≤ fn.ntmps)
    (h : awp (cx (ids F)) code (frm fn.ntmps vs) F (doneK (look tyl) fn.results.toList F' fun r' => r' = r)) : CN f vs F r F' :=
  contract_of_awp (c := cx (ids F)) mixed tyl_ok (ex_ok _) (by_ok _) (fun _ _ _ _ _ h => h) hf hb hname rfl hkeep hlen h
end Go.KM
end
section
namespace Go.KM
open Go

theorem wrap64 {x : Int} (h0 : -9223372036854775808 ≤ x) (h1 : x ≤ 9223372036854775807) : IntKind.i64.wrap x = x := by
  simp [IntKind.wrap, IntKind.signed, IntKind.bits]
  omega
def wd (l : List Int) : D := .sl (l.map fun x => [.int .u32 x])
/-- No zeros at the end. -/
def trimL : List Int → List Int
  | [] => []
  | x :: r => match trimL r with
    | [] => if x = 0 then [] else [x]
    | y :: z => x :: y :: z

theorem trimL_zero (l : List Int) : trimL (l ++ [0]) = trimL l := by
  induction l with
  | nil => rfl
  | cons x r ih => simp [trimL, ih]
theorem trimL_last (l : List Int) {x : Int} (h : x ≠ 0) : trimL (l ++ [x]) = l ++ [x] := by
  induction l with
  | nil => simp [trimL, h]
  | cons y r ih =>
    simp only [List.cons_append, trimL, ih]
    cases hr : r ++ [x] with
    | nil => simp at hr
    | cons a b => rfl

theorem trim_c (l : List Int) (hl : l.length < 2 ^ 40) : CN 53 [.d (wd l)] [] (.d (wd (trimL l))) [] := by
  refine con_of Go.Proofs.Tryz.func53 rfl (by kernel_rfl) (Nat.le_of_ble_eq_true rfl) ?_
  refine .mk 0 (VLoop.mk Nat (fun n => frm 21 [.d (wd l), .any, .nils, .d (.int .i64 n)]) (fun _ => []) (fun n => n ≤ l.length ∧ trimL (l.take n) = trimL l) (fun n => n) l.length ⟨Nat.le_refl _, by rw [List.take_length]⟩ ?_ trivial trivial ?_)
  · exact ⟨rfl, rfl, by simp, trivial⟩
  · intro n hn
    have fin : trimL l = l.take n → AV.d (.sl (((l.map fun x => [D.int .u32 x]).take n).drop 0)) = .d (wd (trimL l)) := fun h => by
      rw [h, List.drop_zero, wd, List.map_take]
    have hw := wrap64 (x := (n : Int) - 1) (by omega) (by omega)
    refine .mk (fun h1 => ?_) (fun h1 => ?_)
    · have h1 : 0 < n := by simpa using h1
      have hlt : n - 1 < l.length := by omega
      have htk : l.take n = l.take (n - 1) ++ [l[n - 1]] := by
        have := List.take_succ_eq_append_getElem hlt
        rwa [Nat.sub_add_cancel h1] at this
      repeat refine .yes rfl ?_
      refine .mk (by rw [hw]; omega) ⟨l[n - 1], by rw [hw]; simp [List.getElem?_eq_getElem hlt], ?_⟩
      repeat refine .yes rfl ?_
      refine .mk (fun h2 => ?_) (fun h2 => ?_)
      · have h2 : l[n - 1] = 0 := by simpa using h2
        refine ⟨n - 1, ⟨by omega, ?_⟩, by omega, ⟨rfl, rfl, by rw [hw]; congr 2; omega, trivial⟩, trivial, trivial⟩
        rw [← hn.2, htk, h2, trimL_zero]
      · have h2 : l[n - 1] ≠ 0 := by simpa using h2
        refine .of ⟨by omega, by omega, by simp; omega, by simp⟩ ⟨trivial, ?_⟩
        refine fin ?_
        rw [← hn.2, htk, trimL_last _ h2]
    · have h1 : n = 0 := by simpa using h1
      repeat refine .no rfl ?_
      refine .of ⟨by omega, by omega, by simp; omega, by simp⟩ ⟨trivial, ?_⟩
      refine fin ?_
      subst h1
      rw [← hn.2]
      rfl
end Go.KM
end
