/- The law StepStands of the given program answers true for every input.  Part 10 of 10: K285, K29, K30, K31, C70, C71, C72, C73, C69. -/
import Derived.Test.YtdiojmcleapkdaaGreatDoorM9
import Derived.Lib.Strings
import Derived.Test.YtdiojmcleapkdaaGreatDoorCards
import Derived.Test.YtdiojmcleapkdaaGreatDoorTie
import Derived.WalkKit
import Derived.ProofKit
import Derived.OpenShut
import Derived.Deep.DeepHandedRow
import Derived.Lib.LaidTab
set_option linter.all false
section
/- The K machine runs: frames as trees. -/
namespace Go.KM
open Go
/-- Slots in a tree: slot 0 at the root, the odd ones to the left. -/
inductive PT where
  | nil
  | node (v : AV) (l r : PT)
  deriving Inhabited
def getT : PT → Nat → AV
  | .nil, _ => .any
  | .node v l r, n => match n with
    | 0 => v
    | m + 1 => match m % 2 with
      | 0 => getT l (m / 2)
      | _ + 1 => getT r (m / 2)
def hasT : PT → Nat → Bool
  | .nil, _ => false
  | .node _ l r, n => match n with
    | 0 => true
    | m + 1 => match m % 2 with
      | 0 => hasT l (m / 2)
      | _ + 1 => hasT r (m / 2)
def setT : PT → Nat → AV → PT
  | .nil, _, _ => .nil
  | .node x l r, n, v => match n with
    | 0 => .node v l r
    | m + 1 => match m % 2 with
      | 0 => .node x (setT l (m / 2) v) r
      | _ + 1 => .node x l (setT r (m / 2) v)
theorem get_set : ∀ (T : PT) (n : Nat) (v : AV) (t : Nat), hasT T n = true → getT (setT T n v) t = if n = t then v else getT T t
  | .nil, n, v, t, h => by cases h
  | .node x l r, n, v, t, h => by
    cases n with
    | zero =>
      cases t with
      | zero => rfl
      | succ t => rfl
    | succ m =>
      unfold hasT at h
      simp only at h
      cases t with
      | zero =>
        unfold setT
        simp only
        cases hm : m % 2 <;> rfl
      | succ t =>
        cases hm : m % 2 with
        | zero =>
          rw [hm] at h
          have ih := get_set l (m / 2) v (t / 2) h
          unfold setT
          simp only [hm]
          unfold getT
          simp only
          cases ht : t % 2 with
          | zero =>
            simp only
            rw [ih]
            by_cases e : m / 2 = t / 2
            · rw [if_pos e, if_pos (by omega)]
            · rw [if_neg e, if_neg (by omega)]
          | succ k =>
            simp only
            rw [if_neg (by omega)]
        | succ j =>
          rw [hm] at h
          have ih := get_set r (m / 2) v (t / 2) h
          unfold setT
          simp only [hm]
          unfold getT
          simp only
          cases ht : t % 2 with
          | zero =>
            simp only
            rw [if_neg (by omega)]
          | succ k =>
            simp only
            rw [ih]
            by_cases e : m / 2 = t / 2
            · rw [if_pos e, if_pos (by omega)]
            · rw [if_neg e, if_neg (by omega)]
theorem has_set : ∀ (T : PT) (n : Nat) (v : AV) (t : Nat), hasT (setT T n v) t = hasT T t
  | .nil, n, v, t => rfl
  | .node x l r, n, v, t => by
    cases n with
    | zero => cases t <;> rfl
    | succ m =>
      unfold setT
      simp only
      cases hm : m % 2 with
      | zero =>
        simp only
        cases t with
        | zero => rfl
        | succ t =>
          unfold hasT
          simp only
          cases ht : t % 2 with
          | zero => exact has_set l _ _ _
          | succ k => rfl
      | succ j =>
        simp only
        cases t with
        | zero => rfl
        | succ t =>
          unfold hasT
          simp only
          cases ht : t % 2 with
          | zero => rfl
          | succ k => exact has_set r _ _ _
/-- A tree tells a frame. -/
structure Rel (T : PT) (fr : Fr) : Prop where
  get : ∀ t, getT T t = getF fr t
  has : ∀ t, hasT T t = true → t < fr.length
theorem setF_len : ∀ (fr : Fr) (n : Nat) (v : AV), (setF fr n v).length = fr.length
  | [], _, _ => rfl
  | _ :: r, 0, _ => rfl
  | _ :: r, n + 1, v => by simp [setF, setF_len r n v]
theorem getF_setFE : ∀ (fr : Fr) (n : Nat) (v : AV) (t : Nat), n < fr.length → getF (setF fr n v) t = if n = t then v else getF fr t
  | [], n, _, _, h => by cases h
  | x :: r, 0, v, t, h => by cases t <;> rfl
  | x :: r, n + 1, v, t, h => by
    cases t with
    | zero => rfl
    | succ t =>
      show getF (setF r n v) t = _
      rw [getF_setFE r n v t (Nat.lt_of_succ_lt_succ h)]
      by_cases e : n = t
      · rw [if_pos e, if_pos (by omega)]; 
      · rw [if_neg e, if_neg (by omega)]; rfl
theorem Rel.set {T : PT} {fr : Fr} (h : Rel T fr) {n : Nat} (hn : hasT T n = true) (v : AV) : Rel (setT T n v) (setF fr n v) where
  get := fun t => by rw [get_set T n v t hn, getF_setFE fr n v t (h.has n hn), h.get]
  has := fun t ht => by rw [setF_len]; rw [has_set] at ht; exact h.has t ht
/-- A slot is set; what follows gets the tree's way written out. -/
def setTG {α : Type} : PT → Nat → AV → (PT → Option α) → Option α
  | .nil, _, _, _ => none
  | .node x l r, n, v, K => match n with
    | 0 => K (.node v l r)
    | m + 1 => match m % 2 with
      | 0 => setTG l (m / 2) v fun l => K (.node x l r)
      | _ + 1 => setTG r (m / 2) v fun r => K (.node x l r)
theorem setTG_eq {α : Type} {x : α} : ∀ {T : PT} {n : Nat} {v : AV} {K : PT → Option α}, setTG T n v K = some x → hasT T n = true ∧ K (setT T n v) = some x
  | .nil, n, v, K, h => by cases h
  | .node y l r, n, v, K, h => by
    cases n with
    | zero => exact ⟨rfl, h⟩
    | succ m =>
      unfold setTG at h
      simp only at h
      unfold hasT setT
      simp only
      cases hm : m % 2 with
      | zero =>
        rw [hm] at h
        exact setTG_eq h
      | succ k =>
        rw [hm] at h
        exact setTG_eq h
def evT (T : PT) : Operand → AV
  | .tmp t => getT T t
  | .const v => ofConst v
  | .func f => .fn f
  | .global _ => .any
theorem Rel.ev {T : PT} {fr : Fr} (h : Rel T fr) : evT T = evO fr := by
  funext x
  cases x with
  | tmp t => exact h.get t
  | const v => rfl
  | func f => rfl
  | global g => rfl
/-- A tree of so many slots, the first ones given: of those of places a * i + b. -/
def mkT : Nat → Nat → Nat → Nat → List AV → PT
  | 0, _, _, _, _ => .nil
  | _ + 1, 0, _, _, _ => .nil
  | f + 1, k + 1, a, b, l => .node ((l[b]?).getD .any) (mkT f ((k + 1) / 2) (2 * a) (a + b) l) (mkT f (k / 2) (2 * a) (2 * a + b) l)
theorem mkT_get : ∀ {f k a b : Nat} {l : List AV} (t : Nat), hasT (mkT f k a b l) t = true → t < k ∧ getT (mkT f k a b l) t = (l[a * t + b]?).getD .any
  | 0, k, a, b, l, t, h => by cases h
  | f + 1, 0, a, b, l, t, h => by cases h
  | f + 1, k + 1, a, b, l, t, h => by
    cases t with
    | zero => exact ⟨Nat.succ_pos _, by simp [mkT, getT]⟩
    | succ t =>
      unfold mkT at h ⊢
      unfold hasT at h
      unfold getT
      simp only at h ⊢
      cases ht : t % 2 with
      | zero =>
        rw [ht] at h
        obtain ⟨h1, h2⟩ := mkT_get (t / 2) h
        refine ⟨by omega, ?_⟩
        simp only
        rw [h2]
        have : 2 * a * (t / 2) + (a + b) = a * (t + 1) + b := by
          have e : t = 2 * (t / 2) := by omega
          have e2 : 2 * a * (t / 2) = a * t := by rw [Nat.mul_comm 2 a, Nat.mul_assoc]; rw [← e]
          rw [e2, Nat.mul_succ]; omega
        rw [this]
      | succ j =>
        rw [ht] at h
        obtain ⟨h1, h2⟩ := mkT_get (t / 2) h
        refine ⟨by omega, ?_⟩
        simp only
        rw [h2]
        have : 2 * a * (t / 2) + (2 * a + b) = a * (t + 1) + b := by
          have e : t = 2 * (t / 2) + 1 := by omega
          have e2 : 2 * a * (t / 2) = a * (2 * (t / 2)) := by rw [Nat.mul_comm 2 a, Nat.mul_assoc]
          have e3 : a * (t + 1) = a * (2 * (t / 2)) + 2 * a := by
            conv => lhs; rw [e]
            rw [show 2 * (t / 2) + 1 + 1 = 2 * (t / 2) + 2 by omega, Nat.mul_add, Nat.mul_comm a 2]
          rw [e2, e3]; omega
        rw [this]
theorem mkT_no : ∀ {f k a b : Nat} {l : List AV} (t : Nat), hasT (mkT f k a b l) t = false → getT (mkT f k a b l) t = .any
  | 0, k, a, b, l, t, h => rfl
  | f + 1, 0, a, b, l, t, h => rfl
  | f + 1, k + 1, a, b, l, t, h => by
    cases t with
    | zero => cases h
    | succ t =>
      unfold mkT at h ⊢
      unfold hasT at h
      unfold getT
      simp only at h ⊢
      cases ht : t % 2 with
      | zero => rw [ht] at h; exact mkT_no _ h
      | succ j => rw [ht] at h; exact mkT_no _ h
/-- All slots are there. -/
theorem mkT_all : ∀ {f k a b : Nat} {l : List AV} (t : Nat), k < 2 ^ f → t < k → hasT (mkT f k a b l) t = true
  | 0, k, a, b, l, t, h, h2 => by simp at h; omega
  | f + 1, 0, a, b, l, t, h, h2 => by omega
  | f + 1, k + 1, a, b, l, t, h, h2 => by
    cases t with
    | zero => rfl
    | succ t =>
      unfold mkT hasT
      simp only
      rw [Nat.pow_succ] at h
      cases ht : t % 2 with
      | zero => exact mkT_all _ (by omega) (by omega)
      | succ j => exact mkT_all _ (by omega) (by omega)
theorem Rel.frm {n : Nat} {l : List AV} (hl : l.length ≤ n) (hn : n < 2 ^ 9) : Rel (mkT 9 n 1 0 l) (frm n l) where
  get := fun t => by
    rw [frm_get]
    cases h : hasT (mkT 9 n 1 0 l) t with
    | true => rw [(mkT_get t h).2]; simp
    | false =>
      rw [mkT_no t h]
      have : ¬ t < n := fun e => by rw [mkT_all t hn e] at h; cases h
      rw [List.getElem?_eq_none (by omega)]; rfl
  has := fun t h => by
    have := (mkT_get t h).1
    simp [Go.KM.frm]; omega

/-! Ahead of a round. -/
def cutV (dom l : List Nat) (n : Nat) (v : AV) : AV :=
  match okAV [] v with
  | true => v
  | false => match l.contains n with
    | true => .any
    | false => match okAV dom v with
      | true => v
      | false => .any
theorem cutV_any (dom l : List Nat) (n : Nat) : cutV dom l n .any = .any := rfl
mutual
theorem okAV_nil : ∀ {dom : List Nat} {v : AV}, okAV [] v = true → okAV dom v = true
  | dom, .any, _ | dom, .d _, _ | dom, .nils, _ | dom, .nilp, _ | dom, .ro _, _ | dom, .fn _, _ => rfl
  | dom, .addr i o, h => by simp [okAV] at h
  | dom, .el i _ _ _ _, h => by simp [okAV] at h
  | dom, .own i _ _, h => by simp [okAV] at h
  | dom, .agg cs, h => by simp only [okAV] at h ⊢; exact okAVs_nil h
  | dom, .tup cs, h => by simp only [okAV] at h ⊢; exact okAVs_nil h
  | dom, .iface _ v, h => by simp only [okAV] at h ⊢; exact okAV_nil h
  | dom, .clo _ cs, h => by simp only [okAV] at h ⊢; exact okAVs_nil h
theorem okAVs_nil : ∀ {dom : List Nat} {l : List AV}, okAV.okAVs [] l = true → okAV.okAVs dom l = true
  | dom, [], _ => rfl
  | dom, v :: r, h => by
    simp only [okAV.okAVs, Bool.and_eq_true] at h ⊢
    exact ⟨okAV_nil h.1, okAVs_nil h.2⟩
end
theorem cutV_cases (dom l : List Nat) (n : Nat) (v : AV) : cutV dom l n v = .any ∨ (cutV dom l n v = v ∧ okAV dom v = true) := by
  unfold cutV
  split
  · rename_i e; exact .inr ⟨rfl, okAV_nil e⟩
  · split
    · exact .inl rfl
    · split
      · rename_i e; exact .inr ⟨rfl, e⟩
      · exact .inl rfl
def cutT (dom l : List Nat) : Nat → Nat → PT → PT
  | _, _, .nil => .nil
  | a, b, .node v x y => .node (cutV dom l b v) (cutT dom l (2 * a) (a + b) x) (cutT dom l (2 * a) (2 * a + b) y)
theorem cutT_has {dom l : List Nat} : ∀ {a b : Nat} {T : PT} (t : Nat), hasT (cutT dom l a b T) t = hasT T t
  | a, b, .nil, t => rfl
  | a, b, .node v x y, t => by
    cases t with
    | zero => rfl
    | succ t =>
      unfold cutT hasT
      simp only
      cases ht : t % 2 with
      | zero => exact cutT_has _
      | succ j => exact cutT_has _
theorem cutT_get {dom l : List Nat} : ∀ {a b : Nat} {T : PT} (t : Nat), getT (cutT dom l a b T) t = cutV dom l (a * t + b) (getT T t)
  | a, b, .nil, t => by
    rfl
  | a, b, .node v x y, t => by
    cases t with
    | zero => simp [cutT, getT]
    | succ t =>
      unfold cutT getT
      simp only
      cases ht : t % 2 with
      | zero =>
        simp only
        rw [cutT_get (t / 2)]
        have : 2 * a * (t / 2) + (a + b) = a * (t + 1) + b := by
          have e : t = 2 * (t / 2) := by omega
          have e2 : 2 * a * (t / 2) = a * t := by rw [Nat.mul_comm 2 a, Nat.mul_assoc]; rw [← e]
          rw [e2, Nat.mul_succ]; omega
        rw [this]
      | succ j =>
        simp only
        rw [cutT_get (t / 2)]
        have : 2 * a * (t / 2) + (2 * a + b) = a * (t + 1) + b := by
          have e : t = 2 * (t / 2) + 1 := by omega
          have e2 : 2 * a * (t / 2) = a * (2 * (t / 2)) := by rw [Nat.mul_comm 2 a, Nat.mul_assoc]
          have e3 : a * (t + 1) = a * (2 * (t / 2)) + 2 * a := by
            conv => lhs; rw [e]
            rw [show 2 * (t / 2) + 1 + 1 = 2 * (t / 2) + 2 by omega, Nat.mul_add, Nat.mul_comm a 2]
          rw [e2, e3]; omega
        rw [this]
def cutF (dom l : List Nat) : Nat → Fr → Fr
  | _, [] => []
  | n, v :: r => cutV dom l n v :: cutF dom l (n + 1) r
theorem cutF_len {dom l : List Nat} : ∀ (n : Nat) (fr : Fr), (cutF dom l n fr).length = fr.length
  | _, [] => rfl
  | n, v :: r => by simp [cutF, cutF_len (n + 1) r]
theorem cutF_get {dom l : List Nat} : ∀ (n : Nat) (fr : Fr) (t : Nat), getF (cutF dom l n fr) t = cutV dom l (n + t) (getF fr t)
  | n, [], t => by
    rfl
  | n, v :: r, 0 => rfl
  | n, v :: r, t + 1 => by
    show getF (cutF dom l (n + 1) r) t = cutV dom l (n + (t + 1)) (getF r t)
    rw [cutF_get (n + 1) r t, show n + 1 + t = n + (t + 1) by omega]
theorem leF_cut {dom l : List Nat} : ∀ (n : Nat) (fr : Fr), leF dom fr (cutF dom l n fr)
  | _, [] => trivial
  | n, v :: r => by
    have ih := leF_cut (dom := dom) (l := l) (n + 1) r
    unfold cutF
    rcases cutV_cases dom l n v with e | ⟨e, e2⟩
    · rw [e]; cases v <;> exact ih
    · rw [e]
      cases v with
      | any => exact ih
      | d x => simp only [leF, e2]; exact ⟨trivial, ih⟩
      | _ => simp only [leF, e2]; exact ⟨trivial, ih⟩
theorem Rel.cut {T : PT} {fr : Fr} (h : Rel T fr) (dom l : List Nat) : Rel (cutT dom l 1 0 T) (cutF dom l 0 fr) where
  get := fun t => by rw [cutT_get, cutF_get, h.get]; simp
  has := fun t ht => by rw [cutF_len]; rw [cutT_has] at ht; exact h.has t ht
/-- Names that live slots hold. -/
def liveT (l : List Nat) : Nat → Nat → PT → List Nat
  | _, _, .nil => []
  | a, b, .node v x y => (match idsV v with
    | [] => []
    | i :: r => match l.contains b with
      | true => []
      | false => i :: r) ++ (liveT l (2 * a) (a + b) x ++ liveT l (2 * a) (2 * a + b) y)
/-- A tree is reckoned out. -/
def fT {α : Type} : PT → (PT → α) → α
  | .nil, K => K .nil
  | .node v l r, K => fV v fun v => fT l fun l => fT r fun r => K (.node v l r)
theorem fT_eq {α : Type} : ∀ (T : PT) (K : PT → α), fT T K = K T
  | .nil, K => rfl
  | .node v l r, K => by unfold fT; rw [fV_eq, fT_eq l, fT_eq r]
end Go.KM
end
section
/- The K machine runs: code, functions. -/
namespace Go.KM
open Go

/-! A region. -/
section
variable {α : Type}
def putE (o : Oper) (v : AV) (fr : Fr) : Fr :=
  match o.dst with
  | some d => setF fr d v
  | none => fr
theorem putDst_eq (o : Oper) (v : AV) (fr : Fr) (K : Fr → Prop) : putDst o v fr K = K (putE o v fr) := by
  unfold putDst putE
  cases o.dst with
  | none => rfl
  | some d => exact setFK_eq _ _ _ _
def putG (o : Oper) (v : AV) (T : PT) (K : PT → Option α) : Option α :=
  match o.dst with
  | some d => setTG T d v K
  | none => K T
theorem putG_eq {x : α} {o : Oper} {v : AV} {T : PT} {K : PT → Option α} {fr : Fr} (hr : Rel T fr) (h : putG o v T K = some x) : ∃ T', Rel T' (putE o v fr) ∧ K T' = some x := by
  unfold putG at h
  unfold putE
  cases hd : o.dst with
  | none => rw [hd] at h; exact ⟨T, hr, h⟩
  | some d =>
    rw [hd] at h
    obtain ⟨h1, h2⟩ := setTG_eq h
    exact ⟨_, hr.set h1 v, h2⟩
/-- One operation, then what follows. -/
def goE (c : Rn) (o : Oper) (acc : List Rec) (mem : Mem) (next : List Rec → Dec → PT → Mem → Option α) (dec : Dec) (T : PT) : Option α :=
  match pickOf dec o.op with
  | some x => fV (evT T x) fun v => putG o v T fun T' => next (acc ++ [([], [])]) (dropD dec o.dst) T' mem
  | none => match opE c (evT T) mem o with
    | some (v, u, t) => fV v fun v => fS u fun u => putG o v T fun T' => next (acc ++ [(t, u.map (·.1))]) (dropD dec o.dst) T' (putM mem u)
    | none => none
def skipE (o : Oper) (acc : List Rec) (mem : Mem) (next : List Rec → Dec → PT → Mem → Option α) (dec : Dec) (T : PT) : Option α :=
  putG o (.tup []) T fun T' => next (acc ++ [([], [])]) (dropD dec o.dst) T' mem
def wantE (c : Rn) (o : Oper) (want : Bool) (b : Bool) (acc : List Rec) (mem : Mem) (next : List Rec → Dec → PT → Mem → Option α) (dec : Dec) (T : PT) : Option α :=
  match b, want with
  | true, true => goE c o acc mem next dec T
  | false, false => goE c o acc mem next dec T
  | true, false => skipE o acc mem next dec T
  | false, true => skipE o acc mem next dec T
def openE (c : Rn) (o : Oper) (want : Bool) (t : Nat) (acc : List Rec) (mem : Mem) (next : List Rec → Dec → PT → Mem → Option α) (dec : Dec) (T : PT) : Option α :=
  match getT T t with
  | .d (.bool true) => setTG T t (.d (.bool true)) fun T => wantE c o want true acc mem next ((t, true) :: dec) T
  | .d (.bool false) => setTG T t (.d (.bool false)) fun T => wantE c o want false acc mem next ((t, false) :: dec) T
  | .tup [] => skipE o acc mem next dec T
  | _ => none
def guardE (c : Rn) (all : List Oper) (o : Oper) (acc : List Rec) (dec : Dec) (T : PT) (mem : Mem) (next : List Rec → Dec → PT → Mem → Option α) : Option α :=
  match o.guard with
  | none => goE c o acc mem next dec T
  | some (g, want) => match (all[g]?).bind (·.dst) with
    | some t => match lookD dec t with
      | some b => wantE c o want b acc mem next dec T
      | none => openE c o want t acc mem next dec T
    | none => none
/-- Operations one behind the other; guards as in opsw. -/
def opsE (c : Rn) (all : List Oper) : List Oper → List Rec → Dec → PT → Mem → (List Rec → PT → Mem → Option α) → Option α
  | [], acc, _, T, mem, K => K acc T mem
  | o :: r, acc, dec, T, mem, K => guardE c all o acc dec T mem fun acc dec T mem => opsE c all r acc dec T mem K
theorem opsE_k {c : Rn} {C : FuncId → List AV → Mem → AV → Mem → Prop} (hc : ∀ b f l F r F', c.call b f l F = some (r, F') → C f l F r F') {all : List Oper} {x : α} {KE : List Rec → PT → Mem → Option α} {K : List Rec → Fr → Mem → Prop} (hK : ∀ acc T fr mem, Rel T fr → KE acc T mem = some x → K acc fr mem) :
    ∀ {ops : List Oper} {acc : List Rec} {dec : Dec} {T : PT} {fr : Fr} {mem : Mem}, Rel T fr → opsE c all ops acc dec T mem KE = some x → opsw (c.cx C) all ops acc dec fr mem K := by
  intro ops
  induction ops with
  | nil => intro acc dec T fr mem hr h; exact hK _ _ _ _ hr h
  | cons o r ih =>
    intro acc dec T fr mem hr h
    have go : ∀ {dec : Dec} {T : PT} {fr : Fr}, Rel T fr → goE c o acc mem (fun acc dec T mem => opsE c all r acc dec T mem KE) dec T = some x → (match pickOf dec o.op with
      | some x => frc (evO fr x) fun v => putDst o v fr fun fr' => opsw (c.cx C) all r (acc ++ [([], [])]) (dropD dec o.dst) fr' mem K
      | none => opw (c.cx C) (evO fr) (getM mem) o fun v u t => putDst o v fr fun fr' => putMK mem u fun mem' => opsw (c.cx C) all r (acc ++ [(t, u.map (·.1))]) (dropD dec o.dst) fr' mem' K) := by
      intro dec T fr hr h
      unfold goE at h
      rw [hr.ev] at h
      split at h
      · rename_i e
        try rw [e]
        simp only [fV_eq] at h
        simp only [frc_eq, putDst_eq]
        obtain ⟨T', hr', h⟩ := putG_eq hr h
        exact ih hr' h
      · rename_i e
        try rw [e]
        split at h
        · rename_i h1
          simp only [fV_eq, fS_eq] at h
          refine opE_k hc h1 ?_
          simp only [putDst_eq, putMK_eq]
          obtain ⟨T', hr', h⟩ := putG_eq hr h
          exact ih hr' h
        · cases h
    have skip : ∀ {dec : Dec} {T : PT} {fr : Fr}, Rel T fr → skipE o acc mem (fun acc dec T mem => opsE c all r acc dec T mem KE) dec T = some x →
      (putDst o (.tup []) fr fun fr' => opsw (c.cx C) all r (acc ++ [([], [])]) (dropD dec o.dst) fr' mem K) := by
      intro dec T fr hr h
      unfold skipE at h
      rw [putDst_eq]
      obtain ⟨T', hr', h⟩ := putG_eq hr h
      exact ih hr' h
    unfold opsE guardE at h
    rw [opsw_cons]
    simp only at h ⊢
    split at h
    · rename_i e; rw [e]; exact go hr h
    · rename_i g want e
      rw [e]
      simp only
      split at h
      · rename_i t e2
        rw [e2]
        simp only
        split at h
        · rename_i b e3
          rw [e3]
          unfold wantE at h
          cases b <;> cases want
          · exact go hr h
          · exact skip hr h
          · exact skip hr h
          · exact go hr h
        · rename_i e3
          rw [e3]
          simp only
          unfold openE at h
          rw [hr.get] at h
          split at h
          · rename_i e4
            rw [e4]
            simp only [setFK_eq]
            refine .yes rfl ?_
            obtain ⟨h1, h2⟩ := setTG_eq h
            unfold wantE at h2
            cases want
            · exact skip (hr.set h1 _) h2
            · exact go (hr.set h1 _) h2
          · rename_i e4
            rw [e4]
            simp only [setFK_eq]
            refine .no rfl ?_
            obtain ⟨h1, h2⟩ := setTG_eq h
            unfold wantE at h2
            cases want
            · exact go (hr.set h1 _) h2
            · exact skip (hr.set h1 _) h2
          · rename_i e4; rw [e4]; exact skip hr h
          · cases h
      · cases h

/-! Loops: what a round need not know is forgotten ahead of it. -/
/-- Slots that the code sets but by an assignment. -/
def setsOps : List Oper → List Nat → List Nat
  | [], s => s
  | o :: r, s => match o.dst with
    | none => setsOps r s
    | some d => match o.op with
      | .assign _ => setsOps r s
      | _ => setsOps r (d :: s)
def deadOf : Code → List Nat → List Nat
  | .region _ ops _, s => setsOps ops.toList s
  | .seq a b, s => deadOf b (deadOf a s)
  | .cond _ a b, s => deadOf b (deadOf a s)
  | .block _ b, s => deadOf b s
  | .loop b, s => deadOf b s
  | .scope b, s => deadOf b s
  | _, s => s
theorem leM_sel {dom : List Nat} {mem : Mem} : ∀ {l : List Nat} {m : Mem}, selM mem l = some m → okMem dom m = true → leM dom mem m
  | [], m, h, _ => by cases h; trivial
  | i :: r, m, h, k => by
    unfold selM at h
    split at h
    · rename_i b hb
      split at h
      · rename_i m' h'
        cases h
        simp only [okMem, Bool.and_eq_true] at k
        simp only [leM, k.1]
        exact ⟨hb, leM_sel h' k.2⟩
      · cases h
    · cases h
theorem keepM_ok {mem : Mem} : ∀ {l : List Nat}, allIn l (ids mem) = true → keepM mem l
  | [], _ => trivial
  | i :: r, h => by
    simp only [allIn, List.all_cons, Bool.and_eq_true] at h
    exact ⟨h.1, keepM_ok h.2⟩
/-- Ahead of a round. -/
def cutE (keep l : List Nat) (T : PT) (mem : Mem) : Option (PT × Mem) :=
  match (match mem with | [] => some [] | _ :: _ => selM mem (reach mem 200 (keep ++ liveT l 1 0 T) [])) with
  | none => none
  | some mem1 => match okMem (ids mem1) mem1 && allIn keep (ids mem1) with
    | true => some (cutT (ids mem1) l 1 0 T, mem1)
    | false => none
theorem cutE_k {keep l : List Nat} {T T1 : PT} {fr : Fr} {mem mem1 : Mem} (hr : Rel T fr) (h : cutE keep l T mem = some (T1, mem1)) : ∃ fr1, Rel T1 fr1 ∧ leF (ids mem1) fr fr1 ∧ leM (ids mem1) mem mem1 ∧ keepM mem1 keep := by
  unfold cutE at h
  split at h
  · cases h
  · rename_i m hm
    split at h
    · rename_i hb
      simp only [Bool.and_eq_true] at hb
      cases h
      refine ⟨_, hr.cut _ _, leF_cut _ _, ?_, keepM_ok hb.2⟩
      split at hm
      · cases hm; trivial
      · exact leM_sel hm hb.1
    · cases h
/-- So many rounds at most. -/
def loopE (keep l : List Nat) (step : PT → Mem → (PT → Mem → Option α) → Option α) : Nat → PT → Mem → Option α
  | 0, _, _ => none
  | n + 1, T, mem => match cutE keep l T mem with
    | none => none
    | some (T1, mem1) => fM mem1 fun mem1 => step T1 mem1 (loopE keep l step n)
theorem loopE_k {keep l : List Nat} {stepE : PT → Mem → (PT → Mem → Option α) → Option α} {step : Step} {x : α}
    (hs : ∀ T fr mem KE K, Rel T fr → stepE T mem KE = some x → (∀ T' fr' mem', Rel T' fr' → KE T' mem' = some x → K fr' mem') → step fr mem K) :
    ∀ {n : Nat} {T : PT} {fr : Fr} {mem : Mem}, Rel T fr → loopE keep l stepE n T mem = some x → rollN keep step n fr mem
  | 0, T, fr, mem, hr, h => by cases h
  | n + 1, T, fr, mem, hr, h => by
    unfold loopE at h
    split at h
    · cases h
    · rename_i T1 mem1 h1
      simp only [fM_eq] at h
      obtain ⟨fr1, hr1, a1, a2, a3⟩ := cutE_k hr h1
      exact ⟨fr1, mem1, a1, a2, a3, hs _ _ _ _ _ hr1 h fun T' fr' mem' hr' h => loopE_k hs hr' h⟩
inductive OutE where
  | normal (T : PT) (mem : Mem)
  | exit (id : Nat) (T : PT) (mem : Mem)
  | ret (T : PT) (mem : Mem)
inductive RelO : OutE → Out → Prop where
  | normal {T : PT} {fr : Fr} {mem : Mem} (h : Rel T fr) : RelO (.normal T mem) (.normal fr mem)
  | exit {i : Nat} {T : PT} {fr : Fr} {mem : Mem} (h : Rel T fr) : RelO (.exit i T mem) (.exit i fr mem)
  | ret {T : PT} {fr : Fr} {mem : Mem} (h : Rel T fr) : RelO (.ret T mem) (.ret fr mem)
def execE (c : Rn) (fuel : Nat) : Code → PT → Mem → (OutE → Option α) → Option α
  | .skip, T, mem, Q => Q (.normal T mem)
  | .region _ ops draw, T, mem, Q => opsE { c with dl := draw } ops.toList ops.toList [] [] T mem fun acc T mem => match draw with
    | false => Q (.normal T mem)
    | true => match recsOk 0 acc (befs ops.toList []) && tmpsOk ops.toList 0 ops.toList (befs ops.toList []) with
      | true => Q (.normal T mem)
      | false => none
  | .seq a b, T, mem, Q => execE c fuel a T mem fun
    | .normal T mem => execE c fuel b T mem Q
    | .exit i T mem => Q (.exit i T mem)
    | .ret T mem => Q (.ret T mem)
  | .cond x a b, T, mem, Q => match evT T x with
    | .d (.bool t) => match t with
      | true => execE c fuel a T mem Q
      | false => execE c fuel b T mem Q
    | _ => none
  | .block id b, T, mem, Q => execE c fuel b T mem fun
    | .exit i T mem => match Nat.beq i id with
      | true => Q (.normal T mem)
      | false => Q (.exit i T mem)
    | .normal T mem => Q (.normal T mem)
    | .ret T mem => Q (.ret T mem)
  | .loop b, T, mem, Q => loopE c.keep (deadOf b []) (fun T mem K => execE c fuel b T mem fun
    | .normal T mem => K T mem
    | .exit i T mem => Q (.exit i T mem)
    | .ret T mem => Q (.ret T mem)) fuel T mem
  | .exit i, T, mem, Q => Q (.exit i T mem)
  | .label _, T, mem, Q => Q (.normal T mem)
  | .scope b, T, mem, Q => execE c fuel b T mem Q
  | .ret, T, mem, Q => Q (.ret T mem)
  | _, _, _, _ => none
theorem execE_k {c : Rn} {C : FuncId → List AV → Mem → AV → Mem → Prop} (hc : ∀ b f l F r F', c.call b f l F = some (r, F') → C f l F r F') {x : α} {fuel : Nat} :
    ∀ {code : Code} {QE : OutE → Option α} {Q : Out → Prop} {T : PT} {fr : Fr} {mem : Mem}, Rel T fr → (∀ oe o, RelO oe o → QE oe = some x → Q o) → execE c fuel code T mem QE = some x → awp (c.cx C) code fr mem Q := by
  intro code
  induction code with
  | skip => intro QE Q T fr mem hr hQ h; exact hQ _ _ (.normal hr) h
  | region id ops draw =>
    intro QE Q T fr mem hr hQ h
    unfold execE at h
    refine opsE_k (c := { c with dl := draw }) hc (fun acc T fr mem hr h => ?_) hr h
    try simp only at h ⊢
    split at h
    · exact hQ _ _ (.normal hr) h
    · split at h
      · rename_i e
        rw [e]
        exact hQ _ _ (.normal hr) h
      · cases h
  | seq a b iha ihb =>
    intro QE Q T fr mem hr hQ h
    unfold execE at h
    refine iha hr (fun oe o ho h => ?_) h
    cases ho with
    | normal hr => exact ihb hr hQ h
    | exit hr => exact hQ _ _ (.exit hr) h
    | ret hr => exact hQ _ _ (.ret hr) h
  | cond y a b iha ihb =>
    intro QE Q T fr mem hr hQ h
    unfold execE at h
    rw [hr.ev] at h
    rw [awp_cond]
    split at h
    · rename_i t e
      rw [e]
      cases t
      · exact .no rfl (ihb hr hQ h)
      · exact .yes rfl (iha hr hQ h)
    · cases h
  | block id b ih =>
    intro QE Q T fr mem hr hQ h
    unfold execE at h
    refine ih hr (fun oe o ho h => ?_) h
    cases ho with
    | normal hr => exact hQ _ _ (.normal hr) h
    | exit hr =>
      simp only at h ⊢
      split at h
      · rename_i e; rw [e]; exact hQ _ _ (.normal hr) h
      · rename_i e; rw [e]; exact hQ _ _ (.exit hr) h
    | ret hr => exact hQ _ _ (.ret hr) h
  | loop b ih =>
    intro QE Q T fr mem hr hQ h
    unfold execE at h
    refine .mk fuel (loopE_k (fun T fr mem KE K hr h hk => ?_) hr h)
    refine ih hr (fun oe o ho h => ?_) h
    cases ho with
    | normal hr => exact hk _ _ _ hr h
    | exit hr => exact hQ _ _ (.exit hr) h
    | ret hr => exact hQ _ _ (.ret hr) h
  | exit i => intro QE Q T fr mem hr hQ h; exact hQ _ _ (.exit hr) h
  | label l => intro QE Q T fr mem hr hQ h; exact hQ _ _ (.normal hr) h
  | scope b ih => intro QE Q T fr mem hr hQ h; exact ih hr hQ h
  | ret => intro QE Q T fr mem hr hQ h; exact hQ _ _ (.ret hr) h
  | _ => intro QE Q T fr mem hr hQ h; cases h
end
end Go.KM
end
section
/- The K machine runs: functions, with a table of what is known of calls. -/
namespace Go.KM
open Go

def loadBE (tab : Tab) (t : Nat) (mem : Mem) (a : AV) : Option AV :=
  match tab t, a with
  | some i, .addr id off => match getM mem id with
    | some (.box cs) => match isStruct i.td with
      | true => match dropE off cs with
        | some cs => match takeE i.size cs with
          | some cs => some (.agg cs)
          | none => none
        | none => none
      | false => match dropE off cs with
        | some (v :: _) => some v
        | _ => none
    | _ => none
  | _, _ => none
theorem loadBE_k {tab : Tab} {t : Nat} {mem : Mem} {a v : AV} {K : AV → Prop} (h : loadBE tab t mem a = some v) (k : K v) : loadB tab t (getM mem) a K := by
  unfold loadBE at h
  unfold loadB
  split at h
  · rename_i h1
    simp only [h1]
    split at h
    · rename_i h3
      simp only [h3]
      split at h
      · rename_i h4
        rw [h4]
        split at h
        · rename_i h5
          split at h
          · rename_i h6
            cases h
            exact dropE_k h5 (takeE_k h6 k)
          · cases h
        · cases h
      · rename_i h4
        rw [h4]
        split at h
        · rename_i h5
          cases h
          refine dropE_k h5 ?_
          simp only [takeK, frc_eq]
          exact k
        · cases h
    · cases h
  · cases h
def resE (tab : Tab) (T : PT) (mem : Mem) : List ResultVar → Option (List AV)
  | [] => some []
  | .tmp t :: r => match resE tab T mem r with
    | some l => some (getT T t :: l)
    | none => none
  | .cell x t :: r => match loadBE tab t mem (getT T x) with
    | some v => match resE tab T mem r with
      | some l => some (v :: l)
      | none => none
    | none => none
theorem resE_k {tab : Tab} {T : PT} {fr : Fr} {mem : Mem} (hr : Rel T fr) : ∀ {rs : List ResultVar} {l : List AV} {K : List AV → Prop}, resE tab T mem rs = some l → K l → resK tab fr (getM mem) rs K
  | [], l, K, h, k => by cases h; exact k
  | .tmp t :: r, l, K, h, k => by
    unfold resE at h
    split at h
    · rename_i h1
      cases h
      rw [hr.get] at k
      unfold resK
      rw [frc_eq]
      exact resE_k hr h1 k
    · cases h
  | .cell x t :: r, l, K, h, k => by
    unfold resE at h
    rw [hr.get] at h
    split at h
    · rename_i h0
      split at h
      · rename_i h1
        cases h
        exact loadBE_k h0 (resE_k hr h1 k)
      · cases h
    · cases h
/-- A function's end. -/
def endE (tab : Tab) (rs : List ResultVar) (keep : List Nat) (give : Bool) (T : PT) (mem : Mem) : Option (AV × Mem) :=
  match resE tab T mem rs with
  | none => none
  | some vs => match reach mem 200 (keep ++ (match give with | true => idsV.idsVs vs | false => idsA.idsAs vs)) [] with
    | dom => match argsAE mem dom vs with
      | none => none
      | some (l, u, _) => match selM (putM mem u) dom with
        | none => none
        | some F' => match okMem dom F' with
          | true => some (tupOf l, F')
          | false => none
theorem endE_k {tab : Tab} {rs : List ResultVar} {keep : List Nat} {give : Bool} {T : PT} {fr : Fr} {mem : Mem} {r : AV} {F' : Mem} (hr : Rel T fr) (h : endE tab rs keep give T mem = some (r, F')) :
    resK tab fr (getM mem) rs fun vs => argsA (getM mem) (ids F') vs fun l u _ => putMK mem u fun mem' => leM (ids F') mem' F' ∧ tupOf l = r := by
  unfold endE at h
  split at h
  · cases h
  · rename_i h1
    simp only at h
    split at h
    · cases h
    · rename_i h2
      split at h
      · cases h
      · rename_i h3
        split at h
        · rename_i h4
          cases h
          have hd := selM_ids h3
          refine resE_k hr h1 ?_
          rw [hd]
          refine argsAE_k h2 ?_
          rw [putMK_eq]
          exact ⟨leM_sel h3 h4, rfl⟩
        · cases h
def doneE (tab : Tab) (rs : List ResultVar) (keep : List Nat) (give : Bool) : OutE → Option (AV × Mem)
  | .normal T mem => endE tab rs keep give T mem
  | .ret T mem => endE tab rs keep give T mem
  | .exit _ _ _ => none
theorem doneE_k {tab : Tab} {rs : List ResultVar} {keep : List Nat} {give : Bool} {oe : OutE} {o : Out} {r : AV} {F' : Mem} (ho : RelO oe o) (h : doneE tab rs keep give oe = some (r, F')) : doneK tab rs F' (fun r' => r' = r) o := by
  cases ho with
  | normal hr => exact endE_k hr h
  | ret hr => exact endE_k hr h
  | exit hr => cases h

/-- What a run goes by. -/
structure Book where
  tab : Tab
  eqs : Nat → Option Nat
  meth : Nat → String → Option FuncId
  funcs : FuncId → Option Func
  orc : FuncId → List AV → Option AV
  hand : FuncId → Bool
  give : FuncId → Bool
  loops : Nat
def Book.rn (b : Book) (keep : List Nat) (base : Nat) (call : Nat → FuncId → List AV → Mem → Option (AV × Mem)) : Rn := { tab := b.tab, eqs := b.eqs, meth := b.meth, keep, base, call, hand := b.hand, dl := true }
def askE (b : Book) (f : FuncId) (l : List AV) : Mem → Option AV
  | [] => b.orc f l
  | _ :: _ => none
def runE (b : Book) : Nat → Nat → FuncId → List AV → Mem → Option (AV × Mem)
  | 0, _, f, l, F => match askE b f l F with
    | some r => some (r, [])
    | none => none
  | n + 1, base, f, l, F => match askE b f l F with
    | some r => some (r, [])
    | none => match b.funcs f with
      | none => none
      | some fn => match fn.body with
        | none => none
        | some code => match Nat.ble l.length fn.ntmps && Nat.blt fn.ntmps 512 with
          | false => none
          | true => match fVs l fun l => fM F fun F => execE (b.rn (ids F) base (runE b n)) b.loops code (mkT 9 fn.ntmps 1 0 l) F (doneE b.tab fn.results.toList (ids F) (b.give f)) with
            | none => none
            | some (r, F') => match allIn (ids F) (ids F') with
              | true => some (r, F')
              | false => none
structure BookOk (P : Program) (G : GW) (b : Book) : Prop where
  mixed : P.follows .mixedOrders = true
  tab : TabOk P b.tab
  ex : ∀ C keep base, ExOk P { tab := b.tab, C, keep, base, eqs := b.eqs, meth := b.meth }
  byo : ∀ C keep base, ByOk { tab := b.tab, C, keep, base, eqs := b.eqs, meth := b.meth }
  funcs : ∀ f fn, b.funcs f = some fn → P.funcs[f]? = some fn ∧ (fn.name == "runtime.NumGoroutine") = false
  orc : ∀ f l r, b.orc f l = some r → Con P G f l [] r []
theorem runE_k {P : Program} {G : GW} {b : Book} (hb : BookOk P G b) : ∀ {n base : Nat} {f : FuncId} {l : List AV} {F : Mem} {r : AV} {F' : Mem}, runE b n base f l F = some (r, F') → Con P G f l F r F' := by
  have ask : ∀ {f l F r}, askE b f l F = some r → Con P G f l F r [] := by
    intro f l F r h
    cases F with
    | nil => exact hb.orc _ _ _ h
    | cons _ _ => cases h
  intro n
  induction n with
  | zero =>
    intro base f l F r F' h
    unfold runE at h
    split at h
    · rename_i e; cases h; exact ask e
    · cases h
  | succ n ih =>
    intro base f l F r F' h
    unfold runE at h
    split at h
    · rename_i e; cases h; exact ask e
    · split at h
      · cases h
      · rename_i fn hfn
        split at h
        · cases h
        · rename_i code hcode
          split at h
          · cases h
          · rename_i hlen
            simp only [fVs_eq, fM_eq] at h
            rw [Bool.and_eq_true] at hlen
            obtain ⟨hf, hname⟩ := hb.funcs _ _ hfn
            split at h
            · cases h
            · rename_i r0 F0 h1
              split at h
              · rename_i hk
                cases h
                have hx := execE_k (c := b.rn (ids F) base (runE b n)) (C := Con P G) (fun base f l F r F' h => ih h) (Q := doneK b.tab fn.results.toList F' fun r' => r' = r) (Rel.frm (Nat.le_of_ble_eq_true hlen.1) (Nat.le_of_ble_eq_true hlen.2)) (fun oe o ho h => doneE_k ho h) h1
                exact contract_of_awp (c := (b.rn (ids F) base (runE b n)).cx (Con P G)) hb.mixed hb.tab (hb.ex _ _ _) (hb.byo _ _ _) (fun _ _ _ _ _ h => h) hf hcode hname rfl (keepM_ok hk) (Nat.le_of_ble_eq_true hlen.1) hx
              · cases h
end Go.KM
end
section
/- The K machine runs: tables of functions, of answers. -/
namespace Go.KM
open Go

/-- Answers by a function's number. -/
abbrev Orc := List (FuncId × (List AV → Option AV))
def orcE : Orc → FuncId → List AV → Option AV
  | [], _, _ => none
  | (g, h) :: r, f, l => match Nat.beq g f with
    | true => match h l with
      | some x => some x
      | none => orcE r f l
    | false => orcE r f l
def OrcOk (P : Program) (G : GW) : Orc → Prop
  | [] => True
  | (g, h) :: r => (∀ l x, h l = some x → Con P G g l [] x []) ∧ OrcOk P G r
theorem orcE_ok {P : Program} {G : GW} : ∀ {o : Orc}, OrcOk P G o → ∀ {f l x}, orcE o f l = some x → Con P G f l [] x []
  | [], _, f, l, x, h => by cases h
  | (g, k) :: r, ho, f, l, x, h => by
    unfold orcE at h
    split at h
    · rename_i e
      have e := Nat.eq_of_beq_eq_true e
      subst e
      split at h
      · rename_i e; cases h; exact ho.1 _ _ e
      · exact orcE_ok ho.2 h
    · exact orcE_ok ho.2 h
theorem OrcOk.app {P : Program} {G : GW} : ∀ {o p : Orc}, OrcOk P G o → OrcOk P G p → OrcOk P G (o ++ p)
  | [], _, _, h => h
  | _ :: _, _, h, k => ⟨h.1, h.2.app k⟩
/-- An answer at given arguments. -/
def factE (asq : List AV) (r : AV) (l : List AV) : Option AV :=
  match eqVs asq l with
  | true => some r
  | false => none
theorem factE_ok {P : Program} {G : GW} {f : FuncId} {asq : List AV} {r : AV} (h : Con P G f asq [] r []) : ∀ l x, factE asq r l = some x → Con P G f l [] x [] := by
  intro l x hx
  unfold factE at hx
  split at hx
  · rename_i e; cases hx; rw [← eqVs_ok e]; exact h
  · cases hx
/-- Does a run end so? -/
def endsE (x : Option (AV × Mem)) (r : AV) : Bool :=
  match x with
  | some (v, []) => eqV v r
  | _ => false
theorem endsE_ok {x : Option (AV × Mem)} {r : AV} (h : endsE x r = true) : x = some (r, []) := by
  unfold endsE at h
  split at h
  · rw [eqV_ok h]
  · cases h
def tblE : List (FuncId × Func) → FuncId → Option Func
  | [], _ => none
  | (g, fn) :: r, f => match Nat.beq g f with
    | true => some fn
    | false => tblE r f
def TblOk (P : Program) : List (FuncId × Func) → Prop
  | [] => True
  | (g, fn) :: r => (P.funcs[g]? = some fn ∧ (fn.name == "runtime.NumGoroutine") = false) ∧ TblOk P r
theorem tblE_ok {P : Program} : ∀ {l : List (FuncId × Func)}, TblOk P l → ∀ {f fn}, tblE l f = some fn → P.funcs[f]? = some fn ∧ (fn.name == "runtime.NumGoroutine") = false
  | [], _, f, fn, h => by cases h
  | (g, fn') :: r, ho, f, fn, h => by
    unfold tblE at h
    split at h
    · rename_i e
      have e := Nat.eq_of_beq_eq_true e
      subst e
      cases h
      exact ho.1
    · exact tblE_ok ho.2 h
end Go.KM
end
section
/- Closed calls are run: what the runs go by; functions of the library. -/
namespace Go.KM
open Go Go.Proofs
theorem slIndexByte_c (s : ByteArray) (c : Int) : CN 142 [.d (.str s), .d (.int .u8 c)] [] (.d (.int .i64 (Lib.indexByte s.data.toList c.toNat.toUInt8))) [] :=
  Con.of_calls ⟨_, Go.Proofs.Tryz.func142, by kernel_rfl, rfl⟩ rfl rfl fun w _ => (Tryz.stringslite_IndexByte s c w).mono (by
    rintro e w' ⟨rfl, rfl⟩
    exact ⟨rfl, .refl _⟩)
theorem stIndexByte_c (s : ByteArray) (c : Int) : CN 191 [.d (.str s), .d (.int .u8 c)] [] (.d (.int .i64 (Lib.indexByte s.data.toList c.toNat.toUInt8))) [] :=
  Con.of_calls ⟨_, Go.Proofs.Tryz.func191, by kernel_rfl, rfl⟩ rfl rfl fun w _ => (Tryz.strings_IndexByte s c w).mono (by
    rintro e w' ⟨rfl, rfl⟩
    exact ⟨rfl, .refl _⟩)
theorem stCount_c (s : ByteArray) (c : UInt8) : CN 188 [.d (.str s), .d (.str ⟨#[c]⟩)] [] (.d (.int .i64 (Lib.countByte s.data.toList c))) [] :=
  Con.of_calls ⟨_, Go.Proofs.Tryz.func188, by kernel_rfl, rfl⟩ rfl rfl fun w _ => (Tryz.strings_Count_one s c w).mono (by
    rintro e w' ⟨rfl, rfl⟩
    exact ⟨rfl, .refl _⟩)
theorem stIndexAny_c (s t : ByteArray) (h2 : 2 ≤ t.size) (h8 : s.size ≤ 8) (ha : ∀ (j : Nat) b, s.data.toList[j]? = some b → b.toNat < 128) : CN 168 [.d (.str s), .d (.str t)] [] (.d (.int .i64 (Lib.indexAny s.data.toList t.data.toList))) [] :=
  Con.of_calls ⟨_, Go.Proofs.Tryz.func168, by kernel_rfl, rfl⟩ rfl rfl fun w _ => (Tryz.strings_IndexAny_short s t w h2 h8 ha).mono (by
    rintro e w' ⟨rfl, pos, rfl⟩
    exact ⟨rfl, World.iter_extends w s pos⟩)
/-- What the library answers. -/
def oIndexByte : List AV → Option AV
  | [.d (.str s), .d (.int .u8 c)] => some (.d (.int .i64 (Lib.indexByte s.data.toList c.toNat.toUInt8)))
  | _ => none
def oCount : List AV → Option AV
  | [.d (.str s), .d (.str t)] => match t.data.toList with
    | [c] => some (.d (.int .i64 (Lib.countByte s.data.toList c)))
    | _ => none
  | _ => none
def oIndexAny : List AV → Option AV
  | [.d (.str s), .d (.str t)] => match Nat.ble 2 t.size && Nat.ble s.size 8 && s.data.toList.all fun b => Nat.blt b.toNat 128 with
    | true => some (.d (.int .i64 (Lib.indexAny s.data.toList t.data.toList)))
    | false => none
  | _ => none
def oStr : Orc := [(142, oIndexByte), (191, oIndexByte), (188, oCount), (168, oIndexAny)]
theorem oStr_ok : OrcOk Go.Proofs.Tryz.prog gw oStr := by
  refine ⟨?_, ?_, ?_, ?_, trivial⟩
  · intro l x h
    unfold oIndexByte at h
    split at h
    · cases h; exact slIndexByte_c _ _
    · cases h
  · intro l x h
    unfold oIndexByte at h
    split at h
    · cases h; exact stIndexByte_c _ _
    · cases h
  · intro l x h
    unfold oCount at h
    split at h
    · rename_i s t
      split at h
      · rename_i c e
        cases h
        have : t = ⟨#[c]⟩ := by
          obtain ⟨⟨t⟩⟩ := t
          simp at e
          rw [e]
        rw [this]
        exact stCount_c _ _
      · cases h
    · cases h
  · intro l x h
    unfold oIndexAny at h
    split at h
    · split at h
      · rename_i e
        cases h
        simp only [Bool.and_eq_true] at e
        refine stIndexAny_c _ _ (Nat.le_of_ble_eq_true e.1.1) (Nat.le_of_ble_eq_true e.1.2) ?_
        intro j b hb
        have := List.all_eq_true.1 e.2 b (List.mem_of_getElem? hb)
        exact Nat.le_of_ble_eq_true this
      · cases h
    · cases h
noncomputable def tbl : List (FuncId × Func) := [(6, Go.Proofs.Tryz.f6), (10, Go.Proofs.Tryz.f10), (11, Go.Proofs.Tryz.f11), (12, Go.Proofs.Tryz.f12), (13, Go.Proofs.Tryz.f13), (14, Go.Proofs.Tryz.f14), (15, Go.Proofs.Tryz.f15), (20, Go.Proofs.Tryz.f20), (21, Go.Proofs.Tryz.f21), (22, Go.Proofs.Tryz.f22), (23, Go.Proofs.Tryz.f23), (26, Go.Proofs.Tryz.f26), (27, Go.Proofs.Tryz.f27), (28, Go.Proofs.Tryz.f28), (29, Go.Proofs.Tryz.f29), (30, Go.Proofs.Tryz.f30), (31, Go.Proofs.Tryz.f31), (32, Go.Proofs.Tryz.f32), (33, Go.Proofs.Tryz.f33), (34, Go.Proofs.Tryz.f34), (35, Go.Proofs.Tryz.f35), (36, Go.Proofs.Tryz.f36), (37, Go.Proofs.Tryz.f37), (38, Go.Proofs.Tryz.f38), (39, Go.Proofs.Tryz.f39), (40, Go.Proofs.Tryz.f40), (41, Go.Proofs.Tryz.f41), (42, Go.Proofs.Tryz.f42), (43, Go.Proofs.Tryz.f43), (45, Go.Proofs.Tryz.f45), (46, Go.Proofs.Tryz.f46), (47, Go.Proofs.Tryz.f47), (48, Go.Proofs.Tryz.f48), (49, Go.Proofs.Tryz.f49), (50, Go.Proofs.Tryz.f50), (51, Go.Proofs.Tryz.f51), (52, Go.Proofs.Tryz.f52), (53, Go.Proofs.Tryz.f53), (54, Go.Proofs.Tryz.f54), (55, Go.Proofs.Tryz.f55), (56, Go.Proofs.Tryz.f56), (57, Go.Proofs.Tryz.f57), (58, Go.Proofs.Tryz.f58), (59, Go.Proofs.Tryz.f59), (60, Go.Proofs.Tryz.f60), (61, Go.Proofs.Tryz.f61), (62, Go.Proofs.Tryz.f62), (63, Go.Proofs.Tryz.f63), (64, Go.Proofs.Tryz.f64), (65, Go.Proofs.Tryz.f65), (66, Go.Proofs.Tryz.f66), (67, Go.Proofs.Tryz.f67), (71, Go.Proofs.Tryz.f71), (72, Go.Proofs.Tryz.f72), (73, Go.Proofs.Tryz.f73), (74, Go.Proofs.Tryz.f74), (75, Go.Proofs.Tryz.f75), (76, Go.Proofs.Tryz.f76), (77, Go.Proofs.Tryz.f77), (78, Go.Proofs.Tryz.f78), (79, Go.Proofs.Tryz.f79), (80, Go.Proofs.Tryz.f80), (81, Go.Proofs.Tryz.f81), (82, Go.Proofs.Tryz.f82), (83, Go.Proofs.Tryz.f83), (84, Go.Proofs.Tryz.f84), (85, Go.Proofs.Tryz.f85), (86, Go.Proofs.Tryz.f86), (87, Go.Proofs.Tryz.f87), (88, Go.Proofs.Tryz.f88), (89, Go.Proofs.Tryz.f89), (90, Go.Proofs.Tryz.f90), (91, Go.Proofs.Tryz.f91), (92, Go.Proofs.Tryz.f92), (93, Go.Proofs.Tryz.f93), (94, Go.Proofs.Tryz.f94), (95, Go.Proofs.Tryz.f95), (96, Go.Proofs.Tryz.f96), (97, Go.Proofs.Tryz.f97), (100, Go.Proofs.Tryz.f100), (101, Go.Proofs.Tryz.f101), (102, Go.Proofs.Tryz.f102), (103, Go.Proofs.Tryz.f103), (104, Go.Proofs.Tryz.f104), (105, Go.Proofs.Tryz.f105), (106, Go.Proofs.Tryz.f106), (107, Go.Proofs.Tryz.f107), (108, Go.Proofs.Tryz.f108), (109, Go.Proofs.Tryz.f109), (110, Go.Proofs.Tryz.f110), (111, Go.Proofs.Tryz.f111), (112, Go.Proofs.Tryz.f112), (113, Go.Proofs.Tryz.f113), (114, Go.Proofs.Tryz.f114), (115, Go.Proofs.Tryz.f115), (116, Go.Proofs.Tryz.f116), (117, Go.Proofs.Tryz.f117), (118, Go.Proofs.Tryz.f118), (119, Go.Proofs.Tryz.f119), (120, Go.Proofs.Tryz.f120), (121, Go.Proofs.Tryz.f121), (122, Go.Proofs.Tryz.f122), (123, Go.Proofs.Tryz.f123), (124, Go.Proofs.Tryz.f124), (125, Go.Proofs.Tryz.f125), (126, Go.Proofs.Tryz.f126), (127, Go.Proofs.Tryz.f127), (128, Go.Proofs.Tryz.f128), (129, Go.Proofs.Tryz.f129), (135, Go.Proofs.Tryz.f135), (136, Go.Proofs.Tryz.f136), (137, Go.Proofs.Tryz.f137), (138, Go.Proofs.Tryz.f138), (139, Go.Proofs.Tryz.f139), (140, Go.Proofs.Tryz.f140), (141, Go.Proofs.Tryz.f141), (142, Go.Proofs.Tryz.f142), (146, Go.Proofs.Tryz.f146), (147, Go.Proofs.Tryz.f147), (148, Go.Proofs.Tryz.f148), (149, Go.Proofs.Tryz.f149), (150, Go.Proofs.Tryz.f150), (151, Go.Proofs.Tryz.f151), (152, Go.Proofs.Tryz.f152), (153, Go.Proofs.Tryz.f153), (154, Go.Proofs.Tryz.f154), (155, Go.Proofs.Tryz.f155), (156, Go.Proofs.Tryz.f156), (157, Go.Proofs.Tryz.f157), (158, Go.Proofs.Tryz.f158), (159, Go.Proofs.Tryz.f159), (160, Go.Proofs.Tryz.f160), (164, Go.Proofs.Tryz.f164), (165, Go.Proofs.Tryz.f165), (169, Go.Proofs.Tryz.f169), (170, Go.Proofs.Tryz.f170), (171, Go.Proofs.Tryz.f171), (172, Go.Proofs.Tryz.f172), (173, Go.Proofs.Tryz.f173), (174, Go.Proofs.Tryz.f174), (175, Go.Proofs.Tryz.f175), (176, Go.Proofs.Tryz.f176), (177, Go.Proofs.Tryz.f177), (178, Go.Proofs.Tryz.f178), (181, Go.Proofs.Tryz.f181), (182, Go.Proofs.Tryz.f182), (184, Go.Proofs.Tryz.f184), (185, Go.Proofs.Tryz.f185), (186, Go.Proofs.Tryz.f186), (189, Go.Proofs.Tryz.f189), (190, Go.Proofs.Tryz.f190), (193, Go.Proofs.Tryz.f193), (194, Go.Proofs.Tryz.f194), (195, Go.Proofs.Tryz.f195), (198, Go.Proofs.Tryz.f198), (214, Go.Proofs.Tryz.f214), (216, Go.Proofs.Tryz.f216), (217, Go.Proofs.Tryz.f217), (218, Go.Proofs.Tryz.f218), (219, Go.Proofs.Tryz.f219), (220, Go.Proofs.Tryz.f220), (221, Go.Proofs.Tryz.f221), (222, Go.Proofs.Tryz.f222), (223, Go.Proofs.Tryz.f223), (224, Go.Proofs.Tryz.f224), (225, Go.Proofs.Tryz.f225), (226, Go.Proofs.Tryz.f226), (227, Go.Proofs.Tryz.f227)]
theorem tbl_ok : TblOk Go.Proofs.Tryz.prog tbl := ⟨⟨Go.Proofs.Tryz.func6, by kernel_rfl⟩, ⟨⟨Go.Proofs.Tryz.func10, by kernel_rfl⟩, ⟨⟨Go.Proofs.Tryz.func11, by kernel_rfl⟩, ⟨⟨Go.Proofs.Tryz.func12, by kernel_rfl⟩, ⟨⟨Go.Proofs.Tryz.func13, by kernel_rfl⟩, ⟨⟨Go.Proofs.Tryz.func14, by kernel_rfl⟩, ⟨⟨Go.Proofs.Tryz.func15, by kernel_rfl⟩, ⟨⟨Go.Proofs.Tryz.func20, by kernel_rfl⟩, ⟨⟨Go.Proofs.Tryz.func21, by kernel_rfl⟩, ⟨⟨Go.Proofs.Tryz.func22, by kernel_rfl⟩, ⟨⟨Go.Proofs.Tryz.func23, by kernel_rfl⟩, ⟨⟨Go.Proofs.Tryz.func26, by kernel_rfl⟩, ⟨⟨Go.Proofs.Tryz.func27, by kernel_rfl⟩, ⟨⟨Go.Proofs.Tryz.func28, by kernel_rfl⟩, ⟨⟨Go.Proofs.Tryz.func29, by kernel_rfl⟩, ⟨⟨Go.Proofs.Tryz.func30, by kernel_rfl⟩, ⟨⟨Go.Proofs.Tryz.func31, by kernel_rfl⟩, ⟨⟨Go.Proofs.Tryz.func32, by kernel_rfl⟩, ⟨⟨Go.Proofs.Tryz.func33, by kernel_rfl⟩, ⟨⟨Go.Proofs.Tryz.func34, by kernel_rfl⟩, ⟨⟨Go.Proofs.Tryz.func35, by kernel_rfl⟩, ⟨⟨Go.Proofs.Tryz.func36, by kernel_rfl⟩, ⟨⟨Go.Proofs.Tryz.func37, by kernel_rfl⟩, ⟨⟨Go.Proofs.Tryz.func38, by kernel_rfl⟩, ⟨⟨Go.Proofs.Tryz.func39, by kernel_rfl⟩, ⟨⟨Go.Proofs.Tryz.func40, by kernel_rfl⟩, ⟨⟨Go.Proofs.Tryz.func41, by kernel_rfl⟩, ⟨⟨Go.Proofs.Tryz.func42, by kernel_rfl⟩, ⟨⟨Go.Proofs.Tryz.func43, by kernel_rfl⟩, ⟨⟨Go.Proofs.Tryz.func45, by kernel_rfl⟩, ⟨⟨Go.Proofs.Tryz.func46, by kernel_rfl⟩, ⟨⟨Go.Proofs.Tryz.func47, by kernel_rfl⟩, ⟨⟨Go.Proofs.Tryz.func48, by kernel_rfl⟩, ⟨⟨Go.Proofs.Tryz.func49, by kernel_rfl⟩, ⟨⟨Go.Proofs.Tryz.func50, by kernel_rfl⟩, ⟨⟨Go.Proofs.Tryz.func51, by kernel_rfl⟩, ⟨⟨Go.Proofs.Tryz.func52, by kernel_rfl⟩, ⟨⟨Go.Proofs.Tryz.func53, by kernel_rfl⟩, ⟨⟨Go.Proofs.Tryz.func54, by kernel_rfl⟩, ⟨⟨Go.Proofs.Tryz.func55, by kernel_rfl⟩, ⟨⟨Go.Proofs.Tryz.func56, by kernel_rfl⟩, ⟨⟨Go.Proofs.Tryz.func57, by kernel_rfl⟩, ⟨⟨Go.Proofs.Tryz.func58, by kernel_rfl⟩, ⟨⟨Go.Proofs.Tryz.func59, by kernel_rfl⟩, ⟨⟨Go.Proofs.Tryz.func60, by kernel_rfl⟩, ⟨⟨Go.Proofs.Tryz.func61, by kernel_rfl⟩, ⟨⟨Go.Proofs.Tryz.func62, by kernel_rfl⟩, ⟨⟨Go.Proofs.Tryz.func63, by kernel_rfl⟩, ⟨⟨Go.Proofs.Tryz.func64, by kernel_rfl⟩, ⟨⟨Go.Proofs.Tryz.func65, by kernel_rfl⟩, ⟨⟨Go.Proofs.Tryz.func66, by kernel_rfl⟩, ⟨⟨Go.Proofs.Tryz.func67, by kernel_rfl⟩, ⟨⟨Go.Proofs.Tryz.func71, by kernel_rfl⟩, ⟨⟨Go.Proofs.Tryz.func72, by kernel_rfl⟩, ⟨⟨Go.Proofs.Tryz.func73, by kernel_rfl⟩, ⟨⟨Go.Proofs.Tryz.func74, by kernel_rfl⟩, ⟨⟨Go.Proofs.Tryz.func75, by kernel_rfl⟩, ⟨⟨Go.Proofs.Tryz.func76, by kernel_rfl⟩, ⟨⟨Go.Proofs.Tryz.func77, by kernel_rfl⟩, ⟨⟨Go.Proofs.Tryz.func78, by kernel_rfl⟩, ⟨⟨Go.Proofs.Tryz.func79, by kernel_rfl⟩, ⟨⟨Go.Proofs.Tryz.func80, by kernel_rfl⟩, ⟨⟨Go.Proofs.Tryz.func81, by kernel_rfl⟩, ⟨⟨Go.Proofs.Tryz.func82, by kernel_rfl⟩, ⟨⟨Go.Proofs.Tryz.func83, by kernel_rfl⟩, ⟨⟨Go.Proofs.Tryz.func84, by kernel_rfl⟩, ⟨⟨Go.Proofs.Tryz.func85, by kernel_rfl⟩, ⟨⟨Go.Proofs.Tryz.func86, by kernel_rfl⟩, ⟨⟨Go.Proofs.Tryz.func87, by kernel_rfl⟩, ⟨⟨Go.Proofs.Tryz.func88, by kernel_rfl⟩, ⟨⟨Go.Proofs.Tryz.func89, by kernel_rfl⟩, ⟨⟨Go.Proofs.Tryz.func90, by kernel_rfl⟩, ⟨⟨Go.Proofs.Tryz.func91, by kernel_rfl⟩, ⟨⟨Go.Proofs.Tryz.func92, by kernel_rfl⟩, ⟨⟨Go.Proofs.Tryz.func93, by kernel_rfl⟩, ⟨⟨Go.Proofs.Tryz.func94, by kernel_rfl⟩, ⟨⟨Go.Proofs.Tryz.func95, by kernel_rfl⟩, ⟨⟨Go.Proofs.Tryz.func96, by kernel_rfl⟩, ⟨⟨Go.Proofs.Tryz.func97, by kernel_rfl⟩, ⟨⟨Go.Proofs.Tryz.func100, by kernel_rfl⟩, ⟨⟨Go.Proofs.Tryz.func101, by kernel_rfl⟩, ⟨⟨Go.Proofs.Tryz.func102, by kernel_rfl⟩, ⟨⟨Go.Proofs.Tryz.func103, by kernel_rfl⟩, ⟨⟨Go.Proofs.Tryz.func104, by kernel_rfl⟩, ⟨⟨Go.Proofs.Tryz.func105, by kernel_rfl⟩, ⟨⟨Go.Proofs.Tryz.func106, by kernel_rfl⟩, ⟨⟨Go.Proofs.Tryz.func107, by kernel_rfl⟩, ⟨⟨Go.Proofs.Tryz.func108, by kernel_rfl⟩, ⟨⟨Go.Proofs.Tryz.func109, by kernel_rfl⟩, ⟨⟨Go.Proofs.Tryz.func110, by kernel_rfl⟩, ⟨⟨Go.Proofs.Tryz.func111, by kernel_rfl⟩, ⟨⟨Go.Proofs.Tryz.func112, by kernel_rfl⟩, ⟨⟨Go.Proofs.Tryz.func113, by kernel_rfl⟩, ⟨⟨Go.Proofs.Tryz.func114, by kernel_rfl⟩, ⟨⟨Go.Proofs.Tryz.func115, by kernel_rfl⟩, ⟨⟨Go.Proofs.Tryz.func116, by kernel_rfl⟩, ⟨⟨Go.Proofs.Tryz.func117, by kernel_rfl⟩, ⟨⟨Go.Proofs.Tryz.func118, by kernel_rfl⟩, ⟨⟨Go.Proofs.Tryz.func119, by kernel_rfl⟩, ⟨⟨Go.Proofs.Tryz.func120, by kernel_rfl⟩, ⟨⟨Go.Proofs.Tryz.func121, by kernel_rfl⟩, ⟨⟨Go.Proofs.Tryz.func122, by kernel_rfl⟩, ⟨⟨Go.Proofs.Tryz.func123, by kernel_rfl⟩, ⟨⟨Go.Proofs.Tryz.func124, by kernel_rfl⟩, ⟨⟨Go.Proofs.Tryz.func125, by kernel_rfl⟩, ⟨⟨Go.Proofs.Tryz.func126, by kernel_rfl⟩, ⟨⟨Go.Proofs.Tryz.func127, by kernel_rfl⟩, ⟨⟨Go.Proofs.Tryz.func128, by kernel_rfl⟩, ⟨⟨Go.Proofs.Tryz.func129, by kernel_rfl⟩, ⟨⟨Go.Proofs.Tryz.func135, by kernel_rfl⟩, ⟨⟨Go.Proofs.Tryz.func136, by kernel_rfl⟩, ⟨⟨Go.Proofs.Tryz.func137, by kernel_rfl⟩, ⟨⟨Go.Proofs.Tryz.func138, by kernel_rfl⟩, ⟨⟨Go.Proofs.Tryz.func139, by kernel_rfl⟩, ⟨⟨Go.Proofs.Tryz.func140, by kernel_rfl⟩, ⟨⟨Go.Proofs.Tryz.func141, by kernel_rfl⟩, ⟨⟨Go.Proofs.Tryz.func142, by kernel_rfl⟩, ⟨⟨Go.Proofs.Tryz.func146, by kernel_rfl⟩, ⟨⟨Go.Proofs.Tryz.func147, by kernel_rfl⟩, ⟨⟨Go.Proofs.Tryz.func148, by kernel_rfl⟩, ⟨⟨Go.Proofs.Tryz.func149, by kernel_rfl⟩, ⟨⟨Go.Proofs.Tryz.func150, by kernel_rfl⟩, ⟨⟨Go.Proofs.Tryz.func151, by kernel_rfl⟩, ⟨⟨Go.Proofs.Tryz.func152, by kernel_rfl⟩, ⟨⟨Go.Proofs.Tryz.func153, by kernel_rfl⟩, ⟨⟨Go.Proofs.Tryz.func154, by kernel_rfl⟩, ⟨⟨Go.Proofs.Tryz.func155, by kernel_rfl⟩, ⟨⟨Go.Proofs.Tryz.func156, by kernel_rfl⟩, ⟨⟨Go.Proofs.Tryz.func157, by kernel_rfl⟩, ⟨⟨Go.Proofs.Tryz.func158, by kernel_rfl⟩, ⟨⟨Go.Proofs.Tryz.func159, by kernel_rfl⟩, ⟨⟨Go.Proofs.Tryz.func160, by kernel_rfl⟩, ⟨⟨Go.Proofs.Tryz.func164, by kernel_rfl⟩, ⟨⟨Go.Proofs.Tryz.func165, by kernel_rfl⟩, ⟨⟨Go.Proofs.Tryz.func169, by kernel_rfl⟩, ⟨⟨Go.Proofs.Tryz.func170, by kernel_rfl⟩, ⟨⟨Go.Proofs.Tryz.func171, by kernel_rfl⟩, ⟨⟨Go.Proofs.Tryz.func172, by kernel_rfl⟩, ⟨⟨Go.Proofs.Tryz.func173, by kernel_rfl⟩, ⟨⟨Go.Proofs.Tryz.func174, by kernel_rfl⟩, ⟨⟨Go.Proofs.Tryz.func175, by kernel_rfl⟩, ⟨⟨Go.Proofs.Tryz.func176, by kernel_rfl⟩, ⟨⟨Go.Proofs.Tryz.func177, by kernel_rfl⟩, ⟨⟨Go.Proofs.Tryz.func178, by kernel_rfl⟩, ⟨⟨Go.Proofs.Tryz.func181, by kernel_rfl⟩, ⟨⟨Go.Proofs.Tryz.func182, by kernel_rfl⟩, ⟨⟨Go.Proofs.Tryz.func184, by kernel_rfl⟩, ⟨⟨Go.Proofs.Tryz.func185, by kernel_rfl⟩, ⟨⟨Go.Proofs.Tryz.func186, by kernel_rfl⟩, ⟨⟨Go.Proofs.Tryz.func189, by kernel_rfl⟩, ⟨⟨Go.Proofs.Tryz.func190, by kernel_rfl⟩, ⟨⟨Go.Proofs.Tryz.func193, by kernel_rfl⟩, ⟨⟨Go.Proofs.Tryz.func194, by kernel_rfl⟩, ⟨⟨Go.Proofs.Tryz.func195, by kernel_rfl⟩, ⟨⟨Go.Proofs.Tryz.func198, by kernel_rfl⟩, ⟨⟨Go.Proofs.Tryz.func214, by kernel_rfl⟩, ⟨⟨Go.Proofs.Tryz.func216, by kernel_rfl⟩, ⟨⟨Go.Proofs.Tryz.func217, by kernel_rfl⟩, ⟨⟨Go.Proofs.Tryz.func218, by kernel_rfl⟩, ⟨⟨Go.Proofs.Tryz.func219, by kernel_rfl⟩, ⟨⟨Go.Proofs.Tryz.func220, by kernel_rfl⟩, ⟨⟨Go.Proofs.Tryz.func221, by kernel_rfl⟩, ⟨⟨Go.Proofs.Tryz.func222, by kernel_rfl⟩, ⟨⟨Go.Proofs.Tryz.func223, by kernel_rfl⟩, ⟨⟨Go.Proofs.Tryz.func224, by kernel_rfl⟩, ⟨⟨Go.Proofs.Tryz.func225, by kernel_rfl⟩, ⟨⟨Go.Proofs.Tryz.func226, by kernel_rfl⟩, ⟨⟨Go.Proofs.Tryz.func227, by kernel_rfl⟩, trivial⟩⟩⟩⟩⟩⟩⟩⟩⟩⟩⟩⟩⟩⟩⟩⟩⟩⟩⟩⟩⟩⟩⟩⟩⟩⟩⟩⟩⟩⟩⟩⟩⟩⟩⟩⟩⟩⟩⟩⟩⟩⟩⟩⟩⟩⟩⟩⟩⟩⟩⟩⟩⟩⟩⟩⟩⟩⟩⟩⟩⟩⟩⟩⟩⟩⟩⟩⟩⟩⟩⟩⟩⟩⟩⟩⟩⟩⟩⟩⟩⟩⟩⟩⟩⟩⟩⟩⟩⟩⟩⟩⟩⟩⟩⟩⟩⟩⟩⟩⟩⟩⟩⟩⟩⟩⟩⟩⟩⟩⟩⟩⟩⟩⟩⟩⟩⟩⟩⟩⟩⟩⟩⟩⟩⟩⟩⟩⟩⟩⟩⟩⟩⟩⟩⟩⟩⟩⟩⟩⟩⟩⟩⟩⟩⟩⟩⟩⟩⟩⟩⟩⟩⟩⟩⟩⟩⟩⟩⟩⟩⟩⟩⟩⟩⟩⟩⟩⟩
noncomputable def book (o : Orc) : Book := { tab := look tyl, eqs := lookE eqL, meth := lookMe meL, funcs := tblE tbl, orc := orcE o, hand := fun f => Nat.beq f 93 || Nat.beq f 177 || Nat.beq f 178, give := fun f => Nat.beq f 127 || Nat.beq f 105 || Nat.beq f 107, loops := 60 }
theorem book_ok {o : Orc} (h : OrcOk Go.Proofs.Tryz.prog gw o) : BookOk Go.Proofs.Tryz.prog gw (book o) where
  mixed := mixed
  tab := tyl_ok
  ex := fun C keep base => exOk_of (le := eqL) (lm := meL) rfl rfl (by kernel_rfl) (by kernel_rfl)
  byo := fun C keep base => byOk_of (l := tyl) rfl (by kernel_rfl)
  funcs := fun f fn hf => tblE_ok tbl_ok hf
  orc := fun f l r hr => orcE_ok h hr
end Go.KM
end
section
/- Closed calls are run: fractions are reckoned by their contracts. -/
namespace Go.KM
open Go RN
/-- Words of a number, by so many steps at most. -/
def wlF : Nat → Nat → List Int
  | 0, _ => []
  | f + 1, n => match n with
    | 0 => []
    | m + 1 => (((m + 1) % 4294967296 : Nat) : Int) :: wlF f ((m + 1) / 4294967296)
theorem wlF_ok : ∀ {f n : Nat}, n < 4294967296 ^ f → wlF f n = wl n
  | 0, n, h => by
    have : n = 0 := by simpa using h
    subst this
    rw [wl_zero]; rfl
  | f + 1, 0, _ => by rw [wl_zero]; rfl
  | f + 1, m + 1, h => by
    rw [wl_pos (by omega), wlF, wlF_ok]
    rw [Nat.pow_succ] at h
    exact Nat.div_lt_of_lt_mul (by rw [Nat.mul_comm]; exact h)
def unW : List (List D) → Option (List Int)
  | [] => some []
  | [.int .u32 n] :: r => match leB 0 n && decide (n < 4294967296) with
    | true => match unW r with
      | some l => some (n :: l)
      | none => none
    | false => none
  | _ => none
theorem unW_ok : ∀ {l : List (List D)} {w : List Int}, unW l = some w → D.sl l = wd w ∧ WF w := by
  intro l
  induction l with
  | nil => intro w h; cases h; exact ⟨rfl, fun x hx => by cases hx⟩
  | cons a r ih =>
    intro w h
    unfold unW at h
    split at h
    · rename_i e; cases e
    · rename_i e
      cases e
      split at h
      · rename_i hb
        split at h
        · rename_i l' h'
          cases h
          obtain ⟨h1, h2⟩ := ih h'
          rw [Bool.and_eq_true] at hb
          refine ⟨?_, fun x hx => ?_⟩
          · unfold wd at h1 ⊢
            injection h1 with h1
            rw [List.map_cons, h1]
          · rcases List.mem_cons.1 hx with rfl | hx
            · exact ⟨of_decide_eq_true hb.1, of_decide_eq_true hb.2⟩
            · exact h2 x hx
        · cases h
      · cases h
    · cases h
/-- A fraction is read. -/
def unF : AV → Option RF
  | .agg [.d (.bool s), .d (.sl n), .d (.sl d)] => match unW n, unW d with
    | some n, some d => match Nat.ble n.length 200 && Nat.ble d.length 200 with
      | true => some ⟨s, n, d⟩
      | false => none
    | _, _ => none
  | _ => none
theorem unF_ok {a : AV} {x : RF} (h : unF a = some x) : a = fav x ∧ x.ok 200 := by
  unfold unF at h
  split at h
  · split at h
    · rename_i h1 h2
      split at h
      · rename_i hb
        cases h
        rw [Bool.and_eq_true] at hb
        obtain ⟨e1, w1⟩ := unW_ok h1
        obtain ⟨e2, w2⟩ := unW_ok h2
        exact ⟨by rw [e1, e2]; rfl, ⟨w1, w2, Nat.le_of_ble_eq_true hb.1, Nat.le_of_ble_eq_true hb.2⟩⟩
      · cases h
    · cases h
  · cases h
/-- A right fraction is written. -/
def fqE (q : Rat) : Option AV :=
  match q with
  | ⟨num, den, _, _⟩ => fI num fun num => fN den fun den => match Nat.blt num.natAbs (4294967296 ^ 200) && Nat.blt den (4294967296 ^ 200) with
    | true => some (.agg [.d (.bool (decide (num < 0))), .d (wd (wlF 200 num.natAbs)), .d (wd (wlF 200 den))])
    | false => none
theorem fqE_ok {q : Rat} {a : AV} (h : fqE q = some a) : a = fq q := by
  unfold fqE at h
  obtain ⟨num, den, h1, h2⟩ := q
  simp only [fI_eq, fN_eq] at h
  split at h
  · rename_i hb
    rw [Bool.and_eq_true] at hb
    cases h
    rw [fq_def, wlF_ok (Nat.le_of_ble_eq_true hb.1), wlF_ok (Nat.le_of_ble_eq_true hb.2)]
    rfl
  · cases h
def o1 (g : RF → Option AV) : List AV → Option AV
  | [a] => match unF a with
    | some x => g x
    | none => none
  | _ => none
def o2 (g : RF → RF → Option AV) : List AV → Option AV
  | [a, b] => match unF a, unF b with
    | some x, some y => g x y
    | _, _ => none
  | _ => none
theorem o1_ok {P : Program} {G : GW} {f : FuncId} {g : RF → Option AV} (h : ∀ x r, x.ok 200 → g x = some r → Con P G f [fav x] [] r []) : ∀ l x, o1 g l = some x → Con P G f l [] x [] := by
  intro l x hx
  unfold o1 at hx
  split at hx
  · split at hx
    · rename_i h1
      obtain ⟨rfl, h2⟩ := unF_ok h1
      exact h _ _ h2 hx
    · cases hx
  · cases hx
theorem o2_ok {P : Program} {G : GW} {f : FuncId} {g : RF → RF → Option AV} (h : ∀ x y r, x.ok 200 → y.ok 200 → g x y = some r → Con P G f [fav x, fav y] [] r []) : ∀ l x, o2 g l = some x → Con P G f l [] x [] := by
  intro l x hx
  unfold o2 at hx
  split at hx
  · split at hx
    · rename_i h1 h3
      obtain ⟨rfl, h2⟩ := unF_ok h1
      obtain ⟨rfl, h4⟩ := unF_ok h3
      exact h _ _ _ h2 h4 hx
    · cases hx
  · cases hx
def eqQ (a b : Rat) : Bool := a.num == b.num && Nat.beq a.den b.den
theorem eqQ_eq (a b : Rat) : eqQ a b = decide (a = b) := by
  unfold eqQ
  by_cases h : a = b
  · subst h; simp
  · rw [decide_eq_false h]
    cases hb : a.num == b.num && Nat.beq a.den b.den with
    | false => rfl
    | true =>
      rw [Bool.and_eq_true] at hb
      exact absurd (Rat.ext (eq_of_beq hb.1) (Nat.eq_of_beq_eq_true hb.2)) h
def oQuo : List AV → Option AV := o2 fun x y => match eqQ y.val 0 with
  | true => none
  | false => match fqE (x.val / y.val) with
    | some r => some (.tup [r, .d (.bool true)])
    | none => none
def oCancel : List AV → Option AV
  | [.agg [.d (.bool s), .d (.sl n)], .d (.sl d)] => match unW n, unW d with
    | some n, some d => match (Nat.ble n.length 400 && Nat.ble d.length 400) && !Nat.beq (wv d) 0 with
      | true => fqE (mkRat (sg s (wv n)) (wv d))
      | false => none
    | _, _ => none
  | _ => none
def oRight : List AV → Option AV := o1 fun x => match x.val with
  | ⟨num, den, _, _⟩ => match Nat.blt num.natAbs (4294967296 ^ 200) && Nat.blt den (4294967296 ^ 200) with
    | true => some (.d (.bool ((x.s == decide (num < 0)) && ((x.n == wlF 200 num.natAbs) && (x.d == wlF 200 den)))))
    | false => none
def oLex : List AV → Option AV
  | [.agg [.d (.int .i64 2), .d (.str s), .d (.int .i64 _)]] => match Nat.blt s.size 1000 with
    | true => some (.d (.bool (nameB s)))
    | false => none
  | _ => none
def oFrac : Orc := [(121, oRight), (83, oLex), (103, o2 fun x y => fqE (x.val + y.val)), (104, o2 fun x y => fqE (x.val * y.val)), (226, o2 fun x y => fqE (x.val - y.val)), (56, o1 fun x => fqE x.val),
  (31, o2 fun x y => some (.d (.bool (eqQ x.val y.val)))), (13, o1 fun x => some (i64 (qsg x.val))), (54, o2 fun x y => some (i64 (qsg (x.val - y.val)))), (122, o1 fun x => some (i64 (rsz x))),
  (224, o1 fun x => fqE (-x.val)), (35, o1 fun x => fqE x.val.abs), (41, oQuo), (63, oCancel)]
theorem oFrac_ok : OrcOk Go.Proofs.Tryz.prog gw oFrac := by
  refine ⟨?_, ?_, o2_ok fun x y r hx hy h => ?_, o2_ok fun x y r hx hy h => ?_, o2_ok fun x y r hx hy h => ?_, o1_ok fun x r hx h => ?_, o2_ok fun x y r hx hy h => ?_, o1_ok fun x r hx h => ?_, o2_ok fun x y r hx hy h => ?_, o1_ok fun x r hx h => ?_, o1_ok fun x r hx h => ?_, o1_ok fun x r hx h => ?_, ?_, ?_, trivial⟩
  · unfold oRight
    refine o1_ok fun x r hx h => ?_
    have hr := frRight_c x hx (by decide) (by decide)
    unfold isR qs qn qd at hr
    generalize x.val = q at h hr
    obtain ⟨num, den, q1, q2⟩ := q
    simp only at h hr
    split at h
    · rename_i hb
      rw [Bool.and_eq_true] at hb
      cases h
      rw [wlF_ok (Nat.le_of_ble_eq_true hb.1), wlF_ok (Nat.le_of_ble_eq_true hb.2)]
      have key : ((x.s == decide (num < 0)) && ((x.n == wl num.natAbs) && (x.d == wl den))) = decide (x.s = decide (num < 0) ∧ x.n = wl num.natAbs ∧ x.d = wl den) := by
        rw [Bool.eq_iff_iff]
        simp only [Bool.and_eq_true, beq_iff_eq, decide_eq_true_eq]
      rw [key]
      exact hr
    · cases h
  · intro l x h
    unfold oLex at h
    split at h
    · split at h
      · rename_i hb
        cases h
        exact lexRight_c _ _ (Nat.lt_trans (Nat.le_of_ble_eq_true hb) (by decide))
      · cases h
    · cases h
  · rw [fqE_ok h]; exact frAdd_c x y hx hy (by decide) (by decide) (by decide) (by decide)
  · rw [fqE_ok h]; exact frMul_c x y hx hy (by decide) (by decide) (by decide) (by decide)
  · rw [fqE_ok h]; exact frSub_c x y hx hy (by decide) (by decide) (by decide) (by decide)
  · rw [fqE_ok h]; exact frNorm_c x hx (by decide) (by decide)
  · cases h; rw [eqQ_eq]; exact frSame_c x y hx hy (by decide) (by decide) (by decide) (by decide)
  · cases h; exact frSign_c x hx (by decide) (by decide)
  · cases h; exact frCmp_c x y hx hy (by decide) (by decide) (by decide) (by decide)
  · cases h; exact frSize_c x hx (by decide)
  · rw [fqE_ok h]; exact frNeg_c x hx (by decide) (by decide)
  · rw [fqE_ok h]; exact frAbs_c x hx (by decide) (by decide)
  · unfold oQuo
    refine o2_ok fun x y r hx hy h => ?_
    split at h
    · cases h
    · rename_i e
      split at h
      · rename_i h1
        cases h
        rw [fqE_ok h1]
        rw [eqQ_eq] at e
        exact frQuo_c x y hx hy (by decide) (by decide) (by decide) (by decide) (of_decide_eq_false e)
      · cases h
  · intro l x h
    unfold oCancel at h
    split at h
    · split at h
      · rename_i h1 h2
        split at h
        · rename_i hb
          simp only [Bool.and_eq_true, Bool.not_eq_true'] at hb
          obtain ⟨⟨b1, b2⟩, b3⟩ := hb
          obtain ⟨e1, w1⟩ := unW_ok h1
          obtain ⟨e2, w2⟩ := unW_ok h2
          rw [fqE_ok h, e1, e2]
          exact frCancel_c _ _ _ w1 w2 (Nat.lt_of_le_of_lt (Nat.le_of_ble_eq_true b1) (by decide)) (Nat.lt_of_le_of_lt (Nat.le_of_ble_eq_true b2) (by decide)) (fun e => by rw [e] at b3; cases b3)
        · cases h
      · cases h
    · cases h
end Go.KM
end
section
/- Closed calls are run: what the laws' examples need. -/
namespace Go.KM
open Go RN
/-- A closed call, by its run. -/
theorem run_c {o : Orc} (ho : OrcOk Go.Proofs.Tryz.prog gw o) (n : Nat) {f : FuncId} {l : List AV} {r : AV} (h : endsE (runE (book o) n 0 f l []) r = true) : CN f l [] r [] := runE_k (book_ok ho) (endsE_ok h)
def w1 (l : List Int) : D := .sl (l.map fun x => [.int .u32 x])
def fr1 (n d : List Int) : List D := [.bool false, w1 n, w1 d]
def fa1 (n d : List Int) : AV := .agg [.d (.bool false), .d (w1 n), .d (w1 d)]
def oBase : Orc := oStr ++ oFrac
theorem oBase_ok : OrcOk Go.Proofs.Tryz.prog gw oBase := oStr_ok.app oFrac_ok
def zerosS : ByteArray := ⟨#[48]⟩
theorem zero_nil : CN 55 [.d (.sl [])] [] (.d (.bool true)) [] := run_c oBase_ok 6 (by kernel_rfl)
/-- digits.Text of a number of one word below 10^9, by runs of what it calls. -/
theorem txt_c (n : Int) (s9 s : ByteArray) (l9 : s9.size ≤ 100) (h1 : endsE (runE (book oBase) 6 0 55 [.d (wd [n])] []) (.d (.bool false)) = true)
    (h2 : endsE (runE (book oBase) 8 0 95 [.d (wd [n]), .d (.int .u32 1000000000)] []) (.tup [.d (.sl []), .d (.int .u32 n), .d (.bool true)]) = true)
    (h3 : endsE (runE (book oBase) 6 0 96 [.d (.int .u32 n)] []) (.d (.str s9)) = true) (h4 : endsE (runE (book oBase) 6 0 97 [.d (.str s9), .d (.str zerosS)] []) (.d (.str s)) = true) :
    CN 67 [.d (wd [n])] [] (.d (.str s)) [] :=
  digText_c n s9 s l9 (run_c oBase_ok 6 h1) zero_nil (run_c oBase_ok 8 h2) (run_c oBase_ok 6 h3) (run_c oBase_ok 6 h4)
theorem txt1 : CN 67 [.d (wd [1])] [] (.d (.str ⟨#[49]⟩)) [] := txt_c 1 ⟨#[48, 48, 48, 48, 48, 48, 48, 48, 49]⟩ _ (by decide) (by kernel_rfl) (by kernel_rfl) (by kernel_rfl) (by kernel_rfl)
theorem txt2 : CN 67 [.d (wd [2])] [] (.d (.str ⟨#[50]⟩)) [] := txt_c 2 ⟨#[48, 48, 48, 48, 48, 48, 48, 48, 50]⟩ _ (by decide) (by kernel_rfl) (by kernel_rfl) (by kernel_rfl) (by kernel_rfl)
theorem txt3 : CN 67 [.d (wd [3])] [] (.d (.str ⟨#[51]⟩)) [] := txt_c 3 ⟨#[48, 48, 48, 48, 48, 48, 48, 48, 51]⟩ _ (by decide) (by kernel_rfl) (by kernel_rfl) (by kernel_rfl) (by kernel_rfl)
theorem txt8 : CN 67 [.d (wd [8])] [] (.d (.str ⟨#[56]⟩)) [] := txt_c 8 ⟨#[48, 48, 48, 48, 48, 48, 48, 48, 56]⟩ _ (by decide) (by kernel_rfl) (by kernel_rfl) (by kernel_rfl) (by kernel_rfl)
theorem txt13 : CN 67 [.d (wd [13])] [] (.d (.str ⟨#[49, 51]⟩)) [] := txt_c 13 ⟨#[48, 48, 48, 48, 48, 48, 48, 49, 51]⟩ _ (by decide) (by kernel_rfl) (by kernel_rfl) (by kernel_rfl) (by kernel_rfl)
end Go.KM
end
section
/- The example of layer 33: works() answers true. -/
namespace Go.KM
open Go RN
def heunS : ByteArray := ⟨#[104, 101, 117, 110]⟩
def heunL : List AV := [.d (.str heunS), .d (.sl [fr1 [] [1], fr1 [1] [1]]), .d (.sl [[.sl []], [.sl [fr1 [1] [1]]]]), .d (.sl [fr1 [1] [2], fr1 [1] [2]]), .d (.sl [fr1 [1] [1], fr1 [] [1]])]
set_option maxRecDepth 10000 in
theorem readHalves : CN 119 [.d (.str ⟨#[49, 47, 50, 44, 49, 47, 50]⟩)] [] (.tup [.d (.sl [fr1 [1] [2], fr1 [1] [2]]), .agg [.d (.int .i64 0), .d (.int .i64 0), .d (.int .i64 0), .d (.int .i64 0)]]) [] := run_c oBase_ok 14 (by kernel_rfl)
def oRead : Orc := oBase ++ [(119, factE [.d (.str ⟨#[49, 47, 50, 44, 49, 47, 50]⟩)] (.tup [.d (.sl [fr1 [1] [2], fr1 [1] [2]]), .agg [.d (.int .i64 0), .d (.int .i64 0), .d (.int .i64 0), .d (.int .i64 0)]]))]
theorem oRead_ok : OrcOk Go.Proofs.Tryz.prog gw oRead := oBase_ok.app ⟨factE_ok readHalves, trivial⟩
theorem getHeun : CN 20 [.d (.str heunS)] [] (.tup [.agg heunL, .d (.bool true)]) [] := run_c oRead_ok 18 (by kernel_rfl)
theorem rightHeun : CN 46 [.agg heunL] [] (.d (.bool true)) [] := run_c oBase_ok 14 (by kernel_rfl)
def inst (op b : Int) : List D := [.int .i64 op, .int .i64 0, .int .i64 b, .bool false, .sl [], .sl []]
def growL : List AV := [.d (.sl [inst 4 0, inst 3 0, inst 9 1]), .d (.sl [[.int .i64 2]]), .d (.int .i64 1), .d (.int .i64 1)]
theorem rightGrow : CN 45 [.agg growL] [] (.d (.bool true)) [] := run_c oBase_ok 14 (by kernel_rfl)
def o33 : Orc := oBase ++ [(20, factE [.d (.str heunS)] (.tup [.agg heunL, .d (.bool true)])), (46, factE [.agg heunL] (.d (.bool true))), (45, factE [.agg growL] (.d (.bool true))),
  (67, factE [.d (wd [1])] (.d (.str ⟨#[49]⟩))), (67, factE [.d (wd [2])] (.d (.str ⟨#[50]⟩))), (67, factE [.d (wd [3])] (.d (.str ⟨#[51]⟩))), (67, factE [.d (wd [8])] (.d (.str ⟨#[56]⟩))), (67, factE [.d (wd [13])] (.d (.str ⟨#[49, 51]⟩)))]
theorem o33_ok : OrcOk Go.Proofs.Tryz.prog gw o33 := oBase_ok.app ⟨factE_ok getHeun, factE_ok rightHeun, factE_ok rightGrow, factE_ok txt1, factE_ok txt2, factE_ok txt3, factE_ok txt8, factE_ok txt13, trivial⟩
theorem works33 : CN 6 [] [] (.d (.bool true)) [] := run_c o33_ok 20 (by kernel_rfl)
end Go.KM
end
section
/- The statement: the law's call answers true, whatever the arguments; the row; the card. -/
namespace Go.Proofs.YtdiojmcleapkdaaGreatDoor.stands
open Go Go.KM Go.ChangeShapes Go.WideShapes Go.ChangeAt Go.RowKit
theorem own : ownKnob Tryz.prog.godebug = none := by kernel_rfl
theorem laidOut : laidOutB Tryz.prog = true := by kernel_rfl
theorem lowOk : Tryz.prog.globals.size < Tryz.prog.low := Nat.le_of_ble_eq_true (by kernel_rfl)
set_option maxRecDepth 100000 in
/-- What the call does, for every argument. -/
theorem contract (H : Type) (enc : TypeId × Value → H) (W : World) (base : Nat) (args : Array Value) (ds gs : List (DataW H)) (before : List MemPlace)
    (hW : DataW.Whole enc Tryz.prog Tryz.f3.params.toList Rows.stepStandsSpec.vars false W args.toList ds gs before)
    (hsz : (DataW.weightsEach Tryz.prog (Tryz.f3.params.toList ++ (OpenSpec.ofChange Rows.stepStandsSpec).bare.plain.varTypes Tryz.prog) (ds ++ gs)).all (· ≤ reachBytes) = true) (hsh : W.ShapedOpen Tryz.prog) :
    Calls Tryz.prog 3 args W fun e W' => ∃ v, e = .returned v ∧ Rows.stepStandsSpec.post enc Tryz.prog Tryz.f3 false true false false W args v W' := by
  have hW' := hW
  obtain ⟨p, q, hA, hV, rfl, hfz, hnd⟩ := hW
  obtain ⟨rfl, rfl⟩ := trodVars_none hV
  rw [Tryz.params3] at hA
  rw [Tryz.params3] at hsz
  obtain ⟨v0, vs0, d0, ds0, p0, q0, hargs, rfl, rfl, h0, r0⟩ := trodAll_cons hA
  obtain ⟨v1, vs1, d1, ds1, p1, q1, rfl, rfl, rfl, h1, r1⟩ := trodAll_cons r0
  obtain ⟨rfl, rfl, rfl⟩ := trodAll_nil r1
  obtain rfl : args = #[v0, v1] := by cases args; simp_all
  obtain ⟨n0, h0⟩ := h0
  obtain ⟨n1, h1⟩ := h1
  have w0 : ∀ k ∈ d0.weights Tryz.prog 31, k ≤ reachBytes := fun k hk => by
    have := List.all_eq_true.1 hsz k (DataW.weights_mem_each (j := 0) rfl rfl k hk)
    simpa using this
  have w1 : ∀ k ∈ d1.weights Tryz.prog 36, k ≤ reachBytes := fun k hk => by
    have := List.all_eq_true.1 hsz k (DataW.weights_mem_each (j := 1) rfl rfl k hk)
    simpa using this
  obtain ⟨x0, t0, f0, _⟩ := trod_fit 9 n0 _ _ d0 p0 (by kernel_rfl) h0 w0
  obtain ⟨x1, t1, f1, _⟩ := trod_fit 9 n1 _ _ d1 p1 (by kernel_rfl) h1 w1
  obtain ⟨pp, e0, l0, wp, h60, lP⟩ := fitProblem f0
  obtain ⟨T, G, Y, e1, l1, wT, wG, wY, lY⟩ := fitFrom f1
  have a0 : RT W (prA pp) v0 := by
    have := RT.agg_of t0 (by omega)
    rw [e0] at this
    exact this
  have a1 : RT W (foA T G Y) v1 := by
    have := RT.agg_of t1 (by omega)
    rw [e1] at this
    exact this
  have hc := stands_c works33 pp T G Y h60 lP lY wp wT wG wY
  refine (hc.calls (w := W) ⟨hsh, low_le hsh lowOk⟩ (vs := [v0, v1]) rfl (RT.two a0 a1)).mono ?_
  rintro e W' ⟨v, rfl, he, _, hr⟩
  obtain rfl := rv_bool hr
  refine ⟨_, rfl, post_of_ext (tb := 4) hW' he laidOut ?_ (by kernel_rfl) Tryz.underlying4 rfl ?_⟩
  · intro t ht
    rw [Tryz.params3] at ht
    rcases List.mem_cons.1 ht with rfl | ht
    · exact ⟨by kernel_rfl, of_decide_eq_true (by kernel_rfl)⟩
    · rcases List.mem_cons.1 ht with rfl | ht
      · exact ⟨by kernel_rfl, of_decide_eq_true (by kernel_rfl)⟩
      · cases ht
  · rfl
/-- A world for the witness: the listed tables hold what their initialisers lay. -/
noncomputable def laidWorld (os : Os) (i : Input) : World :=
  setCells (setCells (World.holding Tryz.prog os i) ((Tryz.prog.globalNamed "unicode/utf8.acceptRanges").getD 0) Rows.laid_unicode_utf8_acceptRanges) ((Tryz.prog.globalNamed "unicode/utf8.first").getD 0) Rows.laid_unicode_utf8_first
def wArgs : Array Value := #[.agg #[.slice none 0 0, .slice none 0 0, .int .i64 0, .int .i64 0, .string ⟨#[]⟩, .slice none 0 0, .slice none 0 0, .slice none 0 0, .slice none 0 0, .slice none 0 0, .int .i64 0],
  .agg #[.bool false, .slice none 0 0, .slice none 0 0, .bool false, .slice none 0 0, .slice none 0 0, .slice none 0 0]]
def wRead {H : Type} : List (DataW H) := [.agg [.agg [.nil, .nil, .lit (.int .i64 0), .lit (.int .i64 0)], .agg [.lit (.string []), .nil, .nil, .nil, .nil], .nil, .lit (.int .i64 0)],
  .agg [.agg [.lit (.bool false), .nil, .nil], .agg [.lit (.bool false), .nil, .nil], .nil]]
set_option maxRecDepth 100000 in
theorem laid_met (os : Os) : laidMet Tryz.prog Rows.stepStandsRow.laid ((laidWorld os ⟨#[], #[], []⟩).forCall (fun _ _ => 0) ⟨#[], wArgs, []⟩).memory :=
  laidMet_of_run' 8 (by kernel_rfl) (by kernel_rfl)
theorem reads (os : Os) {H : Type} (enc : TypeId × Value → H) : ∃ places, DataW.whole enc Tryz.prog ((laidWorld os ⟨#[], #[], []⟩).forCall (fun _ _ => 0) ⟨#[], wArgs, []⟩).memory Tryz.f3.params.toList Rows.stepStandsSpec.vars false wArgs.toList 8 = some (wRead, [], places) :=
  ⟨[], by kernel_rfl⟩
set_option maxRecDepth 100000 in
theorem lifted (os : Os) (started : os.Started) (H : Type) (enc : TypeId × Value → H) (F : Stop.Interp) :
    ReturnsInHanded {} Tryz.checked os 3 .any ((OpenSpec.ofChange Rows.stepStandsSpec).preRow enc Tryz.prog Tryz.f3 Rows.stepStandsRow.domain false Rows.stepStandsRow.laid) (((OpenSpec.ofChange Rows.stepStandsSpec).at F).post enc Tryz.prog Tryz.f3 false true false false) := by
  obtain ⟨places, hx⟩ := reads os enc
  refine returnsInHanded_of_row (C := Tryz.checked) (s := OpenSpec.ofChange Rows.stepStandsSpec) own started (by kernel_rfl) Tryz.func3
    (witness_row_at (enc := enc) (C := Tryz.checked) false (laidWorld os ⟨#[], #[], []⟩) wArgs rfl (by kernel_rfl) (by kernel_rfl) (by kernel_rfl)
      (OpenSpec.preRow_of_cond 8 hx (by kernel_rfl) (fun k hk => by cases hk) (by kernel_rfl) (laid_met os))) ?_
  intro W base args ds gs before hval hW _ _ hsz hL hsh _
  exact contract H enc W base args ds gs before hW hsz hsh
theorem said : Rows.StepStandsSaid :=
  OpenClaim.holds_of_cond 3 Tryz.f3 rfl rfl rfl rfl rfl rfl rfl ⟨rfl, rfl, rfl, rfl, rfl⟩ rfl rfl rfl rfl rfl (by kernel_rfl) Tryz.func3 (by kernel_rfl)
    (of_decide_eq_true (by kernel_rfl)) (by unfold Func.isWrapper; first | (rw [if_pos (by decide +kernel)]; kernel_rfl) | (rw [if_neg (by decide +kernel)]; exact ⟨rfl, rfl⟩))
    (fun os started H enc _ F => by rw [OpenClaim.pre_eq_preRow]; exact lifted os started H enc F)
theorem plain (f : FuncId) (fn : Func) (hf : Tryz.pinned.checked.prog.funcNamed "retrospect/retrospectlaw33.StepStands" = some f) (hfn : Tryz.pinned.checked.prog.funcs[f]? = some fn) :
    false = Tryz.pinned.checked.prog.looks [] ∧ ∀ (j : Nat) t, fn.params[j]? = some t → Tryz.pinned.checked.prog.wantsStandIn t = false := by
  obtain rfl : f = 3 := Option.some.inj ((show Tryz.prog.funcNamed "retrospect/retrospectlaw33.StepStands" = some 3 by kernel_rfl).symm.trans hf) |>.symm
  obtain rfl : fn = Tryz.f3 := (Option.some.inj (Tryz.func3.symm.trans hfn)).symm
  refine ⟨by kernel_rfl, fun j t ht => ?_⟩
  rw [Tryz.params3] at ht
  have hm := Array.mem_of_getElem? ht
  simp only [List.mem_toArray, List.mem_cons, List.not_mem_nil, or_false] at hm
  rcases hm with rfl | rfl
  · exact (show Tryz.prog.wantsStandIn 31 = false by kernel_rfl)
  · exact (show Tryz.prog.wantsStandIn 36 = false by kernel_rfl)
/-- The card. -/
theorem card : Rows.StepStandsCardSaid :=
  Claim7.holds_tied_plain_at .later [] _ _ _ _ said (fun _ h => by cases h) (by kernel_rfl) (fun _ h => by cases h) stepStands_row_tie rfl ⟨rfl, rfl⟩ (by kernel_rfl) rfl plain (by kernel_rfl)
end Go.Proofs.YtdiojmcleapkdaaGreatDoor.stands
end
