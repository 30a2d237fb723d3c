/- Part of a proof of PartitionBucketsCardSaid: functions of the given program and what they compute, each checked by the kernel. -/
import Derived.Test.YteflfnjljjianaaGreatDoorPK02
import Derived.StillTail
import Derived.Deep.Quiet
import Derived.Lib.QuietBelow
import Derived.Test.YteflfnjljjianaaGreatDoorPK10
import Derived.KernelRfl
import Derived.Test.YteflfnjljjianaaGreatDoorPK04
import Derived.Test.YteflfnjljjianaaGreatDoorPK05
import Derived.Test.YteflfnjljjianaaGreatDoorPK09
import Derived.Test.YteflfnjljjianaaGreatDoorPK06
import Derived.Test.YteflfnjljjianaaGreatDoorPK07
namespace Go.Proofs.YteflfnjljjianaaGreatDoor.Qx
open Go.RowKit Go.Proofs.YteflfnjljjianaaGreatDoorW.PrintWords Go.Proofs.YteflfnjljjianaaGreatDoorW.PrintLast Go.Proofs.YteflfnjljjianaaGreatDoorW.PrintMore
attribute [local go_sem] max2_int min2_int max_two min_two
set_option linter.unusedVariables false
set_option linter.unusedSimpArgs false
def chapmanref32_filled.l0 : Nat → ByteArray → Option (ByteArray)
  | 0, _ => none
  | k + 1, x0 => if (x0.size : Int) < 40 then (if x0.size + 1 ≤ 9223372036854775807 then (chapmanref32_filled.l0 k (x0 ++ (⟨#[126]⟩ : ByteArray))) else (none)) else (some x0)
def chapmanref32_filled.f (k : Nat) (a0 : ByteArray) : Option (ByteArray) := chapmanref32_filled.l0 k a0
set_option maxHeartbeats 8000000 in
set_option maxRecDepth 100000 in
theorem chapmanref32_filled.calls (k : Nat) (a0 : ByteArray) (r : ByteArray) (w : World) (h : chapmanref32_filled.f k a0 = some r) :
    Calls Tryz.prog 71 #[.string a0] w fun e w' => e = .returned (.string r) ∧ Drawn0 w w' := by
  have H : (chapmanref32_filled.l0 k a0) = some r := h
  clear h
  have H' := Aside0.mk H
  clear H
  go_enter Tryz.func71, Tryz.ntmps71
  go_wp2
  go_loopg [0] k (fun kq v0 w' => ∃ (x0_1 : ByteArray), v0 = .string x0_1 ∧ Aside0 (chapmanref32_filled.l0 kq x0_1 = some r) ∧ Aside0 (kq ≤ k) ∧ Drawn0 w w')
  case atStart => exact ⟨(a0), (by first | rfl | (simp; done) | (simp [*]; done)), H', ⟨Nat.le_refl _⟩, by repeat (first | exact Drawn0.refl _ | apply Drawn0.step)⟩
  case round =>
    clear H'
    obtain ⟨x0_1, rfl, HA, HK1, ⟨m1, rfl⟩⟩ := hrel
    cases gk with
    | zero => exact absurd HA.out (by simp [chapmanref32_filled.l0])
    | succ k1 =>
      have H := HA.out
      clear HA
      simp only [chapmanref32_filled.l0] at H
      by_cases c2 : (x0_1.size : Int) < 40
      · rw [if_pos c2] at H
        have c2b0 : decide ((x0_1.size : Int) < 40) = true := decide_eq_true c2
        have c2b1 : decide (x0_1.size < 40) = true := decide_eq_true (by omega)
        clear c2
        by_cases c3 : x0_1.size + 1 ≤ 9223372036854775807
        · rw [if_pos c3] at H
          have c3b0 := eq_true c3
          have c3b1 : decide (x0_1.size + 1 ≤ 9223372036854775807) = true := decide_eq_true c3
          try have c3b2 : (9223372036854775807 < x0_1.size + 1) = False := eq_false (Nat.not_lt.2 c3)
          have H' := Aside0.mk H
          clear H
          go_wp2
          go_roundg k1
          case measure => have := HK1.out; omega
          case rel => exact ⟨(x0_1 ++ (⟨#[126]⟩ : ByteArray)), (by first | rfl | (simp; done) | (simp [*]; done)), H', ⟨by have := HK1.out; omega⟩, by repeat (first | exact Drawn0.refl _ | apply Drawn0.step)⟩
        · rw [if_neg c3] at H
          exact absurd H (by simp)
      · rw [if_neg c2] at H
        have c2b0 : decide ((x0_1.size : Int) < 40) = false := decide_eq_false c2
        have c2b1 : decide (x0_1.size < 40) = false := decide_eq_false (by omega)
        clear c2
        obtain rfl := Option.some.inj H
        go_wp2
        go_ret
        exact ⟨by first | rfl | (simp; done) | (simp [*]; done), by repeat (first | exact Drawn0.refl _ | apply Drawn0.step)⟩
end Go.Proofs.YteflfnjljjianaaGreatDoor.Qx
namespace Go
open Go.RowKit
section
variable {P : Program} {ops : Array Oper} {md : Region.Mode}
def putAll : List Oper → Nat → (Nat → Value) → Act → Act
  | [], _, _, a => a
  | o :: l, k, vals, a => putAll l (k + 1) vals (a.put o.dst (vals k))
def relPost (R : Value → World → Prop) (w : World) (d : Tmp) (ds : List Deferred) (e : Exit) (a : Act) (w' : World) : Prop :=
  e = .normal ∧ a.defers = ds ∧ R (a.tmps.getD d undef) w' ∧ Below w.heap.size w w'
def relOf (R : Nat → Value → World → Prop) (D : Nat → Nat → Value → Value → Prop) (k : Nat) (w : World) (v : Value) (w' : World) : Prop :=
  R k v w' ∧ ∀ j u, R j u w → D k j v u ∧ D j k u v
def RelSteps (P : Program) (md : Region.Mode) (ops : Array Oper) (R : Nat → Value → World → Prop) (D : Nat → Nat → Value → Value → Prop) (vals : Nat → Value) (w : World) (A : Act) : List Oper → Nat → Prop
  | [], _ => True
  | o :: l, k => ((∀ j, Region.waitsFor md ops k j = true → R j (vals j) w) → wpList P ops (relPost (relOf R D k w) w (o.dst.getD 0) A.defers) [o] A w) ∧ RelSteps P md ops R D vals w A l (k + 1)
theorem rel_done {R : Nat → Value → World → Prop} {D : Nat → Nat → Value → Value → Prop} {k : Nat} {w : World} {d : Tmp} {ds : List Deferred} {a : Act} {w' : World} (h0 : a.defers = ds) (v : Value) (hv : a.tmps.getD d undef = v) (h : R k v w') (hD : ∀ j u, R j u w → D k j v u ∧ D j k u v) (hb : Below w.heap.size w w') : relPost (relOf R D k w) w d ds .normal a w' :=
  ⟨rfl, h0, by rw [hv]; exact ⟨h, hD⟩, hb⟩
def noApart (_ _ : Nat) (_ _ : Value) : Prop := True
theorem noApart_all {R : Nat → Value → World → Prop} {k : Nat} {v : Value} {w : World} : ∀ j u, R j u w → noApart k j v u ∧ noApart j k u v := fun _ _ _ => ⟨trivial, trivial⟩
theorem RelSteps.at {R : Nat → Value → World → Prop} {D : Nat → Nat → Value → Value → Prop} {vals : Nat → Value} {w : World} {A : Act} : ∀ {l : List Oper} {k : Nat}, RelSteps P md ops R D vals w A l k → ∀ {j : Nat} {o : Oper}, l[j]? = some o →
    (∀ i, Region.waitsFor md ops (k + j) i = true → R i (vals i) w) → wpList P ops (relPost (relOf R D (k + j) w) w (o.dst.getD 0) A.defers) [o] A w := by
  intro l
  induction l with
  | nil => intro k _ j o h; simp at h
  | cons o l ih =>
    intro k h j oj hj hd
    cases j with
    | zero =>
      obtain rfl : o = oj := by simpa using hj
      exact h.1 hd
    | succ j =>
      have := ih h.2 (j := j) (o := oj) (by simpa using hj)
      rw [show k + 1 + j = k + (j + 1) by omega] at this
      exact this hd
theorem putAll_size : ∀ (l : List Oper) (k : Nat) (vals : Nat → Value) (a : Act), (putAll l k vals a).tmps.size = a.tmps.size ∧ (putAll l k vals a).defers = a.defers := by
  intro l
  induction l with
  | nil => intro k vals a; exact ⟨rfl, rfl⟩
  | cons o l ih =>
    intro k vals a
    have := ih (k + 1) vals (a.put o.dst (vals k))
    refine ⟨this.1.trans ?_, this.2.trans ?_⟩ <;> (unfold Act.put; split <;> simp)
theorem put_getD {a : Act} {d t : Nat} {v : Value} (hd : d < a.tmps.size) : (a.put (some d) v).tmps.getD t undef = if t = d then v else a.tmps.getD t undef := by
  unfold Act.put
  simp only [Array.getD_eq_getD_getElem?, Array.getElem?_setIfInBounds]
  by_cases h : d = t
  · subst h; simp [hd]
  · rw [if_neg h, if_neg (fun e => h e.symm)]
theorem put_getD_ne {a : Act} {o : Option Tmp} {t : Nat} {v : Value} (h : o ≠ some t) : (a.put o v).tmps.getD t undef = a.tmps.getD t undef := by
  unfold Act.put
  split
  · rename_i d
    have : d ≠ t := fun e => h (by rw [e])
    simp only [Array.getD_eq_getD_getElem?, Array.getElem?_setIfInBounds]
    rw [if_neg this]
  · rfl
theorem putAll_getD (B : Act) : ∀ (l : List Oper) (k : Nat) (vals : Nat → Value) (a : Act) (t : Nat), (∀ j o d, l[j]? = some o → o.dst = some d → vals (k + j) = B.tmps.getD d undef ∧ d < a.tmps.size) →
    ((∃ o ∈ l, o.dst = some t) ∨ a.tmps.getD t undef = B.tmps.getD t undef) → (putAll l k vals a).tmps.getD t undef = B.tmps.getD t undef := by
  intro l
  induction l with
  | nil => intro k vals a t _ h; exact h.elim (fun ⟨o, ho, _⟩ => absurd ho (by simp)) id
  | cons o l ih =>
    intro k vals a t hv h
    have hz : (a.put o.dst (vals k)).tmps.size = a.tmps.size := by unfold Act.put; split <;> simp
    refine ih (k + 1) vals _ t (fun j oj d hj hd => by have := hv (j + 1) oj d (by simpa using hj) hd; rw [hz, show k + 1 + j = k + (j + 1) by omega]; exact this) ?_
    by_cases hot : o.dst = some t
    · right
      have := hv 0 o t (by simp) hot
      rw [hot, put_getD this.2, if_pos rfl]
      exact this.1
    · rcases h with ⟨o', ho', h'⟩ | h
      · rcases List.mem_cons.1 ho' with rfl | h2
        · exact absurd h' hot
        · exact .inl ⟨o', h2, h'⟩
      · right
        rw [put_getD_ne hot]
        exact h
theorem Act.eq_of {a b : Act} (hs : a.tmps.size = b.tmps.size) (hd : a.defers = b.defers) (h : ∀ t, a.tmps.getD t undef = b.tmps.getD t undef) : a = b := by
  cases a with | mk at_ ad => cases b with | mk bt bd =>
  simp only at hs hd h
  subst hd
  congr 1
  refine Array.ext hs fun i h1 h2 => ?_
  have := h i
  simpa [Array.getD, h1, h2] using this
def Region.open_ (listed : Array Bool) : Nat → Nat
  | 0 => 0
  | n + 1 => Region.open_ listed n + if listed.getD n true then 0 else 1
theorem Region.open_set {listed : Array Bool} {i : Nat} (h : listed.getD i true = false) : ∀ n, Region.open_ (listed.setIfInBounds i true) n + (if i < n then 1 else 0) = Region.open_ listed n := by
  intro n
  induction n with
  | zero => simp [Region.open_]
  | succ n ih =>
    simp only [Region.open_]
    by_cases hin : i = n
    · subst hin
      have hlt : i < listed.size := by
        rcases Nat.lt_or_ge i listed.size with h' | h'
        · exact h'
        · simp [Array.getElem?_eq_none h'] at h
      have h1 : (listed.setIfInBounds i true).getD i true = true := by simp [hlt]
      rw [h1, h]
      have := ih
      rw [if_neg (Nat.lt_irrefl i)] at this
      simp only [Nat.lt_succ_self, if_true]
      simp
      omega
    · rw [getD_set_ne true hin]
      by_cases h2 : i < n
      · have h3 : i < n + 1 := by omega
        simp only [h2, h3, if_true] at ih ⊢
        omega
      · have h3 : ¬ i < n + 1 := by omega
        simp only [h2, h3, if_false] at ih ⊢
        omega
theorem Region.open_zero {listed : Array Bool} : ∀ {n : Nat}, Region.open_ listed n = 0 → ∀ j, j < n → listed.getD j true = true := by
  intro n
  induction n with
  | zero => intro _ j hj; omega
  | succ n ih =>
    intro h j hj
    simp only [Region.open_] at h
    by_cases hjn : j = n
    · subst hjn
      by_cases h2 : listed.getD j true = true
      · exact h2
      · rw [if_neg h2] at h; omega
    · exact ih (by omega) j (by omega)
theorem Region.open_some {listed : Array Bool} : ∀ {n : Nat}, 0 < Region.open_ listed n → ∃ i, i < n ∧ listed.getD i true = false ∧ ∀ j, j < i → listed.getD j true = true := by
  intro n
  induction n with
  | zero => intro h; simp [Region.open_] at h
  | succ n ih =>
    intro h
    by_cases h0 : 0 < Region.open_ listed n
    · obtain ⟨i, h1, h2, h3⟩ := ih h0
      exact ⟨i, by omega, h2, h3⟩
    · have hz : Region.open_ listed n = 0 := by omega
      simp only [Region.open_] at h
      refine ⟨n, by omega, ?_, Region.open_zero hz⟩
      cases h2 : listed.getD n true with
      | false => rfl
      | true => rw [h2] at h; simp at h; omega
theorem Region.open_start (m : Nat) : ∀ n, n ≤ m → Region.open_ (Array.replicate m false) n = n := by
  intro n
  induction n with
  | zero => intro _; rfl
  | succ n ih =>
    intro h
    simp only [Region.open_]
    rw [ih (by omega), getD_in (by simp; omega) (getD_replicate_false _ _)]
    simp
def Region.relB (md : Region.Mode) (ops : Array Oper) (n m : Nat) : Bool :=
  decide (n ≤ ops.size) && (decide (n = ops.size) || (Region.sinkB md ops n && Region.chainB md ops n)) &&
  (List.range n).all (fun i => match ops[i]? with
    | none => false
    | some o => (match o.dst with | some d => decide (d < m) && (List.range i).all (fun j => (ops[j]?).bind (·.dst) != some d) | none => false) && o.after.all (fun e => !Region.binds md e || decide (e.on < i))) &&
  Region.seqB md ops (ops.size - n) n (Array.replicate n true ++ Array.replicate (ops.size - n) false)
structure RelInv (P : Program) (md : Region.Mode) (ops : Array Oper) (n : Nat) (R : Nat → Value → World → Prop) (D : Nat → Nat → Value → Value → Prop) (a : Act) (w : World) (listed : Array Bool) (a' : Act) (w' : World) : Prop where
  head : HeadInv md ops n listed
  size : a'.tmps.size = a.tmps.size
  defers : a'.defers = a.defers
  off : ∀ t, (∀ j o, j < n → ops[j]? = some o → o.dst ≠ some t) → a'.tmps.getD t undef = a.tmps.getD t undef
  below : Below w.heap.size w w'
  rel : ∀ j o, j < n → ops[j]? = some o → listed.getD j false = true → R j (a'.tmps.getD (o.dst.getD 0) undef) w'
  apart : ∀ i j oi oj, i < n → j < n → i ≠ j → ops[i]? = some oi → ops[j]? = some oj → listed.getD i false = true → listed.getD j false = true → D i j (a'.tmps.getD (oi.dst.getD 0) undef) (a'.tmps.getD (oj.dst.getD 0) undef)
theorem wpOp_of_rel {i : Nat} {o : Oper} {d : Nat} {R : Value → World → Prop} {a : Act} {w : World} {K : Act → World → Prop} {Q : Exit → Act → World → Prop} (hi : ops[i]? = some o) (hd : o.dst = some d) (hlt : d < a.tmps.size)
    (h : wpList P ops (relPost R w d a.defers) [o] a w) (hK : ∀ v w', R v w' → Below w.heap.size w w' → K (a.put (some d) v) w') : wpOp P ops Q i K a w := by
  have hput : ∀ v, (a.put (some d) v).tmps.getD d undef = v := fun v => by rw [put_getD hlt, if_pos rfl]
  unfold wpOp
  simp only [hi]
  unfold wpList at h
  split
  · rename_i hw
    rw [if_pos hw] at h
    have h := h.resolve_right (fun ⟨_, _, _, h, _⟩ => by cases h)
    refine .inl ?_
    unfold Oper.wp at *
    generalize (execOp a.eval o).run P w = r at *
    have hv : ∀ v w', relPost R w d a.defers .normal (a.put o.dst v) w' → K (a.put o.dst v) w' := fun v w' hh => by
      obtain ⟨_, _, h3, h4⟩ := hh
      rw [hd] at h3 ⊢
      rw [hput] at h3
      exact hK v w' h3 h4
    match r, h with
    | .ok (.value v) w', h => exact hv v w' h
    | .ok .skip w', h => exact hv undef w' h
    | .ok (.defer df) w', h =>
      obtain ⟨_, h2, _⟩ := h
      exfalso
      have : (({ a with defers := df :: a.defers } : Act).put o.dst undef).defers = df :: a.defers := by unfold Act.put; split <;> rfl
      rw [this] at h2
      have := congrArg List.length h2
      simp at this
    | .ok (.enter f args) w', h =>
      refine Calls.mono h fun e w'' he => ?_
      match e, he with
      | .returned v, he => exact hv v w'' he
      | .panicked c, he => exact absurd he.1 (by intro hh; cases hh)
      | .outgrown, he => exact he.elim fun _ he => he.elim fun _ he => absurd he.1 (by intro hh; cases hh)
    | .ok (.row r args) w', h => exact Rows.mono h fun v w'' he => hv v w'' he
    | .halt (.panic v) w', h => exact absurd h.1 (by intro hh; cases hh)
  · rename_i hw
    rw [if_neg hw] at h
    obtain ⟨_, _, h3, h4⟩ := h
    rw [hd] at h3 ⊢
    rw [hput] at h3
    exact hK undef w h3 h4
theorem wpAny_of_rel {n m g : Nat} {R : Nat → Value → World → Prop} {D : Nat → Nat → Value → Value → Prop} {a : Act} {w : World} {Q : Exit → Act → World → Prop} (hg : ops.size = n + g) (hB : Region.relB md ops n m = true) (hsz : a.tmps.size = m)
    (hR : ∀ i v X Y, Below X.heap.size X Y → R i v X → R i v Y)
    (h : ∀ vals w', Below w.heap.size w w' → RelSteps P md ops R D vals w' (putAll (ops.toList.take n) 0 vals a) (ops.toList.take n) 0)
    (hend : ∀ vals w', Below w.heap.size w w' → (∀ j, j < n → R j (vals j) w') → (∀ i j, i < n → j < n → i ≠ j → D i j (vals i) (vals j)) → wpList P ops Q (ops.toList.drop n) (putAll (ops.toList.take n) 0 vals a) w') :
    ∀ (f : Nat) (listed : Array Bool) (a' : Act) (w' : World), RelInv P md ops n R D a w listed a' w' → Region.open_ listed n = f → wpAny P md ops Q (f + g) listed a' w' := by
  simp only [Region.relB, Bool.and_eq_true, Bool.or_eq_true, decide_eq_true_eq] at hB
  obtain ⟨⟨⟨hn, hsink⟩, hall⟩, hseq⟩ := hB
  have hop : ∀ i, i < n → ∃ o d, ops[i]? = some o ∧ o.dst = some d ∧ d < m ∧ (∀ j, j < i → (ops[j]?).bind (·.dst) ≠ some d) ∧ ∀ e ∈ o.after, Region.binds md e = true → e.on < i := by
    intro i hi
    have h1 := List.all_eq_true.1 hall i (List.mem_range.2 hi)
    split at h1
    · cases h1
    · rename_i o ho
      rw [Bool.and_eq_true] at h1
      obtain ⟨h1, h2⟩ := h1
      split at h1
      · rename_i d hd
        simp only [Bool.and_eq_true, decide_eq_true_eq] at h1
        refine ⟨o, d, ho, hd, h1.1, fun j hj => ?_, fun e he hb => ?_⟩
        · have := List.all_eq_true.1 h1.2 j (List.mem_range.2 hj)
          simpa using this
        · have := Array.all_eq_true'.1 h2 e he
          simpa [hb] using this
      · cases h1
  have hdist : ∀ i j oi oj d, i < n → j < n → ops[i]? = some oi → ops[j]? = some oj → oi.dst = some d → oj.dst = some d → i = j := by
    intro i j oi oj d hi hj hoi hoj h1 h2
    rcases Nat.lt_trichotomy i j with hlt | heq | hlt
    · obtain ⟨o, d', ho, hd', _, hne, _⟩ := hop j hj
      obtain rfl : o = oj := Option.some.inj (ho.symm.trans hoj)
      obtain rfl : d' = d := Option.some.inj (hd'.symm.trans h2)
      exact absurd (by rw [hoi]; exact h1) (hne i hlt)
    · exact heq
    · obtain ⟨o, d', ho, hd', _, hne, _⟩ := hop i hi
      obtain rfl : o = oi := Option.some.inj (ho.symm.trans hoi)
      obtain rfl : d' = d := Option.some.inj (hd'.symm.trans h1)
      exact absurd (by rw [hoj]; exact h2) (hne j hlt)
  have htake : ∀ j, j < n → (ops.toList.take n)[j]? = ops[j]? := fun j hj => by rw [List.getElem?_take, if_pos hj]; simp
  have hframe : ∀ listed a' w', RelInv P md ops n R D a w listed a' w' → putAll (ops.toList.take n) 0 (fun j => a'.tmps.getD (((ops[j]?).bind (·.dst)).getD 0) undef) a = a' := by
    intro listed a' w' inv
    have hp := putAll_size (ops.toList.take n) 0 (fun j => a'.tmps.getD (((ops[j]?).bind (·.dst)).getD 0) undef) a
    refine Act.eq_of (hp.1.trans inv.size.symm) (hp.2.trans inv.defers.symm) fun t => ?_
    refine putAll_getD a' _ 0 _ a t (fun j o d hj hd => ?_) ?_
    · have hjn : j < n := by
        have := (List.getElem?_eq_some_iff.1 hj).1
        simp at this; omega
      rw [htake j hjn] at hj
      obtain ⟨o', d', ho', hd', hlt, _, _⟩ := hop j hjn
      obtain rfl : o' = o := Option.some.inj (ho'.symm.trans hj)
      obtain rfl : d' = d := Option.some.inj (hd'.symm.trans hd)
      refine ⟨?_, hsz ▸ hlt⟩
      simp [hj, hd]
    · by_cases he : ∃ o ∈ ops.toList.take n, o.dst = some t
      · exact .inl he
      · refine .inr (inv.off t fun j o hj ho hd => he ⟨o, ?_, hd⟩).symm
        exact List.mem_of_getElem? ((htake j hj).trans ho)
  intro f
  induction f with
  | zero =>
    intro listed a' w' inv hc
    rw [Nat.zero_add]
    have hl : listed = Array.replicate n true ++ Array.replicate (ops.size - n) false := by
      refine Array.ext (by rw [inv.head.size]; simp; omega) fun i h1 h2 => ?_
      have hi : i < ops.size := by rw [← inv.head.size]; exact h1
      by_cases hin : i < n
      · have := Region.open_zero hc i hin
        simp [Array.getD, h1] at this
        simp [hin, this]
      · have := inv.head.tail i (by omega) hi
        simp [Array.getD, h1] at this
        rw [Array.getElem_append_right (by simp; omega)]; simp [this]
    have hdl : (ops.toList.drop n).length = g := by simp; omega
    have := wpAny_of_seq (P := P) (ops := ops) (md := md) (Q' := Q) (ops.toList.drop n) n listed a' w' (fun j => by simp [List.getElem?_drop]) (by rw [hdl, hl, show g = ops.size - n by omega]; exact hseq) (by
      have he := hend (fun j => a'.tmps.getD (((ops[j]?).bind (·.dst)).getD 0) undef) w' inv.below (fun j hj => by
        obtain ⟨o, d, ho, hd, _⟩ := hop j hj
        have := inv.rel j o hj ho (by
          have h1 := Region.open_zero hc j hj
          have h2 : j < listed.size := by rw [inv.head.size]; omega
          simp [Array.getD, h2] at h1 ⊢
          exact h1)
        simpa [ho, hd] using this) (fun i j hi hj hij => by
        obtain ⟨oi, di, hoi, hdi, _⟩ := hop i hi
        obtain ⟨oj, dj, hoj, hdj, _⟩ := hop j hj
        have hl2 : ∀ q, q < n → listed.getD q false = true := fun q hq => by
          have h1 := Region.open_zero hc q hq
          have h2 : q < listed.size := by rw [inv.head.size]; omega
          simp [Array.getD, h2] at h1 ⊢
          exact h1
        have := inv.apart i j oi oj hi hj hij hoi hoj (hl2 i hi) (hl2 j hj)
        simpa [hoi, hdi, hoj, hdj] using this)
      rw [hframe listed a' w' inv] at he
      exact he)
    rwa [hdl] at this
  | succ f ih =>
    intro listed a' w' inv hc
    rw [show f + 1 + g = (f + g) + 1 by omega]
    obtain ⟨i0, hi0, hun0, hbefore⟩ := Region.open_some (listed := listed) (n := n) (by omega)
    have hready0 : i0 ∈ Region.ready md ops listed := by
      obtain ⟨o, d, ho, _, _, _, hb⟩ := hop i0 hi0
      refine mem_ready.2 ⟨hun0, o, ho, fun e he hbe => ?_⟩
      have h1 := hbefore e.on (hb e he hbe)
      have h2 : e.on < listed.size := by rw [inv.head.size]; have := hb e he hbe; omega
      simp [Array.getD, h2] at h1 ⊢
      exact h1
    refine ⟨fun h0 => (by rw [h0] at hready0; cases hready0), fun i hi => ?_⟩
    have hin : i < n := by
      rcases hsink with h1 | ⟨h1, h2⟩
      · obtain ⟨_, o, ho, _⟩ := mem_ready.1 hi
        have := (Array.getElem?_eq_some_iff.1 ho).1
        omega
      · by_cases hlt : n < ops.size
        · refine Nat.lt_of_not_le fun hge => tail_waits h1 h2 hlt inv.head _ i0 rfl hi0 hun0 i hge hi
        · obtain ⟨_, o, ho, _⟩ := mem_ready.1 hi
          have := (Array.getElem?_eq_some_iff.1 ho).1
          omega
    obtain ⟨hun, oi, hoi, hdeps⟩ := mem_ready.1 hi
    obtain ⟨o, d, ho, hd, hdm, _, hback⟩ := hop i hin
    obtain rfl : o = oi := Option.some.inj (ho.symm.trans hoi)
    have hstep := (h (fun j => a'.tmps.getD (((ops[j]?).bind (·.dst)).getD 0) undef) w' inv.below).at (j := i) (o := o) ((htake i hin).trans ho) (fun j hj => by
      obtain ⟨o', ho', e, he, hb, hon⟩ := Region.waitsFor_spec hj
      rw [Nat.zero_add] at ho'
      obtain rfl : o' = o := Option.some.inj (ho'.symm.trans ho)
      have hlt : j < n := by have := hback e he hb; omega
      obtain ⟨oj, dj, hoj, hdj, _⟩ := hop j hlt
      have h1 := hdeps e he hb
      rw [hon] at h1
      have := inv.rel j oj hlt hoj h1
      simpa [hoj, hdj] using this)
    rw [hframe listed a' w' inv, hd, Nat.zero_add] at hstep
    refine wpOp_of_rel ho hd (by rw [inv.size, hsz]; exact hdm) hstep fun v w'' hv hb => ?_
    have hbelow : Below w.heap.size w w'' := inv.below.trans (hb.mono inv.below.size)
    refine ih _ _ _ ⟨inv.head.set hi hin, ?_, ?_, fun t ht => ?_, hbelow, fun j oj hj hoj hl => ?_, fun p q op oq hp hq hpq hop' hoq hlp hlq => ?_⟩ ?_
    · rw [← inv.size]; simp [Act.put]
    · rw [← inv.defers]; rfl
    · rw [put_getD_ne (fun e => ht i o hin ho (hd.trans e))]
      exact inv.off t ht
    · by_cases hij : j = i
      · subst hij
        obtain rfl : oj = o := Option.some.inj (hoj.symm.trans ho)
        rw [hd]
        simp only [Option.getD_some]
        rw [put_getD (by rw [inv.size, hsz]; exact hdm), if_pos rfl]
        exact hv.1
      · rw [getD_set_ne false (fun e => hij e.symm)] at hl
        have h1 := inv.rel j oj hj hoj hl
        obtain ⟨oj', dj, hoj', hdj, _⟩ := hop j hj
        obtain rfl : oj' = oj := Option.some.inj (hoj'.symm.trans hoj)
        rw [hdj] at h1 ⊢
        simp only [Option.getD_some] at h1 ⊢
        rw [put_getD_ne (fun e => hij (hdist j i oj' o dj hj hin hoj ho hdj (hd ▸ e)))]
        exact hR j _ _ _ hb h1
    · have hsl : (a'.put (some d) v).tmps.getD d undef = v := by rw [put_getD (by rw [inv.size, hsz]; exact hdm), if_pos rfl]
      have hso : ∀ j oj, j < n → ops[j]? = some oj → j ≠ i → (a'.put (some d) v).tmps.getD (oj.dst.getD 0) undef = a'.tmps.getD (oj.dst.getD 0) undef := fun j oj hj hoj hji => by
        obtain ⟨oj', dj, hoj', hdj, _⟩ := hop j hj
        obtain rfl : oj' = oj := Option.some.inj (hoj'.symm.trans hoj)
        rw [hdj]
        exact put_getD_ne (fun e => hji (hdist j i oj' o dj hj hin hoj ho hdj (hd ▸ e)))
      by_cases hpi : p = i
      · subst hpi
        obtain rfl : op = o := Option.some.inj (hop'.symm.trans ho)
        rw [hso q oq hq hoq (fun e => hpq e.symm)]
        rw [hd, Option.getD_some, hsl]
        rw [getD_set_ne false hpq] at hlq
        exact (hv.2 q _ (inv.rel q oq hq hoq hlq)).1
      · by_cases hqi : q = i
        · subst hqi
          obtain rfl : oq = o := Option.some.inj (hoq.symm.trans ho)
          rw [hso p op hp hop' hpi]
          rw [hd, Option.getD_some, hsl]
          rw [getD_set_ne false (fun e => hpi e.symm)] at hlp
          exact (hv.2 p _ (inv.rel p op hp hop' hlp)).2
        · rw [hso p op hp hop' hpi, hso q oq hq hoq hqi]
          rw [getD_set_ne false (fun e => hpi e.symm)] at hlp
          rw [getD_set_ne false (fun e => hqi e.symm)] at hlq
          exact inv.apart p q op oq hp hq hpq hop' hoq hlp hlq
    · have := Region.open_set hun n
      rw [if_pos hin] at this
      omega
theorem wp_region_rel {id : Nat} {Q : Exit → Act → World → Prop} {a : Act} {w : World} {l : List Oper} (n m : Nat) (R : Nat → Value → World → Prop) (D : Nat → Nat → Value → Value → Prop) (hm : P.follows .mixedOrders = true) (hB : Region.relB .any l.toArray n m = true) (hsz : a.tmps.size = m)
    (hR : ∀ i v X Y, Below X.heap.size X Y → R i v X → R i v Y)
    (h : ∀ vals w', Below w.heap.size w w' → RelSteps P .any l.toArray R D vals w' (putAll (l.take n) 0 vals a) (l.take n) 0)
    (hend : ∀ vals w', Below w.heap.size w w' → (∀ j, j < n → R j (vals j) w') → (∀ i j, i < n → j < n → i ≠ j → D i j (vals i) (vals j)) → wpList P l.toArray Q (l.drop n) (putAll (l.take n) 0 vals a) w') : (Code.region id l.toArray true).wp P Q a w := by
  have hn : n ≤ l.toArray.size := by
    simp only [Region.relB, Bool.and_eq_true, decide_eq_true_eq] at hB
    exact hB.1.1.1
  refine wp_region_any hm ?_
  have hd : Below w.heap.size w { w with drawn := w.drawn + 1 } := (Below.refl _ _).drew
  have := wpAny_of_rel (P := P) (md := .any) (ops := l.toArray) (n := n) (m := m) (g := l.toArray.size - n) (R := R) (D := D) (a := a) (w := w) (Q := Q) (by omega) hB hsz hR h hend n (Array.replicate l.toArray.size false) a _
    ⟨⟨by simp, fun j oj _ hl => (by rw [getD_replicate_false] at hl; cases hl), fun t _ ht => getD_in (by simpa using ht) (getD_replicate_false _ _)⟩, rfl, rfl, fun _ _ => rfl, hd, fun j o _ _ hl => (by rw [getD_replicate_false] at hl; cases hl), fun _ _ _ _ _ _ _ _ _ hl => (by rw [getD_replicate_false] at hl; cases hl)⟩ (Region.open_start _ n hn)
  rwa [show n + (l.toArray.size - n) = l.toArray.size by omega] at this
end
end Go
namespace Go.Proofs.YteflfnjljjianaaGreatDoor.Qx
open Go.RowKit Go.Proofs.YteflfnjljjianaaGreatDoorW.PrintWords Go.Proofs.YteflfnjljjianaaGreatDoorW.PrintLast Go.Proofs.YteflfnjljjianaaGreatDoorW.PrintMore
attribute [local go_sem] max2_int min2_int max_two min_two
set_option linter.unusedVariables false
set_option linter.unusedSimpArgs false
def til40 : ByteArray := ⟨#[126, 126, 126, 126, 126, 126, 126, 126, 126, 126, 126, 126, 126, 126, 126, 126, 126, 126, 126, 126, 126, 126, 126, 126, 126, 126, 126, 126, 126, 126, 126, 126, 126, 126, 126, 126, 126, 126, 126, 126]⟩
def zero82 : Array Value := #[.int .i64 0, .bool false, .int .i64 0, .int .i64 0, .string ⟨#[]⟩, .int .i64 0, .int .i64 0, .string ⟨#[]⟩, .int .i64 0]
set_option maxRecDepth 100000 in
set_option maxHeartbeats 4000000 in
theorem chapmanref32_Open.ex (w : World) : Calls Tryz.prog 39 #[.agg #[.int .i64 3, .int .i64 0, .bool true]] w fun e w' => e = .returned (.agg #[.int .i64 1, .bool true, .int .i64 3, .int .i64 0, .string ⟨#[]⟩, .int .i64 3, .int .i64 0, .string til40, .int .i64 0]) ∧ Below w.heap.size w w' := by
  have hu63 := Tryz.underlying63
  have hu82 := Tryz.underlying82
  have hu35 := Tryz.underlying35
  go_enter Tryz.func39, Tryz.ntmps39
  go_wp2_with fail
  have E1 := blk_alloc (heap_alloc_new w (.cells #[.int .i64 3, .int .i64 0, .bool true] 63)) (.cells zero82 82)
  have E2 := heap_alloc_new (w.alloc (.cells #[.int .i64 3, .int .i64 0, .bool true] 63)) (.cells zero82 82)
  have hB := below_alloc (below_alloc (Below.refl w.heap.size w) (.cells #[.int .i64 3, .int .i64 0, .bool true] 63)) (.cells zero82 82)
  simp only [World.size_alloc] at E2
  simp only [zero82] at E1 E2 hB
  generalize (w.alloc (.cells #[.int .i64 3, .int .i64 0, .bool true] 63)).alloc (.cells #[.int .i64 0, .bool false, .int .i64 0, .int .i64 0, .string ⟨#[]⟩, .int .i64 0, .int .i64 0, .string ⟨#[]⟩, .int .i64 0] 82) = W at *
  have HB := Lib.hid hB
  have H1 := Lib.hid E1
  have H2 := Lib.hid E2
  clear hB E1 E2
  refine (chapmanref06_Str.calls ⟨#[]⟩ _ _ _ _ rfl).mono ?_
  rintro e w1 ⟨rfl, hb⟩
  replace HB := Lib.hid (below_step HB.out hb)
  replace H1 := Lib.hid (blk_below H1.out hb)
  replace H2 := Lib.hid (blk_below H2.out hb)
  clear hb W
  go_wp2_with fail
  refine (chapmanref32_filled.calls 100 ⟨#[]⟩ til40 _ (by kernel_rfl)).mono ?_
  rintro e w2 ⟨rfl, hd⟩
  obtain ⟨n2, rfl⟩ := hd.out
  go_wp2_with fail
  refine (chapmanref06_Str.calls til40 _ _ _ _ rfl).mono ?_
  rintro e w3 ⟨rfl, hb⟩
  have HBx := HB
  replace HB := Lib.hid (below_alloc (below_step (pw_below_drewN HB.out n2) hb) (.cells #[.int .i64 0, .bool true, .int .i64 3, .int .i64 0, .string ⟨#[]⟩, .int .i64 3, .int .i64 0, .string til40, .int .i64 0] 82))
  have E1 := blk_alloc (blk_below (blk_drewN H1.out n2) hb) (.cells #[.int .i64 0, .bool true, .int .i64 3, .int .i64 0, .string ⟨#[]⟩, .int .i64 3, .int .i64 0, .string til40, .int .i64 0] 82)
  have E2 := blk_alloc (blk_below (blk_drewN H2.out n2) hb) (.cells #[.int .i64 0, .bool true, .int .i64 3, .int .i64 0, .string ⟨#[]⟩, .int .i64 3, .int .i64 0, .string til40, .int .i64 0] 82)
  have E3 := heap_alloc_new w3 (.cells #[.int .i64 0, .bool true, .int .i64 3, .int .i64 0, .string ⟨#[]⟩, .int .i64 3, .int .i64 0, .string til40, .int .i64 0] 82)
  have HB1 := Lib.hid (below_alloc (below_step (pw_below_drewN HBx.out n2) hb) (.cells #[.int .i64 1, .bool true, .int .i64 3, .int .i64 0, .string ⟨#[]⟩, .int .i64 3, .int .i64 0, .string til40, .int .i64 0] 82))
  have hlt : w.heap.size + 1 < w3.heap.size := blk_lt (blk_below (blk_drewN H2.out n2) hb)
  have E4 := blk_alloc (blk_below (blk_drewN H2.out n2) hb) (.cells #[.int .i64 1, .bool true, .int .i64 3, .int .i64 0, .string ⟨#[]⟩, .int .i64 3, .int .i64 0, .string til40, .int .i64 0] 82)
  have E5 := blk_alloc (blk_below (blk_drewN H1.out n2) hb) (.cells #[.int .i64 1, .bool true, .int .i64 3, .int .i64 0, .string ⟨#[]⟩, .int .i64 3, .int .i64 0, .string til40, .int .i64 0] 82)
  clear hb hd H1 H2 HBx w1
  have hne : w3.heap.size ≠ w.heap.size + 1 := by omega
  have hne' : w.heap.size + 1 ≠ w3.heap.size := by omega
  have hne2 : w3.heap.size ≠ w.heap.size := by omega
  have k0 : (w3.alloc (.cells #[.int .i64 0, .bool true, .int .i64 3, .int .i64 0, .string ⟨#[]⟩, .int .i64 3, .int .i64 0, .string til40, .int .i64 0] 82)).cell? ⟨w.heap.size, 0, none⟩ = some (.int .i64 3) := (blk_cell E1 0).trans rfl
  have k1 : (w3.alloc (.cells #[.int .i64 0, .bool true, .int .i64 3, .int .i64 0, .string ⟨#[]⟩, .int .i64 3, .int .i64 0, .string til40, .int .i64 0] 82)).cell? ⟨w.heap.size, 1, none⟩ = some (.int .i64 0) := (blk_cell E1 1).trans rfl
  have k2 : (w3.alloc (.cells #[.int .i64 0, .bool true, .int .i64 3, .int .i64 0, .string ⟨#[]⟩, .int .i64 3, .int .i64 0, .string til40, .int .i64 0] 82)).cell? ⟨w.heap.size, 2, none⟩ = some (.bool true) := (blk_cell E1 2).trans rfl
  have m0 : (w3.alloc (.cells #[.int .i64 1, .bool true, .int .i64 3, .int .i64 0, .string ⟨#[]⟩, .int .i64 3, .int .i64 0, .string til40, .int .i64 0] 82)).cell? ⟨w.heap.size + 1, 0, none⟩ = some (.int .i64 0) := (blk_cell E4 0).trans rfl
  have f0 := blk_frozen E4 0
  have m1 : (w3.alloc (.cells #[.int .i64 1, .bool true, .int .i64 3, .int .i64 0, .string ⟨#[]⟩, .int .i64 3, .int .i64 0, .string til40, .int .i64 0] 82)).cell? ⟨w.heap.size + 1, 1, none⟩ = some (.bool false) := (blk_cell E4 1).trans rfl
  have f1 := blk_frozen E4 1
  have m2 : (w3.alloc (.cells #[.int .i64 1, .bool true, .int .i64 3, .int .i64 0, .string ⟨#[]⟩, .int .i64 3, .int .i64 0, .string til40, .int .i64 0] 82)).cell? ⟨w.heap.size + 1, 2, none⟩ = some (.int .i64 0) := (blk_cell E4 2).trans rfl
  have f2 := blk_frozen E4 2
  have m3 : (w3.alloc (.cells #[.int .i64 1, .bool true, .int .i64 3, .int .i64 0, .string ⟨#[]⟩, .int .i64 3, .int .i64 0, .string til40, .int .i64 0] 82)).cell? ⟨w.heap.size + 1, 3, none⟩ = some (.int .i64 0) := (blk_cell E4 3).trans rfl
  have f3 := blk_frozen E4 3
  have m4 : (w3.alloc (.cells #[.int .i64 1, .bool true, .int .i64 3, .int .i64 0, .string ⟨#[]⟩, .int .i64 3, .int .i64 0, .string til40, .int .i64 0] 82)).cell? ⟨w.heap.size + 1, 4, none⟩ = some (.string ⟨#[]⟩) := (blk_cell E4 4).trans rfl
  have f4 := blk_frozen E4 4
  have m5 : (w3.alloc (.cells #[.int .i64 1, .bool true, .int .i64 3, .int .i64 0, .string ⟨#[]⟩, .int .i64 3, .int .i64 0, .string til40, .int .i64 0] 82)).cell? ⟨w.heap.size + 1, 5, none⟩ = some (.int .i64 0) := (blk_cell E4 5).trans rfl
  have f5 := blk_frozen E4 5
  have m6 : (w3.alloc (.cells #[.int .i64 1, .bool true, .int .i64 3, .int .i64 0, .string ⟨#[]⟩, .int .i64 3, .int .i64 0, .string til40, .int .i64 0] 82)).cell? ⟨w.heap.size + 1, 6, none⟩ = some (.int .i64 0) := (blk_cell E4 6).trans rfl
  have f6 := blk_frozen E4 6
  have m7 : (w3.alloc (.cells #[.int .i64 1, .bool true, .int .i64 3, .int .i64 0, .string ⟨#[]⟩, .int .i64 3, .int .i64 0, .string til40, .int .i64 0] 82)).cell? ⟨w.heap.size + 1, 7, none⟩ = some (.string ⟨#[]⟩) := (blk_cell E4 7).trans rfl
  have f7 := blk_frozen E4 7
  have m8 : (w3.alloc (.cells #[.int .i64 1, .bool true, .int .i64 3, .int .i64 0, .string ⟨#[]⟩, .int .i64 3, .int .i64 0, .string til40, .int .i64 0] 82)).cell? ⟨w.heap.size + 1, 8, none⟩ = some (.int .i64 0) := (blk_cell E4 8).trans rfl
  have f8 := blk_frozen E4 8
  have H4 := Lib.hid E4
  have HS := Lib.hid (Nat.le_of_lt (Nat.lt_of_succ_lt hlt))
  clear E1 E2 E3 E4 E5 hlt HB
  go_wp2_with fail
  refine bodyPost_ret (results_cell_row rfl _ _ (w.heap.size + 1) 82 #[.int .i64 1, .bool true, .int .i64 3, .int .i64 0, .string ⟨#[]⟩, .int .i64 3, .int .i64 0, .string til40, .int .i64 0] (0, 0) _ rfl (by refine blk_put (cs := #[.int .i64 1, .bool true, .int .i64 3, .int .i64 0, .string ⟨#[]⟩, .int .i64 3, .int .i64 0, .string til40, .int .i64 0]) ?_ 8 _ rfl; refine blk_put (cs := #[.int .i64 1, .bool true, .int .i64 3, .int .i64 0, .string ⟨#[]⟩, .int .i64 3, .int .i64 0, .string ⟨#[]⟩, .int .i64 0]) ?_ 7 _ rfl; refine blk_put (cs := #[.int .i64 1, .bool true, .int .i64 3, .int .i64 0, .string ⟨#[]⟩, .int .i64 3, .int .i64 0, .string ⟨#[]⟩, .int .i64 0]) ?_ 6 _ rfl; refine blk_put (cs := #[.int .i64 1, .bool true, .int .i64 3, .int .i64 0, .string ⟨#[]⟩, .int .i64 0, .int .i64 0, .string ⟨#[]⟩, .int .i64 0]) ?_ 5 _ rfl; refine blk_put (cs := #[.int .i64 1, .bool true, .int .i64 3, .int .i64 0, .string ⟨#[]⟩, .int .i64 0, .int .i64 0, .string ⟨#[]⟩, .int .i64 0]) ?_ 4 _ rfl; refine blk_put (cs := #[.int .i64 1, .bool true, .int .i64 3, .int .i64 0, .string ⟨#[]⟩, .int .i64 0, .int .i64 0, .string ⟨#[]⟩, .int .i64 0]) ?_ 3 _ rfl; refine blk_put (cs := #[.int .i64 1, .bool true, .int .i64 0, .int .i64 0, .string ⟨#[]⟩, .int .i64 0, .int .i64 0, .string ⟨#[]⟩, .int .i64 0]) ?_ 2 _ rfl; refine blk_put (cs := #[.int .i64 1, .bool false, .int .i64 0, .int .i64 0, .string ⟨#[]⟩, .int .i64 0, .int .i64 0, .string ⟨#[]⟩, .int .i64 0]) ?_ 1 _ rfl; refine blk_put (cs := #[.int .i64 0, .bool false, .int .i64 0, .int .i64 0, .string ⟨#[]⟩, .int .i64 0, .int .i64 0, .string ⟨#[]⟩, .int .i64 0]) ?_ 0 _ rfl; exact H4.out) hu82 rfl (by kernel_rfl)) rfl ⟨rfl, ?_⟩
  repeat (with_reducible first | refine below_set ?_ (by omega))
  exact HB1.out
end Go.Proofs.YteflfnjljjianaaGreatDoor.Qx
namespace Go.Proofs.YteflfnjljjianaaGreatDoor.Qx
open Go.RowKit Go.Proofs.YteflfnjljjianaaGreatDoorW.PrintWords Go.Proofs.YteflfnjljjianaaGreatDoorW.PrintLast Go.Proofs.YteflfnjljjianaaGreatDoorW.PrintMore
attribute [local go_sem] max2_int min2_int max_two min_two
set_option linter.unusedVariables false
set_option linter.unusedSimpArgs false
def exT : List S63 := [⟨2, 1, false⟩, ⟨3, 0, true⟩]
def exR : List S35 := [⟨2, -500000, ⟨#[]⟩⟩, ⟨3, 0, ⟨#[97, 98, 99]⟩⟩]
theorem ex_valid1 : partition_Valid.f exT 3 0 10000000 = some true := by kernel_rfl
theorem ex_valid2 : partition_Valid.f exT 3 0 0 = some false := by kernel_rfl
theorem ex_of1 : partition_Of.f 100 3 0 10000000 exR = some (2, -10000000, ⟨#[]⟩) := by kernel_rfl
theorem ex_of2 : partition_Of.f 100 3 1 2 exR = some (3, 0, ⟨#[97, 98]⟩) := by kernel_rfl
theorem ex_of3 : partition_Of.f 100 0 0 0 exR = some (0, 0, ⟨#[]⟩) := by kernel_rfl
theorem ex_poss1 : partition_Possible.f 100 exT 3 1 2 0 0 ⟨#[]⟩ = some true := by kernel_rfl
theorem ex_poss2 : partition_Possible.f 100 exT 3 0 10000000 0 0 ⟨#[]⟩ = some false := by kernel_rfl
theorem ex_w (x y : Int) (h : wrap64 (x * 1000000) = y) : chapmanref06_Whole.f x = some (2, y, ⟨#[]⟩) := by rw [← h]; rfl
theorem ex_ne1 (w : World) : (binOp BinOp.neq 35 (.agg #[.int .i64 2, .int .i64 (-10000000), .string ⟨#[]⟩]) (.agg #[.int .i64 2, .int .i64 (-10000000), .string ⟨#[]⟩])).run Tryz.prog w = .ok (.bool false) w := by kernel_rfl
theorem ex_ne2 (w : World) : (binOp BinOp.neq 35 (.agg #[.int .i64 3, .int .i64 0, .string ⟨#[97, 98]⟩]) (.agg #[.int .i64 3, .int .i64 0, .string ⟨#[97, 98]⟩])).run Tryz.prog w = .ok (.bool false) w := by kernel_rfl
theorem ex_ne3 (w : World) : (binOp BinOp.neq 35 (.agg #[.int .i64 0, .int .i64 0, .string ⟨#[]⟩]) (.agg #[.int .i64 0, .int .i64 0, .string ⟨#[]⟩])).run Tryz.prog w = .ok (.bool false) w := by kernel_rfl
def RowsK {α : Type} (d : Kd α) (w : World) : List α → List (List Value) → Prop
  | [], [] => True
  | x :: xs, c :: cs => (c.length = d.sz ∧ d.K w x c) ∧ RowsK d w xs cs
  | _, _ => False
theorem RowsK.get {α : Type} {d : Kd α} {w : World} : ∀ {xs : List α} {cs : List (List Value)}, RowsK d w xs cs → ∀ {j : Nat} {x : α}, xs[j]? = some x → ∃ c, c.length = d.sz ∧ d.K w x c ∧ ∀ i u, c[i]? = some u → cs.flatten[j * d.sz + i]? = some u
  | [], [], _, j, x, hj => by simp at hj
  | y :: ys, c :: cs, h, 0, x, hj => by
    obtain rfl : y = x := by simpa using hj
    refine ⟨c, h.1.1, h.1.2, fun i u hu => ?_⟩
    have hi := (List.getElem?_eq_some_iff.1 hu).1
    simp only [List.flatten_cons, Nat.zero_mul, Nat.zero_add]
    rw [List.getElem?_append_left hi]
    exact hu
  | y :: ys, c :: cs, h, j + 1, x, hj => by
    obtain ⟨c', h1, h2, h3⟩ := RowsK.get h.2 (j := j) (x := x) (by simpa using hj)
    refine ⟨c', h1, h2, fun i u hu => ?_⟩
    simp only [List.flatten_cons]
    rw [List.getElem?_append_right (by rw [h.1.1, Nat.add_mul]; omega), h.1.1, show (j + 1) * d.sz + i - d.sz = j * d.sz + i by rw [Nat.add_mul]; omega]
    exact h3 i u hu
  | [], _ :: _, h, _, _, _ => h.elim
  | _ :: _, [], h, _, _, _ => h.elim
theorem C_rows {α : Type} (d : Kd α) {w : World} {g t : Nat} {xs : List α} {cs : List (List Value)} (h : w.heap[g]? = some (.cells cs.flatten.toArray t (0, 0))) (hK : RowsK d w xs cs) (hm : xs.length ≤ 9223372036854775807) : Kd.C d w (some ⟨g, 0, none⟩) xs.length xs := by
  refine ⟨rfl, hm, fun _ => ⟨⟨g, 0, none⟩, rfl, fun j p hp => ?_⟩⟩
  obtain ⟨c, h1, h2, h3⟩ := hK.get hp
  refine ⟨c, h1, h2, fun i u hu => ?_⟩
  have := blk_cell h (j * d.sz + i)
  have e : (⟨g, 0, none⟩ : Addr).add (j * d.sz + i) = ⟨g, j * d.sz + i, none⟩ := by
    unfold Addr.add
    split
    · rename_i h0; rw [h0]
    · simp
  rw [e, this]
  simpa using h3 i u hu
def ExW (b : Nat) (X : World) : Prop :=
  X.heap[b]? = some (.cells #[.int .i64 2, .int .i64 1, .bool false, .int .i64 3, .int .i64 0, .bool true] 63 (0, 0)) ∧ X.heap[b + 1]? = some (.cells #[.int .i64 3, .int .i64 0, .int .i64 10000000] 27 (0, 0)) ∧ X.heap[b + 1 + 1]? = some (.cells #[.int .i64 3, .int .i64 1, .int .i64 2] 27 (0, 0)) ∧ Laid X
theorem ExW.below {b : Nat} {X Y : World} (h : ExW b X) (hb : Below X.heap.size X Y) : ExW b Y := ⟨blk_below h.1 hb, blk_below h.2.1 hb, blk_below h.2.2.1 hb, h.2.2.2.below hb⟩
theorem ExW.types {b : Nat} {X : World} (h : ExW b X) : Kd.C k63 X (some ⟨b, 0, none⟩) exT.length exT :=
  C_rows k63 (cs := [[.int .i64 2, .int .i64 1, .bool false], [.int .i64 3, .int .i64 0, .bool true]]) h.1 ⟨⟨rfl, k63_mk X ⟨2, 1, false⟩⟩, ⟨rfl, k63_mk X ⟨3, 0, true⟩⟩, trivial⟩ (by decide)
theorem ExW.ten {b : Nat} {X : World} (h : ExW b X) : X.cell? ⟨b + 1, 0, none⟩ = some (.int .i64 3) ∧ X.cell? ⟨b + 1, 1, none⟩ = some (.int .i64 0) ∧ X.cell? ⟨b + 1, 2, none⟩ = some (.int .i64 10000000) :=
  ⟨(blk_cell h.2.1 0).trans rfl, (blk_cell h.2.1 1).trans rfl, (blk_cell h.2.1 2).trans rfl⟩
theorem ExW.two {b : Nat} {X : World} (h : ExW b X) : X.cell? ⟨b + 1 + 1, 0, none⟩ = some (.int .i64 3) ∧ X.cell? ⟨b + 1 + 1, 1, none⟩ = some (.int .i64 1) ∧ X.cell? ⟨b + 1 + 1, 2, none⟩ = some (.int .i64 2) :=
  ⟨(blk_cell h.2.2.1 0).trans rfl, (blk_cell h.2.2.1 1).trans rfl, (blk_cell h.2.2.1 2).trans rfl⟩
def ExR (b g : Nat) (X : World) : Prop := ExW b X ∧ X.heap[g]? = some (.cells #[.int .i64 2, .int .i64 (-500000), .string ⟨#[]⟩, .int .i64 3, .int .i64 0, .string ⟨#[97, 98, 99]⟩] 35 (0, 0))
theorem ExR.below {b g : Nat} {X Y : World} (h : ExR b g X) (hb : Below X.heap.size X Y) : ExR b g Y := ⟨h.1.below hb, blk_below h.2 hb⟩
theorem ExR.row {b g : Nat} {X : World} (h : ExR b g X) : Kd.C k35 X (some ⟨g, 0, none⟩) exR.length exR :=
  C_rows k35 (cs := [[.int .i64 2, .int .i64 (-500000), .string ⟨#[]⟩], [.int .i64 3, .int .i64 0, .string ⟨#[97, 98, 99]⟩]]) h.2 ⟨⟨rfl, k35_mk X ⟨2, -500000, ⟨#[]⟩⟩⟩, ⟨rfl, k35_mk X ⟨3, 0, ⟨#[97, 98, 99]⟩⟩⟩, trivial⟩ (by decide)
def exL1 : List S82 := [⟨0, true, ⟨2, 10000000, ⟨#[]⟩⟩, ⟨2, 19999999, ⟨#[]⟩⟩, 0⟩, ⟨1, true, ⟨3, 0, ⟨#[]⟩⟩, ⟨3, 0, ⟨#[126, 126, 126, 126, 126, 126, 126, 126, 126, 126, 126, 126, 126, 126, 126, 126, 126, 126, 126, 126, 126, 126, 126, 126, 126, 126, 126, 126, 126, 126, 126, 126, 126, 126, 126, 126, 126, 126, 126, 126]⟩⟩, 0⟩]
def exL2 : List S82 := [⟨0, true, ⟨2, -4000000000000000000, ⟨#[]⟩⟩, ⟨2, 4000000000000000000, ⟨#[]⟩⟩, 0⟩, ⟨0, true, ⟨3, 0, ⟨#[97]⟩⟩, ⟨3, 0, ⟨#[97]⟩⟩, 0⟩]
theorem ex_b1 : partition_Bounds.f 100 exT 3 0 10000000 2 10000000 ⟨#[]⟩ = some (exL1, 0) := by kernel_rfl
theorem ex_b2 : partition_Bounds.f 100 exT 3 1 2 3 0 ⟨#[97]⟩ = some (exL2, 0) := by kernel_rfl
theorem ex_b3 : partition_Bounds.f 100 exT 3 0 10000000 2 1000000 ⟨#[]⟩ = some ([], 320) := by kernel_rfl
def AtBlk (N : Nat) (t : TypeId) (cs : Array Value) (v : Value) (X : World) : Prop := ∃ a, v = .pointer (some ⟨a, 0, none⟩) ∧ N ≤ a ∧ X.heap[a]? = some (.cells cs t (0, 0))
theorem AtBlk.below {N : Nat} {t : TypeId} {cs : Array Value} {v : Value} {X Y : World} (h : AtBlk N t cs v X) (hb : Below X.heap.size X Y) : AtBlk N t cs v Y := h.imp fun _ h => ⟨h.1, h.2.1, blk_below h.2.2 hb⟩
def BdL (L : List S82) (e0 : Int) (v : Value) (X : World) : Prop := ∃ g c, v = .agg #[.slice (some ⟨g, 0, none⟩) L.length c, .int .i64 e0] ∧ L.length ≤ c ∧ RowL X g L
theorem BdL.below {L : List S82} {e0 : Int} {v : Value} {X Y : World} (h : BdL L e0 v X) (hb : Below X.heap.size X Y) : BdL L e0 v Y := by
  obtain ⟨g, c, h1, h2, h3⟩ := h
  exact ⟨g, c, h1, h2, blk_below h3 hb⟩
theorem BdL.mk {L : List S82} {e0 : Int} {A : Option Addr} {c : Nat} {X : World} (hL : L ≠ []) (hc : L.length ≤ c) (h : LiesL X A L) : BdL L e0 (.agg #[.slice A L.length c, .int .i64 e0]) X := by
  rcases h with h | ⟨g, rfl, h⟩
  · exact absurd h hL
  · exact ⟨g, c, rfl, hc, h⟩
def exRel6 (b : Nat) (i : Nat) (v : Value) (X : World) : Prop := match i with
  | 0 => v = .slice (some ⟨b, 0, none⟩) 2 2
  | 1 => v = .agg #[.int .i64 3, .int .i64 0, .int .i64 10000000]
  | 2 => v = .agg #[.int .i64 2, .int .i64 10000000, .string ⟨#[]⟩]
  | 3 => BdL exL1 0 v X
  | 4 => v = .slice (some ⟨b, 0, none⟩) 2 2
  | 5 => v = .agg #[.int .i64 3, .int .i64 1, .int .i64 2]
  | 6 => v = .agg #[.int .i64 3, .int .i64 0, .string ⟨#[97]⟩]
  | 7 => BdL exL2 0 v X
  | 8 => AtBlk b 56 #[.slice none 0 0, .int .i64 0] v X
  | 9 => AtBlk b 56 #[.slice none 0 0, .int .i64 0] v X
  | _ => True
theorem exRel6.stable (b : Nat) : ∀ i v X Y, Below X.heap.size X Y → exRel6 b i v X → exRel6 b i v Y := by
  intro i v X Y hb h
  match i, h with
  | 0, h => exact h
  | 1, h => exact h
  | 2, h => exact h
  | 3, h => exact BdL.below h hb
  | 4, h => exact h
  | 5, h => exact h
  | 6, h => exact h
  | 7, h => exact BdL.below h hb
  | 8, h => exact AtBlk.below h hb
  | 9, h => exact AtBlk.below h hb
  | i + 10, _ => exact trivial
def exApart6 (i j : Nat) (v u : Value) : Prop := i = 8 → j = 9 → v ≠ u
def exApart6' (i j : Nat) (v u : Value) : Prop := exApart6 i j v u ∧ exApart6 j i u v
theorem ex6_none {b k : Nat} {v : Value} {w : World} (h8 : k ≠ 8) (h9 : k ≠ 9) : ∀ j u, exRel6 b j u w → exApart6' k j v u ∧ exApart6' j k u v := fun _ _ _ => ⟨⟨fun h => absurd h h8, fun _ h => absurd h h9⟩, ⟨fun _ h => absurd h h9, fun h => absurd h h8⟩⟩
theorem ex6_new {b k : Nat} {w : World} (hk : k = 8 ∨ k = 9) : ∀ j u, exRel6 b j u w → exApart6' k j (.pointer (some ⟨w.heap.size, 0, none⟩)) u ∧ exApart6' j k u (.pointer (some ⟨w.heap.size, 0, none⟩)) := by
  intro j u h
  have key : j = 8 ∨ j = 9 → Value.pointer (some ⟨w.heap.size, 0, none⟩) ≠ u := by
    intro hj
    have h' : AtBlk b 56 #[.slice none 0 0, .int .i64 0] u w := by
      rcases hj with rfl | rfl
      · exact h
      · exact h
    obtain ⟨a, rfl, _, ha⟩ := h'
    have := blk_lt ha
    intro e
    injection e with e
    injection e with e
    injection e with e
    omega
  refine ⟨⟨fun _ hj => key (.inr hj), fun hj _ => (key (.inl hj)).symm⟩, ⟨fun hj _ => (key (.inl hj)).symm, fun _ hj => key (.inr hj)⟩⟩
theorem Laid.far {X : World} (h : Laid X) {p : Addr} (hp : 2 < p.block) (u : Value) : Laid (X.setCell p u) :=
  ⟨fun i hi => (World.cell?_of_block (w := X) (a := ⟨1, i, none⟩) (Below.heap_setCell X p u 1 (by omega))).trans (h.v i hi), fun i hi => (World.cell?_of_block (w := X) (a := ⟨2, i, none⟩) (Below.heap_setCell X p u 2 (by omega))).trans (h.d i hi)⟩
def ExB (b g a5 g1 c1 a6 g2 c2 : Nat) (X : World) : Prop :=
  ExR b g X ∧ X.heap[a5]? = some (.cells #[.slice (some ⟨g1, 0, none⟩) 2 c1, .int .i64 0] 56 (0, 0)) ∧ RowL X g1 exL1 ∧ X.heap[a6]? = some (.cells #[.slice (some ⟨g2, 0, none⟩) 2 c2, .int .i64 0] 56 (0, 0)) ∧ RowL X g2 exL2 ∧ 2 ≤ c1 ∧ 2 ≤ c2
theorem ExB.below {b g a5 g1 c1 a6 g2 c2 : Nat} {X Y : World} (h : ExB b g a5 g1 c1 a6 g2 c2 X) (hb : Below X.heap.size X Y) : ExB b g a5 g1 c1 a6 g2 c2 Y := by
  obtain ⟨h1, h2, h3, h4, h5, h6⟩ := h
  exact ⟨h1.below hb, blk_below h2 hb, blk_below h3 hb, blk_below h4 hb, blk_below h5 hb, h6⟩
theorem ExW.far {b : Nat} {X : World} (h : ExW b X) {a i : Nat} {cs : Array Value} (ha : X.heap[a]? = some (.cells cs 56 (0, 0))) (h2 : 2 < a) (u : Value) : ExW b (X.setCell ⟨a, i, none⟩ u) :=
  ⟨blk_far h.1 (blk_ne h.1 ha (by decide)) u, blk_far h.2.1 (blk_ne h.2.1 ha (by decide)) u, blk_far h.2.2.1 (blk_ne h.2.2.1 ha (by decide)) u, h.2.2.2.far h2 u⟩
theorem ExR.far {b g : Nat} {X : World} (h : ExR b g X) {a i : Nat} {cs : Array Value} (ha : X.heap[a]? = some (.cells cs 56 (0, 0))) (h2 : 2 < a) (u : Value) : ExR b g (X.setCell ⟨a, i, none⟩ u) :=
  ⟨h.1.far ha h2 u, blk_far h.2 (blk_ne h.2 ha (by decide)) u⟩
theorem RowL.far56 {g : Nat} {L : List S82} {X : World} (h : RowL X g L) {a i : Nat} {cs : Array Value} (ha : X.heap[a]? = some (.cells cs 56 (0, 0))) (u : Value) : RowL (X.setCell ⟨a, i, none⟩ u) g L :=
  blk_far h (blk_ne h ha (by decide)) u
theorem ExB.mk {b g a5 g1 c1 a6 g2 c2 : Nat} {X : World} (h : ExR b g X) (h5 : X.heap[a5]? = some (.cells #[.slice none 0 0, .int .i64 0] 56 (0, 0))) (h6 : X.heap[a6]? = some (.cells #[.slice none 0 0, .int .i64 0] 56 (0, 0))) (hne : a5 ≠ a6) (h52 : 2 < a5) (h62 : 2 < a6) (r1 : RowL X g1 exL1) (r2 : RowL X g2 exL2) (k1 : 2 ≤ c1) (k2 : 2 ≤ c2) :
    ExB b g a5 g1 c1 a6 g2 c2 ((((X.setCell ⟨a5, 0, none⟩ (.slice (some ⟨g1, 0, none⟩) 2 c1)).setCell ⟨a5, 1, none⟩ (.int .i64 0)).setCell ⟨a6, 0, none⟩ (.slice (some ⟨g2, 0, none⟩) 2 c2)).setCell ⟨a6, 1, none⟩ (.int .i64 0)) := by
  have p1 := blk_put h5 0 (.slice (some ⟨g1, 0, none⟩) 2 c1) rfl
  have p2 := blk_put p1 1 (.int .i64 0) rfl
  have q1 := blk_far h6 (p := ⟨a5, 0, none⟩) (fun e => hne e.symm) (.slice (some ⟨g1, 0, none⟩) 2 c1)
  have q2 := blk_far q1 (p := ⟨a5, 1, none⟩) (fun e => hne e.symm) (.int .i64 0)
  have q3 := blk_put q2 0 (.slice (some ⟨g2, 0, none⟩) 2 c2) rfl
  have q4 := blk_put q3 1 (.int .i64 0) rfl
  have p3 := blk_far p2 (p := ⟨a6, 0, none⟩) hne (.slice (some ⟨g2, 0, none⟩) 2 c2)
  have p4 := blk_far p3 (p := ⟨a6, 1, none⟩) hne (.int .i64 0)
  exact ⟨(((h.far h5 h52 _).far p1 h52 _).far q2 h62 _).far q3 h62 _, p4, (((r1.far56 h5 _).far56 p1 _).far56 q2 _).far56 q3 _, q4, (((r2.far56 h5 _).far56 p1 _).far56 q2 _).far56 q3 _, k1, k2⟩
theorem ExB.cells {b g a5 g1 c1 a6 g2 c2 : Nat} {X : World} (h : ExB b g a5 g1 c1 a6 g2 c2 X) : X.cell? ⟨a5, 0, none⟩ = some (.slice (some ⟨g1, 0, none⟩) 2 c1) ∧ X.cell? ⟨a5, 1, none⟩ = some (.int .i64 0) ∧ X.cell? ⟨a6, 0, none⟩ = some (.slice (some ⟨g2, 0, none⟩) 2 c2) ∧ X.cell? ⟨a6, 1, none⟩ = some (.int .i64 0) ∧
    X.cell? ⟨b, 3, none⟩ = some (.int .i64 3) ∧ X.cell? ⟨b, 4, none⟩ = some (.int .i64 0) ∧ X.cell? ⟨b, 5, none⟩ = some (.bool true) :=
  ⟨(blk_cell h.2.1 0).trans rfl, (blk_cell h.2.1 1).trans rfl, (blk_cell h.2.2.2.1 0).trans rfl, (blk_cell h.2.2.2.1 1).trans rfl, (blk_cell h.1.1.1 3).trans rfl, (blk_cell h.1.1.1 4).trans rfl, (blk_cell h.1.1.1 5).trans rfl⟩
theorem ExB.row2 {b g a5 g1 c1 a6 g2 c2 : Nat} {X : World} (h : ExB b g a5 g1 c1 a6 g2 c2 X) : X.cell? ⟨g2, 9, none⟩ = some (.int .i64 0) ∧ X.cell? ⟨g2, 10, none⟩ = some (.bool true) ∧ X.cell? ⟨g2, 11, none⟩ = some (.int .i64 3) ∧ X.cell? ⟨g2, 12, none⟩ = some (.int .i64 0) ∧ X.cell? ⟨g2, 13, none⟩ = some (.string ⟨#[97]⟩) ∧
    X.cell? ⟨g2, 14, none⟩ = some (.int .i64 3) ∧ X.cell? ⟨g2, 15, none⟩ = some (.int .i64 0) ∧ X.cell? ⟨g2, 16, none⟩ = some (.string ⟨#[97]⟩) ∧ X.cell? ⟨g2, 17, none⟩ = some (.int .i64 0) :=
  have k := h.2.2.2.2.1
  ⟨(blk_cell k 9).trans rfl, (blk_cell k 10).trans rfl, (blk_cell k 11).trans rfl, (blk_cell k 12).trans rfl, (blk_cell k 13).trans rfl, (blk_cell k 14).trans rfl, (blk_cell k 15).trans rfl, (blk_cell k 16).trans rfl, (blk_cell k 17).trans rfl⟩
def RowAt (L : List S82) (v : Value) (X : World) : Prop := ∃ g, v = .slice (some ⟨g, 0, none⟩) L.length L.length ∧ RowL X g L
theorem RowAt.below {L : List S82} {v : Value} {X Y : World} (h : RowAt L v X) (hb : Below X.heap.size X Y) : RowAt L v Y := h.imp fun _ h => ⟨h.1, blk_below h.2 hb⟩
def NoBd (v : Value) : Prop := ∃ A c, v = .agg #[.slice A 0 c, .int .i64 320]
theorem ex_sameb : chapmanref32_SameBounds.f 100 exL1 exL1 = some true := by kernel_rfl
theorem ex_fld (A : Option Addr) (c : Nat) (w : World) : (Instr.field 56 (.agg #[.slice A 0 c, .int .i64 320]) 1).run Tryz.prog w = .ok (.int .i64 320) w := by kernel_rfl
theorem ex_ne4 (w : World) : (binOp BinOp.neq 82 (.agg #[.int .i64 0, .bool true, .int .i64 3, .int .i64 0, .string ⟨#[97]⟩, .int .i64 3, .int .i64 0, .string ⟨#[97]⟩, .int .i64 0]) (.agg #[.int .i64 0, .bool true, .int .i64 3, .int .i64 0, .string ⟨#[97]⟩, .int .i64 3, .int .i64 0, .string ⟨#[97]⟩, .int .i64 0])).run Tryz.prog w = .ok (.bool false) w := by kernel_rfl
def exRel7 (b a5 g1 c1 a6 g2 c2 : Nat) (i : Nat) (v : Value) (X : World) : Prop := match i with
  | 0 => v = .pointer (some ⟨a5, 1, none⟩)
  | 1 => v = .int .i64 0
  | 2 => v = .bool false
  | 3 => v = .bool false
  | 4 => v = .pointer (some ⟨a6, 1, none⟩)
  | 5 => v = .int .i64 0
  | 6 => v = .bool false
  | 7 => v = .bool false
  | 8 => v = .bool false
  | 9 => v = .pointer (some ⟨a5, 0, none⟩)
  | 10 => v = .slice (some ⟨g1, 0, none⟩) 2 c1
  | 11 => v = .agg #[.int .i64 2, .int .i64 10000000, .string ⟨#[]⟩]
  | 12 => v = .agg #[.int .i64 2, .int .i64 19999999, .string ⟨#[]⟩]
  | 13 => v = .agg #[.int .i64 0, .bool true, .int .i64 2, .int .i64 10000000, .string ⟨#[]⟩, .int .i64 2, .int .i64 19999999, .string ⟨#[]⟩, .int .i64 0]
  | 14 => v = .slice (some ⟨b, 0, none⟩) 2 2
  | 15 => v = .pointer (some ⟨b, 3, none⟩)
  | 16 => v = .agg #[.int .i64 3, .int .i64 0, .bool true]
  | 17 => v = .agg #[.int .i64 1, .bool true, .int .i64 3, .int .i64 0, .string ⟨#[]⟩, .int .i64 3, .int .i64 0, .string til40, .int .i64 0]
  | 18 => RowAt exL1 v X
  | 19 => v = .bool true
  | 20 => v = .bool false
  | 21 => v = .bool false
  | 22 => v = .bool false
  | 23 => v = .pointer (some ⟨a6, 0, none⟩)
  | 24 => v = .slice (some ⟨g2, 0, none⟩) 2 c2
  | 25 => v = .int .i64 2
  | 26 => v = .bool false
  | 27 => v = .bool false
  | 28 => v = .bool false
  | 29 => v = .pointer (some ⟨a6, 0, none⟩)
  | 30 => v = .slice (some ⟨g2, 0, none⟩) 2 c2
  | 31 => v = .pointer (some ⟨g2, 9, none⟩)
  | 32 => v = .agg #[.int .i64 0, .bool true, .int .i64 3, .int .i64 0, .string ⟨#[97]⟩, .int .i64 3, .int .i64 0, .string ⟨#[97]⟩, .int .i64 0]
  | 33 => v = .agg #[.int .i64 3, .int .i64 0, .string ⟨#[97]⟩]
  | 34 => v = .agg #[.int .i64 3, .int .i64 0, .string ⟨#[97]⟩]
  | 35 => v = .agg #[.int .i64 0, .bool true, .int .i64 3, .int .i64 0, .string ⟨#[97]⟩, .int .i64 3, .int .i64 0, .string ⟨#[97]⟩, .int .i64 0]
  | 36 => v = .bool false
  | 37 => v = .bool false
  | 38 => v = .bool false
  | 39 => v = .slice (some ⟨b, 0, none⟩) 2 2
  | 40 => v = .agg #[.int .i64 3, .int .i64 0, .int .i64 10000000]
  | 41 => v = .agg #[.int .i64 2, .int .i64 1000000, .string ⟨#[]⟩]
  | 42 => NoBd v
  | 43 => v = .int .i64 320
  | 44 => v = .bool false
  | 45 => v = .bool false
  | _ => True
theorem exRel7.stable (b a5 g1 c1 a6 g2 c2 : Nat) : ∀ i v X Y, Below X.heap.size X Y → exRel7 b a5 g1 c1 a6 g2 c2 i v X → exRel7 b a5 g1 c1 a6 g2 c2 i v Y := by
  intro i v X Y hb h
  match i, h with
  | 0, h => exact h
  | 1, h => exact h
  | 2, h => exact h
  | 3, h => exact h
  | 4, h => exact h
  | 5, h => exact h
  | 6, h => exact h
  | 7, h => exact h
  | 8, h => exact h
  | 9, h => exact h
  | 10, h => exact h
  | 11, h => exact h
  | 12, h => exact h
  | 13, h => exact h
  | 14, h => exact h
  | 15, h => exact h
  | 16, h => exact h
  | 17, h => exact h
  | 18, h => exact RowAt.below h hb
  | 19, h => exact h
  | 20, h => exact h
  | 21, h => exact h
  | 22, h => exact h
  | 23, h => exact h
  | 24, h => exact h
  | 25, h => exact h
  | 26, h => exact h
  | 27, h => exact h
  | 28, h => exact h
  | 29, h => exact h
  | 30, h => exact h
  | 31, h => exact h
  | 32, h => exact h
  | 33, h => exact h
  | 34, h => exact h
  | 35, h => exact h
  | 36, h => exact h
  | 37, h => exact h
  | 38, h => exact h
  | 39, h => exact h
  | 40, h => exact h
  | 41, h => exact h
  | 42, h => exact h
  | 43, h => exact h
  | 44, h => exact h
  | 45, h => exact h
  | i + 46, _ => exact trivial
def exRa : List S35 := [⟨2, 12000000, ⟨#[]⟩⟩, ⟨0, 0, ⟨#[]⟩⟩]
def exRb : List S35 := [⟨2, 19000000, ⟨#[]⟩⟩, ⟨0, 0, ⟨#[]⟩⟩]
def exSs : List S35 := [⟨2, -10000000, ⟨#[]⟩⟩, ⟨2, 10000000, ⟨#[]⟩⟩]
def exGs : List (List Int) := [[1], [0, 2]]
def exPs : List S35 := [⟨2, 10000000, ⟨#[]⟩⟩, ⟨2, -10000000, ⟨#[]⟩⟩, ⟨2, 10000000, ⟨#[]⟩⟩]
theorem exOf : ∀ j, j < [exRa, exR, exRb].length → partition_Of.f 100 3 0 10000000 ([exRa, exR, exRb].getD j []) = some ((exPs.getD j z35).f0, (exPs.getD j z35).f1, (exPs.getD j z35).f2)
  | 0, _ => by kernel_rfl
  | 1, _ => by kernel_rfl
  | 2, _ => by kernel_rfl
theorem exOk : ∀ p ∈ exPs, OkKey p := by
  intro p hp
  simp only [exPs, List.mem_cons, List.not_mem_nil, or_false] at hp
  rcases hp with rfl | rfl | rfl <;> exact ⟨by decide, by decide, by decide⟩
theorem ex_grp : grpFrom [] 0 exPs = [(⟨2, 10000000, ⟨#[]⟩⟩, [0, 2]), (⟨2, -10000000, ⟨#[]⟩⟩, [1])] := by kernel_rfl
theorem ex_ids : exSs.map (idsOf (grpFrom [] 0 exPs)) = exGs := by kernel_rfl
theorem ex_sorted0 {ss : List S35} (hp : ss.Perm [⟨2, 10000000, ⟨#[]⟩⟩, ⟨2, -10000000, ⟨#[]⟩⟩]) (hw : ss.Pairwise vlt) : ss = exSs := by
  have hl := hp.length_eq
  match ss, hl with
  | [x, y], _ =>
    have hx : x ∈ [(⟨2, 10000000, ⟨#[]⟩⟩ : S35), ⟨2, -10000000, ⟨#[]⟩⟩] := hp.mem_iff.1 (by simp)
    have hy : y ∈ [(⟨2, 10000000, ⟨#[]⟩⟩ : S35), ⟨2, -10000000, ⟨#[]⟩⟩] := hp.mem_iff.1 (by simp)
    have hv : vlt x y := by simpa using hw
    simp only [List.mem_cons, List.not_mem_nil, or_false] at hx hy
    rcases hx with rfl | rfl <;> rcases hy with rfl | rfl
    · exfalso; simp [vlt] at hv
    · exfalso; simp [vlt] at hv
    · rfl
    · exfalso; simp [vlt] at hv
theorem ex_sorted {ss : List S35} (hp : ss.Perm ((grpFrom [] 0 exPs).map (·.1))) (hw : ss.Pairwise vlt) : ss = exSs := ex_sorted0 (by rw [ex_grp] at hp; exact hp) hw
theorem ex_same : ∀ x ∈ exSs, chapmanref06_Cmp.f 100 x.f0 x.f1 x.f2 x.f0 x.f1 x.f2 = some 0 := by
  intro x hx
  simp only [exSs, List.mem_cons, List.not_mem_nil, or_false] at hx
  rcases hx with rfl | rfl <;> kernel_rfl
theorem ex_never1 : partition_Never.f0 100 100 exT 3 0 10000000 2 10000000 ⟨#[]⟩ 0 ⟨2, 20000000, ⟨#[]⟩⟩ = some true := by kernel_rfl
theorem ex_never2 : partition_Never.f0 100 100 exT 3 0 10000000 2 20000000 ⟨#[]⟩ 0 ⟨2, 20000000, ⟨#[]⟩⟩ = some false := by kernel_rfl
def KRow {α : Type} (d : Kd α) (xs : List α) (v : Value) (X : World) : Prop := ∃ A c, v = .slice A xs.length c ∧ xs.length ≤ c ∧ Kd.C d X A xs.length xs
theorem KRow.below {α : Type} {d : Kd α} {xs : List α} {v : Value} {X Y : World} (h : KRow d xs v X) (hb : Below X.heap.size X Y) : KRow d xs v Y := by
  obtain ⟨A, c, h1, h2, h3⟩ := h
  exact ⟨A, c, h1, h2, Kd.C_below h3 hb⟩
theorem KRow.new35 {α : Type} {d : Kd α} {xs : List α} {cs : List (List Value)} {X : World} {g t : Nat} (h : X.heap[g]? = some (.cells cs.flatten.toArray t (0, 0))) (hK : RowsK d X xs cs) (hm : xs.length ≤ 9223372036854775807) : KRow d xs (.slice (some ⟨g, 0, none⟩) xs.length xs.length) X :=
  ⟨_, _, rfl, Nat.le_refl _, C_rows d h hK hm⟩
def GrpV (ss : List S35) (gs : List (List Int)) (v : Value) (X : World) : Prop := ∃ A c A' c', v = .agg #[.slice A ss.length c, .slice A' gs.length c'] ∧ Kd.C k35 X A ss.length ss ∧ ss.length ≤ c ∧ Kd.C (Kd.slice 3 (Kd.int .i64)) X A' gs.length gs ∧ gs.length ≤ c'
theorem GrpV.below {ss : List S35} {gs : List (List Int)} {v : Value} {X Y : World} (h : GrpV ss gs v X) (hb : Below X.heap.size X Y) : GrpV ss gs v Y := by
  obtain ⟨A, c, A', c', h1, h2, h3, h4, h5⟩ := h
  exact ⟨A, c, A', c', h1, Kd.C_below h2 hb, h3, Kd.C_below h4 hb, h5⟩
theorem C_far_cell {α : Type} {d : Kd α} {X : World} {A : Option Addr} {n : Nat} {xs : List α} {p : Addr} (u : Value) (h : Kd.C d X A n xs) (hd : ∀ x ∈ xs, ∀ cs, d.K X x cs → d.K (X.setCell p u) x cs ∧ ∀ v ∈ cs, X.cell? p ≠ some v) : Kd.C d (X.setCell p u) A n xs := by
  obtain ⟨h1, h2, h3⟩ := h
  refine ⟨h1, h2, fun hn => ?_⟩
  obtain ⟨ad, e, h⟩ := h3 hn
  refine ⟨ad, e, fun j x hx => ?_⟩
  obtain ⟨c, hc, hK, hr⟩ := h j x hx
  obtain ⟨k1, k2⟩ := hd x (List.mem_of_getElem? hx) c hK
  refine ⟨c, hc, k1, fun i v hv => ?_⟩
  rw [World.cell?_setCell_other _ _ _ _ (fun e => k2 v (List.mem_of_getElem? hv) (by rw [e]; exact hr i v hv))]
  exact hr i v hv
theorem C35_far0 {X : World} {A : Option Addr} {n : Nat} {xs : List S35} {p : Addr} (hp : X.cell? p = some (.slice none 0 0)) (u : Value) (h : Kd.C k35 X A n xs) : Kd.C k35 (X.setCell p u) A n xs :=
  C_far_cell u h fun x _ cs hK => by
    obtain rfl := k35_open hK
    refine ⟨k35_mk _ x, fun v hv => ?_⟩
    rw [hp]
    simp only [List.mem_cons, List.not_mem_nil, or_false] at hv
    rcases hv with rfl | rfl | rfl <;> (intro e; cases e)
theorem Cint_far0 {X : World} {A : Option Addr} {n : Nat} {xs : List Int} {p : Addr} (hp : X.cell? p = some (.slice none 0 0)) (u : Value) (h : Kd.C (Kd.int .i64) X A n xs) : Kd.C (Kd.int .i64) (X.setCell p u) A n xs :=
  C_far_cell u h fun x _ cs hK => ⟨hK, fun v hv => by
    have e : cs = [.int .i64 x] := hK
    subst e
    rw [hp]
    simp only [List.mem_cons, List.not_mem_nil, or_false] at hv
    subst hv
    intro e; cases e⟩
theorem Cints_far0 {X : World} {A : Option Addr} {n : Nat} {xs : List (List Int)} {p : Addr} (hp : X.cell? p = some (.slice none 0 0)) (u : Value) (h : Kd.C (Kd.slice 3 (Kd.int .i64)) X A n xs) (hne : ∀ x ∈ xs, x ≠ []) : Kd.C (Kd.slice 3 (Kd.int .i64)) (X.setCell p u) A n xs :=
  C_far_cell u h fun x hx cs hK => by
    obtain ⟨A, c, rfl, hl, hC⟩ := hK
    refine ⟨⟨A, c, rfl, hl, Cint_far0 hp u hC⟩, fun v hv => ?_⟩
    rw [hp]
    simp only [List.mem_cons, List.not_mem_nil, or_false] at hv
    subst hv
    intro e
    injection e with e
    injection e with _ e
    have := hne x hx
    exact this (List.eq_nil_of_length_eq_zero e.symm)
theorem ExW.far49 {b : Nat} {X : World} (h : ExW b X) {a i : Nat} {cs : Array Value} (ha : X.heap[a]? = some (.cells cs 49 (0, 0))) (h2 : 2 < a) (u : Value) : ExW b (X.setCell ⟨a, i, none⟩ u) :=
  ⟨blk_far h.1 (blk_ne h.1 ha (by decide)) u, blk_far h.2.1 (blk_ne h.2.1 ha (by decide)) u, blk_far h.2.2.1 (blk_ne h.2.2.1 ha (by decide)) u, h.2.2.2.far h2 u⟩
theorem ExR.far49 {b g : Nat} {X : World} (h : ExR b g X) {a i : Nat} {cs : Array Value} (ha : X.heap[a]? = some (.cells cs 49 (0, 0))) (h2 : 2 < a) (u : Value) : ExR b g (X.setCell ⟨a, i, none⟩ u) :=
  ⟨h.1.far49 ha h2 u, blk_far h.2 (blk_ne h.2 ha (by decide)) u⟩
def ExG0 (b g a7 : Nat) (A : Option Addr) (c : Nat) (A' : Option Addr) (c' : Nat) (X : World) : Prop :=
  ExR b g X ∧ X.heap[a7]? = some (.cells #[.slice A 2 c, .slice A' 2 c'] 49 (0, 0)) ∧ Kd.C k35 X A 2 exSs ∧ 2 ≤ c ∧ Kd.C (Kd.slice 3 (Kd.int .i64)) X A' 2 exGs ∧ 2 ≤ c'
theorem ExG0.below {b g a7 : Nat} {A : Option Addr} {c : Nat} {A' : Option Addr} {c' : Nat} {X Y : World} (h : ExG0 b g a7 A c A' c' X) (hb : Below X.heap.size X Y) : ExG0 b g a7 A c A' c' Y :=
  ⟨h.1.below hb, blk_below h.2.1 hb, Kd.C_below h.2.2.1 hb, h.2.2.2.1, Kd.C_below h.2.2.2.2.1 hb, h.2.2.2.2.2⟩
theorem ExG0.mk {b g a7 : Nat} {A : Option Addr} {c : Nat} {A' : Option Addr} {c' : Nat} {X : World} (h : ExR b g X) (h7 : X.heap[a7]? = some (.cells #[.slice none 0 0, .slice none 0 0] 49 (0, 0))) (h2 : 2 < a7) (q : Kd.C k35 X A 2 exSs) (l : 2 ≤ c) (q' : Kd.C (Kd.slice 3 (Kd.int .i64)) X A' 2 exGs) (l' : 2 ≤ c') :
    ExG0 b g a7 A c A' c' ((X.setCell ⟨a7, 0, none⟩ (.slice A 2 c)).setCell ⟨a7, 1, none⟩ (.slice A' 2 c')) := by
  have hne : ∀ x ∈ exGs, x ≠ [] := by decide
  have z0 : X.cell? ⟨a7, 0, none⟩ = some (.slice none 0 0) := (blk_cell h7 0).trans rfl
  have p1 := blk_put h7 0 (.slice A 2 c) rfl
  have z1 : (X.setCell ⟨a7, 0, none⟩ (.slice A 2 c)).cell? ⟨a7, 1, none⟩ = some (.slice none 0 0) := (blk_cell p1 1).trans rfl
  have p2 := blk_put p1 1 (.slice A' 2 c') rfl
  exact ⟨(h.far49 h7 h2 _).far49 p1 h2 _, p2, C35_far0 z1 _ (C35_far0 z0 _ q), l, Cints_far0 z1 _ (Cints_far0 z0 _ q' hne) hne, l'⟩
def ExG (b g a7 : Nat) (A : Option Addr) (c : Nat) (A' : Option Addr) (c' : Nat) (a8 : Nat) (A8 : Option Addr) (m8 : Nat) (X : World) : Prop :=
  ExR b g X ∧ X.heap[a7]? = some (.cells #[.slice A 2 c, .slice A' 2 c'] 49 (0, 0)) ∧ Kd.C k35 X A 2 exSs ∧ 2 ≤ c ∧ Kd.C (Kd.slice 3 (Kd.int .i64)) X A' 2 exGs ∧ 2 ≤ c' ∧
    X.heap[a8]? = some (.cells #[.int .i64 3, .int .i64 0, .int .i64 0, .int .i64 0, .string ⟨#[]⟩, .slice A8 2 m8] 38 (0, 0)) ∧ Kd.V k38 38 X X.heap.size (fun _ => True) (.slice A8 2 m8) [⟨2, 0, ⟨0, 0, ⟨#[]⟩⟩, []⟩, ⟨1, 0, ⟨2, 20000000, ⟨#[]⟩⟩, []⟩]
theorem ExG.below {b g a7 : Nat} {A : Option Addr} {c : Nat} {A' : Option Addr} {c' a8 : Nat} {A8 : Option Addr} {m8 : Nat} {X Y : World} (h : ExG b g a7 A c A' c' a8 A8 m8 X) (hb : Below X.heap.size X Y) : ExG b g a7 A c A' c' a8 A8 m8 Y :=
  ⟨h.1.below hb, blk_below h.2.1 hb, Kd.C_below h.2.2.1 hb, h.2.2.2.1, Kd.C_below h.2.2.2.2.1 hb, h.2.2.2.2.2.1, blk_below h.2.2.2.2.2.2.1 hb, Kd.V_map h.2.2.2.2.2.2.2 (fun _ hf => Kd.F_below hf hb)⟩
theorem ExG.cells {b g a7 : Nat} {A : Option Addr} {c : Nat} {A' : Option Addr} {c' a8 : Nat} {A8 : Option Addr} {m8 : Nat} {X : World} (h : ExG b g a7 A c A' c' a8 A8 m8 X) : X.cell? ⟨a7, 0, none⟩ = some (.slice A 2 c) ∧ X.cell? ⟨a7, 1, none⟩ = some (.slice A' 2 c') ∧
    X.cell? ⟨a8, 0, none⟩ = some (.int .i64 3) ∧ X.cell? ⟨a8, 1, none⟩ = some (.int .i64 0) ∧ X.cell? ⟨a8, 2, none⟩ = some (.int .i64 0) ∧ X.cell? ⟨a8, 3, none⟩ = some (.int .i64 0) ∧ X.cell? ⟨a8, 4, none⟩ = some (.string ⟨#[]⟩) ∧ X.cell? ⟨a8, 5, none⟩ = some (.slice A8 2 m8) :=
  have k := h.2.2.2.2.2.2.1
  ⟨(blk_cell h.2.1 0).trans rfl, (blk_cell h.2.1 1).trans rfl, (blk_cell k 0).trans rfl, (blk_cell k 1).trans rfl, (blk_cell k 2).trans rfl, (blk_cell k 3).trans rfl, (blk_cell k 4).trans rfl, (blk_cell k 5).trans rfl⟩
def exRel9 (b g : Nat) (i : Nat) (v : Value) (X : World) : Prop := match i with
  | 0 => v = .agg #[.int .i64 3, .int .i64 0, .int .i64 10000000]
  | 1 => v = .agg #[.int .i64 2, .int .i64 12000000, .string ⟨#[]⟩]
  | 2 => v = .agg #[.int .i64 0, .int .i64 0, .string ⟨#[]⟩]
  | 3 => KRow k35 exRa v X
  | 4 => v = .slice (some ⟨g, 0, none⟩) 2 2
  | 5 => v = .agg #[.int .i64 2, .int .i64 19000000, .string ⟨#[]⟩]
  | 6 => v = .agg #[.int .i64 0, .int .i64 0, .string ⟨#[]⟩]
  | 7 => KRow k35 exRb v X
  | 8 => KRow (Kd.slice 35 k35) [exRa, exR, exRb] v X
  | 9 => GrpV exSs exGs v X
  | 10 => AtBlk b 49 #[.slice none 0 0, .slice none 0 0] v X
  | _ => True
theorem exRel9.stable (b g : Nat) : ∀ i v X Y, Below X.heap.size X Y → exRel9 b g i v X → exRel9 b g i v Y := by
  intro i v X Y hb h
  match i, h with
  | 0, h => exact h
  | 1, h => exact h
  | 2, h => exact h
  | 3, h => exact KRow.below h hb
  | 4, h => exact h
  | 5, h => exact h
  | 6, h => exact h
  | 7, h => exact KRow.below h hb
  | 8, h => exact KRow.below h hb
  | 9, h => exact GrpV.below h hb
  | 10, h => exact AtBlk.below h hb
  | i + 11, _ => exact trivial
def exRel11 (b g : Nat) (A9 : Option Addr) (k9 : Nat) (A9' : Option Addr) (k9' : Nat) (A8 : Option Addr) (m8 : Nat) (i : Nat) (v : Value) (X : World) : Prop := match i with
  | 0 => v = .agg #[.slice A9 2 k9, .slice A9' 2 k9']
  | 1 => v = .agg #[.int .i64 2, .int .i64 (-10000000), .string ⟨#[]⟩]
  | 2 => v = .agg #[.int .i64 2, .int .i64 10000000, .string ⟨#[]⟩]
  | 3 => KRow k35 exSs v X
  | 4 => KRow (Kd.int .i64) [1] v X
  | 5 => KRow (Kd.int .i64) [0, 2] v X
  | 6 => KRow (Kd.slice 3 (Kd.int .i64)) exGs v X
  | 7 => GrpV exSs exGs v X
  | 8 => v = .bool true
  | 9 => v = .bool true
  | 10 => v = .slice (some ⟨b, 0, none⟩) 2 2
  | 11 => v = .agg #[.int .i64 3, .int .i64 1, .int .i64 2]
  | 12 => v = .agg #[.int .i64 0, .int .i64 0, .string ⟨#[]⟩]
  | 13 => v = .bool true
  | 14 => v = .bool true
  | 15 => v = .bool true
  | 16 => v = .slice (some ⟨b, 0, none⟩) 2 2
  | 17 => v = .agg #[.int .i64 3, .int .i64 0, .int .i64 10000000]
  | 18 => v = .agg #[.int .i64 0, .int .i64 0, .string ⟨#[]⟩]
  | 19 => v = .bool false
  | 20 => v = .bool true
  | 21 => v = .bool true
  | 22 => v = .bool true
  | 23 => v = .slice (some ⟨b, 0, none⟩) 2 2
  | 24 => v = .agg #[.int .i64 3, .int .i64 0, .int .i64 10000000]
  | 25 => v = .agg #[.int .i64 2, .int .i64 10000000, .string ⟨#[]⟩]
  | 26 => v = .agg #[.int .i64 3, .int .i64 0, .int .i64 0, .int .i64 0, .string ⟨#[]⟩, .slice A8 2 m8]
  | 27 => v = .agg #[.int .i64 3, .int .i64 0, .int .i64 10000000, .int .i64 2, .int .i64 10000000, .string ⟨#[]⟩, .int .i64 3, .int .i64 0, .int .i64 0, .int .i64 0, .string ⟨#[]⟩, .slice A8 2 m8]
  | 28 => v = .bool true
  | 29 => v = .bool true
  | 30 => v = .bool true
  | 31 => v = .slice (some ⟨b, 0, none⟩) 2 2
  | 32 => v = .agg #[.int .i64 3, .int .i64 0, .int .i64 10000000]
  | 33 => v = .agg #[.int .i64 2, .int .i64 20000000, .string ⟨#[]⟩]
  | 34 => v = .agg #[.int .i64 3, .int .i64 0, .int .i64 0, .int .i64 0, .string ⟨#[]⟩, .slice A8 2 m8]
  | 35 => v = .agg #[.int .i64 3, .int .i64 0, .int .i64 10000000, .int .i64 2, .int .i64 20000000, .string ⟨#[]⟩, .int .i64 3, .int .i64 0, .int .i64 0, .int .i64 0, .string ⟨#[]⟩, .slice A8 2 m8]
  | 36 => v = .bool false
  | 37 => v = .bool true
  | 38 => v = .bool true
  | 39 => v = .bool true
  | _ => True
theorem exRel11.stable (b g : Nat) (A9 : Option Addr) (k9 : Nat) (A9' : Option Addr) (k9' : Nat) (A8 : Option Addr) (m8 : Nat) : ∀ i v X Y, Below X.heap.size X Y → exRel11 b g A9 k9 A9' k9' A8 m8 i v X → exRel11 b g A9 k9 A9' k9' A8 m8 i v Y := by
  intro i v X Y hb h
  match i, h with
  | 0, h => exact h
  | 1, h => exact h
  | 2, h => exact h
  | 3, h => exact KRow.below h hb
  | 4, h => exact KRow.below h hb
  | 5, h => exact KRow.below h hb
  | 6, h => exact KRow.below h hb
  | 7, h => exact GrpV.below h hb
  | 8, h => exact h
  | 9, h => exact h
  | 10, h => exact h
  | 11, h => exact h
  | 12, h => exact h
  | 13, h => exact h
  | 14, h => exact h
  | 15, h => exact h
  | 16, h => exact h
  | 17, h => exact h
  | 18, h => exact h
  | 19, h => exact h
  | 20, h => exact h
  | 21, h => exact h
  | 22, h => exact h
  | 23, h => exact h
  | 24, h => exact h
  | 25, h => exact h
  | 26, h => exact h
  | 27, h => exact h
  | 28, h => exact h
  | 29, h => exact h
  | 30, h => exact h
  | 31, h => exact h
  | 32, h => exact h
  | 33, h => exact h
  | 34, h => exact h
  | 35, h => exact h
  | 36, h => exact h
  | 37, h => exact h
  | 38, h => exact h
  | 39, h => exact h
  | i + 40, _ => exact trivial
set_option maxRecDepth 100000 in
set_option maxHeartbeats 4000000 in
theorem chapmanlaw32_examples.calls (w : World) (hG : Laid w) :
    Calls Tryz.prog 8 #[] w fun e w' => e = .returned (.bool true) ∧ Below w.heap.size w w' := by
  have hu27 := Tryz.underlying27
  have hu25 := Tryz.underlying25
  have hu63 := Tryz.underlying63
  have hu35 := Tryz.underlying35
  have hu28 := Tryz.underlying28
  have n1 := ex_ne1
  have n2 := ex_ne2
  have n3 := ex_ne3
  have n4 := ex_ne4
  have n5 := ex_fld
  have hu56 := Tryz.underlying56
  have hu49 := Tryz.underlying49
  have hu38 := Tryz.underlying38
  have hu61 := Tryz.underlying61
  have HGl := Lib.hid hG
  have HG2 := Lib.hid hG
  clear hG
  go_enter Tryz.func8, Tryz.ntmps8
  go_wp2_with fail
  have E0 := blk_alloc (blk_alloc (heap_alloc_new w (.cells #[.int .i64 2, .int .i64 1, .bool false, .int .i64 3, .int .i64 0, .bool true] 63)) (.cells #[.int .i64 3, .int .i64 0, .int .i64 10000000] 27)) (.cells #[.int .i64 3, .int .i64 1, .int .i64 2] 27)
  have E1 := blk_alloc (heap_alloc_new (w.alloc (.cells #[.int .i64 2, .int .i64 1, .bool false, .int .i64 3, .int .i64 0, .bool true] 63)) (.cells #[.int .i64 3, .int .i64 0, .int .i64 10000000] 27)) (.cells #[.int .i64 3, .int .i64 1, .int .i64 2] 27)
  have E2 := heap_alloc_new ((w.alloc (.cells #[.int .i64 2, .int .i64 1, .bool false, .int .i64 3, .int .i64 0, .bool true] 63)).alloc (.cells #[.int .i64 3, .int .i64 0, .int .i64 10000000] 27)) (.cells #[.int .i64 3, .int .i64 1, .int .i64 2] 27)
  have hB := below_alloc (below_alloc (below_alloc (Below.refl w.heap.size w) (.cells #[.int .i64 2, .int .i64 1, .bool false, .int .i64 3, .int .i64 0, .bool true] 63)) (.cells #[.int .i64 3, .int .i64 0, .int .i64 10000000] 27)) (.cells #[.int .i64 3, .int .i64 1, .int .i64 2] 27)
  simp only [World.size_alloc] at E1 E2
  generalize ((w.alloc (.cells #[.int .i64 2, .int .i64 1, .bool false, .int .i64 3, .int .i64 0, .bool true] 63)).alloc (.cells #[.int .i64 3, .int .i64 0, .int .i64 10000000] 27)).alloc (.cells #[.int .i64 3, .int .i64 1, .int .i64 2] 27) = W at *
  have hW : ExW w.heap.size W := ⟨E0, E1, E2, HGl.out.below hB⟩
  clear E0 E1 E2 HGl
  have HW := Lib.hid hW
  have HB := Lib.hid hB
  clear hW hB
  refine (chapmanref06_Num.calls _ _ _ _ _ rfl).mono ?_
  rintro e w1 ⟨rfl, hb⟩
  replace HW := Lib.hid (HW.out.below hb)
  replace HB := Lib.hid (below_step HB.out hb)
  clear hb
  clear W
  go_wp2_with fail
  refine (chapmanref06_Str.calls _ _ _ _ _ rfl).mono ?_
  rintro e w2 ⟨rfl, hb⟩
  replace HW := Lib.hid (HW.out.below hb)
  replace HB := Lib.hid (below_step HB.out hb)
  clear hb
  clear w1
  have hR : ExR w.heap.size w2.heap.size (w2.alloc (.cells #[.int .i64 2, .int .i64 (-500000), .string ⟨#[]⟩, .int .i64 3, .int .i64 0, .string ⟨#[97, 98, 99]⟩] 35)) := ⟨HW.out.below (below_alloc (Below.refl _ _) _), heap_alloc_new _ _⟩
  replace HB := Lib.hid (below_alloc HB.out (.cells #[.int .i64 2, .int .i64 (-500000), .string ⟨#[]⟩, .int .i64 3, .int .i64 0, .string ⟨#[97, 98, 99]⟩] 35))
  obtain ⟨c0, c1, c2⟩ := hR.1.ten
  have HR := Lib.hid hR
  clear hR HW
  go_wp2_with fail
  generalize w2.alloc (.cells #[.int .i64 2, .int .i64 (-500000), .string ⟨#[]⟩, .int .i64 3, .int .i64 0, .string ⟨#[97, 98, 99]⟩] 35) = V at *
  generalize w2.heap.size = g at *
  clear w2
  refine (partition_Valid.calls (some ⟨w.heap.size, 0, none⟩) 2 exT 3 0 10000000 true _ HR.out.1.types (by decide) ex_valid1).mono ?_
  rintro e w3 ⟨rfl, hb⟩
  replace HR := Lib.hid (HR.out.below hb)
  replace HB := Lib.hid (below_step HB.out hb)
  clear hb
  clear c0 c1 c2
  clear V
  go_wp2_with fail
  refine (partition_Valid.calls (some ⟨w.heap.size, 0, none⟩) 2 exT 3 0 0 false _ HR.out.1.types (by decide) ex_valid2).mono ?_
  rintro e w4 ⟨rfl, hb⟩
  replace HR := Lib.hid (HR.out.below hb)
  replace HB := Lib.hid (below_step HB.out hb)
  clear hb
  clear w3
  obtain ⟨c0, c1, c2⟩ := HR.out.1.ten
  go_wp2_with fail
  refine (partition_Of.calls 100 3 0 10000000 (some ⟨g, 0, none⟩) 2 exR _ _ _ _ HR.out.row (by decide) ex_of1).mono ?_
  rintro e w5 ⟨rfl, hb⟩
  replace HR := Lib.hid (HR.out.below hb)
  replace HB := Lib.hid (below_step HB.out hb)
  clear hb
  clear c0 c1 c2
  clear w4
  go_wp2_with fail
  refine (chapmanref06_Whole.calls (-10) _ _ _ _ (ex_w (-10) (-10000000) (by kernel_rfl))).mono ?_
  rintro e w6 ⟨rfl, hb⟩
  replace HR := Lib.hid (HR.out.below hb)
  replace HB := Lib.hid (below_step HB.out hb)
  clear hb
  clear w5
  obtain ⟨d0, d1, d2⟩ := HR.out.1.two
  go_wp2_with fail
  refine (partition_Of.calls 100 3 1 2 (some ⟨g, 0, none⟩) 2 exR _ _ _ _ HR.out.row (by decide) ex_of2).mono ?_
  rintro e w7 ⟨rfl, hb⟩
  replace HR := Lib.hid (HR.out.below hb)
  replace HB := Lib.hid (below_step HB.out hb)
  clear hb
  clear d0 d1 d2
  clear w6
  go_wp2_with fail
  refine (chapmanref06_Str.calls _ _ _ _ _ rfl).mono ?_
  rintro e w8 ⟨rfl, hb⟩
  replace HR := Lib.hid (HR.out.below hb)
  replace HB := Lib.hid (below_step HB.out hb)
  clear hb
  clear w7
  go_wp2_with fail
  refine (partition_Of.calls 100 0 0 0 (some ⟨g, 0, none⟩) 2 exR _ _ _ _ HR.out.row (by decide) ex_of3).mono ?_
  rintro e w9 ⟨rfl, hb⟩
  replace HR := Lib.hid (HR.out.below hb)
  replace HB := Lib.hid (below_step HB.out hb)
  clear hb
  clear w8
  go_wp2_with fail
  refine (chapmanref06_Null.calls _ _ _ _ rfl).mono ?_
  rintro e w10 ⟨rfl, hb⟩
  replace HR := Lib.hid (HR.out.below hb)
  replace HB := Lib.hid (below_step HB.out hb)
  clear hb
  clear w9
  obtain ⟨c0, c1, c2⟩ := HR.out.1.ten
  obtain ⟨d0, d1, d2⟩ := HR.out.1.two
  go_wp2_with fail
  refine wp_region_rel 10 152 (exRel6 w.heap.size) exApart6' (by kernel_rfl) (by kernel_rfl) (by rfl) (exRel6.stable _) ?_ ?_
  · intro vals X hX
    replace HR := Lib.hid (HR.out.below hX)
    obtain ⟨c0, c1, c2⟩ := HR.out.1.ten
    obtain ⟨d0, d1, d2⟩ := HR.out.1.two
    have hN : w.heap.size ≤ X.heap.size := Nat.le_trans HB.out.size hX.size
    have HN := Lib.hid hN
    clear hX HB hN
    simp only [putAll, Act.put, RelSteps, List.take_succ_cons, List.take_zero, List.setIfInBounds_toArray, List.set_cons_succ, List.set_cons_zero, Option.getD_some, Nat.zero_add, Nat.reduceAdd]
    refine ⟨fun hd => ?_, fun hd => ?_, fun hd => ?_, fun hd => ?_, fun hd => ?_, fun hd => ?_, fun hd => ?_, fun hd => ?_, fun hd => ?_, fun hd => ?_, trivial⟩
    · clear hd
      go_wp2_with fail
      exact rel_done rfl _ rfl rfl (ex6_none (by decide) (by decide)) (Below.refl _ _)
    · clear hd
      go_wp2_with fail
      exact rel_done rfl _ rfl rfl (ex6_none (by decide) (by decide)) (Below.refl _ _)
    · clear hd
      go_wp2_with fail
      refine (chapmanref06_Whole.calls 10 _ _ _ _ (ex_w 10 10000000 (by kernel_rfl))).mono ?_
      rintro e w2 ⟨rfl, hb⟩
      go_wp2_with fail
      exact rel_done rfl _ rfl rfl (ex6_none (by decide) (by decide)) hb
    · have e0 : vals 0 = _ := hd 0 (by kernel_rfl)
      have e1 : vals 1 = _ := hd 1 (by kernel_rfl)
      have e2 : vals 2 = _ := hd 2 (by kernel_rfl)
      clear hd
      go_wp2_with fail
      refine (chapmanlaw32_bounded.calls 100 (some ⟨w.heap.size, 0, none⟩) 2 exT 3 0 10000000 2 10000000 ⟨#[]⟩ exL1 0 _ HR.out.1.types (by decide) HR.out.1.2.2.2 ex_b1).mono ?_
      rintro e w2 ⟨A, c, rfl, _, hc, hb, hl⟩
      go_wp2_with fail
      exact rel_done rfl _ rfl (BdL.mk (by decide) hc hl) (ex6_none (by decide) (by decide)) hb
    · clear hd
      go_wp2_with fail
      exact rel_done rfl _ rfl rfl (ex6_none (by decide) (by decide)) (Below.refl _ _)
    · clear hd
      go_wp2_with fail
      exact rel_done rfl _ rfl rfl (ex6_none (by decide) (by decide)) (Below.refl _ _)
    · clear hd
      go_wp2_with fail
      refine (chapmanref06_Str.calls ⟨#[97]⟩ _ _ _ _ rfl).mono ?_
      rintro e w2 ⟨rfl, hb⟩
      go_wp2_with fail
      exact rel_done rfl _ rfl rfl (ex6_none (by decide) (by decide)) hb
    · have e4 : vals 4 = _ := hd 4 (by kernel_rfl)
      have e5 : vals 5 = _ := hd 5 (by kernel_rfl)
      have e6 : vals 6 = _ := hd 6 (by kernel_rfl)
      clear hd
      go_wp2_with fail
      refine (chapmanlaw32_bounded.calls 100 (some ⟨w.heap.size, 0, none⟩) 2 exT 3 1 2 3 0 ⟨#[97]⟩ exL2 0 _ HR.out.1.types (by decide) HR.out.1.2.2.2 ex_b2).mono ?_
      rintro e w2 ⟨A, c, rfl, _, hc, hb, hl⟩
      go_wp2_with fail
      exact rel_done rfl _ rfl (BdL.mk (by decide) hc hl) (ex6_none (by decide) (by decide)) hb
    · clear hd
      go_wp2_with fail
      exact rel_done rfl _ rfl ⟨_, rfl, HN.out, heap_alloc_new _ _⟩ (ex6_new (by decide)) (below_alloc (Below.refl _ _) _)
    · clear hd
      go_wp2_with fail
      exact rel_done rfl _ rfl ⟨_, rfl, HN.out, heap_alloc_new _ _⟩ (ex6_new (by decide)) (below_alloc (Below.refl _ _) _)
  · intro vals X hX hv hapart
    have HR2 := HR.out.below hX
    have hN2 := HR2.1.2.2.2.lt
    have e0 : vals 0 = _ := hv 0 (by decide)
    have e1 : vals 1 = _ := hv 1 (by decide)
    have e2 : vals 2 = _ := hv 2 (by decide)
    obtain ⟨g1, c1, e3, k1, r1⟩ := hv 3 (by decide)
    have e4 : vals 4 = _ := hv 4 (by decide)
    have e5 : vals 5 = _ := hv 5 (by decide)
    have e6 : vals 6 = _ := hv 6 (by decide)
    obtain ⟨g2, c2, e7, k2, r2⟩ := hv 7 (by decide)
    obtain ⟨a5, e8, s5, h5⟩ := hv 8 (by decide)
    obtain ⟨a6, e9, s6, h6⟩ := hv 9 (by decide)
    have hne : a5 ≠ a6 := fun e => (hapart 8 9 (by decide) (by decide) (by decide)).1 rfl rfl (by rw [e8, e9, e])
    have hne' : a6 ≠ a5 := fun e => hne e.symm
    have m0 : X.cell? ⟨a5, 0, none⟩ = some (.slice none 0 0) := (blk_cell h5 0).trans rfl
    have m1 : X.cell? ⟨a5, 1, none⟩ = some (.int .i64 0) := (blk_cell h5 1).trans rfl
    have f0 := blk_frozen h5 0
    have f1 := blk_frozen h5 1
    have m2 : X.cell? ⟨a6, 0, none⟩ = some (.slice none 0 0) := (blk_cell h6 0).trans rfl
    have m3 : X.cell? ⟨a6, 1, none⟩ = some (.int .i64 0) := (blk_cell h6 1).trans rfl
    have f2 := blk_frozen h6 0
    have f3 := blk_frozen h6 1
    have hw2 : 2 < w.heap.size := HG2.out.lt
    have HBX := Lib.hid (ExB.mk HR2 h5 h6 hne (by omega) (by omega) r1 r2 k1 k2)
    have hB5 := below_step HB.out hX
    have HBB := Lib.hid (below_set (j := 1) (v := .int .i64 0) (below_set (j := 0) (v := .slice (some ⟨g2, 0, none⟩) 2 c2) (below_set (j := 1) (v := .int .i64 0) (below_set (j := 0) (v := .slice (some ⟨g1, 0, none⟩) 2 c1) hB5 s5) s5) s6) s6)
    clear hv hapart h5 h6 r1 r2 HR HB hX HR2 hB5
    simp only [putAll, Act.put, List.take_succ_cons, List.take_zero, List.drop_succ_cons, List.drop_zero, List.setIfInBounds_toArray, List.set_cons_succ, List.set_cons_zero, Option.getD_some, Nat.zero_add, Nat.reduceAdd]
    simp only [exL1, exL2, List.length_cons, List.length_nil, Nat.zero_add, Nat.reduceAdd] at e3 e7
    simp only [e0, e1, e2, e3, e4, e5, e6, e7, e8, e9]
    go_wp2_with fail
    generalize (((X.setCell ⟨a5, 0, none⟩ (.slice (some ⟨g1, 0, none⟩) 2 c1)).setCell ⟨a5, 1, none⟩ (.int .i64 0)).setCell ⟨a6, 0, none⟩ (.slice (some ⟨g2, 0, none⟩) 2 c2)).setCell ⟨a6, 1, none⟩ (.int .i64 0) = Y at *
    clear m0 m1 m2 m3 f0 f1 f2 f3 hne hne' s5 s6 hw2 hN2 e0 e1 e2 e3 e4 e5 e6 e7 e8 e9 k1 k2
    refine wp_region_rel 46 152 (exRel7 w.heap.size a5 g1 c1 a6 g2 c2) noApart (by kernel_rfl) (by kernel_rfl) (by rfl) (exRel7.stable _ _ _ _ _ _ _) ?_ ?_
    · intro vals X hX
      have hHX := HBX.out.below hX
      have HX := Lib.hid hHX
      obtain ⟨c0, c1', c2'⟩ := hHX.1.1.ten
      obtain ⟨d0, d1, d2, d3, d4, d5, d6⟩ := hHX.cells
      obtain ⟨s0, s1, s2, s3, s4, s5, s6, s7, s8⟩ := hHX.row2
      clear hX hHX HBB HBX
      simp only [putAll, Act.put, RelSteps, List.take_succ_cons, List.take_zero, List.setIfInBounds_toArray, List.set_cons_succ, List.set_cons_zero, Option.getD_some, Nat.zero_add, Nat.reduceAdd]
      refine ⟨fun hd => ?_, fun hd => ?_, fun hd => ?_, fun hd => ?_, fun hd => ?_, fun hd => ?_, fun hd => ?_, fun hd => ?_, fun hd => ?_, fun hd => ?_, fun hd => ?_, fun hd => ?_, fun hd => ?_, fun hd => ?_, fun hd => ?_, fun hd => ?_, fun hd => ?_, fun hd => ?_, fun hd => ?_, fun hd => ?_, fun hd => ?_, fun hd => ?_, fun hd => ?_, fun hd => ?_, fun hd => ?_, fun hd => ?_, fun hd => ?_, fun hd => ?_, fun hd => ?_, fun hd => ?_, fun hd => ?_, fun hd => ?_, fun hd => ?_, fun hd => ?_, fun hd => ?_, fun hd => ?_, fun hd => ?_, fun hd => ?_, fun hd => ?_, fun hd => ?_, fun hd => ?_, fun hd => ?_, fun hd => ?_, fun hd => ?_, fun hd => ?_, fun hd => ?_, trivial⟩
      · clear hd
        go_wp2_with fail
        exact rel_done rfl _ rfl rfl noApart_all (Below.refl _ _)
      · have e0 : vals 0 = _ := hd 0 (by kernel_rfl)
        clear hd
        go_wp2_with fail
        exact rel_done rfl _ rfl rfl noApart_all (Below.refl _ _)
      · have e1 : vals 1 = _ := hd 1 (by kernel_rfl)
        clear hd
        go_wp2_with fail
        exact rel_done rfl _ rfl rfl noApart_all (Below.refl _ _)
      · have e2 : vals 2 = _ := hd 2 (by kernel_rfl)
        clear hd
        go_wp2_with fail
        exact rel_done rfl _ rfl (by first | rfl | exact e2 | (simp [*]; done)) noApart_all (Below.refl _ _)
      · have e3 : vals 3 = _ := hd 3 (by kernel_rfl)
        clear hd
        go_wp2_with fail
        exact rel_done rfl _ rfl rfl noApart_all (Below.refl _ _)
      · have e3 : vals 3 = _ := hd 3 (by kernel_rfl)
        have e4 : vals 4 = _ := hd 4 (by kernel_rfl)
        clear hd
        go_wp2_with fail
        exact rel_done rfl _ rfl rfl noApart_all (Below.refl _ _)
      · have e3 : vals 3 = _ := hd 3 (by kernel_rfl)
        have e5 : vals 5 = _ := hd 5 (by kernel_rfl)
        clear hd
        go_wp2_with fail
        exact rel_done rfl _ rfl rfl noApart_all (Below.refl _ _)
      · have e3 : vals 3 = _ := hd 3 (by kernel_rfl)
        have e6 : vals 6 = _ := hd 6 (by kernel_rfl)
        clear hd
        go_wp2_with fail
        exact rel_done rfl _ rfl rfl noApart_all (Below.refl _ _)
      · have e3 : vals 3 = _ := hd 3 (by kernel_rfl)
        have e7 : vals 7 = _ := hd 7 (by kernel_rfl)
        clear hd
        go_wp2_with fail
        exact rel_done rfl _ rfl (by first | rfl | exact e7 | (simp [*]; done)) noApart_all (Below.refl _ _)
      · have e8 : vals 8 = _ := hd 8 (by kernel_rfl)
        clear hd
        go_wp2_with fail
        exact rel_done rfl _ rfl rfl noApart_all (Below.refl _ _)
      · have e8 : vals 8 = _ := hd 8 (by kernel_rfl)
        have e9 : vals 9 = _ := hd 9 (by kernel_rfl)
        clear hd
        go_wp2_with fail
        exact rel_done rfl _ rfl rfl noApart_all (Below.refl _ _)
      · have e8 : vals 8 = _ := hd 8 (by kernel_rfl)
        clear hd
        go_wp2_with fail
        refine (chapmanref06_Whole.calls 10 _ _ _ _ (ex_w 10 10000000 (by kernel_rfl))).mono ?_
        rintro e w2 ⟨rfl, hb⟩
        go_wp2_with fail
        exact rel_done rfl _ rfl rfl noApart_all hb
      · have e8 : vals 8 = _ := hd 8 (by kernel_rfl)
        have e11 : vals 11 = _ := hd 11 (by kernel_rfl)
        clear hd
        go_wp2_with fail
        refine (chapmanref06_Num.calls 19999999 _ _ _ _ rfl).mono ?_
        rintro e w2 ⟨rfl, hb⟩
        go_wp2_with fail
        exact rel_done rfl _ rfl rfl noApart_all hb
      · have e8 : vals 8 = _ := hd 8 (by kernel_rfl)
        have e11 : vals 11 = _ := hd 11 (by kernel_rfl)
        have e12 : vals 12 = _ := hd 12 (by kernel_rfl)
        clear hd
        go_wp2_with fail
        exact rel_done rfl _ rfl rfl noApart_all (Below.refl _ _)
      · have e8 : vals 8 = _ := hd 8 (by kernel_rfl)
        clear hd
        go_wp2_with fail
        exact rel_done rfl _ rfl (by first | rfl | exact e8 | (simp [*]; done)) noApart_all (Below.refl _ _)
      · have e8 : vals 8 = _ := hd 8 (by kernel_rfl)
        have e14 : vals 14 = _ := hd 14 (by kernel_rfl)
        clear hd
        go_wp2_with fail
        exact rel_done rfl _ rfl rfl noApart_all (Below.refl _ _)
      · have e8 : vals 8 = _ := hd 8 (by kernel_rfl)
        have e15 : vals 15 = _ := hd 15 (by kernel_rfl)
        clear hd
        go_wp2_with fail
        exact rel_done rfl _ rfl rfl noApart_all (Below.refl _ _)
      · have e8 : vals 8 = _ := hd 8 (by kernel_rfl)
        have e12 : vals 12 = _ := hd 12 (by kernel_rfl)
        have e16 : vals 16 = _ := hd 16 (by kernel_rfl)
        clear hd
        go_wp2_with fail
        refine (chapmanref32_Open.ex _).mono ?_
        rintro e w2 ⟨rfl, hb⟩
        go_wp2_with fail
        exact rel_done rfl _ rfl rfl noApart_all hb
      · have e8 : vals 8 = _ := hd 8 (by kernel_rfl)
        have e13 : vals 13 = _ := hd 13 (by kernel_rfl)
        have e17 : vals 17 = _ := hd 17 (by kernel_rfl)
        clear hd
        go_wp2_with fail
        exact rel_done rfl _ rfl ⟨_, rfl, heap_alloc_new _ _⟩ noApart_all (below_alloc (Below.refl _ _) _)
      · have e8 : vals 8 = _ := hd 8 (by kernel_rfl)
        have e10 : vals 10 = _ := hd 10 (by kernel_rfl)
        have e17 : vals 17 = _ := hd 17 (by kernel_rfl)
        have r18 := hd 18 (by kernel_rfl)
        clear hd
        obtain ⟨gg, e18, kk⟩ := r18
        go_wp2_with fail
        refine (chapmanref32_SameBounds.calls 100 (some ⟨g1, 0, none⟩) c1 exL1 (some ⟨gg, 0, none⟩) 2 exL1 true _ (HX.out.2.2.1.reads (by decide)) HX.out.2.2.2.2.2.1 (kk.reads (by decide)) (by decide) ex_sameb).mono ?_
        rintro e w2 ⟨rfl, hd⟩
        obtain ⟨n9, rfl⟩ := hd.out
        go_wp2_with fail
        exact rel_done rfl _ rfl rfl noApart_all (pw_below_drewN (Below.refl _ _) _)
      · have e8 : vals 8 = _ := hd 8 (by kernel_rfl)
        have e19 : vals 19 = _ := hd 19 (by kernel_rfl)
        clear hd
        go_wp2_with fail
        exact rel_done rfl _ rfl rfl noApart_all (Below.refl _ _)
      · have e8 : vals 8 = _ := hd 8 (by kernel_rfl)
        have e20 : vals 20 = _ := hd 20 (by kernel_rfl)
        clear hd
        go_wp2_with fail
        exact rel_done rfl _ rfl rfl noApart_all (Below.refl _ _)
      · have e19 : vals 19 = _ := hd 19 (by kernel_rfl)
        have e21 : vals 21 = _ := hd 21 (by kernel_rfl)
        clear hd
        go_wp2_with fail
        exact rel_done rfl _ rfl (by first | rfl | exact e21 | (simp [*]; done)) noApart_all (Below.refl _ _)
      · have e22 : vals 22 = _ := hd 22 (by kernel_rfl)
        clear hd
        go_wp2_with fail
        exact rel_done rfl _ rfl rfl noApart_all (Below.refl _ _)
      · have e22 : vals 22 = _ := hd 22 (by kernel_rfl)
        have e23 : vals 23 = _ := hd 23 (by kernel_rfl)
        clear hd
        go_wp2_with fail
        exact rel_done rfl _ rfl rfl noApart_all (Below.refl _ _)
      · have e22 : vals 22 = _ := hd 22 (by kernel_rfl)
        have e24 : vals 24 = _ := hd 24 (by kernel_rfl)
        clear hd
        go_wp2_with fail
        exact rel_done rfl _ rfl rfl noApart_all (Below.refl _ _)
      · have e22 : vals 22 = _ := hd 22 (by kernel_rfl)
        have e25 : vals 25 = _ := hd 25 (by kernel_rfl)
        clear hd
        go_wp2_with fail
        exact rel_done rfl _ rfl rfl noApart_all (Below.refl _ _)
      · have e22 : vals 22 = _ := hd 22 (by kernel_rfl)
        have e26 : vals 26 = _ := hd 26 (by kernel_rfl)
        clear hd
        go_wp2_with fail
        exact rel_done rfl _ rfl rfl noApart_all (Below.refl _ _)
      · have e22 : vals 22 = _ := hd 22 (by kernel_rfl)
        have e27 : vals 27 = _ := hd 27 (by kernel_rfl)
        clear hd
        go_wp2_with fail
        exact rel_done rfl _ rfl (by first | rfl | exact e27 | (simp [*]; done)) noApart_all (Below.refl _ _)
      · have e28 : vals 28 = _ := hd 28 (by kernel_rfl)
        clear hd
        go_wp2_with fail
        exact rel_done rfl _ rfl rfl noApart_all (Below.refl _ _)
      · have e28 : vals 28 = _ := hd 28 (by kernel_rfl)
        have e29 : vals 29 = _ := hd 29 (by kernel_rfl)
        clear hd
        go_wp2_with fail
        exact rel_done rfl _ rfl rfl noApart_all (Below.refl _ _)
      · have e28 : vals 28 = _ := hd 28 (by kernel_rfl)
        have e30 : vals 30 = _ := hd 30 (by kernel_rfl)
        clear hd
        go_wp2_with fail
        exact rel_done rfl _ rfl rfl noApart_all (Below.refl _ _)
      · have e28 : vals 28 = _ := hd 28 (by kernel_rfl)
        have e31 : vals 31 = _ := hd 31 (by kernel_rfl)
        clear hd
        go_wp2_with fail
        exact rel_done rfl _ rfl rfl noApart_all (Below.refl _ _)
      · have e28 : vals 28 = _ := hd 28 (by kernel_rfl)
        clear hd
        go_wp2_with fail
        refine (chapmanref06_Str.calls ⟨#[97]⟩ _ _ _ _ rfl).mono ?_
        rintro e w2 ⟨rfl, hb⟩
        go_wp2_with fail
        exact rel_done rfl _ rfl rfl noApart_all hb
      · have e28 : vals 28 = _ := hd 28 (by kernel_rfl)
        have e33 : vals 33 = _ := hd 33 (by kernel_rfl)
        clear hd
        go_wp2_with fail
        refine (chapmanref06_Str.calls ⟨#[97]⟩ _ _ _ _ rfl).mono ?_
        rintro e w2 ⟨rfl, hb⟩
        go_wp2_with fail
        exact rel_done rfl _ rfl rfl noApart_all hb
      · have e28 : vals 28 = _ := hd 28 (by kernel_rfl)
        have e33 : vals 33 = _ := hd 33 (by kernel_rfl)
        have e34 : vals 34 = _ := hd 34 (by kernel_rfl)
        clear hd
        go_wp2_with fail
        exact rel_done rfl _ rfl rfl noApart_all (Below.refl _ _)
      · have e28 : vals 28 = _ := hd 28 (by kernel_rfl)
        have e32 : vals 32 = _ := hd 32 (by kernel_rfl)
        have e35 : vals 35 = _ := hd 35 (by kernel_rfl)
        clear hd
        go_wp2_with fail
        exact rel_done rfl _ rfl rfl noApart_all (Below.refl _ _)
      · have e28 : vals 28 = _ := hd 28 (by kernel_rfl)
        have e36 : vals 36 = _ := hd 36 (by kernel_rfl)
        clear hd
        go_wp2_with fail
        exact rel_done rfl _ rfl rfl noApart_all (Below.refl _ _)
      · have e34 : vals 34 = _ := hd 34 (by kernel_rfl)
        have e37 : vals 37 = _ := hd 37 (by kernel_rfl)
        clear hd
        go_wp2_with fail
        exact rel_done rfl _ rfl (by first | rfl | exact e37 | (simp [*]; done)) noApart_all (Below.refl _ _)
      · have e38 : vals 38 = _ := hd 38 (by kernel_rfl)
        clear hd
        go_wp2_with fail
        exact rel_done rfl _ rfl (by first | rfl | exact e38 | (simp [*]; done)) noApart_all (Below.refl _ _)
      · have e38 : vals 38 = _ := hd 38 (by kernel_rfl)
        clear hd
        go_wp2_with fail
        exact rel_done rfl _ rfl rfl noApart_all (Below.refl _ _)
      · have e38 : vals 38 = _ := hd 38 (by kernel_rfl)
        clear hd
        go_wp2_with fail
        refine (chapmanref06_Whole.calls 1 _ _ _ _ (ex_w 1 1000000 (by kernel_rfl))).mono ?_
        rintro e w2 ⟨rfl, hb⟩
        go_wp2_with fail
        exact rel_done rfl _ rfl rfl noApart_all hb
      · have e38 : vals 38 = _ := hd 38 (by kernel_rfl)
        have e39 : vals 39 = _ := hd 39 (by kernel_rfl)
        have e40 : vals 40 = _ := hd 40 (by kernel_rfl)
        have e41 : vals 41 = _ := hd 41 (by kernel_rfl)
        clear hd
        go_wp2_with fail
        refine (chapmanlaw32_bounded.calls 100 (some ⟨w.heap.size, 0, none⟩) 2 exT 3 0 10000000 2 1000000 ⟨#[]⟩ [] 320 _ HX.out.1.1.types (by decide) HX.out.1.1.2.2.2 ex_b3).mono ?_
        rintro e w2 ⟨A, c, rfl, _, hc, hb, hl⟩
        go_wp2_with fail
        exact rel_done rfl _ rfl ⟨A, c, rfl⟩ noApart_all hb
      · have e38 : vals 38 = _ := hd 38 (by kernel_rfl)
        have r42 := hd 42 (by kernel_rfl)
        clear hd
        obtain ⟨AA, cc, e42⟩ := r42
        go_wp2_with fail
        exact rel_done rfl _ rfl rfl noApart_all (Below.refl _ _)
      · have e38 : vals 38 = _ := hd 38 (by kernel_rfl)
        have e43 : vals 43 = _ := hd 43 (by kernel_rfl)
        clear hd
        go_wp2_with fail
        exact rel_done rfl _ rfl rfl noApart_all (Below.refl _ _)
      · have e38 : vals 38 = _ := hd 38 (by kernel_rfl)
        have e44 : vals 44 = _ := hd 44 (by kernel_rfl)
        clear hd
        go_wp2_with fail
        exact rel_done rfl _ rfl rfl noApart_all (Below.refl _ _)
    · intro vals X' hX' hv _
      have hHX := HBX.out.below hX'
      have hB7 := below_step HBB.out hX'
      have e45 : vals 45 = _ := hv 45 (by decide)
      replace HBX := Lib.hid hHX
      replace HBB := Lib.hid hB7
      clear hv hX' hHX hB7
      simp only [putAll, Act.put, List.take_succ_cons, List.take_zero, List.drop_succ_cons, List.drop_zero, List.setIfInBounds_toArray, List.set_cons_succ, List.set_cons_zero, Option.getD_some, Nat.zero_add, Nat.reduceAdd]
      simp only [e45]
      clear e45
      obtain ⟨c0, c1', c2'⟩ := HBX.out.1.1.ten
      go_wp2_with fail
      refine wp_region_rel 11 152 (exRel9 w.heap.size g) noApart (by kernel_rfl) (by kernel_rfl) (by rfl) (exRel9.stable _ _) ?_ ?_
      · intro vals X hX
        have hHX := HBX.out.1.below hX
        have HX := Lib.hid hHX
        have HN := Lib.hid (Nat.le_trans HBB.out.size hX.size)
        obtain ⟨c0, c1', c2'⟩ := hHX.1.ten
        clear hX hHX HBB HBX
        simp only [putAll, Act.put, RelSteps, List.take_succ_cons, List.take_zero, List.setIfInBounds_toArray, List.set_cons_succ, List.set_cons_zero, Option.getD_some, Nat.zero_add, Nat.reduceAdd]
        refine ⟨fun hd => ?_, fun hd => ?_, fun hd => ?_, fun hd => ?_, fun hd => ?_, fun hd => ?_, fun hd => ?_, fun hd => ?_, fun hd => ?_, fun hd => ?_, fun hd => ?_, trivial⟩
        · clear hd
          go_wp2_with fail
          exact rel_done rfl _ rfl rfl noApart_all (Below.refl _ _)
        · clear hd
          go_wp2_with fail
          refine (chapmanref06_Whole.calls 12 _ _ _ _ (ex_w 12 12000000 (by kernel_rfl))).mono ?_
          rintro e w2 ⟨rfl, hb⟩
          go_wp2_with fail
          exact rel_done rfl _ rfl rfl noApart_all hb
        · have e1 : vals 1 = _ := hd 1 (by kernel_rfl)
          clear hd
          go_wp2_with fail
          refine (chapmanref06_Null.calls _ _ _ _ rfl).mono ?_
          rintro e w2 ⟨rfl, hb⟩
          go_wp2_with fail
          exact rel_done rfl _ rfl rfl noApart_all hb
        · have e1 : vals 1 = _ := hd 1 (by kernel_rfl)
          have e2 : vals 2 = _ := hd 2 (by kernel_rfl)
          clear hd
          go_wp2_with fail
          exact rel_done rfl _ rfl (show KRow k35 exRa _ _ from (KRow.new35 (cs := [[.int .i64 2, .int .i64 12000000, .string ⟨#[]⟩], [.int .i64 0, .int .i64 0, .string ⟨#[]⟩]]) (heap_alloc_new _ _) ⟨⟨rfl, k35_mk _ ⟨2, 12000000, ⟨#[]⟩⟩⟩, ⟨rfl, k35_mk _ ⟨0, 0, ⟨#[]⟩⟩⟩, trivial⟩ (by decide))) noApart_all (below_alloc (Below.refl _ _) _)
        · clear hd
          go_wp2_with fail
          exact rel_done rfl _ rfl (by first | rfl | exact e0 | (simp [*]; done)) noApart_all (Below.refl _ _)
        · have e2 : vals 2 = _ := hd 2 (by kernel_rfl)
          clear hd
          go_wp2_with fail
          refine (chapmanref06_Whole.calls 19 _ _ _ _ (ex_w 19 19000000 (by kernel_rfl))).mono ?_
          rintro e w2 ⟨rfl, hb⟩
          go_wp2_with fail
          exact rel_done rfl _ rfl rfl noApart_all hb
        · have e5 : vals 5 = _ := hd 5 (by kernel_rfl)
          clear hd
          go_wp2_with fail
          refine (chapmanref06_Null.calls _ _ _ _ rfl).mono ?_
          rintro e w2 ⟨rfl, hb⟩
          go_wp2_with fail
          exact rel_done rfl _ rfl rfl noApart_all hb
        · have e5 : vals 5 = _ := hd 5 (by kernel_rfl)
          have e6 : vals 6 = _ := hd 6 (by kernel_rfl)
          clear hd
          go_wp2_with fail
          exact rel_done rfl _ rfl (show KRow k35 exRb _ _ from (KRow.new35 (cs := [[.int .i64 2, .int .i64 19000000, .string ⟨#[]⟩], [.int .i64 0, .int .i64 0, .string ⟨#[]⟩]]) (heap_alloc_new _ _) ⟨⟨rfl, k35_mk _ ⟨2, 19000000, ⟨#[]⟩⟩⟩, ⟨rfl, k35_mk _ ⟨0, 0, ⟨#[]⟩⟩⟩, trivial⟩ (by decide))) noApart_all (below_alloc (Below.refl _ _) _)
        · have r3 := hd 3 (by kernel_rfl)
          have e4 : vals 4 = _ := hd 4 (by kernel_rfl)
          have r7 := hd 7 (by kernel_rfl)
          clear hd
          obtain ⟨A3, k3, e3, l3, q3⟩ := r3
          obtain ⟨A7, k7, e7, l7, q7⟩ := r7
          go_wp2_with fail
          exact rel_done rfl _ rfl (show KRow (Kd.slice 35 k35) [exRa, exR, exRb] _ _ from (KRow.new35 (d := Kd.slice 35 k35) (xs := [exRa, exR, exRb]) (cs := [[.slice A3 2 k3], [.slice (some ⟨g, 0, none⟩) 2 2], [.slice A7 2 k7]]) (heap_alloc_new _ _) ⟨⟨rfl, A3, k3, rfl, l3, Kd.C_below q3 (below_alloc (Below.refl _ _) _)⟩, ⟨rfl, _, 2, rfl, Nat.le_refl _, Kd.C_below HX.out.row (below_alloc (Below.refl _ _) _)⟩, ⟨rfl, A7, k7, rfl, l7, Kd.C_below q7 (below_alloc (Below.refl _ _) _)⟩, trivial⟩ (by decide))) noApart_all (below_alloc (Below.refl _ _) _)
        · have e0 : vals 0 = _ := hd 0 (by kernel_rfl)
          have e6 : vals 6 = _ := hd 6 (by kernel_rfl)
          have r8 := hd 8 (by kernel_rfl)
          clear hd
          obtain ⟨A8, k8, e8, l8, q8⟩ := r8
          go_wp2_with fail
          refine (chapmanlaw32_grouped.calls 100 3 0 10000000 A8 k8 [exRa, exR, exRb] exPs rfl (by decide) exOf exOk _ q8 l8).mono ?_
          rintro e w2 ⟨A, c, A', c', ss, rfl, hp, hpw, hC, hcc, hG, hcg, hb⟩
          obtain rfl := ex_sorted hp hpw
          simp only [ex_ids] at hG hcg ⊢
          clear hp hpw
          go_wp2_with fail
          exact rel_done rfl _ rfl ⟨A, c, A', c', rfl, hC, hcc, hG, hcg⟩ noApart_all hb
        · clear hd
          go_wp2_with fail
          exact rel_done rfl _ rfl ⟨_, rfl, HN.out, heap_alloc_new _ _⟩ noApart_all (below_alloc (Below.refl _ _) _)
      · intro vals X'' hX' hv _
        have hHX := HBX.out.1.below hX'
        have hB7 := below_step HBB.out hX'
        obtain ⟨A9, k9, A9', k9', e9, q9, l9, q9', l9'⟩ := hv 9 (by decide)
        obtain ⟨a7, e10, s7, h7⟩ := hv 10 (by decide)
        have hw2 : 2 < w.heap.size := HG2.out.lt
        have m0 : X''.cell? ⟨a7, 0, none⟩ = some (.slice none 0 0) := (blk_cell h7 0).trans rfl
        have m1 : X''.cell? ⟨a7, 1, none⟩ = some (.slice none 0 0) := (blk_cell h7 1).trans rfl
        have f0 := blk_frozen h7 0
        have f1 := blk_frozen h7 1
        have HGX := Lib.hid (ExG0.mk hHX h7 (by omega) q9 l9 q9' l9')
        replace HBB := Lib.hid (below_set (j := 1) (v := .slice A9' 2 k9') (below_set (j := 0) (v := .slice A9 2 k9) hB7 s7) s7)
        clear hv hX' hHX hB7 HBX q9 l9 q9' l9' s7 h7 hw2
        simp only [putAll, Act.put, List.take_succ_cons, List.take_zero, List.drop_succ_cons, List.drop_zero, List.setIfInBounds_toArray, List.set_cons_succ, List.set_cons_zero, Option.getD_some, Nat.zero_add, Nat.reduceAdd]
        simp only [exSs, exGs, List.length_cons, List.length_nil, Nat.zero_add, Nat.reduceAdd] at e9
        simp only [e9, e10]
        go_wp2_with fail
        refine (chapmanref06_Whole.calls 20 _ _ _ _ (ex_w 20 20000000 (by kernel_rfl))).mono ?_
        rintro e w2 ⟨rfl, hb⟩
        replace HGX := Lib.hid (HGX.out.below hb)
        replace HBB := Lib.hid (below_step HBB.out hb)
        clear hb m0 m1 f0 f1
        go_wp2_with fail
        refine (chapmanlaw32_equation.calls 0 2 20000000 ⟨#[]⟩ _ _ _ _ _ _ _ rfl).mono ?_
        rintro e w3 ⟨v5, rfl, hR, hb⟩
        have hV : Kd.V k38 38 w3 w3.heap.size (fun _ => True) v5 [⟨2, 0, ⟨0, 0, ⟨#[]⟩⟩, []⟩, ⟨1, 0, ⟨2, 20000000, ⟨#[]⟩⟩, []⟩] := Kd.R_V hR
        obtain ⟨A8, m8, rfl⟩ := Kd.V_slice hV
        have hG1 := (HGX.out.below hb).below (below_alloc (Below.refl w3.heap.size w3) (.cells #[.int .i64 3, .int .i64 0, .int .i64 0, .int .i64 0, .string ⟨#[]⟩, .slice A8 2 m8] 38))
        have HXG : RowKit.Hid (ExG w.heap.size g a7 A9 k9 A9' k9' w3.heap.size A8 m8 (w3.alloc (.cells #[.int .i64 3, .int .i64 0, .int .i64 0, .int .i64 0, .string ⟨#[]⟩, .slice A8 2 m8] 38))) :=
          Lib.hid ⟨hG1.1, hG1.2.1, hG1.2.2.1, hG1.2.2.2.1, hG1.2.2.2.2.1, hG1.2.2.2.2.2, heap_alloc_new _ _, Kd.V_map hV (fun _ hf => Kd.F_alloc hf _)⟩
        replace HBB := Lib.hid (below_alloc (below_step HBB.out hb) (.cells #[.int .i64 3, .int .i64 0, .int .i64 0, .int .i64 0, .string ⟨#[]⟩, .slice A8 2 m8] 38))
        clear hb hR hV hG1 HGX
        simp only [List.length_cons, List.length_nil, Nat.zero_add, Nat.reduceAdd]
        go_wp2_with fail
        generalize w3.alloc (.cells #[.int .i64 3, .int .i64 0, .int .i64 0, .int .i64 0, .string ⟨#[]⟩, .slice A8 2 m8] 38) = Z at *
        generalize w3.heap.size = a8 at *
        refine wp_region_rel 40 152 (exRel11 w.heap.size g A9 k9 A9' k9' A8 m8) noApart (by kernel_rfl) (by kernel_rfl) (by rfl) (exRel11.stable _ _ _ _ _ _ _ _) ?_ ?_
        · intro vals X hX
          have hHX := HXG.out.below hX
          have HX := Lib.hid hHX
          obtain ⟨c0, c1', c2'⟩ := hHX.1.1.ten
          obtain ⟨d0, d1, d2⟩ := hHX.1.1.two
          obtain ⟨s0, s1, s2, s3, s4, s5, s6, s7⟩ := hHX.cells
          clear hX hHX HBB HXG
          simp only [putAll, Act.put, RelSteps, List.take_succ_cons, List.take_zero, List.setIfInBounds_toArray, List.set_cons_succ, List.set_cons_zero, Option.getD_some, Nat.zero_add, Nat.reduceAdd]
          refine ⟨fun hd => ?_, fun hd => ?_, fun hd => ?_, fun hd => ?_, fun hd => ?_, fun hd => ?_, fun hd => ?_, fun hd => ?_, fun hd => ?_, fun hd => ?_, fun hd => ?_, fun hd => ?_, fun hd => ?_, fun hd => ?_, fun hd => ?_, fun hd => ?_, fun hd => ?_, fun hd => ?_, fun hd => ?_, fun hd => ?_, fun hd => ?_, fun hd => ?_, fun hd => ?_, fun hd => ?_, fun hd => ?_, fun hd => ?_, fun hd => ?_, fun hd => ?_, fun hd => ?_, fun hd => ?_, fun hd => ?_, fun hd => ?_, fun hd => ?_, fun hd => ?_, fun hd => ?_, fun hd => ?_, fun hd => ?_, fun hd => ?_, fun hd => ?_, fun hd => ?_, trivial⟩
          · clear hd
            go_wp2_with fail
            exact rel_done rfl _ rfl rfl noApart_all (Below.refl _ _)
          · clear hd
            go_wp2_with fail
            refine (chapmanref06_Whole.calls (-10) _ _ _ _ (ex_w (-10) (-10000000) (by kernel_rfl))).mono ?_
            rintro e w2 ⟨rfl, hb⟩
            go_wp2_with fail
            exact rel_done rfl _ rfl rfl noApart_all hb
          · have e1 : vals 1 = _ := hd 1 (by kernel_rfl)
            clear hd
            go_wp2_with fail
            refine (chapmanref06_Whole.calls 10 _ _ _ _ (ex_w 10 10000000 (by kernel_rfl))).mono ?_
            rintro e w2 ⟨rfl, hb⟩
            go_wp2_with fail
            exact rel_done rfl _ rfl rfl noApart_all hb
          · have e1 : vals 1 = _ := hd 1 (by kernel_rfl)
            have e2 : vals 2 = _ := hd 2 (by kernel_rfl)
            clear hd
            go_wp2_with fail
            exact rel_done rfl _ rfl (show KRow k35 exSs _ _ from (KRow.new35 (cs := [[.int .i64 2, .int .i64 (-10000000), .string ⟨#[]⟩], [.int .i64 2, .int .i64 10000000, .string ⟨#[]⟩]]) (heap_alloc_new _ _) ⟨⟨rfl, k35_mk _ ⟨2, -10000000, ⟨#[]⟩⟩⟩, ⟨rfl, k35_mk _ ⟨2, 10000000, ⟨#[]⟩⟩⟩, trivial⟩ (by decide))) noApart_all (below_alloc (Below.refl _ _) _)
          · clear hd
            go_wp2_with fail
            exact rel_done rfl _ rfl (show KRow (Kd.int .i64) [1] _ _ from (KRow.new35 (d := Kd.int .i64) (xs := [1]) (cs := [[.int .i64 1]]) (heap_alloc_new _ _) ⟨⟨rfl, rfl⟩, trivial⟩ (by decide))) noApart_all (below_alloc (Below.refl _ _) _)
          · clear hd
            go_wp2_with fail
            exact rel_done rfl _ rfl (show KRow (Kd.int .i64) [0, 2] _ _ from (KRow.new35 (d := Kd.int .i64) (xs := [0, 2]) (cs := [[.int .i64 0], [.int .i64 2]]) (heap_alloc_new _ _) ⟨⟨rfl, rfl⟩, ⟨rfl, rfl⟩, trivial⟩ (by decide))) noApart_all (below_alloc (Below.refl _ _) _)
          · have r4 := hd 4 (by kernel_rfl)
            have r5 := hd 5 (by kernel_rfl)
            clear hd
            obtain ⟨A4, k4, e4, l4, q4⟩ := r4
            obtain ⟨A5, k5, e5, l5, q5⟩ := r5
            go_wp2_with fail
            exact rel_done rfl _ rfl (show KRow (Kd.slice 3 (Kd.int .i64)) exGs _ _ from (KRow.new35 (d := Kd.slice 3 (Kd.int .i64)) (xs := exGs) (cs := [[.slice A4 1 k4], [.slice A5 2 k5]]) (heap_alloc_new _ _) ⟨⟨rfl, A4, k4, rfl, l4, Kd.C_below q4 (below_alloc (Below.refl _ _) _)⟩, ⟨rfl, A5, k5, rfl, l5, Kd.C_below q5 (below_alloc (Below.refl _ _) _)⟩, trivial⟩ (by decide))) noApart_all (below_alloc (Below.refl _ _) _)
          · have r3 := hd 3 (by kernel_rfl)
            have r6 := hd 6 (by kernel_rfl)
            clear hd
            obtain ⟨A3, k3, e3, l3, q3⟩ := r3
            obtain ⟨A6, k6, e6, l6, q6⟩ := r6
            go_wp2_with fail
            exact rel_done rfl _ rfl ⟨A3, k3, A6, k6, rfl, q3, l3, q6, l6⟩ noApart_all (Below.refl _ _)
          · have e0 : vals 0 = _ := hd 0 (by kernel_rfl)
            have e2 : vals 2 = _ := hd 2 (by kernel_rfl)
            have r7 := hd 7 (by kernel_rfl)
            clear hd
            obtain ⟨B9, j9, B9', j9', e7, o9, i9, o9', i9'⟩ := r7
            go_wp2_with fail
            refine (chapmanref32_Same.eq A9 k9 B9 j9 exSs A9' k9' B9' j9' exGs _ HX.out.2.2.1 o9 HX.out.2.2.2.2.1 o9' ex_same (by decide) (by decide) (by decide)).mono ?_
            rintro e w2 ⟨rfl, hb⟩
            go_wp2_with fail
            exact rel_done rfl _ rfl rfl noApart_all hb
          · have e8 : vals 8 = _ := hd 8 (by kernel_rfl)
            clear hd
            go_wp2_with fail
            exact rel_done rfl _ rfl (by first | rfl | exact e8 | (simp [*]; done)) noApart_all (Below.refl _ _)
          · have e9 : vals 9 = _ := hd 9 (by kernel_rfl)
            clear hd
            go_wp2_with fail
            exact rel_done rfl _ rfl (by first | rfl | exact e9 | (simp [*]; done)) noApart_all (Below.refl _ _)
          · have e9 : vals 9 = _ := hd 9 (by kernel_rfl)
            clear hd
            go_wp2_with fail
            exact rel_done rfl _ rfl rfl noApart_all (Below.refl _ _)
          · have e9 : vals 9 = _ := hd 9 (by kernel_rfl)
            clear hd
            go_wp2_with fail
            refine (chapmanref06_Null.calls _ _ _ _ rfl).mono ?_
            rintro e w2 ⟨rfl, hb⟩
            go_wp2_with fail
            exact rel_done rfl _ rfl rfl noApart_all hb
          · have e9 : vals 9 = _ := hd 9 (by kernel_rfl)
            have e10 : vals 10 = _ := hd 10 (by kernel_rfl)
            have e11 : vals 11 = _ := hd 11 (by kernel_rfl)
            have e12 : vals 12 = _ := hd 12 (by kernel_rfl)
            clear hd
            go_wp2_with fail
            refine (partition_Possible.calls 100 (some ⟨w.heap.size, 0, none⟩) 2 exT 3 1 2 0 0 ⟨#[]⟩ true _ HX.out.1.1.types (by decide) HX.out.1.1.2.2.2 ex_poss1).mono ?_
            rintro e w2 ⟨rfl, hb⟩
            go_wp2_with fail
            exact rel_done rfl _ rfl rfl noApart_all hb
          · have e9 : vals 9 = _ := hd 9 (by kernel_rfl)
            have e13 : vals 13 = _ := hd 13 (by kernel_rfl)
            clear hd
            go_wp2_with fail
            exact rel_done rfl _ rfl rfl noApart_all (Below.refl _ _)
          · have e13 : vals 13 = _ := hd 13 (by kernel_rfl)
            have e14 : vals 14 = _ := hd 14 (by kernel_rfl)
            clear hd
            go_wp2_with fail
            exact rel_done rfl _ rfl (by first | rfl | exact e14 | (simp [*]; done)) noApart_all (Below.refl _ _)
          · have e15 : vals 15 = _ := hd 15 (by kernel_rfl)
            clear hd
            go_wp2_with fail
            exact rel_done rfl _ rfl (by first | rfl | exact e15 | (simp [*]; done)) noApart_all (Below.refl _ _)
          · have e15 : vals 15 = _ := hd 15 (by kernel_rfl)
            clear hd
            go_wp2_with fail
            exact rel_done rfl _ rfl rfl noApart_all (Below.refl _ _)
          · have e15 : vals 15 = _ := hd 15 (by kernel_rfl)
            clear hd
            go_wp2_with fail
            refine (chapmanref06_Null.calls _ _ _ _ rfl).mono ?_
            rintro e w2 ⟨rfl, hb⟩
            go_wp2_with fail
            exact rel_done rfl _ rfl rfl noApart_all hb
          · have e15 : vals 15 = _ := hd 15 (by kernel_rfl)
            have e16 : vals 16 = _ := hd 16 (by kernel_rfl)
            have e17 : vals 17 = _ := hd 17 (by kernel_rfl)
            have e18 : vals 18 = _ := hd 18 (by kernel_rfl)
            clear hd
            go_wp2_with fail
            refine (partition_Possible.calls 100 (some ⟨w.heap.size, 0, none⟩) 2 exT 3 0 10000000 0 0 ⟨#[]⟩ false _ HX.out.1.1.types (by decide) HX.out.1.1.2.2.2 ex_poss2).mono ?_
            rintro e w2 ⟨rfl, hb⟩
            go_wp2_with fail
            exact rel_done rfl _ rfl rfl noApart_all hb
          · have e15 : vals 15 = _ := hd 15 (by kernel_rfl)
            have e19 : vals 19 = _ := hd 19 (by kernel_rfl)
            clear hd
            go_wp2_with fail
            exact rel_done rfl _ rfl rfl noApart_all (Below.refl _ _)
          · have e15 : vals 15 = _ := hd 15 (by kernel_rfl)
            have e20 : vals 20 = _ := hd 20 (by kernel_rfl)
            clear hd
            go_wp2_with fail
            exact rel_done rfl _ rfl rfl noApart_all (Below.refl _ _)
          · have e19 : vals 19 = _ := hd 19 (by kernel_rfl)
            have e21 : vals 21 = _ := hd 21 (by kernel_rfl)
            clear hd
            go_wp2_with fail
            exact rel_done rfl _ rfl (by first | rfl | exact e21 | (simp [*]; done)) noApart_all (Below.refl _ _)
          · have e22 : vals 22 = _ := hd 22 (by kernel_rfl)
            clear hd
            go_wp2_with fail
            exact rel_done rfl _ rfl (by first | rfl | exact e22 | (simp [*]; done)) noApart_all (Below.refl _ _)
          · have e22 : vals 22 = _ := hd 22 (by kernel_rfl)
            clear hd
            go_wp2_with fail
            exact rel_done rfl _ rfl rfl noApart_all (Below.refl _ _)
          · have e22 : vals 22 = _ := hd 22 (by kernel_rfl)
            clear hd
            go_wp2_with fail
            refine (chapmanref06_Whole.calls 10 _ _ _ _ (ex_w 10 10000000 (by kernel_rfl))).mono ?_
            rintro e w2 ⟨rfl, hb⟩
            go_wp2_with fail
            exact rel_done rfl _ rfl rfl noApart_all hb
          · have e22 : vals 22 = _ := hd 22 (by kernel_rfl)
            clear hd
            go_wp2_with fail
            exact rel_done rfl _ rfl rfl noApart_all (Below.refl _ _)
          · have e22 : vals 22 = _ := hd 22 (by kernel_rfl)
            have e24 : vals 24 = _ := hd 24 (by kernel_rfl)
            have e25 : vals 25 = _ := hd 25 (by kernel_rfl)
            have e26 : vals 26 = _ := hd 26 (by kernel_rfl)
            clear hd
            go_wp2_with fail
            exact rel_done rfl _ rfl rfl noApart_all (Below.refl _ _)
          · have e22 : vals 22 = _ := hd 22 (by kernel_rfl)
            have e23 : vals 23 = _ := hd 23 (by kernel_rfl)
            have e25 : vals 25 = _ := hd 25 (by kernel_rfl)
            have e27 : vals 27 = _ := hd 27 (by kernel_rfl)
            clear hd
            go_wp2_with fail
            refine (chapmanlaw32_never.calls0 100 100 (some ⟨w.heap.size, 0, none⟩) 2 exT 3 0 10000000 2 10000000 ⟨#[]⟩ 0 0 0 ⟨#[]⟩ A8 m8 0 0 ⟨0, 0, ⟨#[]⟩⟩ ⟨2, 20000000, ⟨#[]⟩⟩ [] [] (fun _ => True) _ HX.out.1.1.types (by decide) HX.out.1.1.2.2.2 HX.out.2.2.2.2.2.2.2 (by decide) (by decide) true ex_never1).mono ?_
            rintro e w2 ⟨rfl, hb⟩
            go_wp2_with fail
            exact rel_done rfl _ rfl rfl noApart_all hb
          · have e22 : vals 22 = _ := hd 22 (by kernel_rfl)
            have e28 : vals 28 = _ := hd 28 (by kernel_rfl)
            clear hd
            go_wp2_with fail
            exact rel_done rfl _ rfl rfl noApart_all (Below.refl _ _)
          · have e28 : vals 28 = _ := hd 28 (by kernel_rfl)
            have e29 : vals 29 = _ := hd 29 (by kernel_rfl)
            clear hd
            go_wp2_with fail
            exact rel_done rfl _ rfl (by first | rfl | exact e29 | (simp [*]; done)) noApart_all (Below.refl _ _)
          · have e30 : vals 30 = _ := hd 30 (by kernel_rfl)
            clear hd
            go_wp2_with fail
            exact rel_done rfl _ rfl (by first | rfl | exact e30 | (simp [*]; done)) noApart_all (Below.refl _ _)
          · have e30 : vals 30 = _ := hd 30 (by kernel_rfl)
            clear hd
            go_wp2_with fail
            exact rel_done rfl _ rfl rfl noApart_all (Below.refl _ _)
          · have e30 : vals 30 = _ := hd 30 (by kernel_rfl)
            clear hd
            go_wp2_with fail
            refine (chapmanref06_Whole.calls 20 _ _ _ _ (ex_w 20 20000000 (by kernel_rfl))).mono ?_
            rintro e w2 ⟨rfl, hb⟩
            go_wp2_with fail
            exact rel_done rfl _ rfl rfl noApart_all hb
          · have e30 : vals 30 = _ := hd 30 (by kernel_rfl)
            clear hd
            go_wp2_with fail
            exact rel_done rfl _ rfl rfl noApart_all (Below.refl _ _)
          · have e30 : vals 30 = _ := hd 30 (by kernel_rfl)
            have e32 : vals 32 = _ := hd 32 (by kernel_rfl)
            have e33 : vals 33 = _ := hd 33 (by kernel_rfl)
            have e34 : vals 34 = _ := hd 34 (by kernel_rfl)
            clear hd
            go_wp2_with fail
            exact rel_done rfl _ rfl rfl noApart_all (Below.refl _ _)
          · have e30 : vals 30 = _ := hd 30 (by kernel_rfl)
            have e31 : vals 31 = _ := hd 31 (by kernel_rfl)
            have e33 : vals 33 = _ := hd 33 (by kernel_rfl)
            have e35 : vals 35 = _ := hd 35 (by kernel_rfl)
            clear hd
            go_wp2_with fail
            refine (chapmanlaw32_never.calls0 100 100 (some ⟨w.heap.size, 0, none⟩) 2 exT 3 0 10000000 2 20000000 ⟨#[]⟩ 0 0 0 ⟨#[]⟩ A8 m8 0 0 ⟨0, 0, ⟨#[]⟩⟩ ⟨2, 20000000, ⟨#[]⟩⟩ [] [] (fun _ => True) _ HX.out.1.1.types (by decide) HX.out.1.1.2.2.2 HX.out.2.2.2.2.2.2.2 (by decide) (by decide) false ex_never2).mono ?_
            rintro e w2 ⟨rfl, hb⟩
            go_wp2_with fail
            exact rel_done rfl _ rfl rfl noApart_all hb
          · have e30 : vals 30 = _ := hd 30 (by kernel_rfl)
            have e36 : vals 36 = _ := hd 36 (by kernel_rfl)
            clear hd
            go_wp2_with fail
            exact rel_done rfl _ rfl rfl noApart_all (Below.refl _ _)
          · have e30 : vals 30 = _ := hd 30 (by kernel_rfl)
            have e37 : vals 37 = _ := hd 37 (by kernel_rfl)
            clear hd
            go_wp2_with fail
            exact rel_done rfl _ rfl rfl noApart_all (Below.refl _ _)
          · have e36 : vals 36 = _ := hd 36 (by kernel_rfl)
            have e38 : vals 38 = _ := hd 38 (by kernel_rfl)
            clear hd
            go_wp2_with fail
            exact rel_done rfl _ rfl (by first | rfl | exact e38 | (simp [*]; done)) noApart_all (Below.refl _ _)
        · intro vals X3 hX' hv _
          have e39 : vals 39 = _ := hv 39 (by decide)
          have hB9 := below_step HBB.out hX'
          clear hv hX' HBB HXG
          simp only [putAll, Act.put, List.take_succ_cons, List.take_zero, List.drop_succ_cons, List.drop_zero, List.setIfInBounds_toArray, List.set_cons_succ, List.set_cons_zero, Option.getD_some, Nat.zero_add, Nat.reduceAdd]
          simp only [e39]
          clear e39
          go_wp2_with fail
          go_ret
          exact ⟨rfl, hB9⟩
end Go.Proofs.YteflfnjljjianaaGreatDoor.Qx
