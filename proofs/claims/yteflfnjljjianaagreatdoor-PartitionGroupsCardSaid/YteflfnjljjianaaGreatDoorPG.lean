/- For every drawn input that is laid out, the card PartitionGroups answers as its law says (PartitionGroupsCardSaid); there are no conditions. -/
import Derived.Test.YteflfnjljjianaaGreatDoorPG02
import Derived.Test.YteflfnjljjianaaGreatDoorPG04
import Derived.Test.YteflfnjljjianaaGreatDoorPG05
import Derived.Test.YteflfnjljjianaaGreatDoorPG11
import Derived.Test.YteflfnjljjianaaGreatDoorPG12
import Derived.Test.YteflfnjljjianaaGreatDoorPG10
import Derived.KernelRfl
import Derived.BigQuiet
import Derived.WalkKit
import Derived.Test.YteflfnjljjianaaGreatDoorPG07
import Derived.Test.YteflfnjljjianaaGreatDoorPG06
import Derived.Test.YteflfnjljjianaaGreatDoorRows
import Derived.Test.YteflfnjljjianaaGreatDoorTie
import Derived.Test.YteflfnjljjianaaGreatDoorCards
import Derived.ProofKit
import Derived.OpenShut
import Derived.ShutString
import Derived.ChangeOld
import Derived.Below
import Derived.SizedLaws
import Derived.JoinedOf
import Derived.LaidLaws
import Derived.LaidHandle
import Derived.Laws.IdiomArrays
import Derived.Deep.Slices
import Derived.SevenTiedAt
import Derived.RowKitTokens
import Derived.ChangeVars
namespace Go.Proofs.YteflfnjljjianaaGreatDoor.Qx
open Go.RowKit Go.Proofs.YteflfnjljjianaaGreatDoorW.PrintWords Go.Proofs.YteflfnjljjianaaGreatDoorW.PrintLast Go.Proofs.YteflfnjljjianaaGreatDoorW.PrintMore
attribute [local go_sem] max2_int min2_int max_two min_two
set_option linter.unusedVariables false
set_option linter.unusedSimpArgs false
structure GrpOK (ps : List S35) (m : Nat) (G : List (S35 × List Int)) : Prop where
  nodup : (G.map (·.1)).Nodup
  ne : ∀ x ∈ G, x.2 ≠ []
  inc : ∀ x ∈ G, x.2.Pairwise (· < ·)
  val : ∀ x ∈ G, ∀ i ∈ x.2, ∃ j : Nat, i = (j : Int) ∧ j < m ∧ ps[j]? = some x.1
  sum : (G.map fun x => x.2.length).sum = m
theorem addTo_mem : ∀ {G : List (S35 × List Int)} {p : S35} {i : Int} {x : S35 × List Int}, x ∈ addTo G p i → x ∈ G ∨ x = (p, [i]) ∨ ∃ zs, (p, zs) ∈ G ∧ x = (p, zs ++ [i])
  | [], p, i, x, h => by
    rw [addTo] at h
    exact .inr (.inl (List.mem_singleton.1 h))
  | y :: G, p, i, x, h => by
    rw [addTo] at h
    split at h
    · rename_i he
      have e := (eq35_iff _ _).1 he
      rcases List.mem_cons.1 h with h | h
      · exact .inr (.inr ⟨y.2, by rw [← e]; exact List.mem_cons_self, by rw [h, e]⟩)
      · exact .inl (List.mem_cons_of_mem _ h)
    · rcases List.mem_cons.1 h with h | h
      · exact .inl (by rw [h]; exact List.mem_cons_self)
      · rcases addTo_mem h with h | h | ⟨zs, hz, e⟩
        · exact .inl (List.mem_cons_of_mem _ h)
        · exact .inr (.inl h)
        · exact .inr (.inr ⟨zs, List.mem_cons_of_mem _ hz, e⟩)
theorem addTo_keys : ∀ (G : List (S35 × List Int)) (p : S35) (i : Int), (addTo G p i).map (·.1) = G.map (·.1) ∨ (p ∉ G.map (·.1) ∧ (addTo G p i).map (·.1) = G.map (·.1) ++ [p])
  | [], p, i => .inr ⟨by simp, by simp [addTo]⟩
  | y :: G, p, i => by
    rw [addTo]
    split
    · exact .inl (by simp)
    · rename_i he
      rcases addTo_keys G p i with h | ⟨h1, h2⟩
      · exact .inl (by rw [List.map_cons, List.map_cons, h])
      · refine .inr ⟨fun h => ?_, by rw [List.map_cons, List.map_cons, h2, List.cons_append]⟩
        rcases List.mem_cons.1 (by rw [List.map_cons] at h; exact h) with h | h
        · exact he ((eq35_iff _ _).2 h.symm)
        · exact h1 h
theorem addTo_sum : ∀ (G : List (S35 × List Int)) (p : S35) (i : Int), ((addTo G p i).map fun x => x.2.length).sum = (G.map fun x => x.2.length).sum + 1
  | [], p, i => by simp [addTo]
  | y :: G, p, i => by
    rw [addTo]
    split
    · simp only [List.map_cons, List.sum_cons, List.length_append, List.length_singleton]
      omega
    · simp only [List.map_cons, List.sum_cons, addTo_sum G p i]
      omega
theorem GrpOK.step {ps : List S35} {m : Nat} {G : List (S35 × List Int)} (h : GrpOK ps m G) {p : S35} (hp : ps[m]? = some p) : GrpOK ps (m + 1) (addTo G p (m : Int)) := by
  refine ⟨?_, fun x hx => ?_, fun x hx => ?_, fun x hx i hi => ?_, by rw [addTo_sum, h.sum]⟩
  · rcases addTo_keys G p (m : Int) with e | ⟨e1, e2⟩
    · rw [e]
      exact h.nodup
    · rw [e2]
      refine List.nodup_append.2 ⟨h.nodup, by simp, fun a ha b hb e => e1 ?_⟩
      rw [List.mem_singleton.1 hb] at e
      exact e ▸ ha
  · rcases addTo_mem hx with h1 | rfl | ⟨zs, _, rfl⟩
    · exact h.ne x h1
    · simp
    · simp
  · rcases addTo_mem hx with h1 | rfl | ⟨zs, hz, rfl⟩
    · exact h.inc x h1
    · simp
    · refine List.pairwise_append.2 ⟨h.inc _ hz, by simp, fun a ha b hb => ?_⟩
      obtain ⟨j, rfl, hj, _⟩ := h.val _ hz a ha
      rw [List.mem_singleton.1 hb]
      omega
  · rcases addTo_mem hx with h1 | rfl | ⟨zs, hz, rfl⟩
    · obtain ⟨j, e, hj, hq⟩ := h.val x h1 i hi
      exact ⟨j, e, by omega, hq⟩
    · rw [List.mem_singleton.1 hi]
      exact ⟨m, rfl, by omega, hp⟩
    · rcases List.mem_append.1 hi with hi | hi
      · obtain ⟨j, e, hj, hq⟩ := h.val _ hz i hi
        exact ⟨j, e, by omega, hq⟩
      · rw [List.mem_singleton.1 hi]
        exact ⟨m, rfl, by omega, hp⟩
theorem grp_ok {ps : List S35} : ∀ (r : List S35) (m : Nat) (G : List (S35 × List Int)), GrpOK ps m G → ps.drop m = r → GrpOK ps (m + r.length) (grpFrom G m r)
  | [], m, G, h, _ => h
  | p :: r, m, G, h, e => by
    have hp : ps[m]? = some p := by
      have h1 : (ps.drop m)[0]? = some p := by rw [e]; rfl
      rw [List.getElem?_drop] at h1
      exact h1
    have hr : ps.drop (m + 1) = r := by
      rw [← List.drop_drop, e]
      rfl
    have := grp_ok r (m + 1) _ (h.step hp) hr
    rw [grpFrom, List.length_cons]
    rw [show m + (r.length + 1) = m + 1 + r.length by omega]
    exact this
theorem grp_all (ps : List S35) : GrpOK ps ps.length (grpFrom [] 0 ps) := by
  have := grp_ok (ps := ps) ps 0 [] ⟨by simp, by simp, by simp, by simp, by simp⟩ (by simp)
  simpa using this
theorem idsOf_mem : ∀ {G : List (S35 × List Int)} {p : S35} {zs : List Int}, (G.map (·.1)).Nodup → (p, zs) ∈ G → idsOf G p = zs
  | [], _, _, _, h => by simp at h
  | y :: G, p, zs, hn, h => by
    rw [List.map_cons, List.nodup_cons] at hn
    rw [idsOf]
    rcases List.mem_cons.1 h with h | h
    · rw [if_pos ((eq35_iff _ _).2 (by rw [← h])), ← h]
    · rw [if_neg (fun he => hn.1 (by rw [(eq35_iff _ _).1 he]; exact List.mem_map.2 ⟨_, h, rfl⟩))]
      exact idsOf_mem hn.2 h
structure GOK (ps ss : List S35) (gs : List (List Int)) : Prop where
  len : gs.length = ss.length
  lt : ∀ i : Nat, i + 1 < ss.length → vlt (rd_T35 ss (i : Int)) (rd_T35 ss ((i + 1 : Nat) : Int))
  ne : ∀ i : Nat, i < ss.length → (gs.getD i []).length ≠ 0
  id : ∀ i k : Nat, i < ss.length → k < (gs.getD i []).length → ∃ j : Nat, (gs.getD i []).getD k 0 = (j : Int) ∧ j < ps.length ∧ ps.getD j z35 = rd_T35 ss (i : Int) ∧ (0 < k → (gs.getD i []).getD (k - 1) 0 < (j : Int))
  sum : (gs.map List.length).sum = ps.length
theorem gok {ps ss : List S35} (hp : ss.Perm ((grpFrom [] 0 ps).map (·.1))) (hw : ss.Pairwise vlt) : GOK ps ss (ss.map (idsOf (grpFrom [] 0 ps))) := by
  have hG := grp_all ps
  generalize grpFrom [] 0 ps = G at *
  have hin : ∀ i : Nat, i < ss.length → ∃ zs, (rd_T35 ss (i : Int), zs) ∈ G ∧ (ss.map (idsOf G)).getD i [] = zs := by
    intro i hi
    have e : ss[i]? = some (rd_T35 ss (i : Int)) := by
      rw [rd_T35, Int.toNat_natCast, List.getD_eq_getElem?_getD, List.getElem?_eq_getElem hi]
      rfl
    have hm := (List.Perm.mem_iff hp).1 (List.mem_of_getElem? e)
    obtain ⟨⟨q, zs⟩, hq, e2⟩ := List.mem_map.1 hm
    have e3 : q = rd_T35 ss (i : Int) := e2
    subst e3
    refine ⟨zs, hq, ?_⟩
    rw [List.getD_eq_getElem?_getD, List.getElem?_map, e]
    exact idsOf_mem hG.nodup hq
  refine ⟨by simp, fun i hi => ?_, fun i hi => ?_, fun i k hi hk => ?_, ?_⟩
  · have h1 := List.pairwise_iff_getElem.1 hw i (i + 1) (by omega) hi (by omega)
    have e1 : rd_T35 ss (i : Int) = ss[i]'(by omega) := by
      rw [rd_T35, Int.toNat_natCast, List.getD_eq_getElem?_getD, List.getElem?_eq_getElem (by omega)]
      rfl
    have e2 : rd_T35 ss ((i + 1 : Nat) : Int) = ss[i + 1]'hi := by
      rw [rd_T35, Int.toNat_natCast, List.getD_eq_getElem?_getD, List.getElem?_eq_getElem (by omega)]
      rfl
    rw [e1, e2]
    exact h1
  · obtain ⟨zs, hz, e⟩ := hin i hi
    rw [e]
    exact fun h => hG.ne _ hz (List.eq_nil_of_length_eq_zero h)
  · obtain ⟨zs, hz, e⟩ := hin i hi
    rw [e] at hk ⊢
    have ek : zs.getD k 0 = zs[k]'hk := by rw [List.getD_eq_getElem?_getD, List.getElem?_eq_getElem hk]; rfl
    obtain ⟨j, e1, hj, hq⟩ := hG.val _ hz _ (List.getElem_mem hk)
    refine ⟨j, ek.trans e1, hj, by rw [List.getD_eq_getElem?_getD, hq]; rfl, fun h0 => ?_⟩
    have e0 : zs.getD (k - 1) 0 = zs[k - 1]'(by omega) := by rw [List.getD_eq_getElem?_getD, List.getElem?_eq_getElem (by omega)]; rfl
    rw [e0, ← e1]
    exact List.pairwise_iff_getElem.1 (show zs.Pairwise (· < ·) from hG.inc _ hz) (k - 1) k (by omega) hk (by omega)
  · rw [List.map_map]
    have h1 := (hp.map (fun s => (idsOf G s).length)).sum_nat
    rw [List.map_map] at h1
    refine h1.trans ?_
    rw [← hG.sum]
    congr 1
    refine List.map_congr_left fun x hx => ?_
    show (idsOf G x.1).length = x.2.length
    rw [idsOf_mem hG.nodup (p := x.1) (zs := x.2) hx]
theorem GOK.mem {ps ss : List S35} {gs : List (List Int)} (h : GOK ps ss gs) (i : Nat) (hi : i < ss.length) : rd_T35 ss (i : Int) ∈ ps := by
  obtain ⟨j, _, hj, e, _⟩ := h.id i 0 hi (by have := h.ne i hi; omega)
  rw [← e, List.getD_eq_getElem?_getD, List.getElem?_eq_getElem hj]
  exact List.getElem_mem hj
theorem sign_lt {a b : Int} (h : a < b) : chapmanref06_sign.f a b = some (-1) := by
  unfold chapmanref06_sign.f
  rw [if_pos h]
theorem bt_of {s : ByteArray} {i : Nat} (h : i < s.size) : bt s (i : Int) = ((s.data.toList[i]'(by simpa using h)).toNat : Int) := by
  unfold bt
  rw [dif_pos (by simpa using h)]
  rfl
theorem strings_step {a b : ByteArray} {k i : Nat} (h0 : i < a.size) (h1 : i < b.size) (hi : i < 1000000) : chapmanref06_Strings.l0 (k + 2) a b (i : Int) = if bt a (i : Int) = bt b (i : Int) then chapmanref06_Strings.l0 k a b ((i + 1 : Nat) : Int) else chapmanref06_sign.f (wrap64 (bt a (i : Int))) (wrap64 (bt b (i : Int))) := by
  have hw : wrap64 ((i : Int) + 1) = ((i + 1 : Nat) : Int) := by unfold wrap64; omega
  rw [chapmanref06_Strings.l0, if_pos (by omega), decide_eq_true (by omega), chapmanref06_Strings.j1, if_pos rfl, if_pos (by omega), if_pos (by omega), if_pos (by omega), hw]
  split
  · rfl
  · cases chapmanref06_sign.f (wrap64 (bt a (i : Int))) (wrap64 (bt b (i : Int))) <;> rfl
theorem strings_end {a b : ByteArray} {k i : Nat} (h0 : ¬ i < a.size) : chapmanref06_Strings.l0 (k + 2) a b (i : Int) = chapmanref06_sign.f (a.size : Int) (b.size : Int) := by
  rw [chapmanref06_Strings.l0, if_neg (by omega), chapmanref06_Strings.j1, if_neg (by decide)]
  cases chapmanref06_sign.f (a.size : Int) (b.size : Int) <;> rfl
theorem wrap_byte (x : UInt8) : wrap64 ((x.toNat : Nat) : Int) = ((x.toNat : Nat) : Int) := by
  have := x.toNat_lt
  unfold wrap64
  omega
theorem strings_lt {a b : ByteArray} (hs : a.size ≤ 1000) (hs2 : b.size ≤ 1000) (d : Nat) : ∀ (k i : Nat), a.size - i = d → i ≤ a.size → i ≤ b.size → a.data.toList.drop i < b.data.toList.drop i → 2 * d + 2 ≤ k → chapmanref06_Strings.l0 k a b (i : Int) = some (-1) := by
  have sa : a.data.toList.length = a.size := by simp
  have sb : b.data.toList.length = b.size := by simp
  induction d with
  | zero =>
    intro k i hd ha hb h hk
    obtain ⟨k', rfl⟩ : ∃ k', k = k' + 2 := ⟨k - 2, by omega⟩
    rw [strings_end (by omega)]
    refine sign_lt ?_
    rcases Nat.lt_or_ge i b.size with h1 | h1
    · omega
    · rw [show b.data.toList.drop i = [] from List.drop_eq_nil_of_le (by omega)] at h
      exact absurd h (List.not_lt_nil _)
  | succ d ih =>
    intro k i hd ha hb h hk
    obtain ⟨k', rfl⟩ : ∃ k', k = k' + 2 := ⟨k - 2, by omega⟩
    have h0 : i < a.size := by omega
    rcases Nat.lt_or_ge i b.size with h1 | h1
    · rw [strings_step h0 h1 (by omega), bt_of h0, bt_of h1]
      rw [List.drop_eq_getElem_cons (by omega), List.drop_eq_getElem_cons (show i < b.data.toList.length by omega), List.cons_lt_cons_iff] at h
      rcases h with h | ⟨he, h⟩
      · have hxy := UInt8.lt_iff_toNat_lt.1 h
        rw [if_neg (by omega), wrap_byte, wrap_byte, sign_lt (by omega)]
      · rw [if_pos (by rw [he]), ih k' (i + 1) (by omega) (by omega) (by omega) h (by omega)]
    · rw [show b.data.toList.drop i = [] from List.drop_eq_nil_of_le (by omega)] at h
      exact absurd h (List.not_lt_nil _)
theorem cmp_lt {x y : S35} (hx : x.f2.size ≤ 40) (hy : y.f2.size ≤ 40) (h : vlt x y) : chapmanref06_Cmp.f 100 x.f0 x.f1 x.f2 y.f0 y.f1 y.f2 = some (-1) := by
  unfold chapmanref06_Cmp.f
  rcases h with h | ⟨h0, h | ⟨h1, h⟩⟩
  · rw [if_neg (by omega), sign_lt h]
    rfl
  · rw [if_pos h0, if_neg (by omega), sign_lt h]
    rfl
  · rw [if_pos h0, if_pos h1]
    unfold chapmanref06_Strings.f
    rw [Lib.toList_data, Lib.toList_data] at h
    have := strings_lt (a := x.f2) (b := y.f2) (by omega) (by omega) x.f2.size 100 0 (by omega) (by omega) (by omega) (by simpa using h) (by omega)
    rw [show (0 : Int) = ((0 : Nat) : Int) from rfl, this]
    rfl
theorem at_Int {w : World} {A : Option Addr} {n : Nat} {xs : List Int} (h : Kd.C (Kd.int .i64) w A n xs) (i : Int) (h0 : 0 ≤ i) (h1 : i < n) : ∃ ad, A = some ad ∧ w.cell? (ad.add i.toNat) = some (.int .i64 (xs.getD i.toNat 0)) := by
  obtain ⟨ad, c, e, _, hK, hc0⟩ := Kd.C_get h (0 : Int) i h0 h1
  have hK' : c = [.int .i64 (xs.getD i.toNat 0)] := hK
  subst hK'
  exact ⟨ad, e, by simpa [Kd.int, Kd.scalar] using hc0 0 _ rfl⟩
structure GrpD (a b n : Int) (b9 b11 : Nat) (AS : Option Addr) (cS : Nat) (ss : List S35) (AG : Option Addr) (cG : Nat) (gs : List (List Int)) (AL : Option Addr) (L : List (List S35)) (X : World) : Prop where
  sp : X.heap[b9]? = some (.cells #[.int .i64 a, .int .i64 b, .int .i64 n] 27 (0, 0))
  gr : X.heap[b11]? = some (.cells #[.slice AS ss.length cS, .slice AG gs.length cG] 49 (0, 0))
  s : Kd.C k35 X AS ss.length ss
  g : Kd.C (Kd.slice 3 (Kd.int .i64)) X AG gs.length gs
  l : Kd.C (Kd.slice 35 k35) X AL L.length L
theorem GrpD.below {a b n : Int} {b9 b11 : Nat} {AS : Option Addr} {cS : Nat} {ss : List S35} {AG : Option Addr} {cG : Nat} {gs : List (List Int)} {AL : Option Addr} {L : List (List S35)} {X Y : World} (h : GrpD a b n b9 b11 AS cS ss AG cG gs AL L X) (hb : Below X.heap.size X Y) : GrpD a b n b9 b11 AS cS ss AG cG gs AL L Y :=
  ⟨blk_below h.sp hb, blk_below h.gr hb, Kd.C_below h.s hb, Kd.C_below h.g hb, Kd.C_below h.l hb⟩
def sumTo (gs : List (List Int)) (i : Nat) : Nat := ((gs.take i).map List.length).sum
theorem sumTo_succ {gs : List (List Int)} {i : Nat} (h : i < gs.length) : sumTo gs (i + 1) = sumTo gs i + (gs.getD i []).length := by
  unfold sumTo
  rw [List.take_add_one, List.getElem?_eq_getElem h, List.getD_eq_getElem?_getD, List.getElem?_eq_getElem h, List.map_append, List.sum_append]
  rfl
theorem sumTo_all {gs : List (List Int)} : sumTo gs gs.length = (gs.map List.length).sum := by
  unfold sumTo
  rw [List.take_length]
theorem sumTo_le (gs : List (List Int)) (i : Nat) : sumTo gs i ≤ (gs.map List.length).sum := by
  unfold sumTo
  conv => rhs; rw [← List.take_append_drop i gs, List.map_append, List.sum_append]
  omega
theorem grp_end1 {i m : Nat} (h : i < m) : m - (intOf (.int .i64 ((i + 1 : Nat) : Int))).toNat < m - (intOf (.int .i64 (i : Int))).toNat := by
  simp [intOf]
  omega
theorem below_cell {X Y : World} {a : Addr} {v : Value} (h : X.cell? a = some v) (hb : Below X.heap.size X Y) : Y.cell? a = some v := (hb.cell (row_cell_lt h)).trans h
theorem cell27g {X : World} {g : Nat} {a b n : Int} (h : X.heap[g]? = some (.cells #[.int .i64 a, .int .i64 b, .int .i64 n] 27 (0, 0))) : X.cell? ⟨g, 0, none⟩ = some (.int .i64 a) ∧ X.cell? ⟨g, 1, none⟩ = some (.int .i64 b) ∧ X.cell? ⟨g, 2, none⟩ = some (.int .i64 n) :=
  ⟨(blk_cell h 0).trans rfl, (blk_cell h 1).trans rfl, (blk_cell h 2).trans rfl⟩
attribute [local go_sem high] eqA35
theorem grp_le {ps ss : List S35} {n : Nat} (h : ss.Perm ((grpFrom [] 0 ps).map (·.1))) (hn : ps.length ≤ n) : ss.length ≤ n := by
  have h1 := h.length_eq
  have h2 := grp_len ps [] 0
  rw [List.length_map] at h1
  rw [List.length_nil] at h2
  omega
theorem inc_int {i : Nat} (h : i < 1000000) : Value.int .i64 (wrap64 ((i : Int) + 1)) = .int .i64 ((i + 1 : Nat) : Int) := by
  congr 1
  unfold wrap64
  omega
theorem grp_end2 {i m : Nat} (h : i < m) (hi : i < 1000000) : m - (intOf (.int .i64 (wrap64 ((i : Int) + 1)))).toNat < m - (intOf (.int .i64 (i : Int))).toNat := by
  rw [inc_int hi]
  exact grp_end1 h
theorem grp_sum {ps ss : List S35} {gs : List (List Int)} {g : List Int} {i : Nat} (h : GOK ps ss gs) (hi : i < gs.length) (hg : gs.getD i [] = g) : sumTo gs i + g.length ≤ ps.length := by
  have h1 := sumTo_succ hi
  rw [hg] at h1
  have h2 := sumTo_le gs (i + 1)
  have h3 := h.sum
  omega
theorem wrap_pred {k : Nat} (h0 : 0 < k) (h : k < 1000000) : wrap64 ((k : Int) - 1) = (k : Int) - 1 := by
  unfold wrap64
  omega
def grpRel13 (b11 nS cS nG cG i m cg : Nat) (AS AG : Addr) (A2 : Option Addr) (z : Int) (x y : S35) (ix : Nat) (v : Value) (X : World) : Prop := match ix with
  | 0 => v = .int .i64 (i : Int)
  | 1 => v = .bool (decide (0 < i))
  | 2 => v = .bool (decide (0 < i))
  | 3 => (0 < i → v = .pointer (some ⟨b11, 0, none⟩))
  | 4 => (0 < i → v = .slice (some AS) nS cS)
  | 5 => (0 < i → v = .int .i64 (i : Int))
  | 6 => (0 < i → v = .int .i64 z)
  | 7 => (0 < i → v = .pointer (some (AS.add (z.toNat * 3))))
  | 8 => (0 < i → v = .agg #[.int .i64 x.f0, .int .i64 x.f1, .string x.f2])
  | 9 => (0 < i → v = .pointer (some ⟨b11, 0, none⟩))
  | 10 => (0 < i → v = .slice (some AS) nS cS)
  | 11 => (0 < i → v = .int .i64 (i : Int))
  | 12 => (0 < i → v = .pointer (some (AS.add (i * 3))))
  | 13 => (0 < i → v = .agg #[.int .i64 y.f0, .int .i64 y.f1, .string y.f2])
  | 14 => (0 < i → v = .int .i64 (-1))
  | 15 => (0 < i → v = .bool false)
  | 16 => v = .bool false
  | 17 => v = .bool false
  | 18 => v = .pointer (some ⟨b11, 1, none⟩)
  | 19 => v = .slice (some AG) nG cG
  | 20 => v = .int .i64 (i : Int)
  | 21 => v = .pointer (some (AG.add i))
  | 22 => v = .slice A2 m cg
  | 23 => v = .int .i64 (m : Int)
  | 24 => v = .bool false
  | 25 => v = .bool false
  | _ => True
theorem grpRel13.stable (b11 nS cS nG cG i m cg : Nat) (AS AG : Addr) (A2 : Option Addr) (z : Int) (x y : S35) : ∀ ix v X Y, Below X.heap.size X Y → grpRel13 b11 nS cS nG cG i m cg AS AG A2 z x y ix v X → grpRel13 b11 nS cS nG cG i m cg AS AG A2 z x y ix v Y := by
  intro ix v X Y hb h
  match ix, h with
  | 0, h => exact h
  | 1, h => exact h
  | 2, h => exact h
  | 3, h => exact h
  | 4, h => exact h
  | 5, h => exact h
  | 6, h => exact h
  | 7, h => exact h
  | 8, h => exact h
  | 9, h => exact h
  | 10, h => exact h
  | 11, h => exact h
  | 12, h => exact h
  | 13, h => exact h
  | 14, h => exact h
  | 15, h => exact h
  | 16, h => exact h
  | 17, h => exact h
  | 18, h => exact h
  | 19, h => exact h
  | 20, h => exact h
  | 21, h => exact h
  | 22, h => exact h
  | 23, h => exact h
  | 24, h => exact h
  | 25, h => exact h
  | ix + 26, _ => exact trivial
def grpRel19 (b11 nS cS nG cG nL cL i k j m cg r cr : Nat) (AS AG A2 AL : Addr) (A3 : Option Addr) (z jp a b n : Int) (y : S35) (ix : Nat) (v : Value) (X : World) : Prop := match ix with
  | 0 => v = .int .i64 (j : Int)
  | 1 => v = .bool false
  | 2 => v = .bool false
  | 3 => v = .int .i64 (j : Int)
  | 4 => v = .slice (some AL) nL cL
  | 5 => v = .int .i64 (nL : Int)
  | 6 => v = .bool false
  | 7 => v = .bool false
  | 8 => v = .bool false
  | 9 => v = .int .i64 (k : Int)
  | 10 => v = .bool (decide (0 < k))
  | 11 => v = .bool (decide (0 < k))
  | 12 => (0 < k → v = .pointer (some ⟨b11, 1, none⟩))
  | 13 => (0 < k → v = .slice (some AG) nG cG)
  | 14 => (0 < k → v = .int .i64 (i : Int))
  | 15 => (0 < k → v = .pointer (some (AG.add i)))
  | 16 => (0 < k → v = .slice (some A2) m cg)
  | 17 => (0 < k → v = .int .i64 (k : Int))
  | 18 => (0 < k → v = .int .i64 z)
  | 19 => (0 < k → v = .pointer (some (A2.add z.toNat)))
  | 20 => (0 < k → v = .int .i64 jp)
  | 21 => (0 < k → v = .int .i64 (j : Int))
  | 22 => (0 < k → v = .bool false)
  | 23 => v = .bool false
  | 24 => v = .bool false
  | 25 => v = .bool false
  | 26 => v = .agg #[.int .i64 a, .int .i64 b, .int .i64 n]
  | 27 => v = .slice (some AL) nL cL
  | 28 => v = .int .i64 (j : Int)
  | 29 => v = .pointer (some (AL.add j))
  | 30 => v = .slice A3 r cr
  | 31 => v = .agg #[.int .i64 y.f0, .int .i64 y.f1, .string y.f2]
  | 32 => v = .pointer (some ⟨b11, 0, none⟩)
  | 33 => v = .slice (some AS) nS cS
  | 34 => v = .int .i64 (i : Int)
  | 35 => v = .pointer (some (AS.add (i * 3)))
  | 36 => v = .agg #[.int .i64 y.f0, .int .i64 y.f1, .string y.f2]
  | 37 => v = .bool false
  | 38 => v = .bool false
  | _ => True
theorem grpRel19.stable (b11 nS cS nG cG nL cL i k j m cg r cr : Nat) (AS AG A2 AL : Addr) (A3 : Option Addr) (z jp a b n : Int) (y : S35) : ∀ ix v X Y, Below X.heap.size X Y → grpRel19 b11 nS cS nG cG nL cL i k j m cg r cr AS AG A2 AL A3 z jp a b n y ix v X → grpRel19 b11 nS cS nG cG nL cL i k j m cg r cr AS AG A2 AL A3 z jp a b n y ix v Y := by
  intro ix v X Y hb h
  match ix, h with
  | 0, h => exact h
  | 1, h => exact h
  | 2, h => exact h
  | 3, h => exact h
  | 4, h => exact h
  | 5, h => exact h
  | 6, h => exact h
  | 7, h => exact h
  | 8, h => exact h
  | 9, h => exact h
  | 10, h => exact h
  | 11, h => exact h
  | 12, h => exact h
  | 13, h => exact h
  | 14, h => exact h
  | 15, h => exact h
  | 16, h => exact h
  | 17, h => exact h
  | 18, h => exact h
  | 19, h => exact h
  | 20, h => exact h
  | 21, h => exact h
  | 22, h => exact h
  | 23, h => exact h
  | 24, h => exact h
  | 25, h => exact h
  | 26, h => exact h
  | 27, h => exact h
  | 28, h => exact h
  | 29, h => exact h
  | 30, h => exact h
  | 31, h => exact h
  | 32, h => exact h
  | 33, h => exact h
  | 34, h => exact h
  | 35, h => exact h
  | 36, h => exact h
  | 37, h => exact h
  | 38, h => exact h
  | ix + 39, _ => exact trivial
set_option maxRecDepth 100000 in
set_option maxHeartbeats 16000000 in
theorem chapmanlaw32_PartitionGroups.calls (A0 : Option Addr) (c0 : Nat) (l0 : List Int) (b0 b1 b2 : Int) (A1 : Option Addr) (c1 : Nat) (ls : List (List Int)) (w : World) (hG : Laid w)
    (hr0 : Kd.C (Kd.int .u8) w A0 l0.length l0) (hc0 : l0.length ≤ c0) (hr1 : Kd.C (Kd.slice 5 (Kd.int .u8)) w A1 ls.length ls)
    (hb0 : 0 ≤ b0 ∧ b0 < 256) (hb1 : 0 ≤ b1 ∧ b1 < 256) (hb2 : 0 ≤ b2 ∧ b2 < 256) (hls : ∀ l ∈ ls, ∀ x ∈ l, 0 ≤ x ∧ x < 256)
    (T : List S63) (hT : chapmanref11_Types.f 100 l0 = some T) (hTl : T.length ≤ 1000) (a b n : Int) (hs : chapmanref32_Made.f T b0 b1 b2 = ⟨a, b, n⟩) (L : List (List S35)) (hL : L.length = min ls.length 12) (hv : ∀ i, i < L.length → RowOf 100 T (ls.getD i []) (L.getD i []))
    (ps : List S35) (hps : ps.length = L.length) (hof : ∀ j, j < L.length → partition_Of.f 100 a b n (L.getD j []) = some ((ps.getD j z35).f0, (ps.getD j z35).f1, (ps.getD j z35).f2)) (hok : ∀ p ∈ ps, OkKey p) (hcmp : ∀ p ∈ ps, p.f2.size ≤ 40) :
    Calls Tryz.prog 5 #[.slice A0 l0.length c0, .agg #[.int .u8 b0, .int .u8 b1, .int .u8 b2], .slice A1 ls.length c1] w fun e w' => e = .returned (.bool true) ∧ Below w.heap.size w w' := by
  have hu27 := Tryz.underlying27
  have hu29 := Tryz.underlying29
  have hu22 := Tryz.underlying22
  have hu24 := Tryz.underlying24
  have hu25 := Tryz.underlying25
  have hu35 := Tryz.underlying35
  have hu28 := Tryz.underlying28
  have hu40 := Tryz.underlying40
  have hu47 := Tryz.underlying47
  have hu49 := Tryz.underlying49
  have hu75 := Tryz.underlying75
  have HGl := Lib.hid hG
  have HR0 := Lib.hid hr0
  have HR1 := Lib.hid hr1
  have HLS := Lib.hid hls
  have HT := Lib.hid hT
  have HTL : RowKit.Hid (T.length ≤ 100000) := Lib.hid (by omega)
  have HTM : RowKit.Hid (T.length ≤ 1000000) := Lib.hid (by omega)
  have HS := Lib.hid hs
  have HLL := Lib.hid hL
  have HV := Lib.hid hv
  have HPS := Lib.hid hps
  have HOFS := Lib.hid hof
  have HOK := Lib.hid hok
  have HCM := Lib.hid hcmp
  have HB0 := Lib.hid hb0
  have HB1 := Lib.hid hb1
  have HB2 := Lib.hid hb2
  have HL12 : RowKit.Hid (L.length ≤ 12) := Lib.hid (by omega)
  clear hG hr0 hr1 hls hT hTl hs hL hv hps hof hok hcmp hb0 hb1 hb2
  go_enter Tryz.func5, Tryz.ntmps5
  go_wp2_with fail
  have E0 := heap_alloc_new w (.cells #[.int .u8 b0, .int .u8 b1, .int .u8 b2] 29)
  have hB := below_alloc (Below.refl w.heap.size w) (.cells #[.int .u8 b0, .int .u8 b1, .int .u8 b2] 29)
  generalize w.alloc (.cells #[.int .u8 b0, .int .u8 b1, .int .u8 b2] 29) = W at *
  refine (chapmanlaw32_examples.calls W (HGl.out.below hB)).mono ?_
  rintro e w1 ⟨rfl, hb⟩
  have HB := Lib.hid (below_step hB hb)
  have HE0 := Lib.hid (blk_below E0 hb)
  clear hb hB E0 W
  go_wp2_with fail
  refine (chapmanref11_Types.calls 100 A0 c0 l0 T w1 (Kd.C_below HR0.out HB.out) hc0 HT.out).mono ?_
  rintro e w2 ⟨v0, rfl, hR, hb⟩
  have hV : Kd.V k63 63 w2 w2.heap.size (fun _ => True) v0 T := Kd.R_V hR
  obtain ⟨AT, cT, rfl⟩ := Kd.V_slice hV
  obtain ⟨_, hcT, hCT⟩ := Kd.V_reads' hV
  replace HB := Lib.hid (below_step HB.out hb)
  have E0 := blk_below HE0.out hb
  have HCT := Lib.hid hCT
  have u0 : w2.cell? ⟨w.heap.size, 0, none⟩ = some (.int .u8 b0) := (blk_cell E0 0).trans rfl
  have u1 : w2.cell? ⟨w.heap.size, 1, none⟩ = some (.int .u8 b1) := (blk_cell E0 1).trans rfl
  have u2 : w2.cell? ⟨w.heap.size, 2, none⟩ = some (.int .u8 b2) := (blk_cell E0 2).trans rfl
  clear hb hR hV hCT HE0 E0 HR0 HT HGl w1
  go_wp2_with fail
  have hm := chapmanref32_Made.calls AT cT T b0 b1 b2 w2 HCT.out HTM.out HB0.out HB1.out HB2.out
  rw [HS.out] at hm
  refine hm.mono ?_
  rintro e w3 ⟨rfl, hb⟩
  replace HCT := Lib.hid (Kd.C_below HCT.out hb)
  replace HB := Lib.hid (below_step HB.out hb)
  clear hb hm u0 u1 u2 HS HB0 HB1 HB2 w2
  simp only [v27]
  go_wp2_with fail
  refine (chapmanref29_Rows.calls 100 AT cT T A1 c1 ls L w3 HCT.out HTL.out (Kd.C_below HR1.out HB.out) HLS.out HLL.out HV.out).mono ?_
  rintro e w4 ⟨AL, cL, rfl, hcL, hCL, hb⟩
  have hBx := below_step hb (below_alloc (Below.refl w4.heap.size w4) (.cells #[.int .i64 a, .int .i64 b, .int .i64 n] 27))
  replace HB := Lib.hid (below_step HB.out hBx)
  have HE9 := Lib.hid (heap_alloc_new w4 (.cells #[.int .i64 a, .int .i64 b, .int .i64 n] 27))
  have HCL := Lib.hid (Kd.C_below hCL (below_alloc (Below.refl w4.heap.size w4) (.cells #[.int .i64 a, .int .i64 b, .int .i64 n] 27)))
  obtain ⟨k0, k1, k2⟩ := cell27g HE9.out
  clear hb hBx hCL HCT HR1 HLS HLL HV HTL HTM w3
  go_wp2_with fail
  generalize w4.alloc (.cells #[.int .i64 a, .int .i64 b, .int .i64 n] 27) = W at *
  generalize w4.heap.size = b9 at *
  clear w4
  refine (chapmanlaw32_grouped.calls 100 a b n AL cL L ps HPS.out (by have := HL12.out; omega) HOFS.out HOK.out W HCL.out hcL).mono ?_
  rintro e w5 ⟨AS, cS, AG, cG, ss, rfl, hperm, hpw, hCS, hcS, hCG, hcG, hb⟩
  have HGK := Lib.hid (gok hperm hpw)
  have HSL := Lib.hid (grp_le hperm (by rw [HPS.out]; exact HL12.out))
  generalize ss.map (idsOf (grpFrom [] 0 ps)) = gs at *
  have hBx := below_step hb (below_alloc (Below.refl w5.heap.size w5) (.cells #[.slice AS ss.length cS, .slice AG gs.length cG] 49))
  replace HB := Lib.hid (below_step HB.out hBx)
  have HD := Lib.hid (show GrpD a b n b9 w5.heap.size AS cS ss AG cG gs AL L (w5.alloc (.cells #[.slice AS ss.length cS, .slice AG gs.length cG] 49)) from ⟨blk_below HE9.out hBx, heap_alloc_new _ _, Kd.C_below hCS (below_alloc (Below.refl w5.heap.size w5) _), Kd.C_below hCG (below_alloc (Below.refl w5.heap.size w5) _), Kd.C_below HCL.out hBx⟩)
  have m0 : (w5.alloc (.cells #[.slice AS ss.length cS, .slice AG gs.length cG] 49)).cell? ⟨w5.heap.size, 0, none⟩ = some (.slice AS ss.length cS) := (blk_cell HD.out.gr 0).trans rfl
  have m1 : (w5.alloc (.cells #[.slice AS ss.length cS, .slice AG gs.length cG] 49)).cell? ⟨w5.heap.size, 1, none⟩ = some (.slice AG gs.length cG) := (blk_cell HD.out.gr 1).trans rfl
  have hnl : ((ss.length : Int) != (gs.length : Int)) = false := by rw [HGK.out.len]; simp
  clear hperm hpw hCS hCG hb hBx HE9 HCL k0 k1 k2 HOK
  go_wp2_with fail
  generalize w5.alloc (.cells #[.slice AS ss.length cS, .slice AG gs.length cG] 49) = W9 at *
  generalize w5.heap.size = b11 at *
  clear m0 m1 hnl w5 W
  go_loopw [12, 13, 14, 15] (fun s12 s13 _ _ wr => ∃ i : Nat, s13 = .int .i64 (i : Int) ∧ i ≤ ss.length ∧ s12 = .int .i64 (sumTo gs i : Int) ∧ Below W9.heap.size W9 wr) (fun _ s13 _ _ _ => ss.length - (intOf s13).toNat)
  case atStart => exact ⟨0, rfl, Nat.zero_le _, rfl, Below.refl _ _⟩
  case round =>
    obtain ⟨i, rfl, hi, rfl, hX⟩ := hrel
    replace HB := Lib.hid (below_step HB.out hX)
    replace HD := Lib.hid (HD.out.below hX)
    have m0 : wr.cell? ⟨b11, 0, none⟩ = some (.slice AS ss.length cS) := (blk_cell HD.out.gr 0).trans rfl
    by_cases hlt : i < ss.length
    · have hd : decide ((i : Int) < (ss.length : Int)) = true := decide_eq_true (by omega)
      have hig : i < gs.length := by rw [HGK.out.len]; exact hlt
      obtain ⟨AS', rfl, -⟩ := at_T35 HD.out.s (i : Int) (by omega) (by omega)
      obtain ⟨AG', A2, cg, rfl, r0, -, hrg⟩ := at_LL HD.out.g (i : Int) (by omega) (by omega)
      have HLT : RowKit.Hid (i < ss.length ∧ i < gs.length) := Lib.hid ⟨hlt, hig⟩
      have hne := HGK.out.ne i hlt
      obtain ⟨z, hz⟩ : ∃ z, (i : Int) - 1 = z := ⟨_, rfl⟩
      obtain ⟨x, hx⟩ : ∃ x, rd_T35 ss z = x := ⟨_, rfl⟩
      have HZZ := Lib.hid (show 0 < i → 0 ≤ z ∧ z < (ss.length : Int) from fun h0 => by omega)
      have HZ := Lib.hid (show 0 < i → wrap64 ((i : Int) - 1) = z from fun h0 => by rw [← hz]; have := HSL.out; unfold wrap64; omega)
      have HX := Lib.hid hx
      have HDI := Lib.hid (show decide ((i : Int) > 0) = decide (0 < i) by simp)
      have hXW := Lib.hid hX
      obtain ⟨y, hy⟩ : ∃ y, rd_T35 ss (i : Int) = y := ⟨_, rfl⟩
      obtain ⟨g, hg⟩ : ∃ g, gs.getD i [] = g := ⟨_, rfl⟩
      rw [hg] at hne
      simp only [Int.toNat_natCast] at r0 hrg
      rw [hg] at r0 hrg
      have HRG := Lib.hid (And.intro r0 hrg)
      have HNE := Lib.hid hne
      have HY := Lib.hid hy
      have HGG := Lib.hid hg
      have HC := Lib.hid (show 0 < i → chapmanref06_Cmp.f 100 x.f0 x.f1 x.f2 y.f0 y.f1 y.f2 = some (-1) from fun h0 => by
        have e1 : z = ((i - 1 : Nat) : Int) := by omega
        have h1 := HGK.out.lt (i - 1) (by omega)
        rw [show i - 1 + 1 = i by omega, ← e1, hx, hy] at h1
        exact cmp_lt (hx ▸ e1 ▸ HCM.out _ (HGK.out.mem (i - 1) (by omega))) (hy ▸ HCM.out _ (HGK.out.mem i hlt)) h1)
      clear hy hg hne hi hig hz hx hX r0 hrg
      go_wp2_with fail
      clear hd m0
      refine wp_region_rel 26 136 (grpRel13 b11 ss.length cS gs.length cG i g.length cg AS' AG' A2 z x y) noApart (by kernel_rfl) (by kernel_rfl) (by rfl) (grpRel13.stable _ _ _ _ _ _ _ _ _ _ _ _ _ _) ?_ ?_
      · intro vals X hX
        have hHX := HD.out.below hX
        have m0 : X.cell? ⟨b11, 0, none⟩ = some (.slice (some AS') ss.length cS) := (blk_cell hHX.gr 0).trans rfl
        have m1 : X.cell? ⟨b11, 1, none⟩ = some (.slice (some AG') gs.length cG) := (blk_cell hHX.gr 1).trans rfl
        obtain ⟨AS1, es, t0, t1, t2⟩ := at_T35 hHX.s (i : Int) (by omega) (by have := HLT.out.1; omega)
        obtain rfl := Option.some.inj es
        rw [HY.out] at t0 t1 t2
        simp only [Int.toNat_natCast] at t0 t1 t2
        have r0 := below_cell HRG.out.1 hX
        have hi0 : (0 : Int) ≤ (i : Int) := by omega
        have hi1 : (i : Int) < (ss.length : Int) := by have := HLT.out.1; omega
        have hi2 : (i : Int) < (gs.length : Int) := by have := HLT.out.2; omega
        have hz0 := HZZ.out
        have c2 : ((g.length : Int) == 0) = false := by have := HNE.out; rw [beq_eq_false_iff_ne]; omega
        have HXX := Lib.hid (show 0 < i → X.cell? (AS'.add (z.toNat * 3)) = some (.int .i64 x.f0) ∧ X.cell? ⟨(AS'.add (z.toNat * 3)).block, (AS'.add (z.toNat * 3)).off + 1, none⟩ = some (.int .i64 x.f1) ∧ X.cell? ⟨(AS'.add (z.toNat * 3)).block, (AS'.add (z.toNat * 3)).off + 2, none⟩ = some (.string x.f2) from fun h0 => by
          obtain ⟨AS2, es, q0, q1, q2⟩ := at_T35 hHX.s z (hz0 h0).1 (hz0 h0).2
          obtain rfl := Option.some.inj es
          rw [HX.out] at q0 q1 q2
          exact ⟨q0, q1, q2⟩)
        clear hX hHX HB HD HLT HRG HNE
        simp only [putAll, Act.put, RelSteps, List.take_succ_cons, List.take_zero, List.setIfInBounds_toArray, List.set_cons_succ, List.set_cons_zero, Option.getD_some, Nat.zero_add, Nat.reduceAdd]
        refine ⟨fun hd => ?_, fun hd => ?_, fun hd => ?_, fun hd => ?_, fun hd => ?_, fun hd => ?_, fun hd => ?_, fun hd => ?_, fun hd => ?_, fun hd => ?_, fun hd => ?_, fun hd => ?_, fun hd => ?_, fun hd => ?_, fun hd => ?_, fun hd => ?_, fun hd => ?_, fun hd => ?_, fun hd => ?_, fun hd => ?_, fun hd => ?_, fun hd => ?_, fun hd => ?_, fun hd => ?_, fun hd => ?_, fun hd => ?_, trivial⟩
        · clear hd
          go_wp2_with fail
          exact rel_done rfl _ rfl (by first | rfl | exact e0 | (simp [*]; done)) noApart_all (Below.refl _ _)
        · have e0 : vals 0 = _ := hd 0 (by kernel_rfl)
          clear hd
          go_wp2_with fail
          exact rel_done rfl _ rfl (by first | rfl | exact congrArg Value.bool HDI.out | (show _ = _; simp; done)) noApart_all (Below.refl _ _)
        · have e1 : vals 1 = _ := hd 1 (by kernel_rfl)
          clear hd
          go_wp2_with fail
          exact rel_done rfl _ rfl (by first | rfl | exact e1 | (simp [*]; done)) noApart_all (Below.refl _ _)
        · have e2 : vals 2 = _ := hd 2 (by kernel_rfl)
          clear hd
          by_cases hz : 0 < i
          · rw [show decide (0 < i) = true from decide_eq_true hz] at e2
            go_wp2_with fail
            exact rel_done rfl _ rfl (fun _ => by first | rfl | exact congrArg Value.bool (by assumption) | exact congrArg _ (HZ.out hz) | (simp [*]; done)) noApart_all (Below.refl _ _)
          · rw [show decide (0 < i) = false from decide_eq_false hz] at e2
            go_wp2_with fail
            exact rel_done rfl _ rfl (fun h => absurd h hz) noApart_all (Below.refl _ _)
        · have e2 : vals 2 = _ := hd 2 (by kernel_rfl)
          have r3 := hd 3 (by kernel_rfl)
          clear hd
          skip
          by_cases hz : 0 < i
          · rw [show decide (0 < i) = true from decide_eq_true hz] at e2
            have e3 := r3 hz
            go_wp2_with fail
            exact rel_done rfl _ rfl (fun _ => by first | rfl | exact congrArg Value.bool (by assumption) | exact congrArg _ (HZ.out hz) | (simp [*]; done)) noApart_all (Below.refl _ _)
          · rw [show decide (0 < i) = false from decide_eq_false hz] at e2
            go_wp2_with fail
            exact rel_done rfl _ rfl (fun h => absurd h hz) noApart_all (Below.refl _ _)
        · have e2 : vals 2 = _ := hd 2 (by kernel_rfl)
          clear hd
          by_cases hz : 0 < i
          · rw [show decide (0 < i) = true from decide_eq_true hz] at e2
            go_wp2_with fail
            exact rel_done rfl _ rfl (fun _ => by first | rfl | exact congrArg Value.bool (by assumption) | exact congrArg _ (HZ.out hz) | (simp [*]; done)) noApart_all (Below.refl _ _)
          · rw [show decide (0 < i) = false from decide_eq_false hz] at e2
            go_wp2_with fail
            exact rel_done rfl _ rfl (fun h => absurd h hz) noApart_all (Below.refl _ _)
        · have e2 : vals 2 = _ := hd 2 (by kernel_rfl)
          have r5 := hd 5 (by kernel_rfl)
          clear hd
          skip
          by_cases hz : 0 < i
          · rw [show decide (0 < i) = true from decide_eq_true hz] at e2
            have e5 := r5 hz
            go_wp2_with fail
            exact rel_done rfl _ rfl (fun _ => by first | rfl | exact congrArg Value.bool (by assumption) | exact congrArg _ (HZ.out hz) | (simp [*]; done)) noApart_all (Below.refl _ _)
          · rw [show decide (0 < i) = false from decide_eq_false hz] at e2
            go_wp2_with fail
            exact rel_done rfl _ rfl (fun h => absurd h hz) noApart_all (Below.refl _ _)
        · have e2 : vals 2 = _ := hd 2 (by kernel_rfl)
          have r4 := hd 4 (by kernel_rfl)
          have r6 := hd 6 (by kernel_rfl)
          clear hd
          skip
          skip
          by_cases hz : 0 < i
          · rw [show decide (0 < i) = true from decide_eq_true hz] at e2
            have e4 := r4 hz
            have e6 := r6 hz
            obtain ⟨z0, z1⟩ := hz0 hz
            go_wp2_with fail
            exact rel_done rfl _ rfl (fun _ => by first | rfl | exact congrArg Value.bool (by assumption) | exact congrArg _ (HZ.out hz) | (simp [*]; done)) noApart_all (Below.refl _ _)
          · rw [show decide (0 < i) = false from decide_eq_false hz] at e2
            go_wp2_with fail
            exact rel_done rfl _ rfl (fun h => absurd h hz) noApart_all (Below.refl _ _)
        · have e2 : vals 2 = _ := hd 2 (by kernel_rfl)
          have r7 := hd 7 (by kernel_rfl)
          clear hd
          skip
          by_cases hz : 0 < i
          · rw [show decide (0 < i) = true from decide_eq_true hz] at e2
            have e7 := r7 hz
            obtain ⟨q0, q1, q2⟩ := HXX.out hz
            go_wp2_with fail
            exact rel_done rfl _ rfl (fun _ => by first | rfl | exact congrArg Value.bool (by assumption) | exact congrArg _ (HZ.out hz) | (simp [*]; done)) noApart_all (Below.refl _ _)
          · rw [show decide (0 < i) = false from decide_eq_false hz] at e2
            go_wp2_with fail
            exact rel_done rfl _ rfl (fun h => absurd h hz) noApart_all (Below.refl _ _)
        · have e2 : vals 2 = _ := hd 2 (by kernel_rfl)
          clear hd
          by_cases hz : 0 < i
          · rw [show decide (0 < i) = true from decide_eq_true hz] at e2
            go_wp2_with fail
            exact rel_done rfl _ rfl (fun _ => by first | rfl | exact congrArg Value.bool (by assumption) | exact congrArg _ (HZ.out hz) | (simp [*]; done)) noApart_all (Below.refl _ _)
          · rw [show decide (0 < i) = false from decide_eq_false hz] at e2
            go_wp2_with fail
            exact rel_done rfl _ rfl (fun h => absurd h hz) noApart_all (Below.refl _ _)
        · have e2 : vals 2 = _ := hd 2 (by kernel_rfl)
          have r9 := hd 9 (by kernel_rfl)
          clear hd
          skip
          by_cases hz : 0 < i
          · rw [show decide (0 < i) = true from decide_eq_true hz] at e2
            have e9 := r9 hz
            go_wp2_with fail
            exact rel_done rfl _ rfl (fun _ => by first | rfl | exact congrArg Value.bool (by assumption) | exact congrArg _ (HZ.out hz) | (simp [*]; done)) noApart_all (Below.refl _ _)
          · rw [show decide (0 < i) = false from decide_eq_false hz] at e2
            go_wp2_with fail
            exact rel_done rfl _ rfl (fun h => absurd h hz) noApart_all (Below.refl _ _)
        · have e2 : vals 2 = _ := hd 2 (by kernel_rfl)
          clear hd
          by_cases hz : 0 < i
          · rw [show decide (0 < i) = true from decide_eq_true hz] at e2
            go_wp2_with fail
            exact rel_done rfl _ rfl (fun _ => by first | rfl | exact congrArg Value.bool (by assumption) | exact congrArg _ (HZ.out hz) | (simp [*]; done)) noApart_all (Below.refl _ _)
          · rw [show decide (0 < i) = false from decide_eq_false hz] at e2
            go_wp2_with fail
            exact rel_done rfl _ rfl (fun h => absurd h hz) noApart_all (Below.refl _ _)
        · have e2 : vals 2 = _ := hd 2 (by kernel_rfl)
          have r10 := hd 10 (by kernel_rfl)
          have r11 := hd 11 (by kernel_rfl)
          clear hd
          skip
          skip
          by_cases hz : 0 < i
          · rw [show decide (0 < i) = true from decide_eq_true hz] at e2
            have e10 := r10 hz
            have e11 := r11 hz
            go_wp2_with fail
            exact rel_done rfl _ rfl (fun _ => by first | rfl | exact congrArg Value.bool (by assumption) | exact congrArg _ (HZ.out hz) | (simp [*]; done)) noApart_all (Below.refl _ _)
          · rw [show decide (0 < i) = false from decide_eq_false hz] at e2
            go_wp2_with fail
            exact rel_done rfl _ rfl (fun h => absurd h hz) noApart_all (Below.refl _ _)
        · have e2 : vals 2 = _ := hd 2 (by kernel_rfl)
          have r12 := hd 12 (by kernel_rfl)
          clear hd
          skip
          by_cases hz : 0 < i
          · rw [show decide (0 < i) = true from decide_eq_true hz] at e2
            have e12 := r12 hz
            go_wp2_with fail
            exact rel_done rfl _ rfl (fun _ => by first | rfl | exact congrArg Value.bool (by assumption) | exact congrArg _ (HZ.out hz) | (simp [*]; done)) noApart_all (Below.refl _ _)
          · rw [show decide (0 < i) = false from decide_eq_false hz] at e2
            go_wp2_with fail
            exact rel_done rfl _ rfl (fun h => absurd h hz) noApart_all (Below.refl _ _)
        · have e2 : vals 2 = _ := hd 2 (by kernel_rfl)
          have r8 := hd 8 (by kernel_rfl)
          have r13 := hd 13 (by kernel_rfl)
          clear hd
          skip
          skip
          by_cases hz : 0 < i
          · rw [show decide (0 < i) = true from decide_eq_true hz] at e2
            have e8 := r8 hz
            have e13 := r13 hz
            go_wp2_with fail
            refine (chapmanref06_Cmp.calls 100 _ _ _ _ _ _ (-1) _ (HC.out hz)).mono ?_
            rintro e w2 ⟨rfl, hb⟩
            go_wp2_with fail
            exact rel_done rfl _ rfl (fun _ => rfl) noApart_all hb
          · rw [show decide (0 < i) = false from decide_eq_false hz] at e2
            go_wp2_with fail
            exact rel_done rfl _ rfl (fun h => absurd h hz) noApart_all (Below.refl _ _)
        · have e2 : vals 2 = _ := hd 2 (by kernel_rfl)
          have r14 := hd 14 (by kernel_rfl)
          clear hd
          skip
          by_cases hz : 0 < i
          · rw [show decide (0 < i) = true from decide_eq_true hz] at e2
            have e14 := r14 hz
            go_wp2_with fail
            exact rel_done rfl _ rfl (fun _ => by first | rfl | exact congrArg Value.bool (by assumption) | exact congrArg _ (HZ.out hz) | (simp [*]; done)) noApart_all (Below.refl _ _)
          · rw [show decide (0 < i) = false from decide_eq_false hz] at e2
            go_wp2_with fail
            exact rel_done rfl _ rfl (fun h => absurd h hz) noApart_all (Below.refl _ _)
        · have e2 : vals 2 = _ := hd 2 (by kernel_rfl)
          have r15 := hd 15 (by kernel_rfl)
          clear hd
          skip
          by_cases hz : 0 < i
          · rw [show decide (0 < i) = true from decide_eq_true hz] at e2
            have e15 := r15 hz
            go_wp2_with fail
            exact rel_done rfl _ rfl (by first | rfl | exact e15 | (show _ = _; simp [*]; done)) noApart_all (Below.refl _ _)
          · rw [show decide (0 < i) = false from decide_eq_false hz] at e2
            go_wp2_with fail
            exact rel_done rfl _ rfl (by first | rfl | exact e2 | (show _ = _; simp [*]; done)) noApart_all (Below.refl _ _)
        · have r14 := hd 14 (by kernel_rfl)
          have r16 := hd 16 (by kernel_rfl)
          clear hd
          skip
          skip
          have e16 : vals 16 = _ := r16
          go_wp2_with fail
          exact rel_done rfl _ rfl (by first | rfl | exact e16) noApart_all (Below.refl _ _)
        · have r17 := hd 17 (by kernel_rfl)
          clear hd
          have e17 : _ = _ := r17
          go_wp2_with fail
          exact rel_done rfl _ rfl rfl noApart_all (Below.refl _ _)
        · have r17 := hd 17 (by kernel_rfl)
          have e18 : vals 18 = _ := hd 18 (by kernel_rfl)
          clear hd
          have e17 : _ = _ := r17
          go_wp2_with fail
          exact rel_done rfl _ rfl rfl noApart_all (Below.refl _ _)
        · have r17 := hd 17 (by kernel_rfl)
          clear hd
          have e17 : _ = _ := r17
          go_wp2_with fail
          exact rel_done rfl _ rfl (by first | rfl | exact e17 | (simp [*]; done)) noApart_all (Below.refl _ _)
        · have r17 := hd 17 (by kernel_rfl)
          have e19 : vals 19 = _ := hd 19 (by kernel_rfl)
          have e20 : vals 20 = _ := hd 20 (by kernel_rfl)
          clear hd
          have e17 : _ = _ := r17
          go_wp2_with fail
          exact rel_done rfl _ rfl rfl noApart_all (Below.refl _ _)
        · have r17 := hd 17 (by kernel_rfl)
          have e21 : vals 21 = _ := hd 21 (by kernel_rfl)
          clear hd
          have e17 : _ = _ := r17
          go_wp2_with fail
          exact rel_done rfl _ rfl rfl noApart_all (Below.refl _ _)
        · have r17 := hd 17 (by kernel_rfl)
          have e22 : vals 22 = _ := hd 22 (by kernel_rfl)
          clear hd
          have e17 : _ = _ := r17
          go_wp2_with fail
          exact rel_done rfl _ rfl rfl noApart_all (Below.refl _ _)
        · have r17 := hd 17 (by kernel_rfl)
          have e23 : vals 23 = _ := hd 23 (by kernel_rfl)
          clear hd
          have e17 : _ = _ := r17
          go_wp2_with fail
          exact rel_done rfl _ rfl (by first | rfl | exact congrArg Value.bool (by assumption) | (simp [*]; done)) noApart_all (Below.refl _ _)
        · have r17 := hd 17 (by kernel_rfl)
          have e24 : vals 24 = _ := hd 24 (by kernel_rfl)
          clear hd
          have e17 : _ = _ := r17
          go_wp2_with fail
          exact rel_done rfl _ rfl (by first | rfl | exact e24 | (simp [*]; done)) noApart_all (Below.refl _ _)
      · intro vals X hX hv _
        have e25 : vals 25 = _ := hv 25 (by decide)
        replace HB := Lib.hid (below_step HB.out hX)
        replace HD := Lib.hid (HD.out.below hX)
        replace HRG := Lib.hid (And.intro (below_cell HRG.out.1 hX) (Kd.C_below HRG.out.2 hX))
        have hXY := below_step hXW.out hX
        have HXY := Lib.hid hXY
        clear hv hXW hX hXY HC HX HZZ HZ HDI
        simp only [putAll, Act.put, List.take_succ_cons, List.take_zero, List.drop_succ_cons, List.drop_zero, List.setIfInBounds_toArray, List.set_cons_succ, List.set_cons_zero, Option.getD_some, Nat.zero_add, Nat.reduceAdd]
        simp only [e25]
        clear e25
        go_wp2
        go_loopw [12, 14, 15] (fun s12 s14 _ wr2 => ∃ k : Nat, s14 = .int .i64 (k : Int) ∧ k ≤ g.length ∧ s12 = .int .i64 ((sumTo gs i + k : Nat) : Int) ∧ Below X.heap.size X wr2) (fun _ s14 _ _ => g.length - (intOf s14).toNat)
        case atStart => exact ⟨0, rfl, Nat.zero_le _, rfl, Below.refl _ _⟩
        case round =>
          obtain ⟨k, rfl, hk, rfl, hX2⟩ := hrel
          replace HB := Lib.hid (below_step HB.out hX2)
          replace HD := Lib.hid (HD.out.below hX2)
          replace HRG := Lib.hid (And.intro (below_cell HRG.out.1 hX2) (Kd.C_below HRG.out.2 hX2))
          have m1 : wr.cell? ⟨b11, 1, none⟩ = some (.slice (some AG') gs.length cG) := (blk_cell HD.out.gr 1).trans rfl
          have r0 := HRG.out.1
          have hi0 : (0 : Int) ≤ (i : Int) := by omega
          have hi2 : (i : Int) < (gs.length : Int) := by have := HLT.out.2; omega
          by_cases hlk : k < g.length
          · have hd : decide ((k : Int) < (g.length : Int)) = true := decide_eq_true (by omega)
            obtain ⟨A2', rfl, t3⟩ := at_Int HRG.out.2 (k : Int) (by omega) (by omega)
            simp only [Int.toNat_natCast] at t3
            obtain ⟨j, hj, hjl, hpj, hjp⟩ := HGK.out.id i k HLT.out.1 (by rw [HGG.out]; exact hlk)
            rw [HGG.out] at hj hjp
            rw [HY.out] at hpj
            rw [hj] at t3
            have hjL : j < L.length := by rw [← HPS.out]; exact hjl
            have hof := HOFS.out j hjL
            rw [hpj] at hof
            obtain ⟨AL', A3, cr, rfl, s0, hcr, hrow⟩ := at_LL HD.out.l (j : Int) (by omega) (by omega)
            simp only [Int.toNat_natCast] at s0 hcr hrow
            obtain ⟨row, hrw⟩ : ∃ row, L.getD j [] = row := ⟨_, rfl⟩
            rw [hrw] at s0 hcr hrow hof
            obtain ⟨z, hz⟩ : ∃ z, (k : Int) - 1 = z := ⟨_, rfl⟩
            obtain ⟨jp, hjz⟩ : ∃ jp, g.getD z.toNat 0 = jp := ⟨_, rfl⟩
            have HZ := Lib.hid (show 0 < k → wrap64 ((k : Int) - 1) = z from fun h0 => by rw [← hz]; exact wrap_pred h0 (by have := grp_sum HGK.out HLT.out.2 HGG.out; have := HPS.out; have := HL12.out; omega))
            have HJP := Lib.hid (show 0 < k → 0 ≤ z ∧ z < (g.length : Int) ∧ jp < (j : Int) from fun h0 => ⟨by omega, by omega, by
              have := hjp h0
              rw [← hjz, show z.toNat = k - 1 by omega]
              exact this⟩)
            have HJZ := Lib.hid hjz
            have HOF := Lib.hid hof
            have HRO := Lib.hid (And.intro s0 hrow)
            have HDK := Lib.hid (show decide ((k : Int) > 0) = decide (0 < k) by simp)
            have HLK := Lib.hid hlk
            have HJL := Lib.hid hjL
            have HX2 := Lib.hid hX2
            clear hX2 hjz hz hrw hof hpj hjp hj hjl hjL hrow s0 hk hlk
            go_wp2_with fail
            clear hd m1 r0 t3 hi0 hi2
            refine wp_region_rel 39 136 (grpRel19 b11 ss.length cS gs.length cG L.length cL i k j g.length cg row.length cr AS' AG' A2' AL' A3 z jp a b n y) noApart (by kernel_rfl) (by kernel_rfl) (by rfl) (grpRel19.stable _ _ _ _ _ _ _ _ _ _ _ _ _ _ _ _ _ _ _ _ _ _ _ _ _) ?_ ?_
            · intro vals X hX
              have hHX := HD.out.below hX
              have m0 : X.cell? ⟨b11, 0, none⟩ = some (.slice (some AS') ss.length cS) := (blk_cell hHX.gr 0).trans rfl
              have m1 : X.cell? ⟨b11, 1, none⟩ = some (.slice (some AG') gs.length cG) := (blk_cell hHX.gr 1).trans rfl
              obtain ⟨AS1, es, t0, t1, t2⟩ := at_T35 hHX.s (i : Int) (by omega) (by have := HLT.out.1; omega)
              obtain rfl := Option.some.inj es
              rw [HY.out] at t0 t1 t2
              simp only [Int.toNat_natCast] at t0 t1 t2
              have r0 := below_cell HRG.out.1 hX
              have hRow := Kd.C_below HRO.out.2 hX
              have s0 := below_cell HRO.out.1 hX
              obtain ⟨k0, k1, k2⟩ := cell27g hHX.sp
              have hi0 : (0 : Int) ≤ (i : Int) := by omega
              have hi1 : (i : Int) < (ss.length : Int) := by have := HLT.out.1; omega
              have hi2 : (i : Int) < (gs.length : Int) := by have := HLT.out.2; omega
              have hk0 : (0 : Int) ≤ (k : Int) := by omega
              have hk1 : (k : Int) < (g.length : Int) := by have := HLK.out; omega
              have hj0 : (0 : Int) ≤ (j : Int) := by omega
              have hj1 : (j : Int) < (L.length : Int) := by have := HJL.out; omega
              have d0 : decide ((j : Int) < 0) = false := decide_eq_false (by omega)
              have d1 : decide ((j : Int) ≥ (L.length : Int)) = false := decide_eq_false (by omega)
              have d2 : decide ((L.length : Int) ≤ (j : Int)) = false := decide_eq_false (by omega)
              have d5 : decide (L.length ≤ j) = false := decide_eq_false (by omega)
              have hz0 := fun h0 => (HJP.out h0).1
              have hz1 := fun h0 => (HJP.out h0).2.1
              have d3 : 0 < k → decide (jp ≥ (j : Int)) = false := fun h0 => decide_eq_false (by have := (HJP.out h0).2.2; omega)
              have d4 : 0 < k → decide ((j : Int) ≤ jp) = false := fun h0 => decide_eq_false (by have := (HJP.out h0).2.2; omega)
              have HXX := Lib.hid (show 0 < k → X.cell? (A2'.add z.toNat) = some (.int .i64 jp) from fun h0 => by
                obtain ⟨A4, es, q0⟩ := at_Int (Kd.C_below HRG.out.2 hX) z (hz0 h0) (hz1 h0)
                obtain rfl := Option.some.inj es
                rw [HJZ.out] at q0
                exact q0)
              have HX := Lib.hid hRow
              clear hX hHX hRow HB HD HLT HRG HRO HLK HJL HJP HNE
              simp only [putAll, Act.put, RelSteps, List.take_succ_cons, List.take_zero, List.setIfInBounds_toArray, List.set_cons_succ, List.set_cons_zero, Option.getD_some, Nat.zero_add, Nat.reduceAdd]
              refine ⟨fun hd => ?_, fun hd => ?_, fun hd => ?_, fun hd => ?_, fun hd => ?_, fun hd => ?_, fun hd => ?_, fun hd => ?_, fun hd => ?_, fun hd => ?_, fun hd => ?_, fun hd => ?_, fun hd => ?_, fun hd => ?_, fun hd => ?_, fun hd => ?_, fun hd => ?_, fun hd => ?_, fun hd => ?_, fun hd => ?_, fun hd => ?_, fun hd => ?_, fun hd => ?_, fun hd => ?_, fun hd => ?_, fun hd => ?_, fun hd => ?_, fun hd => ?_, fun hd => ?_, fun hd => ?_, fun hd => ?_, fun hd => ?_, fun hd => ?_, fun hd => ?_, fun hd => ?_, fun hd => ?_, fun hd => ?_, fun hd => ?_, fun hd => ?_, trivial⟩
              · clear hd
                go_wp2_with fail
                exact rel_done rfl _ rfl (by first | rfl | exact e0 | (simp [*]; done)) noApart_all (Below.refl _ _)
              · have e0 : vals 0 = _ := hd 0 (by kernel_rfl)
                clear hd
                go_wp2_with fail
                exact rel_done rfl _ rfl (by first | rfl | exact congrArg Value.bool (by assumption) | (simp [*]; done)) noApart_all (Below.refl _ _)
              · have e1 : vals 1 = _ := hd 1 (by kernel_rfl)
                clear hd
                go_wp2_with fail
                exact rel_done rfl _ rfl (by first | rfl | exact e1 | (simp [*]; done)) noApart_all (Below.refl _ _)
              · have e2 : vals 2 = _ := hd 2 (by kernel_rfl)
                clear hd
                go_wp2_with fail
                exact rel_done rfl _ rfl (by first | rfl | exact e2 | (simp [*]; done)) noApart_all (Below.refl _ _)
              · have e2 : vals 2 = _ := hd 2 (by kernel_rfl)
                clear hd
                go_wp2_with fail
                exact rel_done rfl _ rfl (by first | rfl | exact e2 | (simp [*]; done)) noApart_all (Below.refl _ _)
              · have e2 : vals 2 = _ := hd 2 (by kernel_rfl)
                have e4 : vals 4 = _ := hd 4 (by kernel_rfl)
                clear hd
                go_wp2_with fail
                exact rel_done rfl _ rfl rfl noApart_all (Below.refl _ _)
              · have e2 : vals 2 = _ := hd 2 (by kernel_rfl)
                have e3 : vals 3 = _ := hd 3 (by kernel_rfl)
                have e5 : vals 5 = _ := hd 5 (by kernel_rfl)
                clear hd
                go_wp2_with fail
                exact rel_done rfl _ rfl (by first | rfl | exact congrArg Value.bool (by assumption) | (simp [*]; done)) noApart_all (Below.refl _ _)
              · have e2 : vals 2 = _ := hd 2 (by kernel_rfl)
                have e6 : vals 6 = _ := hd 6 (by kernel_rfl)
                clear hd
                go_wp2_with fail
                exact rel_done rfl _ rfl (by first | rfl | exact e6 | (simp [*]; done)) noApart_all (Below.refl _ _)
              · have e2 : vals 2 = _ := hd 2 (by kernel_rfl)
                have e7 : vals 7 = _ := hd 7 (by kernel_rfl)
                clear hd
                go_wp2_with fail
                exact rel_done rfl _ rfl (by first | rfl | exact e7 | (simp [*]; done)) noApart_all (Below.refl _ _)
              · have e8 : vals 8 = _ := hd 8 (by kernel_rfl)
                clear hd
                go_wp2_with fail
                exact rel_done rfl _ rfl (by first | rfl | exact e8 | (simp [*]; done)) noApart_all (Below.refl _ _)
              · have e8 : vals 8 = _ := hd 8 (by kernel_rfl)
                have e9 : vals 9 = _ := hd 9 (by kernel_rfl)
                clear hd
                go_wp2_with fail
                exact rel_done rfl _ rfl (by first | rfl | exact congrArg Value.bool HDK.out | (show _ = _; simp; done)) noApart_all (Below.refl _ _)
              · have e8 : vals 8 = _ := hd 8 (by kernel_rfl)
                have e10 : vals 10 = _ := hd 10 (by kernel_rfl)
                clear hd
                go_wp2_with fail
                exact rel_done rfl _ rfl (by first | rfl | exact e10 | (simp [*]; done)) noApart_all (Below.refl _ _)
              · have e11 : vals 11 = _ := hd 11 (by kernel_rfl)
                clear hd
                by_cases hz : 0 < k
                · rw [show decide (0 < k) = true from decide_eq_true hz] at e11
                  go_wp2_with fail
                  exact rel_done rfl _ rfl (fun _ => by first | rfl | exact congrArg Value.bool (by assumption) | exact congrArg _ (HZ.out hz) | (simp [*]; done)) noApart_all (Below.refl _ _)
                · rw [show decide (0 < k) = false from decide_eq_false hz] at e11
                  go_wp2_with fail
                  exact rel_done rfl _ rfl (fun h => absurd h hz) noApart_all (Below.refl _ _)
              · have e11 : vals 11 = _ := hd 11 (by kernel_rfl)
                have r12 := hd 12 (by kernel_rfl)
                clear hd
                skip
                by_cases hz : 0 < k
                · rw [show decide (0 < k) = true from decide_eq_true hz] at e11
                  have e12 := r12 hz
                  go_wp2_with fail
                  exact rel_done rfl _ rfl (fun _ => by first | rfl | exact congrArg Value.bool (by assumption) | exact congrArg _ (HZ.out hz) | (simp [*]; done)) noApart_all (Below.refl _ _)
                · rw [show decide (0 < k) = false from decide_eq_false hz] at e11
                  go_wp2_with fail
                  exact rel_done rfl _ rfl (fun h => absurd h hz) noApart_all (Below.refl _ _)
              · have e11 : vals 11 = _ := hd 11 (by kernel_rfl)
                clear hd
                by_cases hz : 0 < k
                · rw [show decide (0 < k) = true from decide_eq_true hz] at e11
                  go_wp2_with fail
                  exact rel_done rfl _ rfl (fun _ => by first | rfl | exact congrArg Value.bool (by assumption) | exact congrArg _ (HZ.out hz) | (simp [*]; done)) noApart_all (Below.refl _ _)
                · rw [show decide (0 < k) = false from decide_eq_false hz] at e11
                  go_wp2_with fail
                  exact rel_done rfl _ rfl (fun h => absurd h hz) noApart_all (Below.refl _ _)
              · have e11 : vals 11 = _ := hd 11 (by kernel_rfl)
                have r13 := hd 13 (by kernel_rfl)
                have r14 := hd 14 (by kernel_rfl)
                clear hd
                skip
                skip
                by_cases hz : 0 < k
                · rw [show decide (0 < k) = true from decide_eq_true hz] at e11
                  have e13 := r13 hz
                  have e14 := r14 hz
                  go_wp2_with fail
                  exact rel_done rfl _ rfl (fun _ => by first | rfl | exact congrArg Value.bool (by assumption) | exact congrArg _ (HZ.out hz) | (simp [*]; done)) noApart_all (Below.refl _ _)
                · rw [show decide (0 < k) = false from decide_eq_false hz] at e11
                  go_wp2_with fail
                  exact rel_done rfl _ rfl (fun h => absurd h hz) noApart_all (Below.refl _ _)
              · have e11 : vals 11 = _ := hd 11 (by kernel_rfl)
                have r15 := hd 15 (by kernel_rfl)
                clear hd
                skip
                by_cases hz : 0 < k
                · rw [show decide (0 < k) = true from decide_eq_true hz] at e11
                  have e15 := r15 hz
                  go_wp2_with fail
                  exact rel_done rfl _ rfl (fun _ => by first | rfl | exact congrArg Value.bool (by assumption) | exact congrArg _ (HZ.out hz) | (simp [*]; done)) noApart_all (Below.refl _ _)
                · rw [show decide (0 < k) = false from decide_eq_false hz] at e11
                  go_wp2_with fail
                  exact rel_done rfl _ rfl (fun h => absurd h hz) noApart_all (Below.refl _ _)
              · have e11 : vals 11 = _ := hd 11 (by kernel_rfl)
                clear hd
                by_cases hz : 0 < k
                · rw [show decide (0 < k) = true from decide_eq_true hz] at e11
                  go_wp2_with fail
                  exact rel_done rfl _ rfl (fun _ => by first | rfl | exact congrArg Value.bool (by assumption) | exact congrArg _ (HZ.out hz) | (simp [*]; done)) noApart_all (Below.refl _ _)
                · rw [show decide (0 < k) = false from decide_eq_false hz] at e11
                  go_wp2_with fail
                  exact rel_done rfl _ rfl (fun h => absurd h hz) noApart_all (Below.refl _ _)
              · have e11 : vals 11 = _ := hd 11 (by kernel_rfl)
                have r17 := hd 17 (by kernel_rfl)
                clear hd
                skip
                by_cases hz : 0 < k
                · rw [show decide (0 < k) = true from decide_eq_true hz] at e11
                  have e17 := r17 hz
                  go_wp2_with fail
                  exact rel_done rfl _ rfl (fun _ => by first | rfl | exact congrArg Value.bool (by assumption) | exact congrArg _ (HZ.out hz) | (simp [*]; done)) noApart_all (Below.refl _ _)
                · rw [show decide (0 < k) = false from decide_eq_false hz] at e11
                  go_wp2_with fail
                  exact rel_done rfl _ rfl (fun h => absurd h hz) noApart_all (Below.refl _ _)
              · have e11 : vals 11 = _ := hd 11 (by kernel_rfl)
                have r16 := hd 16 (by kernel_rfl)
                have r18 := hd 18 (by kernel_rfl)
                clear hd
                skip
                skip
                by_cases hz : 0 < k
                · rw [show decide (0 < k) = true from decide_eq_true hz] at e11
                  have e16 := r16 hz
                  have e18 := r18 hz
                  have z0 := hz0 hz
                  have z1 := hz1 hz
                  go_wp2_with fail
                  exact rel_done rfl _ rfl (fun _ => by first | rfl | exact congrArg Value.bool (by assumption) | exact congrArg _ (HZ.out hz) | (simp [*]; done)) noApart_all (Below.refl _ _)
                · rw [show decide (0 < k) = false from decide_eq_false hz] at e11
                  go_wp2_with fail
                  exact rel_done rfl _ rfl (fun h => absurd h hz) noApart_all (Below.refl _ _)
              · have e11 : vals 11 = _ := hd 11 (by kernel_rfl)
                have r19 := hd 19 (by kernel_rfl)
                clear hd
                skip
                by_cases hz : 0 < k
                · rw [show decide (0 < k) = true from decide_eq_true hz] at e11
                  have e19 := r19 hz
                  have q0 := HXX.out hz
                  go_wp2_with fail
                  exact rel_done rfl _ rfl (fun _ => by first | rfl | exact congrArg Value.bool (by assumption) | exact congrArg _ (HZ.out hz) | (simp [*]; done)) noApart_all (Below.refl _ _)
                · rw [show decide (0 < k) = false from decide_eq_false hz] at e11
                  go_wp2_with fail
                  exact rel_done rfl _ rfl (fun h => absurd h hz) noApart_all (Below.refl _ _)
              · have e11 : vals 11 = _ := hd 11 (by kernel_rfl)
                clear hd
                by_cases hz : 0 < k
                · rw [show decide (0 < k) = true from decide_eq_true hz] at e11
                  go_wp2_with fail
                  exact rel_done rfl _ rfl (fun _ => by first | rfl | exact congrArg Value.bool (by assumption) | exact congrArg _ (HZ.out hz) | (simp [*]; done)) noApart_all (Below.refl _ _)
                · rw [show decide (0 < k) = false from decide_eq_false hz] at e11
                  go_wp2_with fail
                  exact rel_done rfl _ rfl (fun h => absurd h hz) noApart_all (Below.refl _ _)
              · have e11 : vals 11 = _ := hd 11 (by kernel_rfl)
                have r20 := hd 20 (by kernel_rfl)
                have r21 := hd 21 (by kernel_rfl)
                clear hd
                skip
                skip
                by_cases hz : 0 < k
                · rw [show decide (0 < k) = true from decide_eq_true hz] at e11
                  have e20 := r20 hz
                  have e21 := r21 hz
                  have c3 := d3 hz
                  have c4 := d4 hz
                  go_wp2_with fail
                  exact rel_done rfl _ rfl (fun _ => by first | rfl | exact congrArg Value.bool (by assumption) | exact congrArg _ (HZ.out hz) | (simp [*]; done)) noApart_all (Below.refl _ _)
                · rw [show decide (0 < k) = false from decide_eq_false hz] at e11
                  go_wp2_with fail
                  exact rel_done rfl _ rfl (fun h => absurd h hz) noApart_all (Below.refl _ _)
              · have e8 : vals 8 = _ := hd 8 (by kernel_rfl)
                have e11 : vals 11 = _ := hd 11 (by kernel_rfl)
                have r22 := hd 22 (by kernel_rfl)
                clear hd
                skip
                by_cases hz : 0 < k
                · rw [show decide (0 < k) = true from decide_eq_true hz] at e11
                  have e22 := r22 hz
                  go_wp2_with fail
                  exact rel_done rfl _ rfl (by first | rfl | exact e22 | (show _ = _; simp [*]; done)) noApart_all (Below.refl _ _)
                · rw [show decide (0 < k) = false from decide_eq_false hz] at e11
                  go_wp2_with fail
                  exact rel_done rfl _ rfl (by first | rfl | exact e11 | (show _ = _; simp [*]; done)) noApart_all (Below.refl _ _)
              · have e8 : vals 8 = _ := hd 8 (by kernel_rfl)
                have r23 := hd 23 (by kernel_rfl)
                clear hd
                skip
                have e23 : vals 23 = _ := r23
                go_wp2_with fail
                exact rel_done rfl _ rfl (by first | rfl | exact e23 | (show _ = _; simp [*]; done)) noApart_all (Below.refl _ _)
              · have e11 : vals 11 = _ := hd 11 (by kernel_rfl)
                have r24 := hd 24 (by kernel_rfl)
                clear hd
                skip
                have e24 : vals 24 = _ := r24
                go_wp2_with fail
                exact rel_done rfl _ rfl (by first | rfl | exact e24) noApart_all (Below.refl _ _)
              · have r25 := hd 25 (by kernel_rfl)
                clear hd
                have e25 : vals 25 = _ := r25
                go_wp2_with fail
                exact rel_done rfl _ rfl rfl noApart_all (Below.refl _ _)
              · have r25 := hd 25 (by kernel_rfl)
                clear hd
                have e25 : vals 25 = _ := r25
                go_wp2_with fail
                exact rel_done rfl _ rfl (by first | rfl | exact e25 | (simp [*]; done)) noApart_all (Below.refl _ _)
              · have r25 := hd 25 (by kernel_rfl)
                clear hd
                have e25 : vals 25 = _ := r25
                go_wp2_with fail
                exact rel_done rfl _ rfl (by first | rfl | exact e25 | (simp [*]; done)) noApart_all (Below.refl _ _)
              · have r25 := hd 25 (by kernel_rfl)
                have e27 : vals 27 = _ := hd 27 (by kernel_rfl)
                have e28 : vals 28 = _ := hd 28 (by kernel_rfl)
                clear hd
                have e25 : vals 25 = _ := r25
                go_wp2_with fail
                exact rel_done rfl _ rfl rfl noApart_all (Below.refl _ _)
              · have r25 := hd 25 (by kernel_rfl)
                have e29 : vals 29 = _ := hd 29 (by kernel_rfl)
                clear hd
                have e25 : vals 25 = _ := r25
                go_wp2_with fail
                exact rel_done rfl _ rfl rfl noApart_all (Below.refl _ _)
              · have r25 := hd 25 (by kernel_rfl)
                have e26 : vals 26 = _ := hd 26 (by kernel_rfl)
                have e30 : vals 30 = _ := hd 30 (by kernel_rfl)
                clear hd
                have e25 : vals 25 = _ := r25
                go_wp2_with fail
                refine (partition_Of.calls 100 a b n A3 cr row y.f0 y.f1 y.f2 _ HX.out hcr HOF.out).mono ?_
                rintro e w2 ⟨rfl, hb⟩
                go_wp2_with fail
                exact rel_done rfl _ rfl rfl noApart_all hb
              · have r25 := hd 25 (by kernel_rfl)
                clear hd
                have e25 : vals 25 = _ := r25
                go_wp2_with fail
                exact rel_done rfl _ rfl rfl noApart_all (Below.refl _ _)
              · have r25 := hd 25 (by kernel_rfl)
                have e32 : vals 32 = _ := hd 32 (by kernel_rfl)
                clear hd
                have e25 : vals 25 = _ := r25
                go_wp2_with fail
                exact rel_done rfl _ rfl rfl noApart_all (Below.refl _ _)
              · have r25 := hd 25 (by kernel_rfl)
                clear hd
                have e25 : vals 25 = _ := r25
                go_wp2_with fail
                exact rel_done rfl _ rfl (by first | rfl | exact e25 | (simp [*]; done)) noApart_all (Below.refl _ _)
              · have r25 := hd 25 (by kernel_rfl)
                have e33 : vals 33 = _ := hd 33 (by kernel_rfl)
                have e34 : vals 34 = _ := hd 34 (by kernel_rfl)
                clear hd
                have e25 : vals 25 = _ := r25
                go_wp2_with fail
                exact rel_done rfl _ rfl rfl noApart_all (Below.refl _ _)
              · have r25 := hd 25 (by kernel_rfl)
                have e35 : vals 35 = _ := hd 35 (by kernel_rfl)
                clear hd
                have e25 : vals 25 = _ := r25
                go_wp2_with fail
                exact rel_done rfl _ rfl rfl noApart_all (Below.refl _ _)
              · have r25 := hd 25 (by kernel_rfl)
                have e31 : vals 31 = _ := hd 31 (by kernel_rfl)
                have e36 : vals 36 = _ := hd 36 (by kernel_rfl)
                clear hd
                have e25 : vals 25 = _ := r25
                go_wp2_with fail
                exact rel_done rfl _ rfl (by first | rfl | exact congrArg Value.bool (by assumption) | (simp [*]; done)) noApart_all (Below.refl _ _)
              · have r25 := hd 25 (by kernel_rfl)
                have e37 : vals 37 = _ := hd 37 (by kernel_rfl)
                clear hd
                have e25 : vals 25 = _ := r25
                go_wp2_with fail
                exact rel_done rfl _ rfl (by first | rfl | exact e37 | (simp [*]; done)) noApart_all (Below.refl _ _)
            · intro vals X3 hX hv _
              have e38 : vals 38 = _ := hv 38 (by decide)
              have hX4 := below_step HX2.out hX
              clear hv HX2 hX
              simp only [putAll, Act.put, List.take_succ_cons, List.take_zero, List.drop_succ_cons, List.drop_zero, List.setIfInBounds_toArray, List.set_cons_succ, List.set_cons_zero, Option.getD_some, Nat.zero_add, Nat.reduceAdd]
              simp only [e38]
              clear e38
              have hlk := HLK.out
              have hsum : sumTo gs i + g.length ≤ 12 := by
                have := grp_sum HGK.out HLT.out.2 HGG.out
                have h4 := HPS.out
                have h5 := HL12.out
                omega
              clear HOF HRO HDK HJL HJP HJZ HZ HRG HB HD
              go_wp2
              exact ⟨⟨k + 1, by simp, hlk, by congr 1, hX4⟩, grp_end1 hlk⟩
          · have hd : decide ((k : Int) < (g.length : Int)) = false := decide_eq_false (by omega)
            have hkg : k = g.length := by omega
            have hlt := HLT.out
            have h1 := sumTo_succ HLT.out.2
            rw [HGG.out] at h1
            have hX4 := below_step HXY.out hX2
            clear HRG HD HB hX2
            go_wp2
            exact ⟨⟨i + 1, inc_int (by have := HSL.out; omega), hlt.1, by rw [h1, hkg], hX4⟩, grp_end2 hlt.1 (by have := HSL.out; omega)⟩
    · have hd : decide ((i : Int) < (ss.length : Int)) = false := decide_eq_false (by omega)
      have his : i = gs.length := by rw [HGK.out.len]; omega
      have h1 : sumTo gs i = L.length := by rw [his, sumTo_all, HGK.out.sum]; exact HPS.out
      have he : ((sumTo gs i : Int) == (L.length : Int)) = true := by rw [h1]; simp
      have hB3 := HB.out
      clear HD HB hX his h1
      go_wp2
      go_ret
      exact ⟨rfl, hB3⟩
end Go.Proofs.YteflfnjljjianaaGreatDoor.Qx
namespace Go.Proofs.YteflfnjljjianaaGreatDoor.Qx
open Go.RowKit Go.Proofs.YteflfnjljjianaaGreatDoorW.PrintWords Go.Proofs.YteflfnjljjianaaGreatDoorW.PrintLast Go.Proofs.YteflfnjljjianaaGreatDoorW.PrintMore
attribute [local go_sem] max2_int min2_int max_two min_two
set_option linter.unusedVariables false
set_option linter.unusedSimpArgs false
def ty7 : List S63 := [⟨2, 2, false⟩, ⟨3, 0, false⟩, ⟨1, 0, false⟩, ⟨2, 0, true⟩, ⟨3, 0, true⟩, ⟨1, 0, true⟩, ⟨2, 0, false⟩]
def tyOf (x : Int) : S63 := rd_T63 ty7 (Int.tmod x 7)
def typesOf (l : List Int) : List S63 := (l.take 6).map tyOf
def nul : S35 := ⟨0, 0, ⟨#[]⟩⟩
def vNum (s : Int) : List S35 := (List.range 40).map fun m : Nat => ⟨2, wrap64 (wrap64 (wrap64 (m : Int) - 12) * s), ⟨#[]⟩⟩
def wordL : List ByteArray := [⟨#[]⟩, ⟨#[97]⟩, ⟨#[98]⟩, ⟨#[97, 98]⟩, ⟨#[97, 32, 98]⟩, ⟨#[98, 32, 97, 32, 99]⟩, ⟨#[120, 45, 121]⟩, ⟨#[45]⟩, ⟨#[49, 50]⟩, ⟨#[45, 48, 46, 53]⟩, ⟨#[97, 34, 98]⟩, ⟨#[92]⟩, ⟨#[48]⟩, ⟨#[55, 46, 50, 53]⟩, ⟨#[97, 98, 99, 100, 101, 102, 103, 104, 105, 106, 107, 108, 109, 110, 111, 112, 113, 114, 115, 116, 117, 118, 119, 120, 121, 122, 97, 98, 99, 100, 101, 102, 103, 104, 105, 106, 107, 108, 109, 110]⟩]
def vTxt : List S35 := (List.range 15).map fun m : Nat => ⟨3, 0, rdOf ByteArray.empty wordL (m : Int)⟩
def stepS (s : Int) : Int := if s = 2 then 10000 else 1000000
def VT (t : S63) : List S35 := (if t.f2 then [nul] else []) ++ (if t.f0 = 1 then [⟨1, 0, ⟨#[]⟩⟩, ⟨1, 1, ⟨#[]⟩⟩] else if t.f0 = 2 then vNum 1000000 ++ vNum (stepS t.f1) else vTxt)
def SPl (t : S63) : List (Int × Int) := (1, 0) :: ((List.range 8).map fun i : Nat => (2, 1 + (i : Int))) ++ (if t.f0 = 1 then [] else if t.f0 = 3 then (List.range 4).map fun i : Nat => (3, 1 + (i : Int)) else (List.range 6).map fun i : Nat => (3, chapmanref32_Made.tbl (i : Int)))
def ofT (a n : Int) (x : S35) : Option S35 := (partition_of.f 100 a 0 n x.f0 x.f1 x.f2).map fun r => ⟨r.1, r.2.1, r.2.2⟩
set_option maxRecDepth 1000000
def Byt (l : List Int) : Prop := ∀ x ∈ l, 0 ≤ x ∧ x < 256
theorem tmod_lt {x n : Int} (h : 0 ≤ x) (hn : 0 < n) : 0 ≤ Int.tmod x n ∧ Int.tmod x n < n := by
  rw [Int.tmod_eq_emod_of_nonneg h]
  exact ⟨Int.emod_nonneg _ (by omega), Int.emod_lt_of_pos _ hn⟩
theorem tyOf_mem {x : Int} (h : 0 ≤ x) : tyOf x ∈ ty7 := by
  have := tmod_lt (n := 7) h (by omega)
  unfold tyOf rd_T63
  rw [List.getD_eq_getElem?_getD, List.getElem?_eq_getElem (by simp [ty7]; omega)]
  exact List.getElem_mem _
theorem typesOf_mem {l : List Int} (hb : Byt l) {t : S63} (ht : t ∈ typesOf l) : t ∈ ty7 := by
  obtain ⟨x, hx, rfl⟩ := List.mem_map.1 ht
  exact tyOf_mem (hb x (List.mem_of_mem_take hx)).1
theorem typesOf_len (l : List Int) : (typesOf l).length ≤ 6 := by
  unfold typesOf
  rw [List.length_map]
  exact List.length_take_le _ _
theorem types_l0 (l : List Int) (hb : Byt l) : ∀ (d k i : Nat) (acc : List S63), i + d = 6 → d < k → acc.length = i → chapmanref11_Types.l0 k l acc (i : Int) = some (acc ++ ((l.take 6).drop i).map tyOf)
  | 0, k + 1, i, acc, hi, _, _ => by
    obtain rfl : i = 6 := by omega
    have e : (l.take 6).drop 6 = [] := List.drop_eq_nil_of_le (List.length_take_le _ _)
    rw [e]
    unfold chapmanref11_Types.l0
    split
    · rw [if_neg (by decide)]; simp
    · simp
  | d + 1, k + 1, i, acc, hi, hk, ha => by
    unfold chapmanref11_Types.l0
    by_cases hl : i < l.length
    · have hx := hb l[i] (List.getElem_mem _)
      have hr : rd l (i : Int) = l[i] := by simp [rd, hl]
      have hm := tmod_lt (n := 7) hx.1 (by omega)
      have hit : i < (l.take 6).length := by rw [List.length_take]; omega
      rw [if_pos (by omega), if_pos (by omega)]
      simp only [Option.bind_some, hr]
      rw [if_pos (by omega), if_pos hm.1, if_pos (by simpa using hm.2), if_pos (by omega)]
      have hw : wrap64 ((i : Int) + 1) = ((i + 1 : Nat) : Int) := by unfold wrap64; omega
      rw [hw, types_l0 l hb d k (i + 1) _ (by omega) (by omega) (by simp [ha]), List.drop_eq_getElem_cons hit, List.map_cons, List.getElem_take, List.append_assoc]
      rfl
    · have e : (l.take 6).drop i = [] := List.drop_eq_nil_of_le (by rw [List.length_take]; omega)
      rw [if_neg (by omega), e]
      simp
theorem types_f {l : List Int} (hb : Byt l) : chapmanref11_Types.f 100 l = some (typesOf l) := by
  have := types_l0 l hb 6 100 0 [] rfl (by omega) rfl
  have e : chapmanref11_Types.f 100 l = chapmanref11_Types.l0 100 l [] ((0 : Nat) : Int) := rfl
  rw [e, this]
  rfl
theorem map_mem {α : Type} {f : Nat → α} {n : Nat} {x : Int} (h0 : 0 ≤ x) (h1 : x < (n : Int)) : f x.toNat ∈ (List.range n).map f := List.mem_map.2 ⟨x.toNat, List.mem_range.2 (by omega), rfl⟩
theorem j0_num {k : Nat} (sc : Int) (tn : Bool) (b0 b1 : Int) (hs : chapmanref06_Step.f k sc = some (stepS sc)) (h : 0 ≤ b1) : ∃ v ∈ vNum 1000000 ++ vNum (stepS sc), chapmanref06_Value.j0 (k + 1) false 2 sc tn b0 b1 = some (v.f0, v.f1, v.f2) := by
  have hm := tmod_lt (n := 40) h (by omega)
  have e : ((Int.tmod b1 40).toNat : Int) = Int.tmod b1 40 := Int.toNat_of_nonneg hm.1
  simp only [chapmanref06_Value.j0]
  rw [if_neg (by decide), if_neg (by decide), if_pos trivial]
  split
  · refine ⟨_, List.mem_append_right _ (map_mem hm.1 hm.2), ?_⟩
    rw [hs, e]
    rfl
  · refine ⟨_, List.mem_append_left _ (map_mem hm.1 hm.2), ?_⟩
    rw [e]
    rfl
theorem j0_txt {k : Nat} (sc : Int) (tn : Bool) (b0 b1 : Int) (h : 0 ≤ b1 ∧ b1 < 256) : ∃ v ∈ vTxt, chapmanref06_Value.j0 (k + 1) false 3 sc tn b0 b1 = some (v.f0, v.f1, v.f2) := by
  have hm := tmod_lt (n := 15) h.1 (by omega)
  have e : ((Int.tmod b1 15).toNat : Int) = Int.tmod b1 15 := Int.toNat_of_nonneg hm.1
  have hw : wrap64 b1 = b1 := by unfold wrap64; omega
  simp only [chapmanref06_Value.j0]
  rw [if_neg (by decide), if_neg (by decide), if_neg (by decide), hw]
  refine ⟨_, map_mem hm.1 hm.2, ?_⟩
  unfold chapmanref06_words.f
  simp only [Option.bind_some]
  rw [if_pos hm.1, if_pos (by simpa using hm.2), e]
  rfl
theorem j0_bool {k : Nat} (sc : Int) (tn : Bool) (b0 b1 : Int) : ∃ v ∈ [(⟨1, 0, ⟨#[]⟩⟩ : S35), ⟨1, 1, ⟨#[]⟩⟩], chapmanref06_Value.j0 (k + 1) false 1 sc tn b0 b1 = some (v.f0, v.f1, v.f2) := by
  simp only [chapmanref06_Value.j0]
  rw [if_neg (by decide), if_pos trivial]
  cases (Int.tmod b1 2 == 1)
  · exact ⟨_, List.mem_cons_self, rfl⟩
  · exact ⟨_, List.mem_cons_of_mem _ List.mem_cons_self, rfl⟩
theorem j0_nul (f0 sc : Int) (tn : Bool) (b0 b1 : Int) : chapmanref06_Value.j0 100 true f0 sc tn b0 b1 = some (nul.f0, nul.f1, nul.f2) := rfl
theorem val_f {t : S63} (ht : t ∈ ty7) {b0 b1 : Int} (h1 : 0 ≤ b1 ∧ b1 < 256) : ∃ v ∈ VT t, chapmanref06_Value.f 100 t.f0 t.f1 t.f2 b0 b1 = some (v.f0, v.f1, v.f2) := by
  have s0 : chapmanref06_Step.f 99 0 = some (stepS 0) := by kernel_rfl
  have s2 : chapmanref06_Step.f 99 2 = some (stepS 2) := by kernel_rfl
  have key : ∀ t : S63, (∃ v ∈ (if t.f0 = 1 then [(⟨1, 0, ⟨#[]⟩⟩ : S35), ⟨1, 1, ⟨#[]⟩⟩] else if t.f0 = 2 then vNum 1000000 ++ vNum (stepS t.f1) else vTxt), chapmanref06_Value.j0 100 false t.f0 t.f1 t.f2 b0 b1 = some (v.f0, v.f1, v.f2)) → ∃ v ∈ VT t, chapmanref06_Value.f 100 t.f0 t.f1 t.f2 b0 b1 = some (v.f0, v.f1, v.f2) := by
    intro t ⟨v, hv, h⟩
    unfold chapmanref06_Value.f VT
    cases htn : t.f2
    · rw [htn] at h
      exact ⟨v, List.mem_append_right _ hv, h⟩
    · rw [htn] at h
      rw [if_pos rfl]
      cases (Int.tmod b0 5 == 0)
      · exact ⟨v, List.mem_append_right _ hv, h⟩
      · exact ⟨nul, List.mem_append_left _ (by simp), j0_nul t.f0 t.f1 true b0 b1⟩
  refine key t ?_
  simp only [ty7, List.mem_cons, List.not_mem_nil, or_false] at ht
  rcases ht with rfl | rfl | rfl | rfl | rfl | rfl | rfl
  · exact j0_num (k := 99) 2 _ _ _ s2 h1.1
  · exact j0_txt (k := 99) _ _ _ _ h1
  · exact j0_bool (k := 99) _ _ _ _
  · exact j0_num (k := 99) 0 _ _ _ s0 h1.1
  · exact j0_txt (k := 99) _ _ _ _ h1
  · exact j0_bool (k := 99) _ _ _ _
  · exact j0_num (k := 99) 0 _ _ _ s0 h1.1
theorem exists_row (P : Nat → S35 → Prop) (n : Nat) (h : ∀ i, i < n → ∃ v, P i v) : ∃ vs : List S35, vs.length = n ∧ ∀ i, i < n → P i (vs.getD i z35) := by
  induction n with
  | zero => exact ⟨[], rfl, fun i hi => by omega⟩
  | succ n ih =>
    obtain ⟨vs, h1, h2⟩ := ih (fun i hi => h i (by omega))
    obtain ⟨v, hv⟩ := h n (by omega)
    refine ⟨vs ++ [v], by simp [h1], fun i hi => ?_⟩
    by_cases hin : i < n
    · have := h2 i hin
      rw [List.getD_eq_getElem?_getD] at this ⊢
      rwa [List.getElem?_append_left (by omega)]
    · obtain rfl : i = n := by omega
      rw [List.getD_eq_getElem?_getD, List.getElem?_append_right (by omega), h1]
      simpa using hv
theorem row_f {T : List S63} (hT : ∀ t ∈ T, t ∈ ty7) {l : List Int} (hb : Byt l) : ∃ vs, RowOf 100 T l vs ∧ ∀ i : Nat, i < T.length → rd_T35 vs (i : Int) ∈ VT (rd_T63 T (i : Int)) := by
  obtain ⟨vs, h1, h2⟩ := exists_row (fun i v => v ∈ VT (rd_T63 T (i : Int)) ∧ chapmanref06_Value.f 100 (rd_T63 T i).f0 (rd_T63 T i).f1 (rd_T63 T i).f2 (rowByte l (2 * i)) (rowByte l (2 * i + 1)) = some (v.f0, v.f1, v.f2)) T.length (fun i hi => by
    have ht : rd_T63 T (i : Int) ∈ ty7 := by
      refine hT _ ?_
      unfold rd_T63
      rw [Int.toNat_natCast, List.getD_eq_getElem?_getD, List.getElem?_eq_getElem hi]
      exact List.getElem_mem _
    obtain ⟨v, hv, h⟩ := val_f ht (b0 := rowByte l (2 * i)) (rowByte_range hb (2 * i + 1))
    exact ⟨v, hv, h⟩)
  refine ⟨vs, ⟨h1, fun i hi => ?_⟩, fun i hi => ?_⟩
  · have := (h2 i hi).2
    simpa [rd_T35] using this
  · have := (h2 i hi).1
    simpa [rd_T35] using this
theorem rd63_mem {T : List S63} (hT : ∀ t ∈ T, t ∈ ty7) {m : Nat} (hm : m < T.length) : rd_T63 T (m : Int) ∈ ty7 := by
  refine hT _ ?_
  unfold rd_T63
  rw [Int.toNat_natCast, List.getD_eq_getElem?_getD, List.getElem?_eq_getElem hm]
  exact List.getElem_mem _
theorem made_spec {T : List S63} (hT : ∀ t ∈ T, t ∈ ty7) {b0 b1 b2 : Int} (h0 : 0 ≤ b0 ∧ b0 < 256) (h1 : 0 ≤ b1 ∧ b1 < 256) (h2 : 0 ≤ b2 ∧ b2 < 256) :
    ∃ a b n, chapmanref32_Made.f T b0 b1 b2 = ⟨a, b, n⟩ ∧ ((a = 0 ∧ b = 0 ∧ n = 0) ∨ ∃ m : Nat, b = (m : Int) ∧ m < T.length ∧ (a, n) ∈ SPl (rd_T63 T (m : Int))) := by
  unfold chapmanref32_Made.f
  split
  · exact ⟨0, 0, 0, rfl, .inl ⟨rfl, rfl, rfl⟩⟩
  · rename_i hz
    have hp : (0 : Int) < T.length := by omega
    have e1 := Int.emod_nonneg b1 (b := (T.length : Int)) (by omega)
    have e2 := Int.emod_lt_of_pos b1 hp
    obtain ⟨m, hm⟩ : ∃ m : Nat, b1 % (T.length : Int) = m := ⟨_, (Int.toNat_of_nonneg e1).symm⟩
    rw [hm]
    have hmt : m < T.length := by omega
    have ht := rd63_mem hT hmt
    have k8 : ∀ x : Int, 0 ≤ x → x < 8 → (2, 1 + x) ∈ SPl (rd_T63 T (m : Int)) := fun x h0 h1 => by
      refine List.mem_append_left _ (List.mem_cons_of_mem _ (List.mem_map.2 ⟨x.toNat, List.mem_range.2 (by omega), ?_⟩))
      rw [Int.toNat_of_nonneg h0]
    have k1 : ((1 : Int), (0 : Int)) ∈ SPl (rd_T63 T (m : Int)) := List.mem_append_left _ List.mem_cons_self
    unfold chapmanref32_Made.g
    split
    · exact ⟨_, _, _, rfl, .inr ⟨m, rfl, hmt, k8 (b2 % 8) (by omega) (by omega)⟩⟩
    · split
      · exact ⟨_, _, _, rfl, .inr ⟨m, rfl, hmt, k1⟩⟩
      · split
        · exact ⟨_, _, _, rfl, .inr ⟨m, rfl, hmt, k1⟩⟩
        · rename_i ht1
          split
          · rename_i ht3
            refine ⟨_, _, _, rfl, .inr ⟨m, rfl, hmt, List.mem_append_right _ ?_⟩⟩
            rw [if_neg ht1, if_pos ht3]
            exact List.mem_map.2 ⟨(b2 % 4).toNat, List.mem_range.2 (by omega), by rw [Int.toNat_of_nonneg (by omega)]⟩
          · rename_i ht3
            refine ⟨_, _, _, rfl, .inr ⟨m, rfl, hmt, List.mem_append_right _ ?_⟩⟩
            rw [if_neg ht1, if_neg ht3]
            exact List.mem_map.2 ⟨(b2 % 6).toNat, List.mem_range.2 (by omega), by rw [Int.toNat_of_nonneg (by omega)]⟩
theorem of_of {a n : Int} {x p : S35} (h : ofT a n x = some p) (b : Int) : partition_of.f 100 a b n x.f0 x.f1 x.f2 = some (p.f0, p.f1, p.f2) := by
  obtain ⟨r, hr, e⟩ := Option.map_eq_some_iff.1 h
  subst e
  exact hr
theorem Of_row {a n : Int} {xs : List S35} {m : Nat} (hm : m < xs.length) (ha : a ≠ 0) {p : S35} (h : ofT a n (rd_T35 xs (m : Int)) = some p) : partition_Of.f 100 a (m : Int) n xs = some (p.f0, p.f1, p.f2) := by
  unfold partition_Of.f
  rw [if_neg ha, if_pos (by omega), if_pos (by omega), of_of h]
  rfl
theorem spec_pos {t : S63} {a n : Int} (h : (a, n) ∈ SPl t) : a = 1 ∨ a = 2 ∨ a = 3 := by
  unfold SPl at h
  rcases List.mem_append.1 h with h | h
  · rcases List.mem_cons.1 h with h | h
    · exact .inl (by injection h)
    · obtain ⟨i, _, e⟩ := List.mem_map.1 h
      injection e with e
      exact .inr (.inl e.symm)
  · split at h
    · cases h
    · split at h <;> (obtain ⟨i, _, e⟩ := List.mem_map.1 h; injection e with e; exact .inr (.inr e.symm))
end Go.Proofs.YteflfnjljjianaaGreatDoor.Qx
namespace Go.Proofs.YteflfnjljjianaaGreatDoor.Qx
open Go.RowKit Go.Proofs.YteflfnjljjianaaGreatDoorW.PrintWords Go.Proofs.YteflfnjljjianaaGreatDoorW.PrintLast Go.Proofs.YteflfnjljjianaaGreatDoorW.PrintMore
set_option linter.unusedVariables false
def ok3 (p : S35) : Bool := (Lit.int .i64 p.f0).wf && (Lit.int .i64 p.f1).wf && decide (p.f2.size ≤ 40)
def chk3 (t : S63) : Bool := (SPl t).all fun s => (VT t).all fun x => match ofT s.1 s.2 x with | some p => ok3 p | none => false
set_option maxRecDepth 1000000
theorem chk3_all : ty7.all chk3 = true := by kernel_rfl
theorem ok3_of {p : S35} (h : ok3 p = true) : OkKey p ∧ p.f2.size ≤ 40 := by
  unfold ok3 at h
  simp only [Bool.and_eq_true, decide_eq_true_eq] at h
  exact ⟨⟨h.1.1, h.1.2, by omega⟩, h.2⟩
theorem col3 {t : S63} (ht : t ∈ ty7) {a n : Int} (hs : (a, n) ∈ SPl t) {x : S35} (hx : x ∈ VT t) : ∃ p, ofT a n x = some p ∧ OkKey p ∧ p.f2.size ≤ 40 := by
  have h := List.all_eq_true.1 (List.all_eq_true.1 (List.all_eq_true.1 chk3_all t ht) (a, n) hs) x hx
  simp only at h
  cases hp : ofT a n x with
  | none => rw [hp] at h; exact absurd h (by simp)
  | some p =>
    rw [hp] at h
    exact ⟨p, rfl, ok3_of h⟩
theorem exists_list {α : Type} (d : α) (P : Nat → α → Prop) (n : Nat) (h : ∀ i, i < n → ∃ v, P i v) : ∃ vs : List α, vs.length = n ∧ ∀ i, i < n → P i (vs.getD i d) := by
  induction n with
  | zero => exact ⟨[], rfl, fun i hi => absurd hi (Nat.not_lt_zero i)⟩
  | succ n ih =>
    obtain ⟨vs, hl, hv⟩ := ih (fun i hi => h i (by omega))
    obtain ⟨v, hp⟩ := h n (by omega)
    refine ⟨vs ++ [v], by simp [hl], fun i hi => ?_⟩
    rw [List.getD_eq_getElem?_getD]
    by_cases hin : i < n
    · rw [List.getElem?_append_left (by omega), ← List.getD_eq_getElem?_getD]
      exact hv i hin
    · obtain rfl : i = n := by omega
      rw [List.getElem?_append_right (by omega), hl]
      simpa using hp
theorem grp_pure {l0 : List Int} {ls : List (List Int)} (hl0 : Byt l0) (hls : ∀ l ∈ ls, Byt l) {b0 b1 b2 : Int} (h0 : 0 ≤ b0 ∧ b0 < 256) (h1 : 0 ≤ b1 ∧ b1 < 256) (h2 : 0 ≤ b2 ∧ b2 < 256) :
    ∃ (T : List S63) (a b n : Int) (L : List (List S35)) (ps : List S35), chapmanref11_Types.f 100 l0 = some T ∧ T.length ≤ 1000 ∧ chapmanref32_Made.f T b0 b1 b2 = ⟨a, b, n⟩ ∧ L.length = min ls.length 12 ∧ (∀ i, i < L.length → RowOf 100 T (ls.getD i []) (L.getD i [])) ∧
      ps.length = L.length ∧ (∀ j, j < L.length → partition_Of.f 100 a b n (L.getD j []) = some ((ps.getD j z35).f0, (ps.getD j z35).f1, (ps.getD j z35).f2)) ∧ (∀ p ∈ ps, OkKey p) ∧ ∀ p ∈ ps, p.f2.size ≤ 40 := by
  have hT : ∀ t ∈ typesOf l0, t ∈ ty7 := fun t ht => typesOf_mem hl0 ht
  have hl := typesOf_len l0
  obtain ⟨a, b, n, hm, hs⟩ := made_spec hT h0 h1 h2
  obtain ⟨L, hL, hLv⟩ := exists_list ([] : List S35) (fun i vs => RowOf 100 (typesOf l0) (ls.getD i []) vs ∧ ∃ p : S35, partition_Of.f 100 a b n vs = some (p.f0, p.f1, p.f2) ∧ OkKey p ∧ p.f2.size ≤ 40) (min ls.length 12) (fun i hi => by
    have hb : Byt (ls.getD i []) := hls _ (by
      rw [List.getD_eq_getElem?_getD, List.getElem?_eq_getElem (by omega)]
      exact List.getElem_mem _)
    obtain ⟨vs, hr, hv⟩ := row_f hT hb
    refine ⟨vs, hr, ?_⟩
    rcases hs with ⟨rfl, rfl, rfl⟩ | ⟨m, rfl, hmt, hs⟩
    · exact ⟨nul, rfl, ok3_of (by decide +kernel)⟩
    · obtain ⟨p, hp, hk⟩ := col3 (rd63_mem hT hmt) hs (hv m hmt)
      exact ⟨p, Of_row (by rw [hr.1]; exact hmt) (by have := spec_pos hs; omega) hp, hk⟩)
  obtain ⟨ps, hps, hpv⟩ := exists_list z35 (fun i p => partition_Of.f 100 a b n (L.getD i []) = some (p.f0, p.f1, p.f2) ∧ OkKey p ∧ p.f2.size ≤ 40) L.length (fun i hi => (hLv i (by omega)).2)
  have hin : ∀ p ∈ ps, OkKey p ∧ p.f2.size ≤ 40 := by
    intro p hp
    obtain ⟨i, hi, rfl⟩ := List.getElem_of_mem hp
    have := (hpv i (by omega)).2
    rw [List.getD_eq_getElem?_getD, List.getElem?_eq_getElem hi] at this
    exact this
  exact ⟨typesOf l0, a, b, n, L, ps, types_f hl0, by omega, hm, hL, fun i hi => (hLv i (by omega)).1, hps, fun j hj => (hpv j hj).1, fun p hp => (hin p hp).1, fun p hp => (hin p hp).2⟩
end Go.Proofs.YteflfnjljjianaaGreatDoor.Qx
namespace Go.Proofs.YteflfnjljjianaaGreatDoor
namespace Rw
open Go.ChangeShapes Go.WideShapes Go.ChangeAt Go.RowKit Go.Proofs.YteflfnjljjianaaGreatDoor.Qx Go.Proofs.YteflfnjljjianaaGreatDoorW.PrintWords Go.Proofs.YteflfnjljjianaaGreatDoorW.PrintLast Go.Proofs.YteflfnjljjianaaGreatDoorW.PrintMore
set_option linter.unusedVariables false
theorem own : ownKnob Tryz.prog.godebug = none := by kernel_rfl
theorem laidOut : laidOutB Tryz.prog = true := by kernel_rfl
theorem gv : Tryz.prog.globalNamed "chapman/value.steps" = some 1 := by kernel_rfl
theorem gd : Tryz.prog.globalNamed "chapman/decimal.steps" = some 2 := by kernel_rfl
theorem gvt : (Tryz.prog.globals[1]?).map (·.type) = some 172 := by kernel_rfl
theorem gdt : (Tryz.prog.globals[2]?).map (·.type) = some 172 := by kernel_rfl
theorem cells3 : Tryz.prog.cellsOf 3 = 1 := by kernel_rfl
theorem cells5 : Tryz.prog.cellsOf 5 = 1 := by kernel_rfl
theorem cells29 : Tryz.prog.cellsOf 29 = 3 := by kernel_rfl
theorem table_of {W : World} {sp : Nat → Bool} {fuel : Nat} {cs : Array Value} {p : List MemPlace}
    (h : DataW.trod (fun _ => ()) Tryz.prog W 0 sp false fuel 172 cs.toList = some (DataW.agg [.lit (.int .i64 1000000), .lit (.int .i64 100000), .lit (.int .i64 10000), .lit (.int .i64 1000), .lit (.int .i64 100), .lit (.int .i64 10), .lit (.int .i64 1)], p)) :
    ∀ i : Nat, i < 7 → cs[i]? = some (.int .i64 (stepN i)) := by
  obtain ⟨xs, m, _, hx, hl, hxl, hg⟩ := DataW.trod_array Tryz.underlying172 h
  rw [cells3] at hg
  have key : ∀ i (x : DataW Unit × List MemPlace), i < 7 → xs[i]? = some x → ∃ n, cs[i]? = some (.int .i64 n) ∧ x.1 = .lit (.int .i64 n) := by
    intro i x hi hxi
    have h1 := hg i hi
    rw [hxi] at h1
    obtain ⟨n, e, hx, _⟩ := DataW.trod_int Tryz.underlying3 h1
    refine ⟨n, ?_, by rw [hx]⟩
    have h2 : ((cs.toList.drop (i * 1)).take 1)[0]? = some (.int .i64 n) := by rw [e]; rfl
    rw [List.getElem?_take, if_pos (by omega), List.getElem?_drop] at h2
    simpa using h2
  have hm := (Prod.mk.inj hx).1
  injection hm with hm
  match xs, hxl, hm, key with
  | [x0, x1, x2, x3, x4, x5, x6], _, hm, key =>
    simp only [List.map_cons, List.map_nil, List.cons.injEq, and_true] at hm
    obtain ⟨e0, e1, e2, e3, e4, e5, e6⟩ := hm
    intro i hi
    match i, hi with
    | 0, hi => obtain ⟨n, hc, hn⟩ := key 0 x0 hi rfl; rw [← e0] at hn; injection hn with hn; injection hn with _ hn; rw [hc, ← hn]; rfl
    | 1, hi => obtain ⟨n, hc, hn⟩ := key 1 x1 hi rfl; rw [← e1] at hn; injection hn with hn; injection hn with _ hn; rw [hc, ← hn]; rfl
    | 2, hi => obtain ⟨n, hc, hn⟩ := key 2 x2 hi rfl; rw [← e2] at hn; injection hn with hn; injection hn with _ hn; rw [hc, ← hn]; rfl
    | 3, hi => obtain ⟨n, hc, hn⟩ := key 3 x3 hi rfl; rw [← e3] at hn; injection hn with hn; injection hn with _ hn; rw [hc, ← hn]; rfl
    | 4, hi => obtain ⟨n, hc, hn⟩ := key 4 x4 hi rfl; rw [← e4] at hn; injection hn with hn; injection hn with _ hn; rw [hc, ← hn]; rfl
    | 5, hi => obtain ⟨n, hc, hn⟩ := key 5 x5 hi rfl; rw [← e5] at hn; injection hn with hn; injection hn with _ hn; rw [hc, ← hn]; rfl
    | 6, hi => obtain ⟨n, hc, hn⟩ := key 6 x6 hi rfl; rw [← e6] at hn; injection hn with hn; injection hn with _ hn; rw [hc, ← hn]; rfl
def laidL : List (String × DataW Unit) := [("chapman/decimal.steps", Rows.laid_chapman_decimal_steps), ("chapman/value.steps", Rows.laid_chapman_value_steps)]
theorem laid_of {W : World} (h : laidMetH Tryz.prog laidL W) : Laid W := by
  obtain ⟨ps, ⟨g, t, cs, fuel, p, q, hg, ht, hc, hd, ⟨g', t', cs', fuel', p', q', hg', ht', hc', hd', _⟩, _⟩, _⟩ := (show laidMet Tryz.prog laidL W from h)
  obtain rfl := Option.some.inj (gd.symm.trans hg)
  obtain rfl := Option.some.inj (gdt.symm.trans ht)
  obtain rfl := Option.some.inj (gv.symm.trans hg')
  obtain rfl := Option.some.inj (gvt.symm.trans ht')
  exact ⟨fun i hi => (World.var?_cell gv hc' i).trans (table_of hd' i hi), fun i hi => (World.var?_cell gd hc i).trans (table_of hd i hi)⟩
noncomputable def tblW (w : World) : World :=
  { w with heap := (w.heap.modify 1 fun
      | .cells _ t frozen => .cells #[.int .i64 1000000, .int .i64 100000, .int .i64 10000, .int .i64 1000, .int .i64 100, .int .i64 10, .int .i64 1] t frozen
      | o => o).modify 2 fun
      | .cells _ t frozen => .cells #[.int .i64 1000000, .int .i64 100000, .int .i64 10000, .int .i64 1000, .int .i64 100, .int .i64 10, .int .i64 1] t frozen
      | o => o }
noncomputable def laidW (os : Os) : World := tblW (World.holding Tryz.prog os ⟨#[], #[], []⟩)
theorem laidW_met (os : Os) (args : Array Value) : laidMetH Tryz.prog laidL ((laidW os).forCall (fun _ _ => 0) ⟨#[], args, []⟩).memory :=
  show laidMet Tryz.prog laidL _ from laidMet_of_run' 8 (by kernel_rfl) (by kernel_rfl)
theorem bytes_of {H : Type} {enc : TypeId × Value → H} {W : World} {fuel : Nat} {cs : List Value} {x : DataW H × List MemPlace} (h : DataW.trod enc Tryz.prog W 0 (fun _ => true) true fuel 22 cs = some x) :
    ∃ A l c, cs = [.slice A (List.length l) c] ∧ l.length ≤ c ∧ Kd.C (Kd.int .u8) W A l.length l ∧ Byt l := by
  have wfb : ∀ x : Int, (Lit.int .u8 x).wf = true → 0 ≤ x ∧ x < 256 := fun x h => by
    simp [Lit.wf, IntKind.min, IntKind.max, IntKind.signed, IntKind.bits] at h
    omega
  have fin : ∀ (A : Option Addr) (len cap : Nat) (zs : List Int), ((A = none ∧ len = 0 ∧ cap = 0 ∧ zs = []) ∨ ∃ x, A = some x ∧ len ≤ cap ∧ cap ≤ maxLen ∧ zs.length = cap ∧ (∀ i, i < zs.length → W.cell? (x.add i) = some (.int .u8 (zs.getD i 0))) ∧ ∀ n ∈ zs, (Lit.int .u8 n).wf = true) →
      ∃ A' l c, [Value.slice A len cap] = [.slice A' (List.length l) c] ∧ l.length ≤ c ∧ Kd.C (Kd.int .u8) W A' l.length l ∧ Byt l := by
    intro A len cap zs h
    obtain ⟨l, rfl, hr, hm, hw, hc⟩ := ReadsInt.ofRowC h
    exact ⟨A, l, cap, rfl, hc, Kd.C_of_reads (d := (0 : Int)) (h1 := fun _ => rfl) hr, fun x hx => wfb x (hw x hx)⟩
  rcases open_ints Tryz.underlying22 Tryz.underlying5 cells5 h with ⟨rfl, _⟩ | ⟨x, l, c, zs, rfl, _, hl, hm, hz, _, hcell, hwz⟩
  · exact fin none 0 0 [] (.inl ⟨rfl, rfl, rfl, rfl⟩)
  · exact fin (some x) l c zs (.inr ⟨x, rfl, hl, hm, by simpa using hz, hcell, hwz⟩)
set_option maxRecDepth 100000 in
theorem three_of {H : Type} {enc : TypeId × Value → H} {W : World} {base : Nat} {v : Value} {d : DataW H} {p : List MemPlace} (hv : Value.okWide Tryz.prog W .any base 29 v) (h : DataW.Trod enc Tryz.prog W 0 (fun _ => true) true 29 v d p) :
    ∃ b0 b1 b2 : Int, v = .agg #[.int .u8 b0, .int .u8 b1, .int .u8 b2] ∧ (0 ≤ b0 ∧ b0 < 256) ∧ (0 ≤ b1 ∧ b1 < 256) ∧ (0 ≤ b2 ∧ b2 < 256) := by
  have wfb : ∀ x : Int, (Lit.int .u8 x).wf = true → 0 ≤ x ∧ x < 256 := fun x h => by
    simp [Lit.wf, IntKind.min, IntKind.max, IntKind.signed, IntKind.bits] at h
    omega
  obtain ⟨cs, rfl, hsz, _⟩ : ∃ cs, v = .agg cs ∧ cs.size = Tryz.prog.cellsOf 29 ∧ Row.okWide Tryz.prog W .any base 29 cs := by
    simpa [Value.okWide, Tryz.underlying29] using hv
  rw [cells29] at hsz
  obtain ⟨l⟩ := cs
  match l, hsz, h with
  | [c0, c1, c2], _, h =>
    obtain ⟨fuel, hf⟩ := h
    obtain ⟨y0, y1, y2, m, _, hy0, hy1, hy2⟩ := trod_array3 Tryz.underlying29 cells5 hf
    obtain ⟨x0, e0, _, w0⟩ := DataW.trod_int Tryz.underlying5 hy0
    obtain ⟨x1, e1, _, w1⟩ := DataW.trod_int Tryz.underlying5 hy1
    obtain ⟨x2, e2, _, w2⟩ := DataW.trod_int Tryz.underlying5 hy2
    simp at e0 e1 e2
    subst e0 e1 e2
    exact ⟨x0, x1, x2, rfl, wfb _ w0, wfb _ w1, wfb _ w2⟩
theorem cells22g : Tryz.prog.cellsOf 22 = 1 := by kernel_rfl
theorem rows_of {H : Type} {enc : TypeId × Value → H} {W : World} {fuel : Nat} {cs : List Value} {x : DataW H × List MemPlace} (h : DataW.trod enc Tryz.prog W 0 (fun _ => true) true fuel 24 cs = some x) :
    ∃ A ls c, cs = [.slice A (List.length ls) c] ∧ Kd.C (Kd.slice 5 (Kd.int .u8)) W A ls.length ls ∧ ∀ l ∈ ls, Byt l := by
  rcases Deep.open_slice1 Tryz.underlying24 cells22g h with ⟨rfl, _⟩ | ⟨a, len, cap, m, n, V, D, Pl, rfl, _, hl, hm, hmm, _, hx⟩
  · exact ⟨none, [], 0, rfl, Kd.C_nil _ _, by simp⟩
  · simp only [if_true] at hmm
    have each : ∀ r, r < len → ∃ l : List Int, Byt l ∧ ∃ A c, W.cell? (a.add r) = some (.slice A l.length c) ∧ l.length ≤ c ∧ Kd.C (Kd.int .u8) W A l.length l := by
      intro r hr
      obtain ⟨h1, h2⟩ := hx r (by omega)
      obtain ⟨A, l, c, e, hc, hC, hb⟩ := bytes_of h2
      injection e with e
      rw [e] at h1
      exact ⟨l, hb, A, c, h1, hc, hC⟩
    obtain ⟨ls, hls, hv⟩ := exists_list ([] : List Int) (fun r l => Byt l ∧ ∃ A c, W.cell? (a.add r) = some (.slice A l.length c) ∧ l.length ≤ c ∧ Kd.C (Kd.int .u8) W A l.length l) len each
    subst hls
    refine ⟨some a, ls, cap, rfl, ⟨rfl, by unfold maxLen at *; omega, fun _ => ⟨_, rfl, fun j p hp => ?_⟩⟩, fun l hl => ?_⟩
    · have hj := (List.getElem?_eq_some_iff.1 hp).1
      obtain ⟨_, A, c, h1, h2, h3⟩ := hv j hj
      rw [List.getD_eq_getElem?_getD, hp, Option.getD_some] at h1 h2 h3
      refine ⟨[.slice A p.length c], rfl, ⟨A, c, rfl, h2, h3⟩, fun i u hu => ?_⟩
      match i, hu with
      | 0, hu =>
        obtain rfl := Option.some.inj hu
        simpa [Kd.slice] using h1
    · obtain ⟨i, hi, rfl⟩ := List.getElem_of_mem hl
      have := (hv i hi).1
      rw [List.getD_eq_getElem?_getD, List.getElem?_eq_getElem hi] at this
      exact this
set_option maxRecDepth 100000 in
theorem grp_lifted (os : Os) (started : os.Started) (H : Type) (enc : TypeId × Value → H) :
    ReturnsInHanded {} Tryz.checked os 5 .any (fun w args => (Rows.partitionGroupsSpec.pre enc Tryz.prog Tryz.f5 [] false w args ∧ laidMetH Tryz.prog laidL w) ∧ sizedMet enc Tryz.prog Tryz.f5 (OpenSpec.ofChange Rows.partitionGroupsSpec) false w args)
      (Rows.partitionGroupsSpec.post enc Tryz.prog Tryz.f5 false true false false) := by
  refine returnsInHanded_of_change_and (C := Tryz.checked) (X := fun w _ => laidMetH Tryz.prog laidL w) (fun _ _ _ hh h => h.of_heap hh) own started (by kernel_rfl) Tryz.func5
    (ChangeSpec.witness_at (enc := enc) (C := Tryz.checked) (os := os) (X := fun w _ => laidMetH Tryz.prog laidL w) false (laidW os) #[.slice none 0 0, .agg #[.int .u8 0, .int .u8 0, .int .u8 0], .slice none 0 0] 8 rfl (by kernel_rfl) (by kernel_rfl) (by kernel_rfl) (by kernel_rfl) (by kernel_rfl) (laidW_met os _)) ?_
  intro W base args ds gs before hval0 hW _ _ hL _
  have hval : ∀ (j : Nat) t v, Tryz.f5.params[j]? = some t → args[j]? = some v → Value.okWide Tryz.prog W .any base t v := hval0
  have hW' := hW
  obtain ⟨p, q, hA0, hV, rfl, hfz, hnd⟩ := hW
  have hA : DataW.TrodAll enc Tryz.prog W 0 (fun _ => true) true Tryz.f5.params.toList args.toList ds p := hA0
  rw [Tryz.params5] at hA hval
  obtain ⟨v0, vs0, d0, ds0, p0, q0, hargs, rfl, rfl, h0, r0⟩ := trodAll_cons hA
  obtain ⟨v1, vs1, d1, ds1, p1, q1, rfl, rfl, rfl, h1, r1⟩ := trodAll_cons r0
  obtain ⟨v2, vs2, d2, ds2, p2, q2, rfl, rfl, rfl, h2, r2⟩ := trodAll_cons r1
  obtain ⟨rfl, rfl, rfl⟩ := trodAll_nil r2
  obtain rfl : args = #[v0, v1, v2] := by cases args; simp_all
  obtain ⟨rfl, rfl⟩ := trodVars_none hV
  have k0 := h0
  have k1 := h1
  have k2 := h2
  have lt0 : ∀ x ∈ p0, x.block < W.heap.size := by obtain ⟨m, hm⟩ := k0; exact DataW.trod_lt m _ _ _ hm
  have lt1 : ∀ x ∈ p1, x.block < W.heap.size := by obtain ⟨m, hm⟩ := k1; exact DataW.trod_lt m _ _ _ hm
  have lt2 : ∀ x ∈ p2, x.block < W.heap.size := by obtain ⟨m, hm⟩ := k2; exact DataW.trod_lt m _ _ _ hm
  obtain ⟨a0, len0, cap0, rfl⟩ := okWide_slice Tryz.underlying22 (hval 0 22 v0 rfl rfl)
  obtain ⟨fuel, hf⟩ := h0
  obtain ⟨A0, l0, c0, e0, hc0, hr0, hy0⟩ := bytes_of hf
  obtain ⟨b0, b1, b2, rfl, hb0, hb1, hb2⟩ := three_of (hval 1 29 v1 rfl rfl) h1
  obtain ⟨a2, len2, cap2, rfl⟩ := okWide_slice Tryz.underlying24 (hval 2 24 v2 rfl rfl)
  obtain ⟨fuel2, hf2⟩ := h2
  obtain ⟨A1, ls, c1, e2, hr1, hy1⟩ := rows_of hf2
  simp only [Value.cells, List.cons.injEq, and_true] at e0 e2
  injection e0 with e0 e01 e02
  subst e0 e01 e02
  injection e2 with e2 e21 e22
  subst e2 e21 e22
  obtain ⟨T, a, b, n, L, ps, g1, g2, g3, g4, g5, g6, g7, g8, g9⟩ := grp_pure hy0 hy1 hb0 hb1 hb2
  clear hA0 hval0
  refine (chapmanlaw32_PartitionGroups.calls a0 cap0 l0 b0 b1 b2 a2 cap2 ls W (laid_of hL) hr0 hc0 hr1 hb0 hb1 hb2 hy1 T g1 g2 a b n g3 L g4 g5 ps g6 g7 g8 g9).mono fun e W' ⟨he, bel⟩ => ?_
  subst he
  exact ⟨_, rfl, _, _, _, [], _, [], hW', trodAll_mk1 (shut_bool Tryz.underlying4 _),
    trodAll_cons_mk (Below.trod laidOut (by kernel_rfl) (of_decide_eq_true (by kernel_rfl)) k0 bel lt0) (trodAll_cons_mk (Below.trod laidOut (by kernel_rfl) (of_decide_eq_true (by kernel_rfl)) k1 bel lt1) (trodAll_cons_mk (Below.trod laidOut (by kernel_rfl) (of_decide_eq_true (by kernel_rfl)) k2 bel lt2) trodAll_mk0)), rfl, bel.frame _, fun h => by cases h⟩
theorem grp_row : Rows.PartitionGroupsSaid :=
  OpenClaim.holds_of_wide 5 Tryz.f5 rfl rfl rfl rfl rfl rfl rfl ⟨rfl, rfl, rfl, rfl, rfl⟩ rfl rfl rfl rfl rfl (by kernel_rfl) Tryz.func5 (by kernel_rfl)
    (of_decide_eq_true (by kernel_rfl)) (by unfold Func.isWrapper; first | (rw [if_pos (by decide +kernel)]; kernel_rfl) | (rw [if_neg (by decide +kernel)]; exact ⟨rfl, rfl⟩))
    (fun os started H enc _ => grp_lifted os started H enc)
theorem grp_card : Rows.PartitionGroupsCardSaid :=
  Claim7.holds_tied_plain_at .later [] [.data, .data] true (true, "ce419de17c798dc981aef98fc54f8a5232ef72c256b58cd68ef6717b0c115c19") false
    grp_row (fun _ h => by cases h) (by kernel_rfl) (fun _ h => by cases h) partitionGroups_row_tie rfl ⟨rfl, rfl⟩ (by kernel_rfl) rfl
    (fun f fn hf hfn => by
      obtain rfl : f = 5 := Option.some.inj ((show Tryz.prog.funcNamed "chapman/chapmanlaw32.PartitionGroups" = some 5 by kernel_rfl).symm.trans hf) |>.symm
      obtain rfl : fn = Tryz.f5 := (Option.some.inj (Tryz.func5.symm.trans hfn)).symm
      exact ⟨by kernel_rfl, fun j t ht => by
        rw [Tryz.params5] at ht
        rcases j with _ | _ | _ | j
        · obtain rfl : 22 = t := by simpa using ht
          exact (show Tryz.prog.wantsStandIn 22 = false by kernel_rfl)
        · obtain rfl : 29 = t := by simpa using ht
          exact (show Tryz.prog.wantsStandIn 29 = false by kernel_rfl)
        · obtain rfl : 24 = t := by simpa using ht
          exact (show Tryz.prog.wantsStandIn 24 = false by kernel_rfl)
        · simp at ht⟩)
    (by kernel_rfl)
#print axioms grp_card
end Rw
end Go.Proofs.YteflfnjljjianaaGreatDoor
