/- Part of a proof of PartitionBoundsCardSaid: functions of the given program and what they compute, each checked by the kernel. -/
import Derived.Test.YteflfnjljjianaaGreatDoorPB02
import Derived.Test.YteflfnjljjianaaGreatDoorPB03
import Derived.Deep.RegionHeld3
import Derived.Deep.AppendLies
import Derived.Laws.Closers25b
import Derived.Lib.AppendStr
namespace Go.Proofs.YteflfnjljjianaaGreatDoor.Qx
open Go.RowKit Go.Proofs.YteflfnjljjianaaGreatDoorW.PrintWords Go.Proofs.YteflfnjljjianaaGreatDoorW.PrintLast Go.Proofs.YteflfnjljjianaaGreatDoorW.PrintMore
attribute [local go_sem] max2_int min2_int max_two min_two
set_option linter.unusedVariables false
set_option linter.unusedSimpArgs false
theorem ownsRow_cap {w : World} {b : Nat} {e : TypeId} {size : Nat} {A : Addr} {n c m : Nat} {xs : List Value} (h : w.ownsRow b e size (.slice (some A) n c) m xs) : m ≤ c := by
  rcases h.2 with ⟨h, _⟩ | ⟨g, cap, cur, e1, _, _, h2, _⟩
  · cases h
  · cases e1; exact h2
theorem Drawn0.grownBy {w w' : World} (h : Drawn0 w w') : w.grownBy w' none := by
  obtain ⟨n, rfl⟩ := h.out
  exact ⟨rfl, rfl, rfl, Nat.le_refl _, fun _ _ _ => rfl⟩
theorem BytesAt.of_own {w : World} {base : Nat} {e : TypeId} {g n m c : Nat} {xs : List Value} {zs : List Int} (h : w.ownsRow base e 1 (.slice (some ⟨g, 0, none⟩) n c) m xs) (hx : xs = zs.map (.int .u8)) : BytesAt w (some ⟨g, 0, none⟩) zs :=
  ⟨nofun, fun b e j u hj => by cases e; exact h.cells rfl j u (by rw [hx]; exact hj)⟩
def value_Append.l (k i : Int) (s : ByteArray) : List Int :=
  IntKind.u8.wrap k :: (if k = 1 then [i % 256] else if k = 2 then vi 9 ((bitpack_Zigzag.f i).getD 0) else if k = 3 then vi 9 s.size ++ s.data.toList.map (fun b => (b.toNat : Int)) else [])
def value_Append.f (k i : Int) (s : ByteArray) : Option (List Int) := if s.size ≤ 900000 then some (value_Append.l k i s) else none
theorem step_append_string {P : Program} (w : World) {ops : Array Oper} {o : Oper} {a : Act} {K : Act → World → Prop} {Q : Exit → Act → World → Prop} {E : Prop} (hgd : o.guard = none) (s x : Operand) (t u : TypeId)
    (ho : o.op = .call { callee := .builtin .append, args := #[s, x], argTypes := #[t, u] })
    (base : Nat) (e : TypeId) (i : TypeInfo) (ht : P.underlying t = some (.slice e)) (hu : P.underlying u = some .string) (hi : P.info? e = some i) (hz : i.zero = some (.int .u8 0))
    (hsize : i.size = 1) (hby : i.bytes = 1) (v : Value) (n : Nat) (xs : List Value) (hs : a.eval s = v) (hown : w.ownsRow base e 1 v n xs) (st : ByteArray) (hx : a.eval x = .string st)
    (h63 : n + st.size ≤ maxLen) (hbytes : n + st.size ≤ 140737488355328) (hbase : base ≤ w.heap.size)
    (h : ∀ v' w', w'.ownsRow base e 1 v' (n + st.size) (xs ++ Lib.strCells st) → w.grownBy w' v.ownBlock → K (a.put o.dst v') w') :
    if Region.wanted o (yielded ops a.tmps) = true then Oper.wp P o a w K Q else E := by
  have hw : Region.wanted o (yielded ops a.tmps) = true := by simp [Region.wanted, hgd]
  rw [if_pos hw]
  obtain ⟨v', w', hr, h2, h3, h4⟩ := Lib.run_append_own_string (P := P) w base t u o.type e i ht hu hi hz hsize hby v n xs hown st h63 hbytes hbase
  unfold Oper.wp execOp
  simp only [ho, resolve, invoke, builtin, Sem.run_bind, Sem.run_pure, Result.andThen_ok, List.map_toArray, List.map_cons, List.map_nil, hs, hx, hr]
  exact h v' w' h2 h3
theorem zig_lt (i r : Int) (h : bitpack_Zigzag.f i = some r) : 0 ≤ r ∧ r < 18446744073709551616 := by
  obtain rfl := Option.some.inj h
  exact ⟨bits_lo_u64 _ _ _, by have := bits_hi_u64 .xor (IntKind.u64.wrap ((IntKind.u64.wrap i) * 2)) (IntKind.u64.wrap (i / 9223372036854775808)); omega⟩
set_option maxRecDepth 100000 in
set_option maxHeartbeats 2000000 in
theorem value_Append.calls (k i : Int) (s : ByteArray) (r : List Int) (w : World) (h : value_Append.f k i s = some r) :
    Calls Tryz.prog 113 #[.slice none 0 0, .agg #[.int .i64 k, .int .i64 i, .string s]] w fun e w' => ∃ v, e = .returned v ∧ w'.ownsRow w.heap.size 5 1 v r.length (r.map (.int .u8)) ∧ Below w.heap.size w w' := by
  obtain ⟨hs, rfl⟩ : s.size ≤ 900000 ∧ value_Append.l k i s = r := by
    unfold value_Append.f at h
    split at h
    · exact ⟨by assumption, Option.some.inj h⟩
    · exact absurd h (by simp)
  clear h
  have hu22 := Tryz.underlying22
  have hu35 := Tryz.underlying35
  obtain ⟨i0, hi, hz0, hz1, hz2⟩ := info_parts info5
  go_enter Tryz.func113, Tryz.ntmps113
  go_wp2_with fail
  have B3 := heap_alloc_new w (.cells #[.int .i64 k, .int .i64 i, .string s] 35)
  have hB := (Below.refl w.heap.size w).alloc (Nat.le_refl _) (.cells #[.int .i64 k, .int .i64 i, .string s] 35)
  have hW : (w.alloc (.cells #[.int .i64 k, .int .i64 i, .string s] 35)).heap.size = w.heap.size + 1 := by simp
  generalize w.alloc (.cells #[.int .i64 k, .int .i64 i, .string s] 35) = W at *
  have c0 : W.cell? ⟨w.heap.size, 0, none⟩ = some (.int .i64 k) := (blk_cell B3 0).trans rfl
  have d0 : W.drew.cell? ⟨w.heap.size, 0, none⟩ = some (.int .i64 k) := (blk_cell (blk_drew B3) 0).trans rfl
  go_region_held3 (fun w' => w'.cell? ⟨w.heap.size, 0, none⟩ = some (.int .i64 k)) (first
      | go_keep
      | (rw [hgrow.cell_far _ (by simp [hW]; omega) (by simp [Value.ownBlock])]; assumption)) (first
      | (go_at_call 143
         refine (slices_Clip.calls none 0 0 (Nat.le_refl _) _).mono ?_
         rintro e w1 ⟨rfl, hw1⟩
         subst hw1)
      | (refine step_append_lies _ (by rfl) _ _ _ (by rfl) w.heap.size 5 i0 (.int .u8 0) 1 1 Tryz.underlying22 hi hz0 hz1 hz2 rfl (by omega) (.slice none 0 0) 0 [] (by rfl) (World.ownsRow_nil _ _ _ _) ⟨w.heap.size + 1, 0, none⟩ 1 1 [.int .u8 (IntKind.u8.wrap k)] (by rfl) (by rfl) (World.news_of_block (cs := #[.int .u8 (IntKind.u8.wrap k)]) (t := 5) (fr := (0, 0)) (by rw [← hW]; exact blk_drew (heap_alloc_new W _))) (one_oneCell _) (by omega) (by unfold maxLen; omega) (by omega) (by simp [hW]; omega) (W.heap.size + 1) (by simp) ?_
         intro g1 cap1 w1 hown hgrow hat hlt))
  all_goals
    have hB1 := (below_drew1 (hB.alloc hB.size (.cells #[.int .u8 (IntKind.u8.wrap k)] 5))).grown hgrow (by simp [hW]; omega) (fun k h => by cases h)
    have c1 : w1.cell? ⟨w.heap.size, 0, none⟩ = some (.int .i64 k) := by assumption
    have B4 : w1.heap[w.heap.size]? = some (.cells #[.int .i64 k, .int .i64 i, .string s] 35 (0, 0)) := (hgrow.block _ (by simp [hW]; omega) (by simp [Value.ownBlock])).trans (blk_drew (blk_alloc B3 _))
    clear hgrow
    have c2 : w1.cell? ⟨w.heap.size, 1, none⟩ = some (.int .i64 i) := (blk_cell B4 1).trans rfl
    have c3 : w1.cell? ⟨w.heap.size, 2, none⟩ = some (.string s) := (blk_cell B4 2).trans rfl
    by_cases h1 : k = 1
    · subst h1
      go_wp2_with (at_builtin; refine wpList_append_own _ rfl (.tmp 17) (.tmp 21) 22 rfl w.heap.size 5 i0 (.int .u8 0) 1 1 Tryz.underlying22 hi hz0 hz1 hz2 rfl (by decide) _ 1 _ rfl (hown.alloc _) ⟨w1.heap.size, 0, none⟩ 1 1 [.int .u8 (i % 256)] rfl rfl (one_cells w1 5 _) (one_oneCell _) (by unfold maxLen; omega) (by omega) (by simp; exact Nat.le_trans hB1.size (Nat.le_succ _)) ?_; intro v2 w2 hown2 hg2 _)
      go_ret
      exact ⟨_, rfl, by simpa [value_Append.l] using hown2, (hB1.alloc hB1.size _).grown hg2 (by simp; exact Nat.le_trans hB1.size (Nat.le_succ _)) (fun k h => (hown.lt k h).1)⟩
    · have d1 : (k == 1) = false := beq_false_of_ne h1
      by_cases h2 : k = 2
      · subst h2
        obtain ⟨z, hz⟩ : ∃ z, bitpack_Zigzag.f i = some z := ⟨_, rfl⟩
        have hzl := zig_lt i z hz
        have hl : value_Append.l 2 i s = IntKind.u8.wrap 2 :: vi 9 z := by simp [value_Append.l, hz]
        have HL := Lib.hid hl
        have HZ := Lib.hid hz
        clear hz hl
        go_wp2_with fail
        refine (bitpack_Zigzag.calls i z _ HZ.out).mono ?_
        rintro e w2 ⟨rfl, hd⟩
        have hown2 := hown.kept (row := none) (Drawn0.grownBy hd) (.inr (by simp [Value.ownBlock]))
        have hB2 := below_then hB1 hB1.size hd.below
        go_wp2_with fail
        refine (bitpack_Varint.calls (some ⟨g1, 0, none⟩) 1 cap1 [IntKind.u8.wrap 2] rfl (ownsRow_cap hown2) (by decide) (fun h => by cases h) z hzl.1 hzl.2 w2 (BytesAt.of_own hown2 (by simp))).mono ?_
        rintro e w3 ⟨v3, rfl, hown3, hb3⟩
        go_wp2
        go_ret
        exact ⟨_, rfl, by rw [HL.out]; simpa [Nat.add_comm] using ownsRow_lower hown3 hB2.size, below_then hB2 hB2.size hb3⟩
      · have d2 : (k == 2) = false := beq_false_of_ne h2
        by_cases h3 : k = 3
        · subst h3
          have hl : value_Append.l 3 i s = IntKind.u8.wrap 3 :: (vi 9 s.size ++ s.data.toList.map (fun b => (b.toNat : Int))) := by simp [value_Append.l]
          have HL := Lib.hid hl
          have hvi := vi_le 9 (s.size : Int)
          have hwr : IntKind.u64.wrap (s.size : Int) = s.size := by
            simp [IntKind.wrap, IntKind.bits, IntKind.signed]
            omega
          have HW := Lib.hid hwr
          have lt1 : w.heap.size < w1.drew.heap.size := World.block_lt_of_cell? w1 _ c1
          clear hwr
          clear hl
          go_wp2_with fail
          go_region_held3 (fun w' => w'.cell? ⟨w.heap.size, 2, none⟩ = some (.string s)) (first
            | go_keep
            | exact pw_cell_below hb3 (by assumption)
            | exact hg4.cell (by assumption) (fun e => Nat.lt_irrefl _ (Nat.lt_of_lt_of_le lt1 (hown3.lt _ e.symm).1))) (first
            | (go_at_call 144
               rw [HW.out]
               refine (bitpack_Varint.calls (some ⟨g1, 0, none⟩) 1 cap1 [IntKind.u8.wrap 3] rfl (ownsRow_cap hown) (by decide) (fun h => by cases h) (s.size : Int) (by omega) (by omega) _ (BytesAt.of_own (World.ownsRow.drew hown) (by simp))).mono ?_
               rintro e w3 ⟨v3, rfl, hown3, hb3⟩)
            | (refine step_append_string _ (by rfl) _ _ _ _ (by rfl) w.heap.size 5 i0 Tryz.underlying22 Tryz.underlying9 hi hz0 hz1 hz2 v3 (1 + (vi 9 (s.size : Int)).length) _ (by rfl) (ownsRow_lower hown3 hB1.size) s (by rfl) (by unfold maxLen; omega) (by omega) (Nat.le_trans hB1.size hb3.size) ?_
               intro v4 w4 hown4 hg4))
          all_goals
            have hB3 := below_then (below_drew1 hB1) hB1.size hb3
            have hB4 := hB3.grown hg4 hB3.size (fun k h => Nat.le_trans hB1.size (hown3.lt k h).1)
            go_wp2
            go_ret
            exact ⟨_, rfl, by rw [HL.out]; simpa [Nat.add_comm, Nat.add_assoc, Nat.add_left_comm, Lib.strCells, Function.comp_def] using hown4, hB4⟩
        · have d3 : (k == 3) = false := beq_false_of_ne h3
          go_wp2
          go_ret
          exact ⟨_, rfl, by simpa [value_Append.l, h1, h2, h3] using hown, hB1⟩
end Go.Proofs.YteflfnjljjianaaGreatDoor.Qx
namespace Go.Proofs.YteflfnjljjianaaGreatDoor.Qx
open Go.RowKit Go.Proofs.YteflfnjljjianaaGreatDoorW.PrintWords Go.Proofs.YteflfnjljjianaaGreatDoorW.PrintLast Go.Proofs.YteflfnjljjianaaGreatDoorW.PrintMore
attribute [local go_sem] max2_int min2_int max_two min_two
set_option linter.unusedVariables false
set_option linter.unusedSimpArgs false
theorem ownsRow_bytes {w : World} {b : Nat} {e : TypeId} {v : Value} {l : List Int} (h : w.ownsRow b e 1 v l.length (l.map (.int .u8))) : ∃ ao c, v = .slice ao l.length c ∧ l.length ≤ c ∧ BytesAt w ao l ∧ ∀ a, ao = some a → a.block < w.heap.size := by
  rcases h.2 with ⟨rfl, hl⟩ | ⟨g, cap, cur, rfl, hb, hg, hc, _⟩
  · refine ⟨none, 0, by rw [hl], by omega, ⟨fun _ => List.eq_nil_of_length_eq_zero hl, nofun⟩, nofun⟩
  · refine ⟨some ⟨g, 0, none⟩, cap, rfl, hc, BytesAt.of_own h rfl, ?_⟩
    intro a e
    cases e
    exact blk_lt hg
theorem value_Append.le (k i : Int) (s : ByteArray) (l : List Int) (h : value_Append.f k i s = some l) : l.length ≤ 1000000 := by
  unfold value_Append.f at h
  split at h
  · rename_i hs
    obtain rfl := Option.some.inj h
    have h1 := vi_le 9 ((bitpack_Zigzag.f i).getD 0)
    have h2 := vi_le 9 (s.size : Int)
    have h3 : s.data.toList.length = s.size := by simp
    unfold value_Append.l
    simp only [List.length_cons]
    split
    · simp
    · split
      · omega
      · split
        · simp only [List.length_append, List.length_map, h3]; omega
        · simp
  · exact absurd h (by simp)
def partition_spec_bucket.f (_k : Nat) (_a0 _a1 n k i : Int) (s : ByteArray) : Option (Int × Int × ByteArray) :=
  if 1 ≤ n ∧ n ≤ 64 then (value_Append.f k i s).bind fun l => partition_num.f (digest_Bytes.l l % n * 1000000) else none
theorem digStep_range (h x : Int) : 0 ≤ digStep h x ∧ digStep h x < 18446744073709551616 := by
  have := wrap_within .u64 (bits BinOp.xor IntKind.u64 (IntKind.u64.wrap (bits BinOp.xor IntKind.u64 h x * 15485907386658061715)) (IntKind.u64.wrap (bits BinOp.xor IntKind.u64 h x * 15485907386658061715) / 4294967296) * 11562461410679940143)
  have h1 : IntKind.u64.min = 0 := by decide
  have h2 : IntKind.u64.max = 18446744073709551615 := by decide
  unfold digStep
  omega
set_option maxRecDepth 100000 in
set_option maxHeartbeats 4000000 in
theorem partition_spec_bucket.calls (K : Nat) (a0 a1 n k i : Int) (s : ByteArray) (r1 r2 : Int) (r3 : ByteArray) (w : World) (h : partition_spec_bucket.f K a0 a1 n k i s = some (r1, r2, r3)) :
    Calls Tryz.prog 79 #[.agg #[.int .i64 a0, .int .i64 a1, .int .i64 n], .agg #[.int .i64 k, .int .i64 i, .string s]] w fun e w' => e = .returned (.agg #[.int .i64 r1, .int .i64 r2, .string r3]) ∧ Below w.heap.size w w' := by
  obtain ⟨hn, l, hl, hr⟩ : (1 ≤ n ∧ n ≤ 64) ∧ ∃ l, value_Append.f k i s = some l ∧ partition_num.f (digest_Bytes.l l % n * 1000000) = some (r1, r2, r3) := by
    unfold partition_spec_bucket.f at h
    split at h
    · exact ⟨by assumption, Option.bind_eq_some_iff.1 h⟩
    · exact absurd h (by simp)
  have hll := value_Append.le k i s l hl
  obtain ⟨hn1, hn2⟩ := hn
  have hdr := digStep_range ((wordsOf (l.length + 1) l).foldl digStep 422944466291) (l.length : Int)
  have hd : digest_Bytes.l l = digStep ((wordsOf (l.length + 1) l).foldl digStep 422944466291) (l.length : Int) := rfl
  rw [← hd] at hdr
  clear h hd
  generalize hdg : digest_Bytes.l l = d at *
  have HDG := Lib.hid hdg
  have HL := Lib.hid hl
  have HN := Lib.hid hr
  clear hdg hl hr
  have hu106 := Tryz.underlying106
  have hu35 := Tryz.underlying35
  go_enter Tryz.func79, Tryz.ntmps79
  go_wp2_with fail
  have B0 := blk_alloc (blk_alloc (heap_alloc_new w (.cells #[.int .i64 a0, .int .i64 a1, .int .i64 n] 106)) (.cells #[.int .i64 k, .int .i64 i, .string s] 35)) (.cells #[.int .i64 0, .int .i64 0, .string ⟨#[]⟩] 35)
  have B1 := blk_alloc (heap_alloc_new (w.alloc (.cells #[.int .i64 a0, .int .i64 a1, .int .i64 n] 106)) (.cells #[.int .i64 k, .int .i64 i, .string s] 35)) (.cells #[.int .i64 0, .int .i64 0, .string ⟨#[]⟩] 35)
  have B2 := heap_alloc_new ((w.alloc (.cells #[.int .i64 a0, .int .i64 a1, .int .i64 n] 106)).alloc (.cells #[.int .i64 k, .int .i64 i, .string s] 35)) (.cells #[.int .i64 0, .int .i64 0, .string ⟨#[]⟩] 35)
  have hB := (((Below.refl w.heap.size w).alloc (Nat.le_refl _) (.cells #[.int .i64 a0, .int .i64 a1, .int .i64 n] 106)).alloc (by simp only [World.size_alloc]; omega) (.cells #[.int .i64 k, .int .i64 i, .string s] 35)).alloc (by simp only [World.size_alloc]; omega) (.cells #[.int .i64 0, .int .i64 0, .string ⟨#[]⟩] 35)
  simp only [World.size_alloc] at B1 B2
  generalize ((w.alloc (.cells #[.int .i64 a0, .int .i64 a1, .int .i64 n] 106)).alloc (.cells #[.int .i64 k, .int .i64 i, .string s] 35)).alloc (.cells #[.int .i64 0, .int .i64 0, .string ⟨#[]⟩] 35) = W at *
  have keepS : ∀ w' : World, w'.heap[w.heap.size]? = some (.cells #[.int .i64 a0, .int .i64 a1, .int .i64 n] 106 (0, 0)) → w'.heap[w.heap.size + 1]? = some (.cells #[.int .i64 k, .int .i64 i, .string s] 35 (0, 0)) → (w'.cell? ⟨w.heap.size, 2, none⟩ = some (.int .i64 n) ∧ w'.cell? ⟨w.heap.size + 1, 0, none⟩ = some (.int .i64 k) ∧ w'.cell? ⟨w.heap.size + 1, 1, none⟩ = some (.int .i64 i) ∧ w'.cell? ⟨w.heap.size + 1, 2, none⟩ = some (.string s)) := fun w' b0 b1 => ⟨(blk_cell b0 2).trans rfl, (blk_cell b1 0).trans rfl, (blk_cell b1 1).trans rfl, (blk_cell b1 2).trans rfl⟩
  have KS := Lib.hid keepS
  have C0 := Lib.hid (blk_drew B0)
  have C1 := Lib.hid (blk_drew B1)
  have C2 := Lib.hid (blk_drew B2)
  have H0 := Lib.hid B0
  have H1 := Lib.hid B1
  clear keepS B0 B1 B2
  have hwr : IntKind.u64.wrap n = n := by
    simp [IntKind.wrap, IntKind.bits, IntKind.signed]
    omega
  have hw2 : IntKind.i64.wrap (IntKind.i64.wrap (d.tmod n) * 1000000) = d % n * 1000000 := by
    have h1 := Int.emod_nonneg d (show n ≠ 0 by omega)
    have h2 := Int.emod_lt_of_pos d (show 0 < n by omega)
    rw [Int.tmod_eq_emod_of_nonneg hdr.1]
    generalize d % n = q at *
    have hq : IntKind.i64.wrap q = q := by
      simp [IntKind.wrap, IntKind.bits, IntKind.signed]
      omega
    rw [hq]
    simp [IntKind.wrap, IntKind.bits, IntKind.signed]
    omega
  have HW := Lib.hid hw2
  clear hw2
  have hn0 : n ≠ 0 := by omega
  have hn00 : (n == 0) = false := beq_false_of_ne hn0
  go_region_held3 (fun w' => w'.cell? ⟨w.heap.size, 2, none⟩ = some (.int .i64 n) ∧ w'.cell? ⟨w.heap.size + 1, 0, none⟩ = some (.int .i64 k) ∧ w'.cell? ⟨w.heap.size + 1, 1, none⟩ = some (.int .i64 i) ∧ w'.cell? ⟨w.heap.size + 1, 2, none⟩ = some (.string s)) (first
      | (with_reducible exact KS.out _ H0.out H1.out)
      | (with_reducible exact KS.out _ C0.out C1.out)
      | (with_reducible exact KS.out _ D0.out D1.out)
      | (with_reducible exact KS.out _ E0.out E1.out)
      | (with_reducible exact KS.out _ F0.out F1.out)
      | (exact KS.out _ (blk_far (blk_far (blk_far F0.out (by simp only [ne_eq]; omega) _) (by simp only [ne_eq]; omega) _) (by simp only [ne_eq]; omega) _) (blk_far (blk_far (blk_far F1.out (by simp only [ne_eq]; omega) _) (by simp only [ne_eq]; omega) _) (by simp only [ne_eq]; omega) _))) (first
      | (go_at_call 113
         refine (value_Append.calls k i s l _ HL.out).mono ?_
         rintro e w1 ⟨v1, rfl, hown, hb1⟩
         obtain ⟨ao, cc, rfl, hcl, hby, hlt⟩ := ownsRow_bytes hown
         have D0 := Lib.hid (blk_below C0.out hb1)
         have D1 := Lib.hid (blk_below C1.out hb1)
         have D2 := Lib.hid (blk_below C2.out hb1))
      | (go_at_call 112
         refine (digest_Bytes.calls ao l.length cc l rfl hll hcl w1 hby hlt).mono ?_
         rintro e w2 ⟨rfl, hb2⟩
         rw [HDG.out]
         have E0 := Lib.hid (blk_below D0.out hb2)
         have E1 := Lib.hid (blk_below D1.out hb2)
         have E2 := Lib.hid (blk_below D2.out hb2))
      | (go_at_call 111
         rw [HW.out]
         refine (partition_num.calls _ r1 r2 r3 _ HN.out).mono ?_
         rintro e w3 ⟨rfl, hb3⟩
         have F0 := Lib.hid (blk_below E0.out hb3)
         have F1 := Lib.hid (blk_below E1.out hb3)
         have F2 := blk_below E2.out hb3
         have z0 : w3.cell? ⟨w.heap.size + 1 + 1, 0, none⟩ = some (.int .i64 0) := (blk_cell F2 0).trans rfl
         have y0 := blk_frozen F2 0
         have z1 : w3.cell? ⟨w.heap.size + 1 + 1, 1, none⟩ = some (.int .i64 0) := (blk_cell F2 1).trans rfl
         have y1 := blk_frozen F2 1
         have z2 : w3.cell? ⟨w.heap.size + 1 + 1, 2, none⟩ = some (.string ⟨#[]⟩) := (blk_cell F2 2).trans rfl
         have y2 := blk_frozen F2 2))
  all_goals
    have hB3 := below_then (below_then (below_then (below_drew1 hB) hB.size hb1) (Nat.le_trans hB.size hb1.size) hb2) (Nat.le_trans (Nat.le_trans hB.size hb1.size) hb2.size) hb3
    go_wp2
    refine bodyPost_ret (results_cell_row rfl _ _ (w.heap.size + 1 + 1) 35 #[.int .i64 r1, .int .i64 r2, .string r3] (0, 0) _ rfl (by refine blk_put (cs := #[.int .i64 r1, .int .i64 r2, .string ⟨#[]⟩]) ?_ 2 _ rfl; refine blk_put (cs := #[.int .i64 r1, .int .i64 0, .string ⟨#[]⟩]) ?_ 1 _ rfl; refine blk_put (cs := #[.int .i64 0, .int .i64 0, .string ⟨#[]⟩]) ?_ 0 _ rfl; exact F2) Tryz.underlying35 rfl (by kernel_rfl)) rfl ⟨rfl, ?_⟩
    exact below_set (below_set (below_set hB3 (by show w.heap.size ≤ w.heap.size + 1 + 1; omega)) (by show w.heap.size ≤ w.heap.size + 1 + 1; omega)) (by show w.heap.size ≤ w.heap.size + 1 + 1; omega)
end Go.Proofs.YteflfnjljjianaaGreatDoor.Qx
namespace Go.Proofs.YteflfnjljjianaaGreatDoor.Qx
open Go.RowKit Go.Proofs.YteflfnjljjianaaGreatDoorW.PrintWords Go.Proofs.YteflfnjljjianaaGreatDoorW.PrintLast Go.Proofs.YteflfnjljjianaaGreatDoorW.PrintMore
attribute [local go_sem] max2_int min2_int max_two min_two
set_option linter.unusedVariables false
set_option linter.unusedSimpArgs false
def partition_spec_floor.f (a0_0 : Int) (a0_1 : Int) (a0_2 : Int) (a1 : Int) : Option (Int) := if a0_2 = 0 then (none) else (if (Int.tmod a1 a0_2) < 0 then (some (wrap64 ((wrap64 (a1 - (Int.tmod a1 a0_2))) - a0_2))) else (some (wrap64 (a1 - (Int.tmod a1 a0_2)))))
set_option maxHeartbeats 8000000 in
set_option maxRecDepth 100000 in
theorem partition_spec_floor.calls (a0_0 : Int) (a0_1 : Int) (a0_2 : Int) (a1 : Int) (r : Int) (w : World) (h : partition_spec_floor.f a0_0 a0_1 a0_2 a1 = some r) :
    Calls Tryz.prog 114 #[.agg #[.int .i64 a0_0, .int .i64 a0_1, .int .i64 a0_2], .int .i64 a1] w fun e w' => e = .returned (.int .i64 r) ∧ Below w.heap.size w w' := by
  have hu106 := Tryz.underlying106
  have HB := Aside0.mk (Below.refl w.heap.size w)
  have H : (if a0_2 = 0 then (none) else (if (Int.tmod a1 a0_2) < 0 then (some (wrap64 ((wrap64 (a1 - (Int.tmod a1 a0_2))) - a0_2))) else (some (wrap64 (a1 - (Int.tmod a1 a0_2)))))) = some r := h
  clear h
  by_cases c3 : a0_2 = 0
  · rw [if_pos c3] at H
    exact absurd H (by simp)
  · rw [if_neg c3] at H
    have c3b0 : (a0_2 == 0) = false := beq_eq_false_iff_ne.mpr c3
    have c3b1 : (a0_2 != 0) = true := bne_iff_ne.mpr c3
    by_cases c4 : (Int.tmod a1 a0_2) < 0
    · rw [if_pos c4] at H
      have c4b0 : decide ((Int.tmod a1 a0_2) < 0) = true := decide_eq_true c4
      clear c4
      obtain rfl := Option.some.inj H
      go_enter Tryz.func114, Tryz.ntmps114
      go_wp2_with (first | ((with_reducible refine gate_dst (N := 2) rfl ?_); refine box_event ?hg (N := 2) ?hd (cs := #[.int .i64 a0_0, .int .i64 a0_1, .int .i64 a0_2]) (t := 106) ?hr ?_; (case hd => rfl); (case hg => rfl); (case hr => first | (go_simp; done) | (go_simp; rfl)); intro gb101 hg w5 hbox hb; have n0_ := Aside0.mk (below_step (by repeat (first | (with_reducible first | exact HB.out | apply below_alloc | apply pw_below_drewN | apply below_drew1) | exact HB.out)) hb); have n1_ := Aside0.mk (hbox); have n2_ := Aside0.mk ((by rw [hg]; exact (below_size (by repeat (first | (with_reducible first | exact HB.out | apply below_alloc | apply pw_below_drewN | apply below_drew1) | exact HB.out))) : w.heap.size ≤ gb101)); have n3_ := Aside0.mk ((by rw [hg]; exact (below_size (by repeat (first | (with_reducible first | exact HB.out | apply below_alloc | apply pw_below_drewN | apply below_drew1) | exact HB.out))) : w.heap.size ≤ gb101)); clear HB; have HB := n0_; have BK101 := n1_; have GW101 := n2_; have GE101 := n3_; clear n0_ n1_ n2_ n3_; clear hb hbox hg; have hcz6_0 : w5.cell? ⟨gb101, 0, none⟩ = some (.int .i64 a0_0) := (blk_cell BK101.out 0).trans rfl; have hcz6_1 : w5.cell? ⟨gb101, 1, none⟩ = some (.int .i64 a0_1) := (blk_cell BK101.out 1).trans rfl; have hcz6_2 : w5.cell? ⟨gb101, 2, none⟩ = some (.int .i64 a0_2) := (blk_cell BK101.out 2).trans rfl; have hfz6_0 := blk_frozen BK101.out 0; have hfz6_1 := blk_frozen BK101.out 1; have hfz6_2 := blk_frozen BK101.out 2))
      repeat (go_quiet (first | ((with_reducible refine gate_dst (N := 2) rfl ?_); refine box_event ?hg (N := 2) ?hd (cs := #[.int .i64 a0_0, .int .i64 a0_1, .int .i64 a0_2]) (t := 106) ?hr ?_; (case hd => rfl); (case hg => rfl); (case hr => first | (go_simp; done) | (go_simp; rfl)); intro gb101 hg w5 hbox hb; have n0_ := Aside0.mk (below_step (by repeat (first | (with_reducible first | exact HB.out | apply below_alloc | apply pw_below_drewN | apply below_drew1) | exact HB.out)) hb); have n1_ := Aside0.mk (hbox); have n2_ := Aside0.mk ((by rw [hg]; exact (below_size (by repeat (first | (with_reducible first | exact HB.out | apply below_alloc | apply pw_below_drewN | apply below_drew1) | exact HB.out))) : w.heap.size ≤ gb101)); have n3_ := Aside0.mk ((by rw [hg]; exact (below_size (by repeat (first | (with_reducible first | exact HB.out | apply below_alloc | apply pw_below_drewN | apply below_drew1) | exact HB.out))) : w.heap.size ≤ gb101)); clear HB; have HB := n0_; have BK101 := n1_; have GW101 := n2_; have GE101 := n3_; clear n0_ n1_ n2_ n3_; clear hb hbox hg; have hcz6_0 : w5.cell? ⟨gb101, 0, none⟩ = some (.int .i64 a0_0) := (blk_cell BK101.out 0).trans rfl; have hcz6_1 : w5.cell? ⟨gb101, 1, none⟩ = some (.int .i64 a0_1) := (blk_cell BK101.out 1).trans rfl; have hcz6_2 : w5.cell? ⟨gb101, 2, none⟩ = some (.int .i64 a0_2) := (blk_cell BK101.out 2).trans rfl; have hfz6_0 := blk_frozen BK101.out 0; have hfz6_1 := blk_frozen BK101.out 1; have hfz6_2 := blk_frozen BK101.out 2)); try go_wp2_with (first | ((with_reducible refine gate_dst (N := 2) rfl ?_); refine box_event ?hg (N := 2) ?hd (cs := #[.int .i64 a0_0, .int .i64 a0_1, .int .i64 a0_2]) (t := 106) ?hr ?_; (case hd => rfl); (case hg => rfl); (case hr => first | (go_simp; done) | (go_simp; rfl)); intro gb101 hg w5 hbox hb; have n0_ := Aside0.mk (below_step (by repeat (first | (with_reducible first | exact HB.out | apply below_alloc | apply pw_below_drewN | apply below_drew1) | exact HB.out)) hb); have n1_ := Aside0.mk (hbox); have n2_ := Aside0.mk ((by rw [hg]; exact (below_size (by repeat (first | (with_reducible first | exact HB.out | apply below_alloc | apply pw_below_drewN | apply below_drew1) | exact HB.out))) : w.heap.size ≤ gb101)); have n3_ := Aside0.mk ((by rw [hg]; exact (below_size (by repeat (first | (with_reducible first | exact HB.out | apply below_alloc | apply pw_below_drewN | apply below_drew1) | exact HB.out))) : w.heap.size ≤ gb101)); clear HB; have HB := n0_; have BK101 := n1_; have GW101 := n2_; have GE101 := n3_; clear n0_ n1_ n2_ n3_; clear hb hbox hg; have hcz6_0 : w5.cell? ⟨gb101, 0, none⟩ = some (.int .i64 a0_0) := (blk_cell BK101.out 0).trans rfl; have hcz6_1 : w5.cell? ⟨gb101, 1, none⟩ = some (.int .i64 a0_1) := (blk_cell BK101.out 1).trans rfl; have hcz6_2 : w5.cell? ⟨gb101, 2, none⟩ = some (.int .i64 a0_2) := (blk_cell BK101.out 2).trans rfl; have hfz6_0 := blk_frozen BK101.out 0; have hfz6_1 := blk_frozen BK101.out 1; have hfz6_2 := blk_frozen BK101.out 2)))
      go_ret
      exact ⟨by first | rfl | (simp [errW_none, errW_some] <;> rfl) | (simp [*, errW_none, errW_some] <;> rfl), by repeat (first | (with_reducible first | exact HB.out | apply below_alloc | apply pw_below_drewN | apply below_drew1 | refine below_set ?_ GE101.out) | exact HB.out)⟩
    · rw [if_neg c4] at H
      have c4b0 : decide ((Int.tmod a1 a0_2) < 0) = false := decide_eq_false c4
      clear c4
      obtain rfl := Option.some.inj H
      go_enter Tryz.func114, Tryz.ntmps114
      go_wp2_with (first | ((with_reducible refine gate_dst (N := 2) rfl ?_); refine box_event ?hg (N := 2) ?hd (cs := #[.int .i64 a0_0, .int .i64 a0_1, .int .i64 a0_2]) (t := 106) ?hr ?_; (case hd => rfl); (case hg => rfl); (case hr => first | (go_simp; done) | (go_simp; rfl)); intro gb101 hg w7 hbox hb; have n0_ := Aside0.mk (below_step (by repeat (first | (with_reducible first | exact HB.out | apply below_alloc | apply pw_below_drewN | apply below_drew1) | exact HB.out)) hb); have n1_ := Aside0.mk (hbox); have n2_ := Aside0.mk ((by rw [hg]; exact (below_size (by repeat (first | (with_reducible first | exact HB.out | apply below_alloc | apply pw_below_drewN | apply below_drew1) | exact HB.out))) : w.heap.size ≤ gb101)); have n3_ := Aside0.mk ((by rw [hg]; exact (below_size (by repeat (first | (with_reducible first | exact HB.out | apply below_alloc | apply pw_below_drewN | apply below_drew1) | exact HB.out))) : w.heap.size ≤ gb101)); clear HB; have HB := n0_; have BK101 := n1_; have GW101 := n2_; have GE101 := n3_; clear n0_ n1_ n2_ n3_; clear hb hbox hg; have hcz8_0 : w7.cell? ⟨gb101, 0, none⟩ = some (.int .i64 a0_0) := (blk_cell BK101.out 0).trans rfl; have hcz8_1 : w7.cell? ⟨gb101, 1, none⟩ = some (.int .i64 a0_1) := (blk_cell BK101.out 1).trans rfl; have hcz8_2 : w7.cell? ⟨gb101, 2, none⟩ = some (.int .i64 a0_2) := (blk_cell BK101.out 2).trans rfl; have hfz8_0 := blk_frozen BK101.out 0; have hfz8_1 := blk_frozen BK101.out 1; have hfz8_2 := blk_frozen BK101.out 2))
      repeat (go_quiet (first | ((with_reducible refine gate_dst (N := 2) rfl ?_); refine box_event ?hg (N := 2) ?hd (cs := #[.int .i64 a0_0, .int .i64 a0_1, .int .i64 a0_2]) (t := 106) ?hr ?_; (case hd => rfl); (case hg => rfl); (case hr => first | (go_simp; done) | (go_simp; rfl)); intro gb101 hg w7 hbox hb; have n0_ := Aside0.mk (below_step (by repeat (first | (with_reducible first | exact HB.out | apply below_alloc | apply pw_below_drewN | apply below_drew1) | exact HB.out)) hb); have n1_ := Aside0.mk (hbox); have n2_ := Aside0.mk ((by rw [hg]; exact (below_size (by repeat (first | (with_reducible first | exact HB.out | apply below_alloc | apply pw_below_drewN | apply below_drew1) | exact HB.out))) : w.heap.size ≤ gb101)); have n3_ := Aside0.mk ((by rw [hg]; exact (below_size (by repeat (first | (with_reducible first | exact HB.out | apply below_alloc | apply pw_below_drewN | apply below_drew1) | exact HB.out))) : w.heap.size ≤ gb101)); clear HB; have HB := n0_; have BK101 := n1_; have GW101 := n2_; have GE101 := n3_; clear n0_ n1_ n2_ n3_; clear hb hbox hg; have hcz8_0 : w7.cell? ⟨gb101, 0, none⟩ = some (.int .i64 a0_0) := (blk_cell BK101.out 0).trans rfl; have hcz8_1 : w7.cell? ⟨gb101, 1, none⟩ = some (.int .i64 a0_1) := (blk_cell BK101.out 1).trans rfl; have hcz8_2 : w7.cell? ⟨gb101, 2, none⟩ = some (.int .i64 a0_2) := (blk_cell BK101.out 2).trans rfl; have hfz8_0 := blk_frozen BK101.out 0; have hfz8_1 := blk_frozen BK101.out 1; have hfz8_2 := blk_frozen BK101.out 2)); try go_wp2_with (first | ((with_reducible refine gate_dst (N := 2) rfl ?_); refine box_event ?hg (N := 2) ?hd (cs := #[.int .i64 a0_0, .int .i64 a0_1, .int .i64 a0_2]) (t := 106) ?hr ?_; (case hd => rfl); (case hg => rfl); (case hr => first | (go_simp; done) | (go_simp; rfl)); intro gb101 hg w7 hbox hb; have n0_ := Aside0.mk (below_step (by repeat (first | (with_reducible first | exact HB.out | apply below_alloc | apply pw_below_drewN | apply below_drew1) | exact HB.out)) hb); have n1_ := Aside0.mk (hbox); have n2_ := Aside0.mk ((by rw [hg]; exact (below_size (by repeat (first | (with_reducible first | exact HB.out | apply below_alloc | apply pw_below_drewN | apply below_drew1) | exact HB.out))) : w.heap.size ≤ gb101)); have n3_ := Aside0.mk ((by rw [hg]; exact (below_size (by repeat (first | (with_reducible first | exact HB.out | apply below_alloc | apply pw_below_drewN | apply below_drew1) | exact HB.out))) : w.heap.size ≤ gb101)); clear HB; have HB := n0_; have BK101 := n1_; have GW101 := n2_; have GE101 := n3_; clear n0_ n1_ n2_ n3_; clear hb hbox hg; have hcz8_0 : w7.cell? ⟨gb101, 0, none⟩ = some (.int .i64 a0_0) := (blk_cell BK101.out 0).trans rfl; have hcz8_1 : w7.cell? ⟨gb101, 1, none⟩ = some (.int .i64 a0_1) := (blk_cell BK101.out 1).trans rfl; have hcz8_2 : w7.cell? ⟨gb101, 2, none⟩ = some (.int .i64 a0_2) := (blk_cell BK101.out 2).trans rfl; have hfz8_0 := blk_frozen BK101.out 0; have hfz8_1 := blk_frozen BK101.out 1; have hfz8_2 := blk_frozen BK101.out 2)))
      go_ret
      exact ⟨by first | rfl | (simp [errW_none, errW_some] <;> rfl) | (simp [*, errW_none, errW_some] <;> rfl), by repeat (first | (with_reducible first | exact HB.out | apply below_alloc | apply pw_below_drewN | apply below_drew1 | refine below_set ?_ GE101.out) | exact HB.out)⟩
end Go.Proofs.YteflfnjljjianaaGreatDoor.Qx
namespace Go.Proofs.YteflfnjljjianaaGreatDoor.Qx
open Go.RowKit Go.Proofs.YteflfnjljjianaaGreatDoorW.PrintWords Go.Proofs.YteflfnjljjianaaGreatDoorW.PrintLast Go.Proofs.YteflfnjljjianaaGreatDoorW.PrintMore
attribute [local go_sem] max2_int min2_int max_two min_two
set_option linter.unusedVariables false
set_option linter.unusedSimpArgs false
def partition_str.f (a0 : ByteArray) : Option (Int × Int × ByteArray) := some (3, 0, a0)
set_option maxHeartbeats 8000000 in
set_option maxRecDepth 100000 in
theorem partition_str.calls (a0 : ByteArray) (r1 : Int) (r2 : Int) (r3 : ByteArray) (w : World) (h : partition_str.f a0 = some (r1, r2, r3)) :
    Calls Tryz.prog 115 #[.string a0] w fun e w' => e = .returned (.agg #[.int .i64 r1, .int .i64 r2, .string r3]) ∧ Below w.heap.size w w' := by
  have hu35 := Tryz.underlying35
  have HB := Aside0.mk (Below.refl w.heap.size w)
  have H : (some (3, 0, a0)) = some (r1, r2, r3) := h
  clear h
  simp only [Option.some.injEq, Prod.mk.injEq] at H
  obtain ⟨rfl, rfl, rfl⟩ := H
  go_enter Tryz.func115, Tryz.ntmps115
  go_wp2_with (first | ((with_reducible refine gate_dst (N := 2) rfl ?_); refine box_event ?hg (N := 2) ?hd (cs := #[.int .i64 0, .int .i64 0, .string (⟨#[]⟩ : ByteArray)]) (t := 35) ?hr ?_; (case hd => rfl); (case hg => rfl); (case hr => first | (go_simp; done) | (go_simp; rfl)); intro gb101 hg w2 hbox hb; have n0_ := Aside0.mk (below_step (by repeat (first | (with_reducible first | exact HB.out | apply below_alloc | apply pw_below_drewN | apply below_drew1) | exact HB.out)) hb); have n1_ := Aside0.mk (hbox); have n2_ := Aside0.mk ((by rw [hg]; exact (below_size (by repeat (first | (with_reducible first | exact HB.out | apply below_alloc | apply pw_below_drewN | apply below_drew1) | exact HB.out))) : w.heap.size ≤ gb101)); have n3_ := Aside0.mk ((by rw [hg]; exact (below_size (by repeat (first | (with_reducible first | exact HB.out | apply below_alloc | apply pw_below_drewN | apply below_drew1) | exact HB.out))) : w.heap.size ≤ gb101)); clear HB; have HB := n0_; have BK101 := n1_; have GW101 := n2_; have GE101 := n3_; clear n0_ n1_ n2_ n3_; clear hb hbox hg; have hcz3_0 : w2.cell? ⟨gb101, 0, none⟩ = some (.int .i64 0) := (blk_cell BK101.out 0).trans rfl; have hcz3_1 : w2.cell? ⟨gb101, 1, none⟩ = some (.int .i64 0) := (blk_cell BK101.out 1).trans rfl; have hcz3_2 : w2.cell? ⟨gb101, 2, none⟩ = some (.string (⟨#[]⟩ : ByteArray)) := (blk_cell BK101.out 2).trans rfl; have hfz3_0 := blk_frozen BK101.out 0; have hfz3_1 := blk_frozen BK101.out 1; have hfz3_2 := blk_frozen BK101.out 2))
  refine bodyPost_ret (results_cell_row rfl _ _ gb101 35 #[.int .i64 3, .int .i64 0, .string a0] (0, 0) _ rfl (by (with_reducible repeat (first | refine blk_drewN ?_ _ | refine blk_drew ?_ | refine blk_alloc ?_ _)); refine blk_put (cs := #[.int .i64 3, .int .i64 0, .string (⟨#[]⟩ : ByteArray)]) ?_ 2 _ rfl; (with_reducible repeat (first | refine blk_drewN ?_ _ | refine blk_drew ?_ | refine blk_alloc ?_ _)); refine blk_put (cs := #[.int .i64 3, .int .i64 0, .string (⟨#[]⟩ : ByteArray)]) ?_ 1 _ rfl; (with_reducible repeat (first | refine blk_drewN ?_ _ | refine blk_drew ?_ | refine blk_alloc ?_ _)); refine blk_put (cs := #[.int .i64 0, .int .i64 0, .string (⟨#[]⟩ : ByteArray)]) ?_ 0 _ rfl; (with_reducible repeat (first | refine blk_drewN ?_ _ | refine blk_drew ?_ | refine blk_alloc ?_ _)); exact BK101.out) Tryz.underlying35 rfl (by kernel_rfl)) rfl ?_
  exact ⟨by first | rfl | (simp [errW_none, errW_some] <;> rfl) | (simp [*, errW_none, errW_some] <;> rfl), by repeat (first | (with_reducible first | exact HB.out | apply below_alloc | apply pw_below_drewN | apply below_drew1 | refine below_set ?_ GE101.out) | exact HB.out)⟩
end Go.Proofs.YteflfnjljjianaaGreatDoor.Qx
namespace Go.Proofs.YteflfnjljjianaaGreatDoor.Qx
open Go.RowKit Go.Proofs.YteflfnjljjianaaGreatDoorW.PrintWords Go.Proofs.YteflfnjljjianaaGreatDoorW.PrintLast Go.Proofs.YteflfnjljjianaaGreatDoorW.PrintMore
attribute [local go_sem] max2_int min2_int max_two min_two
set_option linter.unusedVariables false
set_option linter.unusedSimpArgs false
def partition_spec_trunc.f (a0_0 : Int) (a0_1 : Int) (a0_2 : Int) (a1_0 : Int) (a1_1 : Int) (a1_2 : ByteArray) : Option (Int × Int × ByteArray) := if a1_0 = 2 then ((partition_spec_floor.f a0_0 a0_1 a0_2 a1_1).bind fun t104 => ((partition_num.f (mx t104 (-4000000000000000000))).bind fun bt105 => (some (bt105.1, bt105.2.1, bt105.2.2)))) else (if 0 ≤ (mn a0_2 (a1_2.size : Int)) then (if (mn a0_2 (a1_2.size : Int)) ≤ (a1_2.size : Int) then ((partition_str.f (a1_2.extract 0 ((mn a0_2 (a1_2.size : Int)) : Int).toNat)).bind fun bt108 => (some (bt108.1, bt108.2.1, bt108.2.2))) else (none)) else (none))
set_option maxHeartbeats 8000000 in
set_option maxRecDepth 100000 in
theorem partition_spec_trunc.calls (a0_0 : Int) (a0_1 : Int) (a0_2 : Int) (a1_0 : Int) (a1_1 : Int) (a1_2 : ByteArray) (r1 : Int) (r2 : Int) (r3 : ByteArray) (w : World) (h : partition_spec_trunc.f a0_0 a0_1 a0_2 a1_0 a1_1 a1_2 = some (r1, r2, r3)) :
    Calls Tryz.prog 82 #[.agg #[.int .i64 a0_0, .int .i64 a0_1, .int .i64 a0_2], .agg #[.int .i64 a1_0, .int .i64 a1_1, .string a1_2]] w fun e w' => e = .returned (.agg #[.int .i64 r1, .int .i64 r2, .string r3]) ∧ Below w.heap.size w w' := by
  have hu106 := Tryz.underlying106
  have hu35 := Tryz.underlying35
  have HB := Aside0.mk (Below.refl w.heap.size w)
  have H : (if a1_0 = 2 then ((partition_spec_floor.f a0_0 a0_1 a0_2 a1_1).bind fun t104 => ((partition_num.f (mx t104 (-4000000000000000000))).bind fun bt105 => (some (bt105.1, bt105.2.1, bt105.2.2)))) else (if 0 ≤ (mn a0_2 (a1_2.size : Int)) then (if (mn a0_2 (a1_2.size : Int)) ≤ (a1_2.size : Int) then ((partition_str.f (a1_2.extract 0 ((mn a0_2 (a1_2.size : Int)) : Int).toNat)).bind fun bt108 => (some (bt108.1, bt108.2.1, bt108.2.2))) else (none)) else (none))) = some (r1, r2, r3) := h
  clear h
  by_cases c3 : a1_0 = 2
  · rw [if_pos c3] at H
    have c3b0 : (a1_0 == 2) = true := beq_iff_eq.mpr c3
    have c3b1 : (a1_0 != 2) = false := bne_eq_false_iff_eq.mpr c3
    clear c3
    replace H := Option.bind_eq_some_iff.mp H
    obtain ⟨t104, A40, H⟩ := H
    replace H : ((partition_num.f (mx t104 (-4000000000000000000))).bind fun bt105 => (some (bt105.1, bt105.2.1, bt105.2.2))) = some (r1, r2, r3) := H
    have A4 := Aside0.mk A40
    clear A40
    obtain ⟨ji5, hji5⟩ : ∃ j_ : Int, (mx t104 (-4000000000000000000)) = j_ := ⟨_, rfl⟩
    replace H : ((partition_num.f (ji5)).bind fun bt105 => (some (bt105.1, bt105.2.1, bt105.2.2))) = some (r1, r2, r3) := by first | (rw [hji5] at H; exact H) | (simp only [hji5] at H ⊢; exact H)
    (try rw [hji5] at A4)
    have hji5_ : (if t104 < (-4000000000000000000) then (-4000000000000000000) else t104) = ji5 := hji5
    replace H := Option.bind_eq_some_iff.mp H
    obtain ⟨⟨t105, t106, t107⟩, A60, H⟩ := H
    replace H : (some (t105, t106, t107)) = some (r1, r2, r3) := H
    have A6 := Aside0.mk A60
    clear A60
    simp only [Option.some.injEq, Prod.mk.injEq] at H
    obtain ⟨rfl, rfl, rfl⟩ := H
    go_enter Tryz.func82, Tryz.ntmps82
    go_wp2_with (first | ((with_reducible refine gate_dst (N := 2) rfl ?_); refine box_event ?hg (N := 2) ?hd (cs := #[.int .i64 a0_0, .int .i64 a0_1, .int .i64 a0_2]) (t := 106) ?hr ?_; (case hd => rfl); (case hg => rfl); (case hr => first | (go_simp; done) | (go_simp; rfl)); intro gb101 hg w7 hbox hb; have n0_ := Aside0.mk (below_step (by repeat (first | (with_reducible first | exact HB.out | apply below_alloc | apply pw_below_drewN | apply below_drew1) | exact HB.out)) hb); have n1_ := Aside0.mk (hbox); have n2_ := Aside0.mk ((by rw [hg]; exact (below_size (by repeat (first | (with_reducible first | exact HB.out | apply below_alloc | apply pw_below_drewN | apply below_drew1) | exact HB.out))) : w.heap.size ≤ gb101)); have n3_ := Aside0.mk ((by rw [hg]; exact (below_size (by repeat (first | (with_reducible first | exact HB.out | apply below_alloc | apply pw_below_drewN | apply below_drew1) | exact HB.out))) : w.heap.size ≤ gb101)); clear HB; have HB := n0_; have BK101 := n1_; have GW101 := n2_; have GE101 := n3_; clear n0_ n1_ n2_ n3_; clear hb hbox hg) | ((with_reducible refine gate_dst (N := 3) rfl ?_); refine box_event ?hg (N := 3) ?hd (cs := #[.int .i64 a1_0, .int .i64 a1_1, .string a1_2]) (t := 35) ?hr ?_; (case hd => rfl); (case hg => rfl); (case hr => first | (go_simp; done) | (go_simp; rfl)); intro gb102 hg w8 hbox hb; have n0_ := Aside0.mk (blk_below (g := gb101) (o := .cells #[.int .i64 a0_0, .int .i64 a0_1, .int .i64 a0_2] 106 (0, 0)) (by (with_reducible repeat (first | refine blk_drewN ?_ _ | refine blk_drew ?_ | refine blk_alloc ?_ _)); exact BK101.out) hb); have n1_ := Aside0.mk (below_step (by repeat (first | (with_reducible first | exact HB.out | apply below_alloc | apply pw_below_drewN | apply below_drew1 | refine below_set ?_ GE101.out) | exact HB.out)) hb); have n2_ := Aside0.mk (hbox); have n3_ := Aside0.mk ((by rw [hg]; exact (below_size (by repeat (first | (with_reducible first | exact HB.out | apply below_alloc | apply pw_below_drewN | apply below_drew1 | refine below_set ?_ GE101.out) | exact HB.out))) : w.heap.size ≤ gb102)); have n4_ := Aside0.mk ((by rw [hg]; exact (below_size (by repeat (first | (with_reducible first | exact HB.out | apply below_alloc | apply pw_below_drewN | apply below_drew1 | refine below_set ?_ GE101.out) | exact HB.out))) : w.heap.size ≤ gb102)); have n5_ := Aside0.mk ((by rw [hg]; exact Nat.ne_of_lt (blk_lt (g := gb101) (o := .cells #[.int .i64 a0_0, .int .i64 a0_1, .int .i64 a0_2] 106 (0, 0)) (by (with_reducible repeat (first | refine blk_drewN ?_ _ | refine blk_drew ?_ | refine blk_alloc ?_ _)); exact BK101.out)) : gb101 ≠ gb102)); have n6_ := Aside0.mk ((by rw [hg]; exact Nat.ne_of_gt (blk_lt (g := gb101) (o := .cells #[.int .i64 a0_0, .int .i64 a0_1, .int .i64 a0_2] 106 (0, 0)) (by (with_reducible repeat (first | refine blk_drewN ?_ _ | refine blk_drew ?_ | refine blk_alloc ?_ _)); exact BK101.out)) : gb102 ≠ gb101)); clear BK101; clear HB; have BK101 := n0_; have HB := n1_; have BK102 := n2_; have GW102 := n3_; have GE102 := n4_; have NB101_102 := n5_; have NB102_101 := n6_; clear n0_ n1_ n2_ n3_ n4_ n5_ n6_; clear hb hbox hg) | ((with_reducible refine gate_dst (N := 4) rfl ?_); refine box_event ?hg (N := 4) ?hd (cs := #[.int .i64 0, .int .i64 0, .string (⟨#[]⟩ : ByteArray)]) (t := 35) ?hr ?_; (case hd => rfl); (case hg => rfl); (case hr => first | (go_simp; done) | (go_simp; rfl)); intro gb103 hg w9 hbox hb; have n0_ := Aside0.mk (blk_below (g := gb101) (o := .cells #[.int .i64 a0_0, .int .i64 a0_1, .int .i64 a0_2] 106 (0, 0)) (by (with_reducible repeat (first | refine blk_drewN ?_ _ | refine blk_drew ?_ | refine blk_alloc ?_ _)); exact BK101.out) hb); have n1_ := Aside0.mk (blk_below (g := gb102) (o := .cells #[.int .i64 a1_0, .int .i64 a1_1, .string a1_2] 35 (0, 0)) (by (with_reducible repeat (first | refine blk_drewN ?_ _ | refine blk_drew ?_ | refine blk_alloc ?_ _)); exact BK102.out) hb); have n2_ := Aside0.mk (below_step (by repeat (first | (with_reducible first | exact HB.out | apply below_alloc | apply pw_below_drewN | apply below_drew1 | refine below_set ?_ GE101.out | refine below_set ?_ GE102.out) | exact HB.out)) hb); have n3_ := Aside0.mk (hbox); have n4_ := Aside0.mk ((by rw [hg]; exact (below_size (by repeat (first | (with_reducible first | exact HB.out | apply below_alloc | apply pw_below_drewN | apply below_drew1 | refine below_set ?_ GE101.out | refine below_set ?_ GE102.out) | exact HB.out))) : w.heap.size ≤ gb103)); have n5_ := Aside0.mk ((by rw [hg]; exact (below_size (by repeat (first | (with_reducible first | exact HB.out | apply below_alloc | apply pw_below_drewN | apply below_drew1 | refine below_set ?_ GE101.out | refine below_set ?_ GE102.out) | exact HB.out))) : w.heap.size ≤ gb103)); have n6_ := Aside0.mk ((by rw [hg]; exact Nat.ne_of_lt (blk_lt (g := gb101) (o := .cells #[.int .i64 a0_0, .int .i64 a0_1, .int .i64 a0_2] 106 (0, 0)) (by (with_reducible repeat (first | refine blk_drewN ?_ _ | refine blk_drew ?_ | refine blk_alloc ?_ _)); exact BK101.out)) : gb101 ≠ gb103)); have n7_ := Aside0.mk ((by rw [hg]; exact Nat.ne_of_gt (blk_lt (g := gb101) (o := .cells #[.int .i64 a0_0, .int .i64 a0_1, .int .i64 a0_2] 106 (0, 0)) (by (with_reducible repeat (first | refine blk_drewN ?_ _ | refine blk_drew ?_ | refine blk_alloc ?_ _)); exact BK101.out)) : gb103 ≠ gb101)); have n8_ := Aside0.mk ((by rw [hg]; exact Nat.ne_of_lt (blk_lt (g := gb102) (o := .cells #[.int .i64 a1_0, .int .i64 a1_1, .string a1_2] 35 (0, 0)) (by (with_reducible repeat (first | refine blk_drewN ?_ _ | refine blk_drew ?_ | refine blk_alloc ?_ _)); exact BK102.out)) : gb102 ≠ gb103)); have n9_ := Aside0.mk ((by rw [hg]; exact Nat.ne_of_gt (blk_lt (g := gb102) (o := .cells #[.int .i64 a1_0, .int .i64 a1_1, .string a1_2] 35 (0, 0)) (by (with_reducible repeat (first | refine blk_drewN ?_ _ | refine blk_drew ?_ | refine blk_alloc ?_ _)); exact BK102.out)) : gb103 ≠ gb102)); clear BK101; clear BK102; clear HB; have BK101 := n0_; have BK102 := n1_; have HB := n2_; have BK103 := n3_; have GW103 := n4_; have GE103 := n5_; have NB101_103 := n6_; have NB103_101 := n7_; have NB102_103 := n8_; have NB103_102 := n9_; clear n0_ n1_ n2_ n3_ n4_ n5_ n6_ n7_ n8_ n9_; clear hb hbox hg; have hnb10 := NB102_101.out; have hnc10 := NB101_102.out; have hnb11 := NB102_103.out; have hnc11 := NB103_102.out; have hcz12_0 : w9.cell? ⟨gb102, 0, none⟩ = some (.int .i64 a1_0) := (blk_cell BK102.out 0).trans rfl; have hcz12_1 : w9.cell? ⟨gb102, 1, none⟩ = some (.int .i64 a1_1) := (blk_cell BK102.out 1).trans rfl; have hcz12_2 : w9.cell? ⟨gb102, 2, none⟩ = some (.string a1_2) := (blk_cell BK102.out 2).trans rfl; have hfz12_0 := blk_frozen BK102.out 0; have hfz12_1 := blk_frozen BK102.out 1; have hfz12_2 := blk_frozen BK102.out 2; have hnb13 := NB101_103.out; have hnc13 := NB103_101.out; have hcz14_0 : w9.cell? ⟨gb101, 0, none⟩ = some (.int .i64 a0_0) := (blk_cell BK101.out 0).trans rfl; have hcz14_1 : w9.cell? ⟨gb101, 1, none⟩ = some (.int .i64 a0_1) := (blk_cell BK101.out 1).trans rfl; have hcz14_2 : w9.cell? ⟨gb101, 2, none⟩ = some (.int .i64 a0_2) := (blk_cell BK101.out 2).trans rfl; have hfz14_0 := blk_frozen BK101.out 0; have hfz14_1 := blk_frozen BK101.out 1; have hfz14_2 := blk_frozen BK101.out 2) | ((with_reducible refine gate_callee (f := 114) rfl ?_); refine goesL_ (some 11) rfl rfl Tryz.func114 (by kernel_rfl) rfl #[.agg #[.int .i64 a0_0, .int .i64 a0_1, .int .i64 a0_2], .int .i64 a1_1] rfl (by (try simp only [List.map_toArray, List.map_cons, List.map_nil]); first | done | rfl | (simp only [List.length_drop, List.length_take]; rfl)) ?_; (with_reducible refine (partition_spec_floor.calls a0_0 a0_1 a0_2 a1_1 t104 _ A4.out).mono ?_); rintro e w15 ⟨rfl, hb⟩; refine ⟨_, rfl, ?_⟩; have n0_ := Aside0.mk (blk_below (g := gb101) (o := .cells #[.int .i64 a0_0, .int .i64 a0_1, .int .i64 a0_2] 106 (0, 0)) (by (with_reducible repeat (first | refine blk_drewN ?_ _ | refine blk_drew ?_ | refine blk_alloc ?_ _)); exact BK101.out) hb); have n1_ := Aside0.mk (blk_below (g := gb102) (o := .cells #[.int .i64 a1_0, .int .i64 a1_1, .string a1_2] 35 (0, 0)) (by (with_reducible repeat (first | refine blk_drewN ?_ _ | refine blk_drew ?_ | refine blk_alloc ?_ _)); exact BK102.out) hb); have n2_ := Aside0.mk (blk_below (g := gb103) (o := .cells #[.int .i64 0, .int .i64 0, .string (⟨#[]⟩ : ByteArray)] 35 (0, 0)) (by (with_reducible repeat (first | refine blk_drewN ?_ _ | refine blk_drew ?_ | refine blk_alloc ?_ _)); exact BK103.out) hb); have n3_ := Aside0.mk (below_step (by repeat (first | (with_reducible first | exact HB.out | apply below_alloc | apply pw_below_drewN | apply below_drew1 | refine below_set ?_ GE101.out | refine below_set ?_ GE102.out | refine below_set ?_ GE103.out) | exact HB.out)) hb); clear BK101; clear BK102; clear BK103; clear HB; have BK101 := n0_; have BK102 := n1_; have BK103 := n2_; have HB := n3_; clear n0_ n1_ n2_ n3_; (try clear hb); (try clear hb2); (try clear hk); (try clear hi)) | ((with_reducible refine gate_callee (f := 111) rfl ?_); refine goesL_ (some 13) rfl rfl Tryz.func111 (by kernel_rfl) rfl #[.int .i64 ji5] rfl (by (try simp only [List.map_toArray, List.map_cons, List.map_nil]); first | done | (simp only [hji5]; rfl) | rfl | (simp only [List.length_drop, List.length_take]; rfl)) ?_; (with_reducible refine (partition_num.calls ji5 t105 t106 t107 _ A6.out).mono ?_); rintro e w16 ⟨rfl, hb⟩; refine ⟨_, rfl, ?_⟩; have n0_ := Aside0.mk (blk_below (g := gb101) (o := .cells #[.int .i64 a0_0, .int .i64 a0_1, .int .i64 a0_2] 106 (0, 0)) (by (with_reducible repeat (first | refine blk_drewN ?_ _ | refine blk_drew ?_ | refine blk_alloc ?_ _)); exact BK101.out) hb); have n1_ := Aside0.mk (blk_below (g := gb102) (o := .cells #[.int .i64 a1_0, .int .i64 a1_1, .string a1_2] 35 (0, 0)) (by (with_reducible repeat (first | refine blk_drewN ?_ _ | refine blk_drew ?_ | refine blk_alloc ?_ _)); exact BK102.out) hb); have n2_ := Aside0.mk (blk_below (g := gb103) (o := .cells #[.int .i64 0, .int .i64 0, .string (⟨#[]⟩ : ByteArray)] 35 (0, 0)) (by (with_reducible repeat (first | refine blk_drewN ?_ _ | refine blk_drew ?_ | refine blk_alloc ?_ _)); exact BK103.out) hb); have n3_ := Aside0.mk (below_step (by repeat (first | (with_reducible first | exact HB.out | apply below_alloc | apply pw_below_drewN | apply below_drew1 | refine below_set ?_ GE101.out | refine below_set ?_ GE102.out | refine below_set ?_ GE103.out) | exact HB.out)) hb); clear BK101; clear BK102; clear BK103; clear HB; have BK101 := n0_; have BK102 := n1_; have BK103 := n2_; have HB := n3_; clear n0_ n1_ n2_ n3_; (try clear hb); (try clear hb2); (try clear hk); (try clear hi); have hcz17_0 : w16.cell? ⟨gb103, 0, none⟩ = some (.int .i64 0) := (blk_cell BK103.out 0).trans rfl; have hcz17_1 : w16.cell? ⟨gb103, 1, none⟩ = some (.int .i64 0) := (blk_cell BK103.out 1).trans rfl; have hcz17_2 : w16.cell? ⟨gb103, 2, none⟩ = some (.string (⟨#[]⟩ : ByteArray)) := (blk_cell BK103.out 2).trans rfl; have hfz17_0 := blk_frozen BK103.out 0; have hfz17_1 := blk_frozen BK103.out 1; have hfz17_2 := blk_frozen BK103.out 2))
    refine bodyPost_ret (results_cell_row rfl _ _ gb103 35 #[.int .i64 t105, .int .i64 t106, .string t107] (0, 0) _ rfl (by (with_reducible repeat (first | refine blk_drewN ?_ _ | refine blk_drew ?_ | refine blk_alloc ?_ _)); refine blk_put (cs := #[.int .i64 t105, .int .i64 t106, .string (⟨#[]⟩ : ByteArray)]) ?_ 2 _ rfl; (with_reducible repeat (first | refine blk_drewN ?_ _ | refine blk_drew ?_ | refine blk_alloc ?_ _)); refine blk_put (cs := #[.int .i64 t105, .int .i64 0, .string (⟨#[]⟩ : ByteArray)]) ?_ 1 _ rfl; (with_reducible repeat (first | refine blk_drewN ?_ _ | refine blk_drew ?_ | refine blk_alloc ?_ _)); refine blk_put (cs := #[.int .i64 0, .int .i64 0, .string (⟨#[]⟩ : ByteArray)]) ?_ 0 _ rfl; (with_reducible repeat (first | refine blk_drewN ?_ _ | refine blk_drew ?_ | refine blk_alloc ?_ _)); exact BK103.out) Tryz.underlying35 rfl (by kernel_rfl)) rfl ?_
    exact ⟨by first | rfl | (simp [errW_none, errW_some] <;> rfl) | (simp only [← hji5]; first | rfl | (simp [errW_none, errW_some] <;> rfl)) | (simp [*, errW_none, errW_some] <;> rfl), by repeat (first | (with_reducible first | exact HB.out | apply below_alloc | apply pw_below_drewN | apply below_drew1 | refine below_set ?_ GE101.out | refine below_set ?_ GE102.out | refine below_set ?_ GE103.out) | exact HB.out)⟩
  · rw [if_neg c3] at H
    have c3b0 : (a1_0 == 2) = false := beq_eq_false_iff_ne.mpr c3
    have c3b1 : (a1_0 != 2) = true := bne_iff_ne.mpr c3
    obtain ⟨ji18, hji18⟩ : ∃ j_ : Int, (mn a0_2 (a1_2.size : Int)) = j_ := ⟨_, rfl⟩
    replace H : (if 0 ≤ (ji18) then (if (ji18) ≤ (a1_2.size : Int) then ((partition_str.f (a1_2.extract 0 ((ji18) : Int).toNat)).bind fun bt108 => (some (bt108.1, bt108.2.1, bt108.2.2))) else (none)) else (none)) = some (r1, r2, r3) := by first | (rw [hji18] at H; exact H) | (simp only [hji18] at H ⊢; exact H)
    have hji18_ : (if (a1_2.size : Int) < a0_2 then (a1_2.size : Int) else a0_2) = ji18 := hji18
    by_cases c19 : 0 ≤ (ji18)
    · rw [if_pos c19] at H
      have c19b0 := eq_true c19
      have c19b1 : decide (0 ≤ (ji18)) = true := decide_eq_true c19
      clear c19
      by_cases c20 : (ji18) ≤ (a1_2.size : Int)
      · rw [if_pos c20] at H
        have c20b0 := eq_true c20
        have c20b1 : decide ((ji18) ≤ (a1_2.size : Int)) = true := decide_eq_true c20
        clear c20
        replace H := Option.bind_eq_some_iff.mp H
        obtain ⟨⟨t108, t109, t110⟩, A210, H⟩ := H
        replace H : (some (t108, t109, t110)) = some (r1, r2, r3) := H
        have A21 := Aside0.mk A210
        clear A210
        simp only [Option.some.injEq, Prod.mk.injEq] at H
        obtain ⟨rfl, rfl, rfl⟩ := H
        go_enter Tryz.func82, Tryz.ntmps82
        go_wp2_with (first | ((with_reducible refine gate_dst (N := 2) rfl ?_); refine box_event ?hg (N := 2) ?hd (cs := #[.int .i64 a0_0, .int .i64 a0_1, .int .i64 a0_2]) (t := 106) ?hr ?_; (case hd => rfl); (case hg => rfl); (case hr => first | (go_simp; done) | (go_simp; rfl)); intro gb101 hg w22 hbox hb; have n0_ := Aside0.mk (below_step (by repeat (first | (with_reducible first | exact HB.out | apply below_alloc | apply pw_below_drewN | apply below_drew1) | exact HB.out)) hb); have n1_ := Aside0.mk (hbox); have n2_ := Aside0.mk ((by rw [hg]; exact (below_size (by repeat (first | (with_reducible first | exact HB.out | apply below_alloc | apply pw_below_drewN | apply below_drew1) | exact HB.out))) : w.heap.size ≤ gb101)); have n3_ := Aside0.mk ((by rw [hg]; exact (below_size (by repeat (first | (with_reducible first | exact HB.out | apply below_alloc | apply pw_below_drewN | apply below_drew1) | exact HB.out))) : w.heap.size ≤ gb101)); clear HB; have HB := n0_; have BK101 := n1_; have GW101 := n2_; have GE101 := n3_; clear n0_ n1_ n2_ n3_; clear hb hbox hg) | ((with_reducible refine gate_dst (N := 3) rfl ?_); refine box_event ?hg (N := 3) ?hd (cs := #[.int .i64 a1_0, .int .i64 a1_1, .string a1_2]) (t := 35) ?hr ?_; (case hd => rfl); (case hg => rfl); (case hr => first | (go_simp; done) | (go_simp; rfl)); intro gb102 hg w23 hbox hb; have n0_ := Aside0.mk (blk_below (g := gb101) (o := .cells #[.int .i64 a0_0, .int .i64 a0_1, .int .i64 a0_2] 106 (0, 0)) (by (with_reducible repeat (first | refine blk_drewN ?_ _ | refine blk_drew ?_ | refine blk_alloc ?_ _)); exact BK101.out) hb); have n1_ := Aside0.mk (below_step (by repeat (first | (with_reducible first | exact HB.out | apply below_alloc | apply pw_below_drewN | apply below_drew1 | refine below_set ?_ GE101.out) | exact HB.out)) hb); have n2_ := Aside0.mk (hbox); have n3_ := Aside0.mk ((by rw [hg]; exact (below_size (by repeat (first | (with_reducible first | exact HB.out | apply below_alloc | apply pw_below_drewN | apply below_drew1 | refine below_set ?_ GE101.out) | exact HB.out))) : w.heap.size ≤ gb102)); have n4_ := Aside0.mk ((by rw [hg]; exact (below_size (by repeat (first | (with_reducible first | exact HB.out | apply below_alloc | apply pw_below_drewN | apply below_drew1 | refine below_set ?_ GE101.out) | exact HB.out))) : w.heap.size ≤ gb102)); have n5_ := Aside0.mk ((by rw [hg]; exact Nat.ne_of_lt (blk_lt (g := gb101) (o := .cells #[.int .i64 a0_0, .int .i64 a0_1, .int .i64 a0_2] 106 (0, 0)) (by (with_reducible repeat (first | refine blk_drewN ?_ _ | refine blk_drew ?_ | refine blk_alloc ?_ _)); exact BK101.out)) : gb101 ≠ gb102)); have n6_ := Aside0.mk ((by rw [hg]; exact Nat.ne_of_gt (blk_lt (g := gb101) (o := .cells #[.int .i64 a0_0, .int .i64 a0_1, .int .i64 a0_2] 106 (0, 0)) (by (with_reducible repeat (first | refine blk_drewN ?_ _ | refine blk_drew ?_ | refine blk_alloc ?_ _)); exact BK101.out)) : gb102 ≠ gb101)); clear BK101; clear HB; have BK101 := n0_; have HB := n1_; have BK102 := n2_; have GW102 := n3_; have GE102 := n4_; have NB101_102 := n5_; have NB102_101 := n6_; clear n0_ n1_ n2_ n3_ n4_ n5_ n6_; clear hb hbox hg) | ((with_reducible refine gate_dst (N := 4) rfl ?_); refine box_event ?hg (N := 4) ?hd (cs := #[.int .i64 0, .int .i64 0, .string (⟨#[]⟩ : ByteArray)]) (t := 35) ?hr ?_; (case hd => rfl); (case hg => rfl); (case hr => first | (go_simp; done) | (go_simp; rfl)); intro gb103 hg w24 hbox hb; have n0_ := Aside0.mk (blk_below (g := gb101) (o := .cells #[.int .i64 a0_0, .int .i64 a0_1, .int .i64 a0_2] 106 (0, 0)) (by (with_reducible repeat (first | refine blk_drewN ?_ _ | refine blk_drew ?_ | refine blk_alloc ?_ _)); exact BK101.out) hb); have n1_ := Aside0.mk (blk_below (g := gb102) (o := .cells #[.int .i64 a1_0, .int .i64 a1_1, .string a1_2] 35 (0, 0)) (by (with_reducible repeat (first | refine blk_drewN ?_ _ | refine blk_drew ?_ | refine blk_alloc ?_ _)); exact BK102.out) hb); have n2_ := Aside0.mk (below_step (by repeat (first | (with_reducible first | exact HB.out | apply below_alloc | apply pw_below_drewN | apply below_drew1 | refine below_set ?_ GE101.out | refine below_set ?_ GE102.out) | exact HB.out)) hb); have n3_ := Aside0.mk (hbox); have n4_ := Aside0.mk ((by rw [hg]; exact (below_size (by repeat (first | (with_reducible first | exact HB.out | apply below_alloc | apply pw_below_drewN | apply below_drew1 | refine below_set ?_ GE101.out | refine below_set ?_ GE102.out) | exact HB.out))) : w.heap.size ≤ gb103)); have n5_ := Aside0.mk ((by rw [hg]; exact (below_size (by repeat (first | (with_reducible first | exact HB.out | apply below_alloc | apply pw_below_drewN | apply below_drew1 | refine below_set ?_ GE101.out | refine below_set ?_ GE102.out) | exact HB.out))) : w.heap.size ≤ gb103)); have n6_ := Aside0.mk ((by rw [hg]; exact Nat.ne_of_lt (blk_lt (g := gb101) (o := .cells #[.int .i64 a0_0, .int .i64 a0_1, .int .i64 a0_2] 106 (0, 0)) (by (with_reducible repeat (first | refine blk_drewN ?_ _ | refine blk_drew ?_ | refine blk_alloc ?_ _)); exact BK101.out)) : gb101 ≠ gb103)); have n7_ := Aside0.mk ((by rw [hg]; exact Nat.ne_of_gt (blk_lt (g := gb101) (o := .cells #[.int .i64 a0_0, .int .i64 a0_1, .int .i64 a0_2] 106 (0, 0)) (by (with_reducible repeat (first | refine blk_drewN ?_ _ | refine blk_drew ?_ | refine blk_alloc ?_ _)); exact BK101.out)) : gb103 ≠ gb101)); have n8_ := Aside0.mk ((by rw [hg]; exact Nat.ne_of_lt (blk_lt (g := gb102) (o := .cells #[.int .i64 a1_0, .int .i64 a1_1, .string a1_2] 35 (0, 0)) (by (with_reducible repeat (first | refine blk_drewN ?_ _ | refine blk_drew ?_ | refine blk_alloc ?_ _)); exact BK102.out)) : gb102 ≠ gb103)); have n9_ := Aside0.mk ((by rw [hg]; exact Nat.ne_of_gt (blk_lt (g := gb102) (o := .cells #[.int .i64 a1_0, .int .i64 a1_1, .string a1_2] 35 (0, 0)) (by (with_reducible repeat (first | refine blk_drewN ?_ _ | refine blk_drew ?_ | refine blk_alloc ?_ _)); exact BK102.out)) : gb103 ≠ gb102)); clear BK101; clear BK102; clear HB; have BK101 := n0_; have BK102 := n1_; have HB := n2_; have BK103 := n3_; have GW103 := n4_; have GE103 := n5_; have NB101_103 := n6_; have NB103_101 := n7_; have NB102_103 := n8_; have NB103_102 := n9_; clear n0_ n1_ n2_ n3_ n4_ n5_ n6_ n7_ n8_ n9_; clear hb hbox hg; have hnb25 := NB102_101.out; have hnc25 := NB101_102.out; have hnb26 := NB102_103.out; have hnc26 := NB103_102.out; have hcz27_0 : w24.cell? ⟨gb102, 0, none⟩ = some (.int .i64 a1_0) := (blk_cell BK102.out 0).trans rfl; have hcz27_1 : w24.cell? ⟨gb102, 1, none⟩ = some (.int .i64 a1_1) := (blk_cell BK102.out 1).trans rfl; have hcz27_2 : w24.cell? ⟨gb102, 2, none⟩ = some (.string a1_2) := (blk_cell BK102.out 2).trans rfl; have hfz27_0 := blk_frozen BK102.out 0; have hfz27_1 := blk_frozen BK102.out 1; have hfz27_2 := blk_frozen BK102.out 2; have hnb28 := NB101_103.out; have hnc28 := NB103_101.out; have hcz29_0 : w24.cell? ⟨gb101, 0, none⟩ = some (.int .i64 a0_0) := (blk_cell BK101.out 0).trans rfl; have hcz29_1 : w24.cell? ⟨gb101, 1, none⟩ = some (.int .i64 a0_1) := (blk_cell BK101.out 1).trans rfl; have hcz29_2 : w24.cell? ⟨gb101, 2, none⟩ = some (.int .i64 a0_2) := (blk_cell BK101.out 2).trans rfl; have hfz29_0 := blk_frozen BK101.out 0; have hfz29_1 := blk_frozen BK101.out 1; have hfz29_2 := blk_frozen BK101.out 2) | ((with_reducible refine gate_callee (f := 115) rfl ?_); refine goesL_ (some 23) rfl rfl Tryz.func115 (by kernel_rfl) rfl #[.string (a1_2.extract 0 ((ji18) : Int).toNat)] rfl (by (try simp only [List.map_toArray, List.map_cons, List.map_nil]); first | done | (simp only [hji18]; rfl) | rfl | (simp only [List.length_drop, List.length_take]; rfl)) ?_; (with_reducible refine (partition_str.calls (a1_2.extract 0 ((ji18) : Int).toNat) t108 t109 t110 _ A21.out).mono ?_); rintro e w30 ⟨rfl, hb⟩; refine ⟨_, rfl, ?_⟩; have n0_ := Aside0.mk (blk_below (g := gb101) (o := .cells #[.int .i64 a0_0, .int .i64 a0_1, .int .i64 a0_2] 106 (0, 0)) (by (with_reducible repeat (first | refine blk_drewN ?_ _ | refine blk_drew ?_ | refine blk_alloc ?_ _)); exact BK101.out) hb); have n1_ := Aside0.mk (blk_below (g := gb102) (o := .cells #[.int .i64 a1_0, .int .i64 a1_1, .string a1_2] 35 (0, 0)) (by (with_reducible repeat (first | refine blk_drewN ?_ _ | refine blk_drew ?_ | refine blk_alloc ?_ _)); exact BK102.out) hb); have n2_ := Aside0.mk (blk_below (g := gb103) (o := .cells #[.int .i64 0, .int .i64 0, .string (⟨#[]⟩ : ByteArray)] 35 (0, 0)) (by (with_reducible repeat (first | refine blk_drewN ?_ _ | refine blk_drew ?_ | refine blk_alloc ?_ _)); exact BK103.out) hb); have n3_ := Aside0.mk (below_step (by repeat (first | (with_reducible first | exact HB.out | apply below_alloc | apply pw_below_drewN | apply below_drew1 | refine below_set ?_ GE101.out | refine below_set ?_ GE102.out | refine below_set ?_ GE103.out) | exact HB.out)) hb); clear BK101; clear BK102; clear BK103; clear HB; have BK101 := n0_; have BK102 := n1_; have BK103 := n2_; have HB := n3_; clear n0_ n1_ n2_ n3_; (try clear hb); (try clear hb2); (try clear hk); (try clear hi); have hcz31_0 : w30.cell? ⟨gb103, 0, none⟩ = some (.int .i64 0) := (blk_cell BK103.out 0).trans rfl; have hcz31_1 : w30.cell? ⟨gb103, 1, none⟩ = some (.int .i64 0) := (blk_cell BK103.out 1).trans rfl; have hcz31_2 : w30.cell? ⟨gb103, 2, none⟩ = some (.string (⟨#[]⟩ : ByteArray)) := (blk_cell BK103.out 2).trans rfl; have hfz31_0 := blk_frozen BK103.out 0; have hfz31_1 := blk_frozen BK103.out 1; have hfz31_2 := blk_frozen BK103.out 2))
        refine bodyPost_ret (results_cell_row rfl _ _ gb103 35 #[.int .i64 t108, .int .i64 t109, .string t110] (0, 0) _ rfl (by (with_reducible repeat (first | refine blk_drewN ?_ _ | refine blk_drew ?_ | refine blk_alloc ?_ _)); refine blk_put (cs := #[.int .i64 t108, .int .i64 t109, .string (⟨#[]⟩ : ByteArray)]) ?_ 2 _ rfl; (with_reducible repeat (first | refine blk_drewN ?_ _ | refine blk_drew ?_ | refine blk_alloc ?_ _)); refine blk_put (cs := #[.int .i64 t108, .int .i64 0, .string (⟨#[]⟩ : ByteArray)]) ?_ 1 _ rfl; (with_reducible repeat (first | refine blk_drewN ?_ _ | refine blk_drew ?_ | refine blk_alloc ?_ _)); refine blk_put (cs := #[.int .i64 0, .int .i64 0, .string (⟨#[]⟩ : ByteArray)]) ?_ 0 _ rfl; (with_reducible repeat (first | refine blk_drewN ?_ _ | refine blk_drew ?_ | refine blk_alloc ?_ _)); exact BK103.out) Tryz.underlying35 rfl (by kernel_rfl)) rfl ?_
        exact ⟨by first | rfl | (simp [errW_none, errW_some] <;> rfl) | (simp only [← hji18]; first | rfl | (simp [errW_none, errW_some] <;> rfl)) | (simp [*, errW_none, errW_some] <;> rfl), by repeat (first | (with_reducible first | exact HB.out | apply below_alloc | apply pw_below_drewN | apply below_drew1 | refine below_set ?_ GE101.out | refine below_set ?_ GE102.out | refine below_set ?_ GE103.out) | exact HB.out)⟩
      · rw [if_neg c20] at H
        exact absurd H (by simp)
    · rw [if_neg c19] at H
      exact absurd H (by simp)
end Go.Proofs.YteflfnjljjianaaGreatDoor.Qx
namespace Go.Proofs.YteflfnjljjianaaGreatDoor.Qx
open Go.RowKit Go.Proofs.YteflfnjljjianaaGreatDoorW.PrintWords Go.Proofs.YteflfnjljjianaaGreatDoorW.PrintLast Go.Proofs.YteflfnjljjianaaGreatDoorW.PrintMore
attribute [local go_sem] max2_int min2_int max_two min_two
set_option linter.unusedVariables false
set_option linter.unusedSimpArgs false
attribute [local go_sem high] eqA35
def partition_of.null (a1_0 a1_1 : Int) (a1_2 : ByteArray) : Bool := (a1_0 == 0 && (a1_1 == 0 && a1_2.toList.isEmpty))
def partition_of.f (k : Nat) (a0_0 a0_1 a0_2 : Int) (a1_0 a1_1 : Int) (a1_2 : ByteArray) : Option (Int × Int × ByteArray) :=
  if partition_of.null a1_0 a1_1 a1_2 = true then some (0, 0, ⟨#[]⟩) else if a0_0 = 1 then partition_spec_same.f a0_0 a0_1 a0_2 a1_0 a1_1 a1_2 else if a0_0 = 2 then partition_spec_bucket.f k a0_0 a0_1 a0_2 a1_0 a1_1 a1_2 else if a0_0 = 3 then partition_spec_trunc.f a0_0 a0_1 a0_2 a1_0 a1_1 a1_2 else none
set_option maxRecDepth 100000 in
set_option maxHeartbeats 2000000 in
theorem partition_of.isnull (a0_0 a0_1 a0_2 a1_0 a1_1 : Int) (a1_2 : ByteArray) (w : World) (hn : (a1_0 == 0 && (a1_1 == 0 && a1_2.toList.isEmpty)) = true) :
    Calls Tryz.prog 48 #[.agg #[.int .i64 a0_0, .int .i64 a0_1, .int .i64 a0_2], .agg #[.int .i64 a1_0, .int .i64 a1_1, .string a1_2]] w fun e w' => e = .returned (.agg #[.int .i64 0, .int .i64 0, .string ⟨#[]⟩]) ∧ Below w.heap.size w w' := by
  have HN := Lib.hid hn
  clear hn
  have hu27 := Tryz.underlying27
  have hu35 := Tryz.underlying35
  go_enter Tryz.func48, Tryz.ntmps48
  go_wp2
  have hb := Lib.hid ((((Below.refl _ w).alloc (Nat.le_refl _) (.cells #[.int .i64 a0_0, .int .i64 a0_1, .int .i64 a0_2] 27)).alloc (by simp only [World.size_alloc]; omega) (.cells #[.int .i64 a1_0, .int .i64 a1_1, .string a1_2] 35)).alloc (by simp only [World.size_alloc]; omega) (.cells #[.int .i64 0, .int .i64 0, .string ⟨#[]⟩] 35))
  have k0_0 : (((w.alloc (.cells #[.int .i64 a0_0, .int .i64 a0_1, .int .i64 a0_2] 27)).alloc (.cells #[.int .i64 a1_0, .int .i64 a1_1, .string a1_2] 35)).alloc (.cells #[.int .i64 0, .int .i64 0, .string ⟨#[]⟩] 35)).cell? ⟨w.heap.size, 0, none⟩ = some (.int .i64 a0_0) := by simp [go_sem]
  have k0_1 : (((w.alloc (.cells #[.int .i64 a0_0, .int .i64 a0_1, .int .i64 a0_2] 27)).alloc (.cells #[.int .i64 a1_0, .int .i64 a1_1, .string a1_2] 35)).alloc (.cells #[.int .i64 0, .int .i64 0, .string ⟨#[]⟩] 35)).cell? ⟨w.heap.size, 1, none⟩ = some (.int .i64 a0_1) := by simp [go_sem]
  have k0_2 : (((w.alloc (.cells #[.int .i64 a0_0, .int .i64 a0_1, .int .i64 a0_2] 27)).alloc (.cells #[.int .i64 a1_0, .int .i64 a1_1, .string a1_2] 35)).alloc (.cells #[.int .i64 0, .int .i64 0, .string ⟨#[]⟩] 35)).cell? ⟨w.heap.size, 2, none⟩ = some (.int .i64 a0_2) := by simp [go_sem]
  have k1_0 : (((w.alloc (.cells #[.int .i64 a0_0, .int .i64 a0_1, .int .i64 a0_2] 27)).alloc (.cells #[.int .i64 a1_0, .int .i64 a1_1, .string a1_2] 35)).alloc (.cells #[.int .i64 0, .int .i64 0, .string ⟨#[]⟩] 35)).cell? ⟨w.heap.size + 1, 0, none⟩ = some (.int .i64 a1_0) := by simp [go_sem]
  have k1_1 : (((w.alloc (.cells #[.int .i64 a0_0, .int .i64 a0_1, .int .i64 a0_2] 27)).alloc (.cells #[.int .i64 a1_0, .int .i64 a1_1, .string a1_2] 35)).alloc (.cells #[.int .i64 0, .int .i64 0, .string ⟨#[]⟩] 35)).cell? ⟨w.heap.size + 1, 1, none⟩ = some (.int .i64 a1_1) := by simp [go_sem]
  have k1_2 : (((w.alloc (.cells #[.int .i64 a0_0, .int .i64 a0_1, .int .i64 a0_2] 27)).alloc (.cells #[.int .i64 a1_0, .int .i64 a1_1, .string a1_2] 35)).alloc (.cells #[.int .i64 0, .int .i64 0, .string ⟨#[]⟩] 35)).cell? ⟨w.heap.size + 1, 2, none⟩ = some (.string a1_2) := by simp [go_sem]
  have k2_0 : (((w.alloc (.cells #[.int .i64 a0_0, .int .i64 a0_1, .int .i64 a0_2] 27)).alloc (.cells #[.int .i64 a1_0, .int .i64 a1_1, .string a1_2] 35)).alloc (.cells #[.int .i64 0, .int .i64 0, .string ⟨#[]⟩] 35)).cell? ⟨w.heap.size + 1 + 1, 0, none⟩ = some (.int .i64 0) := by simp [go_sem]
  have k2_1 : (((w.alloc (.cells #[.int .i64 a0_0, .int .i64 a0_1, .int .i64 a0_2] 27)).alloc (.cells #[.int .i64 a1_0, .int .i64 a1_1, .string a1_2] 35)).alloc (.cells #[.int .i64 0, .int .i64 0, .string ⟨#[]⟩] 35)).cell? ⟨w.heap.size + 1 + 1, 1, none⟩ = some (.int .i64 0) := by simp [go_sem]
  have k2_2 : (((w.alloc (.cells #[.int .i64 a0_0, .int .i64 a0_1, .int .i64 a0_2] 27)).alloc (.cells #[.int .i64 a1_0, .int .i64 a1_1, .string a1_2] 35)).alloc (.cells #[.int .i64 0, .int .i64 0, .string ⟨#[]⟩] 35)).cell? ⟨w.heap.size + 1 + 1, 2, none⟩ = some (.string ⟨#[]⟩) := by simp [go_sem]
  have lt0 : w.heap.size < (((w.alloc (.cells #[.int .i64 a0_0, .int .i64 a0_1, .int .i64 a0_2] 27)).alloc (.cells #[.int .i64 a1_0, .int .i64 a1_1, .string a1_2] 35)).alloc (.cells #[.int .i64 0, .int .i64 0, .string ⟨#[]⟩] 35)).heap.size := by simp only [World.size_alloc]; omega
  have lt1 : w.heap.size + 1 < (((w.alloc (.cells #[.int .i64 a0_0, .int .i64 a0_1, .int .i64 a0_2] 27)).alloc (.cells #[.int .i64 a1_0, .int .i64 a1_1, .string a1_2] 35)).alloc (.cells #[.int .i64 0, .int .i64 0, .string ⟨#[]⟩] 35)).heap.size := by simp only [World.size_alloc]; omega
  have lt2 : w.heap.size + 1 + 1 < (((w.alloc (.cells #[.int .i64 a0_0, .int .i64 a0_1, .int .i64 a0_2] 27)).alloc (.cells #[.int .i64 a1_0, .int .i64 a1_1, .string a1_2] 35)).alloc (.cells #[.int .i64 0, .int .i64 0, .string ⟨#[]⟩] 35)).heap.size := by simp only [World.size_alloc]; omega
  have BK : (((w.alloc (.cells #[.int .i64 a0_0, .int .i64 a0_1, .int .i64 a0_2] 27)).alloc (.cells #[.int .i64 a1_0, .int .i64 a1_1, .string a1_2] 35)).alloc (.cells #[.int .i64 0, .int .i64 0, .string ⟨#[]⟩] 35)).heap[w.heap.size + 1 + 1]? = some (.cells #[.int .i64 0, .int .i64 0, .string ⟨#[]⟩] 35 (0, 0)) := by simpa only [World.size_alloc] using heap_alloc_new ((w.alloc (.cells #[.int .i64 a0_0, .int .i64 a0_1, .int .i64 a0_2] 27)).alloc (.cells #[.int .i64 a1_0, .int .i64 a1_1, .string a1_2] 35)) (.cells #[.int .i64 0, .int .i64 0, .string ⟨#[]⟩] 35)
  generalize ((w.alloc (.cells #[.int .i64 a0_0, .int .i64 a0_1, .int .i64 a0_2] 27)).alloc (.cells #[.int .i64 a1_0, .int .i64 a1_1, .string a1_2] 35)).alloc (.cells #[.int .i64 0, .int .i64 0, .string ⟨#[]⟩] 35) = W at *
  clear k2_0 k2_1 k2_2 lt0 lt1 lt2
  replace k0_0 := cell_regrown k0_0
  replace k0_1 := cell_regrown k0_1
  replace k0_2 := cell_regrown k0_2
  replace k1_0 := cell_regrown k1_0
  replace k1_1 := cell_regrown k1_1
  replace k1_2 := cell_regrown k1_2
  refine wp_region_quiet_below (by kernel_rfl) (by kernel_rfl) ?_
  repeat (first | go_big_quiet_step (first | exact Calls.regrown_of (partition_null.calls 0 0 ⟨#[]⟩ _ rfl)) | quiet_step (first | exact Calls.regrown_of (partition_null.calls 0 0 ⟨#[]⟩ _ rfl)))
  refine wpQuiet_nil ?_
  intro _ hw'
  obtain ⟨⟨dq, osq⟩, hw''⟩ := hw'
  subst hw''
  have hb2 := Lib.hid (below_regrown W dq osq)
  replace k0_0 := k0_0 dq osq
  replace k0_1 := k0_1 dq osq
  replace k0_2 := k0_2 dq osq
  replace k1_0 := k1_0 dq osq
  replace k1_1 := k1_1 dq osq
  replace k1_2 := k1_2 dq osq
  replace BK := blk_below BK hb2.out
  have hB := Lib.hid (below_then hb.out hb.out.size hb2.out)
  clear hb hb2
  generalize Go.Sort.grow (redrawn W dq) osq = W2 at *
  rw [HN.out]
  go_wp2_with fail
  refine (partition_null.calls 0 0 ⟨#[]⟩ _ rfl).mono ?_
  rintro e W3 ⟨rfl, hb3⟩
  replace BK := blk_below BK hb3
  replace hB := Lib.hid (below_then hB.out hB.out.size hb3)
  clear hb3
  have z0 : W3.cell? ⟨w.heap.size + 1 + 1, 0, none⟩ = some (.int .i64 0) := (blk_cell BK 0).trans rfl
  have f0 := blk_frozen BK 0
  have z1 : W3.cell? ⟨w.heap.size + 1 + 1, 1, none⟩ = some (.int .i64 0) := (blk_cell BK 1).trans rfl
  have f1 := blk_frozen BK 1
  have z2 : W3.cell? ⟨w.heap.size + 1 + 1, 2, none⟩ = some (.string ⟨#[]⟩) := (blk_cell BK 2).trans rfl
  have f2 := blk_frozen BK 2
  go_wp2
  refine bodyPost_ret (results_cell_row rfl _ _ (w.heap.size + 1 + 1) 35 #[.int .i64 0, .int .i64 0, .string ⟨#[]⟩] (0, 0) _ rfl (by refine blk_put (cs := #[.int .i64 0, .int .i64 0, .string ⟨#[]⟩]) ?_ 2 _ rfl; refine blk_put (cs := #[.int .i64 0, .int .i64 0, .string ⟨#[]⟩]) ?_ 1 _ rfl; refine blk_put (cs := #[.int .i64 0, .int .i64 0, .string ⟨#[]⟩]) ?_ 0 _ rfl; exact BK) Tryz.underlying35 rfl (by kernel_rfl)) rfl ⟨rfl, ?_⟩
  exact below_set (below_set (below_set hB.out (by show w.heap.size ≤ w.heap.size + 1 + 1; omega)) (by show w.heap.size ≤ w.heap.size + 1 + 1; omega)) (by show w.heap.size ≤ w.heap.size + 1 + 1; omega)
set_option maxRecDepth 100000 in
set_option maxHeartbeats 2000000 in
theorem partition_of.case1 (a0_1 a0_2 a1_0 a1_1 : Int) (a1_2 : ByteArray) (r1 r2 : Int) (r3 : ByteArray) (w : World) (hn : (a1_0 == 0 && (a1_1 == 0 && a1_2.toList.isEmpty)) = false)
    (hf : ∀ w, Calls Tryz.prog 76 #[.agg #[.int .i64 1, .int .i64 a0_1, .int .i64 a0_2], .agg #[.int .i64 a1_0, .int .i64 a1_1, .string a1_2]] w fun e w' => e = .returned (.agg #[.int .i64 r1, .int .i64 r2, .string r3]) ∧ Below w.heap.size w w') :
    Calls Tryz.prog 48 #[.agg #[.int .i64 1, .int .i64 a0_1, .int .i64 a0_2], .agg #[.int .i64 a1_0, .int .i64 a1_1, .string a1_2]] w fun e w' => e = .returned (.agg #[.int .i64 r1, .int .i64 r2, .string r3]) ∧ Below w.heap.size w w' := by
  have HN := Lib.hid hn
  have HF := Lib.hid hf
  clear hn hf
  have hu27 := Tryz.underlying27
  have hu35 := Tryz.underlying35
  go_enter Tryz.func48, Tryz.ntmps48
  go_wp2
  have hb := Lib.hid ((((Below.refl _ w).alloc (Nat.le_refl _) (.cells #[.int .i64 1, .int .i64 a0_1, .int .i64 a0_2] 27)).alloc (by simp only [World.size_alloc]; omega) (.cells #[.int .i64 a1_0, .int .i64 a1_1, .string a1_2] 35)).alloc (by simp only [World.size_alloc]; omega) (.cells #[.int .i64 0, .int .i64 0, .string ⟨#[]⟩] 35))
  have k0_0 : (((w.alloc (.cells #[.int .i64 1, .int .i64 a0_1, .int .i64 a0_2] 27)).alloc (.cells #[.int .i64 a1_0, .int .i64 a1_1, .string a1_2] 35)).alloc (.cells #[.int .i64 0, .int .i64 0, .string ⟨#[]⟩] 35)).cell? ⟨w.heap.size, 0, none⟩ = some (.int .i64 1) := by simp [go_sem]
  have k0_1 : (((w.alloc (.cells #[.int .i64 1, .int .i64 a0_1, .int .i64 a0_2] 27)).alloc (.cells #[.int .i64 a1_0, .int .i64 a1_1, .string a1_2] 35)).alloc (.cells #[.int .i64 0, .int .i64 0, .string ⟨#[]⟩] 35)).cell? ⟨w.heap.size, 1, none⟩ = some (.int .i64 a0_1) := by simp [go_sem]
  have k0_2 : (((w.alloc (.cells #[.int .i64 1, .int .i64 a0_1, .int .i64 a0_2] 27)).alloc (.cells #[.int .i64 a1_0, .int .i64 a1_1, .string a1_2] 35)).alloc (.cells #[.int .i64 0, .int .i64 0, .string ⟨#[]⟩] 35)).cell? ⟨w.heap.size, 2, none⟩ = some (.int .i64 a0_2) := by simp [go_sem]
  have k1_0 : (((w.alloc (.cells #[.int .i64 1, .int .i64 a0_1, .int .i64 a0_2] 27)).alloc (.cells #[.int .i64 a1_0, .int .i64 a1_1, .string a1_2] 35)).alloc (.cells #[.int .i64 0, .int .i64 0, .string ⟨#[]⟩] 35)).cell? ⟨w.heap.size + 1, 0, none⟩ = some (.int .i64 a1_0) := by simp [go_sem]
  have k1_1 : (((w.alloc (.cells #[.int .i64 1, .int .i64 a0_1, .int .i64 a0_2] 27)).alloc (.cells #[.int .i64 a1_0, .int .i64 a1_1, .string a1_2] 35)).alloc (.cells #[.int .i64 0, .int .i64 0, .string ⟨#[]⟩] 35)).cell? ⟨w.heap.size + 1, 1, none⟩ = some (.int .i64 a1_1) := by simp [go_sem]
  have k1_2 : (((w.alloc (.cells #[.int .i64 1, .int .i64 a0_1, .int .i64 a0_2] 27)).alloc (.cells #[.int .i64 a1_0, .int .i64 a1_1, .string a1_2] 35)).alloc (.cells #[.int .i64 0, .int .i64 0, .string ⟨#[]⟩] 35)).cell? ⟨w.heap.size + 1, 2, none⟩ = some (.string a1_2) := by simp [go_sem]
  have k2_0 : (((w.alloc (.cells #[.int .i64 1, .int .i64 a0_1, .int .i64 a0_2] 27)).alloc (.cells #[.int .i64 a1_0, .int .i64 a1_1, .string a1_2] 35)).alloc (.cells #[.int .i64 0, .int .i64 0, .string ⟨#[]⟩] 35)).cell? ⟨w.heap.size + 1 + 1, 0, none⟩ = some (.int .i64 0) := by simp [go_sem]
  have k2_1 : (((w.alloc (.cells #[.int .i64 1, .int .i64 a0_1, .int .i64 a0_2] 27)).alloc (.cells #[.int .i64 a1_0, .int .i64 a1_1, .string a1_2] 35)).alloc (.cells #[.int .i64 0, .int .i64 0, .string ⟨#[]⟩] 35)).cell? ⟨w.heap.size + 1 + 1, 1, none⟩ = some (.int .i64 0) := by simp [go_sem]
  have k2_2 : (((w.alloc (.cells #[.int .i64 1, .int .i64 a0_1, .int .i64 a0_2] 27)).alloc (.cells #[.int .i64 a1_0, .int .i64 a1_1, .string a1_2] 35)).alloc (.cells #[.int .i64 0, .int .i64 0, .string ⟨#[]⟩] 35)).cell? ⟨w.heap.size + 1 + 1, 2, none⟩ = some (.string ⟨#[]⟩) := by simp [go_sem]
  have lt0 : w.heap.size < (((w.alloc (.cells #[.int .i64 1, .int .i64 a0_1, .int .i64 a0_2] 27)).alloc (.cells #[.int .i64 a1_0, .int .i64 a1_1, .string a1_2] 35)).alloc (.cells #[.int .i64 0, .int .i64 0, .string ⟨#[]⟩] 35)).heap.size := by simp only [World.size_alloc]; omega
  have lt1 : w.heap.size + 1 < (((w.alloc (.cells #[.int .i64 1, .int .i64 a0_1, .int .i64 a0_2] 27)).alloc (.cells #[.int .i64 a1_0, .int .i64 a1_1, .string a1_2] 35)).alloc (.cells #[.int .i64 0, .int .i64 0, .string ⟨#[]⟩] 35)).heap.size := by simp only [World.size_alloc]; omega
  have lt2 : w.heap.size + 1 + 1 < (((w.alloc (.cells #[.int .i64 1, .int .i64 a0_1, .int .i64 a0_2] 27)).alloc (.cells #[.int .i64 a1_0, .int .i64 a1_1, .string a1_2] 35)).alloc (.cells #[.int .i64 0, .int .i64 0, .string ⟨#[]⟩] 35)).heap.size := by simp only [World.size_alloc]; omega
  have BK : (((w.alloc (.cells #[.int .i64 1, .int .i64 a0_1, .int .i64 a0_2] 27)).alloc (.cells #[.int .i64 a1_0, .int .i64 a1_1, .string a1_2] 35)).alloc (.cells #[.int .i64 0, .int .i64 0, .string ⟨#[]⟩] 35)).heap[w.heap.size + 1 + 1]? = some (.cells #[.int .i64 0, .int .i64 0, .string ⟨#[]⟩] 35 (0, 0)) := by simpa only [World.size_alloc] using heap_alloc_new ((w.alloc (.cells #[.int .i64 1, .int .i64 a0_1, .int .i64 a0_2] 27)).alloc (.cells #[.int .i64 a1_0, .int .i64 a1_1, .string a1_2] 35)) (.cells #[.int .i64 0, .int .i64 0, .string ⟨#[]⟩] 35)
  generalize ((w.alloc (.cells #[.int .i64 1, .int .i64 a0_1, .int .i64 a0_2] 27)).alloc (.cells #[.int .i64 a1_0, .int .i64 a1_1, .string a1_2] 35)).alloc (.cells #[.int .i64 0, .int .i64 0, .string ⟨#[]⟩] 35) = W at *
  clear k2_0 k2_1 k2_2 lt0 lt1 lt2
  replace k0_0 := cell_regrown k0_0
  replace k0_1 := cell_regrown k0_1
  replace k0_2 := cell_regrown k0_2
  replace k1_0 := cell_regrown k1_0
  replace k1_1 := cell_regrown k1_1
  replace k1_2 := cell_regrown k1_2
  refine wp_region_quiet_below (by kernel_rfl) (by kernel_rfl) ?_
  repeat (first | go_big_quiet_step (first | exact Calls.regrown_of (partition_null.calls 0 0 ⟨#[]⟩ _ rfl)) | quiet_step (first | exact Calls.regrown_of (partition_null.calls 0 0 ⟨#[]⟩ _ rfl)))
  refine wpQuiet_nil ?_
  intro _ hw'
  obtain ⟨⟨dq, osq⟩, hw''⟩ := hw'
  subst hw''
  have hb2 := Lib.hid (below_regrown W dq osq)
  replace k0_0 := k0_0 dq osq
  replace k0_1 := k0_1 dq osq
  replace k0_2 := k0_2 dq osq
  replace k1_0 := k1_0 dq osq
  replace k1_1 := k1_1 dq osq
  replace k1_2 := k1_2 dq osq
  replace BK := blk_below BK hb2.out
  have hB := Lib.hid (below_then hb.out hb.out.size hb2.out)
  clear hb hb2
  generalize Go.Sort.grow (redrawn W dq) osq = W2 at *
  rw [HN.out]
  go_wp2
  have i1 := partition_kinds.at1
  have i2 := partition_kinds.fld1_1
  replace k0_0 := cell_regrown k0_0
  replace k0_1 := cell_regrown k0_1
  replace k0_2 := cell_regrown k0_2
  replace k1_0 := cell_regrown k1_0
  replace k1_1 := cell_regrown k1_1
  replace k1_2 := cell_regrown k1_2
  refine wp_region_quiet_tail_below 8 (by kernel_rfl) (by kernel_rfl) ?_
  simp only [List.take_succ_cons, List.take_zero, List.drop_succ_cons, List.drop_zero]
  repeat (first | go_big_quiet_step (first | exact Calls.regrown_of (partition_kinds.tab _) | exact Calls.regrown_of (HF.out _)) | quiet_step (first | exact Calls.regrown_of (partition_kinds.tab _) | exact Calls.regrown_of (HF.out _)))
  refine wpQuiet_nil ?_
  intro _ hw'
  obtain ⟨⟨dq, osq⟩, hw''⟩ := hw'
  subst hw''
  have hb2 := Lib.hid (below_regrown W2 dq osq)
  replace BK := blk_below BK hb2.out
  replace hB := Lib.hid (below_then hB.out hB.out.size hb2.out)
  clear hb2 k0_0 k0_1 k0_2 k1_0 k1_1 k1_2 i1 i2
  generalize Go.Sort.grow (redrawn W2 dq) osq = W3 at *
  have z0 : W3.cell? ⟨w.heap.size + 1 + 1, 0, none⟩ = some (.int .i64 0) := (blk_cell BK 0).trans rfl
  have f0 := blk_frozen BK 0
  have z1 : W3.cell? ⟨w.heap.size + 1 + 1, 1, none⟩ = some (.int .i64 0) := (blk_cell BK 1).trans rfl
  have f1 := blk_frozen BK 1
  have z2 : W3.cell? ⟨w.heap.size + 1 + 1, 2, none⟩ = some (.string ⟨#[]⟩) := (blk_cell BK 2).trans rfl
  have f2 := blk_frozen BK 2
  go_wp2
  refine bodyPost_ret (results_cell_row rfl _ _ (w.heap.size + 1 + 1) 35 #[.int .i64 r1, .int .i64 r2, .string r3] (0, 0) _ rfl (by refine blk_put (cs := #[.int .i64 r1, .int .i64 r2, .string ⟨#[]⟩]) ?_ 2 _ rfl; refine blk_put (cs := #[.int .i64 r1, .int .i64 0, .string ⟨#[]⟩]) ?_ 1 _ rfl; refine blk_put (cs := #[.int .i64 0, .int .i64 0, .string ⟨#[]⟩]) ?_ 0 _ rfl; exact BK) Tryz.underlying35 rfl (by kernel_rfl)) rfl ⟨rfl, ?_⟩
  exact below_set (below_set (below_set hB.out (by show w.heap.size ≤ w.heap.size + 1 + 1; omega)) (by show w.heap.size ≤ w.heap.size + 1 + 1; omega)) (by show w.heap.size ≤ w.heap.size + 1 + 1; omega)
set_option maxRecDepth 100000 in
set_option maxHeartbeats 2000000 in
theorem partition_of.case2 (a0_1 a0_2 a1_0 a1_1 : Int) (a1_2 : ByteArray) (r1 r2 : Int) (r3 : ByteArray) (w : World) (hn : (a1_0 == 0 && (a1_1 == 0 && a1_2.toList.isEmpty)) = false)
    (hf : ∀ w, Calls Tryz.prog 79 #[.agg #[.int .i64 2, .int .i64 a0_1, .int .i64 a0_2], .agg #[.int .i64 a1_0, .int .i64 a1_1, .string a1_2]] w fun e w' => e = .returned (.agg #[.int .i64 r1, .int .i64 r2, .string r3]) ∧ Below w.heap.size w w') :
    Calls Tryz.prog 48 #[.agg #[.int .i64 2, .int .i64 a0_1, .int .i64 a0_2], .agg #[.int .i64 a1_0, .int .i64 a1_1, .string a1_2]] w fun e w' => e = .returned (.agg #[.int .i64 r1, .int .i64 r2, .string r3]) ∧ Below w.heap.size w w' := by
  have HN := Lib.hid hn
  have HF := Lib.hid hf
  clear hn hf
  have hu27 := Tryz.underlying27
  have hu35 := Tryz.underlying35
  go_enter Tryz.func48, Tryz.ntmps48
  go_wp2
  have hb := Lib.hid ((((Below.refl _ w).alloc (Nat.le_refl _) (.cells #[.int .i64 2, .int .i64 a0_1, .int .i64 a0_2] 27)).alloc (by simp only [World.size_alloc]; omega) (.cells #[.int .i64 a1_0, .int .i64 a1_1, .string a1_2] 35)).alloc (by simp only [World.size_alloc]; omega) (.cells #[.int .i64 0, .int .i64 0, .string ⟨#[]⟩] 35))
  have k0_0 : (((w.alloc (.cells #[.int .i64 2, .int .i64 a0_1, .int .i64 a0_2] 27)).alloc (.cells #[.int .i64 a1_0, .int .i64 a1_1, .string a1_2] 35)).alloc (.cells #[.int .i64 0, .int .i64 0, .string ⟨#[]⟩] 35)).cell? ⟨w.heap.size, 0, none⟩ = some (.int .i64 2) := by simp [go_sem]
  have k0_1 : (((w.alloc (.cells #[.int .i64 2, .int .i64 a0_1, .int .i64 a0_2] 27)).alloc (.cells #[.int .i64 a1_0, .int .i64 a1_1, .string a1_2] 35)).alloc (.cells #[.int .i64 0, .int .i64 0, .string ⟨#[]⟩] 35)).cell? ⟨w.heap.size, 1, none⟩ = some (.int .i64 a0_1) := by simp [go_sem]
  have k0_2 : (((w.alloc (.cells #[.int .i64 2, .int .i64 a0_1, .int .i64 a0_2] 27)).alloc (.cells #[.int .i64 a1_0, .int .i64 a1_1, .string a1_2] 35)).alloc (.cells #[.int .i64 0, .int .i64 0, .string ⟨#[]⟩] 35)).cell? ⟨w.heap.size, 2, none⟩ = some (.int .i64 a0_2) := by simp [go_sem]
  have k1_0 : (((w.alloc (.cells #[.int .i64 2, .int .i64 a0_1, .int .i64 a0_2] 27)).alloc (.cells #[.int .i64 a1_0, .int .i64 a1_1, .string a1_2] 35)).alloc (.cells #[.int .i64 0, .int .i64 0, .string ⟨#[]⟩] 35)).cell? ⟨w.heap.size + 1, 0, none⟩ = some (.int .i64 a1_0) := by simp [go_sem]
  have k1_1 : (((w.alloc (.cells #[.int .i64 2, .int .i64 a0_1, .int .i64 a0_2] 27)).alloc (.cells #[.int .i64 a1_0, .int .i64 a1_1, .string a1_2] 35)).alloc (.cells #[.int .i64 0, .int .i64 0, .string ⟨#[]⟩] 35)).cell? ⟨w.heap.size + 1, 1, none⟩ = some (.int .i64 a1_1) := by simp [go_sem]
  have k1_2 : (((w.alloc (.cells #[.int .i64 2, .int .i64 a0_1, .int .i64 a0_2] 27)).alloc (.cells #[.int .i64 a1_0, .int .i64 a1_1, .string a1_2] 35)).alloc (.cells #[.int .i64 0, .int .i64 0, .string ⟨#[]⟩] 35)).cell? ⟨w.heap.size + 1, 2, none⟩ = some (.string a1_2) := by simp [go_sem]
  have k2_0 : (((w.alloc (.cells #[.int .i64 2, .int .i64 a0_1, .int .i64 a0_2] 27)).alloc (.cells #[.int .i64 a1_0, .int .i64 a1_1, .string a1_2] 35)).alloc (.cells #[.int .i64 0, .int .i64 0, .string ⟨#[]⟩] 35)).cell? ⟨w.heap.size + 1 + 1, 0, none⟩ = some (.int .i64 0) := by simp [go_sem]
  have k2_1 : (((w.alloc (.cells #[.int .i64 2, .int .i64 a0_1, .int .i64 a0_2] 27)).alloc (.cells #[.int .i64 a1_0, .int .i64 a1_1, .string a1_2] 35)).alloc (.cells #[.int .i64 0, .int .i64 0, .string ⟨#[]⟩] 35)).cell? ⟨w.heap.size + 1 + 1, 1, none⟩ = some (.int .i64 0) := by simp [go_sem]
  have k2_2 : (((w.alloc (.cells #[.int .i64 2, .int .i64 a0_1, .int .i64 a0_2] 27)).alloc (.cells #[.int .i64 a1_0, .int .i64 a1_1, .string a1_2] 35)).alloc (.cells #[.int .i64 0, .int .i64 0, .string ⟨#[]⟩] 35)).cell? ⟨w.heap.size + 1 + 1, 2, none⟩ = some (.string ⟨#[]⟩) := by simp [go_sem]
  have lt0 : w.heap.size < (((w.alloc (.cells #[.int .i64 2, .int .i64 a0_1, .int .i64 a0_2] 27)).alloc (.cells #[.int .i64 a1_0, .int .i64 a1_1, .string a1_2] 35)).alloc (.cells #[.int .i64 0, .int .i64 0, .string ⟨#[]⟩] 35)).heap.size := by simp only [World.size_alloc]; omega
  have lt1 : w.heap.size + 1 < (((w.alloc (.cells #[.int .i64 2, .int .i64 a0_1, .int .i64 a0_2] 27)).alloc (.cells #[.int .i64 a1_0, .int .i64 a1_1, .string a1_2] 35)).alloc (.cells #[.int .i64 0, .int .i64 0, .string ⟨#[]⟩] 35)).heap.size := by simp only [World.size_alloc]; omega
  have lt2 : w.heap.size + 1 + 1 < (((w.alloc (.cells #[.int .i64 2, .int .i64 a0_1, .int .i64 a0_2] 27)).alloc (.cells #[.int .i64 a1_0, .int .i64 a1_1, .string a1_2] 35)).alloc (.cells #[.int .i64 0, .int .i64 0, .string ⟨#[]⟩] 35)).heap.size := by simp only [World.size_alloc]; omega
  have BK : (((w.alloc (.cells #[.int .i64 2, .int .i64 a0_1, .int .i64 a0_2] 27)).alloc (.cells #[.int .i64 a1_0, .int .i64 a1_1, .string a1_2] 35)).alloc (.cells #[.int .i64 0, .int .i64 0, .string ⟨#[]⟩] 35)).heap[w.heap.size + 1 + 1]? = some (.cells #[.int .i64 0, .int .i64 0, .string ⟨#[]⟩] 35 (0, 0)) := by simpa only [World.size_alloc] using heap_alloc_new ((w.alloc (.cells #[.int .i64 2, .int .i64 a0_1, .int .i64 a0_2] 27)).alloc (.cells #[.int .i64 a1_0, .int .i64 a1_1, .string a1_2] 35)) (.cells #[.int .i64 0, .int .i64 0, .string ⟨#[]⟩] 35)
  generalize ((w.alloc (.cells #[.int .i64 2, .int .i64 a0_1, .int .i64 a0_2] 27)).alloc (.cells #[.int .i64 a1_0, .int .i64 a1_1, .string a1_2] 35)).alloc (.cells #[.int .i64 0, .int .i64 0, .string ⟨#[]⟩] 35) = W at *
  clear k2_0 k2_1 k2_2 lt0 lt1 lt2
  replace k0_0 := cell_regrown k0_0
  replace k0_1 := cell_regrown k0_1
  replace k0_2 := cell_regrown k0_2
  replace k1_0 := cell_regrown k1_0
  replace k1_1 := cell_regrown k1_1
  replace k1_2 := cell_regrown k1_2
  refine wp_region_quiet_below (by kernel_rfl) (by kernel_rfl) ?_
  repeat (first | go_big_quiet_step (first | exact Calls.regrown_of (partition_null.calls 0 0 ⟨#[]⟩ _ rfl)) | quiet_step (first | exact Calls.regrown_of (partition_null.calls 0 0 ⟨#[]⟩ _ rfl)))
  refine wpQuiet_nil ?_
  intro _ hw'
  obtain ⟨⟨dq, osq⟩, hw''⟩ := hw'
  subst hw''
  have hb2 := Lib.hid (below_regrown W dq osq)
  replace k0_0 := k0_0 dq osq
  replace k0_1 := k0_1 dq osq
  replace k0_2 := k0_2 dq osq
  replace k1_0 := k1_0 dq osq
  replace k1_1 := k1_1 dq osq
  replace k1_2 := k1_2 dq osq
  replace BK := blk_below BK hb2.out
  have hB := Lib.hid (below_then hb.out hb.out.size hb2.out)
  clear hb hb2
  generalize Go.Sort.grow (redrawn W dq) osq = W2 at *
  rw [HN.out]
  go_wp2
  have i1 := partition_kinds.at2
  have i2 := partition_kinds.fld2_1
  replace k0_0 := cell_regrown k0_0
  replace k0_1 := cell_regrown k0_1
  replace k0_2 := cell_regrown k0_2
  replace k1_0 := cell_regrown k1_0
  replace k1_1 := cell_regrown k1_1
  replace k1_2 := cell_regrown k1_2
  refine wp_region_quiet_tail_below 8 (by kernel_rfl) (by kernel_rfl) ?_
  simp only [List.take_succ_cons, List.take_zero, List.drop_succ_cons, List.drop_zero]
  repeat (first | go_big_quiet_step (first | exact Calls.regrown_of (partition_kinds.tab _) | exact Calls.regrown_of (HF.out _)) | quiet_step (first | exact Calls.regrown_of (partition_kinds.tab _) | exact Calls.regrown_of (HF.out _)))
  refine wpQuiet_nil ?_
  intro _ hw'
  obtain ⟨⟨dq, osq⟩, hw''⟩ := hw'
  subst hw''
  have hb2 := Lib.hid (below_regrown W2 dq osq)
  replace BK := blk_below BK hb2.out
  replace hB := Lib.hid (below_then hB.out hB.out.size hb2.out)
  clear hb2 k0_0 k0_1 k0_2 k1_0 k1_1 k1_2 i1 i2
  generalize Go.Sort.grow (redrawn W2 dq) osq = W3 at *
  have z0 : W3.cell? ⟨w.heap.size + 1 + 1, 0, none⟩ = some (.int .i64 0) := (blk_cell BK 0).trans rfl
  have f0 := blk_frozen BK 0
  have z1 : W3.cell? ⟨w.heap.size + 1 + 1, 1, none⟩ = some (.int .i64 0) := (blk_cell BK 1).trans rfl
  have f1 := blk_frozen BK 1
  have z2 : W3.cell? ⟨w.heap.size + 1 + 1, 2, none⟩ = some (.string ⟨#[]⟩) := (blk_cell BK 2).trans rfl
  have f2 := blk_frozen BK 2
  go_wp2
  refine bodyPost_ret (results_cell_row rfl _ _ (w.heap.size + 1 + 1) 35 #[.int .i64 r1, .int .i64 r2, .string r3] (0, 0) _ rfl (by refine blk_put (cs := #[.int .i64 r1, .int .i64 r2, .string ⟨#[]⟩]) ?_ 2 _ rfl; refine blk_put (cs := #[.int .i64 r1, .int .i64 0, .string ⟨#[]⟩]) ?_ 1 _ rfl; refine blk_put (cs := #[.int .i64 0, .int .i64 0, .string ⟨#[]⟩]) ?_ 0 _ rfl; exact BK) Tryz.underlying35 rfl (by kernel_rfl)) rfl ⟨rfl, ?_⟩
  exact below_set (below_set (below_set hB.out (by show w.heap.size ≤ w.heap.size + 1 + 1; omega)) (by show w.heap.size ≤ w.heap.size + 1 + 1; omega)) (by show w.heap.size ≤ w.heap.size + 1 + 1; omega)
set_option maxRecDepth 100000 in
set_option maxHeartbeats 2000000 in
theorem partition_of.case3 (a0_1 a0_2 a1_0 a1_1 : Int) (a1_2 : ByteArray) (r1 r2 : Int) (r3 : ByteArray) (w : World) (hn : (a1_0 == 0 && (a1_1 == 0 && a1_2.toList.isEmpty)) = false)
    (hf : ∀ w, Calls Tryz.prog 82 #[.agg #[.int .i64 3, .int .i64 a0_1, .int .i64 a0_2], .agg #[.int .i64 a1_0, .int .i64 a1_1, .string a1_2]] w fun e w' => e = .returned (.agg #[.int .i64 r1, .int .i64 r2, .string r3]) ∧ Below w.heap.size w w') :
    Calls Tryz.prog 48 #[.agg #[.int .i64 3, .int .i64 a0_1, .int .i64 a0_2], .agg #[.int .i64 a1_0, .int .i64 a1_1, .string a1_2]] w fun e w' => e = .returned (.agg #[.int .i64 r1, .int .i64 r2, .string r3]) ∧ Below w.heap.size w w' := by
  have HN := Lib.hid hn
  have HF := Lib.hid hf
  clear hn hf
  have hu27 := Tryz.underlying27
  have hu35 := Tryz.underlying35
  go_enter Tryz.func48, Tryz.ntmps48
  go_wp2
  have hb := Lib.hid ((((Below.refl _ w).alloc (Nat.le_refl _) (.cells #[.int .i64 3, .int .i64 a0_1, .int .i64 a0_2] 27)).alloc (by simp only [World.size_alloc]; omega) (.cells #[.int .i64 a1_0, .int .i64 a1_1, .string a1_2] 35)).alloc (by simp only [World.size_alloc]; omega) (.cells #[.int .i64 0, .int .i64 0, .string ⟨#[]⟩] 35))
  have k0_0 : (((w.alloc (.cells #[.int .i64 3, .int .i64 a0_1, .int .i64 a0_2] 27)).alloc (.cells #[.int .i64 a1_0, .int .i64 a1_1, .string a1_2] 35)).alloc (.cells #[.int .i64 0, .int .i64 0, .string ⟨#[]⟩] 35)).cell? ⟨w.heap.size, 0, none⟩ = some (.int .i64 3) := by simp [go_sem]
  have k0_1 : (((w.alloc (.cells #[.int .i64 3, .int .i64 a0_1, .int .i64 a0_2] 27)).alloc (.cells #[.int .i64 a1_0, .int .i64 a1_1, .string a1_2] 35)).alloc (.cells #[.int .i64 0, .int .i64 0, .string ⟨#[]⟩] 35)).cell? ⟨w.heap.size, 1, none⟩ = some (.int .i64 a0_1) := by simp [go_sem]
  have k0_2 : (((w.alloc (.cells #[.int .i64 3, .int .i64 a0_1, .int .i64 a0_2] 27)).alloc (.cells #[.int .i64 a1_0, .int .i64 a1_1, .string a1_2] 35)).alloc (.cells #[.int .i64 0, .int .i64 0, .string ⟨#[]⟩] 35)).cell? ⟨w.heap.size, 2, none⟩ = some (.int .i64 a0_2) := by simp [go_sem]
  have k1_0 : (((w.alloc (.cells #[.int .i64 3, .int .i64 a0_1, .int .i64 a0_2] 27)).alloc (.cells #[.int .i64 a1_0, .int .i64 a1_1, .string a1_2] 35)).alloc (.cells #[.int .i64 0, .int .i64 0, .string ⟨#[]⟩] 35)).cell? ⟨w.heap.size + 1, 0, none⟩ = some (.int .i64 a1_0) := by simp [go_sem]
  have k1_1 : (((w.alloc (.cells #[.int .i64 3, .int .i64 a0_1, .int .i64 a0_2] 27)).alloc (.cells #[.int .i64 a1_0, .int .i64 a1_1, .string a1_2] 35)).alloc (.cells #[.int .i64 0, .int .i64 0, .string ⟨#[]⟩] 35)).cell? ⟨w.heap.size + 1, 1, none⟩ = some (.int .i64 a1_1) := by simp [go_sem]
  have k1_2 : (((w.alloc (.cells #[.int .i64 3, .int .i64 a0_1, .int .i64 a0_2] 27)).alloc (.cells #[.int .i64 a1_0, .int .i64 a1_1, .string a1_2] 35)).alloc (.cells #[.int .i64 0, .int .i64 0, .string ⟨#[]⟩] 35)).cell? ⟨w.heap.size + 1, 2, none⟩ = some (.string a1_2) := by simp [go_sem]
  have k2_0 : (((w.alloc (.cells #[.int .i64 3, .int .i64 a0_1, .int .i64 a0_2] 27)).alloc (.cells #[.int .i64 a1_0, .int .i64 a1_1, .string a1_2] 35)).alloc (.cells #[.int .i64 0, .int .i64 0, .string ⟨#[]⟩] 35)).cell? ⟨w.heap.size + 1 + 1, 0, none⟩ = some (.int .i64 0) := by simp [go_sem]
  have k2_1 : (((w.alloc (.cells #[.int .i64 3, .int .i64 a0_1, .int .i64 a0_2] 27)).alloc (.cells #[.int .i64 a1_0, .int .i64 a1_1, .string a1_2] 35)).alloc (.cells #[.int .i64 0, .int .i64 0, .string ⟨#[]⟩] 35)).cell? ⟨w.heap.size + 1 + 1, 1, none⟩ = some (.int .i64 0) := by simp [go_sem]
  have k2_2 : (((w.alloc (.cells #[.int .i64 3, .int .i64 a0_1, .int .i64 a0_2] 27)).alloc (.cells #[.int .i64 a1_0, .int .i64 a1_1, .string a1_2] 35)).alloc (.cells #[.int .i64 0, .int .i64 0, .string ⟨#[]⟩] 35)).cell? ⟨w.heap.size + 1 + 1, 2, none⟩ = some (.string ⟨#[]⟩) := by simp [go_sem]
  have lt0 : w.heap.size < (((w.alloc (.cells #[.int .i64 3, .int .i64 a0_1, .int .i64 a0_2] 27)).alloc (.cells #[.int .i64 a1_0, .int .i64 a1_1, .string a1_2] 35)).alloc (.cells #[.int .i64 0, .int .i64 0, .string ⟨#[]⟩] 35)).heap.size := by simp only [World.size_alloc]; omega
  have lt1 : w.heap.size + 1 < (((w.alloc (.cells #[.int .i64 3, .int .i64 a0_1, .int .i64 a0_2] 27)).alloc (.cells #[.int .i64 a1_0, .int .i64 a1_1, .string a1_2] 35)).alloc (.cells #[.int .i64 0, .int .i64 0, .string ⟨#[]⟩] 35)).heap.size := by simp only [World.size_alloc]; omega
  have lt2 : w.heap.size + 1 + 1 < (((w.alloc (.cells #[.int .i64 3, .int .i64 a0_1, .int .i64 a0_2] 27)).alloc (.cells #[.int .i64 a1_0, .int .i64 a1_1, .string a1_2] 35)).alloc (.cells #[.int .i64 0, .int .i64 0, .string ⟨#[]⟩] 35)).heap.size := by simp only [World.size_alloc]; omega
  have BK : (((w.alloc (.cells #[.int .i64 3, .int .i64 a0_1, .int .i64 a0_2] 27)).alloc (.cells #[.int .i64 a1_0, .int .i64 a1_1, .string a1_2] 35)).alloc (.cells #[.int .i64 0, .int .i64 0, .string ⟨#[]⟩] 35)).heap[w.heap.size + 1 + 1]? = some (.cells #[.int .i64 0, .int .i64 0, .string ⟨#[]⟩] 35 (0, 0)) := by simpa only [World.size_alloc] using heap_alloc_new ((w.alloc (.cells #[.int .i64 3, .int .i64 a0_1, .int .i64 a0_2] 27)).alloc (.cells #[.int .i64 a1_0, .int .i64 a1_1, .string a1_2] 35)) (.cells #[.int .i64 0, .int .i64 0, .string ⟨#[]⟩] 35)
  generalize ((w.alloc (.cells #[.int .i64 3, .int .i64 a0_1, .int .i64 a0_2] 27)).alloc (.cells #[.int .i64 a1_0, .int .i64 a1_1, .string a1_2] 35)).alloc (.cells #[.int .i64 0, .int .i64 0, .string ⟨#[]⟩] 35) = W at *
  clear k2_0 k2_1 k2_2 lt0 lt1 lt2
  replace k0_0 := cell_regrown k0_0
  replace k0_1 := cell_regrown k0_1
  replace k0_2 := cell_regrown k0_2
  replace k1_0 := cell_regrown k1_0
  replace k1_1 := cell_regrown k1_1
  replace k1_2 := cell_regrown k1_2
  refine wp_region_quiet_below (by kernel_rfl) (by kernel_rfl) ?_
  repeat (first | go_big_quiet_step (first | exact Calls.regrown_of (partition_null.calls 0 0 ⟨#[]⟩ _ rfl)) | quiet_step (first | exact Calls.regrown_of (partition_null.calls 0 0 ⟨#[]⟩ _ rfl)))
  refine wpQuiet_nil ?_
  intro _ hw'
  obtain ⟨⟨dq, osq⟩, hw''⟩ := hw'
  subst hw''
  have hb2 := Lib.hid (below_regrown W dq osq)
  replace k0_0 := k0_0 dq osq
  replace k0_1 := k0_1 dq osq
  replace k0_2 := k0_2 dq osq
  replace k1_0 := k1_0 dq osq
  replace k1_1 := k1_1 dq osq
  replace k1_2 := k1_2 dq osq
  replace BK := blk_below BK hb2.out
  have hB := Lib.hid (below_then hb.out hb.out.size hb2.out)
  clear hb hb2
  generalize Go.Sort.grow (redrawn W dq) osq = W2 at *
  rw [HN.out]
  go_wp2
  have i1 := partition_kinds.at3
  have i2 := partition_kinds.fld3_1
  replace k0_0 := cell_regrown k0_0
  replace k0_1 := cell_regrown k0_1
  replace k0_2 := cell_regrown k0_2
  replace k1_0 := cell_regrown k1_0
  replace k1_1 := cell_regrown k1_1
  replace k1_2 := cell_regrown k1_2
  refine wp_region_quiet_tail_below 8 (by kernel_rfl) (by kernel_rfl) ?_
  simp only [List.take_succ_cons, List.take_zero, List.drop_succ_cons, List.drop_zero]
  repeat (first | go_big_quiet_step (first | exact Calls.regrown_of (partition_kinds.tab _) | exact Calls.regrown_of (HF.out _)) | quiet_step (first | exact Calls.regrown_of (partition_kinds.tab _) | exact Calls.regrown_of (HF.out _)))
  refine wpQuiet_nil ?_
  intro _ hw'
  obtain ⟨⟨dq, osq⟩, hw''⟩ := hw'
  subst hw''
  have hb2 := Lib.hid (below_regrown W2 dq osq)
  replace BK := blk_below BK hb2.out
  replace hB := Lib.hid (below_then hB.out hB.out.size hb2.out)
  clear hb2 k0_0 k0_1 k0_2 k1_0 k1_1 k1_2 i1 i2
  generalize Go.Sort.grow (redrawn W2 dq) osq = W3 at *
  have z0 : W3.cell? ⟨w.heap.size + 1 + 1, 0, none⟩ = some (.int .i64 0) := (blk_cell BK 0).trans rfl
  have f0 := blk_frozen BK 0
  have z1 : W3.cell? ⟨w.heap.size + 1 + 1, 1, none⟩ = some (.int .i64 0) := (blk_cell BK 1).trans rfl
  have f1 := blk_frozen BK 1
  have z2 : W3.cell? ⟨w.heap.size + 1 + 1, 2, none⟩ = some (.string ⟨#[]⟩) := (blk_cell BK 2).trans rfl
  have f2 := blk_frozen BK 2
  go_wp2
  refine bodyPost_ret (results_cell_row rfl _ _ (w.heap.size + 1 + 1) 35 #[.int .i64 r1, .int .i64 r2, .string r3] (0, 0) _ rfl (by refine blk_put (cs := #[.int .i64 r1, .int .i64 r2, .string ⟨#[]⟩]) ?_ 2 _ rfl; refine blk_put (cs := #[.int .i64 r1, .int .i64 0, .string ⟨#[]⟩]) ?_ 1 _ rfl; refine blk_put (cs := #[.int .i64 0, .int .i64 0, .string ⟨#[]⟩]) ?_ 0 _ rfl; exact BK) Tryz.underlying35 rfl (by kernel_rfl)) rfl ⟨rfl, ?_⟩
  exact below_set (below_set (below_set hB.out (by show w.heap.size ≤ w.heap.size + 1 + 1; omega)) (by show w.heap.size ≤ w.heap.size + 1 + 1; omega)) (by show w.heap.size ≤ w.heap.size + 1 + 1; omega)
theorem partition_of.calls (k : Nat) (a0_0 a0_1 a0_2 : Int) (a1_0 a1_1 : Int) (a1_2 : ByteArray) (r1 r2 : Int) (r3 : ByteArray) (w : World) (h : partition_of.f k a0_0 a0_1 a0_2 a1_0 a1_1 a1_2 = some (r1, r2, r3)) :
    Calls Tryz.prog 48 #[.agg #[.int .i64 a0_0, .int .i64 a0_1, .int .i64 a0_2], .agg #[.int .i64 a1_0, .int .i64 a1_1, .string a1_2]] w fun e w' => e = .returned (.agg #[.int .i64 r1, .int .i64 r2, .string r3]) ∧ Below w.heap.size w w' := by
  unfold partition_of.f at h
  cases hn : partition_of.null a1_0 a1_1 a1_2 with
  | true =>
    rw [hn, if_pos rfl] at h
    simp only [Option.some.injEq, Prod.mk.injEq] at h
    obtain ⟨rfl, rfl, rfl⟩ := h
    exact partition_of.isnull _ _ _ _ _ _ _ hn
  | false =>
    rw [hn, if_neg (by decide)] at h
    by_cases h1 : a0_0 = 1
    · subst h1
      rw [if_pos rfl] at h
      exact partition_of.case1 _ _ _ _ _ _ _ _ _ hn (fun w => partition_spec_same.calls _ _ _ _ _ _ _ _ _ w h)
    rw [if_neg h1] at h
    by_cases h2 : a0_0 = 2
    · subst h2
      rw [if_pos rfl] at h
      exact partition_of.case2 _ _ _ _ _ _ _ _ _ hn (fun w => partition_spec_bucket.calls k _ _ _ _ _ _ _ _ _ w h)
    rw [if_neg h2] at h
    by_cases h3 : a0_0 = 3
    · subst h3
      rw [if_pos rfl] at h
      exact partition_of.case3 _ _ _ _ _ _ _ _ _ hn (fun w => partition_spec_trunc.calls _ _ _ _ _ _ _ _ _ w h)
    rw [if_neg h3] at h
    exact absurd h (by simp)
end Go.Proofs.YteflfnjljjianaaGreatDoor.Qx
