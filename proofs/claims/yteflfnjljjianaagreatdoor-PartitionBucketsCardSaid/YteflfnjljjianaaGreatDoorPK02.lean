/- Part of a proof of PartitionBucketsCardSaid: functions of the given program and what they compute, each checked by the kernel. -/
import Derived.Test.YteflfnjljjianaaGreatDoorPK01
import Derived.Laws.StructEq
import Derived.Test.YteflfnjljjianaaGreatDoorProg
import Derived.Below
import Derived.Deep.Draws
import Derived.Deep.AppendLies
import Derived.Maps.AppendAt
import Derived.OwnWalk
import Derived.Laws.BytesArg
import Derived.Laws.MakeOwn
import Derived.Laws.OwnMore
import Derived.Deep.OwnRows
import Derived.Tactics
import Derived.Lib.ConvBytes
import Derived.Laws.Slices
import Derived.WalkKit
import Derived.KernelRfl
import Derived.RowKit3
import Derived.Deep.LoopGhost
import Derived.Deep.QuietTactic
import Derived.BigQuiet
import Derived.WideLaws
import Derived.Deep.DeepCutAuto
import Derived.Deep.CutBlock
import Derived.Deep.RegionHeld3
import Derived.Laws.Rows
import Derived.Lib.AppendStr
import Derived.ArgAppend
import Derived.Laws.IdiomCopy
import Derived.OrdersHeld
import Derived.Laws.BitsLemmas
import Derived.RowKit
import Derived.Laws.Cover1
import Derived.Lib.Hide
import Derived.Lib.QuietBelow
import Derived.Laws.EntriesVeiled
import Derived.StillTail
import Derived.RangeFuncFrom
import Derived.RangeFuncCalls
import Derived.RangeFuncLeaves
import Derived.OwnWalkIn
import Derived.TacticsInMore
import Derived.LoopNIn
import Derived.LoopIn
import Derived.Shelf.RegionOpen
import Derived.Shelf.Abstract
import Derived.Laws.Closers25b
namespace Go.Proofs.YteflfnjljjianaaGreatDoorW.PrintWords
open Go.RowKit
def Foot (P : World → Prop) (W : World) (ok : Nat → Prop) : Prop := ∀ W' : World, (∀ k, ok k → k < W.heap.size → W'.heap[k]? = W.heap[k]?) → P W'
theorem heap_lt {W W1 : World} {k : Nat} (h : W1.heap[k]? = W.heap[k]?) (hlt : k < W.heap.size) : k < W1.heap.size := by
  rw [Array.getElem?_eq_getElem hlt] at h
  exact (Array.getElem?_eq_some_iff.1 h).1
namespace Foot
variable {P Q : World → Prop} {W W1 : World} {ok ok' : Nat → Prop}
theorem now (h : Foot P W ok) : P W := h W (fun _ _ _ => rfl)
theorem mono (h : Foot P W ok) (hok : ∀ k, ok k → ok' k) : Foot P W ok' := fun W' hW => h W' (fun k hk hlt => hW k (hok k hk) hlt)
theorem bound (h : Foot P W ok) : Foot P W (fun k => ok k ∧ k < W.heap.size) := fun W' hW => h W' (fun k hk hlt => hW k ⟨hk, hlt⟩ hlt)
theorem step (h : Foot P W ok) (hm : ∀ k, ok k → k < W.heap.size → W1.heap[k]? = W.heap[k]?) : Foot P W1 ok := fun W' hW => h W' (fun k hk hlt => (hW k hk (heap_lt (hm k hk hlt) hlt)).trans (hm k hk hlt))
theorem old (h : Foot P W ok) (hb : Below W.heap.size W W1) : Foot P W1 (fun k => ok k ∧ k < W.heap.size) := (h.bound).step (fun k _ hlt => hb.block k hlt)
end Foot
namespace Kd
def F {α : Type} (d : Kd α) (W : World) (ok : Nat → Prop) (A : Option Addr) (n : Nat) (xs : List α) : Prop := Foot (fun W => d.C W A n xs) W ok
def FK {α : Type} (d : Kd α) (W : World) (ok : Nat → Prop) (x : α) (c : List Value) : Prop := Foot (fun W => d.K W x c) W ok
section
variable {α β : Type} {d : Kd α} {e base n n' cc g N : Nat} {ok ok' okp S : Nat → Prop} {w w0 w1 W W1 : World} {A A' : Option Addr} {u v v1 : Value} {xs : List α} {xs' : List β} {d' : Kd β} {x : α} {c : List Value}
theorem F_now (h : F d W ok A n xs) : d.C W A n xs := Foot.now h
theorem F_mono (h : F d W ok A n xs) (hok : ∀ k, ok k → ok' k) : F d W ok' A n xs := Foot.mono h hok
theorem F_bound (h : F d W ok A n xs) : F d W (fun k => ok k ∧ k < W.heap.size) A n xs := Foot.bound h
theorem F_step (h : F d W ok A n xs) (hm : ∀ k, ok k → k < W.heap.size → W1.heap[k]? = W.heap[k]?) : F d W1 ok A n xs := Foot.step h hm
theorem F_below (h : F d W ok A n xs) (hb : Below W.heap.size W W1) : F d W1 ok A n xs := F_step h (fun k _ hlt => hb.block k hlt)
theorem F_alloc (h : F d W ok A n xs) (o : Obj) : F d (W.alloc o) ok A n xs := F_below h (below_alloc (Below.refl _ _) o)
theorem F_drew (h : F d W ok A n xs) : F d W.drew ok A n xs := F_below h (below_drew (Below.refl _ _))
theorem F_elder' (h : F d W ok A n xs) (hbase : ∀ k, v.ownBlock = some k → W.heap.size ≤ k) (hb : Below W.heap.size W W1) : F d W1 (fun k => ok k ∧ some k ≠ v.ownBlock) A n xs :=
  F_mono (Foot.old h hb) (fun k hk => ⟨hk.1, fun he => by have := hbase k he.symm; have := hk.2; omega⟩)
theorem F_elderB (h : F d W ok A n xs) (a : Nat) (ha : W.heap.size ≤ a) : F d W (fun k => ok k ∧ k ≠ a) A n xs := F_mono (F_bound h) (fun k hk => ⟨hk.1, by have := hk.2; omega⟩)
theorem F_after (h : F d W (fun k => ok k ∧ some k ≠ v.ownBlock) A n xs) (hg : W.grownBy W1 v.ownBlock) (hat : v1.ownBlock = v.ownBlock ∨ ∃ b, v1.ownBlock = some b ∧ W.heap.size ≤ b) : F d W1 (fun k => ok k ∧ some k ≠ v1.ownBlock) A n xs := by
  refine F_mono (Foot.step (F_bound h) (fun k hk hlt => hg.block k hlt hk.1.2)) (fun k hk => ⟨hk.1.1, ?_⟩)
  rcases hat with hat | ⟨b, hb, hle⟩
  · rw [hat]; exact hk.1.2
  · rw [hb]
    intro he
    injection he with he
    have := hk.2
    omega
theorem R_F (h : d.R e W base ok (.slice A n cc) xs) : F d W ok A n xs := fun W' hW => by
  have h2 := R_reads' (R_step h hW)
  rw [h2.1]
  exact h2.2.2
theorem FK_now (h : FK d W ok x c) : d.K W x c := Foot.now h
theorem FK_mono (h : FK d W ok x c) (hok : ∀ k, ok k → ok' k) : FK d W ok' x c := Foot.mono h hok
theorem FK_bound (h : FK d W ok x c) : FK d W (fun k => ok k ∧ k < W.heap.size) x c := Foot.bound h
theorem FK_step (h : FK d W ok x c) (hm : ∀ k, ok k → k < W.heap.size → W1.heap[k]? = W.heap[k]?) : FK d W1 ok x c := Foot.step h hm
theorem emptied (W : World) (g : Nat) : ∃ W' : World, (∀ k, k ≠ g → W'.heap[k]? = W.heap[k]?) ∧ ∀ a : Addr, a.block = g → W'.cell? a = none := by
  refine ⟨{ W with heap := W.heap.setIfInBounds g (.cells #[] 0) }, fun k hk => by simp [Ne.symm hk], fun a ha => ?_⟩
  subst ha
  by_cases hlt : a.block < W.heap.size
  · simp [World.cell?, hlt]
  · simp [World.cell?, hlt]
end
end Kd
end Go.Proofs.YteflfnjljjianaaGreatDoorW.PrintWords
namespace Go.Proofs.YteflfnjljjianaaGreatDoorW.PrintWords
open Go.RowKit
namespace Kd
def chunks (sz : Nat) (n : Nat) (inner : List Value) : List (List Value) := (List.range n).map fun j => (inner.drop (j * sz)).take sz
theorem chunks_length (sz n : Nat) (inner : List Value) : (chunks sz n inner).length = n := by simp [chunks]
theorem chunks_at {sz n : Nat} {inner : List Value} {j : Nat} (hj : j < n) : (chunks sz n inner)[j]? = some ((inner.drop (j * sz)).take sz) := by simp [chunks, hj]
theorem chunks_get {sz n : Nat} {inner : List Value} {j : Nat} {c : List Value} (h : (chunks sz n inner)[j]? = some c) : c = (inner.drop (j * sz)).take sz := by
  have hj : j < n := by have := (List.getElem?_eq_some_iff.1 h).1; rwa [chunks_length] at this
  rw [chunks_at hj] at h
  injection h with h
  exact h.symm
theorem reps_raw {α : Type} {Rr : α → List Value → Prop} {sz : Nat} {xs : List α} {inner : List Value} (h : Reps Rr sz xs inner) (hR : ∀ x c, Rr x c → c.length = sz ∧ ∀ u ∈ c, u.oneCell' = true) : Reps (fun x cs => cs = x ∧ cs.length = sz ∧ ∀ u ∈ cs, u.oneCell' = true) sz (chunks sz xs.length inner) inner := by
  refine ⟨by rw [chunks_length]; exact h.1, fun j p hj => ?_⟩
  have hjl : j < xs.length := by have := (List.getElem?_eq_some_iff.1 hj).1; rwa [chunks_length] at this
  have hp := chunks_get hj
  exact ⟨hp.symm, hR _ _ (h.2 j _ (List.getElem?_eq_getElem hjl))⟩
section
variable {α : Type} {d : Kd α} {e base n cc g : Nat} {ok ok' okp S : Nat → Prop} {w w1 W W1 : World} {A : Option Addr} {u v v1 : Value} {xs : List α} {x : α} {c : List Value}
theorem F_get (h : F d W ok A n xs) (z : α) (i : Int) (h0 : 0 ≤ i) (h1 : i < n) :
    ∃ ad c, A = some ad ∧ c.length = d.sz ∧ FK d W ok (xs.getD i.toNat z) c ∧ (∀ j u, c[j]? = some u → W.cell? (ad.add (i.toNat * d.sz + j)) = some u) ∧ (0 < d.sz → ok ad.block) := by
  obtain ⟨ad, c, rfl, hcl, hK, hcc⟩ := C_get (F_now h) z i h0 h1
  have hin : 0 < d.sz → ok ad.block := by
    intro hs
    by_cases hk : ok ad.block
    · exact hk
    · obtain ⟨W', h2, h3⟩ := emptied W ad.block
      obtain ⟨ad', c', he, hcl', _, hcc'⟩ := C_get (h W' (fun k hk' _ => h2 k (fun e => hk (e ▸ hk')))) z i h0 h1
      injection he with he
      subst he
      have h4 := hcc' 0 _ (List.getElem?_eq_getElem (by omega))
      rw [h3 _ (add_block _ _)] at h4
      cases h4
  refine ⟨ad, c, rfl, hcl, fun W' hW => ?_, hcc, hin⟩
  obtain ⟨ad', c', he, hcl', hK', hcc'⟩ := C_get (h W' hW) z i h0 h1
  injection he with he
  subst he
  have hc : c = c' := by
    apply List.ext_getElem?
    intro j
    by_cases hj : j < d.sz
    · have hb : W'.heap[ad.block]? = W.heap[ad.block]? := by
        have h5 := hcc j _ (List.getElem?_eq_getElem (by omega))
        have h6 := World.block_lt_of_cell? W _ h5
        rw [add_block] at h6
        exact hW _ (hin (by omega)) h6
      have h5 := hcc j _ (List.getElem?_eq_getElem (by omega))
      have h6 := hcc' j _ (List.getElem?_eq_getElem (by omega))
      have h7 : W'.cell? (ad.add (i.toNat * d.sz + j)) = W.cell? (ad.add (i.toNat * d.sz + j)) := by simp [World.cell?, add_block, hb]
      rw [h7, h5] at h6
      rw [List.getElem?_eq_getElem (by omega), List.getElem?_eq_getElem (by omega)]
      exact h6
    · rw [List.getElem?_eq_none (by omega), List.getElem?_eq_none (by omega)]
  rw [hc]
  exact hK'
theorem F_rows (h : F d W ok A n xs) : ReadsRow (fun x c => FK d W ok x c) d.sz W A n xs := by
  obtain ⟨hl, hm, hn⟩ := F_now h
  refine ⟨hl, hm, fun hp => ?_⟩
  obtain ⟨ad, rfl, _⟩ := hn hp
  refine ⟨ad, rfl, fun j p hj => ?_⟩
  obtain ⟨hjl, hjp⟩ := List.getElem?_eq_some_iff.1 hj
  obtain ⟨ad', c, he, hcl, hK, hcc, _⟩ := F_get h p (j : Int) (by omega) (by omega)
  injection he with he
  subst he
  simp only [Int.toNat_natCast] at hK hcc
  rw [List.getD_eq_getElem?_getD, hj] at hK
  exact ⟨c, hcl, hK, hcc⟩
def N {α : Type} (d : Kd α) (e : Nat) (w : World) (base : Nat) (ok : Nat → Prop) (v : Value) (xs : List α) : Prop :=
  (∀ k, v.ownBlock = some k → ok k) ∧ ∃ rows : List (List Value), rows.length = xs.length ∧ (raw d.sz).R e w base (fun k => some k = v.ownBlock) v rows ∧ ∀ (j : Nat) (x : α) (c : List Value), xs[j]? = some x → rows[j]? = some c → FK d w (fun k => ok k ∧ some k ≠ v.ownBlock) x c
theorem raw_tight {sz : Nat} {rows : List (List Value)} (h : (raw sz).R e w base ok v rows) : (raw sz).R e w base (fun k => some k = v.ownBlock) v rows := R_tight rfl h
theorem raw_any {sz : Nat} {rows : List (List Value)} (h : (raw sz).R e w base ok v rows) : (raw sz).R e w base (fun _ => True) v rows := R_mono h (fun _ _ => trivial)
theorem N_mono (h : N d e w base ok v xs) (hok : ∀ k, ok k → ok' k) : N d e w base ok' v xs := by
  obtain ⟨h0, rows, hl, hR, hf⟩ := h
  exact ⟨fun k hk => hok k (h0 k hk), rows, hl, hR, fun j x c hx hc => FK_mono (hf j x c hx hc) (fun k hk => ⟨hok k hk.1, hk.2⟩)⟩
theorem N_lt (h : N d e w base ok v xs) : ∀ k, v.ownBlock = some k → k < w.heap.size := by
  obtain ⟨_, rows, _, hR, _⟩ := h
  exact R_lt hR
theorem N_base (h : N d e w base ok v xs) : ∀ k, v.ownBlock = some k → base ≤ k := by
  obtain ⟨_, rows, _, hR, _⟩ := h
  exact R_base hR
theorem N_away (h : N d e w base ok v xs) (hok : ∀ k, ok k → k ≠ g) : some g ≠ v.ownBlock := fun he => hok g (h.1 g he.symm) rfl
theorem N_bound (h : N d e w base ok v xs) : N d e w base (fun k => ok k ∧ k < w.heap.size) v xs := by
  have hlt := N_lt h
  obtain ⟨h0, rows, hl, hR, hf⟩ := h
  exact ⟨fun k hk => ⟨h0 k hk, hlt k hk⟩, rows, hl, hR, fun j x c hx hc => FK_mono (FK_bound (hf j x c hx hc)) (fun k hk => ⟨⟨hk.1.1, hk.2⟩, hk.1.2⟩)⟩
theorem N_lower {base' : Nat} (h : N d e w base ok v xs) (hb : base' ≤ base) : N d e w base' ok v xs := by
  obtain ⟨h0, rows, hl, hR, hf⟩ := h
  exact ⟨h0, rows, hl, R_lower hR hb, hf⟩
theorem N_step (h : N d e w base ok v xs) (hm : ∀ k, ok k → k < w.heap.size → w1.heap[k]? = w.heap[k]?) : N d e w1 base ok v xs := by
  obtain ⟨h0, rows, hl, hR, hf⟩ := h
  exact ⟨h0, rows, hl, R_step hR (fun k hk hlt => hm k (h0 k hk.symm) hlt), fun j x c hx hc => FK_step (hf j x c hx hc) (fun k hk hlt => hm k hk.1 hlt)⟩
theorem N_below (h : N d e w base ok v xs) (hb : Below w.heap.size w w1) : N d e w1 base ok v xs := N_step h (fun k _ hk => hb.block k hk)
theorem N_elder' (h : N d e W base ok v xs) (hbase : ∀ k, u.ownBlock = some k → W.heap.size ≤ k) (hb : Below W.heap.size W w1) : N d e w1 base (fun k => ok k ∧ some k ≠ u.ownBlock) v xs :=
  N_mono (N_below (N_bound h) hb) (fun k hk => ⟨hk.1, fun he => by have := hbase k he.symm; have := hk.2; omega⟩)
theorem N_after (h : N d e W base (fun k => ok k ∧ some k ≠ u.ownBlock) v xs) {u1 : Value} (hg : W.grownBy w1 u.ownBlock) (hat : u1.ownBlock = u.ownBlock ∨ ∃ b, u1.ownBlock = some b ∧ W.heap.size ≤ b) : N d e w1 base (fun k => ok k ∧ some k ≠ u1.ownBlock) v xs := by
  refine N_mono (N_step (N_bound h) (fun k hk hlt => hg.block k hlt hk.1.2)) (fun k hk => ⟨hk.1.1, ?_⟩)
  rcases hat with hat | ⟨b, hb, hle⟩
  · rw [hat]; exact hk.1.2
  · rw [hb]
    intro he
    injection he with he
    have := hk.2
    omega
theorem N_slice (h : N d e w base ok v xs) : ∃ A c, v = .slice A xs.length c := by
  obtain ⟨_, rows, hl, hR, _⟩ := h
  obtain ⟨A, c, he⟩ := R_slice hR
  exact ⟨A, c, by rw [he, hl]⟩
theorem N_reads' {n c : Nat} (h : N d e w base ok (.slice A n c) xs) : n = xs.length ∧ n ≤ c ∧ d.C w A xs.length xs := by
  obtain ⟨_, rows, hl, hR, hf⟩ := h
  obtain ⟨hn, hc, hC⟩ := R_reads' hR
  refine ⟨by omega, hc, ?_⟩
  rw [hl] at hC
  refine ⟨rfl, hC.2.1, fun hp => ?_⟩
  obtain ⟨ad, he, hcell⟩ := hC.2.2 hp
  refine ⟨ad, he, fun j p hj => ?_⟩
  have hjl : j < rows.length := by have := (List.getElem?_eq_some_iff.1 hj).1; omega
  obtain ⟨c', hcl, hK, hcc⟩ := hcell j _ (List.getElem?_eq_getElem hjl)
  have hk := FK_now (hf j p _ hj (List.getElem?_eq_getElem hjl))
  refine ⟨c', hcl, ?_, hcc⟩
  rw [show c' = rows[j] from hK.1]
  exact hk
theorem N_F {n : Nat} (h : N d e w base ok (.slice A n cc) xs) : F d w ok A n xs := fun W' hW => by
  have h2 := N_reads' (N_step h hW)
  rw [h2.1]
  exact h2.2.2
end
end Kd
end Go.Proofs.YteflfnjljjianaaGreatDoorW.PrintWords
namespace Go.Proofs.YteflfnjljjianaaGreatDoorW.PrintWords
open Go.RowKit
namespace Kd
section
variable {α : Type} {d : Kd α} {W : World} {g n : Nat} {S ok : Nat → Prop} {A : Option Addr} {ad : Addr} {xs : List α}
end
end Kd
end Go.Proofs.YteflfnjljjianaaGreatDoorW.PrintWords
namespace Go.Proofs.YteflfnjljjianaaGreatDoorW.PrintWords
open Go.RowKit
section
variable {w w' u : World} {m B g : Nat} {o : Obj} {row : Option Nat} {S : Nat → Prop} {a : Addr} {v : Value}
end
namespace Kd
section
variable {α : Type} {d : Kd α} {e base n m : Nat} {ok : Nat → Prop} {w w' : World} {v : Value} {A : Option Addr} {xs : List α}
end
end Kd
end Go.Proofs.YteflfnjljjianaaGreatDoorW.PrintWords
namespace Go.Proofs.YteflfnjljjianaaGreatDoorW.PrintWords
open Go.RowKit
section
variable {P : Program} {d : Nat} {xs ys : Array Value} {f : Field} {fs : List Field} {a b : Value} {r s : Bool} {w : World}
theorem eqf_last (hn : (f.name == "_") = false) (ha : (part f.type xs f.offset).run P w = .ok a w) (hb : (part f.type ys f.offset).run P w = .ok b w) (he : (Op.equalIn d f.type a b).run P w = .ok r w) : (Op.eqFields d xs ys [f]).run P w = .ok r w := by
  have hn' : f.name ≠ "_" := by simpa using hn
  simp only [Op.eqFields, if_pos hn', Sem.run_bind, ha, hb, he, Result.andThen_ok]
  cases r <;> simp
theorem eqf_cons (hn : (f.name == "_") = false) (ha : (part f.type xs f.offset).run P w = .ok a w) (hb : (part f.type ys f.offset).run P w = .ok b w) (he : (Op.equalIn d f.type a b).run P w = .ok r w) (hr : (Op.eqFields d xs ys fs).run P w = .ok s w) : (Op.eqFields d xs ys (f :: fs)).run P w = .ok (r && s) w := by
  have hn' : f.name ≠ "_" := by simpa using hn
  rw [Op.eqFields]
  simp only [if_pos hn', Sem.run_bind, ha, hb, he, Result.andThen_ok]
  cases r
  · simp
  · simpa using hr
theorem eqA_of {t : TypeId} {fs : Array Field} (hu : P.underlying t = some (.struct fs)) (hp : P.stoodInHeld t = false) (h : (Op.eqFields d xs ys fs.toList).run P w = .ok r w) : (Op.equalIn (d + 1) t (.agg xs) (.agg ys)).run P w = .ok r w := by
  have hf : P.fieldsOf t = fs := by simp [Program.fieldsOf, hu]
  rw [run_equalIn_struct (P := P) w d t xs ys (by rw [hf]; exact hu) hp, hf]
  exact h
end
end Go.Proofs.YteflfnjljjianaaGreatDoorW.PrintWords
namespace Go.Proofs.YteflfnjljjianaaGreatDoorW.PrintWords
theorem Reps.one {α : Type} {R : α → List Value → Prop} {ps : List α} {cs : List Value} {p : α} {v : Value} (hp : R p [v]) (h : Reps R 1 ps cs) : Reps R 1 (p :: ps) (v :: cs) := by
  refine ⟨by simp [h.1], fun j q hq => ?_⟩
  cases j with
  | zero =>
    simp only [List.getElem?_cons_zero, Option.some.injEq] at hq
    subst hq
    simpa using hp
  | succ j =>
    simp only [List.getElem?_cons_succ] at hq
    have h1 := h.2 j q hq
    simpa [Nat.mul_one] using h1
theorem Reps.front {α : Type} {R : α → List Value → Prop} {size : Nat} {ps : List α} {cs c all : List Value} {p : α} (hp : R p c) (hc : c.length = size) (h : Reps R size ps cs) (ha : c ++ cs = all) : Reps R size (p :: ps) all := by
  subst ha
  refine ⟨by rw [List.length_append, hc, h.1, List.length_cons, Nat.succ_mul, Nat.add_comm], fun j q hq => ?_⟩
  cases j with
  | zero =>
    simp only [List.getElem?_cons_zero, Option.some.injEq] at hq
    subst hq
    rw [Nat.zero_mul, List.drop_zero, List.take_append_of_le_length (by omega), List.take_of_length_le (by omega)]
    exact hp
  | succ j =>
    simp only [List.getElem?_cons_succ] at hq
    have h1 := h.2 j q hq
    rw [Nat.succ_mul, List.drop_append, List.drop_of_length_le (by rw [hc]; exact Nat.le_add_left _ _), List.nil_append, hc, Nat.add_sub_cancel]
    exact h1
theorem Reps.c6 {α : Type} {R : α → List Value → Prop} {ps : List α} {cs : List Value} {p : α} {va vb vc vd ve vf : Value} (hp : R p [va, vb, vc, vd, ve, vf]) (h : Reps R 6 ps cs) : Reps R 6 (p :: ps) (va :: vb :: vc :: vd :: ve :: vf :: cs) := Reps.front hp rfl h rfl
end Go.Proofs.YteflfnjljjianaaGreatDoorW.PrintWords
namespace Go.Proofs.YteflfnjljjianaaGreatDoorW.PrintLast
section
variable {P : Program} {ops : Array Oper} {Q : Exit → Act → World → Prop} {md : Region.Mode} {T : Bool × List (List Nat × List Nat)} {B : List Nat} {O : List Nat} {b : Nat → Bool} {i j n : Nat}
end
end Go.Proofs.YteflfnjljjianaaGreatDoorW.PrintLast
namespace Go.Proofs.YteflfnjljjianaaGreatDoorW.PrintWords
open Go.RowKit
end Go.Proofs.YteflfnjljjianaaGreatDoorW.PrintWords
namespace Go.Proofs.YteflfnjljjianaaGreatDoorW.PrintLast
section
variable {ops : Array Oper} {a : Act} {o og : Oper} {g : Nat} {t : Tmp} {u : Bool}
end
end Go.Proofs.YteflfnjljjianaaGreatDoorW.PrintLast
namespace Go.Proofs.YteflfnjljjianaaGreatDoorW.PrintWords
open Go.RowKit
section
variable {P : Program} {ops : Array Oper} {rest : List Oper} {o : Oper} {a : Act} {Q : Exit → Act → World → Prop} {W : World}
theorem gate_guard (hw : Region.wanted o (yielded ops a.tmps) = true) (h : wpList P ops Q ({ o with guard := none } :: rest) a W) : wpList P ops Q (o :: rest) a W := by
  have h1 : Region.wanted { o with guard := none } (yielded ops a.tmps) = true := rfl
  unfold wpList at h ⊢
  rw [if_pos h1] at h
  rw [if_pos hw]
  exact h
end
end Go.Proofs.YteflfnjljjianaaGreatDoorW.PrintWords
namespace Go.Proofs.YteflfnjljjianaaGreatDoorW.PrintWords
open Go.RowKit
namespace Kd
section
variable {α : Type} {d : Kd α} {e base n cap g : Nat} {ok ok' okp : Nat → Prop} {w w1 W : World} {v v1 : Value} {xs ys : List α}
theorem N_appended {rows news : List (List Value)} (h0 : ∀ k, v.ownBlock = some k → ok k) (hl : rows.length = xs.length) (hf : ∀ (j : Nat) (x : α) (c : List Value), xs[j]? = some x → rows[j]? = some c → FK d W (fun k => ok k ∧ some k ≠ v.ownBlock) x c)
    (hl2 : news.length = ys.length) (hf2 : ∀ (j : Nat) (x : α) (c : List Value), ys[j]? = some x → news[j]? = some c → FK d W okp x c) (hokp : ∀ k, okp k → ok k ∧ some k ≠ v.ownBlock) (hfresh : ∀ k, W.heap.size ≤ k → ok k)
    (hR : (raw d.sz).R e w1 base (fun _ => True) v1 (rows ++ news)) (hg : W.grownBy w1 v.ownBlock) (hat : v1.ownBlock = v.ownBlock ∨ ∃ b, v1.ownBlock = some b ∧ W.heap.size ≤ b) : N d e w1 base ok v1 (xs ++ ys) := by
  have hne : ∀ k, some k ≠ v.ownBlock → k < W.heap.size → some k ≠ v1.ownBlock := by
    intro k hk hlt
    rcases hat with hat | ⟨b, hb, hle⟩
    · rw [hat]; exact hk
    · rw [hb]
      intro he
      injection he with he
      omega
  have step : ∀ {x : α} {c : List Value} {o : Nat → Prop}, FK d W o x c → (∀ k, o k → ok k ∧ some k ≠ v.ownBlock) → FK d w1 (fun k => ok k ∧ some k ≠ v1.ownBlock) x c := by
    intro x c o hq ho
    exact FK_mono (FK_step (FK_bound hq) (fun k hk hlt => hg.block k hlt (ho k hk.1).2)) (fun k hk => ⟨(ho k hk.1).1, hne k (ho k hk.1).2 hk.2⟩)
  refine ⟨fun k hk => ?_, rows ++ news, by rw [List.length_append, List.length_append, hl, hl2], raw_tight hR, fun j x c hx hc => ?_⟩
  · rcases hat with hat | ⟨b, hb, hle⟩
    · exact h0 k (hat ▸ hk)
    · rw [hb] at hk
      injection hk with hk
      exact hfresh k (by omega)
  · rcases Nat.lt_or_ge j xs.length with hlt | hge
    · rw [List.getElem?_append_left hlt] at hx
      rw [List.getElem?_append_left (by omega)] at hc
      exact step (hf j x c hx hc) (fun _ hk => hk)
    · rw [List.getElem?_append_right hge] at hx
      rw [List.getElem?_append_right (by omega), hl] at hc
      exact step (hf2 _ x c hx hc) hokp
theorem N_made {rows : List (List Value)} (hR : (raw d.sz).R e w1 base (fun k => k = W.heap.size) v1 rows) (hg : W.grownBy w1 none) (hat : ∃ b, v1.ownBlock = some b ∧ W.heap.size ≤ b) (hl : rows.length = xs.length) (hf : ∀ (j : Nat) (x : α) (c : List Value), xs[j]? = some x → rows[j]? = some c → FK d W okp x c)
    (hok : ∀ k, okp k → ok k) (hfresh : ok W.heap.size) : N d e w1 base ok v1 xs := by
  obtain ⟨b, hb, hle⟩ := hat
  refine ⟨fun k hk => by rw [hR.1 k hk]; exact hfresh, rows, hl, raw_tight hR, fun j x c hx hc => ?_⟩
  refine FK_mono (FK_step (FK_bound (hf j x c hx hc)) (fun k hk hlt => hg.block k hlt (by simp))) (fun k hk => ⟨hok k hk.1, fun he => ?_⟩)
  rw [hb] at he
  injection he with he
  have := hk.2
  omega
theorem reads_raw {Rr : α → List Value → Prop} {sz m : Nat} {A : Option Addr} (h : ReadsRow Rr sz W A m ys) (hR : ∀ x c, Rr x c → c.length = sz ∧ ∀ u ∈ c, u.oneCell' = true) :
    ∃ news : List (List Value), news.length = ys.length ∧ ReadsRow (fun x cs => cs = x ∧ cs.length = sz ∧ ∀ u ∈ cs, u.oneCell' = true) sz W A m news ∧ ∀ (j : Nat) (x : α) (c : List Value), ys[j]? = some x → news[j]? = some c → Rr x c := by
  rcases Nat.eq_zero_or_pos m with h0 | hp
  · have hy : ys = [] := List.eq_nil_of_length_eq_zero (h.1.trans h0)
    subst hy
    exact ⟨[], rfl, ⟨h0 ▸ rfl, h.2.1, fun hp => by omega⟩, fun j x c hx => by simp at hx⟩
  · obtain ⟨ad, rfl, _⟩ := h.2.2 hp
    obtain ⟨inner, hr, hc⟩ := ReadsRow.inner_ h
    refine ⟨chunks sz ys.length inner, chunks_length _ _ _, ⟨by rw [chunks_length]; exact h.1, h.2.1, fun _ => ⟨ad, rfl, fun j p hj => ?_⟩⟩, fun j x c hx hcc => ?_⟩
    · have hjl : j < ys.length := by have := (List.getElem?_eq_some_iff.1 hj).1; rwa [chunks_length] at this
      have hpe := chunks_get hj
      have hq := hR _ _ (hr.2 j _ (List.getElem?_eq_getElem hjl))
      rw [← hpe] at hq
      refine ⟨p, hq.1, ⟨rfl, hq⟩, fun i u hu => ?_⟩
      have hu2 : inner[j * sz + i]? = some u := by
        rw [hpe, List.getElem?_take] at hu
        split at hu
        · rw [List.getElem?_drop] at hu
          exact hu
        · cases hu
      exact hc _ u hu2
    · rw [chunks_get hcc]
      exact hr.2 j x hx
end
section
variable {P : Program} {ops : Array Oper} {rest : List Oper} {o : Oper} {a : Act} {Q : Exit → Act → World → Prop} {Kc : Act → World → Prop} {α : Type}
theorem N_append_rows_step (d : Kd α) {w0 W : World} (base : Nat) (hw : Region.wanted o (yielded ops a.tmps) = true) (s x : Operand) (t e : TypeId) (z : Value) (bytes : Nat)
    (ho : o.op = .call { callee := .builtin .append, args := #[s, x], argTypes := #[t, t] })
    (ht : P.underlying t = some (.slice e)) (hinfo : (P.info? e).map (fun i => (i.zero, i.size, i.bytes)) = some (some z, d.sz, bytes)) (hz : z.cells.size = d.sz) (hs0 : 0 < d.sz) (hb0 : 0 < bytes)
    (v : Value) (xs ys : List α) (A : Option Addr) (m c : Nat) (ok okp : Nat → Prop) (hs : a.eval s = v) (hx : a.eval x = .slice A m c)
    (HO : N d e W base ok v xs) (HR : F d W okp A m ys) (hokp : ∀ k, okp k → ok k ∧ some k ≠ v.ownBlock) (hfresh : ∀ k, W.heap.size ≤ k → ok k)
    (HB : Below base w0 W) (hbase : base ≤ W.heap.size) (hl : (xs.length + m) * bytes ≤ 140737488355328)
    (h : ∀ v1 w1, N d e w1 base ok v1 (xs ++ ys) → Below base w0 w1 → W.grownBy w1 v.ownBlock → (v1.ownBlock = v.ownBlock ∨ ∃ b, v1.ownBlock = some b ∧ W.heap.size ≤ b) → Kc (a.put o.dst v1) w1) :
    if Region.wanted o (yielded ops a.tmps) = true then Oper.wp P o a W Kc Q else Kc (a.put o.dst undef) W := by
  obtain ⟨h0, rows, hlr, hR, hf⟩ := HO
  obtain ⟨news, hnl, hnr, hnf⟩ := reads_raw (F_rows HR) (fun y c hk => ⟨d.K_len (FK_now hk), d.K_one (FK_now hk)⟩)
  refine R_append_rows_step (raw d.sz) base hw s x t e z bytes ho ht hinfo hz hs0 hb0 v rows news A m c (fun _ => True) (fun _ => False) hs hx (raw_any hR) hnr (fun _ _ hk => hk) (fun _ hk => hk.elim) (fun _ _ => trivial) HB hbase (by rw [hlr]; exact hl) ?_
  intro v1 w1 hr hb hg hat
  exact h v1 w1 (N_appended h0 hlr hf hnl hnf hokp hfresh hr hg hat) hb hg hat
theorem N_lit (d : Kd α) {w0 W : World} (base e : Nat) (hgd : o.guard = none) {N' : Tmp} (_hd : o.dst = some N') {xs : List α} {inner : List Value} {ok okp : Nat → Prop}
    (hrun : (execOp a.eval o).run P W = .ok (.value (.slice (some ⟨W.heap.size, 0, none⟩) xs.length xs.length)) (W.alloc (.cells inner.toArray e)))
    (hrep : Reps (FK d W okp) d.sz xs inner) (hok : ∀ k, okp k → ok k) (hfresh : ok W.heap.size) (HB : Below base w0 W) (hbase : base ≤ W.heap.size) (hm : xs.length ≤ 9223372036854775807)
    (h : ∀ v1 w1, N d e w1 base ok v1 xs → Below base w0 w1 → W.grownBy w1 none → (∃ b, v1.ownBlock = some b ∧ W.heap.size ≤ b) → wpList P ops Q rest (a.put o.dst v1) w1) :
    wpList P ops Q (o :: rest) a W := by
  refine R_lit (raw d.sz) base e hgd _hd (xs := chunks d.sz xs.length inner) (inner := inner) (ok := fun k => k = W.heap.size) (okp := fun _ => False) (by rw [chunks_length]; exact hrun) (reps_raw hrep (fun y c hk => ⟨d.K_len (FK_now hk), d.K_one (FK_now hk)⟩)) (fun _ hk => hk.elim) rfl HB hbase (by rw [chunks_length]; exact hm) ?_
  intro v1 w1 hr hb hg hat
  exact h v1 w1 (N_made hr hg hat (chunks_length _ _ _) (fun j y c hy hc => by rw [chunks_get hc]; exact hrep.2 j y hy) hok hfresh) hb hg hat
end
end Kd
end Go.Proofs.YteflfnjljjianaaGreatDoorW.PrintWords
namespace Go.Proofs.YteflfnjljjianaaGreatDoorW.PrintMore
open Go.RowKit Go.Proofs.YteflfnjljjianaaGreatDoorW.PrintWords
namespace Kd
open Go.Proofs.YteflfnjljjianaaGreatDoorW.PrintWords.Kd
end Kd
namespace Kd
open Go.Proofs.YteflfnjljjianaaGreatDoorW.PrintWords.Kd
section
variable {α : Type} {d : Kd α} {e base g N : Nat} {ok : Nat → Prop} {W w1 : World} {u v : Value} {xs : List α}
end
end Kd
theorem max2_int (k k' : IntKind) (x y : Int) : Builtin.max2 (.int k x) (.int k' y) = pure (.int k (if x < y then y else x)) := by simp only [Builtin.max2, gt_iff_lt]
theorem min2_int (k k' : IntKind) (x y : Int) : Builtin.min2 (.int k x) (.int k' y) = pure (.int k (if y < x then y else x)) := by simp only [Builtin.min2]
theorem max_two (ats : Array TypeId) (ty : TypeId) (a b : Value) : Builtin.max_ ats ty #[a, b] = (Builtin.max2 a b >>= fun s => pure s) := by simp only [Builtin.max_, List.foldlM_cons, List.foldlM_nil]
theorem min_two (ats : Array TypeId) (ty : TypeId) (a b : Value) : Builtin.min_ ats ty #[a, b] = (Builtin.min2 a b >>= fun s => pure s) := by simp only [Builtin.min_, List.foldlM_cons, List.foldlM_nil]
end Go.Proofs.YteflfnjljjianaaGreatDoorW.PrintMore
namespace Go.Proofs.YteflfnjljjianaaGreatDoorW.PrintWords
open Go.RowKit
section
variable {P : Program} {ops : Array Oper} {rest : List Oper} {o : Oper} {a : Act} {Q : Exit → Act → World → Prop} {W : World}
theorem gate_callee {f : FuncId} {as0 : Array Operand} {ts : Array TypeId} (_ho : o.op = .call { callee := .value (.func f), args := as0, argTypes := ts }) (h : wpList P ops Q (o :: rest) a W) : wpList P ops Q (o :: rest) a W := h
end
def mx (a b : Int) : Int := if a < b then b else a
def mn (a b : Int) : Int := if b < a then b else a
theorem drewN_self (w : World) (n : Nat) : w.drewN n = w.drewN n := rfl
namespace Kd
section
variable {α : Type} {d : Kd α} {e base : Nat} {ok : Nat → Prop} {W w1 : World} {v : Value} {xs : List α}
end
section
variable {α : Type} {d : Kd α} {e base g n cap : Nat} {ok oki okp : Nat → Prop} {W : World} {xs : List α} {i : Int} {c : List Value}
end
section
variable {α : Type} {d : Kd α} {e base b b' g N : Nat} {ok ok1 : Nat → Prop} {W W2 w1 : World} {u v : Value} {xs ys : List α} {S : Nat → Prop}
end
end Kd
end Go.Proofs.YteflfnjljjianaaGreatDoorW.PrintWords
namespace Go.Proofs.YteflfnjljjianaaGreatDoorW.PrintWords
open Go.RowKit
namespace Kd
def V {α : Type} (d : Kd α) (_e : Nat) (W : World) (_base : Nat) (ok : Nat → Prop) (v : Value) (xs : List α) : Prop := ∃ A c, v = .slice A xs.length c ∧ xs.length ≤ c ∧ F d W ok A xs.length xs
section
variable {α β : Type} {d : Kd α} {e base base' n m c g N' lo hi : Nat} {ok ok' S : Nat → Prop} {w W w1 : World} {A : Option Addr} {ad : Addr} {u v v1 : Value} {xs : List α}
theorem V_map (h : V d e W base ok v xs) (hF : ∀ A, F d W ok A xs.length xs → F d w1 ok' A xs.length xs) : V d e w1 base' ok' v xs := by
  obtain ⟨A, c, hv, hl, hf⟩ := h
  exact ⟨A, c, hv, hl, hF A hf⟩
theorem V_mk (hl : xs.length ≤ c) (hf : F d W ok A xs.length xs) : V d e W base ok (.slice A xs.length c) xs := ⟨A, c, rfl, hl, hf⟩
theorem V_slice (h : V d e W base ok v xs) : ∃ A c, v = .slice A xs.length c := by
  obtain ⟨A, c, hv, _⟩ := h
  exact ⟨A, c, hv⟩
theorem V_at (h : V d e W base ok (.slice A n c) xs) : n = xs.length ∧ n ≤ c ∧ F d W ok A xs.length xs := by
  obtain ⟨A', c', hv, hl, hf⟩ := h
  injection hv with ha hn hc
  subst ha; subst hc
  exact ⟨hn, by rw [hn]; exact hl, hf⟩
theorem V_reads' (h : V d e W base ok (.slice A n c) xs) : n = xs.length ∧ n ≤ c ∧ d.C W A xs.length xs := ⟨(V_at h).1, (V_at h).2.1, F_now (V_at h).2.2⟩
theorem V_F (h : V d e W base ok (.slice A n c) xs) : F d W ok A n xs := by
  obtain ⟨hn, _, hf⟩ := V_at h
  rw [hn]
  exact hf
theorem R_V (h : d.R e W base ok v xs) : V d e W base' ok v xs := by
  obtain ⟨A, c, rfl⟩ := R_slice h
  exact ⟨A, c, rfl, (R_reads' h).2.1, R_F h⟩
theorem N_V (h : N d e W base ok v xs) : V d e W base' ok v xs := by
  obtain ⟨A, c, rfl⟩ := N_slice h
  exact ⟨A, c, rfl, (N_reads' h).2.1, N_F h⟩
theorem V_mono (h : V d e W base ok v xs) (hok : ∀ k, ok k → ok' k) : V d e W base ok' v xs := V_map h (fun _ hf => F_mono hf hok)
theorem V_below (h : V d e W base ok v xs) (hb : Below W.heap.size W w1) : V d e w1 base ok v xs := V_map h (fun _ hf => F_below hf hb)
theorem V_drew (h : V d e W base ok v xs) : V d e W.drew base ok v xs := V_map h (fun _ hf => F_drew hf)
theorem V_after (h : V d e W base (fun k => ok k ∧ some k ≠ u.ownBlock) v xs) (hg : W.grownBy w1 u.ownBlock) (hat : v1.ownBlock = u.ownBlock ∨ ∃ b, v1.ownBlock = some b ∧ W.heap.size ≤ b) : V d e w1 base (fun k => ok k ∧ some k ≠ v1.ownBlock) v xs := V_map h (fun _ hf => F_after hf hg hat)
theorem V_afterv (h : V d e W base (fun k => ok k ∧ some k ≠ v.ownBlock) u xs) (hg : W.grownBy w1 v.ownBlock) (hat : v1.ownBlock = v.ownBlock ∨ ∃ b, v1.ownBlock = some b ∧ W.heap.size ≤ b) : V d e w1 base (fun k => ok k ∧ some k ≠ v1.ownBlock) u xs := V_after h hg hat
theorem N_afterv (h : N d e W base (fun k => ok k ∧ some k ≠ v.ownBlock) u xs) (hg : W.grownBy w1 v.ownBlock) (hat : v1.ownBlock = v.ownBlock ∨ ∃ b, v1.ownBlock = some b ∧ W.heap.size ≤ b) : N d e w1 base (fun k => ok k ∧ some k ≠ v1.ownBlock) u xs := N_after h hg hat
theorem V_elder' (h : V d e W base ok v xs) (hbase : ∀ k, u.ownBlock = some k → W.heap.size ≤ k) (hb : Below W.heap.size W w1) : V d e w1 base (fun k => ok k ∧ some k ≠ u.ownBlock) v xs := V_map h (fun _ hf => F_elder' hf hbase hb)
theorem V_elderB (h : V d e W base ok v xs) (a : Nat) (ha : W.heap.size ≤ a) : V d e W base (fun k => ok k ∧ k ≠ a) v xs := V_map h (fun _ hf => F_elderB hf a ha)
theorem V_get (h : V d e W base ok (.slice (some ad) n c) xs) (z : α) (i : Int) (h0 : 0 ≤ i) (h1 : i < n) :
    ∃ cs, cs.length = d.sz ∧ FK d W ok (xs.getD i.toNat z) cs ∧ ∀ j u, cs[j]? = some u → W.cell? (ad.add (i.toNat * d.sz + j)) = some u := by
  obtain ⟨ad', cs, he, hcl, hK, hcc, _⟩ := F_get (V_F h) z i h0 h1
  injection he with he
  subst he
  exact ⟨cs, hcl, hK, hcc⟩
end
end Kd
end Go.Proofs.YteflfnjljjianaaGreatDoorW.PrintWords
namespace Go.Proofs.YteflfnjljjianaaGreatDoor.Qx
open Go.RowKit Go.Proofs.YteflfnjljjianaaGreatDoorW.PrintWords Go.Proofs.YteflfnjljjianaaGreatDoorW.PrintLast Go.Proofs.YteflfnjljjianaaGreatDoorW.PrintMore
attribute [local go_sem] max2_int min2_int max_two min_two
set_option linter.unusedVariables false
set_option linter.unusedSimpArgs false
def errW : Option Int → Value
  | none => .nilIface
  | some c => .iface 0 (.int .i64 c)
theorem errW_none : errW none = .nilIface := rfl
theorem errW_some (c : Int) : errW (some c) = .iface 0 (.int .i64 c) := rfl
theorem info3 : (Tryz.prog.info? 3).map (fun i => (i.zero, i.size, i.bytes)) = some (some (.int .i64 0), 1, 8) := by kernel_rfl
theorem info38 : (Tryz.prog.info? 38).map (fun i => (i.zero, i.size, i.bytes)) = some (some (.agg #[(.int .i64 0), (.int .i64 0), (.int .i64 0), (.int .i64 0), (.string ⟨#[]⟩), (.slice none 0 0)]), 6, 72) := by kernel_rfl
structure S35 where
  f0 : Int
  f1 : Int
  f2 : ByteArray
def z35 : S35 := ⟨(0 : Int), (0 : Int), (⟨#[]⟩ : ByteArray)⟩
def k35 : Kd S35 := Kd.iso (Kd.pair (Kd.int .i64) (Kd.pair (Kd.int .i64) Kd.string)) (fun x : S35 => (x.f0, x.f1, x.f2))
theorem k35_open {w : World} {x : S35} {cs : List Value} (h : k35.K w x cs) : cs = [.int .i64 x.f0, .int .i64 x.f1, .string x.f2] := by
  obtain ⟨_, _, rfl, rfl, ⟨_, _, rfl, rfl, rfl⟩⟩ := h
  exact rfl
theorem k35_mk (w : World) (x : S35)  : k35.K w x [.int .i64 x.f0, .int .i64 x.f1, .string x.f2] := ⟨[.int .i64 x.f0], [.int .i64 x.f1, .string x.f2], rfl, rfl, ⟨[.int .i64 x.f1], [.string x.f2], rfl, rfl, rfl⟩⟩
theorem k35_mkM (w : World) (base : Nat) (ok : Nat → Prop) (x : S35)  : k35.M w base ok x [.int .i64 x.f0, .int .i64 x.f1, .string x.f2] := ⟨[.int .i64 x.f0], [.int .i64 x.f1, .string x.f2], rfl, rfl, ⟨[.int .i64 x.f1], [.string x.f2], rfl, rfl, rfl⟩⟩
def rd_T35 (xs : List S35) (i : Int) : S35 := xs.getD i.toNat z35
theorem at_T35 {w : World} {A : Option Addr} {n : Nat} {xs : List S35} (h : Kd.C k35 w A n xs) (i : Int) (h0 : 0 ≤ i) (h1 : i < n) : ∃ ad , A = some ad ∧ w.cell? (ad.add (i.toNat * 3)) = some (.int .i64 (rd_T35 xs i).f0) ∧ w.cell? ⟨(ad.add (i.toNat * 3)).block, (ad.add (i.toNat * 3)).off + 1, none⟩ = some (.int .i64 (rd_T35 xs i).f1) ∧ w.cell? ⟨(ad.add (i.toNat * 3)).block, (ad.add (i.toNat * 3)).off + 2, none⟩ = some (.string (rd_T35 xs i).f2) := by
  obtain ⟨ad, c, e, _, hK, hc0⟩ := Kd.C_get h z35 i h0 h1
  have hc : ∀ j u, c[j]? = some u → w.cell? (ad.add (i.toNat * 3 + j)) = some u := hc0
  obtain rfl := k35_open hK
  exact ⟨ad, e, hc 0 _ rfl, by rw [← add_field _ _ 1 (by omega)]; exact hc 1 _ rfl, by rw [← add_field _ _ 2 (by omega)]; exact hc 2 _ rfl⟩
structure S63 where
  f0 : Int
  f1 : Int
  f2 : Bool
def z63 : S63 := ⟨(0 : Int), (0 : Int), false⟩
def k63 : Kd S63 := Kd.iso (Kd.pair (Kd.int .i64) (Kd.pair (Kd.int .i64) Kd.bool)) (fun x : S63 => (x.f0, x.f1, x.f2))
theorem k63_open {w : World} {x : S63} {cs : List Value} (h : k63.K w x cs) : cs = [.int .i64 x.f0, .int .i64 x.f1, .bool x.f2] := by
  obtain ⟨_, _, rfl, rfl, ⟨_, _, rfl, rfl, rfl⟩⟩ := h
  exact rfl
theorem k63_mk (w : World) (x : S63)  : k63.K w x [.int .i64 x.f0, .int .i64 x.f1, .bool x.f2] := ⟨[.int .i64 x.f0], [.int .i64 x.f1, .bool x.f2], rfl, rfl, ⟨[.int .i64 x.f1], [.bool x.f2], rfl, rfl, rfl⟩⟩
def rd_T63 (xs : List S63) (i : Int) : S63 := xs.getD i.toNat z63
theorem at_T63 {w : World} {A : Option Addr} {n : Nat} {xs : List S63} (h : Kd.C k63 w A n xs) (i : Int) (h0 : 0 ≤ i) (h1 : i < n) : ∃ ad , A = some ad ∧ w.cell? (ad.add (i.toNat * 3)) = some (.int .i64 (rd_T63 xs i).f0) ∧ w.cell? ⟨(ad.add (i.toNat * 3)).block, (ad.add (i.toNat * 3)).off + 1, none⟩ = some (.int .i64 (rd_T63 xs i).f1) ∧ w.cell? ⟨(ad.add (i.toNat * 3)).block, (ad.add (i.toNat * 3)).off + 2, none⟩ = some (.bool (rd_T63 xs i).f2) := by
  obtain ⟨ad, c, e, _, hK, hc0⟩ := Kd.C_get h z63 i h0 h1
  have hc : ∀ j u, c[j]? = some u → w.cell? (ad.add (i.toNat * 3 + j)) = some u := hc0
  obtain rfl := k63_open hK
  exact ⟨ad, e, hc 0 _ rfl, by rw [← add_field _ _ 1 (by omega)]; exact hc 1 _ rfl, by rw [← add_field _ _ 2 (by omega)]; exact hc 2 _ rfl⟩
structure S38 where
  f0 : Int
  f1 : Int
  f2 : S35
  f3 : (List S38)
def z38 : S38 := ⟨(0 : Int), (0 : Int), z35, ([] : List S38)⟩
def F38 (d : Kd S38) : Kd S38 := Kd.iso (Kd.pair (Kd.int .i64) (Kd.pair (Kd.int .i64) (Kd.pair k35 (Kd.slice 38 d)))) (fun x : S38 => (x.f0, x.f1, x.f2, x.f3))
theorem mono38 : Kd.Mono F38 := Kd.mono_iso _ (Kd.mono_pair (Kd.mono_const _) (Kd.mono_pair (Kd.mono_const _) (Kd.mono_pair (Kd.mono_const _) (Kd.mono_slice 38 Kd.mono_id))))
theorem sub38 : Kd.Sub F38 [38] := Kd.sub_iso _ (Kd.sub_pair (Kd.sub_const _ (by decide)) (Kd.sub_pair (Kd.sub_const _ (by decide)) (Kd.sub_pair (Kd.sub_const _ (by decide)) (Kd.sub_slice 38 (by decide) Kd.sub_id))))
theorem sz38 : ∀ n, (Kd.upto F38 6 [38] n).sz = 6 := Kd.upto_sz (fun _ => rfl)
def k38 : Kd S38 := Kd.fix F38 6 [38] sz38 (Kd.upto_E sub38)
theorem k38_open {w : World} {x : S38} {cs : List Value} (h : k38.K w x cs) : ∃ A5 c5, cs = [.int .i64 x.f0, .int .i64 x.f1, .int .i64 x.f2.f0, .int .i64 x.f2.f1, .string x.f2.f2, .slice A5 x.f3.length c5] ∧ x.f3.length ≤ c5 ∧ k38.C w A5 x.f3.length x.f3 := by
  obtain ⟨n, h⟩ := h
  cases n with
  | zero => exact h.elim
  | succ n =>
    obtain ⟨_, _, rfl, rfl, ⟨_, _, rfl, rfl, ⟨_, _, rfl, s2, ⟨A5, c5, rfl, l5, g5⟩⟩⟩⟩ := h
    obtain rfl := k35_open s2
    exact ⟨A5, c5, rfl, l5, Kd.fix_C g5⟩
theorem k38_mk (w : World) (x : S38) {A5 : Option Addr} {c5 : Nat} (l5 : x.f3.length ≤ c5) (g5 : k38.C w A5 x.f3.length x.f3) : k38.K w x [.int .i64 x.f0, .int .i64 x.f1, .int .i64 x.f2.f0, .int .i64 x.f2.f1, .string x.f2.f2, .slice A5 x.f3.length c5] := by
  obtain ⟨n5, q5⟩ := Kd.fix_C_back mono38 g5
  have r5 := Kd.upto_C_le mono38 sz38 (show n5 ≤ n5 by omega) q5
  exact ⟨n5 + 1, ⟨[.int .i64 x.f0], [.int .i64 x.f1, .int .i64 x.f2.f0, .int .i64 x.f2.f1, .string x.f2.f2, .slice A5 x.f3.length c5], rfl, rfl, ⟨[.int .i64 x.f1], [.int .i64 x.f2.f0, .int .i64 x.f2.f1, .string x.f2.f2, .slice A5 x.f3.length c5], rfl, rfl, ⟨[.int .i64 x.f2.f0, .int .i64 x.f2.f1, .string x.f2.f2], [.slice A5 x.f3.length c5], rfl, (k35_mk w x.f2 ), ⟨A5, c5, rfl, l5, r5⟩⟩⟩⟩⟩
theorem k38_mkM (w : World) (base : Nat) (ok : Nat → Prop) (x : S38) {v5 : Value} (g5 : k38.R 38 w base ok v5 x.f3) : k38.M w base ok x [.int .i64 x.f0, .int .i64 x.f1, .int .i64 x.f2.f0, .int .i64 x.f2.f1, .string x.f2.f2, v5] := by
  obtain ⟨n5, q5⟩ := Kd.fix_R_back mono38 g5
  have r5 := Kd.upto_R_le mono38 sz38 (show n5 ≤ n5 by omega) q5
  exact ⟨n5 + 1, ⟨[.int .i64 x.f0], [.int .i64 x.f1, .int .i64 x.f2.f0, .int .i64 x.f2.f1, .string x.f2.f2, v5], rfl, rfl, ⟨[.int .i64 x.f1], [.int .i64 x.f2.f0, .int .i64 x.f2.f1, .string x.f2.f2, v5], rfl, rfl, ⟨[.int .i64 x.f2.f0, .int .i64 x.f2.f1, .string x.f2.f2], [v5], rfl, (k35_mkM w base ok x.f2 ), ⟨v5, rfl, r5⟩⟩⟩⟩⟩
theorem k38_openF {W : World} {ok : Nat → Prop} {x : S38} {cs : List Value} (h : Kd.FK k38 W ok x cs) : ∃ A5 c5, cs = [.int .i64 x.f0, .int .i64 x.f1, .int .i64 x.f2.f0, .int .i64 x.f2.f1, .string x.f2.f2, .slice A5 x.f3.length c5] ∧ x.f3.length ≤ c5 ∧ Kd.F k38 W ok A5 x.f3.length x.f3 := by
  obtain ⟨A5, c5, rfl, l5, _⟩ := k38_open (Kd.FK_now h)
  exact ⟨A5, c5, rfl, l5, (fun W' hW => by obtain ⟨A5_, c5_, he, l5_, g5_⟩ := k38_open (h W' hW); injection (Option.some.inj (show some (Value.slice A5 x.f3.length c5) = some (Value.slice A5_ x.f3.length c5_) from congrArg (fun l => l[5]?) he)) with ha_ _ _; rw [ha_]; exact g5_)⟩
theorem k38_mkF (W : World) (ok : Nat → Prop) (x : S38) {A5 : Option Addr} {c5 : Nat} (l5 : x.f3.length ≤ c5) (g5 : Kd.F k38 W ok A5 x.f3.length x.f3) : Kd.FK k38 W ok x [.int .i64 x.f0, .int .i64 x.f1, .int .i64 x.f2.f0, .int .i64 x.f2.f1, .string x.f2.f2, .slice A5 x.f3.length c5] := fun W2 hW => k38_mk W2 x l5 (g5 W2 hW)
def rd_T38 (xs : List S38) (i : Int) : S38 := xs.getD i.toNat z38
theorem at_T38 {w : World} {A : Option Addr} {n : Nat} {xs : List S38} (h : Kd.C k38 w A n xs) (i : Int) (h0 : 0 ≤ i) (h1 : i < n) : ∃ ad A5 c5, A = some ad ∧ w.cell? (ad.add (i.toNat * 6)) = some (.int .i64 (rd_T38 xs i).f0) ∧ w.cell? ⟨(ad.add (i.toNat * 6)).block, (ad.add (i.toNat * 6)).off + 1, none⟩ = some (.int .i64 (rd_T38 xs i).f1) ∧ w.cell? ⟨(ad.add (i.toNat * 6)).block, (ad.add (i.toNat * 6)).off + 2, none⟩ = some (.int .i64 (rd_T38 xs i).f2.f0) ∧ w.cell? ⟨(ad.add (i.toNat * 6)).block, (ad.add (i.toNat * 6)).off + 3, none⟩ = some (.int .i64 (rd_T38 xs i).f2.f1) ∧ w.cell? ⟨(ad.add (i.toNat * 6)).block, (ad.add (i.toNat * 6)).off + 4, none⟩ = some (.string (rd_T38 xs i).f2.f2) ∧ w.cell? ⟨(ad.add (i.toNat * 6)).block, (ad.add (i.toNat * 6)).off + 5, none⟩ = some (.slice A5 (rd_T38 xs i).f3.length c5) ∧ (rd_T38 xs i).f3.length ≤ c5 ∧ k38.C w A5 (rd_T38 xs i).f3.length (rd_T38 xs i).f3 := by
  obtain ⟨ad, c, e, _, hK, hc0⟩ := Kd.C_get h z38 i h0 h1
  have hc : ∀ j u, c[j]? = some u → w.cell? (ad.add (i.toNat * 6 + j)) = some u := hc0
  obtain ⟨A5, c5, rfl, l5, g5⟩ := k38_open hK
  exact ⟨ad, A5, c5, e, hc 0 _ rfl, by rw [← add_field _ _ 1 (by omega)]; exact hc 1 _ rfl, by rw [← add_field _ _ 2 (by omega)]; exact hc 2 _ rfl, by rw [← add_field _ _ 3 (by omega)]; exact hc 3 _ rfl, by rw [← add_field _ _ 4 (by omega)]; exact hc 4 _ rfl, by rw [← add_field _ _ 5 (by omega)]; exact hc 5 _ rfl, l5, g5⟩
structure S82 where
  f0 : Int
  f1 : Bool
  f2 : S35
  f3 : S35
  f4 : Int
def z82 : S82 := ⟨(0 : Int), false, z35, z35, (0 : Int)⟩
def k82 : Kd S82 := Kd.iso (Kd.pair (Kd.int .i64) (Kd.pair Kd.bool (Kd.pair k35 (Kd.pair k35 (Kd.int .i64))))) (fun x : S82 => (x.f0, x.f1, x.f2, x.f3, x.f4))
theorem k82_open {w : World} {x : S82} {cs : List Value} (h : k82.K w x cs) : cs = [.int .i64 x.f0, .bool x.f1, .int .i64 x.f2.f0, .int .i64 x.f2.f1, .string x.f2.f2, .int .i64 x.f3.f0, .int .i64 x.f3.f1, .string x.f3.f2, .int .i64 x.f4] := by
  obtain ⟨_, _, rfl, rfl, ⟨_, _, rfl, rfl, ⟨_, _, rfl, s2, ⟨_, _, rfl, s5, rfl⟩⟩⟩⟩ := h
  obtain rfl := k35_open s2
  obtain rfl := k35_open s5
  exact rfl
theorem k82_mk (w : World) (x : S82)  : k82.K w x [.int .i64 x.f0, .bool x.f1, .int .i64 x.f2.f0, .int .i64 x.f2.f1, .string x.f2.f2, .int .i64 x.f3.f0, .int .i64 x.f3.f1, .string x.f3.f2, .int .i64 x.f4] := ⟨[.int .i64 x.f0], [.bool x.f1, .int .i64 x.f2.f0, .int .i64 x.f2.f1, .string x.f2.f2, .int .i64 x.f3.f0, .int .i64 x.f3.f1, .string x.f3.f2, .int .i64 x.f4], rfl, rfl, ⟨[.bool x.f1], [.int .i64 x.f2.f0, .int .i64 x.f2.f1, .string x.f2.f2, .int .i64 x.f3.f0, .int .i64 x.f3.f1, .string x.f3.f2, .int .i64 x.f4], rfl, rfl, ⟨[.int .i64 x.f2.f0, .int .i64 x.f2.f1, .string x.f2.f2], [.int .i64 x.f3.f0, .int .i64 x.f3.f1, .string x.f3.f2, .int .i64 x.f4], rfl, (k35_mk w x.f2 ), ⟨[.int .i64 x.f3.f0, .int .i64 x.f3.f1, .string x.f3.f2], [.int .i64 x.f4], rfl, (k35_mk w x.f3 ), rfl⟩⟩⟩⟩
def rd_T82 (xs : List S82) (i : Int) : S82 := xs.getD i.toNat z82
theorem at_T82 {w : World} {A : Option Addr} {n : Nat} {xs : List S82} (h : Kd.C k82 w A n xs) (i : Int) (h0 : 0 ≤ i) (h1 : i < n) : ∃ ad , A = some ad ∧ w.cell? (ad.add (i.toNat * 9)) = some (.int .i64 (rd_T82 xs i).f0) ∧ w.cell? ⟨(ad.add (i.toNat * 9)).block, (ad.add (i.toNat * 9)).off + 1, none⟩ = some (.bool (rd_T82 xs i).f1) ∧ w.cell? ⟨(ad.add (i.toNat * 9)).block, (ad.add (i.toNat * 9)).off + 2, none⟩ = some (.int .i64 (rd_T82 xs i).f2.f0) ∧ w.cell? ⟨(ad.add (i.toNat * 9)).block, (ad.add (i.toNat * 9)).off + 3, none⟩ = some (.int .i64 (rd_T82 xs i).f2.f1) ∧ w.cell? ⟨(ad.add (i.toNat * 9)).block, (ad.add (i.toNat * 9)).off + 4, none⟩ = some (.string (rd_T82 xs i).f2.f2) ∧ w.cell? ⟨(ad.add (i.toNat * 9)).block, (ad.add (i.toNat * 9)).off + 5, none⟩ = some (.int .i64 (rd_T82 xs i).f3.f0) ∧ w.cell? ⟨(ad.add (i.toNat * 9)).block, (ad.add (i.toNat * 9)).off + 6, none⟩ = some (.int .i64 (rd_T82 xs i).f3.f1) ∧ w.cell? ⟨(ad.add (i.toNat * 9)).block, (ad.add (i.toNat * 9)).off + 7, none⟩ = some (.string (rd_T82 xs i).f3.f2) ∧ w.cell? ⟨(ad.add (i.toNat * 9)).block, (ad.add (i.toNat * 9)).off + 8, none⟩ = some (.int .i64 (rd_T82 xs i).f4) := by
  obtain ⟨ad, c, e, _, hK, hc0⟩ := Kd.C_get h z82 i h0 h1
  have hc : ∀ j u, c[j]? = some u → w.cell? (ad.add (i.toNat * 9 + j)) = some u := hc0
  obtain rfl := k82_open hK
  exact ⟨ad, e, hc 0 _ rfl, by rw [← add_field _ _ 1 (by omega)]; exact hc 1 _ rfl, by rw [← add_field _ _ 2 (by omega)]; exact hc 2 _ rfl, by rw [← add_field _ _ 3 (by omega)]; exact hc 3 _ rfl, by rw [← add_field _ _ 4 (by omega)]; exact hc 4 _ rfl, by rw [← add_field _ _ 5 (by omega)]; exact hc 5 _ rfl, by rw [← add_field _ _ 6 (by omega)]; exact hc 6 _ rfl, by rw [← add_field _ _ 7 (by omega)]; exact hc 7 _ rfl, by rw [← add_field _ _ 8 (by omega)]; exact hc 8 _ rfl⟩
structure S77 where
  f0 : Int
  f1 : Int
  f2 : Int
  f3 : Int
def z77 : S77 := ⟨(0 : Int), (0 : Int), (0 : Int), (0 : Int)⟩
end Go.Proofs.YteflfnjljjianaaGreatDoor.Qx
namespace Go.Proofs.YteflfnjljjianaaGreatDoor.Qx
open Go.RowKit Go.Proofs.YteflfnjljjianaaGreatDoorW.PrintWords Go.Proofs.YteflfnjljjianaaGreatDoorW.PrintLast Go.Proofs.YteflfnjljjianaaGreatDoorW.PrintMore
attribute [local go_sem] max2_int min2_int max_two min_two
set_option linter.unusedVariables false
set_option linter.unusedSimpArgs false
theorem eqA35 (d : Nat) (w : World) (x0 y0 : Int) (x1 y1 : Int) (x2 y2 : ByteArray) :
    (Op.equalIn (d + 2) 35 (.agg #[.int .i64 x0, .int .i64 x1, .string x2]) (.agg #[.int .i64 y0, .int .i64 y1, .string y2])).run Tryz.prog w = .ok (x0 == y0 && (x1 == y1 && (x2.toList == y2.toList))) w := by
  refine eqA_of Tryz.underlying35 (by kernel_rfl) ?_
  refine eqf_cons (by rfl) (by go_simp; rfl) (by go_simp; rfl) (by go_simp) ?_
  refine eqf_cons (by rfl) (by go_simp; rfl) (by go_simp; rfl) (by go_simp) ?_
  exact eqf_last (by rfl) (by go_simp; rfl) (by go_simp; rfl) (by go_simp)
end Go.Proofs.YteflfnjljjianaaGreatDoor.Qx
namespace Go.Proofs.YteflfnjljjianaaGreatDoor.Qx
open Go.RowKit Go.Proofs.YteflfnjljjianaaGreatDoorW.PrintWords Go.Proofs.YteflfnjljjianaaGreatDoorW.PrintLast Go.Proofs.YteflfnjljjianaaGreatDoorW.PrintMore
attribute [local go_sem] max2_int min2_int max_two min_two
set_option linter.unusedVariables false
set_option linter.unusedSimpArgs false
def partition_spec_same.f (a0_0 : Int) (a0_1 : Int) (a0_2 : Int) (a1_0 : Int) (a1_1 : Int) (a1_2 : ByteArray) : Option (Int × Int × ByteArray) := some (a1_0, a1_1, a1_2)
set_option maxHeartbeats 8000000 in
set_option maxRecDepth 100000 in
theorem partition_spec_same.calls (a0_0 : Int) (a0_1 : Int) (a0_2 : Int) (a1_0 : Int) (a1_1 : Int) (a1_2 : ByteArray) (r1 : Int) (r2 : Int) (r3 : ByteArray) (w : World) (h : partition_spec_same.f a0_0 a0_1 a0_2 a1_0 a1_1 a1_2 = some (r1, r2, r3)) :
    Calls Tryz.prog 76 #[.agg #[.int .i64 a0_0, .int .i64 a0_1, .int .i64 a0_2], .agg #[.int .i64 a1_0, .int .i64 a1_1, .string a1_2]] w fun e w' => e = .returned (.agg #[.int .i64 r1, .int .i64 r2, .string r3]) ∧ Below w.heap.size w w' := by
  have hu106 := Tryz.underlying106
  have hu35 := Tryz.underlying35
  have HB := Aside0.mk (Below.refl w.heap.size w)
  have H : (some (a1_0, a1_1, a1_2)) = some (r1, r2, r3) := h
  clear h
  simp only [Option.some.injEq, Prod.mk.injEq] at H
  obtain ⟨rfl, rfl, rfl⟩ := H
  go_enter Tryz.func76, Tryz.ntmps76
  go_wp2_with (first | ((with_reducible refine gate_dst (N := 2) rfl ?_); refine box_event ?hg (N := 2) ?hd (cs := #[.int .i64 a0_0, .int .i64 a0_1, .int .i64 a0_2]) (t := 106) ?hr ?_; (case hd => rfl); (case hg => rfl); (case hr => first | (go_simp; done) | (go_simp; rfl)); intro gb101 hg w3 hbox hb; have n0_ := Aside0.mk (below_step (by repeat (first | (with_reducible first | exact HB.out | apply below_alloc | apply pw_below_drewN | apply below_drew1) | exact HB.out)) hb); have n1_ := Aside0.mk (hbox); have n2_ := Aside0.mk ((by rw [hg]; exact (below_size (by repeat (first | (with_reducible first | exact HB.out | apply below_alloc | apply pw_below_drewN | apply below_drew1) | exact HB.out))) : w.heap.size ≤ gb101)); have n3_ := Aside0.mk ((by rw [hg]; exact (below_size (by repeat (first | (with_reducible first | exact HB.out | apply below_alloc | apply pw_below_drewN | apply below_drew1) | exact HB.out))) : w.heap.size ≤ gb101)); clear HB; have HB := n0_; have BK101 := n1_; have GW101 := n2_; have GE101 := n3_; clear n0_ n1_ n2_ n3_; clear hb hbox hg) | ((with_reducible refine gate_dst (N := 3) rfl ?_); refine box_event ?hg (N := 3) ?hd (cs := #[.int .i64 a1_0, .int .i64 a1_1, .string a1_2]) (t := 35) ?hr ?_; (case hd => rfl); (case hg => rfl); (case hr => first | (go_simp; done) | (go_simp; rfl)); intro gb102 hg w4 hbox hb; have n0_ := Aside0.mk (blk_below (g := gb101) (o := .cells #[.int .i64 a0_0, .int .i64 a0_1, .int .i64 a0_2] 106 (0, 0)) (by (with_reducible repeat (first | refine blk_drewN ?_ _ | refine blk_drew ?_ | refine blk_alloc ?_ _)); exact BK101.out) hb); have n1_ := Aside0.mk (below_step (by repeat (first | (with_reducible first | exact HB.out | apply below_alloc | apply pw_below_drewN | apply below_drew1 | refine below_set ?_ GE101.out) | exact HB.out)) hb); have n2_ := Aside0.mk (hbox); have n3_ := Aside0.mk ((by rw [hg]; exact (below_size (by repeat (first | (with_reducible first | exact HB.out | apply below_alloc | apply pw_below_drewN | apply below_drew1 | refine below_set ?_ GE101.out) | exact HB.out))) : w.heap.size ≤ gb102)); have n4_ := Aside0.mk ((by rw [hg]; exact (below_size (by repeat (first | (with_reducible first | exact HB.out | apply below_alloc | apply pw_below_drewN | apply below_drew1 | refine below_set ?_ GE101.out) | exact HB.out))) : w.heap.size ≤ gb102)); have n5_ := Aside0.mk ((by rw [hg]; exact Nat.ne_of_lt (blk_lt (g := gb101) (o := .cells #[.int .i64 a0_0, .int .i64 a0_1, .int .i64 a0_2] 106 (0, 0)) (by (with_reducible repeat (first | refine blk_drewN ?_ _ | refine blk_drew ?_ | refine blk_alloc ?_ _)); exact BK101.out)) : gb101 ≠ gb102)); have n6_ := Aside0.mk ((by rw [hg]; exact Nat.ne_of_gt (blk_lt (g := gb101) (o := .cells #[.int .i64 a0_0, .int .i64 a0_1, .int .i64 a0_2] 106 (0, 0)) (by (with_reducible repeat (first | refine blk_drewN ?_ _ | refine blk_drew ?_ | refine blk_alloc ?_ _)); exact BK101.out)) : gb102 ≠ gb101)); clear BK101; clear HB; have BK101 := n0_; have HB := n1_; have BK102 := n2_; have GW102 := n3_; have GE102 := n4_; have NB101_102 := n5_; have NB102_101 := n6_; clear n0_ n1_ n2_ n3_ n4_ n5_ n6_; clear hb hbox hg) | ((with_reducible refine gate_dst (N := 4) rfl ?_); refine box_event ?hg (N := 4) ?hd (cs := #[.int .i64 0, .int .i64 0, .string (⟨#[]⟩ : ByteArray)]) (t := 35) ?hr ?_; (case hd => rfl); (case hg => rfl); (case hr => first | (go_simp; done) | (go_simp; rfl)); intro gb103 hg w5 hbox hb; have n0_ := Aside0.mk (blk_below (g := gb101) (o := .cells #[.int .i64 a0_0, .int .i64 a0_1, .int .i64 a0_2] 106 (0, 0)) (by (with_reducible repeat (first | refine blk_drewN ?_ _ | refine blk_drew ?_ | refine blk_alloc ?_ _)); exact BK101.out) hb); have n1_ := Aside0.mk (blk_below (g := gb102) (o := .cells #[.int .i64 a1_0, .int .i64 a1_1, .string a1_2] 35 (0, 0)) (by (with_reducible repeat (first | refine blk_drewN ?_ _ | refine blk_drew ?_ | refine blk_alloc ?_ _)); exact BK102.out) hb); have n2_ := Aside0.mk (below_step (by repeat (first | (with_reducible first | exact HB.out | apply below_alloc | apply pw_below_drewN | apply below_drew1 | refine below_set ?_ GE101.out | refine below_set ?_ GE102.out) | exact HB.out)) hb); have n3_ := Aside0.mk (hbox); have n4_ := Aside0.mk ((by rw [hg]; exact (below_size (by repeat (first | (with_reducible first | exact HB.out | apply below_alloc | apply pw_below_drewN | apply below_drew1 | refine below_set ?_ GE101.out | refine below_set ?_ GE102.out) | exact HB.out))) : w.heap.size ≤ gb103)); have n5_ := Aside0.mk ((by rw [hg]; exact (below_size (by repeat (first | (with_reducible first | exact HB.out | apply below_alloc | apply pw_below_drewN | apply below_drew1 | refine below_set ?_ GE101.out | refine below_set ?_ GE102.out) | exact HB.out))) : w.heap.size ≤ gb103)); have n6_ := Aside0.mk ((by rw [hg]; exact Nat.ne_of_lt (blk_lt (g := gb101) (o := .cells #[.int .i64 a0_0, .int .i64 a0_1, .int .i64 a0_2] 106 (0, 0)) (by (with_reducible repeat (first | refine blk_drewN ?_ _ | refine blk_drew ?_ | refine blk_alloc ?_ _)); exact BK101.out)) : gb101 ≠ gb103)); have n7_ := Aside0.mk ((by rw [hg]; exact Nat.ne_of_gt (blk_lt (g := gb101) (o := .cells #[.int .i64 a0_0, .int .i64 a0_1, .int .i64 a0_2] 106 (0, 0)) (by (with_reducible repeat (first | refine blk_drewN ?_ _ | refine blk_drew ?_ | refine blk_alloc ?_ _)); exact BK101.out)) : gb103 ≠ gb101)); have n8_ := Aside0.mk ((by rw [hg]; exact Nat.ne_of_lt (blk_lt (g := gb102) (o := .cells #[.int .i64 a1_0, .int .i64 a1_1, .string a1_2] 35 (0, 0)) (by (with_reducible repeat (first | refine blk_drewN ?_ _ | refine blk_drew ?_ | refine blk_alloc ?_ _)); exact BK102.out)) : gb102 ≠ gb103)); have n9_ := Aside0.mk ((by rw [hg]; exact Nat.ne_of_gt (blk_lt (g := gb102) (o := .cells #[.int .i64 a1_0, .int .i64 a1_1, .string a1_2] 35 (0, 0)) (by (with_reducible repeat (first | refine blk_drewN ?_ _ | refine blk_drew ?_ | refine blk_alloc ?_ _)); exact BK102.out)) : gb103 ≠ gb102)); clear BK101; clear BK102; clear HB; have BK101 := n0_; have BK102 := n1_; have HB := n2_; have BK103 := n3_; have GW103 := n4_; have GE103 := n5_; have NB101_103 := n6_; have NB103_101 := n7_; have NB102_103 := n8_; have NB103_102 := n9_; clear n0_ n1_ n2_ n3_ n4_ n5_ n6_ n7_ n8_ n9_; clear hb hbox hg; have hnb6 := NB102_101.out; have hnc6 := NB101_102.out; have hnb7 := NB102_103.out; have hnc7 := NB103_102.out; have hcz8_0 : w5.cell? ⟨gb102, 0, none⟩ = some (.int .i64 a1_0) := (blk_cell BK102.out 0).trans rfl; have hcz8_1 : w5.cell? ⟨gb102, 1, none⟩ = some (.int .i64 a1_1) := (blk_cell BK102.out 1).trans rfl; have hcz8_2 : w5.cell? ⟨gb102, 2, none⟩ = some (.string a1_2) := (blk_cell BK102.out 2).trans rfl; have hfz8_0 := blk_frozen BK102.out 0; have hfz8_1 := blk_frozen BK102.out 1; have hfz8_2 := blk_frozen BK102.out 2; have hnb9 := NB103_101.out; have hnc9 := NB101_103.out; have hcz10_0 : w5.cell? ⟨gb103, 0, none⟩ = some (.int .i64 0) := (blk_cell BK103.out 0).trans rfl; have hcz10_1 : w5.cell? ⟨gb103, 1, none⟩ = some (.int .i64 0) := (blk_cell BK103.out 1).trans rfl; have hcz10_2 : w5.cell? ⟨gb103, 2, none⟩ = some (.string (⟨#[]⟩ : ByteArray)) := (blk_cell BK103.out 2).trans rfl; have hfz10_0 := blk_frozen BK103.out 0; have hfz10_1 := blk_frozen BK103.out 1; have hfz10_2 := blk_frozen BK103.out 2))
  refine bodyPost_ret (results_cell_row rfl _ _ gb103 35 #[.int .i64 a1_0, .int .i64 a1_1, .string a1_2] (0, 0) _ rfl (by (with_reducible repeat (first | refine blk_drewN ?_ _ | refine blk_drew ?_ | refine blk_alloc ?_ _)); refine blk_put (cs := #[.int .i64 a1_0, .int .i64 a1_1, .string (⟨#[]⟩ : ByteArray)]) ?_ 2 _ rfl; (with_reducible repeat (first | refine blk_drewN ?_ _ | refine blk_drew ?_ | refine blk_alloc ?_ _)); refine blk_put (cs := #[.int .i64 a1_0, .int .i64 0, .string (⟨#[]⟩ : ByteArray)]) ?_ 1 _ rfl; (with_reducible repeat (first | refine blk_drewN ?_ _ | refine blk_drew ?_ | refine blk_alloc ?_ _)); refine blk_put (cs := #[.int .i64 0, .int .i64 0, .string (⟨#[]⟩ : ByteArray)]) ?_ 0 _ rfl; (with_reducible repeat (first | refine blk_drewN ?_ _ | refine blk_drew ?_ | refine blk_alloc ?_ _)); exact BK103.out) Tryz.underlying35 rfl (by kernel_rfl)) rfl ?_
  exact ⟨by first | rfl | (simp [errW_none, errW_some] <;> rfl) | (simp [*, errW_none, errW_some] <;> rfl), by repeat (first | (with_reducible first | exact HB.out | apply below_alloc | apply pw_below_drewN | apply below_drew1 | refine below_set ?_ GE101.out | refine below_set ?_ GE102.out | refine below_set ?_ GE103.out) | exact HB.out)⟩
end Go.Proofs.YteflfnjljjianaaGreatDoor.Qx
namespace Go.Proofs.YteflfnjljjianaaGreatDoor.Qx
open Go.RowKit Go.Proofs.YteflfnjljjianaaGreatDoorW.PrintWords Go.Proofs.YteflfnjljjianaaGreatDoorW.PrintLast Go.Proofs.YteflfnjljjianaaGreatDoorW.PrintMore
attribute [local go_sem] max2_int min2_int max_two min_two
set_option linter.unusedVariables false
set_option linter.unusedSimpArgs false
def partition_num.f (a0 : Int) : Option (Int × Int × ByteArray) := some (2, a0, (⟨#[]⟩ : ByteArray))
set_option maxHeartbeats 8000000 in
set_option maxRecDepth 100000 in
theorem partition_num.calls (a0 : Int) (r1 : Int) (r2 : Int) (r3 : ByteArray) (w : World) (h : partition_num.f a0 = some (r1, r2, r3)) :
    Calls Tryz.prog 111 #[.int .i64 a0] w fun e w' => e = .returned (.agg #[.int .i64 r1, .int .i64 r2, .string r3]) ∧ Below w.heap.size w w' := by
  have hu35 := Tryz.underlying35
  have HB := Aside0.mk (Below.refl w.heap.size w)
  have H : (some (2, a0, (⟨#[]⟩ : ByteArray))) = some (r1, r2, r3) := h
  clear h
  simp only [Option.some.injEq, Prod.mk.injEq] at H
  obtain ⟨rfl, rfl, rfl⟩ := H
  go_enter Tryz.func111, Tryz.ntmps111
  go_wp2_with (first | ((with_reducible refine gate_dst (N := 2) rfl ?_); refine box_event ?hg (N := 2) ?hd (cs := #[.int .i64 0, .int .i64 0, .string (⟨#[]⟩ : ByteArray)]) (t := 35) ?hr ?_; (case hd => rfl); (case hg => rfl); (case hr => first | (go_simp; done) | (go_simp; rfl)); intro gb101 hg w2 hbox hb; have n0_ := Aside0.mk (below_step (by repeat (first | (with_reducible first | exact HB.out | apply below_alloc | apply pw_below_drewN | apply below_drew1) | exact HB.out)) hb); have n1_ := Aside0.mk (hbox); have n2_ := Aside0.mk ((by rw [hg]; exact (below_size (by repeat (first | (with_reducible first | exact HB.out | apply below_alloc | apply pw_below_drewN | apply below_drew1) | exact HB.out))) : w.heap.size ≤ gb101)); have n3_ := Aside0.mk ((by rw [hg]; exact (below_size (by repeat (first | (with_reducible first | exact HB.out | apply below_alloc | apply pw_below_drewN | apply below_drew1) | exact HB.out))) : w.heap.size ≤ gb101)); clear HB; have HB := n0_; have BK101 := n1_; have GW101 := n2_; have GE101 := n3_; clear n0_ n1_ n2_ n3_; clear hb hbox hg; have hcz3_0 : w2.cell? ⟨gb101, 0, none⟩ = some (.int .i64 0) := (blk_cell BK101.out 0).trans rfl; have hcz3_1 : w2.cell? ⟨gb101, 1, none⟩ = some (.int .i64 0) := (blk_cell BK101.out 1).trans rfl; have hcz3_2 : w2.cell? ⟨gb101, 2, none⟩ = some (.string (⟨#[]⟩ : ByteArray)) := (blk_cell BK101.out 2).trans rfl; have hfz3_0 := blk_frozen BK101.out 0; have hfz3_1 := blk_frozen BK101.out 1; have hfz3_2 := blk_frozen BK101.out 2))
  refine bodyPost_ret (results_cell_row rfl _ _ gb101 35 #[.int .i64 2, .int .i64 a0, .string (⟨#[]⟩ : ByteArray)] (0, 0) _ rfl (by (with_reducible repeat (first | refine blk_drewN ?_ _ | refine blk_drew ?_ | refine blk_alloc ?_ _)); refine blk_put (cs := #[.int .i64 2, .int .i64 a0, .string (⟨#[]⟩ : ByteArray)]) ?_ 2 _ rfl; (with_reducible repeat (first | refine blk_drewN ?_ _ | refine blk_drew ?_ | refine blk_alloc ?_ _)); refine blk_put (cs := #[.int .i64 2, .int .i64 0, .string (⟨#[]⟩ : ByteArray)]) ?_ 1 _ rfl; (with_reducible repeat (first | refine blk_drewN ?_ _ | refine blk_drew ?_ | refine blk_alloc ?_ _)); refine blk_put (cs := #[.int .i64 0, .int .i64 0, .string (⟨#[]⟩ : ByteArray)]) ?_ 0 _ rfl; (with_reducible repeat (first | refine blk_drewN ?_ _ | refine blk_drew ?_ | refine blk_alloc ?_ _)); exact BK101.out) Tryz.underlying35 rfl (by kernel_rfl)) rfl ?_
  exact ⟨by first | rfl | (simp [errW_none, errW_some] <;> rfl) | (simp [*, errW_none, errW_some] <;> rfl), by repeat (first | (with_reducible first | exact HB.out | apply below_alloc | apply pw_below_drewN | apply below_drew1 | refine below_set ?_ GE101.out) | exact HB.out)⟩
end Go.Proofs.YteflfnjljjianaaGreatDoor.Qx
namespace Go.Proofs.YteflfnjljjianaaGreatDoor.Qx
open Go.RowKit Go.Proofs.YteflfnjljjianaaGreatDoorW.PrintWords Go.Proofs.YteflfnjljjianaaGreatDoorW.PrintLast Go.Proofs.YteflfnjljjianaaGreatDoorW.PrintMore
attribute [local go_sem] max2_int min2_int max_two min_two
set_option linter.unusedVariables false
set_option linter.unusedSimpArgs false
set_option maxRecDepth 100000 in
theorem slices_Clip.calls (ao : Option Addr) (n c : Nat) (hn : n ≤ c) (w : World) : Calls Tryz.prog 143 #[.slice ao n c] w fun e w' => e = .returned (.slice ao n n) ∧ w' = w := by
  have hu22 := Tryz.underlying22
  go_enter Tryz.func143, Tryz.ntmps143
  go_wp2
  go_ret
  exact ⟨rfl, rfl⟩
end Go.Proofs.YteflfnjljjianaaGreatDoor.Qx
namespace Go.Proofs.YteflfnjljjianaaGreatDoor.Qx
open Go.RowKit Go.Proofs.YteflfnjljjianaaGreatDoorW.PrintWords Go.Proofs.YteflfnjljjianaaGreatDoorW.PrintLast Go.Proofs.YteflfnjljjianaaGreatDoorW.PrintMore
attribute [local go_sem] max2_int min2_int max_two min_two
set_option linter.unusedVariables false
set_option linter.unusedSimpArgs false
def BytesAt (w : World) (ao : Option Addr) (zs : List Int) : Prop := (ao = none → zs = []) ∧ ∀ b, ao = some b → ∀ j u, (zs.map (Value.int .u8))[j]? = some u → w.cell? (b.add j) = some u
theorem info5 : (Tryz.prog.info? 5).map (fun i => (i.zero, i.size, i.bytes)) = some (some (.int .u8 0), 1, 1) := by kernel_rfl
theorem one_cells (w : World) (t : TypeId) (x : Int) : ∀ j u, ([Value.int .u8 x])[j]? = some u → (w.alloc (.cells #[.int .u8 x] t)).cell? ((⟨w.heap.size, 0, none⟩ : Addr).add j) = some u := by
  intro j u hj
  match j, hj with
  | 0, hj => simp at hj; subst hj; simp [Addr.add, go_sem]
theorem one_oneCell (x : Int) : ∀ u ∈ [Value.int .u8 x], u.oneCell' = true := by intro u hu; simp at hu; subst hu; rfl
theorem ownsRow_lower {w : World} {b b' : Nat} {e : TypeId} {size : Nat} {v : Value} {n : Nat} {xs : List Value} (h : w.ownsRow b e size v n xs) (hb : b' ≤ b) : w.ownsRow b' e size v n xs :=
  ⟨h.1, h.2.imp id (fun ⟨g, cap, cur, e1, h1, r⟩ => ⟨g, cap, cur, e1, Nat.le_trans hb h1, r⟩)⟩
def viHigh (y : Int) : Int := bits BinOp.or IntKind.u8 (y % 256) 128
def vi : Nat → Int → List Int
  | 0, y => [y]
  | k + 1, y => if 127 < y then viHigh y :: vi k (y / 128) else [y]
theorem vi_le : ∀ (k : Nat) (y : Int), (vi k y).length ≤ k + 1
  | 0, _ => Nat.le_refl _
  | k + 1, y => by
    unfold vi
    split
    · have := vi_le k (y / 128)
      simp only [List.length_cons]; omega
    · simp
set_option maxRecDepth 100000 in
set_option maxHeartbeats 4000000 in
theorem bitpack_Varint.calls (ao : Option Addr) (n c : Nat) (zs : List Int) (hz : zs.length = n) (hn : n ≤ c) (hm : n ≤ 1000000) (h0 : ao = none → c = 0) (x : Int) (hx0 : 0 ≤ x) (hx1 : x < 18446744073709551616) (w : World) (hr : BytesAt w ao zs) :
    Calls Tryz.prog 144 #[.slice ao n c, .int .u64 x] w fun e w' => ∃ v, e = .returned v ∧ w'.ownsRow w.heap.size 5 1 v (n + (vi 9 x).length) ((zs ++ vi 9 x).map (.int .u8)) ∧ Below w.heap.size w w' := by
  have hu22 := Tryz.underlying22
  obtain ⟨i0, hi, hz0, hz1, hz2⟩ := info_parts info5
  have hn0 : ao = none → n = 0 ∧ n = 0 := fun h => by have := h0 h; omega
  have HR := Lib.hid hr
  have HZ := Lib.hid hz
  have HN := Lib.hid hn0
  clear hr hz hn0 h0
  go_enter Tryz.func144, Tryz.ntmps144
  go_wp2_with fail
  refine (slices_Clip.calls ao n c hn _).mono ?_
  rintro e w' ⟨rfl, hw⟩
  obtain rfl : w = w' := hw.symm
  go_wp2
  go_loopw [1, 5] (fun s1 s5 wr => ∃ (k : Nat) (y : Int) (ds : List Int), s1 = .int .u64 y ∧ 0 ≤ y ∧ y < 128 ^ (k + 1) ∧ ds ++ vi k y = vi 9 x ∧ ds.length + k = 9 ∧ ((ds = [] ∧ s5 = .slice ao n n ∧ wr = w) ∨ (wr.ownsRow w.heap.size 5 1 s5 (n + ds.length) ((zs ++ ds).map (.int .u8)) ∧ Below w.heap.size w wr))) (fun s1 _ _ => (intOf s1).toNat)
  case atStart => exact ⟨9, x, [], rfl, hx0, by omega, rfl, rfl, .inl ⟨rfl, rfl, rfl⟩⟩
  case round =>
    obtain ⟨k, y, ds, rfl, hy, hy1, hds, hk, hrel⟩ := hrel
    by_cases h : 127 < y
    · have hd : decide (127 < y) = true := decide_eq_true h
      obtain ⟨k, rfl⟩ : ∃ m, k = m + 1 := ⟨k - 1, by
        have : k ≠ 0 := by rintro rfl; simp at hy1; omega
        omega⟩
      have hv : vi (k + 1) y = viHigh y :: vi k (y / 128) := by simp only [vi, if_pos h]
      rw [hv] at hds
      have HD := Lib.hid hds
      clear hds hv
      rcases hrel with ⟨rfl, rfl, hw0⟩ | ⟨hown, hb⟩
      · obtain rfl : w = wr := hw0.symm
        go_wp2_with (at_builtin; refine wpList_append_grows _ rfl (.tmp 12) (.tmp 16) 22 rfl 5 i0 (.int .u8 0) 1 1 Tryz.underlying22 hi hz0 hz1 hz2 rfl (by decide) ao n n (zs.map (.int .u8)) rfl HN.out (by simp [HZ.out]) (fun b e j u hj => pw_cell_below ((Below.refl _ w).alloc (Nat.le_refl _) _) (HR.out.2 b e j u hj)) ⟨w.heap.size, 0, none⟩ 1 1 [.int .u8 (viHigh y)] rfl rfl ?n1_1 (one_oneCell _) (by omega) (by unfold maxLen; omega) (by omega) ?n2_1)
        case n1_1 => exact fun j u h => h
        case n2_1 =>
          intro v' w1 hown hg
          have hb := ((Below.refl w.heap.size w).alloc (Nat.le_refl _) _).grown hg (by simp) (fun k h => by cases h)
          go_wp2
          refine ⟨⟨k, y / 128, [viHigh y], rfl, by omega, by rw [Int.pow_succ] at hy1; omega, HD.out, by simp at hk ⊢; omega, .inr ⟨?_, hb⟩⟩, by simp [intOf]; omega⟩
          simpa using ownsRow_lower hown (by simp)
      · go_wp2_with (at_builtin; refine wpList_append_own _ rfl (.tmp 12) (.tmp 16) 22 rfl w.heap.size 5 i0 (.int .u8 0) 1 1 Tryz.underlying22 hi hz0 hz1 hz2 rfl (by decide) _ (n + ds.length) ((zs ++ ds).map (.int .u8)) rfl (hown.alloc _) ⟨wr.heap.size, 0, none⟩ 1 1 [.int .u8 (viHigh y)] rfl rfl ?n1_2 (one_oneCell _) (by unfold maxLen; omega) (by omega) (by simp; exact Nat.le_trans hb.size (Nat.le_succ _)) ?n2_2)
        case n1_2 => exact one_cells wr 5 _
        case n2_2 =>
          intro v' w1 hown' hg _
          have hb1 := (hb.alloc hb.size _).grown hg (by simp; exact Nat.le_trans hb.size (Nat.le_succ _)) (fun k h => (hown.lt k h).1)
          go_wp2
          refine ⟨⟨k, y / 128, ds ++ [viHigh y], rfl, by omega, by rw [Int.pow_succ] at hy1; omega, by rw [List.append_assoc]; exact HD.out, by simp at hk ⊢; omega, .inr ⟨?_, hb1⟩⟩, by simp [intOf]; omega⟩
          simpa [Nat.add_assoc] using hown'
    · have hd : decide (127 < y) = false := decide_eq_false h
      have hv : vi k y = [y] := by
        cases k with
        | zero => rfl
        | succ k => simp only [vi, if_neg h]
      rw [hv] at hds
      have HD := Lib.hid hds
      clear hds hv
      have hlen : (vi 9 x).length = ds.length + 1 := by rw [← HD.out]; simp
      rcases hrel with ⟨rfl, rfl, hw0⟩ | ⟨hown, hb⟩
      · obtain rfl : w = wr := hw0.symm
        go_wp2_with (at_builtin; refine wpList_append_grows _ rfl (.tmp 18) (.tmp 21) 22 rfl 5 i0 (.int .u8 0) 1 1 Tryz.underlying22 hi hz0 hz1 hz2 rfl (by decide) ao n n (zs.map (.int .u8)) rfl HN.out (by simp [HZ.out]) (fun b e j u hj => pw_cell_below ((Below.refl _ w).alloc (Nat.le_refl _) _) (HR.out.2 b e j u hj)) ⟨w.heap.size, 0, none⟩ 1 1 [.int .u8 y] rfl rfl ?n1_3 (one_oneCell _) (by omega) (by unfold maxLen; omega) (by omega) ?n2_3)
        case n2_3 =>
          intro v' w1 hown hg
          have hb := ((Below.refl w.heap.size w).alloc (Nat.le_refl _) _).grown hg (by simp) (fun k h => by cases h)
          go_wp2
          go_ret
          refine ⟨_, rfl, ?_, hb⟩
          rw [← HD.out]
          simpa using ownsRow_lower hown (by simp)
      · go_wp2_with (at_builtin; refine wpList_append_own _ rfl (.tmp 18) (.tmp 21) 22 rfl w.heap.size 5 i0 (.int .u8 0) 1 1 Tryz.underlying22 hi hz0 hz1 hz2 rfl (by decide) _ (n + ds.length) ((zs ++ ds).map (.int .u8)) rfl (hown.alloc _) ⟨wr.heap.size, 0, none⟩ 1 1 [.int .u8 y] rfl rfl ?n1_4 (one_oneCell _) (by unfold maxLen; omega) (by omega) (by simp; exact Nat.le_trans hb.size (Nat.le_succ _)) ?n2_4)
        case n2_4 =>
          intro v' w1 hown' hg _
          have hb1 := (hb.alloc hb.size _).grown hg (by simp; exact Nat.le_trans hb.size (Nat.le_succ _)) (fun k h => (hown.lt k h).1)
          go_wp2
          go_ret
          refine ⟨_, rfl, ?_, hb1⟩
          rw [← HD.out]
          simpa [Nat.add_assoc] using hown'
end Go.Proofs.YteflfnjljjianaaGreatDoor.Qx
namespace Go.Proofs.YteflfnjljjianaaGreatDoor.Qx
open Go.RowKit Go.Proofs.YteflfnjljjianaaGreatDoorW.PrintWords Go.Proofs.YteflfnjljjianaaGreatDoorW.PrintLast Go.Proofs.YteflfnjljjianaaGreatDoorW.PrintMore
attribute [local go_sem] max2_int min2_int max_two min_two
set_option linter.unusedVariables false
set_option linter.unusedSimpArgs false
def digStep (h x : Int) : Int := IntKind.u64.wrap (bits BinOp.xor IntKind.u64 (IntKind.u64.wrap (bits BinOp.xor IntKind.u64 h x * 15485907386658061715)) (IntKind.u64.wrap (bits BinOp.xor IntKind.u64 h x * 15485907386658061715) / 4294967296) * 11562461410679940143)
set_option maxRecDepth 100000 in
set_option maxHeartbeats 2000000 in
theorem digest_add.one (sa ad : Addr) (c : Nat) (h x : Int) (w : World) (h0 : w.cell? sa = some (.int .u64 h)) (hf : w.frozen? sa = false) (h1 : w.cell? ad = some (.int .u64 x)) :
    Calls Tryz.prog 142 #[.pointer (some sa), .slice (some ad) 1 c] w fun e w' => e = .returned (.tuple #[]) ∧ w' = w.setCell sa (.int .u64 (digStep h x)) := by
  have hu173 := Tryz.underlying173
  have hu205 := Tryz.underlying205
  have ez : ad.add (0 * 1) = ad := rfl
  have ez2 : ad.add 0 = ad := rfl
  go_enter Tryz.func142, Tryz.ntmps142
  go_wp2
  refine wp_loop_rounds 2 ?_
  rw [rounds_succ]
  go_wp2
  rw [rounds_succ]
  go_wp2
  go_end0
  exact ⟨rfl, rfl⟩
section
variable {F : Fence} {n : Nat} {P : Program}
structure ButBox (gb : Nat) (A B : World) : Prop where
  os : B.os = A.os
  tape : B.tape = A.tape
  output : B.output = A.output
  size : A.heap.size = B.heap.size
  block : ∀ k, k ≠ gb → B.heap[k]? = A.heap[k]?
theorem ButBox.setCell (gb : Nat) (W : World) (v : Value) : ButBox gb W (W.setCell ⟨gb, 0, none⟩ v) :=
  ⟨rfl, rfl, rfl, by simp, fun k hk => Below.heap_setCell W ⟨gb, 0, none⟩ v k hk⟩
theorem wpIn_rangeFunc_box {α : Type} {g : Operand} {ps : Array Tmp} {assign body : Code} {Q : Exit → Act → World → Prop} {a : Act} {w : World}
    (hro : F.round = none) (h1 : 1 ≤ n) {gf : Nat} {lb : Array Value} (hg : a.eval g = .func (.func gf) #[] lb) (hFg : F.fn gf) (eg : ∀ args w, (callFunc gf args).run P w = .ok (.enter gf args) w)
    {encs : α → Array Value} (hps : ∀ x, (encs x).size = ps.size) (gb : Nat) (hgb : gb < w.heap.size) (keep : Nat → Prop) (xs : List α) (I : List α → World → Prop)
    (hseq : ∀ (J : List α → World → Prop) (W : World), Below w.heap.size w W → (∀ pre A B, J pre A → ButBox gb A B → J pre B) →
      (∀ pre x W1, J pre W1 → YieldAt F (n - 1 - 1) P (w.heap.size + 1) (encs x) W1 fun e W' => e = .returned (.bool true) ∧ J (pre ++ [x]) W' ∧ W1.heap.size ≤ W'.heap.size ∧ ∀ k, k < w.heap.size → keep k → W'.heap[k]? = W1.heap[k]?) →
      J [] W → CallsIn F (n - 1) P gf (#[.func (.yield (w.heap.size + 1)) #[] #[]] ++ lb) W fun e W' => (∃ v, e = .returned v) ∧ J xs W')
    (hI : ∀ pre A B, I pre A → ButBox gb A B → I pre B) (hIp : ∀ pre W l o, w.heap.size ≤ l → I pre W → I pre (W.putObj l o)) (h0 : ∀ W, Below w.heap.size w W → I [] W) (a₁ : α → Act)
    (hassign : ∀ (l : Nat) (x : α) (W : World) (K : Act → World → Prop), K (a₁ x) W →
      assign.wpIn (F.inRound l) (n - 1 - 1) P (Exit.then K (fun _ _ _ => False)) { tmps := (ps.zip (encs x)).foldl (fun t (p, v) => t.setIfInBounds p v) a.tmps, defers := [] } W)
    (hbody : ∀ (l : Nat) (pre : List α) (x : α) (W : World), I pre W → body.wpIn (F.inRound l) (n - 1 - 1) P (fun e _ W' => e = .normal ∧ I (pre ++ [x]) W' ∧ W.heap.size ≤ W'.heap.size ∧ ∀ k, k < W.heap.size → (k < w.heap.size → keep k) → W'.heap[k]? = W.heap[k]?) (a₁ x) W)
    (hdone : ∀ (D : Nat) (W : World), w.heap.size ≤ D → I xs W → W.heap[D]? = some (.deferred (some [])) → Q .normal { a with defers := { target := .collected D, args := #[] } :: a.defers } W) :
    (Code.rangeFunc g ps assign body).wpIn F n P Q a w := by
  refine wpIn_rangeFunc ?_
  intro fn hfn
  rw [hro]
  obtain ⟨rec, hrec⟩ : ∃ rec : LoopState → Option Code → Loop, rec = fun st pe => { state := st, pending := pe, fn, tmps := a.tmps, params := ps, assign, body, defers := w.heap.size } := ⟨_, rfl⟩
  obtain ⟨W1, hW1⟩ : ∃ W1, (w.alloc (.deferred (some []))).alloc (.loop (rec .ready none)) = W1 := ⟨_, rfl⟩
  have hL1 : W1.heap[w.heap.size + 1]? = some (.loop (rec .ready none)) := by
    rw [← hW1]
    have := World.alloc_heap_new (w.alloc (.deferred (some []))) (.loop (rec .ready none))
    rwa [World.size_alloc] at this
  have hK1 : W1.heap[w.heap.size]? = some (.deferred (some [])) := by
    rw [← hW1]
    exact (Below.heap_alloc _ _ _ (by simp)).trans (World.alloc_heap_new w _)
  have hb1 : Below w.heap.size w W1 := by
    rw [← hW1]
    exact ((Below.refl _ w).alloc (Nat.le_refl _) _).alloc (by simp) _
  refine ⟨w.heap.size + 1, [{ target := .collected w.heap.size, args := #[] }], W1, { target := .fn (.func gf) lb, args := #[.func (.yield (w.heap.size + 1)) #[] #[]] }, W1, gf,
    #[.func (.yield (w.heap.size + 1)) #[] #[]] ++ lb, W1, ?_, ?_, ?_, ?_, fun _ => h1, ?_⟩
  · rw [← hW1, hrec]
    exact run_enterLoop_outer _ _ _ _ _
  · simp only [resolve, hg]
    simp [go_sem]
  · intro f' hf'
    simp [Target.leads] at hf'
    subst hf'
    exact hFg
  · simp [invoke, go_sem, eg]
  · refine (hseq (fun pre W => I pre W ∧ W.heap[w.heap.size + 1]? = some (.loop (rec .ready none)) ∧ W.heap[w.heap.size]? = some (.deferred (some []))) W1 hb1
      (fun pre A B hs hk => ⟨hI pre A B hs.1 hk, (hk.block _ (by omega)).trans hs.2.1, (hk.block _ (by omega)).trans hs.2.2⟩) ?_ ⟨h0 W1 hb1, hL1, hK1⟩).mono ?_
    · rintro pre x W ⟨hi, hl, hk⟩
      have hlt : w.heap.size + 1 < W.heap.size := (Array.getElem?_eq_some_iff.1 hl).1
      have hy := run_yield (P := P) (args := encs x) hl (by rw [hrec]; exact hps x)
      rw [hrec] at hy
      refine ⟨fn, _, assign, body, hy, roundIn_of_wpIn hfn (hassign _ x W _ ⟨_, run_beginRound hl (by rw [hrec]), ?_⟩)⟩
      have hl2 : (W.putObj (w.heap.size + 1) (.loop { rec .ready none with state := .busy })).heap[w.heap.size + 1]? = some (.loop { rec .ready none with state := .busy }) := World.putObj_heap_same hlt
      have hk2 : (W.putObj (w.heap.size + 1) (.loop { rec .ready none with state := .busy })).heap[w.heap.size]? = some (.deferred (some [])) := (World.putObj_heap_other (by omega)).trans hk
      refine wpIn_mono (hbody _ pre x _ (hIp _ _ _ _ (by omega) hi)) ?_
      rintro e a3 W3 ⟨rfl, hi3, hs3, hk3⟩
      have hlt2 : w.heap.size + 1 < (W.putObj (w.heap.size + 1) (.loop { rec .ready none with state := .busy })).heap.size := by simpa using hlt
      have hl3 := (hk3 (w.heap.size + 1) hlt2 (by omega)).trans hl2
      have hr := run_endRound (P := P) none hl3
      refine ⟨_, _, hr, rfl, ⟨hIp _ _ _ _ (by omega) hi3, ?_, (World.putObj_heap_other (by omega)).trans ((hk3 w.heap.size (by simp; omega) (fun h => absurd h (Nat.lt_irrefl _))).trans hk2)⟩, ?_, ?_⟩
      · rw [World.putObj_heap_same (Array.getElem?_eq_some_iff.1 hl3).1, hrec]
        rfl
      · simpa using hs3
      · intro k hkl hkk
        exact (World.putObj_heap_other (by omega)).trans ((hk3 k (by simp; omega) (fun _ => hkk)).trans (World.putObj_heap_other (by omega)))
    · rintro e W2 ⟨⟨v, rfl⟩, hi, hl, hk⟩
      exact ⟨none, _, by have := run_endLoop (P := P) hl (by rw [hrec]; simp); rw [hrec] at this; exact this, hdone _ _ (Nat.le_refl _) (hIp _ _ _ _ (by omega) hi) ((World.putObj_heap_other (by omega)).trans hk)⟩
end
theorem digest_groups.calls (ao : Option Addr) (n c : Nat) (w : World) : Calls Tryz.prog 141 #[.slice ao n c] w fun e w' => e = .returned (.func (.func 165) #[] #[.pointer (some ⟨w.heap.size, 0, none⟩)]) ∧ w' = w.alloc (.cells #[.slice ao n c] 22) := by
  have hu22 := Tryz.underlying22
  go_enter Tryz.func141, Tryz.ntmps141
  go_wp2
  go_ret
  exact ⟨rfl, rfl⟩
theorem BytesAt.moved {W W' : World} {ao : Option Addr} {zs : List Int} (h : BytesAt W ao zs) (hh : ∀ a, ao = some a → W'.heap[a.block]? = W.heap[a.block]?) : BytesAt W' ao zs :=
  ⟨h.1, fun b e j u hj => (World.cell?_of_block (by rw [add_block]; exact hh b e)).trans (h.2 b e j u hj)⟩
theorem BytesAt.cut {W : World} {b : Addr} {zs : List Int} (h : BytesAt W (some b) zs) (q c : Nat) (hc : zs.length ≤ c) : BytesAt W (if c = q then some b else some (b.add q)) (zs.drop q) := by
  split
  · have : zs.drop q = [] := List.drop_eq_nil_of_le (by omega)
    rw [this]
    exact ⟨nofun, fun _ _ _ _ hj => by simp at hj⟩
  · refine ⟨nofun, fun d e j u hj => ?_⟩
    cases e
    have := h.2 b rfl (q + j) u (by rw [← hj]; simp [List.getElem?_drop])
    rwa [show (b.add q).add j = b.add (q + j) by
      by_cases hq0 : q = 0 <;> by_cases hj0 : j = 0 <;> simp [Addr.add, hq0, hj0, Nat.add_assoc]]
def wordOf (zs : List Int) : Nat → Int
  | 0 => 0
  | j + 1 => bits BinOp.or IntKind.u64 (wordOf zs j) (IntKind.u64.wrap (IntKind.u64.wrap (zs.getD j 0) * 2 ^ (8 * j)))
def wordsOf : Nat → List Int → List Int
  | 0, _ => []
  | k + 1, zs => if zs = [] then [] else wordOf zs (min 8 zs.length) :: wordsOf k (zs.drop 8)
set_option maxRecDepth 100000 in
set_option maxHeartbeats 2000000 in
theorem digest_groups_1.gives (F : Fence) (n : Nat) (hF : F.fn 165) (hro : F.round = none) (hn : 1 ≤ n) (l gb lim : Nat) (hgl : gb < lim) (keep : Nat → Prop) (hkg : keep gb) (J : List Int → World → Prop) (hJ : ∀ pre A B, J pre A → ButBox gb A B → J pre B)
    (hY : ∀ pre x W1, J pre W1 → YieldAt F (n - 1) Tryz.prog l #[.int .u64 x] W1 fun e W' => e = .returned (.bool true) ∧ J (pre ++ [x]) W' ∧ W1.heap.size ≤ W'.heap.size ∧ ∀ k, k < lim → keep k → W'.heap[k]? = W1.heap[k]?)
    (ao : Option Addr) (m c : Nat) (zs0 : List Int) (hz : zs0.length = m) (hm : m ≤ 1000000) (hc : m ≤ c) (W : World) (hb : W.heap[gb]? = some (.cells #[.slice ao m c] 22 (0, 0))) (hr : BytesAt W ao zs0) (hal : ∀ a, ao = some a → a.block < lim ∧ keep a.block ∧ a.block ≠ gb) (h0 : J [] W) :
    CallsIn F n Tryz.prog 165 #[.func (.yield l) #[] #[], .pointer (some ⟨gb, 0, none⟩)] W fun e W' => (∃ v, e = .returned v) ∧ J (wordsOf (m + 1) zs0) W' := by
  subst hz
  have hu22 := Tryz.underlying22
  refine callsIn_of_wp Tryz.func165 rfl hF ?_ hro
  simp only [Tryz.ntmps165, List.size_toArray, List.length_cons, List.length_nil, Nat.reduceAdd, Nat.reduceSub, Array.replicate_succ, Array.replicate_zero, List.push_toArray, List.append_toArray, List.nil_append, List.cons_append]
  gi_wp2
  gi_loopw [3, 4] (fun _ _ wr => ∃ (ao : Option Addr) (m c : Nat) (zs pre : List Int) (k : Nat), zs.length = m ∧ m ≤ 1000000 ∧ m ≤ c ∧ m < k ∧ pre ++ wordsOf k zs = wordsOf (zs0.length + 1) zs0 ∧ wr.heap[gb]? = some (.cells #[.slice ao m c] 22 (0, 0)) ∧ BytesAt wr ao zs ∧ (∀ a, ao = some a → a.block < lim ∧ keep a.block ∧ a.block ≠ gb) ∧ J pre wr) (fun _ _ wr => match wr.cell? ⟨gb, 0, none⟩ with | some (.slice _ m _) => m | _ => 0)
  case atStart => exact ⟨ao, _, c, zs0, [], _, rfl, hm, hc, Nat.lt_succ_self _, rfl, hb, hr, hal, h0⟩
  case round =>
    clear hb hr hal h0 hc hm
    obtain ⟨ao, m, c, zs, pre, k, hz, hm, hc, hk, hpre, hb, hr, hal, hJp⟩ := hrel
    have c0 : wr.cell? ⟨gb, 0, none⟩ = some (.slice ao m c) := (blk_cell hb 0).trans rfl
    by_cases hm0 : m = 0
    · subst hm0
      obtain rfl : zs = [] := List.eq_nil_of_length_eq_zero hz
      obtain ⟨k, rfl⟩ : ∃ q, k = q + 1 := ⟨k - 1, by omega⟩
      have hw0 : wordsOf (k + 1) [] = [] := by simp [wordsOf]
      rw [hw0, List.append_nil] at hpre
      have HP := Lib.hid hpre
      clear hpre hr hal
      gi_wp2
      go_end0
      refine ⟨⟨_, rfl⟩, ?_⟩
      rw [← HP.out]
      exact hJp
    · obtain ⟨q, hq⟩ : ∃ q, q = min 8 m := ⟨_, rfl⟩
      have hq8 : q ≤ 8 := by omega
      have hqm : q ≤ m := by omega
      have hq0 : 0 < q := by omega
      have hmn : (if m < 8 then (m : Int) else 8) = (q : Int) := by split <;> omega
      obtain ⟨k, rfl⟩ : ∃ q, k = q + 1 := ⟨k - 1, by omega⟩
      have hzn : zs ≠ [] := by rintro rfl; exact hm0 hz.symm
      have hw1 : wordsOf (k + 1) zs = wordOf zs q :: wordsOf k (zs.drop 8) := by simp only [wordsOf, if_neg hzn, hz, ← hq]
      rw [hw1] at hpre
      clear hw1
      obtain ⟨b, rfl⟩ : ∃ b, ao = some b := by
        cases ao with
        | none => exact absurd (hr.1 rfl) hzn
        | some b => exact ⟨b, rfl⟩
      obtain ⟨fn, tmps, assign, body, hy, hR⟩ := hY pre (wordOf zs q) wr hJp
      have HP := Lib.hid hpre
      have HR := Lib.hid hr
      have HA := Lib.hid hal
      have HJ := Lib.hid hJ
      have HZ := Lib.hid hz
      have HQ := Lib.hid hq
      have hd0 : decide (0 < m) = true := decide_eq_true (by omega)
      clear hpre hr hal hz hq hzn hY hJ
      gi_wp2
      case inl =>
        obtain rfl : q = m := by have := HQ.out; omega
        gi_loopw [4, 17] (fun s4 s17 wr' => ∃ j : Nat, j ≤ q ∧ s4 = .int .u64 (wordOf zs j) ∧ s17 = .int .i64 j ∧ wr' = wr) (fun _ s17 _ => q - (intOf s17).toNat)
        case atStart => exact ⟨0, Nat.zero_le _, rfl, rfl, rfl⟩
        case round =>
          obtain ⟨j, hj, rfl, rfl, hw⟩ := hrel
          subst hw
          by_cases hjq : j < q
          · have hx := HR.out.2 b rfl j (.int .u8 (zs.getD j 0)) (by
              have : j < zs.length := by have := HZ.out; omega
              simp [List.getD_eq_getElem?_getD, List.getElem?_eq_getElem this])
            have hd1 : decide ((j : Int) < (q : Int)) = true := decide_eq_true (by omega)
            have hd2 : (j : Int) < (q : Int) := by omega
            gi_wp2
            refine ⟨⟨j + 1, hjq, ?_, by simp, trivial⟩, by simp [intOf]; omega⟩
            simp [wordOf]
          · obtain rfl : q = j := by omega
            gi_wp2
            refine hR.mono ?_
            rintro e W3 ⟨rfl, hJ3, hs3, hk3⟩
            have hb3 := (hk3 gb hgl hkg).trans hb
            have c3 : W3.cell? ⟨gb, 0, none⟩ = some (.slice (some b) _ c) := (blk_cell hb3 0).trans rfl
            have f3 := blk_frozen hb3 0
            gi_wp2
            have hb4 := blk_set hb3 0 (.slice (if c = q then some b else some (b.add q)) (0) (c - q))
            have c4 := blk_cell hb4 0
            refine ⟨⟨if c = q then some b else some (b.add q), 0, c - q, zs.drop 8, pre ++ [wordOf zs q], k, by have := HZ.out; simp; omega, by omega, by omega, by omega, by rw [List.append_assoc]; exact HP.out, ?_, ?_, ?_, ?_⟩, ?_⟩
            · exact hb4
            · have : zs.drop 8 = [] := List.drop_eq_nil_of_le (by have := HZ.out; omega)
              rw [this]
              exact ⟨fun _ => rfl, fun _ _ _ _ hj => by simp at hj⟩
            · intro a ha
              have : a.block = b.block := by
                split at ha <;> (cases ha; first | rfl | rw [add_block])
              rw [this]
              exact HA.out b rfl
            · exact HJ.out _ _ _ hJ3 (ButBox.setCell gb W3 _)
            · rw [c4, c0]
              simp
              omega
      case inr =>
        obtain rfl : q = 8 := by have := HQ.out; omega
        gi_loopw [4, 17] (fun s4 s17 wr' => ∃ j : Nat, j ≤ 8 ∧ s4 = .int .u64 (wordOf zs j) ∧ s17 = .int .i64 j ∧ wr' = wr) (fun _ s17 _ => 8 - (intOf s17).toNat)
        case atStart => exact ⟨0, Nat.zero_le _, rfl, rfl, rfl⟩
        case round =>
          obtain ⟨j, hj, rfl, rfl, hw⟩ := hrel
          subst hw
          by_cases hjq : j < 8
          · have hx := HR.out.2 b rfl j (.int .u8 (zs.getD j 0)) (by
              have : j < zs.length := by have := HZ.out; omega
              simp [List.getD_eq_getElem?_getD, List.getElem?_eq_getElem this])
            have hd1 : decide ((j : Int) < 8) = true := decide_eq_true (by omega)
            have hd2 : (j : Int) < 8 := by omega
            gi_wp2
            refine ⟨⟨j + 1, hjq, ?_, by simp, trivial⟩, by simp [intOf]; omega⟩
            simp [wordOf]
          · obtain rfl : j = 8 := by omega
            gi_wp2
            refine hR.mono ?_
            rintro e W3 ⟨rfl, hJ3, hs3, hk3⟩
            have hb3 := (hk3 gb hgl hkg).trans hb
            have c3 : W3.cell? ⟨gb, 0, none⟩ = some (.slice (some b) m c) := (blk_cell hb3 0).trans rfl
            have f3 := blk_frozen hb3 0
            gi_wp2
            have ez8 : b.add 8 = { block := b.block, off := b.off + 8 } := by simp [Addr.add]
            have hb4 := blk_set hb3 0 (.slice (if c = 8 then some b else some { block := b.block, off := b.off + 8 }) (m - 8) (c - 8))
            have c4 := blk_cell hb4 0
            refine ⟨⟨if c = 8 then some b else some (b.add 8), m - 8, c - 8, zs.drop 8, pre ++ [wordOf zs 8], k, by have := HZ.out; simp; omega, by omega, by omega, by omega, by rw [List.append_assoc]; exact HP.out, ?_, ?_, ?_, ?_⟩, ?_⟩
            · rw [ez8]
              exact hb4
            · refine BytesAt.cut (BytesAt.moved HR.out ?_) 8 c (by have := HZ.out; omega)
              intro a e
              cases e
              have ha := HA.out b rfl
              exact (Below.heap_setCell _ _ _ _ ha.2.2).trans (hk3 _ ha.1 ha.2.1)
            · intro a ha
              have : a.block = b.block := by
                split at ha <;> (cases ha; first | rfl | rw [add_block])
              rw [this]
              exact HA.out b rfl
            · exact HJ.out _ _ _ hJ3 (ButBox.setCell gb W3 _)
            · rw [c4, c0]
              simp
              omega
attribute [local go_sem] Oper.semAt_some
def digest_Bytes.l (zs : List Int) : Int := digStep ((wordsOf (zs.length + 1) zs).foldl digStep 422944466291) (zs.length : Int)
set_option maxRecDepth 100000 in
set_option maxHeartbeats 4000000 in
theorem digest_Bytes.calls (ao : Option Addr) (m c : Nat) (zs : List Int) (hz : zs.length = m) (hm : m ≤ 1000000) (hc : m ≤ c) (w : World) (hr : BytesAt w ao zs) (hal : ∀ a, ao = some a → a.block < w.heap.size) :
    Calls Tryz.prog 112 #[.slice ao m c] w fun e w' => e = .returned (.int .u64 (digest_Bytes.l zs)) ∧ Below w.heap.size w w' := by
  have hu22 := Tryz.underlying22
  have hu173 := Tryz.underlying173
  have hu205 := Tryz.underlying205
  have HR := Lib.hid hr
  have HA := Lib.hid hal
  have HZ := Lib.hid hz
  clear hr hal
  refine (callsIn_wide (n := 5)).1 ?_
  refine callsIn_of_wp_marks Tryz.func112 rfl trivial ?_ rfl
  simp only [Tryz.ntmps112, List.size_toArray, List.length_cons, List.length_nil, Nat.reduceAdd, Nat.reduceSub, Array.replicate_succ, Array.replicate_zero, List.push_toArray, List.append_toArray, List.nil_append, List.cons_append]
  gi_wp2_with (refine ⟨trivial, ?_⟩; gi_at_call 141; refine (callsIn_wide.2 (digest_groups.calls ao m c _)).mono ?_; rintro e w' ⟨rfl, rfl⟩)
  have BS := blk_alloc (heap_alloc_new w (.cells #[.int .u64 422944466291] 173)) (.cells #[.slice ao m c] 22)
  have BG := heap_alloc_new (w.alloc (.cells #[.int .u64 422944466291] 173)) (.cells #[.slice ao m c] 22)
  have hB := ((Below.refl w.heap.size w).alloc (Nat.le_refl _) (.cells #[.int .u64 422944466291] 173)).alloc (by simp only [World.size_alloc]; omega) (.cells #[.slice ao m c] 22)
  have hW : ((w.alloc (.cells #[.int .u64 422944466291] 173)).alloc (.cells #[.slice ao m c] 22)).heap.size = w.heap.size + 2 := by simp
  simp only [World.size_alloc] at BG
  generalize (w.alloc (.cells #[.int .u64 422944466291] 173)).alloc (.cells #[.slice ao m c] 22) = W at *
  refine wpIn_rangeFunc_box rfl (by omega) (gf := 165) (lb := #[.pointer (some ⟨w.heap.size + 1, 0, none⟩)]) rfl trivial (enters_of Tryz.func165 (by kernel_rfl) rfl) (encs := fun x => #[.int .u64 x]) (fun _ => rfl) (w.heap.size + 1) (by omega) (fun k => k ≠ w.heap.size) (wordsOf (m + 1) zs)
    (fun pre V => V.heap[w.heap.size]? = some (.cells #[.int .u64 (pre.foldl digStep 422944466291)] 173 (0, 0)) ∧ Below w.heap.size w V) ?seq ?hI ?hIp ?h0 (fun x => { tmps := #[.slice ao m c, undef, .int .u64 0, .pointer (some ⟨w.heap.size, 0, none⟩), .int .u64 x, .slice ao m c, .func (.func 165) #[] #[.pointer (some ⟨w.heap.size + 1, 0, none⟩)], .int .u64 x, undef, undef, undef, undef, undef, undef, undef, undef, undef], defers := [] }) ?assign ?body ?done
  case seq =>
    intro J W1 hb1 hJ hY h0
    refine digest_groups_1.gives Fence.wide _ trivial rfl (by omega) _ (w.heap.size + 1) W.heap.size (by omega) (fun k => k ≠ w.heap.size) (by omega) J hJ hY ao m c zs hz hm hc W1 ((hb1.block _ (by omega)).trans BG) (HR.out.moved ?_) ?_ h0
    · intro a e
      have := HA.out a e
      exact (hb1.block _ (by omega)).trans (hB.block _ this)
    · intro a e
      have := HA.out a e
      exact ⟨by omega, by omega, by omega⟩
  case hI =>
    rintro pre A B ⟨h1, h2⟩ hk
    exact ⟨(hk.block _ (by omega)).trans h1, ⟨hk.os.trans h2.os, hk.tape.trans h2.tape, hk.output.trans h2.output, hk.size ▸ h2.size, fun k hkl => (hk.block k (by omega)).trans (h2.block k hkl)⟩⟩
  case hIp =>
    rintro pre V l o hl ⟨h1, h2⟩
    exact ⟨(World.putObj_heap_other (by omega)).trans h1, ⟨h2.os, h2.tape, h2.output, by simpa using h2.size, fun k hkl => (World.putObj_heap_other (by omega)).trans (h2.block k hkl)⟩⟩
  case h0 =>
    intro V hV
    exact ⟨(hV.block _ (by omega)).trans BS, hB.trans (hV.mono (by omega))⟩
  case assign =>
    intro l x V K hK
    gi_wp2
    exact hK
  case body =>
    rintro l pre x V ⟨h1, h2⟩
    have hlt : w.heap.size < V.heap.size := blk_lt h1
    have k0 : (V.alloc (.cells #[.int .u64 x] 133)).cell? ⟨w.heap.size, 0, none⟩ = some (.int .u64 (pre.foldl digStep 422944466291)) := (blk_cell (blk_alloc h1 _) 0).trans rfl
    have k1 : (V.alloc (.cells #[.int .u64 x] 133)).frozen? ⟨w.heap.size, 0, none⟩ = false := blk_frozen (blk_alloc h1 _) 0
    have k2 : (V.alloc (.cells #[.int .u64 x] 133)).cell? ⟨V.heap.size, 0, none⟩ = some (.int .u64 x) := by simp [go_sem]
    have hwp : 1 ≤ 5 - 1 - 1 := by omega
    gi_wp2
    refine ⟨trivial, (CallsIn.inRound l (callsIn_wide.2 (digest_add.one _ _ _ _ _ _ k0 k1 k2))).mono ?_⟩
    rintro e w' ⟨rfl, rfl⟩
    have B5 := blk_set (blk_alloc h1 (.cells #[.int .u64 x] 133)) 0 (.int .u64 (digStep (pre.foldl digStep 422944466291) x))
    have hB2 := below_set (j := 0) (g := w.heap.size) (v := .int .u64 (digStep (pre.foldl digStep 422944466291) x)) (h2.alloc h2.size (.cells #[.int .u64 x] 133)) (Nat.le_refl _)
    have hk2 : ∀ k, k < V.heap.size → (k < W.heap.size → k ≠ w.heap.size) → ((V.alloc (.cells #[.int .u64 x] 133)).setCell ⟨w.heap.size, 0, none⟩ (.int .u64 (digStep (pre.foldl digStep 422944466291) x))).heap[k]? = V.heap[k]? := by
      intro k hk hkk
      have hne : k ≠ w.heap.size := by
        intro e
        subst e
        exact hkk (by omega) rfl
      exact (Below.heap_setCell _ _ _ _ hne).trans (Below.heap_alloc V _ k hk)
    have hs2 : V.heap.size ≤ ((V.alloc (.cells #[.int .u64 x] 133)).setCell ⟨w.heap.size, 0, none⟩ (.int .u64 (digStep (pre.foldl digStep 422944466291) x))).heap.size := by simp
    generalize (V.alloc (.cells #[.int .u64 x] 133)).setCell ⟨w.heap.size, 0, none⟩ (.int .u64 (digStep (pre.foldl digStep 422944466291) x)) = U at *
    have H5 := Lib.hid B5
    have H2 := Lib.hid hB2
    have HK := Lib.hid hk2
    clear B5 hB2 hk2
    gi_wp2
    refine ⟨⟨H5.out, H2.out⟩, ?_⟩
    exact fun k a b => HK.out k a (by rw [hW]; exact b)
  case done =>
    intro D V hD ⟨h1, h2⟩ hK
    have hlt : w.heap.size < V.heap.size := blk_lt h1
    have hDl : D < V.heap.size := (Array.getElem?_eq_some_iff.1 hK).1
    have k0 : (V.alloc (.cells #[.int .u64 (m : Int)] 133)).cell? ⟨w.heap.size, 0, none⟩ = some (.int .u64 ((wordsOf (m + 1) zs).foldl digStep 422944466291)) := (blk_cell (blk_alloc h1 _) 0).trans rfl
    have k1 : (V.alloc (.cells #[.int .u64 (m : Int)] 133)).frozen? ⟨w.heap.size, 0, none⟩ = false := blk_frozen (blk_alloc h1 _) 0
    have k2 : (V.alloc (.cells #[.int .u64 (m : Int)] 133)).cell? ⟨V.heap.size, 0, none⟩ = some (.int .u64 (m : Int)) := by simp [go_sem]
    gi_wp2
    refine ⟨trivial, (callsIn_wide.2 (digest_add.one _ _ _ _ _ _ k0 k1 k2)).mono ?_⟩
    rintro e w' ⟨rfl, rfl⟩
    have B5 := blk_set (blk_alloc h1 (.cells #[.int .u64 (m : Int)] 133)) 0 (.int .u64 (digStep ((wordsOf (m + 1) zs).foldl digStep 422944466291) (m : Int)))
    have k5 := blk_cell B5 0
    have hK2 : (((V.alloc (.cells #[.int .u64 (m : Int)] 133)).setCell ⟨w.heap.size, 0, none⟩ (.int .u64 (digStep ((wordsOf (m + 1) zs).foldl digStep 422944466291) (m : Int))))).heap[D]? = some (.deferred (some [])) := (Below.heap_setCell _ _ _ _ (by show D ≠ w.heap.size; omega)).trans ((Below.heap_alloc V _ D hDl).trans hK)
    have hB2 := below_set (j := 0) (g := w.heap.size) (v := .int .u64 (digStep ((wordsOf (m + 1) zs).foldl digStep 422944466291) (m : Int))) (h2.alloc h2.size (.cells #[.int .u64 (m : Int)] 133)) (Nat.le_refl _)
    generalize (V.alloc (.cells #[.int .u64 (m : Int)] 133)).setCell ⟨w.heap.size, 0, none⟩ (.int .u64 (digStep ((wordsOf (m + 1) zs).foldl digStep 422944466291) (m : Int))) = U at *
    gi_wp2
    refine ⟨by simp, .inl ⟨_, _, rfl, run_takeDeferred hK2, ?_⟩⟩
    refine ⟨_, results_tmp rfl _ _ _, ?_, ?_⟩
    · simp [digest_Bytes.l, HZ.out]
    · exact ⟨hB2.os, hB2.tape, hB2.output, by simpa using hB2.size, fun k hkl => (World.putObj_heap_other (by omega)).trans (hB2.block k hkl)⟩
end Go.Proofs.YteflfnjljjianaaGreatDoor.Qx
namespace Go.Proofs.YteflfnjljjianaaGreatDoor.Qx
open Go.RowKit Go.Proofs.YteflfnjljjianaaGreatDoorW.PrintWords Go.Proofs.YteflfnjljjianaaGreatDoorW.PrintLast Go.Proofs.YteflfnjljjianaaGreatDoorW.PrintMore
attribute [local go_sem] max2_int min2_int max_two min_two
set_option linter.unusedVariables false
set_option linter.unusedSimpArgs false
def bitpack_Zigzag.f (a0 : Int) : Option (Int) := some (Go.bits .xor .u64 (IntKind.u64.wrap ((IntKind.u64.wrap (a0)) * 2)) (IntKind.u64.wrap (a0 / 9223372036854775808)))
set_option maxHeartbeats 8000000 in
set_option maxRecDepth 100000 in
theorem bitpack_Zigzag.calls (a0 : Int) (r : Int) (w : World) (h : bitpack_Zigzag.f a0 = some r) :
    Calls Tryz.prog 145 #[.int .i64 a0] w fun e w' => e = .returned (.int .u64 r) ∧ Drawn0 w w' := by
  have H : (some (Go.bits .xor .u64 (IntKind.u64.wrap ((IntKind.u64.wrap (a0)) * 2)) (IntKind.u64.wrap (a0 / 9223372036854775808)))) = some r := h
  clear h
  obtain rfl := Option.some.inj H
  go_enter Tryz.func145, Tryz.ntmps145
  go_wp2
  go_ret
  exact ⟨by first | rfl | (simp; done) | (simp [*]; done), by repeat (first | exact Drawn0.refl _ | apply Drawn0.step)⟩
end Go.Proofs.YteflfnjljjianaaGreatDoor.Qx
namespace Go.Proofs.YteflfnjljjianaaGreatDoor.Qx
open Go.RowKit Go.Proofs.YteflfnjljjianaaGreatDoorW.PrintWords Go.Proofs.YteflfnjljjianaaGreatDoorW.PrintLast Go.Proofs.YteflfnjljjianaaGreatDoorW.PrintMore
attribute [local go_sem] max2_int min2_int max_two min_two
set_option linter.unusedVariables false
set_option linter.unusedSimpArgs false
theorem ownsRow_cap {w : World} {b : Nat} {e : TypeId} {size : Nat} {A : Addr} {n c m : Nat} {xs : List Value} (h : w.ownsRow b e size (.slice (some A) n c) m xs) : m ≤ c := by
  rcases h.2 with ⟨h, _⟩ | ⟨g, cap, cur, e1, _, _, h2, _⟩
  · cases h
  · cases e1; exact h2
theorem Drawn0.grownBy {w w' : World} (h : Drawn0 w w') : w.grownBy w' none := by
  obtain ⟨n, rfl⟩ := h.out
  exact ⟨rfl, rfl, rfl, Nat.le_refl _, fun _ _ _ => rfl⟩
theorem BytesAt.of_own {w : World} {base : Nat} {e : TypeId} {g n m c : Nat} {xs : List Value} {zs : List Int} (h : w.ownsRow base e 1 (.slice (some ⟨g, 0, none⟩) n c) m xs) (hx : xs = zs.map (.int .u8)) : BytesAt w (some ⟨g, 0, none⟩) zs :=
  ⟨nofun, fun b e j u hj => by cases e; exact h.cells rfl j u (by rw [hx]; exact hj)⟩
def value_Append.l (k i : Int) (s : ByteArray) : List Int :=
  IntKind.u8.wrap k :: (if k = 1 then [i % 256] else if k = 2 then vi 9 ((bitpack_Zigzag.f i).getD 0) else if k = 3 then vi 9 s.size ++ s.data.toList.map (fun b => (b.toNat : Int)) else [])
def value_Append.f (k i : Int) (s : ByteArray) : Option (List Int) := if s.size ≤ 900000 then some (value_Append.l k i s) else none
theorem step_append_string {P : Program} (w : World) {ops : Array Oper} {o : Oper} {a : Act} {K : Act → World → Prop} {Q : Exit → Act → World → Prop} {E : Prop} (hgd : o.guard = none) (s x : Operand) (t u : TypeId)
    (ho : o.op = .call { callee := .builtin .append, args := #[s, x], argTypes := #[t, u] })
    (base : Nat) (e : TypeId) (i : TypeInfo) (ht : P.underlying t = some (.slice e)) (hu : P.underlying u = some .string) (hi : P.info? e = some i) (hz : i.zero = some (.int .u8 0))
    (hsize : i.size = 1) (hby : i.bytes = 1) (v : Value) (n : Nat) (xs : List Value) (hs : a.eval s = v) (hown : w.ownsRow base e 1 v n xs) (st : ByteArray) (hx : a.eval x = .string st)
    (h63 : n + st.size ≤ maxLen) (hbytes : n + st.size ≤ 140737488355328) (hbase : base ≤ w.heap.size)
    (h : ∀ v' w', w'.ownsRow base e 1 v' (n + st.size) (xs ++ Lib.strCells st) → w.grownBy w' v.ownBlock → K (a.put o.dst v') w') :
    if Region.wanted o (yielded ops a.tmps) = true then Oper.wp P o a w K Q else E := by
  have hw : Region.wanted o (yielded ops a.tmps) = true := by simp [Region.wanted, hgd]
  rw [if_pos hw]
  obtain ⟨v', w', hr, h2, h3, h4⟩ := Lib.run_append_own_string (P := P) w base t u o.type e i ht hu hi hz hsize hby v n xs hown st h63 hbytes hbase
  unfold Oper.wp execOp
  simp only [ho, resolve, invoke, builtin, Sem.run_bind, Sem.run_pure, Result.andThen_ok, List.map_toArray, List.map_cons, List.map_nil, hs, hx, hr]
  exact h v' w' h2 h3
theorem zig_lt (i r : Int) (h : bitpack_Zigzag.f i = some r) : 0 ≤ r ∧ r < 18446744073709551616 := by
  obtain rfl := Option.some.inj h
  exact ⟨bits_lo_u64 _ _ _, by have := bits_hi_u64 .xor (IntKind.u64.wrap ((IntKind.u64.wrap i) * 2)) (IntKind.u64.wrap (i / 9223372036854775808)); omega⟩
set_option maxRecDepth 100000 in
set_option maxHeartbeats 2000000 in
theorem value_Append.calls (k i : Int) (s : ByteArray) (r : List Int) (w : World) (h : value_Append.f k i s = some r) :
    Calls Tryz.prog 113 #[.slice none 0 0, .agg #[.int .i64 k, .int .i64 i, .string s]] w fun e w' => ∃ v, e = .returned v ∧ w'.ownsRow w.heap.size 5 1 v r.length (r.map (.int .u8)) ∧ Below w.heap.size w w' := by
  obtain ⟨hs, rfl⟩ : s.size ≤ 900000 ∧ value_Append.l k i s = r := by
    unfold value_Append.f at h
    split at h
    · exact ⟨by assumption, Option.some.inj h⟩
    · exact absurd h (by simp)
  clear h
  have hu22 := Tryz.underlying22
  have hu35 := Tryz.underlying35
  obtain ⟨i0, hi, hz0, hz1, hz2⟩ := info_parts info5
  go_enter Tryz.func113, Tryz.ntmps113
  go_wp2_with fail
  have B3 := heap_alloc_new w (.cells #[.int .i64 k, .int .i64 i, .string s] 35)
  have hB := (Below.refl w.heap.size w).alloc (Nat.le_refl _) (.cells #[.int .i64 k, .int .i64 i, .string s] 35)
  have hW : (w.alloc (.cells #[.int .i64 k, .int .i64 i, .string s] 35)).heap.size = w.heap.size + 1 := by simp
  generalize w.alloc (.cells #[.int .i64 k, .int .i64 i, .string s] 35) = W at *
  have c0 : W.cell? ⟨w.heap.size, 0, none⟩ = some (.int .i64 k) := (blk_cell B3 0).trans rfl
  have d0 : W.drew.cell? ⟨w.heap.size, 0, none⟩ = some (.int .i64 k) := (blk_cell (blk_drew B3) 0).trans rfl
  go_region_held3 (fun w' => w'.cell? ⟨w.heap.size, 0, none⟩ = some (.int .i64 k)) (first
      | go_keep
      | (rw [hgrow.cell_far _ (by simp [hW]; omega) (by simp [Value.ownBlock])]; assumption)) (first
      | (go_at_call 143
         refine (slices_Clip.calls none 0 0 (Nat.le_refl _) _).mono ?_
         rintro e w1 ⟨rfl, hw1⟩
         subst hw1)
      | (refine step_append_lies _ (by rfl) _ _ _ (by rfl) w.heap.size 5 i0 (.int .u8 0) 1 1 Tryz.underlying22 hi hz0 hz1 hz2 rfl (by omega) (.slice none 0 0) 0 [] (by rfl) (World.ownsRow_nil _ _ _ _) ⟨w.heap.size + 1, 0, none⟩ 1 1 [.int .u8 (IntKind.u8.wrap k)] (by rfl) (by rfl) (World.news_of_block (cs := #[.int .u8 (IntKind.u8.wrap k)]) (t := 5) (fr := (0, 0)) (by rw [← hW]; exact blk_drew (heap_alloc_new W _))) (one_oneCell _) (by omega) (by unfold maxLen; omega) (by omega) (by simp [hW]; omega) (W.heap.size + 1) (by simp) ?_
         intro g1 cap1 w1 hown hgrow hat hlt))
  all_goals
    have hB1 := (below_drew1 (hB.alloc hB.size (.cells #[.int .u8 (IntKind.u8.wrap k)] 5))).grown hgrow (by simp [hW]; omega) (fun k h => by cases h)
    have c1 : w1.cell? ⟨w.heap.size, 0, none⟩ = some (.int .i64 k) := by assumption
    have B4 : w1.heap[w.heap.size]? = some (.cells #[.int .i64 k, .int .i64 i, .string s] 35 (0, 0)) := (hgrow.block _ (by simp [hW]; omega) (by simp [Value.ownBlock])).trans (blk_drew (blk_alloc B3 _))
    clear hgrow
    have c2 : w1.cell? ⟨w.heap.size, 1, none⟩ = some (.int .i64 i) := (blk_cell B4 1).trans rfl
    have c3 : w1.cell? ⟨w.heap.size, 2, none⟩ = some (.string s) := (blk_cell B4 2).trans rfl
    by_cases h1 : k = 1
    · subst h1
      go_wp2_with (at_builtin; refine wpList_append_own _ rfl (.tmp 17) (.tmp 21) 22 rfl w.heap.size 5 i0 (.int .u8 0) 1 1 Tryz.underlying22 hi hz0 hz1 hz2 rfl (by decide) _ 1 _ rfl (hown.alloc _) ⟨w1.heap.size, 0, none⟩ 1 1 [.int .u8 (i % 256)] rfl rfl (one_cells w1 5 _) (one_oneCell _) (by unfold maxLen; omega) (by omega) (by simp; exact Nat.le_trans hB1.size (Nat.le_succ _)) ?_; intro v2 w2 hown2 hg2 _)
      go_ret
      exact ⟨_, rfl, by simpa [value_Append.l] using hown2, (hB1.alloc hB1.size _).grown hg2 (by simp; exact Nat.le_trans hB1.size (Nat.le_succ _)) (fun k h => (hown.lt k h).1)⟩
    · have d1 : (k == 1) = false := beq_false_of_ne h1
      by_cases h2 : k = 2
      · subst h2
        obtain ⟨z, hz⟩ : ∃ z, bitpack_Zigzag.f i = some z := ⟨_, rfl⟩
        have hzl := zig_lt i z hz
        have hl : value_Append.l 2 i s = IntKind.u8.wrap 2 :: vi 9 z := by simp [value_Append.l, hz]
        have HL := Lib.hid hl
        have HZ := Lib.hid hz
        clear hz hl
        go_wp2_with fail
        refine (bitpack_Zigzag.calls i z _ HZ.out).mono ?_
        rintro e w2 ⟨rfl, hd⟩
        have hown2 := hown.kept (row := none) (Drawn0.grownBy hd) (.inr (by simp [Value.ownBlock]))
        have hB2 := below_then hB1 hB1.size hd.below
        go_wp2_with fail
        refine (bitpack_Varint.calls (some ⟨g1, 0, none⟩) 1 cap1 [IntKind.u8.wrap 2] rfl (ownsRow_cap hown2) (by decide) (fun h => by cases h) z hzl.1 hzl.2 w2 (BytesAt.of_own hown2 (by simp))).mono ?_
        rintro e w3 ⟨v3, rfl, hown3, hb3⟩
        go_wp2
        go_ret
        exact ⟨_, rfl, by rw [HL.out]; simpa [Nat.add_comm] using ownsRow_lower hown3 hB2.size, below_then hB2 hB2.size hb3⟩
      · have d2 : (k == 2) = false := beq_false_of_ne h2
        by_cases h3 : k = 3
        · subst h3
          have hl : value_Append.l 3 i s = IntKind.u8.wrap 3 :: (vi 9 s.size ++ s.data.toList.map (fun b => (b.toNat : Int))) := by simp [value_Append.l]
          have HL := Lib.hid hl
          have hvi := vi_le 9 (s.size : Int)
          have hwr : IntKind.u64.wrap (s.size : Int) = s.size := by
            simp [IntKind.wrap, IntKind.bits, IntKind.signed]
            omega
          have HW := Lib.hid hwr
          have lt1 : w.heap.size < w1.drew.heap.size := World.block_lt_of_cell? w1 _ c1
          clear hwr
          clear hl
          go_wp2_with fail
          go_region_held3 (fun w' => w'.cell? ⟨w.heap.size, 2, none⟩ = some (.string s)) (first
            | go_keep
            | exact pw_cell_below hb3 (by assumption)
            | exact hg4.cell (by assumption) (fun e => Nat.lt_irrefl _ (Nat.lt_of_lt_of_le lt1 (hown3.lt _ e.symm).1))) (first
            | (go_at_call 144
               rw [HW.out]
               refine (bitpack_Varint.calls (some ⟨g1, 0, none⟩) 1 cap1 [IntKind.u8.wrap 3] rfl (ownsRow_cap hown) (by decide) (fun h => by cases h) (s.size : Int) (by omega) (by omega) _ (BytesAt.of_own (World.ownsRow.drew hown) (by simp))).mono ?_
               rintro e w3 ⟨v3, rfl, hown3, hb3⟩)
            | (refine step_append_string _ (by rfl) _ _ _ _ (by rfl) w.heap.size 5 i0 Tryz.underlying22 Tryz.underlying9 hi hz0 hz1 hz2 v3 (1 + (vi 9 (s.size : Int)).length) _ (by rfl) (ownsRow_lower hown3 hB1.size) s (by rfl) (by unfold maxLen; omega) (by omega) (Nat.le_trans hB1.size hb3.size) ?_
               intro v4 w4 hown4 hg4))
          all_goals
            have hB3 := below_then (below_drew1 hB1) hB1.size hb3
            have hB4 := hB3.grown hg4 hB3.size (fun k h => Nat.le_trans hB1.size (hown3.lt k h).1)
            go_wp2
            go_ret
            exact ⟨_, rfl, by rw [HL.out]; simpa [Nat.add_comm, Nat.add_assoc, Nat.add_left_comm, Lib.strCells, Function.comp_def] using hown4, hB4⟩
        · have d3 : (k == 3) = false := beq_false_of_ne h3
          go_wp2
          go_ret
          exact ⟨_, rfl, by simpa [value_Append.l, h1, h2, h3] using hown, hB1⟩
end Go.Proofs.YteflfnjljjianaaGreatDoor.Qx
namespace Go.Proofs.YteflfnjljjianaaGreatDoor.Qx
open Go.RowKit Go.Proofs.YteflfnjljjianaaGreatDoorW.PrintWords Go.Proofs.YteflfnjljjianaaGreatDoorW.PrintLast Go.Proofs.YteflfnjljjianaaGreatDoorW.PrintMore
attribute [local go_sem] max2_int min2_int max_two min_two
set_option linter.unusedVariables false
set_option linter.unusedSimpArgs false
theorem ownsRow_bytes {w : World} {b : Nat} {e : TypeId} {v : Value} {l : List Int} (h : w.ownsRow b e 1 v l.length (l.map (.int .u8))) : ∃ ao c, v = .slice ao l.length c ∧ l.length ≤ c ∧ BytesAt w ao l ∧ ∀ a, ao = some a → a.block < w.heap.size := by
  rcases h.2 with ⟨rfl, hl⟩ | ⟨g, cap, cur, rfl, hb, hg, hc, _⟩
  · refine ⟨none, 0, by rw [hl], by omega, ⟨fun _ => List.eq_nil_of_length_eq_zero hl, nofun⟩, nofun⟩
  · refine ⟨some ⟨g, 0, none⟩, cap, rfl, hc, BytesAt.of_own h rfl, ?_⟩
    intro a e
    cases e
    exact blk_lt hg
theorem value_Append.le (k i : Int) (s : ByteArray) (l : List Int) (h : value_Append.f k i s = some l) : l.length ≤ 1000000 := by
  unfold value_Append.f at h
  split at h
  · rename_i hs
    obtain rfl := Option.some.inj h
    have h1 := vi_le 9 ((bitpack_Zigzag.f i).getD 0)
    have h2 := vi_le 9 (s.size : Int)
    have h3 : s.data.toList.length = s.size := by simp
    unfold value_Append.l
    simp only [List.length_cons]
    split
    · simp
    · split
      · omega
      · split
        · simp only [List.length_append, List.length_map, h3]; omega
        · simp
  · exact absurd h (by simp)
def partition_spec_bucket.f (_k : Nat) (_a0 _a1 n k i : Int) (s : ByteArray) : Option (Int × Int × ByteArray) :=
  if 1 ≤ n ∧ n ≤ 64 then (value_Append.f k i s).bind fun l => partition_num.f (digest_Bytes.l l % n * 1000000) else none
theorem digStep_range (h x : Int) : 0 ≤ digStep h x ∧ digStep h x < 18446744073709551616 := by
  have := wrap_within .u64 (bits BinOp.xor IntKind.u64 (IntKind.u64.wrap (bits BinOp.xor IntKind.u64 h x * 15485907386658061715)) (IntKind.u64.wrap (bits BinOp.xor IntKind.u64 h x * 15485907386658061715) / 4294967296) * 11562461410679940143)
  have h1 : IntKind.u64.min = 0 := by decide
  have h2 : IntKind.u64.max = 18446744073709551615 := by decide
  unfold digStep
  omega
set_option maxRecDepth 100000 in
set_option maxHeartbeats 4000000 in
theorem partition_spec_bucket.calls (K : Nat) (a0 a1 n k i : Int) (s : ByteArray) (r1 r2 : Int) (r3 : ByteArray) (w : World) (h : partition_spec_bucket.f K a0 a1 n k i s = some (r1, r2, r3)) :
    Calls Tryz.prog 79 #[.agg #[.int .i64 a0, .int .i64 a1, .int .i64 n], .agg #[.int .i64 k, .int .i64 i, .string s]] w fun e w' => e = .returned (.agg #[.int .i64 r1, .int .i64 r2, .string r3]) ∧ Below w.heap.size w w' := by
  obtain ⟨hn, l, hl, hr⟩ : (1 ≤ n ∧ n ≤ 64) ∧ ∃ l, value_Append.f k i s = some l ∧ partition_num.f (digest_Bytes.l l % n * 1000000) = some (r1, r2, r3) := by
    unfold partition_spec_bucket.f at h
    split at h
    · exact ⟨by assumption, Option.bind_eq_some_iff.1 h⟩
    · exact absurd h (by simp)
  have hll := value_Append.le k i s l hl
  obtain ⟨hn1, hn2⟩ := hn
  have hdr := digStep_range ((wordsOf (l.length + 1) l).foldl digStep 422944466291) (l.length : Int)
  have hd : digest_Bytes.l l = digStep ((wordsOf (l.length + 1) l).foldl digStep 422944466291) (l.length : Int) := rfl
  rw [← hd] at hdr
  clear h hd
  generalize hdg : digest_Bytes.l l = d at *
  have HDG := Lib.hid hdg
  have HL := Lib.hid hl
  have HN := Lib.hid hr
  clear hdg hl hr
  have hu106 := Tryz.underlying106
  have hu35 := Tryz.underlying35
  go_enter Tryz.func79, Tryz.ntmps79
  go_wp2_with fail
  have B0 := blk_alloc (blk_alloc (heap_alloc_new w (.cells #[.int .i64 a0, .int .i64 a1, .int .i64 n] 106)) (.cells #[.int .i64 k, .int .i64 i, .string s] 35)) (.cells #[.int .i64 0, .int .i64 0, .string ⟨#[]⟩] 35)
  have B1 := blk_alloc (heap_alloc_new (w.alloc (.cells #[.int .i64 a0, .int .i64 a1, .int .i64 n] 106)) (.cells #[.int .i64 k, .int .i64 i, .string s] 35)) (.cells #[.int .i64 0, .int .i64 0, .string ⟨#[]⟩] 35)
  have B2 := heap_alloc_new ((w.alloc (.cells #[.int .i64 a0, .int .i64 a1, .int .i64 n] 106)).alloc (.cells #[.int .i64 k, .int .i64 i, .string s] 35)) (.cells #[.int .i64 0, .int .i64 0, .string ⟨#[]⟩] 35)
  have hB := (((Below.refl w.heap.size w).alloc (Nat.le_refl _) (.cells #[.int .i64 a0, .int .i64 a1, .int .i64 n] 106)).alloc (by simp only [World.size_alloc]; omega) (.cells #[.int .i64 k, .int .i64 i, .string s] 35)).alloc (by simp only [World.size_alloc]; omega) (.cells #[.int .i64 0, .int .i64 0, .string ⟨#[]⟩] 35)
  simp only [World.size_alloc] at B1 B2
  generalize ((w.alloc (.cells #[.int .i64 a0, .int .i64 a1, .int .i64 n] 106)).alloc (.cells #[.int .i64 k, .int .i64 i, .string s] 35)).alloc (.cells #[.int .i64 0, .int .i64 0, .string ⟨#[]⟩] 35) = W at *
  have keepS : ∀ w' : World, w'.heap[w.heap.size]? = some (.cells #[.int .i64 a0, .int .i64 a1, .int .i64 n] 106 (0, 0)) → w'.heap[w.heap.size + 1]? = some (.cells #[.int .i64 k, .int .i64 i, .string s] 35 (0, 0)) → (w'.cell? ⟨w.heap.size, 2, none⟩ = some (.int .i64 n) ∧ w'.cell? ⟨w.heap.size + 1, 0, none⟩ = some (.int .i64 k) ∧ w'.cell? ⟨w.heap.size + 1, 1, none⟩ = some (.int .i64 i) ∧ w'.cell? ⟨w.heap.size + 1, 2, none⟩ = some (.string s)) := fun w' b0 b1 => ⟨(blk_cell b0 2).trans rfl, (blk_cell b1 0).trans rfl, (blk_cell b1 1).trans rfl, (blk_cell b1 2).trans rfl⟩
  have KS := Lib.hid keepS
  have C0 := Lib.hid (blk_drew B0)
  have C1 := Lib.hid (blk_drew B1)
  have C2 := Lib.hid (blk_drew B2)
  have H0 := Lib.hid B0
  have H1 := Lib.hid B1
  clear keepS B0 B1 B2
  have hwr : IntKind.u64.wrap n = n := by
    simp [IntKind.wrap, IntKind.bits, IntKind.signed]
    omega
  have hw2 : IntKind.i64.wrap (IntKind.i64.wrap (d.tmod n) * 1000000) = d % n * 1000000 := by
    have h1 := Int.emod_nonneg d (show n ≠ 0 by omega)
    have h2 := Int.emod_lt_of_pos d (show 0 < n by omega)
    rw [Int.tmod_eq_emod_of_nonneg hdr.1]
    generalize d % n = q at *
    have hq : IntKind.i64.wrap q = q := by
      simp [IntKind.wrap, IntKind.bits, IntKind.signed]
      omega
    rw [hq]
    simp [IntKind.wrap, IntKind.bits, IntKind.signed]
    omega
  have HW := Lib.hid hw2
  clear hw2
  have hn0 : n ≠ 0 := by omega
  have hn00 : (n == 0) = false := beq_false_of_ne hn0
  go_region_held3 (fun w' => w'.cell? ⟨w.heap.size, 2, none⟩ = some (.int .i64 n) ∧ w'.cell? ⟨w.heap.size + 1, 0, none⟩ = some (.int .i64 k) ∧ w'.cell? ⟨w.heap.size + 1, 1, none⟩ = some (.int .i64 i) ∧ w'.cell? ⟨w.heap.size + 1, 2, none⟩ = some (.string s)) (first
      | (with_reducible exact KS.out _ H0.out H1.out)
      | (with_reducible exact KS.out _ C0.out C1.out)
      | (with_reducible exact KS.out _ D0.out D1.out)
      | (with_reducible exact KS.out _ E0.out E1.out)
      | (with_reducible exact KS.out _ F0.out F1.out)
      | (exact KS.out _ (blk_far (blk_far (blk_far F0.out (by simp only [ne_eq]; omega) _) (by simp only [ne_eq]; omega) _) (by simp only [ne_eq]; omega) _) (blk_far (blk_far (blk_far F1.out (by simp only [ne_eq]; omega) _) (by simp only [ne_eq]; omega) _) (by simp only [ne_eq]; omega) _))) (first
      | (go_at_call 113
         refine (value_Append.calls k i s l _ HL.out).mono ?_
         rintro e w1 ⟨v1, rfl, hown, hb1⟩
         obtain ⟨ao, cc, rfl, hcl, hby, hlt⟩ := ownsRow_bytes hown
         have D0 := Lib.hid (blk_below C0.out hb1)
         have D1 := Lib.hid (blk_below C1.out hb1)
         have D2 := Lib.hid (blk_below C2.out hb1))
      | (go_at_call 112
         refine (digest_Bytes.calls ao l.length cc l rfl hll hcl w1 hby hlt).mono ?_
         rintro e w2 ⟨rfl, hb2⟩
         rw [HDG.out]
         have E0 := Lib.hid (blk_below D0.out hb2)
         have E1 := Lib.hid (blk_below D1.out hb2)
         have E2 := Lib.hid (blk_below D2.out hb2))
      | (go_at_call 111
         rw [HW.out]
         refine (partition_num.calls _ r1 r2 r3 _ HN.out).mono ?_
         rintro e w3 ⟨rfl, hb3⟩
         have F0 := Lib.hid (blk_below E0.out hb3)
         have F1 := Lib.hid (blk_below E1.out hb3)
         have F2 := blk_below E2.out hb3
         have z0 : w3.cell? ⟨w.heap.size + 1 + 1, 0, none⟩ = some (.int .i64 0) := (blk_cell F2 0).trans rfl
         have y0 := blk_frozen F2 0
         have z1 : w3.cell? ⟨w.heap.size + 1 + 1, 1, none⟩ = some (.int .i64 0) := (blk_cell F2 1).trans rfl
         have y1 := blk_frozen F2 1
         have z2 : w3.cell? ⟨w.heap.size + 1 + 1, 2, none⟩ = some (.string ⟨#[]⟩) := (blk_cell F2 2).trans rfl
         have y2 := blk_frozen F2 2))
  all_goals
    have hB3 := below_then (below_then (below_then (below_drew1 hB) hB.size hb1) (Nat.le_trans hB.size hb1.size) hb2) (Nat.le_trans (Nat.le_trans hB.size hb1.size) hb2.size) hb3
    go_wp2
    refine bodyPost_ret (results_cell_row rfl _ _ (w.heap.size + 1 + 1) 35 #[.int .i64 r1, .int .i64 r2, .string r3] (0, 0) _ rfl (by refine blk_put (cs := #[.int .i64 r1, .int .i64 r2, .string ⟨#[]⟩]) ?_ 2 _ rfl; refine blk_put (cs := #[.int .i64 r1, .int .i64 0, .string ⟨#[]⟩]) ?_ 1 _ rfl; refine blk_put (cs := #[.int .i64 0, .int .i64 0, .string ⟨#[]⟩]) ?_ 0 _ rfl; exact F2) Tryz.underlying35 rfl (by kernel_rfl)) rfl ⟨rfl, ?_⟩
    exact below_set (below_set (below_set hB3 (by show w.heap.size ≤ w.heap.size + 1 + 1; omega)) (by show w.heap.size ≤ w.heap.size + 1 + 1; omega)) (by show w.heap.size ≤ w.heap.size + 1 + 1; omega)
end Go.Proofs.YteflfnjljjianaaGreatDoor.Qx
