/- A part of this claim's proof (WZeros, WFoot, WKept, WShare, WN, WFootNe, WAt, WEqStruct, WRepsOne, WInv, WInvWords, WGuard, WNEv, WMore, Gk, HS, HR, Tab, H102, H104, H97m, H97, H69, F87); no condition. -/
import Derived.Laws.StructEq
import Derived.Test.YtamibghbkjmmeaaDoorProg
import Derived.Below
import Derived.Deep.Draws
import Derived.Deep.AppendLies
import Derived.Maps.AppendAt
import Derived.OwnWalk
import Derived.Laws.BytesArg
import Derived.Laws.MakeOwn
import Derived.Laws.OwnMore
import Derived.Deep.OwnRows
import Derived.Tactics
import Derived.Lib.ConvBytes
import Derived.Laws.Slices
import Derived.WalkKit
import Derived.KernelRfl
import Derived.RowKit3
import Derived.Deep.LoopGhost
import Derived.Deep.QuietTactic
import Derived.BigQuiet
import Derived.WideLaws
import Derived.Deep.DeepCutAuto
import Derived.Deep.CutBlock
import Derived.Deep.RegionHeld3
import Derived.Laws.Rows
import Derived.Lib.AppendStr
import Derived.ArgAppend
import Derived.Laws.IdiomCopy
import Derived.OrdersHeld
import Derived.Laws.BitsLemmas
import Derived.RowKit
import Derived.RangeFuncNested
import Derived.RangeFuncBound
import Derived.Shelf.Spec.TrailingZeros
import Derived.Shelf.RegionOpen
import Derived.OwnWalkIn
import Derived.TacticsInMore
import Derived.LoopNIn
import Derived.LoopIn
import Derived.Sort.LoopGhostIn
import Derived.Maps.OwnSet
import Derived.Test.YtamibghbkjmmeaaDoorAlk01
section
namespace Go.Proofs.YtamibghbkjmmeaaDoorW.PrintWords
open Go.RowKit
section
variable {P : Program}
theorem run_append_zeros (w : World) (base : Nat) (t ti ty e : TypeId) (i : TypeInfo) (z : Value) (size bytes : Nat) (ht : P.underlying t = some (.slice e)) {k : IntKind} (hti : P.underlying ti = some (.int k)) (hi : P.info? e = some i) (hz : i.zero = some z)
    (hsize : i.size = size) (hby : i.bytes = bytes) (hzs : z.cells.size = size) (hsz : 0 < size) (hb0 : 0 < bytes)
    (v : Value) (n : Nat) (xs : List Value) (hown : w.ownsRow base e size v n xs) (kx : IntKind) (m : Nat) (h1 : ∀ u ∈ (Builtin.zeroCells z.cells m).toList, u.oneCell' = true)
    (hbytes : (n + m) * bytes ≤ 140737488355328) (hbase : base ≤ w.heap.size) :
    ∃ v' w', (Builtin.append_ #[t, ti] ty #[v, .int kx m]).run P w = .ok v' w' ∧ w'.ownsRow base e size v' (n + m) (xs ++ (Builtin.zeroCells z.cells m).toList) ∧ w.grownBy w' v.ownBlock ∧
      (v'.ownBlock = v.ownBlock ∨ v'.ownBlock = some w.heap.size) := by
  subst hsize
  subst hby
  have hle : n + m ≤ 140737488355328 := Nat.le_trans (Nat.le_mul_of_pos_right _ hb0) hbytes
  have h63 : n + m ≤ maxLen := by simp only [maxLen]; omega
  have hw : IntKind.i64.wrap (m : Int) = m := by rw [IntKind.wrap_i64]; omega
  have hw0 : IntKind.i64.wrap 0 = 0 := by rw [IntKind.wrap_i64]; rfl
  have hneg : ¬ ((m : Int) < 0) := by omega
  have hmb : m * i.bytes ≤ 140737488355328 := Nat.le_trans (Nat.mul_le_mul_right _ (Nat.le_add_left m n)) hbytes
  have hbig : ¬ (281474976710656 < (m : Int) * (i.bytes : Int)) := by
    rw [← Int.natCast_mul]
    omega
  have hsn : i.size ≠ 0 := by omega
  obtain ⟨news, hnews⟩ : ∃ news, news = (Builtin.zeroCells z.cells m).toList := ⟨_, rfl⟩
  rw [← hnews] at h1 ⊢
  have hl : news.length = m * i.size := by rw [hnews, Array.length_toList, size_zeroCells, hzs]
  have hna : Builtin.zeroCells z.cells m = news.toArray := by rw [hnews]
  have hlen : (xs ++ news).length = (n + m) * i.size := by rw [List.length_append, hown.1, hl, Nat.add_mul]
  have hnil : m = 0 → news = [] := fun h => List.eq_nil_of_length_eq_zero (by rw [hl, h, Nat.zero_mul])
  have grown : ∀ (old : Nat), old < n + m → ∀ (row : Option Nat),
      (w.drew.alloc (.cells (xs.toArray ++ news.toArray ++ Builtin.zeroCells z.cells (grownCap w (n + m) old e - (n + m))) e)).ownsRow base e i.size
        (.slice (some ⟨w.heap.size, 0, none⟩) (n + m) (grownCap w (n + m) old e)) (n + m) (xs ++ news) ∧
      w.grownBy (w.drew.alloc (.cells (xs.toArray ++ news.toArray ++ Builtin.zeroCells z.cells (grownCap w (n + m) old e - (n + m))) e)) row := by
    intro old ho row
    have hge := grownCap_ge w (n + m) old e
    have hcm : grownCap w (n + m) old e ≤ maxLen := grownCap_le_maxLen w (n + m) old e h63
    refine ⟨⟨hlen, .inr ⟨w.heap.size, _, _, rfl, hbase, heap_alloc_new w.drew _, hge, hcm, ?_, ?_⟩⟩, ⟨rfl, rfl, rfl, by simp, fun k hk _ => heap_alloc_old w.drew _ hk⟩⟩
    · simp only [Array.size_append, List.size_toArray, size_zeroCells, hzs, hown.1, hl, ← Nat.add_mul]
      congr 1
      omega
    · simp only [Array.toList_append, List.append_assoc]
      rw [← List.append_assoc, ← hlen]
      exact List.take_left
  have runs : ∀ (A : Option Addr) (cap : Nat), cap < n + m → (Builtin.firstCells i.size n (.slice A n cap)).run P w.drew = .ok xs.toArray w.drew → (Builtin.append_ #[t, ti] ty #[.slice A n cap, .int kx m]).run P w =
      .ok (.slice (some ⟨w.heap.size, 0, none⟩) (n + m) (grownCap w (n + m) cap e)) (w.drew.alloc (.cells (xs.toArray ++ news.toArray ++ Builtin.zeroCells z.cells (grownCap w (n + m) cap e - (n + m))) e)) := by
    intro A cap hcap hfo
    have hn : ¬ (n + m ≤ cap) := by omega
    have h63' : ¬ (9223372036854775807 < ((n : Int) + (m : Int))) := by omega
    have hfit := growslice_fits hcap hbytes
    have h48' : ¬ (281474976710656 < Builtin.nextslicecap (n + m) cap * i.bytes) := by omega
    by_cases hm : m = 0
    · have hnl := hnil hm
      subst hm
      rw [hnl]
      simp only [Nat.add_zero] at hn h63' h48' ⊢
      have h63'' : ¬ (9223372036854775807 < (n : Int)) := by omega
      simp [Builtin.append_, run_underlying ht, run_underlying hti, sizeOf, typeInfo, zeroValue, hi, hz, asInt, asIntOf, hw0, hn, h63'', h48', Question.forced, hfo, newRow, grownCap]
    · have hmz : ¬ (m * i.size = 0) := Nat.mul_ne_zero hm hsn
      simp [Builtin.append_, run_underlying ht, run_underlying hti, sizeOf, typeInfo, zeroValue, hi, hz, asInt, asIntOf, hw, hneg, hbig, hn, h63', h48', Question.forced, hfo, newRow, grownCap, hmz, hna]
      congr 2
      apply Array.ext'
      simp [List.append_assoc]
  rcases hown.2 with ⟨rfl, rfl⟩ | ⟨g, cap, cur, rfl, hbg, hg, hnc, hcm, hcs, htake⟩
  · have hx : xs = [] := List.eq_nil_of_length_eq_zero (by simpa using hown.1)
    subst hx
    by_cases hm : m = 0
    · have hnl := hnil hm
      subst hm
      rw [hnl]
      refine ⟨.slice none 0 0, w, ?_, World.ownsRow_nil w base e i.size, ⟨rfl, rfl, rfl, Nat.le_refl _, fun _ _ _ => rfl⟩, Or.inl rfl⟩
      simp [Builtin.append_, run_underlying ht, run_underlying hti, sizeOf, typeInfo, hi, asInt, asIntOf, hw0]
    · have hgr := grown 0 (by omega) (Value.ownBlock (.slice none 0 0))
      exact ⟨_, _, runs none 0 (by omega) (by simp [Builtin.firstCells]), hgr.1, hgr.2, Or.inr rfl⟩
  · by_cases hroom : n + m ≤ cap
    · have hfit : n * i.size + news.length ≤ cur.size := by rw [hl, hcs, ← Nat.add_mul]; exact Nat.mul_le_mul_right _ hroom
      obtain ⟨cur', h3, h4, h5⟩ := setCells_row news (n * i.size) w cur hg hfit
      obtain ⟨s1, s2, s3, s4⟩ := setCells_same g news (n * i.size) w
      have hst := run_storeCells_cells (P := P) g (n * i.size) news 0 w (fun j hj => by rw [cell_of_row w g _ cur e (0, 0) hg]; simp; omega) (fun j _ => blk_frozen hg _) h1
      simp only [Nat.add_zero] at hst
      refine ⟨.slice (some ⟨g, 0, none⟩) (n + m) cap, w.setCells g (n * i.size) news, ?_, ⟨hlen, .inr ⟨g, cap, cur', rfl, hbg, h3, hroom, hcm, by rw [h4, hcs], ?_⟩⟩, ⟨s1, s2, s3, by rw [s4]; exact Nat.le_refl _, fun k _ hk => setCells_far news _ k (fun e => hk (by simp [Value.ownBlock, e]))⟩, Or.inl rfl⟩
      · by_cases hm : m = 0
        · have hnl := hnil hm
          subst hm
          rw [hnl] at hst ⊢
          simp [Builtin.append_, run_underlying ht, run_underlying hti, sizeOf, typeInfo, hi, asInt, asIntOf, hw0, hnc, add_plain, hst]
        · have hmz : ¬ (m * i.size = 0) := Nat.mul_ne_zero hm hsn
          simp [Builtin.append_, run_underlying ht, run_underlying hti, sizeOf, typeInfo, zeroValue, hi, hz, asInt, asIntOf, hw, hneg, hbig, hroom, hmz, hna, add_plain, hst]
      · rw [h5]
        have h6 : cur.toList.take (n * i.size) = xs := htake
        rw [h6, ← hlen]
        exact List.take_left
    · have holds : ∀ j u, xs[j]? = some u → w.cell? ((⟨g, 0, none⟩ : Addr).add j) = some u := hown.cells (g := g) rfl
      have hgr := grown cap (by omega) (Value.ownBlock (.slice (some ⟨g, 0, none⟩) n cap))
      exact ⟨_, _, runs (some ⟨g, 0, none⟩) cap (by omega) (run_firstCells_some (P := P) w.drew i.size n _ n cap xs hown.1 (by simpa using holds)), hgr.1, hgr.2, Or.inr rfl⟩
end
namespace Kd
theorem reps_zeros {α : Type} {R : α → List Value → Prop} {z : Value} {size : Nat} {z0 : α} (hz : z.cells.size = size) (hs : 0 < size) (h0 : R z0 z.cells.toList) (m : Nat) : Reps R size (List.replicate m z0) (Builtin.zeroCells z.cells m).toList := by
  have h := reps_made hz hs h0 m
  rw [show Builtin.zeroCells z.cells m = madeCells z.cells (m * size) by unfold Builtin.zeroCells madeCells; rw [hz]]
  exact h
section
variable {P : Program} {ops : Array Oper} {rest : List Oper} {o : Oper} {a : Act} {Q : Exit → Act → World → Prop} {Kc : Act → World → Prop} {α : Type}
theorem R_zeros_run (d : Kd α) {W : World} (base : Nat) (t ti ty e : TypeId) (z : Value) (bytes : Nat) (ht : P.underlying t = some (.slice e)) {k : IntKind} (hti : P.underlying ti = some (.int k)) (hinfo : (P.info? e).map (fun i => (i.zero, i.size, i.bytes)) = some (some z, d.sz, bytes)) (hz : z.cells.size = d.sz) (hs0 : 0 < d.sz) (hb0 : 0 < bytes)
    (v : Value) (xs : List α) (z0 : α) {ok : Nat → Prop} (hzero : d.M W base (fun _ => False) z0 z.cells.toList) (hfresh : ∀ k, W.heap.size ≤ k → ok k) (HO : d.R e W base ok v xs) (kx : IntKind) (n : Int) (h0 : 0 ≤ n) (hl : (xs.length + n.toNat) * bytes ≤ 140737488355328) (hbase : base ≤ W.heap.size) :
    ∃ v1 w1, (Builtin.append_ #[t, ti] ty #[v, .int kx n]).run P W = .ok v1 w1 ∧ d.R e w1 base ok v1 (xs ++ List.replicate n.toNat z0) ∧ W.grownBy w1 v.ownBlock ∧ (v1.ownBlock = v.ownBlock ∨ ∃ b, v1.ownBlock = some b ∧ W.heap.size ≤ b) := by
  obtain ⟨m, rfl⟩ := Int.eq_ofNat_of_zero_le h0
  simp only [Int.toNat_natCast] at hl ⊢
  obtain ⟨i0, hi, hzz⟩ := Option.map_eq_some_iff.1 hinfo
  simp only [Prod.mk.injEq] at hzz
  obtain ⟨hz0, hz1, hz2⟩ := hzz
  obtain ⟨hok, inner, hown, hr⟩ := HO
  have hnM : Reps (d.M W base (fun _ => False)) d.sz (List.replicate m z0) (Builtin.zeroCells z.cells m).toList := reps_zeros hz hs0 hzero m
  obtain ⟨v1, w1, hrun, h2, hg, hat⟩ := run_append_zeros (P := P) W base t ti ty e i0 z d.sz bytes ht hti hi hz0 hz1 hz2 hz hs0 hb0 v xs.length inner hown kx m (reps_one hnM hs0 (fun _ _ hp => d.K_one (d.K_of_M hp))) hl hbase
  have hat' : v1.ownBlock = v.ownBlock ∨ ∃ b, v1.ownBlock = some b ∧ W.heap.size ≤ b := by
    rcases hat with hat | hat
    · exact .inl hat
    · exact .inr ⟨_, hat, Nat.le_refl _⟩
  have hne : ∀ k, some k ≠ v.ownBlock → k < W.heap.size → some k ≠ v1.ownBlock := by
    intro k hk hlt
    rcases hat' with hat | ⟨b, hb, hle⟩
    · rw [hat]; exact hk
    · rw [hb]
      intro he
      injection he with he
      omega
  have step : ∀ {q : α} {c : List Value} {o : Nat → Prop}, d.M W base o q c → (∀ k, o k → ok k ∧ some k ≠ v.ownBlock) → d.M w1 base (fun k => ok k ∧ some k ≠ v1.ownBlock) q c := by
    intro q c o hq ho
    have h1 := d.M_move (w1 := w1) (fun k hk => hg.block k hk.2.2.1 (ho k hk.1).2) (d.M_bound hq)
    exact d.M_mono (fun k hk => ⟨(ho k hk.1).1, hne k (ho k hk.1).2 hk.2.2.1⟩) h1
  refine ⟨v1, w1, hrun, ⟨fun k hk => ?_, inner ++ (Builtin.zeroCells z.cells m).toList, by rw [List.length_append, List.length_replicate]; exact h2, reps_append (hr.imp_ (fun _ _ hq => step hq (fun _ hk => hk))) (hnM.imp_ (fun _ _ hq => step hq (fun _ hk => hk.elim)))⟩, hg, hat'⟩
  rcases hat' with hat | ⟨b, hb, hle⟩
  · exact hok k (hat ▸ hk)
  · rw [hb] at hk
    injection hk with hk
    exact hfresh k (by omega)
theorem R_append_zeros (d : Kd α) {w0 W : World} (base : Nat) (hgd : o.guard = none) (s x : Operand) (t ti e : TypeId) (z : Value) (bytes : Nat)
    (ho : o.op = .call { callee := .builtin .append, args := #[s, x], argTypes := #[t, ti] })
    (ht : P.underlying t = some (.slice e)) {k : IntKind} (hti : P.underlying ti = some (.int k)) (hinfo : (P.info? e).map (fun i => (i.zero, i.size, i.bytes)) = some (some z, d.sz, bytes)) (hz : z.cells.size = d.sz) (hs0 : 0 < d.sz) (hb0 : 0 < bytes)
    (v : Value) (xs : List α) (z0 : α) {kx : IntKind} (n : Int) (ok : Nat → Prop) (hs : a.eval s = v) (hx : a.eval x = .int kx n) (hzero : d.M W base (fun _ => False) z0 z.cells.toList) (hfresh : ∀ k, W.heap.size ≤ k → ok k)
    (HO : d.R e W base ok v xs) (h0 : 0 ≤ n) (HB : Below base w0 W) (hbase : base ≤ W.heap.size) (hl : (xs.length + n.toNat) * bytes ≤ 140737488355328)
    (h : ∀ v1 w1, d.R e w1 base ok v1 (xs ++ List.replicate n.toNat z0) → Below base w0 w1 → W.grownBy w1 v.ownBlock → (v1.ownBlock = v.ownBlock ∨ ∃ b, v1.ownBlock = some b ∧ W.heap.size ≤ b) → wpList P ops Q rest (a.put o.dst v1) w1) :
    wpList P ops Q (o :: rest) a W := by
  obtain ⟨v1, w1, hr1, h1, hg, hat⟩ := R_zeros_run (P := P) d base t ti o.type e z bytes ht hti hinfo hz hs0 hb0 v xs z0 hzero hfresh HO kx n h0 hl hbase
  refine wpList_plain hgd fun K hK => ?_
  unfold Oper.wp execOp
  simp only [ho, resolve, invoke, builtin, Sem.run_bind, Sem.run_pure, Result.andThen_ok, List.map_toArray, List.map_cons, List.map_nil, hs, hx, hr1]
  exact hK _ _ (h v1 w1 h1 (HB.grown hg hbase (R_base HO)) hg hat)
end
section
variable {α : Type} {d : Kd α} {e : Nat} {w : World} {base : Nat} {ok : Nat → Prop} {v : Value} {xs : List α}
end
section
variable {P : Program} {ops : Array Oper} {rest : List Oper} {o : Oper} {a : Act} {Q : Exit → Act → World → Prop} {Kc : Act → World → Prop} {α : Type}
end
end Kd
end Go.Proofs.YtamibghbkjmmeaaDoorW.PrintWords
end
section
namespace Go.Proofs.YtamibghbkjmmeaaDoorW.PrintWords
open Go.RowKit
namespace Kd
structure Heap {α : Type} (d : Kd α) : Prop where
  K : ∀ {w w1 : World} {x : α} {cs : List Value}, (∀ k, k < w.heap.size → w1.heap[k]? = w.heap[k]?) → d.K w x cs → d.K w1 x cs
theorem cell_heap {w w1 : World} (hb : ∀ k, k < w.heap.size → w1.heap[k]? = w.heap[k]?) {a : Addr} {v : Value} (h : w.cell? a = some v) : w1.cell? a = some v := by
  have := hb a.block (World.block_lt_of_cell? w a h)
  simpa [World.cell?, this] using h
theorem Heap.C {α : Type} {d : Kd α} (hd : Heap d) {w w1 : World} {A : Option Addr} {n : Nat} {xs : List α} (hb : ∀ k, k < w.heap.size → w1.heap[k]? = w.heap[k]?) (h : d.C w A n xs) : d.C w1 A n xs :=
  ⟨h.1, h.2.1, fun hn => by
    obtain ⟨ad, e, hc⟩ := h.2.2 hn
    refine ⟨ad, e, fun j p hj => ?_⟩
    obtain ⟨c, hs, hr, hcell⟩ := hc j p hj
    exact ⟨c, hs, hd.K hb hr, fun i u hu => cell_heap hb (hcell i u hu)⟩⟩
theorem heap_int (k : IntKind) : Heap (Kd.int k) := ⟨fun _ h => h⟩
section
variable {α : Type} {d : Kd α} {e base g n c : Nat} {ok : Nat → Prop} {w w0 W : World} {A : Option Addr} {xs : List α}
end
end Kd
end Go.Proofs.YtamibghbkjmmeaaDoorW.PrintWords
end
section
namespace Go.Proofs.YtamibghbkjmmeaaDoorW.PrintWords
open Go.RowKit
def Kept (w W : World) (S : Nat → Prop) : Prop := w.heap.size ≤ W.heap.size ∧ ∀ i, i < w.heap.size → ¬ S i → W.heap[i]? = w.heap[i]?
section
variable {w W W2 : World} {S S2 S' : Nat → Prop}
theorem Kept.refl (w : World) (S : Nat → Prop) : Kept w w S := ⟨Nat.le_refl _, fun _ _ _ => rfl⟩
theorem Kept.of_below (h : Below w.heap.size w W) (S : Nat → Prop) : Kept w W S := ⟨h.size, fun i hi _ => h.block i hi⟩
theorem Kept.mono (h : Kept w W S) (hs : ∀ k, S k → S' k) : Kept w W S' := ⟨h.1, fun i hi hn => h.2 i hi (fun hk => hn (hs i hk))⟩
theorem Kept.then_ (h : Kept w W S) (k : Kept W W2 S2) (hs : ∀ k, S2 k → S k ∨ w.heap.size ≤ k) : Kept w W2 S :=
  ⟨Nat.le_trans h.1 k.1, fun i hi hn => (k.2 i (Nat.lt_of_lt_of_le hi h.1) (fun h2 => (hs i h2).elim hn (fun h3 => by omega))).trans (h.2 i hi hn)⟩
theorem Kept.of_grown {row : Option Nat} (hg : W.grownBy W2 row) (h : Kept w W S) (hr : ∀ k, row = some k → S k ∨ w.heap.size ≤ k) : Kept w W2 S :=
  h.then_ (S2 := fun k => row = some k) ⟨hg.size, fun i hi hn => hg.block i hi (fun he => hn he.symm)⟩ hr
theorem Kept.below (h : Kept w W S) (hb : Below W.heap.size W W2) : Kept w W2 S := h.then_ (Kept.of_below hb (fun _ => False)) (fun _ hk => hk.elim)
theorem Kept.alloc (h : Kept w W S) (o : Obj) : Kept w (W.alloc o) S := h.below (below_alloc (Below.refl _ _) o)
theorem Kept.drew (h : Kept w W S) : Kept w W.drew S := h
theorem Kept.drewN (h : Kept w W S) (m : Nat) : Kept w (W.drewN m) S := h
theorem Kept.setCell (h : Kept w W S) {p : Addr} (hp : S p.block ∨ w.heap.size ≤ p.block) (u : Value) : Kept w (W.setCell p u) S :=
  h.then_ (S2 := fun k => k = p.block) ⟨by simp [World.setCell], fun i _ hn => Below.heap_setCell W p u i hn⟩ (fun k hk => by rw [hk]; exact hp)
theorem Kept.keep {g : Nat} (h : KeepBut w W g none) (k : Kept W W2 S2) (hs : ∀ k, S2 k → w.heap.size ≤ k) : KeepBut w W2 g none :=
  ⟨Nat.le_trans h.1 k.1, fun i hi hg hr => (k.2 i (Nat.lt_of_lt_of_le hi h.1) (fun h2 => by have := hs i h2; omega)).trans (h.2 i hi hg hr)⟩
theorem blk_kept {g : Nat} {o : Obj} (hb : W.heap[g]? = some o) (hk : Kept W W2 S) (hne : ¬ S g) : W2.heap[g]? = some o := (hk.2 g (blk_lt hb) hne).trans hb
end
namespace Kd
section
variable {α : Type} {d : Kd α} {e base n c : Nat} {ok oki S S2 : Nat → Prop} {w w0 W W1 W2 : World} {v : Value} {A : Option Addr} {xs : List α} {i : Int} {cs : List Value}
end
end Kd
end Go.Proofs.YtamibghbkjmmeaaDoorW.PrintWords
end
section
namespace Go.Proofs.YtamibghbkjmmeaaDoorW.PrintWords
open Go.RowKit
def Foot (P : World → Prop) (W : World) (ok : Nat → Prop) : Prop := ∀ W' : World, (∀ k, ok k → k < W.heap.size → W'.heap[k]? = W.heap[k]?) → P W'
theorem heap_lt {W W1 : World} {k : Nat} (h : W1.heap[k]? = W.heap[k]?) (hlt : k < W.heap.size) : k < W1.heap.size := by
  rw [Array.getElem?_eq_getElem hlt] at h
  exact (Array.getElem?_eq_some_iff.1 h).1
namespace Foot
variable {P Q : World → Prop} {W W1 : World} {ok ok' : Nat → Prop}
theorem now (h : Foot P W ok) : P W := h W (fun _ _ _ => rfl)
theorem mono (h : Foot P W ok) (hok : ∀ k, ok k → ok' k) : Foot P W ok' := fun W' hW => h W' (fun k hk hlt => hW k (hok k hk) hlt)
theorem bound (h : Foot P W ok) : Foot P W (fun k => ok k ∧ k < W.heap.size) := fun W' hW => h W' (fun k hk hlt => hW k ⟨hk, hlt⟩ hlt)
theorem step (h : Foot P W ok) (hm : ∀ k, ok k → k < W.heap.size → W1.heap[k]? = W.heap[k]?) : Foot P W1 ok := fun W' hW => h W' (fun k hk hlt => (hW k hk (heap_lt (hm k hk hlt) hlt)).trans (hm k hk hlt))
theorem imp (h : Foot P W ok) (hi : ∀ W', P W' → Q W') : Foot Q W ok := fun W' hW => hi W' (h W' hW)
theorem old (h : Foot P W ok) (hb : Below W.heap.size W W1) : Foot P W1 (fun k => ok k ∧ k < W.heap.size) := (h.bound).step (fun k _ hlt => hb.block k hlt)
end Foot
namespace Kd
def F {α : Type} (d : Kd α) (W : World) (ok : Nat → Prop) (A : Option Addr) (n : Nat) (xs : List α) : Prop := Foot (fun W => d.C W A n xs) W ok
def FK {α : Type} (d : Kd α) (W : World) (ok : Nat → Prop) (x : α) (c : List Value) : Prop := Foot (fun W => d.K W x c) W ok
section
variable {α β : Type} {d : Kd α} {e base n n' cc g N : Nat} {ok ok' okp S : Nat → Prop} {w w0 w1 W W1 : World} {A A' : Option Addr} {u v v1 : Value} {xs : List α} {xs' : List β} {d' : Kd β} {x : α} {c : List Value}
theorem F_now (h : F d W ok A n xs) : d.C W A n xs := Foot.now h
theorem F_mono (h : F d W ok A n xs) (hok : ∀ k, ok k → ok' k) : F d W ok' A n xs := Foot.mono h hok
theorem F_bound (h : F d W ok A n xs) : F d W (fun k => ok k ∧ k < W.heap.size) A n xs := Foot.bound h
theorem F_step (h : F d W ok A n xs) (hm : ∀ k, ok k → k < W.heap.size → W1.heap[k]? = W.heap[k]?) : F d W1 ok A n xs := Foot.step h hm
theorem F_below (h : F d W ok A n xs) (hb : Below W.heap.size W W1) : F d W1 ok A n xs := F_step h (fun k _ hlt => hb.block k hlt)
theorem F_alloc (h : F d W ok A n xs) (o : Obj) : F d (W.alloc o) ok A n xs := F_below h (below_alloc (Below.refl _ _) o)
theorem F_drew (h : F d W ok A n xs) : F d W.drew ok A n xs := F_below h (below_drew (Below.refl _ _))
theorem F_drewN (h : F d W ok A n xs) (m : Nat) : F d (W.drewN m) ok A n xs := F_below h (pw_below_drewN (Below.refl _ _) m)
theorem F_nil (d : Kd α) (W : World) (ok : Nat → Prop) : F d W ok none ([] : List α).length [] := fun W' _ => C_nil d W'
theorem F_elder' (h : F d W ok A n xs) (hbase : ∀ k, v.ownBlock = some k → W.heap.size ≤ k) (hb : Below W.heap.size W W1) : F d W1 (fun k => ok k ∧ some k ≠ v.ownBlock) A n xs :=
  F_mono (Foot.old h hb) (fun k hk => ⟨hk.1, fun he => by have := hbase k he.symm; have := hk.2; omega⟩)
theorem F_elderB (h : F d W ok A n xs) (a : Nat) (ha : W.heap.size ≤ a) : F d W (fun k => ok k ∧ k ≠ a) A n xs := F_mono (F_bound h) (fun k hk => ⟨hk.1, by have := hk.2; omega⟩)
theorem C_F (hd : Heap d) (h : d.C w A n xs) : F d w (fun k => k < w.heap.size) A n xs := fun _ hW => hd.C (fun k hlt => hW k hlt hlt) h
theorem R_F (h : d.R e W base ok (.slice A n cc) xs) : F d W ok A n xs := fun W' hW => by
  have h2 := R_reads' (R_step h hW)
  rw [h2.1]
  exact h2.2.2
theorem FK_now (h : FK d W ok x c) : d.K W x c := Foot.now h
theorem FK_mono (h : FK d W ok x c) (hok : ∀ k, ok k → ok' k) : FK d W ok' x c := Foot.mono h hok
theorem FK_bound (h : FK d W ok x c) : FK d W (fun k => ok k ∧ k < W.heap.size) x c := Foot.bound h
theorem FK_step (h : FK d W ok x c) (hm : ∀ k, ok k → k < W.heap.size → W1.heap[k]? = W.heap[k]?) : FK d W1 ok x c := Foot.step h hm
theorem FK_of_M (h : d.M W base ok x c) : FK d W ok x c := fun _ hW => d.K_of_M (M_step h hW)
end
end Kd
end Go.Proofs.YtamibghbkjmmeaaDoorW.PrintWords
end
section
namespace Go.Proofs.YtamibghbkjmmeaaDoorW.PrintWords
open Go.RowKit
namespace Kd
def chunks (sz : Nat) (n : Nat) (inner : List Value) : List (List Value) := (List.range n).map fun j => (inner.drop (j * sz)).take sz
theorem chunks_length (sz n : Nat) (inner : List Value) : (chunks sz n inner).length = n := by simp [chunks]
theorem chunks_at {sz n : Nat} {inner : List Value} {j : Nat} (hj : j < n) : (chunks sz n inner)[j]? = some ((inner.drop (j * sz)).take sz) := by simp [chunks, hj]
theorem chunks_get {sz n : Nat} {inner : List Value} {j : Nat} {c : List Value} (h : (chunks sz n inner)[j]? = some c) : c = (inner.drop (j * sz)).take sz := by
  have hj : j < n := by have := (List.getElem?_eq_some_iff.1 h).1; rwa [chunks_length] at this
  rw [chunks_at hj] at h
  injection h with h
  exact h.symm
theorem reps_raw {α : Type} {Rr : α → List Value → Prop} {sz : Nat} {xs : List α} {inner : List Value} (h : Reps Rr sz xs inner) (hR : ∀ x c, Rr x c → c.length = sz ∧ ∀ u ∈ c, u.oneCell' = true) : Reps (fun x cs => cs = x ∧ cs.length = sz ∧ ∀ u ∈ cs, u.oneCell' = true) sz (chunks sz xs.length inner) inner := by
  refine ⟨by rw [chunks_length]; exact h.1, fun j p hj => ?_⟩
  have hjl : j < xs.length := by have := (List.getElem?_eq_some_iff.1 hj).1; rwa [chunks_length] at this
  have hp := chunks_get hj
  exact ⟨hp.symm, hR _ _ (h.2 j _ (List.getElem?_eq_getElem hjl))⟩
section
variable {α : Type} {d : Kd α} {e base n cc g : Nat} {ok ok' okp S : Nat → Prop} {w w1 W W1 : World} {A : Option Addr} {u v v1 : Value} {xs : List α} {x : α} {c : List Value}
def N {α : Type} (d : Kd α) (e : Nat) (w : World) (base : Nat) (ok : Nat → Prop) (v : Value) (xs : List α) : Prop :=
  (∀ k, v.ownBlock = some k → ok k) ∧ ∃ rows : List (List Value), rows.length = xs.length ∧ (raw d.sz).R e w base (fun k => some k = v.ownBlock) v rows ∧ ∀ (j : Nat) (x : α) (c : List Value), xs[j]? = some x → rows[j]? = some c → FK d w (fun k => ok k ∧ some k ≠ v.ownBlock) x c
theorem raw_tight {sz : Nat} {rows : List (List Value)} (h : (raw sz).R e w base ok v rows) : (raw sz).R e w base (fun k => some k = v.ownBlock) v rows := R_tight rfl h
theorem R_N (h : d.R e w base ok v xs) : N d e w base ok v xs := by
  obtain ⟨h0, inner, ho, hr⟩ := h
  refine ⟨h0, chunks d.sz xs.length inner, chunks_length _ _ _, ⟨fun k hk => hk.symm, inner, by rw [chunks_length]; exact ho, reps_raw hr (fun x c hp => ⟨d.K_len (d.K_of_M hp), d.K_one (d.K_of_M hp)⟩)⟩, fun j x c hx hc => ?_⟩
  rw [chunks_get hc]
  exact FK_of_M (hr.2 j x hx)
theorem N_nil (d : Kd α) (e : Nat) (w : World) (base : Nat) (ok : Nat → Prop) : N d e w base ok (.slice none 0 0) [] := R_N (R_nil _ _ _ _ _)
theorem N_mono (h : N d e w base ok v xs) (hok : ∀ k, ok k → ok' k) : N d e w base ok' v xs := by
  obtain ⟨h0, rows, hl, hR, hf⟩ := h
  exact ⟨fun k hk => hok k (h0 k hk), rows, hl, hR, fun j x c hx hc => FK_mono (hf j x c hx hc) (fun k hk => ⟨hok k hk.1, hk.2⟩)⟩
theorem N_lt (h : N d e w base ok v xs) : ∀ k, v.ownBlock = some k → k < w.heap.size := by
  obtain ⟨_, rows, _, hR, _⟩ := h
  exact R_lt hR
theorem N_base (h : N d e w base ok v xs) : ∀ k, v.ownBlock = some k → base ≤ k := by
  obtain ⟨_, rows, _, hR, _⟩ := h
  exact R_base hR
theorem N_typed (h : N d e w base ok v xs) : ∀ k, v.ownBlock = some k → ∃ cells, w.heap[k]? = some (.cells cells e (0, 0)) := by
  obtain ⟨_, rows, _, hR, _⟩ := h
  exact R_typed hR
theorem N_bound (h : N d e w base ok v xs) : N d e w base (fun k => ok k ∧ k < w.heap.size) v xs := by
  have hlt := N_lt h
  obtain ⟨h0, rows, hl, hR, hf⟩ := h
  exact ⟨fun k hk => ⟨h0 k hk, hlt k hk⟩, rows, hl, hR, fun j x c hx hc => FK_mono (FK_bound (hf j x c hx hc)) (fun k hk => ⟨⟨hk.1.1, hk.2⟩, hk.1.2⟩)⟩
theorem N_lower {base' : Nat} (h : N d e w base ok v xs) (hb : base' ≤ base) : N d e w base' ok v xs := by
  obtain ⟨h0, rows, hl, hR, hf⟩ := h
  exact ⟨h0, rows, hl, R_lower hR hb, hf⟩
theorem N_step (h : N d e w base ok v xs) (hm : ∀ k, ok k → k < w.heap.size → w1.heap[k]? = w.heap[k]?) : N d e w1 base ok v xs := by
  obtain ⟨h0, rows, hl, hR, hf⟩ := h
  exact ⟨h0, rows, hl, R_step hR (fun k hk hlt => hm k (h0 k hk.symm) hlt), fun j x c hx hc => FK_step (hf j x c hx hc) (fun k hk hlt => hm k hk.1 hlt)⟩
theorem N_below (h : N d e w base ok v xs) (hb : Below w.heap.size w w1) : N d e w1 base ok v xs := N_step h (fun k _ hk => hb.block k hk)
theorem N_alloc (h : N d e w base ok v xs) (o : Obj) : N d e (w.alloc o) base ok v xs := N_below h (below_alloc (Below.refl _ _) o)
theorem N_drew (h : N d e w base ok v xs) : N d e w.drew base ok v xs := N_below h (below_drew (Below.refl _ _))
theorem N_drewN (h : N d e w base ok v xs) (m : Nat) : N d e (w.drewN m) base ok v xs := N_below h (pw_below_drewN (Below.refl _ _) m)
theorem N_far (h : N d e w base ok v xs) {p : Addr} (hok : ∀ k, ok k → k ≠ p.block) (u : Value) : N d e (w.setCell p u) base ok v xs := N_step h (fun k ho _ => Below.heap_setCell w p u k (hok k ho))
theorem N_elder' (h : N d e W base ok v xs) (hbase : ∀ k, u.ownBlock = some k → W.heap.size ≤ k) (hb : Below W.heap.size W w1) : N d e w1 base (fun k => ok k ∧ some k ≠ u.ownBlock) v xs :=
  N_mono (N_below (N_bound h) hb) (fun k hk => ⟨hk.1, fun he => by have := hbase k he.symm; have := hk.2; omega⟩)
theorem N_slice (h : N d e w base ok v xs) : ∃ A c, v = .slice A xs.length c := by
  obtain ⟨_, rows, hl, hR, _⟩ := h
  obtain ⟨A, c, he⟩ := R_slice hR
  exact ⟨A, c, by rw [he, hl]⟩
theorem N_reads' {n c : Nat} (h : N d e w base ok (.slice A n c) xs) : n = xs.length ∧ n ≤ c ∧ d.C w A xs.length xs := by
  obtain ⟨_, rows, hl, hR, hf⟩ := h
  obtain ⟨hn, hc, hC⟩ := R_reads' hR
  refine ⟨by omega, hc, ?_⟩
  rw [hl] at hC
  refine ⟨rfl, hC.2.1, fun hp => ?_⟩
  obtain ⟨ad, he, hcell⟩ := hC.2.2 hp
  refine ⟨ad, he, fun j p hj => ?_⟩
  have hjl : j < rows.length := by have := (List.getElem?_eq_some_iff.1 hj).1; omega
  obtain ⟨c', hcl, hK, hcc⟩ := hcell j _ (List.getElem?_eq_getElem hjl)
  have hk := FK_now (hf j p _ hj (List.getElem?_eq_getElem hjl))
  refine ⟨c', hcl, ?_, hcc⟩
  rw [show c' = rows[j] from hK.1]
  exact hk
theorem N_reads (h : N d e w base ok v xs) : ∃ A c, v = .slice A xs.length c ∧ xs.length ≤ c ∧ d.C w A xs.length xs := by
  obtain ⟨A, c, rfl⟩ := N_slice h
  exact ⟨A, c, rfl, (N_reads' h).2⟩
end
end Kd
end Go.Proofs.YtamibghbkjmmeaaDoorW.PrintWords
end
section
namespace Go.Proofs.YtamibghbkjmmeaaDoorW.PrintWords
open Go.RowKit
namespace Kd
section
variable {α : Type} {d : Kd α} {W : World} {g n : Nat} {S ok : Nat → Prop} {A : Option Addr} {ad : Addr} {xs : List α}
end
end Kd
end Go.Proofs.YtamibghbkjmmeaaDoorW.PrintWords
end
section
namespace Go.Proofs.YtamibghbkjmmeaaDoorW.PrintWords
open Go.RowKit
section
variable {w w' u : World} {m B g : Nat} {o : Obj} {row : Option Nat} {S : Nat → Prop} {a : Addr} {v : Value}
end
namespace Kd
section
variable {α : Type} {d : Kd α} {e base n m : Nat} {ok : Nat → Prop} {w w' : World} {v : Value} {A : Option Addr} {xs : List α}
end
end Kd
end Go.Proofs.YtamibghbkjmmeaaDoorW.PrintWords
end
section
namespace Go.Proofs.YtamibghbkjmmeaaDoorW.PrintWords
open Go.RowKit
section
variable {P : Program} {d : Nat} {xs ys : Array Value} {f : Field} {fs : List Field} {a b : Value} {r s : Bool} {w : World}
theorem eqf_last (hn : (f.name == "_") = false) (ha : (part f.type xs f.offset).run P w = .ok a w) (hb : (part f.type ys f.offset).run P w = .ok b w) (he : (Op.equalIn d f.type a b).run P w = .ok r w) : (Op.eqFields d xs ys [f]).run P w = .ok r w := by
  have hn' : f.name ≠ "_" := by simpa using hn
  simp only [Op.eqFields, if_pos hn', Sem.run_bind, ha, hb, he, Result.andThen_ok]
  cases r <;> simp
theorem eqf_cons (hn : (f.name == "_") = false) (ha : (part f.type xs f.offset).run P w = .ok a w) (hb : (part f.type ys f.offset).run P w = .ok b w) (he : (Op.equalIn d f.type a b).run P w = .ok r w) (hr : (Op.eqFields d xs ys fs).run P w = .ok s w) : (Op.eqFields d xs ys (f :: fs)).run P w = .ok (r && s) w := by
  have hn' : f.name ≠ "_" := by simpa using hn
  rw [Op.eqFields]
  simp only [if_pos hn', Sem.run_bind, ha, hb, he, Result.andThen_ok]
  cases r
  · simp
  · simpa using hr
theorem eqA_of {t : TypeId} {fs : Array Field} (hu : P.underlying t = some (.struct fs)) (hp : P.stoodInHeld t = false) (h : (Op.eqFields d xs ys fs.toList).run P w = .ok r w) : (Op.equalIn (d + 1) t (.agg xs) (.agg ys)).run P w = .ok r w := by
  have hf : P.fieldsOf t = fs := by simp [Program.fieldsOf, hu]
  rw [run_equalIn_struct (P := P) w d t xs ys (by rw [hf]; exact hu) hp, hf]
  exact h
end
end Go.Proofs.YtamibghbkjmmeaaDoorW.PrintWords
end
section
namespace Go.Proofs.YtamibghbkjmmeaaDoorW.PrintWords
theorem Reps.one {α : Type} {R : α → List Value → Prop} {ps : List α} {cs : List Value} {p : α} {v : Value} (hp : R p [v]) (h : Reps R 1 ps cs) : Reps R 1 (p :: ps) (v :: cs) := by
  refine ⟨by simp [h.1], fun j q hq => ?_⟩
  cases j with
  | zero =>
    simp only [List.getElem?_cons_zero, Option.some.injEq] at hq
    subst hq
    simpa using hp
  | succ j =>
    simp only [List.getElem?_cons_succ] at hq
    have h1 := h.2 j q hq
    simpa [Nat.mul_one] using h1
theorem Reps.front {α : Type} {R : α → List Value → Prop} {size : Nat} {ps : List α} {cs c all : List Value} {p : α} (hp : R p c) (hc : c.length = size) (h : Reps R size ps cs) (ha : c ++ cs = all) : Reps R size (p :: ps) all := by
  subst ha
  refine ⟨by rw [List.length_append, hc, h.1, List.length_cons, Nat.succ_mul, Nat.add_comm], fun j q hq => ?_⟩
  cases j with
  | zero =>
    simp only [List.getElem?_cons_zero, Option.some.injEq] at hq
    subst hq
    rw [Nat.zero_mul, List.drop_zero, List.take_append_of_le_length (by omega), List.take_of_length_le (by omega)]
    exact hp
  | succ j =>
    simp only [List.getElem?_cons_succ] at hq
    have h1 := h.2 j q hq
    rw [Nat.succ_mul, List.drop_append, List.drop_of_length_le (by rw [hc]; exact Nat.le_add_left _ _), List.nil_append, hc, Nat.add_sub_cancel]
    exact h1
theorem Reps.c2 {α : Type} {R : α → List Value → Prop} {ps : List α} {cs : List Value} {p : α} {va vb : Value} (hp : R p [va, vb]) (h : Reps R 2 ps cs) : Reps R 2 (p :: ps) (va :: vb :: cs) := Reps.front hp rfl h rfl
theorem Reps.c3 {α : Type} {R : α → List Value → Prop} {ps : List α} {cs : List Value} {p : α} {va vb vc : Value} (hp : R p [va, vb, vc]) (h : Reps R 3 ps cs) : Reps R 3 (p :: ps) (va :: vb :: vc :: cs) := Reps.front hp rfl h rfl
theorem Reps.c4 {α : Type} {R : α → List Value → Prop} {ps : List α} {cs : List Value} {p : α} {va vb vc vd : Value} (hp : R p [va, vb, vc, vd]) (h : Reps R 4 ps cs) : Reps R 4 (p :: ps) (va :: vb :: vc :: vd :: cs) := Reps.front hp rfl h rfl
theorem Reps.c5 {α : Type} {R : α → List Value → Prop} {ps : List α} {cs : List Value} {p : α} {va vb vc vd ve : Value} (hp : R p [va, vb, vc, vd, ve]) (h : Reps R 5 ps cs) : Reps R 5 (p :: ps) (va :: vb :: vc :: vd :: ve :: cs) := Reps.front hp rfl h rfl
theorem Reps.c6 {α : Type} {R : α → List Value → Prop} {ps : List α} {cs : List Value} {p : α} {va vb vc vd ve vf : Value} (hp : R p [va, vb, vc, vd, ve, vf]) (h : Reps R 6 ps cs) : Reps R 6 (p :: ps) (va :: vb :: vc :: vd :: ve :: vf :: cs) := Reps.front hp rfl h rfl
theorem Reps.c7 {α : Type} {R : α → List Value → Prop} {ps : List α} {cs : List Value} {p : α} {va vb vc vd ve vf vg : Value} (hp : R p [va, vb, vc, vd, ve, vf, vg]) (h : Reps R 7 ps cs) : Reps R 7 (p :: ps) (va :: vb :: vc :: vd :: ve :: vf :: vg :: cs) := Reps.front hp rfl h rfl
theorem Reps.c8 {α : Type} {R : α → List Value → Prop} {ps : List α} {cs : List Value} {p : α} {va vb vc vd ve vf vg vh : Value} (hp : R p [va, vb, vc, vd, ve, vf, vg, vh]) (h : Reps R 8 ps cs) : Reps R 8 (p :: ps) (va :: vb :: vc :: vd :: ve :: vf :: vg :: vh :: cs) := Reps.front hp rfl h rfl
theorem Reps.c9 {α : Type} {R : α → List Value → Prop} {ps : List α} {cs : List Value} {p : α} {va vb vc vd ve vf vg vh vi : Value} (hp : R p [va, vb, vc, vd, ve, vf, vg, vh, vi]) (h : Reps R 9 ps cs) : Reps R 9 (p :: ps) (va :: vb :: vc :: vd :: ve :: vf :: vg :: vh :: vi :: cs) := Reps.front hp rfl h rfl
theorem Reps.c10 {α : Type} {R : α → List Value → Prop} {ps : List α} {cs : List Value} {p : α} {va vb vc vd ve vf vg vh vi vj : Value} (hp : R p [va, vb, vc, vd, ve, vf, vg, vh, vi, vj]) (h : Reps R 10 ps cs) : Reps R 10 (p :: ps) (va :: vb :: vc :: vd :: ve :: vf :: vg :: vh :: vi :: vj :: cs) := Reps.front hp rfl h rfl
end Go.Proofs.YtamibghbkjmmeaaDoorW.PrintWords
end
section
namespace Go.Proofs.YtamibghbkjmmeaaDoorW.PrintLast
section
variable {P : Program} {ops : Array Oper} {Q : Exit → Act → World → Prop} {md : Region.Mode} {T : Bool × List (List Nat × List Nat)} {B : List Nat} {O : List Nat} {b : Nat → Bool} {i j n : Nat}
end
end Go.Proofs.YtamibghbkjmmeaaDoorW.PrintLast
end
section
namespace Go.Proofs.YtamibghbkjmmeaaDoorW.PrintWords
open Go.RowKit
end Go.Proofs.YtamibghbkjmmeaaDoorW.PrintWords
namespace Go.Proofs.YtamibghbkjmmeaaDoorW.PrintLast
section
variable {ops : Array Oper} {a : Act} {o og : Oper} {g : Nat} {t : Tmp} {u : Bool}
end
end Go.Proofs.YtamibghbkjmmeaaDoorW.PrintLast
end
section
namespace Go.Proofs.YtamibghbkjmmeaaDoorW.PrintWords
open Go.RowKit
section
variable {P : Program} {ops : Array Oper} {rest : List Oper} {o : Oper} {a : Act} {Q : Exit → Act → World → Prop} {W : World}
end
end Go.Proofs.YtamibghbkjmmeaaDoorW.PrintWords
end
section
namespace Go.Proofs.YtamibghbkjmmeaaDoorW.PrintWords
open Go.RowKit
namespace Kd
section
variable {α : Type} {d : Kd α} {e base n cap g : Nat} {ok ok' okp : Nat → Prop} {w w1 W : World} {v v1 : Value} {xs ys : List α}
theorem N_made {rows : List (List Value)} (hR : (raw d.sz).R e w1 base (fun k => k = W.heap.size) v1 rows) (hg : W.grownBy w1 none) (hat : ∃ b, v1.ownBlock = some b ∧ W.heap.size ≤ b) (hl : rows.length = xs.length) (hf : ∀ (j : Nat) (x : α) (c : List Value), xs[j]? = some x → rows[j]? = some c → FK d W okp x c)
    (hok : ∀ k, okp k → ok k) (hfresh : ok W.heap.size) : N d e w1 base ok v1 xs := by
  obtain ⟨b, hb, hle⟩ := hat
  refine ⟨fun k hk => by rw [hR.1 k hk]; exact hfresh, rows, hl, raw_tight hR, fun j x c hx hc => ?_⟩
  refine FK_mono (FK_step (FK_bound (hf j x c hx hc)) (fun k hk hlt => hg.block k hlt (by simp))) (fun k hk => ⟨hok k hk.1, fun he => ?_⟩)
  rw [hb] at he
  injection he with he
  have := hk.2
  omega
end
section
variable {P : Program} {ops : Array Oper} {rest : List Oper} {o : Oper} {a : Act} {Q : Exit → Act → World → Prop} {Kc : Act → World → Prop} {α : Type}
theorem N_lit (d : Kd α) {w0 W : World} (base e : Nat) (hgd : o.guard = none) {N' : Tmp} (_hd : o.dst = some N') {xs : List α} {inner : List Value} {ok okp : Nat → Prop}
    (hrun : (execOp a.eval o).run P W = .ok (.value (.slice (some ⟨W.heap.size, 0, none⟩) xs.length xs.length)) (W.alloc (.cells inner.toArray e)))
    (hrep : Reps (FK d W okp) d.sz xs inner) (hok : ∀ k, okp k → ok k) (hfresh : ok W.heap.size) (HB : Below base w0 W) (hbase : base ≤ W.heap.size) (hm : xs.length ≤ 9223372036854775807)
    (h : ∀ v1 w1, N d e w1 base ok v1 xs → Below base w0 w1 → W.grownBy w1 none → (∃ b, v1.ownBlock = some b ∧ W.heap.size ≤ b) → wpList P ops Q rest (a.put o.dst v1) w1) :
    wpList P ops Q (o :: rest) a W := by
  refine R_lit (raw d.sz) base e hgd _hd (xs := chunks d.sz xs.length inner) (inner := inner) (ok := fun k => k = W.heap.size) (okp := fun _ => False) (by rw [chunks_length]; exact hrun) (reps_raw hrep (fun y c hk => ⟨d.K_len (FK_now hk), d.K_one (FK_now hk)⟩)) (fun _ hk => hk.elim) rfl HB hbase (by rw [chunks_length]; exact hm) ?_
  intro v1 w1 hr hb hg hat
  exact h v1 w1 (N_made hr hg hat (chunks_length _ _ _) (fun j y c hy hc => by rw [chunks_get hc]; exact hrep.2 j y hy) hok hfresh) hb hg hat
end
end Kd
end Go.Proofs.YtamibghbkjmmeaaDoorW.PrintWords
end
section
namespace Go.Proofs.YtamibghbkjmmeaaDoorW.PrintMore
open Go.RowKit Go.Proofs.YtamibghbkjmmeaaDoorW.PrintWords
namespace Kd
open Go.Proofs.YtamibghbkjmmeaaDoorW.PrintWords.Kd
end Kd
namespace Kd
open Go.Proofs.YtamibghbkjmmeaaDoorW.PrintWords.Kd
section
variable {α : Type} {d : Kd α} {e base g N : Nat} {ok : Nat → Prop} {W w1 : World} {u v : Value} {xs : List α}
end
end Kd
theorem max2_int (k k' : IntKind) (x y : Int) : Builtin.max2 (.int k x) (.int k' y) = pure (.int k (if x < y then y else x)) := by simp only [Builtin.max2, gt_iff_lt]
theorem min2_int (k k' : IntKind) (x y : Int) : Builtin.min2 (.int k x) (.int k' y) = pure (.int k (if y < x then y else x)) := by simp only [Builtin.min2]
theorem max_two (ats : Array TypeId) (ty : TypeId) (a b : Value) : Builtin.max_ ats ty #[a, b] = (Builtin.max2 a b >>= fun s => pure s) := by simp only [Builtin.max_, List.foldlM_cons, List.foldlM_nil]
theorem min_two (ats : Array TypeId) (ty : TypeId) (a b : Value) : Builtin.min_ ats ty #[a, b] = (Builtin.min2 a b >>= fun s => pure s) := by simp only [Builtin.min_, List.foldlM_cons, List.foldlM_nil]
theorem max_three (ats : Array TypeId) (ty : TypeId) (a b c : Value) : Builtin.max_ ats ty #[a, b, c] = (Builtin.max2 a b >>= fun s => Builtin.max2 s c >>= fun s => pure s) := by simp only [Builtin.max_, List.foldlM_cons, List.foldlM_nil]
theorem min_three (ats : Array TypeId) (ty : TypeId) (a b c : Value) : Builtin.min_ ats ty #[a, b, c] = (Builtin.min2 a b >>= fun s => Builtin.min2 s c >>= fun s => pure s) := by simp only [Builtin.min_, List.foldlM_cons, List.foldlM_nil]
theorem max_four (ats : Array TypeId) (ty : TypeId) (a b c d : Value) : Builtin.max_ ats ty #[a, b, c, d] = (Builtin.max2 a b >>= fun s => Builtin.max2 s c >>= fun s => Builtin.max2 s d >>= fun s => pure s) := by simp only [Builtin.max_, List.foldlM_cons, List.foldlM_nil]
theorem min_four (ats : Array TypeId) (ty : TypeId) (a b c d : Value) : Builtin.min_ ats ty #[a, b, c, d] = (Builtin.min2 a b >>= fun s => Builtin.min2 s c >>= fun s => Builtin.min2 s d >>= fun s => pure s) := by simp only [Builtin.min_, List.foldlM_cons, List.foldlM_nil]
end Go.Proofs.YtamibghbkjmmeaaDoorW.PrintMore
namespace Go.Proofs.YtamibghbkjmmeaaDoorW.PrintWords
open Go.RowKit
section
variable {P : Program} {ops : Array Oper} {rest : List Oper} {o : Oper} {a : Act} {Q : Exit → Act → World → Prop} {W : World}
theorem gate_callee {f : FuncId} {as7 : Array Operand} {ts : Array TypeId} (_ho : o.op = .call { callee := .value (.func f), args := as7, argTypes := ts }) (h : wpList P ops Q (o :: rest) a W) : wpList P ops Q (o :: rest) a W := h
theorem gate_builtin {b : Builtin} {xs : Array Operand} {ts : Array TypeId} (_ho : o.op = .call { callee := .builtin b, args := xs, argTypes := ts }) (h : wpList P ops Q (o :: rest) a W) : wpList P ops Q (o :: rest) a W := h
end
def mx (a b : Int) : Int := if a < b then b else a
def mn (a b : Int) : Int := if b < a then b else a
def shl (k : IntKind) (x y : Int) : Int := k.wrap (x * 2 ^ min y.toNat k.bits)
def shr (k : IntKind) (x y : Int) : Int := x / 2 ^ min y.toNat k.bits
theorem shl_small {k : IntKind} {x y j : Int} (h : shl k x y = j) (hy : y ≤ k.bits) : k.wrap (x * 2 ^ y.toNat) = j := by rw [← h]; unfold shl; rw [Nat.min_eq_left (by omega)]
theorem shr_small {k : IntKind} {x y j : Int} (h : shr k x y = j) (hy : y ≤ k.bits) : x / 2 ^ y.toNat = j := by rw [← h]; unfold shr; rw [Nat.min_eq_left (by omega)]
namespace Kd
section
variable {α : Type} {d : Kd α} {e base : Nat} {ok : Nat → Prop} {W w1 : World} {v : Value} {xs : List α}
theorem R_grown2 (h : d.R e W base ok v xs) (hE : d.E = []) {row : Option Nat} (hg : W.grownBy w1 row) (hne : ∀ k, row = some k → some k ≠ v.ownBlock) : d.R e w1 base ok v xs :=
  R_mono (R_grown (R_tight hE h) hg (fun k hk e_ => hne k e_.symm hk)) (fun k hk => h.1 k hk.symm)
end
section
variable {α : Type} {d : Kd α} {e base g n cap : Nat} {ok oki okp : Nat → Prop} {W : World} {xs : List α} {i : Int} {c : List Value}
end
section
variable {α : Type} {d : Kd α} {e base b b' g N : Nat} {ok ok1 : Nat → Prop} {W W2 w1 : World} {u v : Value} {xs ys : List α} {S : Nat → Prop}
end
end Kd
end Go.Proofs.YtamibghbkjmmeaaDoorW.PrintWords
namespace Go.Proofs.YtamibghbkjmmeaaDoorW.PrintWords
open Go.RowKit
namespace Kd
def V {α : Type} (d : Kd α) (_e : Nat) (W : World) (_base : Nat) (ok : Nat → Prop) (v : Value) (xs : List α) : Prop := ∃ A c, v = .slice A xs.length c ∧ xs.length ≤ c ∧ F d W ok A xs.length xs
section
variable {α β : Type} {d : Kd α} {e base base' n m c g N' lo hi : Nat} {ok ok' S : Nat → Prop} {w W w1 : World} {A : Option Addr} {ad : Addr} {u v v1 : Value} {xs : List α}
theorem V_map (h : V d e W base ok v xs) (hF : ∀ A, F d W ok A xs.length xs → F d w1 ok' A xs.length xs) : V d e w1 base' ok' v xs := by
  obtain ⟨A, c, hv, hl, hf⟩ := h
  exact ⟨A, c, hv, hl, hF A hf⟩
theorem V_mk (hl : xs.length ≤ c) (hf : F d W ok A xs.length xs) : V d e W base ok (.slice A xs.length c) xs := ⟨A, c, rfl, hl, hf⟩
theorem V_at (h : V d e W base ok (.slice A n c) xs) : n = xs.length ∧ n ≤ c ∧ F d W ok A xs.length xs := by
  obtain ⟨A', c', hv, hl, hf⟩ := h
  injection hv with ha hn hc
  subst ha; subst hc
  exact ⟨hn, by rw [hn]; exact hl, hf⟩
theorem V_reads' (h : V d e W base ok (.slice A n c) xs) : n = xs.length ∧ n ≤ c ∧ d.C W A xs.length xs := ⟨(V_at h).1, (V_at h).2.1, F_now (V_at h).2.2⟩
theorem V_F (h : V d e W base ok (.slice A n c) xs) : F d W ok A n xs := by
  obtain ⟨hn, _, hf⟩ := V_at h
  rw [hn]
  exact hf
theorem V_nil (d : Kd α) (e : Nat) (W : World) (base : Nat) (ok : Nat → Prop) : V d e W base ok (.slice none 0 0) [] := ⟨none, 0, rfl, Nat.le_refl _, F_nil d W ok⟩
theorem V_mono (h : V d e W base ok v xs) (hok : ∀ k, ok k → ok' k) : V d e W base ok' v xs := V_map h (fun _ hf => F_mono hf hok)
theorem V_below (h : V d e W base ok v xs) (hb : Below W.heap.size W w1) : V d e w1 base ok v xs := V_map h (fun _ hf => F_below hf hb)
theorem V_alloc (h : V d e W base ok v xs) (o : Obj) : V d e (W.alloc o) base ok v xs := V_map h (fun _ hf => F_alloc hf o)
theorem V_drew (h : V d e W base ok v xs) : V d e W.drew base ok v xs := V_map h (fun _ hf => F_drew hf)
theorem V_drewN (h : V d e W base ok v xs) (m : Nat) : V d e (W.drewN m) base ok v xs := V_map h (fun _ hf => F_drewN hf m)
theorem V_elder' (h : V d e W base ok v xs) (hbase : ∀ k, u.ownBlock = some k → W.heap.size ≤ k) (hb : Below W.heap.size W w1) : V d e w1 base (fun k => ok k ∧ some k ≠ u.ownBlock) v xs := V_map h (fun _ hf => F_elder' hf hbase hb)
theorem V_elderB (h : V d e W base ok v xs) (a : Nat) (ha : W.heap.size ≤ a) : V d e W base (fun k => ok k ∧ k ≠ a) v xs := V_map h (fun _ hf => F_elderB hf a ha)
theorem R_newM {M : Nat → Prop} (h : d.R e w1 W.heap.size ok v xs) (hle : w.heap.size ≤ W.heap.size) (hM : ∀ k, w.heap.size ≤ k → M k) : d.R e w1 W.heap.size (fun k => M k ∧ ok k) v xs := R_mono (R_bound h) (fun k hk => ⟨hM k (Nat.le_trans hle hk.2.1), hk.1⟩)
end
end Kd
end Go.Proofs.YtamibghbkjmmeaaDoorW.PrintWords
end
section
namespace Go.Proofs.YtamibghbkjmmeaaDoor.G
open Go.RowKit Go.Proofs.YtamibghbkjmmeaaDoorW.PrintWords Go.Proofs.YtamibghbkjmmeaaDoorW.PrintLast Go.Proofs.YtamibghbkjmmeaaDoorW.PrintMore
attribute [local go_sem] max2_int min2_int max_two min_two max_three min_three max_four min_four
set_option linter.unusedVariables false
set_option linter.unusedSimpArgs false
def errW : Option Int → Value
  | none => .nilIface
  | some c => .iface 0 (.int .i64 c)
theorem errW_none : errW none = .nilIface := rfl
theorem errW_some (c : Int) : errW (some c) = .iface 0 (.int .i64 c) := rfl
theorem info3 : (Tryd.prog.info? 3).map (fun i => (i.zero, i.size, i.bytes)) = some (some (.int .i64 0), 1, 8) := by kernel_rfl
theorem info24 : (Tryd.prog.info? 24).map (fun i => (i.zero, i.size, i.bytes)) = some (some (.agg #[(.int .i64 0), (.slice none 0 0)]), 2, 32) := by kernel_rfl
theorem info85 : (Tryd.prog.info? 85).map (fun i => (i.zero, i.size, i.bytes)) = some (some (.agg #[(.int .i64 0), (.int .i64 0)]), 2, 16) := by kernel_rfl
theorem info116 : (Tryd.prog.info? 116).map (fun i => (i.zero, i.size, i.bytes)) = some (some (.int .u64 0), 1, 8) := by kernel_rfl
structure S24 where
  f0 : Int
  f1 : (List Int)
def z24 : S24 := ⟨(0 : Int), ([] : List Int)⟩
def k24 : Kd S24 := Kd.iso (Kd.pair (Kd.int .i64) (Kd.slice 3 (Kd.int .i64))) (fun x : S24 => (x.f0, x.f1))
theorem k24_open {w : World} {x : S24} {cs : List Value} (h : k24.K w x cs) : ∃ A1 c1, cs = [.int .i64 x.f0, .slice A1 x.f1.length c1] ∧ x.f1.length ≤ c1 ∧ (Kd.int .i64).C w A1 x.f1.length x.f1 := by
  obtain ⟨_, _, rfl, rfl, ⟨A1, c1, rfl, l1, g1⟩⟩ := h
  exact ⟨A1, c1, rfl, l1, g1⟩
theorem k24_mk (w : World) (x : S24) {A1 : Option Addr} {c1 : Nat} (l1 : x.f1.length ≤ c1) (g1 : (Kd.int .i64).C w A1 x.f1.length x.f1) : k24.K w x [.int .i64 x.f0, .slice A1 x.f1.length c1] := ⟨[.int .i64 x.f0], [.slice A1 x.f1.length c1], rfl, rfl, ⟨A1, c1, rfl, l1, g1⟩⟩
theorem k24_mkM (w : World) (base : Nat) (ok : Nat → Prop) (x : S24) {v1 : Value} (g1 : (Kd.int .i64).R 3 w base ok v1 x.f1) : k24.M w base ok x [.int .i64 x.f0, v1] := ⟨[.int .i64 x.f0], [v1], rfl, rfl, ⟨v1, rfl, g1⟩⟩
theorem k24_mkF (W : World) (ok : Nat → Prop) (x : S24) {A1 : Option Addr} {c1 : Nat} (l1 : x.f1.length ≤ c1) (g1 : Kd.F (Kd.int .i64) W ok A1 x.f1.length x.f1) : Kd.FK k24 W ok x [.int .i64 x.f0, .slice A1 x.f1.length c1] := fun W2 hW => k24_mk W2 x l1 (g1 W2 hW)
def rd_T24 (xs : List S24) (i : Int) : S24 := xs.getD i.toNat z24
theorem at_T24 {w : World} {A : Option Addr} {n : Nat} {xs : List S24} (h : Kd.C k24 w A n xs) (i : Int) (h0 : 0 ≤ i) (h1 : i < n) : ∃ ad A1 c1, A = some ad ∧ w.cell? (ad.add (i.toNat * 2)) = some (.int .i64 (rd_T24 xs i).f0) ∧ w.cell? ⟨(ad.add (i.toNat * 2)).block, (ad.add (i.toNat * 2)).off + 1, none⟩ = some (.slice A1 (rd_T24 xs i).f1.length c1) ∧ (rd_T24 xs i).f1.length ≤ c1 ∧ (Kd.int .i64).C w A1 (rd_T24 xs i).f1.length (rd_T24 xs i).f1 := by
  obtain ⟨ad, c, e, _, hK, hc0⟩ := Kd.C_get h z24 i h0 h1
  have hc : ∀ j u, c[j]? = some u → w.cell? (ad.add (i.toNat * 2 + j)) = some u := hc0
  obtain ⟨A1, c1, rfl, l1, g1⟩ := k24_open hK
  exact ⟨ad, A1, c1, e, hc 0 _ rfl, by rw [← add_field _ _ 1 (by omega)]; exact hc 1 _ rfl, l1, g1⟩
structure S85 where
  f0 : Int
  f1 : Int
def z85 : S85 := ⟨(0 : Int), (0 : Int)⟩
def k85 : Kd S85 := Kd.iso (Kd.pair (Kd.int .i64) (Kd.int .i64)) (fun x : S85 => (x.f0, x.f1))
theorem k85_open {w : World} {x : S85} {cs : List Value} (h : k85.K w x cs) : cs = [.int .i64 x.f0, .int .i64 x.f1] := by
  obtain ⟨_, _, rfl, rfl, rfl⟩ := h
  exact rfl
theorem k85_mkM (w : World) (base : Nat) (ok : Nat → Prop) (x : S85)  : k85.M w base ok x [.int .i64 x.f0, .int .i64 x.f1] := ⟨[.int .i64 x.f0], [.int .i64 x.f1], rfl, rfl, rfl⟩
def rd_T85 (xs : List S85) (i : Int) : S85 := xs.getD i.toNat z85
theorem at_T85 {w : World} {A : Option Addr} {n : Nat} {xs : List S85} (h : Kd.C k85 w A n xs) (i : Int) (h0 : 0 ≤ i) (h1 : i < n) : ∃ ad , A = some ad ∧ w.cell? (ad.add (i.toNat * 2)) = some (.int .i64 (rd_T85 xs i).f0) ∧ w.cell? ⟨(ad.add (i.toNat * 2)).block, (ad.add (i.toNat * 2)).off + 1, none⟩ = some (.int .i64 (rd_T85 xs i).f1) := by
  obtain ⟨ad, c, e, _, hK, hc0⟩ := Kd.C_get h z85 i h0 h1
  have hc : ∀ j u, c[j]? = some u → w.cell? (ad.add (i.toNat * 2 + j)) = some u := hc0
  obtain rfl := k85_open hK
  exact ⟨ad, e, hc 0 _ rfl, by rw [← add_field _ _ 1 (by omega)]; exact hc 1 _ rfl⟩
end Go.Proofs.YtamibghbkjmmeaaDoor.G
end
section
namespace Go.Proofs.YtamibghbkjmmeaaDoor.G
open Go.RowKit Go.Proofs.YtamibghbkjmmeaaDoorW.PrintWords Go.Proofs.YtamibghbkjmmeaaDoorW.PrintLast Go.Proofs.YtamibghbkjmmeaaDoorW.PrintMore
set_option linter.unusedVariables false
set_option linter.unusedSimpArgs false
def bl (n m : Nat) : Array Bool := ((List.range n).map fun i => m.testBit i).toArray
section
variable {P : Program} {ops : Array Oper} {Q : Exit → Act → World → Prop} {md : Region.Mode} {S : World → Prop} {ds : List Nat}
theorem pS {oi : Oper} {v : Value} {fuel : Nat} {l : Array Bool} {a a' : Act} {w : World} (i n : Nat) (l' : Array Bool) (h : wpAnyLast P md ops Q S ds fuel l' a' w) (hi : ops[i]? = some oi := by rfl) (hN : oi.dst = some n := by rfl) (hc : anyB md ops l l' i = true := by kernel_rfl)
    (hQ : ∀ c a w, Q (.panic c) (a.put oi.dst v) w → Q (.panic c) a w := by exact fun _ _ _ h => h) (hy : Yields P ops oi v a := by (refine Or.inl ⟨by rfl, ?_⟩; intro w'; go_simp; with_reducible rfl)) (ha : a.put (some n) v = a' := by (simp only [Act.put, List.setIfInBounds_toArray, List.set_cons_zero, List.set_cons_succ, i64_w, i32_w]; rfl)) : wpAnyLast P md ops Q S ds (fuel + 1) l a w :=
  pure_ l' hi hN hc hQ hy ha h
theorem uS {oi : Oper} {fuel : Nat} {l : Array Bool} {a a' : Act} {w : World} (i n : Nat) (l' : Array Bool) (h : wpAnyLast P md ops Q S ds fuel l' a' w) (hi : ops[i]? = some oi := by rfl) (hN : oi.dst = some n := by rfl) (hc : anyB md ops l l' i = true := by kernel_rfl)
    (hQ : ∀ c a w, Q (.panic c) (a.put oi.dst undef) w → Q (.panic c) a w := by exact fun _ _ _ h => h) (hy : Yields P ops oi undef a := by exact (Or.inr ⟨by rfl, rfl⟩)) (ha : a.put (some n) undef = a' := by (simp only [Act.put, List.setIfInBounds_toArray, List.set_cons_zero, List.set_cons_succ, i64_w, i32_w]; rfl)) : wpAnyLast P md ops Q S ds (fuel + 1) l a w :=
  pure_ l' hi hN hc hQ hy ha h
theorem tS {oi : Oper} {v : Value} {fuel : Nat} {l : Array Bool} {a a' : Act} {w : World} (i n : Nat) (l' : Array Bool) (hS : S w) (h : wpAnyLast P md ops Q S ds fuel l' a' w) (hi : ops[i]? = some oi := by rfl) (hN : oi.dst = some n := by rfl) (hc : takeB md ops ds l l' i = true := by kernel_rfl)
    (hQ : ∀ c a w, Q (.panic c) (a.put oi.dst v) w → Q (.panic c) a w := by exact fun _ _ _ h => h) (hy : YieldsIf P ops S oi v a := by (refine Or.inl ⟨by rfl, ?_⟩; intro w' hS_; go_simp; with_reducible rfl)) (ha : a.put (some n) v = a' := by (simp only [Act.put, List.setIfInBounds_toArray, List.set_cons_zero, List.set_cons_succ, i64_w, i32_w]; rfl)) : wpAnyLast P md ops Q S ds (fuel + 1) l a w :=
  take_ l' hi hN hc hQ hy hS ha h
theorem nS {fuel : Nat} {l : Array Bool} {a a' : Act} {v : Value} {w : World} (n : Nat) (h : wpAnyLast P md ops Q S ds fuel l a' w) (ha : a.put (some n) v = a' := by (simp only [Act.put, List.setIfInBounds_toArray, List.set_cons_zero, List.set_cons_succ, i64_w, i32_w]; rfl)) : wpAnyLast P md ops Q S ds fuel l (a.put (some n) v) w :=
  norm_ ha h
theorem vS {oi : Oper} {N : Option Tmp} {a : Act} {w w1 : World} {v : Value} {K : Act → World → Prop} (h : K (a.put N v) w1) (hw : Region.wanted oi (yielded ops a.tmps) = true := by rfl) (hN : oi.dst = N := by rfl) (hrun : (execOp a.eval oi).run P w = .ok (.value v) w1 := by (go_simp; constructor <;> rfl)) :
    if Region.wanted oi (yielded ops a.tmps) = true then Oper.wp P oi a w K Q else K (a.put N undef) w := value_ hw hN hrun h
theorem sS {oi : Oper} {a : Act} {w w1 : World} {K : Act → World → Prop} (h : K a w1) (hw : Region.wanted oi (yielded ops a.tmps) = true := by rfl) (hN : oi.dst = none := by rfl) (hrun : (execOp a.eval oi).run P w = .ok .skip w1 := by (go_simp; rfl)) :
    if Region.wanted oi (yielded ops a.tmps) = true then Oper.wp P oi a w K Q else K (a.put none undef) w := skip_ hw hN hrun h
end
end Go.Proofs.YtamibghbkjmmeaaDoor.G
end
section
namespace Go.Proofs.YtamibghbkjmmeaaDoor.G
open Go.RowKit Go.Proofs.YtamibghbkjmmeaaDoorW.PrintWords Go.Proofs.YtamibghbkjmmeaaDoorW.PrintLast Go.Proofs.YtamibghbkjmmeaaDoorW.PrintMore
set_option linter.unusedVariables false
set_option linter.unusedSimpArgs false
section
variable {α : Type} {P : Program} {ps : Array Tmp} {assign body : Code}
def Seq0 (P : Program) (g : Nat) (lb : Array Value) (encs : α → Array Value) (Kp St : World → World → Prop) (xs : List α) (w : World) : Prop :=
  ∀ (n l : Nat) (J Jx : List α → World → Prop) (W : World), Below w.heap.size w W → (∀ s A B, J s A → St A B → J s B) → (∀ s A B, Jx s A → St A B → Jx s B) →
    (∀ pre x W1, J pre W1 → (pre ++ [x]) <+: xs → ∀ m, YieldAt Fence.wide m P l (encs x) W1 fun e W' =>
      (e = .returned (.bool true) ∧ J (pre ++ [x]) W' ∧ Kp W1 W') ∨ (e = .returned (.bool false) ∧ Jx (pre ++ [x]) W')) →
    J [] W → CallsIn Fence.wide n P g (#[.func (.yield l) #[] #[]] ++ lb) W fun e W' => (∃ v, e = .returned v) ∧ (J xs W' ∨ ∃ pre, pre <+: xs ∧ Jx pre W')
abbrev recd (fn : Nat) (tmps : Array Value) (ps : Array Tmp) (assign body : Code) (d : Nat) (st : LoopState) (pe : Option Code) : Obj :=
  .loop { state := st, pending := pe, fn := fn, tmps := tmps, params := ps, assign := assign, body := body, defers := d }
theorem range_core {tmps : Array Value} {fn d l B gf : Nat} {lb : Array Value} {encs : α → Array Value} {Kp St : World → World → Prop} {xs : List α} {w0 W1 : World}
    (hseq : Seq0 P gf lb encs Kp St xs w0) (hb1 : Below w0.heap.size w0 W1) (hps : ∀ x, (encs x).size = ps.size) (hBl : B ≤ l)
    (hL : W1.heap[l]? = some (recd fn tmps ps assign body d .ready none))
    (hKt : ∀ {A B C : World}, Kp A B → Kp B C → Kp A C) (hKb : ∀ (W : World) (r r' : Loop), W.heap[l]? = some (.loop r) → Kp W (W.putObj l (.loop r')))
    (hSt : ∀ A A', St A A' → KeepsFrom B A A') (X : World → Prop) (hX : X W1) (hXk : ∀ A A', X A → KeepsFrom B A A' → X A') (hXp : ∀ A o, X A → X (A.putObj l o))
    (I : List α → World → Prop) (Ix : Code → List α → World → Prop) (hI : OwnFrom B I) (hIx : ∀ c, OwnFrom B (Ix c)) (hIs : ∀ s A A', I s A → St A A' → I s A') (hIxs : ∀ c s A A', Ix c s A → St A A' → Ix c s A') (h0 : I [] W1)
    (Ax : α → Act → World → Prop) (hAx : ∀ x a', OwnFrom B (fun (_ : Unit) W => Ax x a' W))
    (hassign : ∀ (m : Nat) (pre : List α) (x : α) (W : World) (K : Act → World → Prop), I pre W → (pre ++ [x]) <+: xs → (∀ a' W', KeepsFrom B W W' → Kp W W' → I pre W' → Ax x a' W' → K a' W') →
      assign.wpIn (Fence.wide.inRound l) m P (Exit.then K (fun _ _ _ => False)) { tmps := (ps.zip (encs x)).foldl (fun t (p, v) => t.setIfInBounds p v) tmps, defers := [] } W)
    (hbody : ∀ (m : Nat) (pre : List α) (x : α) (a' : Act) (W : World), (∃ r, W.heap[l]? = some (.loop r)) → I pre W → Ax x a' W → (pre ++ [x]) <+: xs → body.wpIn (Fence.wide.inRound l) m P (ownPostG B Kp I Ix (pre ++ [x]) W) a' W)
    (n : Nat) : CallsIn Fence.wide n P gf (#[.func (.yield l) #[] #[]] ++ lb) W1 fun e W2 => (∃ v, e = .returned v) ∧ ∃ jump W4, (Instr.endLoop l).run P W2 = .ok jump W4 ∧ X W4 ∧ ((jump = none ∧ I xs W4) ∨ ∃ c pre, jump = some c ∧ pre <+: xs ∧ Ix c pre W4) := by
  have keep : ∀ {A A' : World} {o : Obj}, A.heap[l]? = some o → o.isCells = false → KeepsFrom B A A' → A'.heap[l]? = some o := fun h ho k => k.same _ _ hBl h ho
  have put : ∀ {A : World} {o : Obj} (o' : Obj), A.heap[l]? = some o → (A.putObj l o').heap[l]? = some o' := fun o' h => World.putObj_heap_same (Array.getElem?_eq_some_iff.1 h).1
  refine (hseq n l (fun pre W => I pre W ∧ X W ∧ W.heap[l]? = some (recd fn tmps ps assign body d .ready none))
    (fun pre W => ∃ c, Ix c pre W ∧ X W ∧ W.heap[l]? = some (recd fn tmps ps assign body d .done (some c))) W1 hb1
    (fun s A A' h k => ⟨hIs s A A' h.1 k, hXk A A' h.2.1 (hSt A A' k), keep h.2.2 rfl (hSt A A' k)⟩)
    (fun s A A' ⟨c, h1, h2, h3⟩ k => ⟨c, hIxs c s A A' h1 k, hXk A A' h2 (hSt A A' k), keep h3 rfl (hSt A A' k)⟩) ?_ ⟨h0, hX, hL⟩).mono ?_
  · rintro pre x W ⟨hi, hx, hl⟩ hpre m
    have hy := run_yield (P := P) (args := encs x) hl (hps x)
    refine ⟨fn, _, assign, body, hy, roundIn_of_wpIn trivial (hassign m pre x W _ hi hpre ?_)⟩
    intro a' Wa hka hkp hia hax
    have hla := keep hl rfl hka
    refine ⟨_, run_beginRound hla rfl, ?_⟩
    have hl2 := put (recd fn tmps ps assign body d .busy none) hla
    refine wpIn_mono (hbody m pre x a' _ ⟨_, hl2⟩ (hI.putObj _ hia hBl hla rfl) ((hAx x a').putObj (s := ()) _ hax hBl hla rfl) hpre) ?_
    have hx2 := hXp _ (recd fn tmps ps assign body d .busy none) (hXk _ _ hx hka)
    have fin : ∀ (jump : Option Code) (W3 : World), KeepsFrom B (Wa.putObj l (recd fn tmps ps assign body d .busy none)) W3 →
        (Instr.endRound l jump).run P W3 = .ok (.bool jump.isNone) (W3.putObj l (recd fn tmps ps assign body d (if jump.isNone then .ready else .done) jump)) ∧ W3.heap[l]? = some (recd fn tmps ps assign body d .busy none) ∧
        (W3.putObj l (recd fn tmps ps assign body d (if jump.isNone then .ready else .done) jump)).heap[l]? = some (recd fn tmps ps assign body d (if jump.isNone then .ready else .done) jump) ∧
        X (W3.putObj l (recd fn tmps ps assign body d (if jump.isNone then .ready else .done) jump)) := fun jump W3 hk3 =>
      have hl3 := keep hl2 rfl hk3
      ⟨run_endRound (P := P) jump hl3, hl3, put _ hl3, hXp _ _ (hXk _ _ hx2 hk3)⟩
    rintro e a3 W3 hp
    cases e with
    | normal =>
      obtain ⟨hk3, hkp3, hi3⟩ := hp
      obtain ⟨hr, hl3, hl4, hx4⟩ := fin none W3 hk3
      exact ⟨_, _, hr, .inl ⟨rfl, ⟨hI.putObj _ hi3 hBl hl3 rfl, hx4, hl4⟩, hKt hkp (hKt (hKb _ _ _ hla) (hKt hkp3 (hKb _ _ _ hl3)))⟩⟩
    | ret =>
      obtain ⟨hk3, hi3⟩ := hp
      obtain ⟨hr, hl3, hl4, hx4⟩ := fin (some .ret) W3 hk3
      exact ⟨_, _, hr, .inr ⟨rfl, .ret, (hIx _).putObj _ hi3 hBl hl3 rfl, hx4, hl4⟩⟩
    | exit id =>
      obtain ⟨hk3, hi3⟩ := hp
      obtain ⟨hr, hl3, hl4, hx4⟩ := fin (some (.exit id)) W3 hk3
      exact ⟨_, _, hr, .inr ⟨rfl, .exit id, (hIx _).putObj _ hi3 hBl hl3 rfl, hx4, hl4⟩⟩
    | goto t =>
      obtain ⟨hk3, hi3⟩ := hp
      obtain ⟨hr, hl3, hl4, hx4⟩ := fin (some (.goto t)) W3 hk3
      exact ⟨_, _, hr, .inr ⟨rfl, .goto t, (hIx _).putObj _ hi3 hBl hl3 rfl, hx4, hl4⟩⟩
    | panic ch => exact hp.elim
    | outgrown => exact hp.elim
  · rintro e W2 ⟨hv, (⟨hi, hx, hl⟩ | ⟨pre, hpre, c, hi, hx, hl⟩)⟩
    · exact ⟨hv, none, _, run_endLoop (P := P) hl (by simp), hXp _ _ hx, .inl ⟨rfl, hI.putObj _ hi hBl hl rfl⟩⟩
    · exact ⟨hv, some c, _, run_endLoop (P := P) hl (by simp), hXp _ _ hx, .inr ⟨c, pre, rfl, hpre, (hIx c).putObj _ hi hBl hl rfl⟩⟩
theorem range_out {g : Operand} {Q : Exit → Act → World → Prop} {a : Act} {w : World} {n gf : Nat} {lb : Array Value} {encs : α → Array Value} {Kp St : World → World → Prop} {xs : List α}
    (hg : a.eval g = .func (.func gf) #[] lb) (eg : ∀ args w, (callFunc gf args).run P w = .ok (.enter gf args) w) (hseq : Seq0 P gf lb encs Kp St xs w) (hps : ∀ x, (encs x).size = ps.size)
    (hKt : ∀ {A B C : World}, Kp A B → Kp B C → Kp A C) (hKb : ∀ (W : World) (l : Nat) (r r' : Loop), w.heap.size ≤ l → W.heap[l]? = some (.loop r) → Kp W (W.putObj l (.loop r')))
    (hSt : ∀ A A', St A A' → KeepsFrom w.heap.size A A')
    (I : List α → World → Prop) (Ix : Code → List α → World → Prop) (hI : OwnFrom w.heap.size I) (hIx : ∀ c, OwnFrom w.heap.size (Ix c)) (hIs : ∀ s A A', I s A → St A A' → I s A') (hIxs : ∀ c s A A', Ix c s A → St A A' → Ix c s A') (h0 : I [] w)
    (Ax : α → Act → World → Prop) (hAx : ∀ x a', OwnFrom w.heap.size (fun (_ : Unit) W => Ax x a' W))
    (hassign : ∀ (m l : Nat) (pre : List α) (x : α) (W : World) (K : Act → World → Prop), I pre W → (pre ++ [x]) <+: xs → (∀ a' W', KeepsFrom w.heap.size W W' → Kp W W' → I pre W' → Ax x a' W' → K a' W') →
      assign.wpIn (Fence.wide.inRound l) m P (Exit.then K (fun _ _ _ => False)) { tmps := (ps.zip (encs x)).foldl (fun t (p, v) => t.setIfInBounds p v) a.tmps, defers := [] } W)
    (hbody : ∀ (m l : Nat) (pre : List α) (x : α) (a' : Act) (W : World), w.heap.size ≤ l → (∃ r, W.heap[l]? = some (.loop r)) → I pre W → Ax x a' W → (pre ++ [x]) <+: xs → body.wpIn (Fence.wide.inRound l) m P (ownPostG w.heap.size Kp I Ix (pre ++ [x]) W) a' W)
    (hdone : ∀ (D : Nat) (W : World), w.heap.size ≤ D → I xs W → W.heap[D]? = some (.deferred (some [])) → Q .normal { a with defers := { target := .collected D, args := #[] } :: a.defers } W)
    (hstop : ∀ (D : Nat) (c : Code) (pre : List α) (W : World), w.heap.size ≤ D → pre <+: xs → Ix c pre W → W.heap[D]? = some (.deferred (some [])) → c.wpIn Fence.wide n P Q { a with defers := { target := .collected D, args := #[] } :: a.defers } W) :
    (Code.rangeFunc g ps assign body).wpIn Fence.wide n P Q a w := by
  refine wpIn_rangeFunc ?_
  intro fn _
  obtain ⟨W1, hW1⟩ : ∃ W1, (w.alloc (.deferred (some []))).alloc (recd fn a.tmps ps assign body w.heap.size .ready none) = W1 := ⟨_, rfl⟩
  have hL1 : W1.heap[w.heap.size + 1]? = some (recd fn a.tmps ps assign body w.heap.size .ready none) := by
    rw [← hW1]; have := World.alloc_heap_new (w.alloc (.deferred (some []))) (recd fn a.tmps ps assign body w.heap.size .ready none); rwa [World.size_alloc] at this
  have hK1 : W1.heap[w.heap.size]? = some (.deferred (some [])) := by
    rw [← hW1]; exact (Below.heap_alloc _ _ _ (by simp)).trans (World.alloc_heap_new w _)
  have hI1 : I [] W1 := by rw [← hW1]; exact hI.alloc _ (hI.alloc _ h0)
  have hb1 : Below w.heap.size w W1 := by rw [← hW1]; exact (((Below.refl _ w).alloc (Nat.le_refl _) _).alloc (by simp) _)
  have core := range_core (B := w.heap.size) (l := w.heap.size + 1) hseq hb1 hps (by omega) hL1 hKt (fun W r r' h => hKb W _ r r' (by omega) h) hSt (fun W => W.heap[w.heap.size]? = some (.deferred (some [])))
    hK1 (fun A A' h k => k.same _ _ (Nat.le_refl _) h rfl) (fun A o h => (World.putObj_heap_other (by omega)).trans h) I Ix hI hIx hIs hIxs hI1 Ax hAx (fun m pre x W K => hassign m _ pre x W K) (fun m pre x a' W => hbody m _ pre x a' W (by omega)) (n - 1)
  refine ⟨w.heap.size + 1, [{ target := .collected w.heap.size, args := #[] }], W1, { target := .fn (.func gf) lb, args := #[.func (.yield (w.heap.size + 1)) #[] #[]] }, W1, gf,
    #[.func (.yield (w.heap.size + 1)) #[] #[]] ++ lb, W1, ?_, ?_, fun _ _ => trivial, ?_, fun h => by simp [Fence.wide] at h, ?_⟩
  · rw [← hW1]; exact run_enterLoop_outer _ _ _ _ _
  · simp only [resolve, hg]
    simp [go_sem]
  · simp [invoke, go_sem, eg]
  · refine core.mono ?_
    rintro e W2 ⟨⟨v, rfl⟩, jump, W4, he, hx, (⟨rfl, hi⟩ | ⟨c, pre, rfl, hp, hi⟩)⟩
    · exact ⟨none, W4, he, hdone _ W4 (Nat.le_refl _) hi hx⟩
    · exact ⟨some c, W4, he, hstop _ c pre W4 (Nat.le_refl _) hp hi hx⟩
theorem range_in {l₀ : Nat} {r₀ : Loop} {g : Operand} {Q : Exit → Act → World → Prop} {a : Act} {w : World} {n gf : Nat} {lb : Array Value} {encs : α → Array Value} {Kp St : World → World → Prop} {xs : List α}
    (hl₀ : w.heap[l₀]? = some (.loop r₀)) (hg : a.eval g = .func (.func gf) #[] lb) (eg : ∀ args w, (callFunc gf args).run P w = .ok (.enter gf args) w) (hseq : Seq0 P gf lb encs Kp St xs w) (hps : ∀ x, (encs x).size = ps.size)
    (hKt : ∀ {A B C : World}, Kp A B → Kp B C → Kp A C) (hKb : ∀ (W : World) (l : Nat) (r r' : Loop), w.heap.size ≤ l → W.heap[l]? = some (.loop r) → Kp W (W.putObj l (.loop r')))
    (hSt : ∀ A A', St A A' → KeepsFrom w.heap.size A A')
    (I : List α → World → Prop) (Ix : Code → List α → World → Prop) (hI : OwnFrom w.heap.size I) (hIx : ∀ c, OwnFrom w.heap.size (Ix c)) (hIs : ∀ s A A', I s A → St A A' → I s A') (hIxs : ∀ c s A A', Ix c s A → St A A' → Ix c s A') (h0 : I [] w)
    (Ax : α → Act → World → Prop) (hAx : ∀ x a', OwnFrom w.heap.size (fun (_ : Unit) W => Ax x a' W))
    (hassign : ∀ (m l : Nat) (pre : List α) (x : α) (W : World) (K : Act → World → Prop), I pre W → (pre ++ [x]) <+: xs → (∀ a' W', KeepsFrom w.heap.size W W' → Kp W W' → I pre W' → Ax x a' W' → K a' W') →
      assign.wpIn (Fence.wide.inRound l) m P (Exit.then K (fun _ _ _ => False)) { tmps := (ps.zip (encs x)).foldl (fun t (p, v) => t.setIfInBounds p v) a.tmps, defers := [] } W)
    (hbody : ∀ (m l : Nat) (pre : List α) (x : α) (a' : Act) (W : World), w.heap.size ≤ l → (∃ r, W.heap[l]? = some (.loop r)) → I pre W → Ax x a' W → (pre ++ [x]) <+: xs → body.wpIn (Fence.wide.inRound l) m P (ownPostG w.heap.size Kp I Ix (pre ++ [x]) W) a' W)
    (hdone : ∀ (W : World), I xs W → Q .normal a W) (hstop : ∀ (c : Code) (pre : List α) (W : World), pre <+: xs → Ix c pre W → c.wpIn (Fence.wide.inRound l₀) n P Q a W) :
    (Code.rangeFunc g ps assign body).wpIn (Fence.wide.inRound l₀) n P Q a w := by
  refine wpIn_rangeFunc ?_
  intro fn _
  obtain ⟨W1, hW1⟩ : ∃ W1, w.alloc (recd fn a.tmps ps assign body r₀.defers .ready none) = W1 := ⟨_, rfl⟩
  have hL1 : W1.heap[w.heap.size]? = some (recd fn a.tmps ps assign body r₀.defers .ready none) := by rw [← hW1]; exact World.alloc_heap_new w _
  have hI1 : I [] W1 := by rw [← hW1]; exact hI.alloc _ h0
  have hb1 : Below w.heap.size w W1 := by rw [← hW1]; exact ((Below.refl _ w).alloc (Nat.le_refl _) _)
  have core := range_core (B := w.heap.size) (l := w.heap.size) hseq hb1 hps (Nat.le_refl _) hL1 hKt (fun W r r' h => hKb W _ r r' (Nat.le_refl _) h) hSt (fun _ => True) trivial (fun _ _ _ _ => trivial) (fun _ _ _ => trivial)
    I Ix hI hIx hIs hIxs hI1 Ax hAx (fun m pre x W K => hassign m _ pre x W K) (fun m pre x a' W => hbody m _ pre x a' W (Nat.le_refl _)) (n - 1)
  refine ⟨w.heap.size, [], W1, { target := .fn (.func gf) lb, args := #[.func (.yield w.heap.size) #[] #[]] }, W1, gf,
    #[.func (.yield w.heap.size) #[] #[]] ++ lb, W1, ?_, ?_, fun _ _ => trivial, ?_, fun h => by simp [Fence.wide, Fence.inRound] at h, ?_⟩
  · rw [← hW1]; exact run_enterLoop_inner hl₀ _ _ _ _ _
  · simp only [resolve, hg]
    simp [go_sem]
  · simp [invoke, go_sem, eg]
  · refine core.mono ?_
    rintro e W2 ⟨⟨v, rfl⟩, jump, W4, he, _, (⟨rfl, hi⟩ | ⟨c, pre, rfl, hp, hi⟩)⟩
    · exact ⟨none, W4, he, hdone W4 hi⟩
    · exact ⟨some c, W4, he, hstop c pre W4 hp hi⟩
end
end Go.Proofs.YtamibghbkjmmeaaDoor.G
end
section
namespace Go.Proofs.YtamibghbkjmmeaaDoor.G
open Go.RowKit Go.Proofs.YtamibghbkjmmeaaDoorW.PrintWords Go.Proofs.YtamibghbkjmmeaaDoorW.PrintLast Go.Proofs.YtamibghbkjmmeaaDoorW.PrintMore
set_option linter.unusedVariables false
set_option linter.unusedSimpArgs false
def TabOk (w : World) : Prop := TabAt 1 Lib.deBruijn64tab w
theorem TabOk.go {w w1 : World} (h : TabOk w) (hb : Below w.heap.size w w1) : TabOk w1 := fun j hj => pw_cell_below hb (h j hj)
theorem TabOk.drawn {w : World} (h : TabOk w) (n : Nat) : TabOk (w.drewN n) := h.go (pw_below_drewN (Below.refl _ _) n)
theorem tz64_core (x k idx : Nat) (w : World) (hx0 : ((x : Int) == 0) = false)
    (key : IntKind.u64.wrap (bits BinOp.and IntKind.u64 (x : Int) (IntKind.u64.wrap (-(x : Int))) * 285870213051353865) / 288230376151711744 = (idx : Int))
    (hi : idx < 64) (hk : k < 64) (hcell : w.cell? ⟨1, idx, none⟩ = some (.int .u8 k)) :
    Calls Tryd.prog 113 #[.int .u64 x] w fun e w' => e = .returned (.int .i64 k) ∧ w' = w := by
  go_enter Tryd.func113, Tryd.ntmps113
  go_wp2_with (simp only [key])
  go_ret
  exact ⟨rfl, rfl⟩
theorem tz64_zero (w : World) : Calls Tryd.prog 113 #[.int .u64 0] w fun e w' => e = .returned (.int .i64 64) ∧ w' = w := by
  go_enter Tryd.func113, Tryd.ntmps113
  go_wp2
  go_ret
  exact ⟨rfl, rfl⟩
theorem tz64_any (x : Nat) (hx : x < 18446744073709551616) (w : World) (hT : TabOk w) :
    Calls Tryd.prog 113 #[.int .u64 x] w fun e w' => e = .returned (.int .i64 (Lib.ctz 64 x)) ∧ w' = w := by
  by_cases hx0 : x = 0
  · subst hx0
    exact tz64_zero w
  · obtain ⟨hlow, hk⟩ := Lib.lowest_bit 64 x hx0 hx
    obtain ⟨hi, htab⟩ := Lib.deBruijn64_at _ hk
    have hcell := hT _ hi
    rw [htab] at hcell
    exact tz64_core x _ _ w (by simp; omega) (tz64_key x _ hx hx0 hlow) hi hk hcell
theorem tz_any (x : Nat) (hx : x < 18446744073709551616) (w : World) (hT : TabOk w) :
    Calls Tryd.prog 103 #[.int .u64 x] w fun e w' => e = .returned (.int .i64 (Lib.ctz 64 x)) ∧ w' = w := by
  have c64 := tz64_any x hx w hT
  have hw : IntKind.u64.wrap (x : Int) = (x : Int) := by rw [IntKind.wrap_u64]; omega
  go_enter Tryd.func103, Tryd.ntmps103
  go_wp2_with (go_at_call 113; refine c64.mono ?_; rintro e w' ⟨rfl, hw'⟩; rw [hw'])
  go_ret
  exact ⟨rfl, rfl⟩
end Go.Proofs.YtamibghbkjmmeaaDoor.G
end
section
namespace Go.Proofs.YtamibghbkjmmeaaDoor.G
open Go.RowKit Go.Proofs.YtamibghbkjmmeaaDoorW.PrintWords Go.Proofs.YtamibghbkjmmeaaDoorW.PrintLast Go.Proofs.YtamibghbkjmmeaaDoorW.PrintMore
set_option linter.unusedVariables false
set_option linter.unusedSimpArgs false
attribute [local go_sem] Oper.semAt_some
def bitsL (n : Nat) : List Nat := if h : n = 0 then [] else Lib.ctz 64 n :: bitsL (n &&& (n - 1))
termination_by n
decreasing_by have := Nat.and_le_right (n := n) (m := n - 1); omega
theorem bitsL_zero : bitsL 0 = [] := by rw [bitsL]; simp
theorem bitsL_pos {n : Nat} (h : n ≠ 0) : bitsL n = Lib.ctz 64 n :: bitsL (n &&& (n - 1)) := by rw [bitsL]; simp [h]
def OwnSet (B : Nat) (A A' : World) : Prop := ∃ v, A' = A.setCell ⟨B, 0, none⟩ v
theorem TabOk.two {w : World} (h : TabOk w) : 2 ≤ w.heap.size := by
  have hc := h 0 (by decide)
  unfold World.cell? at hc
  cases ho : w.heap[1]? with
  | none => simp [ho] at hc
  | some o => exact (Array.getElem?_eq_some_iff.1 ho).1
theorem TabOk.far {n₀ : Nat} {w w1 : World} (h : TabOk w) (hn : w.heap.size ≤ n₀ ∨ 2 ≤ n₀) (hb : Below n₀ w w1) : TabOk w1 := fun j hj => by
  refine (hb.cell ?_).trans (h j hj)
  have := h.two
  simp only
  omega
def KeepB (B : Nat) (W W' : World) : Prop := W'.heap[B]? = W.heap[B]? ∧ W'.heap[1]? = W.heap[1]?
theorem KeepB.refl (B : Nat) (W : World) : KeepB B W W := ⟨rfl, rfl⟩
theorem KeepB.trans {B : Nat} {X Y Z : World} (h : KeepB B X Y) (k : KeepB B Y Z) : KeepB B X Z := ⟨k.1.trans h.1, k.2.trans h.2⟩
theorem KeepB.put {B l : Nat} {W : World} {o : Obj} (hB : B ≠ l) (h1 : 1 ≠ l) : KeepB B W (W.putObj l o) := ⟨World.putObj_heap_other hB, World.putObj_heap_other h1⟩
theorem KeepB.below {B n₀ : Nat} {W W' : World} (h : Below n₀ W W') (hB : B < n₀) (h1 : 1 < n₀) : KeepB B W W' := ⟨h.block B hB, h.block 1 h1⟩
theorem TabOk.keep {B : Nat} {w w1 : World} (h : TabOk w) (k : KeepB B w w1) : TabOk w1 := fun j hj => (World.cell?_of_block (a := ⟨1, j, none⟩) k.2).trans (h j hj)
theorem TabOk.ne {B : Nat} {x : Int} {w : World} (h : TabOk w) (hB : w.heap[B]? = some (.cells #[.int .u64 x] 116)) : B ≠ 1 := by
  rintro rfl
  have h1 := h 0 (by decide)
  rw [blk_cell hB 0] at h1
  simp at h1
theorem TabOk.set {B : Nat} {w : World} (h : TabOk w) (hB : B ≠ 1) (v : Value) : TabOk (w.setCell ⟨B, 0, none⟩ v) := fun j hj =>
  (World.cell?_of_block (Below.heap_setCell w _ v 1 (fun e => hB e.symm))).trans (h j hj)
set_option maxHeartbeats 4000000 in
set_option maxRecDepth 100000 in
theorem bits_seq (x B : Nat) (hx : x < 18446744073709551616) (w : World) (hB : w.heap[B]? = some (.cells #[.int .u64 x] 116)) (hT : TabOk w) :
    Seq0 Tryd.prog 102 #[.pointer (some ⟨B, 0, none⟩)] (fun r : Nat => #[.int .i64 r]) (KeepB B) (OwnSet B) (bitsL x) w := by
  intro n l J Jx W hW hJ hJx hY h0
  have HB := Aside0.mk (blk_below hB hW)
  have HT := Aside0.mk (hT.far (.inl (Nat.le_refl _)) hW)
  have HLT := Aside0.mk (blk_lt hB)
  have HS := Aside0.mk hT.two
  have HJ := Aside0.mk hJ
  have HJx := Aside0.mk hJx
  have HY := Aside0.mk hY
  have H0 := Aside0.mk h0
  have HX := Aside0.mk hx
  clear hW hJ hJx hY h0 hB hT hx
  refine callsIn_of_wp Tryd.func102 rfl trivial ?_ rfl
  simp only [Tryd.ntmps102, List.size_toArray, List.length_cons, List.length_nil, Nat.reduceAdd, Nat.reduceSub, Array.replicate_succ, Array.replicate_zero, List.push_toArray, List.append_toArray, List.nil_append, List.cons_append]
  gi_wp2
  gi_loopg [3] x (fun k p wr => ∃ (pre : List Nat) (m : Nat), Aside0 (pre ++ bitsL m = bitsL x) ∧ Aside0 (m ≤ k) ∧ Aside0 (m ≤ x) ∧ Aside0 (wr.heap[B]? = some (.cells #[.int .u64 m] 116)) ∧ Aside0 (TabOk wr) ∧ Aside0 (J pre wr))
  case atStart => exact ⟨[], x, ⟨rfl⟩, ⟨Nat.le_refl _⟩, ⟨Nat.le_refl _⟩, HB, HT, H0⟩
  case round =>
    clear HB HT H0
    obtain ⟨pre, m, HE, HK, HM, HB, HT, HJ1⟩ := hrel
    have hb0 : wr.cell? ⟨B, 0, none⟩ = some (.int .u64 m) := (blk_cell HB.out 0).trans rfl
    by_cases hm : m = 0
    · subst hm
      have he := HE.out
      rw [bitsL_zero, List.append_nil] at he
      gi_wp2
      go_end0
      exact ⟨⟨_, rfl⟩, .inl (he ▸ HJ1.out)⟩
    · have hmb : ((m : Int) != 0) = true := by simp; omega
      have hm64 : m < 18446744073709551616 := by have := HX.out; have := HM.out; omega
      have hw1 : IntKind.u64.wrap ((m : Int) - 1) = ((m - 1 : Nat) : Int) := by rw [IntKind.wrap_u64]; omega
      have hw2 : bits .and .u64 (m : Int) ((m - 1 : Nat) : Int) = ((m &&& (m - 1) : Nat) : Int) := bits_and_u64_nat m (m - 1) hm64 (by omega)
      have CZ := Aside0.mk (fun W hW => callsIn_wide (n := n - 1).2 (tz_any m hm64 W hW))
      have he := HE.out
      rw [bitsL_pos hm] at he
      obtain ⟨r, er⟩ : ∃ r, Lib.ctz 64 m = r := ⟨_, rfl⟩
      rw [er] at he CZ
      have HE2 := Aside0.mk (show (pre ++ [r]) ++ bitsL (m &&& (m - 1)) = bitsL x from by rw [← he]; simp)
      have HPRE := Aside0.mk (show (pre ++ [r]) <+: bitsL x from ⟨_, HE2.out⟩)
      obtain ⟨fn, tmps, assign, body, hy, hR⟩ := HY.out pre r wr HJ1.out HPRE.out (n - 1)
      clear he er HE
      gi_wp2_with (refine ⟨trivial, fun h => by simp [Fence.wide] at h, ?_⟩; gi_at_call 103; refine (CZ.out wr HT.out).mono ?_; rintro e w' ⟨rfl, hw'⟩; rw [hw']; clear hw')
      refine ⟨fun h => by simp [Fence.wide] at h, hR.mono ?_⟩
      rintro e W3 (⟨rfl, hJ3, hk3⟩ | ⟨rfl, hJ3⟩)
      · have HB3 := Aside0.mk (hk3.1.trans HB.out)
        have HT3 := Aside0.mk (HT.out.keep hk3)
        have hc3 : W3.cell? ⟨B, 0, none⟩ = some (.int .u64 m) := (blk_cell HB3.out 0).trans rfl
        have hf3 : W3.frozen? ⟨B, 0, none⟩ = false := blk_frozen HB3.out 0
        obtain ⟨k1, rfl⟩ : ∃ k1, gk = k1 + 1 := ⟨gk - 1, by have := HK.out; omega⟩
        gi_wp2
        go_roundg k1
        case measure => omega
        case rel => exact ⟨pre ++ [r], m &&& (m - 1), HE2, ⟨by have h1 := Nat.and_le_right (n := m) (m := m - 1); have h2 := HK.out; omega⟩, ⟨by have h1 := Nat.and_le_right (n := m) (m := m - 1); have h2 := HM.out; omega⟩, ⟨blk_put HB3.out 0 _ rfl⟩, ⟨HT3.out.set (HT3.out.ne HB3.out) _⟩, ⟨HJ.out _ _ _ hJ3 ⟨_, rfl⟩⟩⟩
      · gi_wp2
        refine bodyPost_ret (results_none rfl _ _ _) rfl ?_
        exact ⟨⟨_, rfl⟩, .inr ⟨pre ++ [r], HPRE.out, hJ3⟩⟩
theorem guard_bitsOf.calls (x : Int) (w : World) : Calls Tryd.prog 83 #[.int .u64 x] w fun e w' => e = .returned (.func (.func 102) #[] #[.pointer (some ⟨w.heap.size, 0, none⟩)]) ∧ w' = w.alloc (.cells #[.int .u64 x] 116) := by
  go_enter Tryd.func83, Tryd.ntmps83
  go_wp2
  go_ret
  exact ⟨rfl, rfl⟩
end Go.Proofs.YtamibghbkjmmeaaDoor.G
end
section
namespace Go.Proofs.YtamibghbkjmmeaaDoor.G
open Go.RowKit Go.Proofs.YtamibghbkjmmeaaDoorW.PrintWords Go.Proofs.YtamibghbkjmmeaaDoorW.PrintLast Go.Proofs.YtamibghbkjmmeaaDoorW.PrintMore
set_option linter.unusedVariables false
set_option linter.unusedSimpArgs false
attribute [local go_sem] Oper.semAt_some
def placesL (n0 n1 : Nat) : List (Bool × Nat) := (List.range n0).map (fun i => (false, i)) ++ (List.range n1).map (fun i => (true, i))
theorem pre_left {n0 n1 i : Nat} (h : i < n0) : (List.range i).map (fun i => (false, i)) ++ [(false, i)] <+: placesL n0 n1 := by
  have e : (List.range i).map (fun i => (false, i)) ++ [(false, i)] = (List.range (i + 1)).map (fun i => (false, i)) := by rw [List.range_succ, List.map_append]; rfl
  rw [e]
  obtain ⟨d, rfl⟩ : ∃ d, n0 = i + 1 + d := ⟨n0 - (i + 1), by omega⟩
  unfold placesL
  rw [show List.range (i + 1 + d) = List.range (i + 1) ++ (List.range d).map (fun x => i + 1 + x) from List.range_add, List.map_append, List.append_assoc]
  exact List.prefix_append _ _
def OnlyNew (A A' : World) : Prop := Below A.heap.size A A'
def KeepC (X : Nat → Prop) (A A' : World) : Prop := ∀ k o, A.heap[k]? = some o → o.isCells = true → ¬ X k → A'.heap[k]? = some o
theorem KeepC.refl (X : Nat → Prop) (A : World) : KeepC X A A := fun _ _ h _ _ => h
theorem KeepC.trans {X : Nat → Prop} {A B C : World} (h : KeepC X A B) (k : KeepC X B C) : KeepC X A C := fun q o h1 h2 h3 => k q o (h q o h1 h2 h3) h2 h3
theorem KeepC.put {X : Nat → Prop} {W : World} {l : Nat} {r r' : Loop} (h : W.heap[l]? = some (.loop r)) : KeepC X W (W.putObj l (.loop r')) := fun k o hk hc _ => (World.putObj_heap_other (fun e => by subst e; rw [h] at hk; cases hk; cases hc)).trans hk
theorem KeepC.below {X : Nat → Prop} {W W' : World} (h : Below W.heap.size W W') : KeepC X W W' := fun k o hk _ _ => blk_below hk h
theorem pre_right {n0 n1 i : Nat} (h : i < n1) : ((List.range n0).map (fun i => (false, i)) ++ (List.range i).map (fun i => (true, i))) ++ [(true, i)] <+: placesL n0 n1 := by
  have e : (List.range i).map (fun i => (true, i)) ++ [(true, i)] = (List.range (i + 1)).map (fun i => (true, i)) := by rw [List.range_succ, List.map_append]; rfl
  rw [List.append_assoc, e]
  obtain ⟨d, rfl⟩ : ∃ d, n1 = i + 1 + d := ⟨n1 - (i + 1), by omega⟩
  unfold placesL
  rw [show List.range (i + 1 + d) = List.range (i + 1) ++ (List.range d).map (fun x => i + 1 + x) from List.range_add, List.map_append]
  exact (List.prefix_append_right_inj _).2 (List.prefix_append _ _)
theorem range_snoc (b : Bool) (i : Nat) : (List.range (i + 1)).map (fun i => (b, i)) = (List.range i).map (fun i => (b, i)) ++ [(b, i)] := by rw [List.range_succ, List.map_append]; rfl
theorem guard_places.calls (A0 A1 : Option Addr) (n0 c0 n1 c1 : Nat) (w : World) : Calls Tryd.prog 85 #[.agg #[.slice A0 n0 c0, .slice A1 n1 c1]] w fun e w' => e = .returned (.func (.func 104) #[] #[.pointer (some ⟨w.heap.size, 0, none⟩)]) ∧ w' = w.alloc (.cells #[.slice A0 n0 c0, .slice A1 n1 c1] 38) := by
  go_enter Tryd.func85, Tryd.ntmps85
  go_wp2
  go_ret
  exact ⟨rfl, rfl⟩
set_option maxHeartbeats 4000000 in
set_option maxRecDepth 100000 in
theorem places_seq (A0 A1 : Option Addr) (n0 c0 n1 c1 B : Nat) (X : Nat → Prop) (w : World) (h8 : n0 ≤ 8) (h9 : n1 ≤ 8) (hB : w.heap[B]? = some (.cells #[.slice A0 n0 c0, .slice A1 n1 c1] 38)) (hX : ∀ k, X k → k < w.heap.size) :
    Seq0 Tryd.prog 104 #[.pointer (some ⟨B, 0, none⟩)] (fun r : Bool × Nat => #[.agg #[.bool r.1, .int .i64 r.2]]) (KeepC X) OnlyNew (placesL n0 n1) w := by
  intro n l J Jx W hW hJ hJx hY h0
  have HX := Aside0.mk (fun k (hk : X k) => Nat.lt_of_lt_of_le (hX k hk) hW.size)
  have hB1 := blk_below hB hW
  have hc0 : W.cell? ⟨B, 0, none⟩ = some (.slice A0 n0 c0) := (blk_cell hB1 0).trans rfl
  have hc1 : W.cell? ⟨B, 1, none⟩ = some (.slice A1 n1 c1) := (blk_cell hB1 1).trans rfl
  have HJ := Aside0.mk hJ
  have HY := Aside0.mk hY
  have H0 := Aside0.mk h0
  have H8 := Aside0.mk h8
  have H9 := Aside0.mk h9
  clear hX hW hB hB1 hJ hJx hY h0 h8 h9
  refine callsIn_of_wp Tryd.func104 rfl trivial ?_ rfl
  simp only [Tryd.ntmps104, List.size_toArray, List.length_cons, List.length_nil, Nat.reduceAdd, Nat.reduceSub, Array.replicate_succ, Array.replicate_zero, List.push_toArray, List.append_toArray, List.nil_append, List.cons_append]
  gi_wp2
  refine wpIn_loop_rounds 3 ?_
  rw [roundsIn_succ]
  gi_wp2
  obtain ⟨N, hN⟩ : ∃ N, W.heap.size = N := ⟨_, rfl⟩
  simp only [hN]
  have HA0 := Aside0.mk (show ((W.alloc (.cells #[.bool false, .int .i64 n0, .bool true, .int .i64 n1] 155)).alloc (.cells #[.bool false, .int .i64 n0] 155)).heap[N]? = some (.cells #[.bool false, .int .i64 n0, .bool true, .int .i64 n1] 155) from hN ▸ blk_alloc (blk_new W _) _)
  have HS0 := Aside0.mk (show ((W.alloc (.cells #[.bool false, .int .i64 n0, .bool true, .int .i64 n1] 155)).alloc (.cells #[.bool false, .int .i64 n0] 155)).heap[N + 1]? = some (.cells #[.bool false, .int .i64 n0] 155) from by
    have h := blk_new (W.alloc (.cells #[.bool false, .int .i64 n0, .bool true, .int .i64 n1] 155)) (.cells #[.bool false, .int .i64 n0] 155)
    rw [World.size_alloc, hN] at h
    exact h)
  rw [hN] at HX
  have HJ0 := Aside0.mk (show J [] ((W.alloc (.cells #[.bool false, .int .i64 n0, .bool true, .int .i64 n1] 155)).alloc (.cells #[.bool false, .int .i64 n0] 155)) from HJ.out _ _ _ H0.out (((Below.refl _ W).alloc (Nat.le_refl _) _).alloc (by simp) _))
  clear H0 hc0 hc1 hN
  gi_loopg [22] n0 (fun kq v22 wr => ∃ i : Nat, v22 = .int .i64 (i : Int) ∧ Aside0 (i + kq = n0) ∧ Aside0 (J ((List.range i).map (fun i => (false, i))) wr) ∧ Aside0 (wr.heap[N + 1]? = some (.cells #[.bool false, .int .i64 n0] 155)) ∧ Aside0 (wr.heap[N]? = some (.cells #[.bool false, .int .i64 n0, .bool true, .int .i64 n1] 155)))
  case atStart => exact ⟨0, rfl, ⟨by omega⟩, HJ0, HS0, HA0⟩
  case round =>
    clear HJ0 HS0 HA0
    obtain ⟨i, rfl, HI, HJ1, HS, HA⟩ := hrel
    have hs0 : wr.cell? ⟨N + 1, 0, none⟩ = some (.bool false) := (blk_cell HS.out 0).trans rfl
    cases gk with
    | zero =>
      obtain rfl : i = n0 := by have := HI.out; omega
      have hie : decide (i < i) = false := by simp
      have ha2 : wr.cell? ⟨N, 2, none⟩ = some (.bool true) := (blk_cell HA.out 2).trans rfl
      have ha3 : wr.cell? ⟨N, 3, none⟩ = some (.int .i64 n1) := (blk_cell HA.out 3).trans rfl
      gi_wp2
      clear hs0 hie HI
      rw [roundsIn_succ]
      gi_wp2
      obtain ⟨M, hM⟩ : ∃ M, wr.heap.size = M := ⟨_, rfl⟩
      try simp only [hM]
      have HS1 := Aside0.mk (show (wr.alloc (.cells #[.bool true, .int .i64 n1] 155)).heap[M]? = some (.cells #[.bool true, .int .i64 n1] 155) from hM ▸ blk_new wr _)
      have HJ2 := Aside0.mk (show J ((List.range i).map (fun i => (false, i)) ++ (List.range 0).map (fun i => (true, i))) (wr.alloc (.cells #[.bool true, .int .i64 n1] 155)) from by rw [List.range_zero, List.map_nil, List.append_nil]; exact HJ.out _ _ _ HJ1.out ((Below.refl _ wr).alloc (Nat.le_refl _) _))
      have HX2 := Aside0.mk (fun k (hk : X k) => show k < M from by have h1 := HX.out k hk; have h2 := blk_lt HA.out; omega)
      clear hM HA HS HJ1 ha2 ha3
      gi_loopg [22] n1 (fun kq v22 wr => ∃ j : Nat, v22 = .int .i64 (j : Int) ∧ Aside0 (j + kq = n1) ∧ Aside0 (J ((List.range i).map (fun i => (false, i)) ++ (List.range j).map (fun i => (true, i))) wr) ∧ Aside0 (wr.heap[M]? = some (.cells #[.bool true, .int .i64 n1] 155)))
      case atStart => exact ⟨0, rfl, ⟨by omega⟩, HJ2, HS1⟩
      case round =>
        clear HJ2 HS1
        obtain ⟨j, rfl, HI, HJ1, HS⟩ := hrel
        have hs0 : wr.cell? ⟨M, 0, none⟩ = some (.bool true) := (blk_cell HS.out 0).trans rfl
        cases gk with
        | zero =>
          obtain rfl : j = n1 := by have := HI.out; omega
          have hie : decide (j < j) = false := by simp
          gi_wp2
          rw [roundsIn_succ]
          gi_wp2
          go_end0
          exact ⟨⟨_, rfl⟩, .inl HJ1.out⟩
        | succ k1 =>
          have hj : j < n1 := by have := HI.out; omega
          have hje : decide (j < n1) = true := decide_eq_true hj
          obtain ⟨fn, tmps, assign, body, hy, hR⟩ := HY.out _ (true, j) wr HJ1.out (pre_right hj) (n - 1)
          dsimp only at hy
          gi_wp2
          refine ⟨fun h => by simp [Fence.wide] at h, hR.mono ?_⟩
          rintro e W3 (⟨rfl, hJ3, hk3⟩ | ⟨rfl, hJ3⟩)
          · have hwi := Aside0.mk (show wrap64 ((j : Int) + 1) = (j : Int) + 1 from by have := H9.out; rw [← i64_w, IntKind.wrap_i64]; omega)
            have HS3 := Aside0.mk (hk3 _ _ HS.out rfl (fun hx => by have := HX2.out _ hx; omega))
            gi_wp2
            gi_roundg k1
            case measure => omega
            case rel => exact ⟨j + 1, (by first | rfl | (simp [hwi.out]; done)), ⟨by have := HI.out; omega⟩, ⟨by rw [range_snoc, ← List.append_assoc]; exact hJ3⟩, HS3⟩
          · gi_wp2
            refine bodyPost_ret (results_none rfl _ _ _) rfl ?_
            exact ⟨⟨_, rfl⟩, .inr ⟨_, pre_right hj, hJ3⟩⟩
    | succ k1 =>
      have hi : i < n0 := by have := HI.out; omega
      have hie : decide (i < n0) = true := decide_eq_true hi
      obtain ⟨fn, tmps, assign, body, hy, hR⟩ := HY.out ((List.range i).map (fun i => (false, i))) (false, i) wr HJ1.out (pre_left hi) (n - 1)
      dsimp only at hy
      gi_wp2
      refine ⟨fun h => by simp [Fence.wide] at h, hR.mono ?_⟩
      rintro e W3 (⟨rfl, hJ3, hk3⟩ | ⟨rfl, hJ3⟩)
      · have hwi := Aside0.mk (show wrap64 ((i : Int) + 1) = (i : Int) + 1 from by have := H8.out; rw [← i64_w, IntKind.wrap_i64]; omega)
        have HS3 := Aside0.mk (hk3 _ _ HS.out rfl (fun hx => by have := HX.out _ hx; omega))
        have HA3 := Aside0.mk (hk3 _ _ HA.out rfl (fun hx => by have := HX.out _ hx; omega))
        gi_wp2
        gi_roundg k1
        case measure => omega
        case rel => exact ⟨i + 1, (by first | rfl | (simp [hwi.out]; done)), ⟨by have := HI.out; omega⟩, ⟨by rw [range_snoc]; exact hJ3⟩, HS3, HA3⟩
      · gi_wp2
        refine bodyPost_ret (results_none rfl _ _ _) rfl ?_
        exact ⟨⟨_, rfl⟩, .inr ⟨_, pre_left hi, hJ3⟩⟩
end Go.Proofs.YtamibghbkjmmeaaDoor.G
end
section
namespace Go.Proofs.YtamibghbkjmmeaaDoor.G
open Go.RowKit Go.Proofs.YtamibghbkjmmeaaDoorW.PrintWords Go.Proofs.YtamibghbkjmmeaaDoorW.PrintLast Go.Proofs.YtamibghbkjmmeaaDoorW.PrintMore
set_option linter.unusedVariables false
set_option linter.unusedSimpArgs false
abbrev Own := List (Nat × Int)
def Own.get (O : Own) (r : Nat) : Option Int := (O.find? (fun p => p.1 == r)).map (·.2)
def Own.put (O : Own) (r : Nat) (l : Int) : Own := (r, l) :: O.filter (fun p => !(p.1 == r))
theorem Own.get_put (O : Own) (r : Nat) (l : Int) (s : Nat) : (O.put r l).get s = if s = r then some l else O.get s := by
  unfold Own.get Own.put
  by_cases h : s = r
  · subst h
    simp
  · have h1 : (r == s) = false := by simp; omega
    rw [List.find?_cons, h1, if_neg h]
    congr 1
    induction O with
    | nil => rfl
    | cons p t ih =>
      by_cases hp : p.1 = r
      · have e1 : (p.1 == r) = true := by simpa using hp
        have e2 : (p.1 == s) = false := by simp; omega
        rw [List.filter_cons, List.find?_cons, e2]
        simp only [e1, Bool.not_true]
        exact ih
      · have e1 : (p.1 == r) = false := by simpa using hp
        rw [List.filter_cons]
        simp only [e1, Bool.not_false, if_true]
        rw [List.find?_cons, List.find?_cons]
        cases p.1 == s with
        | true => rfl
        | false => exact ih
def Own.Ok (O : Own) : Prop := (O.map (·.1)).Nodup ∧ ∀ r ∈ O.map (·.1), r < 64
theorem Own.ok_nil : Own.Ok [] := ⟨List.nodup_nil, fun _ h => by simp at h⟩
theorem Own.ok_put {O : Own} (h : O.Ok) {r : Nat} (hr : r < 64) (l : Int) : (O.put r l).Ok := by
  constructor
  · show ((r, l) :: O.filter _ |>.map (·.1)).Nodup
    rw [List.map_cons, List.nodup_cons]
    refine ⟨?_, ?_⟩
    · intro hm
      obtain ⟨p, hp, e⟩ := List.mem_map.1 hm
      have := (List.mem_filter.1 hp).2
      simp at this
      exact this e
    · exact List.Nodup.sublist (List.Sublist.map _ List.filter_sublist) h.1
  · intro s hs
    obtain ⟨p, hp, rfl⟩ := List.mem_map.1 hs
    rcases List.mem_cons.1 hp with e | e
    · subst e; exact hr
    · exact h.2 _ (List.mem_map.2 ⟨p, (List.mem_filter.1 e).1, rfl⟩)
theorem nodup_le : ∀ (n : Nat) (L : List Nat), L.Nodup → (∀ x ∈ L, x < n) → L.length ≤ n
  | 0, L, _, h => by
    cases L with
    | nil => simp
    | cons a t => exact absurd (h a (by simp)) (by omega)
  | n + 1, L, hn, h => by
    have h1 := nodup_le n (L.erase n) (hn.erase n) (fun x hx => by
      have e := (List.Nodup.mem_erase_iff hn).1 hx
      have := h x e.2
      have := e.1
      omega)
    have h2 := List.length_erase (a := n) (l := L)
    by_cases hm : n ∈ L
    · rw [if_pos hm] at h2; omega
    · rw [if_neg hm] at h2; omega
theorem Own.le64 {O : Own} (h : O.Ok) : O.length ≤ 64 := by simpa using nodup_le 64 _ h.1 h.2
theorem filter_one {O : Own} (h : (O.map (·.1)).Nodup) (r : Nat) : (O.filter (fun p => !(p.1 == r))).length = O.length - if (O.get r).isSome then 1 else 0 := by
  unfold Own.get
  induction O with
  | nil => rfl
  | cons p t ih =>
    rw [List.map_cons, List.nodup_cons] at h
    have ih1 := ih h.2
    by_cases hp : p.1 = r
    · have e1 : (p.1 == r) = true := by simpa using hp
      rw [List.filter_cons, List.find?_cons, e1]
      simp only [Bool.not_true]
      have hno : t.filter (fun p => !(p.1 == r)) = t := by
        rw [List.filter_eq_self]
        intro q hq
        have : q.1 ≠ r := fun e => h.1 (List.mem_map.2 ⟨q, hq, by rw [e, hp]⟩)
        simpa using this
      simp [hno]
    · have e1 : (p.1 == r) = false := by simpa using hp
      rw [List.filter_cons, List.find?_cons, e1]
      simp only [Bool.not_false, if_true, List.length_cons]
      rw [ih1]
      cases hf : t.find? (fun p => p.1 == r) with
      | none => simp
      | some q =>
        have : 0 < t.length := by
          cases t with
          | nil => simp at hf
          | cons => simp
        simp; omega
theorem Own.length_put {O : Own} (h : O.Ok) (r : Nat) (l : Int) : (O.put r l).length = if (O.get r).isSome then O.length else O.length + 1 := by
  unfold Own.put
  rw [List.length_cons, filter_one h.1]
  cases hg : O.get r with
  | none => simp
  | some v =>
    have : 0 < O.length := by
      cases O with
      | nil => simp [Own.get] at hg
      | cons => simp
    simp; omega
theorem key3 : Maps.Keyed Tryd.prog 3 := Maps.int_keyed Tryd.underlying3
def Owns (w : World) (mb : Nat) (O : Own) : Prop :=
  O.Ok ∧ ∃ D : DataW Unit, w.ownsMap Tryd.prog 3 (plainElem Tryd.prog 3) mb O.length D ∧ Maps.size D = O.length ∧
    ∀ r : Nat, r < 64 → Maps.has D (.int .i64 r) = (O.get r).isSome ∧ D.atKey (.int .i64 r) (.lit (.int .i64 0)) = .lit (.int .i64 ((O.get r).getD 0))
theorem Owns.lt {w : World} {mb : Nat} {O : Own} (h : Owns w mb O) : mb < w.heap.size := h.2.choose_spec.1.lt
theorem Owns.ok {w : World} {mb : Nat} {O : Own} (h : Owns w mb O) : O.Ok := h.1
theorem Owns.grown {w w' : World} {mb : Nat} {O : Own} {row : Option Nat} (h : Owns w mb O) (hg : w.grownBy w' row) (hne : some mb ≠ row) : Owns w' mb O := by
  obtain ⟨h1, D, h2, h3⟩ := h
  exact ⟨h1, D, h2.kept hg hne, h3⟩
theorem Owns.step {w w' : World} {mb : Nat} {O : Own} (h : Owns w mb O) (hg : w'.heap[mb]? = w.heap[mb]?) : Owns w' mb O := by
  obtain ⟨h1, D, ⟨es, clock, hb, F, hs, hD⟩, h3⟩ := h
  exact ⟨h1, D, ⟨es, clock, hg.trans hb, F, hs, hD⟩, h3⟩
theorem Owns.alloc {w : World} {mb : Nat} {O : Own} (h : Owns w mb O) (o : Obj) : Owns (w.alloc o) mb O := h.step (Below.heap_alloc w o mb h.lt)
theorem Owns.drew {w : World} {mb : Nat} {O : Own} (h : Owns w mb O) : Owns w.drew mb O := h
theorem Owns.drewN {w : World} {mb : Nat} {O : Own} (h : Owns w mb O) (n : Nat) : Owns (w.drewN n) mb O := h
theorem Owns.below {w w' : World} {mb : Nat} {O : Own} (h : Owns w mb O) (hb : Below w.heap.size w w') : Owns w' mb O := h.step (hb.block mb h.lt)
theorem Owns.set {w : World} {mb : Nat} {O : Own} (h : Owns w mb O) {p : Addr} (hp : mb ≠ p.block) (u : Value) : Owns (w.setCell p u) mb O := h.step (Below.heap_setCell w p u mb hp)
theorem Owns.made (w : World) : Owns (w.alloc (.map #[] 0)) w.heap.size [] :=
  ⟨Own.ok_nil, .map [], World.ownsMap_made w Tryd.prog 3 _, rfl, fun r _ => ⟨rfl, rfl⟩⟩
theorem zero3 (w : World) : (zeroValue 3).run Tryd.prog w = .ok (.int .i64 0) w := by kernel_rfl
section
variable {w : World} {ops : Array Oper} {rest : List Oper} {o : Oper} {a : Act} {Q : Exit → Act → World → Prop}
theorem i64_small {r : Nat} (h : r < 64) : (Lit.int .i64 (r : Int)).wf = true := by
  have h1 : (IntKind.i64.min ≤ (r : Int)) := by show (-9223372036854775808 : Int) ≤ _; omega
  have h2 : ((r : Int) ≤ IntKind.i64.max) := by show _ ≤ (9223372036854775807 : Int); omega
  simp only [Lit.wf, h1, h2, decide_true, Bool.and_self]
theorem wpList_own_look (hg : o.guard = none) (m x : Operand) (hop : o.op = Op.lookup 143 m x true) (mb : Nat) (O : Own) (r : Nat) (hr : r < 64) (hm : a.eval m = .map (some mb)) (hown : Owns w mb O) (hx : a.eval x = .int .i64 r)
    (hK : wpList Tryd.prog ops Q rest (a.put o.dst (.tuple #[.int .i64 ((O.get r).getD 0), .bool (O.get r).isSome])) w) :
    wpList Tryd.prog ops Q (o :: rest) a w := by
  obtain ⟨h1, D, h2, h3, h4⟩ := hown
  refine wpList_lookup_own_ok_int w hg m x 143 hop 3 3 .i64 key3 Tryd.underlying143 Tryd.underlying3 (zero3 _) mb O.length D hm h2 _ (.int .i64 r) hx (Maps.keyOf_int_mk Tryd.underlying3 (i64_small hr)) ?_
  intro c hat _
  obtain ⟨e1, e2⟩ := h4 r hr
  rw [e2] at hat
  have hc : (O.get r).getD 0 = c := by simpa using hat
  rw [e1, ← hc]
  exact hK
theorem wpList_own_len (hg : o.guard = none) (m : Operand) (hop : o.op = Op.call { callee := Callee.builtin Builtin.len, args := #[m], argTypes := #[143] }) (mb : Nat) (O : Own) (hm : a.eval m = .map (some mb)) (hown : Owns w mb O)
    (hK : wpList Tryd.prog ops Q rest (a.put o.dst (.int .i64 O.length)) w) : wpList Tryd.prog ops Q (o :: rest) a w := by
  obtain ⟨h1, D, h2, h3, h4⟩ := hown
  refine wpList_len_own w hg m 143 hop 3 3 Tryd.underlying143 _ mb O.length D hm h2 ?_
  rw [h3]
  exact hK
theorem wpList_own_put (hg : o.guard = none) (m x v : Operand) (hop : o.op = Op.mapUpdate 143 m x v) (mb : Nat) (O : Own) (r : Nat) (hr : r < 64) (l : Int) (hl : (Lit.int .i64 l).wf = true) (hm : a.eval m = .map (some mb)) (hown : Owns w mb O) (hx : a.eval x = .int .i64 r) (hv : a.eval v = .int .i64 l)
    (hK : ∀ w', Owns w' mb (O.put r l) → w.grownBy w' (some mb) → wpList Tryd.prog ops Q rest (a.put o.dst undef) w') :
    wpList Tryd.prog ops Q (o :: rest) a w := by
  obtain ⟨h1, D, h2, h3, h4⟩ := hown
  have ht : Maps.Tidy D := h2.tidy key3
  have hk : WideAt.IsKeyLit (.int .i64 r : Lit) := by simp [WideAt.IsKeyLit]
  have h64 := Own.le64 (O := O) h1
  refine wpList_mapUpdate_own w hg m x v 143 hop 3 3 key3 Tryd.underlying143 _ mb O.length D hm h2 (by unfold maxLen; omega) _ _ (.int .i64 r) hx hv (Maps.keyOf_int_mk Tryd.underlying3 (i64_small hr)) (.lit (.int .i64 l)) [] (plainElem_int Tryd.underlying3 hl) ?_
  intro w' ho hgr
  have hsz : Maps.size (D.put (.int .i64 r) (.lit (.int .i64 l))) = (O.put r l).length := by
    rw [Maps.size_put ht, Own.length_put h1, (h4 r hr).1, h3]
  refine hK w' ⟨Own.ok_put h1 hr l, D.put (.int .i64 r) (.lit (.int .i64 l)), ?_, hsz, ?_⟩ hgr
  · obtain ⟨es, clock, hb, F, hs, hD⟩ := ho
    refine ⟨es, clock, hb, F, ?_, hD⟩
    have : Maps.size (D.put (.int .i64 r) (.lit (.int .i64 l))) = (es.size : Int) := by
      rw [hD]
      simp [Maps.size, length_sorted]
    omega
  · intro s hs
    by_cases e : s = r
    · subst e
      rw [Own.get_put, if_pos rfl]
      exact ⟨Maps.has_put_same ht.isMap hk _, Maps.atKey_put_same ht.isMap hk _ _⟩
    · have hne : (Lit.int .i64 (s : Int)) ≠ .int .i64 r := by simp; omega
      rw [Own.get_put, if_neg e, Maps.has_put_other hne, Maps.atKey_put_other hne]
      exact h4 s hs
end
end Go.Proofs.YtamibghbkjmmeaaDoor.G
end
section
namespace Go.Proofs.YtamibghbkjmmeaaDoor.G
open Go.RowKit Go.Proofs.YtamibghbkjmmeaaDoorW.PrintWords Go.Proofs.YtamibghbkjmmeaaDoorW.PrintLast Go.Proofs.YtamibghbkjmmeaaDoorW.PrintMore
set_option linter.unusedVariables false
set_option linter.unusedSimpArgs false
theorem bits_u64 (op : BinOp) (a b : Int) (h : op = .and ∨ op = .or ∨ op = .xor ∨ op = .andNot) : 0 ≤ bits op .u64 a b ∧ bits op .u64 a b < 18446744073709551616 := by
  rcases h with rfl | rfl | rfl | rfl <;> (unfold bits; rw [IntKind.wrap_u64]; omega)
def frees (t : List Int) (left tr : Int) : Int := bits .andNot .u64 (rd t left) tr
def low (x : Int) : Nat := Lib.ctz 64 x.toNat
def trOr (tr : Int) (r : Nat) : Int := bits .or .u64 tr (IntKind.u64.wrap (2 ^ min r 64))
theorem frees_nat (t : List Int) (left tr : Int) : frees t left tr = ((frees t left tr).toNat : Int) ∧ (frees t left tr).toNat < 18446744073709551616 := by
  have := bits_u64 .andNot (rd t left) tr (by simp)
  unfold frees
  omega
def marryF (t : List Int) : Nat → Int → Int → Own → Option (Bool × Int × Own)
  | 0, _, _, _ => none
  | k + 1, left, tr, O => if 0 ≤ left then (if left < (t.length : Int) then (if frees t left tr = 0 then some (false, tr, O) else
      match O.get (low (frees t left tr)) with
      | none => some (true, trOr tr (low (frees t left tr)), O.put (low (frees t left tr)) left)
      | some o => (marryF t k o (trOr tr (low (frees t left tr))) O).bind fun p => if p.1 = true then some (true, p.2.1, p.2.2.put (low (frees t left tr)) left) else marryF t k left p.2.1 p.2.2) else none) else none
set_option maxHeartbeats 8000000 in
set_option maxRecDepth 100000 in
theorem guard_marry.calls (t : List Int) (At : Option Addr) (ct mb tb : Nat) (w0 : World) (hT_ : TabOk w0) (hr0 : Kd.C (Kd.int .u64) w0 At t.length t) (hm0 : w0.heap.size ≤ mb) (ht0 : w0.heap.size ≤ tb) (hne : mb ≠ tb) (h64 : t.length ≤ 64) (k : Nat) :
    ∀ (left tr : Int) (O : Own) (b : Bool) (tr' : Int) (O' : Own) (w : World) (hB : Below w0.heap.size w0 w) (ho : Owns w mb O) (hb : w.heap[tb]? = some (.cells #[.int .u64 tr] 116)) (h : marryF t k left tr O = some (b, tr', O')),
    Calls Tryd.prog 97 #[.agg #[.slice At t.length ct, .map (some mb)], .int .i64 left, .pointer (some ⟨tb, 0, none⟩)] w fun e w' => e = .returned (.bool b) ∧ Owns w' mb O' ∧ w'.heap[tb]? = some (.cells #[.int .u64 tr'] 116) ∧ Below w0.heap.size w0 w' ∧ Kept w w' (fun i => i = mb ∨ i = tb) := by
  induction k using Nat.strongRecOn with
  | _ k ih =>
  intro left tr O b tr' O' w hB ho hb h
  have hcase : 0 ≤ left ∧ left < (t.length : Int) := by
    cases k with
    | zero => simp [marryF] at h
    | succ k =>
      unfold marryF at h
      split at h
      · split at h
        · exact ⟨by assumption, by assumption⟩
        · simp at h
      · simp at h
  obtain ⟨p0, q0⟩ := hcase
  have HF := Aside0.mk (fun tr => frees_nat t left tr)
  have HT := Aside0.mk hT_
  have HR := Aside0.mk hr0
  have HB := Aside0.mk hB
  have HO := Aside0.mk ho
  have HC := Aside0.mk hb
  have HM := Aside0.mk hm0
  have HTB := Aside0.mk ht0
  have HNE := Aside0.mk hne
  have H64 := Aside0.mk h64
  have IH := Aside0.mk ih
  have HH := Aside0.mk h
  have L1 := Aside0.mk ho.lt
  have L2 := Aside0.mk (blk_lt hb)
  have hwl : (Lit.int .i64 left).wf = true := by
    have h2 := i64_small (r := left.toNat) (by omega)
    rwa [Int.toNat_of_nonneg p0] at h2
  have HWL := Aside0.mk hwl
  clear hT_ hB ho hb hm0 ht0 hne h64 ih h hwl
  obtain ⟨adr, e0, hx0⟩ := Kd.at_int hr0 left p0 q0
  cases e0
  clear hr0
  go_enter Tryd.func97, Tryd.ntmps97
  go_wp2_with (fail)
  have HX := Aside0.mk (blk_new w (.cells #[.slice (some adr) t.length ct, .map (some mb)] 145))
  have HB1 := Aside0.mk (HB.out.alloc HB.out.size (.cells #[.slice (some adr) t.length ct, .map (some mb)] 145))
  have hq0 := (blk_cell (blk_drew HX.out) 0).trans rfl
  have hq1 := pw_cell_below HB1.out.drew hx0
  have hq2 := (blk_cell (blk_drew (blk_alloc HC.out (.cells #[.slice (some adr) t.length ct, .map (some mb)] 145))) 0).trans rfl
  clear HB1
  refine start_ (n := 10) (S := fun w' => w'.cell? ⟨w.heap.size, 0, none⟩ = some (.slice (some adr) t.length ct) ∧ w'.cell? (adr.add left.toNat) = some (.int .u64 (rd t left)) ∧ w'.cell? ⟨tb, 0, none⟩ = some (.int .u64 tr)) (ds := []) (bl 10 0) (by kernel_rfl) rfl rfl ⟨hq0, hq1, hq2⟩ (fun hHeld => ?_)
  refine pS 0 11 (bl 10 1) ?_
  refine pS 2 13 (bl 10 5) ?_
  refine pS 5 16 (bl 10 37) ?_
  refine pS 6 17 (bl 10 101) ?_
  refine tS 1 12 (bl 10 103) hHeld ?_
  refine pS 3 14 (bl 10 111) ?_
  refine tS 4 15 (bl 10 127) hHeld ?_
  refine tS 7 18 (bl 10 255) hHeld ?_
  refine pS 8 19 (bl 10 511) ?_
  refine pS 9 7 (bl 10 1023) ?_
  refine done_ (by kernel_rfl) ?_
  go_wp2
  go_loopg [7] k (fun kq v7 w' => ∃ (tr1 : Int) (O1 : Own), v7 = .int .u64 (frees t left tr1) ∧ Aside0 (marryF t kq left tr1 O1 = some (b, tr', O')) ∧ Aside0 (kq ≤ k) ∧ Aside0 (Below w0.heap.size w0 w') ∧ Aside0 (Owns w' mb O1) ∧ Aside0 (w'.heap[tb]? = some (.cells #[.int .u64 tr1] 116)) ∧ Aside0 (w'.heap[w.heap.size]? = some (.cells #[.slice (some adr) t.length ct, .map (some mb)] 145)) ∧ Aside0 (Kept w w' (fun i => i = mb ∨ i = tb)))
  case atStart => exact ⟨tr, O, rfl, HH, ⟨Nat.le_refl _⟩, ⟨(HB.out.alloc HB.out.size _).drew⟩, ⟨(HO.out.alloc _).drew⟩, ⟨blk_drew (blk_alloc HC.out _)⟩, ⟨blk_drew HX.out⟩, ⟨((Kept.refl w _).alloc _).drew⟩⟩
  case round =>
    clear HH HB HO HC HX hq0 hq1 hq2
    obtain ⟨tr1, O1, rfl, HH, HK1, HB, HO, HC, HX, HKP⟩ := hrel
    cases gk with
    | zero => exact absurd HH.out (by simp [marryF])
    | succ k1 =>
      have H := HH.out
      clear HH
      unfold marryF at H
      rw [if_pos p0, if_pos q0] at H
      by_cases c1 : frees t left tr1 = 0
      · rw [if_pos c1] at H
        have e := Option.some.inj H
        clear H
        obtain ⟨rfl, e2⟩ := Prod.mk.inj e
        obtain ⟨rfl, rfl⟩ := Prod.mk.inj e2
        clear e e2
        have c1b : (frees t left tr1 != 0) = false := bne_eq_false_iff_eq.mpr c1
        clear c1
        go_wp2
        go_ret
        exact ⟨rfl, HO.out, HC.out, HB.out, HKP.out⟩
      · rw [if_neg c1] at H
        have c1b : (frees t left tr1 != 0) = true := bne_iff_ne.mpr c1
        obtain ⟨en, eb⟩ := HF.out tr1
        have CZ := Aside0.mk (fun W hW => tz_any (frees t left tr1).toNat eb W hW)
        have hlow : low (frees t left tr1) < 64 := (Lib.lowest_bit 64 (frees t left tr1).toNat (by omega) eb).2
        rw [← en] at CZ
        have HLOW := Aside0.mk hlow
        obtain ⟨fr, efr⟩ : ∃ x, frees t left tr1 = x := ⟨_, rfl⟩
        rw [efr] at c1b H CZ hlow HLOW ⊢
        obtain ⟨rr, err⟩ : ∃ x, low fr = x := ⟨_, rfl⟩
        replace CZ := Aside0.mk (show ∀ W, TabOk W → Calls Tryd.prog 103 #[.int .u64 fr] W fun e w' => e = .returned (.int .i64 rr) ∧ w' = W from err ▸ CZ.out)
        rw [err] at H hlow HLOW
        clear c1 en eb hlow
        go_wp2_with (fail)
        refine (CZ.out _ (HT.out.go HB.out)).mono ?_
        rintro e w5 ⟨rfl, hw5⟩
        rw [hw5]
        clear hw5
        go_wp2_with (fail)
        have hq2 := (blk_cell (blk_drew HC.out) 0).trans rfl
        have hf0 : wr.frozen? ⟨tb, 0, none⟩ = false := blk_frozen HC.out 0
        refine start_ (n := 8) (S := fun w' => w'.cell? ⟨tb, 0, none⟩ = some (.int .u64 tr1)) (ds := [7]) (bl 8 0) (by kernel_rfl) rfl rfl (hq2) (fun hHeld => ?_)
        refine pS 0 33 (bl 8 1) ?_
        refine pS 1 34 (bl 8 3) ?_
        refine pS 3 36 (bl 8 11) ?_
        refine pS 4 37 (bl 8 27) ?_
        refine tS 2 35 (bl 8 31) hHeld ?_
        refine pS 5 38 (bl 8 63) ?_
        refine pS 6 39 (bl 8 127) ?_
        refine last_ (i := 7) (N := none) (bl 8 255) rfl rfl (by kernel_rfl) (by decide) (fun K hK => ?_)
        refine sS ?_
        refine hK.out _ _ ?_
        clear hK K
        refine done_ (by kernel_rfl) ?_
        obtain ⟨tn, etn⟩ : ∃ x, bits .or .u64 tr1 (IntKind.u64.wrap (2 ^ min rr 64)) = x := ⟨_, rfl⟩
        replace H : (match O1.get rr with | none => some (true, tn, O1.put rr left) | some o => (marryF t k1 o tn O1).bind fun p => if p.1 = true then some (true, p.2.1, p.2.2.put rr left) else marryF t k1 left p.2.1 p.2.2) = some (b, tr', O') := by subst etn; exact H
        rw [etn]
        clear hq2 hf0 hHeld
        obtain ⟨W5, eW5⟩ : ∃ x, (wr.setCell ⟨tb, 0, none⟩ (.int .u64 tn)).drew = x := ⟨_, rfl⟩
        rw [eW5]
        have HC5 := Aside0.mk (show W5.heap[tb]? = some (.cells #[.int .u64 tn] 116) from eW5 ▸ blk_drew (blk_put HC.out 0 _ rfl))
        have HO5 := Aside0.mk (show Owns W5 mb O1 from eW5 ▸ (HO.out.set (p := ⟨tb, 0, none⟩) HNE.out _).drew)
        have HX5 := Aside0.mk (show W5.heap[w.heap.size]? = some (.cells #[.slice (some adr) t.length ct, .map (some mb)] 145) from eW5 ▸ blk_drew (blk_far HX.out (p := ⟨tb, 0, none⟩) (by have := L2.out; simp; omega) _))
        have HB5 := Aside0.mk (show Below w0.heap.size w0 W5 from eW5 ▸ (HB.out.setCell (p := ⟨tb, 0, none⟩) HTB.out _).drew)
        have HKP5 := Aside0.mk (show Kept w W5 (fun i => i = mb ∨ i = tb) from eW5 ▸ (HKP.out.setCell (p := ⟨tb, 0, none⟩) (.inl (.inr rfl)) _).drew)
        clear HC HO HX HB HKP eW5 etn CZ
        have hx5 : W5.cell? ⟨w.heap.size, 0, none⟩ = some (.slice (some adr) t.length ct) := (blk_cell HX5.out 0).trans rfl
        have hx6 : W5.cell? ⟨w.heap.size, 1, none⟩ = some (.map (some mb)) := (blk_cell HX5.out 1).trans rfl
        cases eg : O1.get rr with
        | none =>
          rw [eg] at H
          have e := Option.some.inj H
          clear H
          obtain ⟨rfl, e2⟩ := Prod.mk.inj e
          obtain ⟨rfl, rfl⟩ := Prod.mk.inj e2
          clear e e2
          have EG := Aside0.mk eg
          clear eg
          go_wp2_with (first | (at_lookup; refine wpList_own_look rfl _ _ rfl mb O1 rr HLOW.out rfl HO5.out rfl ?_; rw [EG.out]; simp only [Option.isSome_none, Option.getD_none]) | (at_mapUpdate; refine wpList_own_put rfl _ _ _ rfl mb O1 rr HLOW.out left HWL.out rfl HO5.out rfl rfl ?_; intro w6 ho6 hg6; have HO6 := Aside0.mk ho6; have HG6 := Aside0.mk hg6; clear ho6 hg6))
          go_ret
          exact ⟨rfl, HO6.out, blk_grown HC5.out HG6.out (by have := HNE.out; simp; omega), HB5.out.grown HG6.out HB5.out.size (by intro k hk; cases hk; exact HM.out), Kept.of_grown HG6.out HKP5.out (by intro k hk; cases hk; exact .inl (.inl rfl))⟩
        | some o =>
          rw [eg] at H
          replace H : ((marryF t k1 o tn O1).bind fun p => if p.1 = true then some (true, p.2.1, p.2.2.put rr left) else marryF t k1 left p.2.1 p.2.2) = some (b, tr', O') := H
          obtain ⟨⟨b2, tr2, O2⟩, A2, H2⟩ := Option.bind_eq_some_iff.mp H
          clear H
          have AA := Aside0.mk A2
          have EG := Aside0.mk eg
          clear eg A2
          go_wp2_with (first | (at_lookup; refine wpList_own_look rfl _ _ rfl mb O1 rr HLOW.out rfl HO5.out rfl ?_; rw [EG.out]; simp only [Option.isSome_some, Option.getD_some]) | ((with_reducible refine gate_callee (f := 97) rfl ?_); fail))
          have hk1 : k1 < k := by have := HK1.out; omega
          refine (IH.out k1 hk1 o tn O1 b2 tr2 O2 W5 HB5.out HO5.out HC5.out AA.out).mono ?_
          rintro e w6 ⟨rfl, ho, hc, hb, hk⟩
          have HX6 := Aside0.mk (blk_kept HX5.out hk (by have h1 := L1.out; have h2 := L2.out; rintro (h | h) <;> omega))
          have HKP6 := Aside0.mk (HKP5.out.then_ hk (fun i h => .inl h))
          have HO6 := Aside0.mk ho
          have HC6 := Aside0.mk hc
          have HB6 := Aside0.mk hb
          clear ho hc hb hk hk1 HO5 HC5 HX5 HB5 HKP5 hx5 hx6 AA
          have hx5 : w6.cell? ⟨w.heap.size, 0, none⟩ = some (.slice (some adr) t.length ct) := (blk_cell HX6.out 0).trans rfl
          have hx6 : w6.cell? ⟨w.heap.size, 1, none⟩ = some (.map (some mb)) := (blk_cell HX6.out 1).trans rfl
          cases b2 with
          | true =>
            have e := Option.some.inj H2
            clear H2
            obtain ⟨rfl, e2⟩ := Prod.mk.inj e
            obtain ⟨rfl, rfl⟩ := Prod.mk.inj e2
            clear e e2
            go_wp2_with (at_mapUpdate; refine wpList_own_put rfl _ _ _ rfl mb O2 rr HLOW.out left HWL.out rfl HO6.out rfl rfl ?_; intro w7 ho7 hg7; have HO7 := Aside0.mk ho7; have HG7 := Aside0.mk hg7; clear ho7 hg7)
            go_ret
            exact ⟨rfl, HO7.out, blk_grown HC6.out HG7.out (by have := HNE.out; simp; omega), HB6.out.grown HG7.out HB6.out.size (by intro k hk; cases hk; exact HM.out), Kept.of_grown HG7.out HKP6.out (by intro k hk; cases hk; exact .inl (.inl rfl))⟩
          | false =>
            have HH := Aside0.mk (show marryF t k1 left tr2 O2 = some (b, tr', O') from H2)
            clear H2
            go_wp2_with (fail)
            clear hx5 hx6
            have hq0 := (blk_cell (blk_drew HX6.out) 0).trans rfl
            have hq1 := pw_cell_below HB6.out.drew hx0
            have hq2 := (blk_cell (blk_drew HC6.out) 0).trans rfl
            refine start_ (n := 10) (S := fun w' => w'.cell? ⟨w.heap.size, 0, none⟩ = some (.slice (some adr) t.length ct) ∧ w'.cell? (adr.add left.toNat) = some (.int .u64 (rd t left)) ∧ w'.cell? ⟨tb, 0, none⟩ = some (.int .u64 tr2)) (ds := []) (bl 10 0) (by kernel_rfl) rfl rfl ⟨hq0, hq1, hq2⟩ (fun hHeld => ?_)
            refine pS 0 22 (bl 10 1) ?_
            refine pS 2 24 (bl 10 5) ?_
            refine pS 5 27 (bl 10 37) ?_
            refine pS 6 28 (bl 10 101) ?_
            refine tS 1 23 (bl 10 103) hHeld ?_
            refine pS 3 25 (bl 10 111) ?_
            refine tS 4 26 (bl 10 127) hHeld ?_
            refine tS 7 29 (bl 10 255) hHeld ?_
            refine pS 8 30 (bl 10 511) ?_
            refine pS 9 7 (bl 10 1023) ?_
            refine done_ (by kernel_rfl) ?_
            go_wp2
            go_roundg k1
            case measure => have := HK1.out; omega
            case rel => exact ⟨tr2, O2, rfl, HH, ⟨by have := HK1.out; omega⟩, ⟨HB6.out.drew⟩, ⟨HO6.out.drew⟩, ⟨blk_drew HC6.out⟩, ⟨blk_drew HX6.out⟩, ⟨HKP6.out.drew⟩⟩
end Go.Proofs.YtamibghbkjmmeaaDoor.G
end
section
namespace Go.Proofs.YtamibghbkjmmeaaDoor.G
open Go.RowKit Go.Proofs.YtamibghbkjmmeaaDoorW.PrintWords Go.Proofs.YtamibghbkjmmeaaDoorW.PrintLast Go.Proofs.YtamibghbkjmmeaaDoorW.PrintMore
set_option linter.unusedVariables false
set_option linter.unusedSimpArgs false
def mostO (t : List Int) : Nat → Option Own
  | 0 => some []
  | n + 1 => (mostO t n).bind fun O => (marryF t 100 (n : Int) 0 O).bind fun p => some p.2.2
def guard_table_most.f (t : List Int) : Option Int := if t.length ≤ 64 then (mostO t t.length).bind fun O => some (O.length : Int) else none
theorem mostO_le (t : List Int) : ∀ (n i : Nat) (O : Own), mostO t n = some O → i ≤ n → ∃ O1, mostO t i = some O1
  | 0, i, O, h, hi => ⟨[], by obtain rfl : i = 0 := by omega
                              rfl⟩
  | n + 1, i, O, h, hi => by
    by_cases e : i = n + 1
    · exact ⟨O, e ▸ h⟩
    · obtain ⟨O1, h1, _⟩ := Option.bind_eq_some_iff.mp h
      exact mostO_le t n i O1 h1 (by omega)
set_option maxHeartbeats 8000000 in
set_option maxRecDepth 100000 in
theorem guard_table_most.calls (A0 : Option Addr) (c0 : Nat) (l0 : List Int) (r : Int) (w : World) (hr0 : Kd.C (Kd.int .u64) w A0 l0.length l0) (hc0 : l0.length ≤ c0) (hT_ : TabOk w) (h : guard_table_most.f l0 = some r) :
    Calls Tryd.prog 69 #[.slice A0 l0.length c0] w fun e w' => e = .returned (.int .i64 r) ∧ Below w.heap.size w w' := by
  unfold guard_table_most.f at h
  split at h
  case isFalse => simp at h
  rename_i h64
  obtain ⟨OE, hE, hr⟩ := Option.bind_eq_some_iff.mp h
  obtain rfl := Option.some.inj hr
  clear h hr hc0
  have HT := Aside0.mk hT_
  have HR := Aside0.mk hr0
  have HE := Aside0.mk hE
  have H64 := Aside0.mk h64
  have HLE := Aside0.mk (fun i (hi : i ≤ l0.length) => mostO_le l0 l0.length i OE hE hi)
  have MA := Aside0.mk (fun tb (h1 : w.heap.size ≤ tb) (h2 : w.heap.size ≠ tb) => guard_marry.calls l0 A0 c0 w.heap.size tb w hT_ hr0 (Nat.le_refl _) h1 h2 h64 100)
  clear hT_ hr0 hE h64
  have hmm := @run_makeMap Tryd.prog
  go_enter Tryd.func69, Tryd.ntmps69
  go_wp2
  have HX := Aside0.mk (show (((w.alloc (.map #[] 0)).alloc (.cells #[.slice A0 l0.length c0, .map (some w.heap.size)] 145))).heap[w.heap.size + 1]? = some (.cells #[.slice A0 l0.length c0, .map (some w.heap.size)] 145) from by have h_ := blk_new (w.alloc (.map #[] 0)) (.cells #[.slice A0 l0.length c0, .map (some w.heap.size)] 145); simpa using h_)
  go_loopg [11] l0.length (fun kq v11 w' => ∃ (i : Nat) (O1 : Own), v11 = .int .i64 (i : Int) ∧ Aside0 (i + kq = l0.length) ∧ Aside0 (mostO l0 i = some O1) ∧ Aside0 (Below w.heap.size w w') ∧ Aside0 (Owns w' w.heap.size O1) ∧ Aside0 (w'.heap[w.heap.size + 1]? = some (.cells #[.slice A0 l0.length c0, .map (some w.heap.size)] 145)))
  case atStart => exact ⟨0, [], rfl, ⟨by omega⟩, ⟨rfl⟩, ⟨((Below.refl _ w).alloc (Nat.le_refl _) _).alloc (by simp) _⟩, ⟨(Owns.made w).alloc _⟩, HX⟩
  case round =>
    clear HX
    obtain ⟨i, O1, rfl, HI, HO1, HB, HO, HX⟩ := hrel
    cases gk with
    | zero =>
      have hi : i = l0.length := by have := HI.out; omega
      subst hi
      have e : O1 = OE := Option.some.inj (HO1.out.symm.trans HE.out)
      subst e
      have hx6 := (blk_cell HX.out 1).trans rfl
      go_wp2_with (at_len; refine wpList_own_len rfl _ rfl w.heap.size O1 rfl HO.out ?_)
      go_ret
      exact ⟨rfl, HB.out⟩
    | succ k1 =>
      have hi : i < l0.length := by have := HI.out; omega
      have hib : decide (i < l0.length) = true := decide_eq_true hi
      obtain ⟨O2, h2⟩ := HLE.out (i + 1) (by omega)
      obtain ⟨O1', e1, h3⟩ := Option.bind_eq_some_iff.mp h2
      obtain rfl : O1' = O1 := Option.some.inj (e1.symm.trans HO1.out)
      obtain ⟨⟨b2, tr2, O3⟩, h4, h5⟩ := Option.bind_eq_some_iff.mp h3
      obtain rfl : O3 = O2 := Option.some.inj h5
      have HO2 := Aside0.mk h2
      have HM4 := Aside0.mk h4
      clear h2 e1 h3 h4 h5 hi
      have hx5 : (wr.alloc (.cells #[.int .u64 0] 116)).cell? ⟨w.heap.size + 1, 0, none⟩ = some (.slice A0 l0.length c0) := (blk_cell (blk_alloc HX.out _) 0).trans rfl
      have hx6 : (wr.alloc (.cells #[.int .u64 0] 116)).cell? ⟨w.heap.size + 1, 1, none⟩ = some (.map (some w.heap.size)) := (blk_cell (blk_alloc HX.out _) 1).trans rfl
      go_wp2_with (fail)
      have hlt := HX.out |> blk_lt
      refine (MA.out wr.heap.size (by omega) (by omega) (i : Int) 0 O1' b2 tr2 O3 (wr.alloc (.cells #[.int .u64 0] 116)) (HB.out.alloc HB.out.size _) (HO.out.alloc _) (blk_new _ _) HM4.out).mono ?_
      rintro e w6 ⟨rfl, ho, hc, hb, hk⟩
      have HX6 := Aside0.mk (blk_kept (blk_alloc HX.out _) hk (by rintro (h | h) <;> omega))
      have HO6 := Aside0.mk ho
      have HB6 := Aside0.mk hb
      clear ho hc hb hk hx5 hx6 hlt HO HX HB
      have hw : IntKind.i64.wrap ((i : Int) + 1) = ((i + 1 : Nat) : Int) := by have h1 := H64.out; have h2 := HI.out; rw [IntKind.wrap_i64]; omega
      go_wp2
      go_roundg k1
      case measure => omega
      case rel => exact ⟨i + 1, O3, (by first | rfl | (simp [hw]; done)), ⟨by have := HI.out; omega⟩, HO2, HB6, HO6, HX6⟩
end Go.Proofs.YtamibghbkjmmeaaDoor.G
end
section
namespace Go.Proofs.YtamibghbkjmmeaaDoor.G
open Go.RowKit Go.Proofs.YtamibghbkjmmeaaDoorW.PrintWords Go.Proofs.YtamibghbkjmmeaaDoorW.PrintLast Go.Proofs.YtamibghbkjmmeaaDoorW.PrintMore
attribute [local go_sem] max2_int min2_int max_two min_two max_three min_three max_four min_four
set_option linter.unusedVariables false
set_option linter.unusedSimpArgs false
def guard_far.f (a0 : Int) (a1 : Int) : Option (Int) := some (mx (wrap64 (a0 - a1)) (wrap64 (a1 - a0)))
set_option maxHeartbeats 8000000 in
set_option maxRecDepth 100000 in
theorem guard_far.calls (a0 : Int) (a1 : Int) (r : Int) (w : World) (h : guard_far.f a0 a1 = some r) :
    Calls Tryd.prog 87 #[.int .i64 a0, .int .i64 a1] w fun e w' => e = .returned (.int .i64 r) ∧ Below w.heap.size w w' := by
  have HB := Aside0.mk (Below.refl w.heap.size w)
  have H : (some (mx (wrap64 (a0 - a1)) (wrap64 (a1 - a0)))) = some r := h
  clear h
  obtain ⟨ji3, hji3⟩ : ∃ j_ : Int, (mx (wrap64 (a0 - a1)) (wrap64 (a1 - a0))) = j_ := ⟨_, rfl⟩
  replace H : (some ji3) = some r := by first | (rw [hji3] at H; exact H) | (simp only [hji3] at H ⊢; exact H)
  have hji3_ : (if (wrap64 (a0 - a1)) < (wrap64 (a1 - a0)) then (wrap64 (a1 - a0)) else (wrap64 (a0 - a1))) = ji3 := hji3
  obtain rfl := Option.some.inj H
  go_enter Tryd.func87, Tryd.ntmps87
  go_wp2
  go_ret
  exact ⟨by first | rfl | (simp [errW_none, errW_some] <;> rfl) | (simp only [← hji3]; first | rfl | (simp [errW_none, errW_some] <;> rfl)) | (simp [*, errW_none, errW_some] <;> rfl), by repeat (first | (with_reducible first | exact HB.out | apply below_alloc | apply pw_below_drewN | apply below_drew1) | exact HB.out)⟩
end Go.Proofs.YtamibghbkjmmeaaDoor.G
end
