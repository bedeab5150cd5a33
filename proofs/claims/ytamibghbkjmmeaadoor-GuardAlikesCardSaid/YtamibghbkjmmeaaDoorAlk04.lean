/- A part of this claim's proof (H75, F99, F71, F72, F73, F110, F100, F74, H93, H62, H95, H62c, H26, H26c, H70, H35, HM, H68a); no condition. -/
import Derived.Maps.AppendAt
import Derived.Maps.OwnIn
import Derived.LoopN
import Derived.Shelf.RegionOpenPlain
import Derived.Test.YtamibghbkjmmeaaDoorAlk03
section
namespace Go.Proofs.YtamibghbkjmmeaaDoor.G
open Go.RowKit Go.Proofs.YtamibghbkjmmeaaDoorW.PrintWords Go.Proofs.YtamibghbkjmmeaaDoorW.PrintLast Go.Proofs.YtamibghbkjmmeaaDoorW.PrintMore
set_option linter.unusedVariables false
set_option linter.unusedSimpArgs false
attribute [local go_sem] Oper.semAt_some
def bitsI (n : Nat) : List Int := (bitsL n).map Int.ofNat
def encI (l : List Nat) : List Value := l.map (fun (r : Nat) => Value.int .i64 (r : Int))
theorem ownsRow_keptC {W W' : World} {row : Option Nat} {n₀ e size n : Nat} {v : Value} {cs : List Value} (hr : W.ownsRow n₀ e size v n cs) (hg : W.grownBy W' row) (hrow : ∀ r, row = some r → ∃ o : Obj, W.heap[r]? = some o ∧ o.isCells = false) : W'.ownsRow n₀ e size v n cs := by
  refine hr.kept hg ?_
  rcases hr.2 with ⟨rfl, _⟩ | ⟨g, cap, cur, rfl, _, hgb, _⟩
  · exact .inl rfl
  · refine .inr fun e' => ?_
    obtain ⟨o, ho, hc⟩ := hrow g (by simpa [Value.ownBlock] using e'.symm)
    rw [hgb] at ho; cases ho; cases hc
theorem boxed_keptC {W W' : World} {row : Option Nat} {B t : Nat} {v : Value} (h : Boxed W B t v) (hg : W.grownBy W' row) (hrow : ∀ r, row = some r → ∃ o : Obj, W.heap[r]? = some o ∧ o.isCells = false) : Boxed W' B t v :=
  h.kept hg (fun e => by obtain ⟨o, ho, hc⟩ := hrow B e.symm; rw [show W.heap[B]? = _ from h] at ho; cases ho; cases hc)
set_option maxHeartbeats 4000000 in
set_option maxRecDepth 100000 in
theorem append_bits (x B : Nat) (hx : x < 18446744073709551616) (w0 w : World) (hb0 : Below w0.heap.size w0 w) (hB0 : w0.heap.size ≤ B) (hB : w.heap[B]? = some (.cells #[.int .u64 x] 116)) (hT0 : TabOk w0) :
    Calls Tryd.prog 111 #[.slice none 0 0, .func (.func 102) #[] #[.pointer (some ⟨B, 0, none⟩)]] w fun e w' => ∃ v, e = .returned v ∧ w'.ownsRow w0.heap.size 3 1 v (bitsL x).length (encI (bitsL x)) ∧ Below w0.heap.size w0 w' := by
  have hT : TabOk w := hT0.far (.inl (Nat.le_refl _)) hb0
  have h2 := hT0.two
  refine (callsIn_wide (n := 3)).1 ?_
  refine callsIn_of_wp_marks Tryd.func111 rfl trivial ?_ rfl
  simp only [Tryd.ntmps111, List.size_toArray, List.length_cons, List.length_nil, Nat.reduceAdd, Nat.reduceSub, Array.replicate_succ, Array.replicate_zero, List.push_toArray, List.append_toArray, List.nil_append, List.cons_append]
  gi_wp2
  have hlt := blk_lt hB
  have hL64 := bitsL_len x hx
  have hB1 : (w.alloc (.cells #[.slice none 0 0] 22)).heap[B]? = some (.cells #[.int .u64 x] 116) := blk_alloc hB _
  refine range_out (xs := bitsL x) rfl (enters_of Tryd.func102 (by kernel_rfl) rfl) (bits_seq x B hx _ hB1 (hT.far (.inl (Nat.le_refl _)) ((Below.refl _ w).alloc (Nat.le_refl _) _))) (fun _ => rfl) (fun h k => h.trans k)
    (fun W l r r' hl h => KeepB.put (by have := hl; simp only [World.size_alloc] at this; omega) (by have := hT.two; simp only [World.size_alloc] at hl; omega)) (fun A A' ⟨v, e⟩ => by rw [e]; exact (KeepsOthers.setCell _ _ _).from _)
    (fun pre W => (∃ v, Boxed W w.heap.size 22 v ∧ W.ownsRow w0.heap.size 3 1 v pre.length (encI pre) ∧ (∃ u, Boxed W B 116 u)) ∧ Below w0.heap.size w0 W)
    (fun _ _ _ => False) ?hI (fun _ _ _ _ _ h _ _ => h) ?hIs (fun _ _ _ _ h _ => h) ?h0 (fun r a' _ => a' = { tmps := #[.slice none 0 0, .func (.func 102) #[] #[.pointer (some ⟨B, 0, none⟩)], .pointer (some ⟨w.heap.size, 0, none⟩), undef, .slice none 0 0, .int .i64 (r : Int), .func (.func 102) #[] #[.pointer (some ⟨B, 0, none⟩)], .int .i64 (r : Int), undef, undef, undef, undef, undef], defers := [] }) (fun _ _ _ _ _ _ h _ _ => h) ?assign ?body ?done ?stop
  case hI =>
    rintro s W W' row ⟨⟨v, hv, hr, u, hu⟩, hb⟩ hg hrow
    have hr' := fun r e => (hrow r e).2
    exact ⟨⟨v, boxed_keptC hv hg hr', ownsRow_keptC hr hg hr', u, boxed_keptC hu hg hr'⟩, hb.grown hg hb.size (fun k e => by have h1 := (hrow k e).1; have h2 := hb0.size; simp only [World.size_alloc] at h1; omega)⟩
  case hIs =>
    rintro s A A' ⟨⟨v, hv, hr, u, hu⟩, hb⟩ ⟨z, rfl⟩
    exact ⟨⟨v, hv.kept (grownBy_setCell' A B z) (by simp; omega), hr.kept (grownBy_setCell' A B z) (.inr (hu.not_row (by decide) hr).symm), z, hu.set z⟩, hb.setCell (p := ⟨B, 0, none⟩) hB0 z⟩
  case h0 =>
    exact ⟨⟨_, Boxed.new w 22 _, own_nil _ _ _ _, _, hB1⟩, hb0.alloc hb0.size _⟩
  case assign =>
    intro m l pre r W K hI hpre hK
    gi_wp2
    exact hK _ _ (KeepsFrom.refl _ _) (KeepB.refl _ _) hI rfl
  case body =>
    rintro m l pre r a' W hl hr ⟨⟨v, hv, hrow, u, hu⟩, hb⟩ rfl hpre
    have hlen : pre.length + 1 ≤ 64 := by have := hpre.length_le; simp at this; omega
    have hc := hv.cell
    obtain ⟨i0, hi, hz0, hz1, hz2⟩ := info_parts info3
    gi_wp2_with (gi_at_builtin; go_loud (refine wpListIn_append_own_at _ rfl _ _ 22 rfl w0.heap.size 3 i0 (.int .i64 0) 1 8 Tryd.underlying22 hi hz0 hz1 hz2 rfl (by decide) _ _ _ rfl (hrow.alloc _) ⟨W.heap.size, 0, none⟩ 1 1 [.int .i64 (r : Int)] rfl rfl (cell_one_new _ _ _) (by simp [Value.oneCell']) (by simp only [maxLen]; omega) (by omega) (by have := hb.size; simp; omega) ?_; intro v' w1 hown' hgrow _ hat'; obtain ⟨g', cap', rfl⟩ := ownsRow_succ hown'; obtain ⟨hv1, hv2, hr2, hk2, hb2⟩ := hv.appended (by decide) hrow hb.size (by have := hb0.size; omega) hown' hgrow; have hc1 := hv1.cell; have hf1 := hv1.frozen))
    have hBsb : B ≠ w.heap.size := by omega
    have hu1 : Boxed (w1.setCell ⟨w.heap.size, 0, none⟩ (.slice (some ⟨g', 0, none⟩) (pre.length + 1) cap')) B 116 u := ((hu.alloc _).kept hgrow (hu.not_row (by decide) hrow)).kept (grownBy_setCell' _ _ _) (by simp; omega)
    have hone : (w1.setCell ⟨w.heap.size, 0, none⟩ (.slice (some ⟨g', 0, none⟩) (pre.length + 1) cap')).heap[1]? = W.heap[1]? := hb2.block 1 (by omega)
    exact ⟨hk2.from _, ⟨hu1.trans hu.symm, hone⟩, ⟨⟨_, hv2, by simpa [encI] using hr2, u, hu1⟩, hb.trans hb2⟩⟩
  case done =>
    rintro D W hD ⟨⟨v, hv, hrow, u, hu⟩, hb⟩ hK
    have hc := hv.cell
    gi_wp2
    refine ⟨by simp, .inl ⟨_, _, rfl, run_takeDeferred hK, ?_⟩⟩
    exact ⟨_, results_tmp rfl _ _ _, _, rfl, ownsRow_putObj hrow _ hK rfl, hb.trans (belowK_b (w := w) (n₀ := w0.heap.size) hb0.size W D _ _ (by simp only [World.size_alloc] at hD; omega) hK rfl rfl)⟩
  case stop =>
    intro D c pre W _ _ h
    exact h.elim
set_option maxHeartbeats 4000000 in
theorem collect_bits (x B : Nat) (hx : x < 18446744073709551616) (w0 w : World) (hb0 : Below w0.heap.size w0 w) (hB0 : w0.heap.size ≤ B) (hB : w.heap[B]? = some (.cells #[.int .u64 x] 116)) (hT0 : TabOk w0) :
    Calls Tryd.prog 101 #[.func (.func 102) #[] #[.pointer (some ⟨B, 0, none⟩)]] w fun e w' => ∃ v, e = .returned v ∧ w'.ownsRow w0.heap.size 3 1 v (bitsL x).length (encI (bitsL x)) ∧ Below w0.heap.size w0 w' := by
  have C := Aside0.mk (append_bits x B hx w0 w hb0 hB0 hB hT0)
  clear hB hT0 hb0
  go_enter Tryd.func101, Tryd.ntmps101
  go_wp2_with (go_at_call 111; refine C.out.mono ?_; rintro e w1 ⟨v, rfl, ho, hb⟩; have HO := Aside0.mk ho; have HB := Aside0.mk hb; clear ho hb)
  go_ret
  exact ⟨_, rfl, HO.out, HB.out⟩
def guard_numbers.f (x : Int) : Option (List Int) := if 0 ≤ x ∧ x < 18446744073709551616 then some (bitsI x.toNat) else none
set_option maxHeartbeats 4000000 in
theorem guard_numbers.calls (a0 : Int) (r : List Int) (w : World) (hT_ : TabOk w) (h : guard_numbers.f a0 = some r) :
    Calls Tryd.prog 75 #[.int .u64 a0] w fun e w' => ∃ v0_ : Value, e = .returned v0_ ∧ Kd.R (Kd.int .i64) 3 w' w.heap.size (fun _ => True) v0_ r ∧ Below w.heap.size w w' := by
  unfold guard_numbers.f at h
  split at h
  case isFalse => simp at h
  rename_i h01
  obtain rfl := Option.some.inj h
  clear h
  have C1 := Aside0.mk (guard_bitsOf.calls a0 w)
  have C2 := Aside0.mk (collect_bits a0.toNat w.heap.size (by omega) w (w.alloc (.cells #[.int .u64 a0] 116)) ((Below.refl _ w).alloc (Nat.le_refl _) _) (Nat.le_refl _) (by rw [Int.toNat_of_nonneg h01.1]; exact blk_new _ _) hT_)
  clear hT_ h01
  go_enter Tryd.func75, Tryd.ntmps75
  go_wp2_with (first | (go_at_call 83; refine C1.out.mono ?_; rintro e w1 ⟨rfl, hw1⟩; rw [hw1]; clear hw1) | (go_at_call 101; refine C2.out.mono ?_; rintro e w1 ⟨v, rfl, ho, hb⟩; have HO := Aside0.mk ho; have HB := Aside0.mk hb; clear ho hb))
  go_ret
  refine ⟨_, rfl, Kd.R_of_own (h1 := fun _ => rfl) (xs := bitsI a0.toNat) ?_ (fun _ _ => trivial), HB.out⟩
  have h := HO.out
  have e1 : (bitsI a0.toNat).length = (bitsL a0.toNat).length := by simp [bitsI]
  have e2 : encs (Value.int .i64) (bitsI a0.toNat) = encI (bitsL a0.toNat) := by simp [bitsI, encI, encs]
  rw [e1, e2]
  exact h
end Go.Proofs.YtamibghbkjmmeaaDoor.G
end
section
namespace Go.Proofs.YtamibghbkjmmeaaDoor.G
open Go.RowKit Go.Proofs.YtamibghbkjmmeaaDoorW.PrintWords Go.Proofs.YtamibghbkjmmeaaDoorW.PrintLast Go.Proofs.YtamibghbkjmmeaaDoorW.PrintMore
attribute [local go_sem] max2_int min2_int max_two min_two max_three min_three max_four min_four
set_option linter.unusedVariables false
set_option linter.unusedSimpArgs false
def bits_OnesCount64.f (a0 : Int) : Option (Int) := some (Go.bits .and .i64 (wrap64 (IntKind.u64.wrap ((IntKind.u64.wrap ((IntKind.u64.wrap ((Go.bits .and .u64 (IntKind.u64.wrap (((IntKind.u64.wrap ((Go.bits .and .u64 ((IntKind.u64.wrap ((Go.bits .and .u64 (a0 / 2) 6148914691236517205) + (Go.bits .and .u64 a0 6148914691236517205))) / 4) 3689348814741910323) + (Go.bits .and .u64 (IntKind.u64.wrap ((Go.bits .and .u64 (a0 / 2) 6148914691236517205) + (Go.bits .and .u64 a0 6148914691236517205))) 3689348814741910323))) / 16) + (IntKind.u64.wrap ((Go.bits .and .u64 ((IntKind.u64.wrap ((Go.bits .and .u64 (a0 / 2) 6148914691236517205) + (Go.bits .and .u64 a0 6148914691236517205))) / 4) 3689348814741910323) + (Go.bits .and .u64 (IntKind.u64.wrap ((Go.bits .and .u64 (a0 / 2) 6148914691236517205) + (Go.bits .and .u64 a0 6148914691236517205))) 3689348814741910323))))) 1085102592571150095) + ((Go.bits .and .u64 (IntKind.u64.wrap (((IntKind.u64.wrap ((Go.bits .and .u64 ((IntKind.u64.wrap ((Go.bits .and .u64 (a0 / 2) 6148914691236517205) + (Go.bits .and .u64 a0 6148914691236517205))) / 4) 3689348814741910323) + (Go.bits .and .u64 (IntKind.u64.wrap ((Go.bits .and .u64 (a0 / 2) 6148914691236517205) + (Go.bits .and .u64 a0 6148914691236517205))) 3689348814741910323))) / 16) + (IntKind.u64.wrap ((Go.bits .and .u64 ((IntKind.u64.wrap ((Go.bits .and .u64 (a0 / 2) 6148914691236517205) + (Go.bits .and .u64 a0 6148914691236517205))) / 4) 3689348814741910323) + (Go.bits .and .u64 (IntKind.u64.wrap ((Go.bits .and .u64 (a0 / 2) 6148914691236517205) + (Go.bits .and .u64 a0 6148914691236517205))) 3689348814741910323))))) 1085102592571150095) / 256))) + ((IntKind.u64.wrap ((Go.bits .and .u64 (IntKind.u64.wrap (((IntKind.u64.wrap ((Go.bits .and .u64 ((IntKind.u64.wrap ((Go.bits .and .u64 (a0 / 2) 6148914691236517205) + (Go.bits .and .u64 a0 6148914691236517205))) / 4) 3689348814741910323) + (Go.bits .and .u64 (IntKind.u64.wrap ((Go.bits .and .u64 (a0 / 2) 6148914691236517205) + (Go.bits .and .u64 a0 6148914691236517205))) 3689348814741910323))) / 16) + (IntKind.u64.wrap ((Go.bits .and .u64 ((IntKind.u64.wrap ((Go.bits .and .u64 (a0 / 2) 6148914691236517205) + (Go.bits .and .u64 a0 6148914691236517205))) / 4) 3689348814741910323) + (Go.bits .and .u64 (IntKind.u64.wrap ((Go.bits .and .u64 (a0 / 2) 6148914691236517205) + (Go.bits .and .u64 a0 6148914691236517205))) 3689348814741910323))))) 1085102592571150095) + ((Go.bits .and .u64 (IntKind.u64.wrap (((IntKind.u64.wrap ((Go.bits .and .u64 ((IntKind.u64.wrap ((Go.bits .and .u64 (a0 / 2) 6148914691236517205) + (Go.bits .and .u64 a0 6148914691236517205))) / 4) 3689348814741910323) + (Go.bits .and .u64 (IntKind.u64.wrap ((Go.bits .and .u64 (a0 / 2) 6148914691236517205) + (Go.bits .and .u64 a0 6148914691236517205))) 3689348814741910323))) / 16) + (IntKind.u64.wrap ((Go.bits .and .u64 ((IntKind.u64.wrap ((Go.bits .and .u64 (a0 / 2) 6148914691236517205) + (Go.bits .and .u64 a0 6148914691236517205))) / 4) 3689348814741910323) + (Go.bits .and .u64 (IntKind.u64.wrap ((Go.bits .and .u64 (a0 / 2) 6148914691236517205) + (Go.bits .and .u64 a0 6148914691236517205))) 3689348814741910323))))) 1085102592571150095) / 256))) / 65536))) + ((IntKind.u64.wrap ((IntKind.u64.wrap ((Go.bits .and .u64 (IntKind.u64.wrap (((IntKind.u64.wrap ((Go.bits .and .u64 ((IntKind.u64.wrap ((Go.bits .and .u64 (a0 / 2) 6148914691236517205) + (Go.bits .and .u64 a0 6148914691236517205))) / 4) 3689348814741910323) + (Go.bits .and .u64 (IntKind.u64.wrap ((Go.bits .and .u64 (a0 / 2) 6148914691236517205) + (Go.bits .and .u64 a0 6148914691236517205))) 3689348814741910323))) / 16) + (IntKind.u64.wrap ((Go.bits .and .u64 ((IntKind.u64.wrap ((Go.bits .and .u64 (a0 / 2) 6148914691236517205) + (Go.bits .and .u64 a0 6148914691236517205))) / 4) 3689348814741910323) + (Go.bits .and .u64 (IntKind.u64.wrap ((Go.bits .and .u64 (a0 / 2) 6148914691236517205) + (Go.bits .and .u64 a0 6148914691236517205))) 3689348814741910323))))) 1085102592571150095) + ((Go.bits .and .u64 (IntKind.u64.wrap (((IntKind.u64.wrap ((Go.bits .and .u64 ((IntKind.u64.wrap ((Go.bits .and .u64 (a0 / 2) 6148914691236517205) + (Go.bits .and .u64 a0 6148914691236517205))) / 4) 3689348814741910323) + (Go.bits .and .u64 (IntKind.u64.wrap ((Go.bits .and .u64 (a0 / 2) 6148914691236517205) + (Go.bits .and .u64 a0 6148914691236517205))) 3689348814741910323))) / 16) + (IntKind.u64.wrap ((Go.bits .and .u64 ((IntKind.u64.wrap ((Go.bits .and .u64 (a0 / 2) 6148914691236517205) + (Go.bits .and .u64 a0 6148914691236517205))) / 4) 3689348814741910323) + (Go.bits .and .u64 (IntKind.u64.wrap ((Go.bits .and .u64 (a0 / 2) 6148914691236517205) + (Go.bits .and .u64 a0 6148914691236517205))) 3689348814741910323))))) 1085102592571150095) / 256))) + ((IntKind.u64.wrap ((Go.bits .and .u64 (IntKind.u64.wrap (((IntKind.u64.wrap ((Go.bits .and .u64 ((IntKind.u64.wrap ((Go.bits .and .u64 (a0 / 2) 6148914691236517205) + (Go.bits .and .u64 a0 6148914691236517205))) / 4) 3689348814741910323) + (Go.bits .and .u64 (IntKind.u64.wrap ((Go.bits .and .u64 (a0 / 2) 6148914691236517205) + (Go.bits .and .u64 a0 6148914691236517205))) 3689348814741910323))) / 16) + (IntKind.u64.wrap ((Go.bits .and .u64 ((IntKind.u64.wrap ((Go.bits .and .u64 (a0 / 2) 6148914691236517205) + (Go.bits .and .u64 a0 6148914691236517205))) / 4) 3689348814741910323) + (Go.bits .and .u64 (IntKind.u64.wrap ((Go.bits .and .u64 (a0 / 2) 6148914691236517205) + (Go.bits .and .u64 a0 6148914691236517205))) 3689348814741910323))))) 1085102592571150095) + ((Go.bits .and .u64 (IntKind.u64.wrap (((IntKind.u64.wrap ((Go.bits .and .u64 ((IntKind.u64.wrap ((Go.bits .and .u64 (a0 / 2) 6148914691236517205) + (Go.bits .and .u64 a0 6148914691236517205))) / 4) 3689348814741910323) + (Go.bits .and .u64 (IntKind.u64.wrap ((Go.bits .and .u64 (a0 / 2) 6148914691236517205) + (Go.bits .and .u64 a0 6148914691236517205))) 3689348814741910323))) / 16) + (IntKind.u64.wrap ((Go.bits .and .u64 ((IntKind.u64.wrap ((Go.bits .and .u64 (a0 / 2) 6148914691236517205) + (Go.bits .and .u64 a0 6148914691236517205))) / 4) 3689348814741910323) + (Go.bits .and .u64 (IntKind.u64.wrap ((Go.bits .and .u64 (a0 / 2) 6148914691236517205) + (Go.bits .and .u64 a0 6148914691236517205))) 3689348814741910323))))) 1085102592571150095) / 256))) / 65536))) / 4294967296)))) 127)
set_option maxHeartbeats 8000000 in
set_option maxRecDepth 100000 in
theorem bits_OnesCount64.calls (a0 : Int) (r : Int) (w : World) (h : bits_OnesCount64.f a0 = some r) :
    Calls Tryd.prog 99 #[.int .u64 a0] w fun e w' => e = .returned (.int .i64 r) ∧ Drawn0 w w' := by
  have H : (some (Go.bits .and .i64 (wrap64 (IntKind.u64.wrap ((IntKind.u64.wrap ((IntKind.u64.wrap ((Go.bits .and .u64 (IntKind.u64.wrap (((IntKind.u64.wrap ((Go.bits .and .u64 ((IntKind.u64.wrap ((Go.bits .and .u64 (a0 / 2) 6148914691236517205) + (Go.bits .and .u64 a0 6148914691236517205))) / 4) 3689348814741910323) + (Go.bits .and .u64 (IntKind.u64.wrap ((Go.bits .and .u64 (a0 / 2) 6148914691236517205) + (Go.bits .and .u64 a0 6148914691236517205))) 3689348814741910323))) / 16) + (IntKind.u64.wrap ((Go.bits .and .u64 ((IntKind.u64.wrap ((Go.bits .and .u64 (a0 / 2) 6148914691236517205) + (Go.bits .and .u64 a0 6148914691236517205))) / 4) 3689348814741910323) + (Go.bits .and .u64 (IntKind.u64.wrap ((Go.bits .and .u64 (a0 / 2) 6148914691236517205) + (Go.bits .and .u64 a0 6148914691236517205))) 3689348814741910323))))) 1085102592571150095) + ((Go.bits .and .u64 (IntKind.u64.wrap (((IntKind.u64.wrap ((Go.bits .and .u64 ((IntKind.u64.wrap ((Go.bits .and .u64 (a0 / 2) 6148914691236517205) + (Go.bits .and .u64 a0 6148914691236517205))) / 4) 3689348814741910323) + (Go.bits .and .u64 (IntKind.u64.wrap ((Go.bits .and .u64 (a0 / 2) 6148914691236517205) + (Go.bits .and .u64 a0 6148914691236517205))) 3689348814741910323))) / 16) + (IntKind.u64.wrap ((Go.bits .and .u64 ((IntKind.u64.wrap ((Go.bits .and .u64 (a0 / 2) 6148914691236517205) + (Go.bits .and .u64 a0 6148914691236517205))) / 4) 3689348814741910323) + (Go.bits .and .u64 (IntKind.u64.wrap ((Go.bits .and .u64 (a0 / 2) 6148914691236517205) + (Go.bits .and .u64 a0 6148914691236517205))) 3689348814741910323))))) 1085102592571150095) / 256))) + ((IntKind.u64.wrap ((Go.bits .and .u64 (IntKind.u64.wrap (((IntKind.u64.wrap ((Go.bits .and .u64 ((IntKind.u64.wrap ((Go.bits .and .u64 (a0 / 2) 6148914691236517205) + (Go.bits .and .u64 a0 6148914691236517205))) / 4) 3689348814741910323) + (Go.bits .and .u64 (IntKind.u64.wrap ((Go.bits .and .u64 (a0 / 2) 6148914691236517205) + (Go.bits .and .u64 a0 6148914691236517205))) 3689348814741910323))) / 16) + (IntKind.u64.wrap ((Go.bits .and .u64 ((IntKind.u64.wrap ((Go.bits .and .u64 (a0 / 2) 6148914691236517205) + (Go.bits .and .u64 a0 6148914691236517205))) / 4) 3689348814741910323) + (Go.bits .and .u64 (IntKind.u64.wrap ((Go.bits .and .u64 (a0 / 2) 6148914691236517205) + (Go.bits .and .u64 a0 6148914691236517205))) 3689348814741910323))))) 1085102592571150095) + ((Go.bits .and .u64 (IntKind.u64.wrap (((IntKind.u64.wrap ((Go.bits .and .u64 ((IntKind.u64.wrap ((Go.bits .and .u64 (a0 / 2) 6148914691236517205) + (Go.bits .and .u64 a0 6148914691236517205))) / 4) 3689348814741910323) + (Go.bits .and .u64 (IntKind.u64.wrap ((Go.bits .and .u64 (a0 / 2) 6148914691236517205) + (Go.bits .and .u64 a0 6148914691236517205))) 3689348814741910323))) / 16) + (IntKind.u64.wrap ((Go.bits .and .u64 ((IntKind.u64.wrap ((Go.bits .and .u64 (a0 / 2) 6148914691236517205) + (Go.bits .and .u64 a0 6148914691236517205))) / 4) 3689348814741910323) + (Go.bits .and .u64 (IntKind.u64.wrap ((Go.bits .and .u64 (a0 / 2) 6148914691236517205) + (Go.bits .and .u64 a0 6148914691236517205))) 3689348814741910323))))) 1085102592571150095) / 256))) / 65536))) + ((IntKind.u64.wrap ((IntKind.u64.wrap ((Go.bits .and .u64 (IntKind.u64.wrap (((IntKind.u64.wrap ((Go.bits .and .u64 ((IntKind.u64.wrap ((Go.bits .and .u64 (a0 / 2) 6148914691236517205) + (Go.bits .and .u64 a0 6148914691236517205))) / 4) 3689348814741910323) + (Go.bits .and .u64 (IntKind.u64.wrap ((Go.bits .and .u64 (a0 / 2) 6148914691236517205) + (Go.bits .and .u64 a0 6148914691236517205))) 3689348814741910323))) / 16) + (IntKind.u64.wrap ((Go.bits .and .u64 ((IntKind.u64.wrap ((Go.bits .and .u64 (a0 / 2) 6148914691236517205) + (Go.bits .and .u64 a0 6148914691236517205))) / 4) 3689348814741910323) + (Go.bits .and .u64 (IntKind.u64.wrap ((Go.bits .and .u64 (a0 / 2) 6148914691236517205) + (Go.bits .and .u64 a0 6148914691236517205))) 3689348814741910323))))) 1085102592571150095) + ((Go.bits .and .u64 (IntKind.u64.wrap (((IntKind.u64.wrap ((Go.bits .and .u64 ((IntKind.u64.wrap ((Go.bits .and .u64 (a0 / 2) 6148914691236517205) + (Go.bits .and .u64 a0 6148914691236517205))) / 4) 3689348814741910323) + (Go.bits .and .u64 (IntKind.u64.wrap ((Go.bits .and .u64 (a0 / 2) 6148914691236517205) + (Go.bits .and .u64 a0 6148914691236517205))) 3689348814741910323))) / 16) + (IntKind.u64.wrap ((Go.bits .and .u64 ((IntKind.u64.wrap ((Go.bits .and .u64 (a0 / 2) 6148914691236517205) + (Go.bits .and .u64 a0 6148914691236517205))) / 4) 3689348814741910323) + (Go.bits .and .u64 (IntKind.u64.wrap ((Go.bits .and .u64 (a0 / 2) 6148914691236517205) + (Go.bits .and .u64 a0 6148914691236517205))) 3689348814741910323))))) 1085102592571150095) / 256))) + ((IntKind.u64.wrap ((Go.bits .and .u64 (IntKind.u64.wrap (((IntKind.u64.wrap ((Go.bits .and .u64 ((IntKind.u64.wrap ((Go.bits .and .u64 (a0 / 2) 6148914691236517205) + (Go.bits .and .u64 a0 6148914691236517205))) / 4) 3689348814741910323) + (Go.bits .and .u64 (IntKind.u64.wrap ((Go.bits .and .u64 (a0 / 2) 6148914691236517205) + (Go.bits .and .u64 a0 6148914691236517205))) 3689348814741910323))) / 16) + (IntKind.u64.wrap ((Go.bits .and .u64 ((IntKind.u64.wrap ((Go.bits .and .u64 (a0 / 2) 6148914691236517205) + (Go.bits .and .u64 a0 6148914691236517205))) / 4) 3689348814741910323) + (Go.bits .and .u64 (IntKind.u64.wrap ((Go.bits .and .u64 (a0 / 2) 6148914691236517205) + (Go.bits .and .u64 a0 6148914691236517205))) 3689348814741910323))))) 1085102592571150095) + ((Go.bits .and .u64 (IntKind.u64.wrap (((IntKind.u64.wrap ((Go.bits .and .u64 ((IntKind.u64.wrap ((Go.bits .and .u64 (a0 / 2) 6148914691236517205) + (Go.bits .and .u64 a0 6148914691236517205))) / 4) 3689348814741910323) + (Go.bits .and .u64 (IntKind.u64.wrap ((Go.bits .and .u64 (a0 / 2) 6148914691236517205) + (Go.bits .and .u64 a0 6148914691236517205))) 3689348814741910323))) / 16) + (IntKind.u64.wrap ((Go.bits .and .u64 ((IntKind.u64.wrap ((Go.bits .and .u64 (a0 / 2) 6148914691236517205) + (Go.bits .and .u64 a0 6148914691236517205))) / 4) 3689348814741910323) + (Go.bits .and .u64 (IntKind.u64.wrap ((Go.bits .and .u64 (a0 / 2) 6148914691236517205) + (Go.bits .and .u64 a0 6148914691236517205))) 3689348814741910323))))) 1085102592571150095) / 256))) / 65536))) / 4294967296)))) 127)) = some r := h
  clear h
  obtain rfl := Option.some.inj H
  go_enter Tryd.func99, Tryd.ntmps99
  go_wp2
  go_ret
  exact ⟨by first | rfl | (simp; done) | (simp [*]; done), by repeat (first | exact Drawn0.refl _ | apply Drawn0.step)⟩
end Go.Proofs.YtamibghbkjmmeaaDoor.G
end
section
namespace Go.Proofs.YtamibghbkjmmeaaDoor.G
open Go.RowKit Go.Proofs.YtamibghbkjmmeaaDoorW.PrintWords Go.Proofs.YtamibghbkjmmeaaDoorW.PrintLast Go.Proofs.YtamibghbkjmmeaaDoorW.PrintMore
attribute [local go_sem] max2_int min2_int max_two min_two max_three min_three max_four min_four
set_option linter.unusedVariables false
set_option linter.unusedSimpArgs false
def bits_OnesCount.f (a0 : Int) : Option (Int) := (bits_OnesCount64.f a0).bind fun t498 => (some t498)
set_option maxHeartbeats 8000000 in
set_option maxRecDepth 100000 in
theorem bits_OnesCount.calls (a0 : Int) (r : Int) (w : World) (h : bits_OnesCount.f a0 = some r) :
    Calls Tryd.prog 71 #[.int .u64 a0] w fun e w' => e = .returned (.int .i64 r) ∧ Drawn0 w w' := by
  have H : ((bits_OnesCount64.f a0).bind fun t498 => (some t498)) = some r := h
  clear h
  replace H := Option.bind_eq_some_iff.mp H
  obtain ⟨t498, A20, H⟩ := H
  replace H : (some t498) = some r := H
  have A2 := Aside0.mk A20
  clear A20
  obtain rfl := Option.some.inj H
  go_enter Tryd.func71, Tryd.ntmps71
  go_wp2_with (first | ((with_reducible refine gate_callee (f := 99) rfl ?_); refine goesL_ (some 7) rfl rfl Tryd.func99 (by kernel_rfl) rfl #[.int .u64 a0] rfl (by (try simp only [List.map_toArray, List.map_cons, List.map_nil]); first | done | rfl | (simp only [List.length_drop, List.length_take]; rfl)) ?_; (with_reducible refine (bits_OnesCount64.calls a0 t498 _ A2.out).mono ?_); rintro e w' ⟨rfl, ⟨nd, rfl⟩⟩; refine ⟨_, rfl, ?_⟩))
  go_ret
  exact ⟨by first | rfl | (simp; done) | (simp [*]; done), by repeat (first | exact Drawn0.refl _ | apply Drawn0.step)⟩
end Go.Proofs.YtamibghbkjmmeaaDoor.G
end
section
namespace Go.Proofs.YtamibghbkjmmeaaDoor.G
open Go.RowKit Go.Proofs.YtamibghbkjmmeaaDoorW.PrintWords Go.Proofs.YtamibghbkjmmeaaDoorW.PrintLast Go.Proofs.YtamibghbkjmmeaaDoorW.PrintMore
attribute [local go_sem] max2_int min2_int max_two min_two max_three min_three max_four min_four
set_option linter.unusedVariables false
set_option linter.unusedSimpArgs false
def guard_table_cover.l0 : Nat → Int → Int → List Int → Int → Int → Option (Int)
  | 0, _, _, _, _, _ => none
  | k + 1, x1, x4, x7, x8, x9 => if x9 < x8 then (if 0 ≤ x9 then (if x9 < (x7.length : Int) then (if (Go.bits .and .u64 (shr .u64 x1 x9) 1) = 0 then (guard_table_cover.l0 k x1 (Go.bits .or .u64 x4 (rd x7 x9)) x7 x8 (wrap64 (x9 + 1))) else (guard_table_cover.l0 k x1 x4 x7 x8 (wrap64 (x9 + 1)))) else (none)) else (none)) else (some x4)
def guard_table_cover.f (k : Nat) (l0 : List Int) (a1 : Int) : Option (Int) := guard_table_cover.l0 k a1 0 l0 (l0.length : Int) 0
set_option maxHeartbeats 8000000 in
set_option maxRecDepth 100000 in
theorem guard_table_cover.calls (k : Nat) (A0 : Option Addr) (c0 : Nat) (l0 : List Int) (a1 : Int) (r : Int) (w : World) (hr0 : Kd.C (Kd.int .u64) w A0 l0.length l0) (hc0 : l0.length ≤ c0) (h : guard_table_cover.f k l0 a1 = some r) :
    Calls Tryd.prog 72 #[.slice A0 l0.length c0, .int .u64 a1] w fun e w' => e = .returned (.int .u64 r) ∧ Drawn0 w w' := by
  have HR0 := Aside0.mk hr0
  have HC0 := Aside0.mk hc0
  clear hr0 hc0
  have H : (guard_table_cover.l0 k a1 0 l0 (l0.length : Int) 0) = some r := h
  clear h
  have H' := Aside0.mk H
  clear H
  go_enter Tryd.func72, Tryd.ntmps72
  go_wp2
  go_loopg [4, 9] k (fun kq v4 v9 w' => ∃ (x4_1 : Int) (x9_1 : Int), v4 = .int .u64 x4_1 ∧ v9 = .int .i64 x9_1 ∧ Aside0 (guard_table_cover.l0 kq a1 x4_1 l0 (l0.length : Int) x9_1 = some r) ∧ Aside0 (kq ≤ k) ∧ Drawn0 w w')
  case atStart => exact ⟨(0), (0), (by first | rfl | (simp; done) | (simp [*]; done)), (by first | rfl | (simp; done) | (simp [*]; done)), H', ⟨Nat.le_refl _⟩, by repeat (first | exact Drawn0.refl _ | apply Drawn0.step)⟩
  case round =>
    clear H'
    try clear p2
    obtain ⟨x4_1, x9_1, rfl, rfl, HA, HK1, ⟨m1, rfl⟩⟩ := hrel
    cases gk with
    | zero => exact absurd HA.out (by simp [guard_table_cover.l0])
    | succ k1 =>
      have H := HA.out
      clear HA
      simp only [guard_table_cover.l0] at H
      by_cases c3 : x9_1 < (l0.length : Int)
      · rw [if_pos c3] at H
        have c3b0 : decide (x9_1 < (l0.length : Int)) = true := decide_eq_true c3
        clear c3
        by_cases c4 : 0 ≤ x9_1
        · rw [if_pos c4] at H
          have c4b0 : decide (0 ≤ x9_1) = true := decide_eq_true c4
          clear c4
          by_cases c5 : x9_1 < (l0.length : Int)
          · rw [if_pos c5] at H
            have c5b0 : decide (x9_1 < (l0.length : Int)) = true := decide_eq_true c5
            clear c5
            have c6b0 := eq_true (of_decide_eq_true (by first | (with_reducible assumption) | assumption) : 0 ≤ x9_1)
            obtain ⟨ji7, hji7⟩ : ∃ j_ : Int, (shr .u64 a1 x9_1) = j_ := ⟨_, rfl⟩
            replace H : (if (Go.bits .and .u64 (ji7) 1) = 0 then (guard_table_cover.l0 k1 a1 (Go.bits .or .u64 x4_1 (rd l0 x9_1)) l0 (l0.length : Int) (wrap64 (x9_1 + 1))) else (guard_table_cover.l0 k1 a1 x4_1 l0 (l0.length : Int) (wrap64 (x9_1 + 1)))) = some r := by first | (rw [hji7] at H; exact H) | (simp only [hji7] at H ⊢; exact H)
            have hji7_ : (a1 / 2 ^ min x9_1.toNat 64) = ji7 := hji7
            have hji7z : x9_1 ≤ 64 → (a1 / 2 ^ x9_1.toNat) = ji7 := shr_small hji7
            by_cases c8 : (Go.bits .and .u64 (ji7) 1) = 0
            · rw [if_pos c8] at H
              have c8b0 : ((Go.bits .and .u64 (ji7) 1) == 0) = true := beq_iff_eq.mpr c8
              have c8b1 : ((Go.bits .and .u64 (ji7) 1) != 0) = false := bne_eq_false_iff_eq.mpr c8
              clear c8
              have H' := Aside0.mk H
              clear H
              have p154 : 0 ≤ (x9_1 : Int) := of_decide_eq_true (by first | (with_reducible assumption) | assumption)
              have q154 : x9_1 < (l0.length : Int) := of_decide_eq_true (by first | (with_reducible assumption) | assumption)
              obtain ⟨ad154, e154, hx154_0⟩ := Kd.at_int HR0.out x9_1 p154 q154
              cases e154
              replace p154 := eq_true p154
              replace q154 := eq_true q154
              go_wp2
              go_roundg k1
              case measure => have := HK1.out; omega
              case rel => exact ⟨(Go.bits .or .u64 x4_1 (rd l0 x9_1)), (wrap64 (x9_1 + 1)), (by first | rfl | (simp; done) | (simp [*]; done)), (by first | rfl | (simp; done) | (simp [*]; done)), H', ⟨by have := HK1.out; omega⟩, by repeat (first | exact Drawn0.refl _ | apply Drawn0.step)⟩
            · rw [if_neg c8] at H
              have c8b0 : ((Go.bits .and .u64 (ji7) 1) == 0) = false := beq_eq_false_iff_ne.mpr c8
              have c8b1 : ((Go.bits .and .u64 (ji7) 1) != 0) = true := bne_iff_ne.mpr c8
              have H' := Aside0.mk H
              clear H
              have p154 : 0 ≤ (x9_1 : Int) := of_decide_eq_true (by first | (with_reducible assumption) | assumption)
              have q154 : x9_1 < (l0.length : Int) := of_decide_eq_true (by first | (with_reducible assumption) | assumption)
              obtain ⟨ad154, e154, hx154_0⟩ := Kd.at_int HR0.out x9_1 p154 q154
              cases e154
              replace p154 := eq_true p154
              replace q154 := eq_true q154
              go_wp2
              go_roundg k1
              case measure => have := HK1.out; omega
              case rel => exact ⟨(x4_1), (wrap64 (x9_1 + 1)), (by first | rfl | (simp; done) | (simp [*]; done)), (by first | rfl | (simp; done) | (simp [*]; done)), H', ⟨by have := HK1.out; omega⟩, by repeat (first | exact Drawn0.refl _ | apply Drawn0.step)⟩
          · rw [if_neg c5] at H
            exact absurd H (by simp)
        · rw [if_neg c4] at H
          exact absurd H (by simp)
      · rw [if_neg c3] at H
        have c3b0 : decide (x9_1 < (l0.length : Int)) = false := decide_eq_false c3
        clear c3
        obtain rfl := Option.some.inj H
        go_wp2
        go_ret
        exact ⟨by first | rfl | (simp; done) | (simp [*]; done), by repeat (first | exact Drawn0.refl _ | apply Drawn0.step)⟩
end Go.Proofs.YtamibghbkjmmeaaDoor.G
end
section
namespace Go.Proofs.YtamibghbkjmmeaaDoor.G
open Go.RowKit Go.Proofs.YtamibghbkjmmeaaDoorW.PrintWords Go.Proofs.YtamibghbkjmmeaaDoorW.PrintLast Go.Proofs.YtamibghbkjmmeaaDoorW.PrintMore
attribute [local go_sem] max2_int min2_int max_two min_two max_three min_three max_four min_four
set_option linter.unusedVariables false
set_option linter.unusedSimpArgs false
def cmp_Or_int.l0 : Nat → Int → List Int → Int → Int → Option (Int)
  | 0, _, _, _, _ => none
  | k + 1, x3, x6, x7, x8 => if x8 < x7 then (if 0 ≤ x8 then (if x8 < (x6.length : Int) then (if (rd x6 x8) = x3 then (cmp_Or_int.l0 k x3 x6 x7 (wrap64 (x8 + 1))) else (some (rd x6 x8))) else (none)) else (none)) else (some x3)
def cmp_Or_int.f (k : Nat) (l0 : List Int) : Option (Int) := cmp_Or_int.l0 k 0 l0 (l0.length : Int) 0
set_option maxHeartbeats 8000000 in
set_option maxRecDepth 100000 in
theorem cmp_Or_int.calls (k : Nat) (A0 : Option Addr) (c0 : Nat) (l0 : List Int) (r : Int) (w : World) (hr0 : Kd.C (Kd.int .i64) w A0 l0.length l0) (hc0 : l0.length ≤ c0) (h : cmp_Or_int.f k l0 = some r) :
    Calls Tryd.prog 73 #[.slice A0 l0.length c0] w fun e w' => e = .returned (.int .i64 r) ∧ Drawn0 w w' := by
  have HR0 := Aside0.mk hr0
  have HC0 := Aside0.mk hc0
  clear hr0 hc0
  have H : (cmp_Or_int.l0 k 0 l0 (l0.length : Int) 0) = some r := h
  clear h
  have H' := Aside0.mk H
  clear H
  go_enter Tryd.func73, Tryd.ntmps73
  go_wp2
  go_loopg [8] k (fun kq v8 w' => ∃ (x8_1 : Int), v8 = .int .i64 x8_1 ∧ Aside0 (cmp_Or_int.l0 kq 0 l0 (l0.length : Int) x8_1 = some r) ∧ Aside0 (kq ≤ k) ∧ Drawn0 w w')
  case atStart => exact ⟨(0), (by first | rfl | (simp; done) | (simp [*]; done)), H', ⟨Nat.le_refl _⟩, by repeat (first | exact Drawn0.refl _ | apply Drawn0.step)⟩
  case round =>
    clear H'
    obtain ⟨x8_1, rfl, HA, HK1, ⟨m1, rfl⟩⟩ := hrel
    cases gk with
    | zero => exact absurd HA.out (by simp [cmp_Or_int.l0])
    | succ k1 =>
      have H := HA.out
      clear HA
      simp only [cmp_Or_int.l0] at H
      by_cases c2 : x8_1 < (l0.length : Int)
      · rw [if_pos c2] at H
        have c2b0 : decide (x8_1 < (l0.length : Int)) = true := decide_eq_true c2
        clear c2
        by_cases c3 : 0 ≤ x8_1
        · rw [if_pos c3] at H
          have c3b0 : decide (0 ≤ x8_1) = true := decide_eq_true c3
          clear c3
          by_cases c4 : x8_1 < (l0.length : Int)
          · rw [if_pos c4] at H
            have c4b0 : decide (x8_1 < (l0.length : Int)) = true := decide_eq_true c4
            clear c4
            by_cases c5 : (rd l0 x8_1) = 0
            · rw [if_pos c5] at H
              have c5b0 : ((rd l0 x8_1) == 0) = true := beq_iff_eq.mpr c5
              have c5b1 : ((rd l0 x8_1) != 0) = false := bne_eq_false_iff_eq.mpr c5
              clear c5
              have H' := Aside0.mk H
              clear H
              have p155 : 0 ≤ (x8_1 : Int) := of_decide_eq_true (by first | (with_reducible assumption) | assumption)
              have q155 : x8_1 < (l0.length : Int) := of_decide_eq_true (by first | (with_reducible assumption) | assumption)
              obtain ⟨ad155, e155, hx155_0⟩ := Kd.at_int HR0.out x8_1 p155 q155
              cases e155
              replace p155 := eq_true p155
              replace q155 := eq_true q155
              go_wp2
              go_roundg k1
              case measure => have := HK1.out; omega
              case rel => exact ⟨(wrap64 (x8_1 + 1)), (by first | rfl | (simp; done) | (simp [*]; done)), H', ⟨by have := HK1.out; omega⟩, by repeat (first | exact Drawn0.refl _ | apply Drawn0.step)⟩
            · rw [if_neg c5] at H
              have c5b0 : ((rd l0 x8_1) == 0) = false := beq_eq_false_iff_ne.mpr c5
              have c5b1 : ((rd l0 x8_1) != 0) = true := bne_iff_ne.mpr c5
              obtain rfl := Option.some.inj H
              have p155 : 0 ≤ (x8_1 : Int) := of_decide_eq_true (by first | (with_reducible assumption) | assumption)
              have q155 : x8_1 < (l0.length : Int) := of_decide_eq_true (by first | (with_reducible assumption) | assumption)
              obtain ⟨ad155, e155, hx155_0⟩ := Kd.at_int HR0.out x8_1 p155 q155
              cases e155
              replace p155 := eq_true p155
              replace q155 := eq_true q155
              go_wp2
              go_ret
              exact ⟨by first | rfl | (simp; done) | (simp [*]; done), by repeat (first | exact Drawn0.refl _ | apply Drawn0.step)⟩
          · rw [if_neg c4] at H
            exact absurd H (by simp)
        · rw [if_neg c3] at H
          exact absurd H (by simp)
      · rw [if_neg c2] at H
        have c2b0 : decide (x8_1 < (l0.length : Int)) = false := decide_eq_false c2
        clear c2
        obtain rfl := Option.some.inj H
        go_wp2
        go_ret
        exact ⟨by first | rfl | (simp; done) | (simp [*]; done), by repeat (first | exact Drawn0.refl _ | apply Drawn0.step)⟩
end Go.Proofs.YtamibghbkjmmeaaDoor.G
end
section
namespace Go.Proofs.YtamibghbkjmmeaaDoor.G
open Go.RowKit Go.Proofs.YtamibghbkjmmeaaDoorW.PrintWords Go.Proofs.YtamibghbkjmmeaaDoorW.PrintLast Go.Proofs.YtamibghbkjmmeaaDoorW.PrintMore
attribute [local go_sem] max2_int min2_int max_two min_two max_three min_three max_four min_four
set_option linter.unusedVariables false
set_option linter.unusedSimpArgs false
def cmp_isNaN_int.f (a0 : Int) : Option (Bool) := some (a0 != a0)
set_option maxHeartbeats 8000000 in
set_option maxRecDepth 100000 in
theorem cmp_isNaN_int.calls (a0 : Int) (r : Bool) (w : World) (h : cmp_isNaN_int.f a0 = some r) :
    Calls Tryd.prog 110 #[.int .i64 a0] w fun e w' => e = .returned (.bool r) ∧ Drawn0 w w' := by
  have H : (some (a0 != a0)) = some r := h
  clear h
  obtain rfl := Option.some.inj H
  go_enter Tryd.func110, Tryd.ntmps110
  go_wp2
  go_ret
  exact ⟨by first | rfl | (simp; done) | (simp [*]; done), by repeat (first | exact Drawn0.refl _ | apply Drawn0.step)⟩
end Go.Proofs.YtamibghbkjmmeaaDoor.G
end
section
namespace Go.Proofs.YtamibghbkjmmeaaDoor.G
open Go.RowKit Go.Proofs.YtamibghbkjmmeaaDoorW.PrintWords Go.Proofs.YtamibghbkjmmeaaDoorW.PrintLast Go.Proofs.YtamibghbkjmmeaaDoorW.PrintMore
attribute [local go_sem] max2_int min2_int max_two min_two max_three min_three max_four min_four
set_option linter.unusedVariables false
set_option linter.unusedSimpArgs false
def cmp_Compare_int.f (a0 : Int) (a1 : Int) : Option (Int) := (cmp_isNaN_int.f a0).bind fun t156 => ((cmp_isNaN_int.f a1).bind fun t157 => (if t156 = true then (if t157 = true then (some 0) else (some (-1))) else (if t157 = true then (some 1) else (if a0 < a1 then (some (-1)) else (if a0 > a1 then (some 1) else (some 0))))))
set_option maxHeartbeats 8000000 in
set_option maxRecDepth 100000 in
theorem cmp_Compare_int.calls (a0 : Int) (a1 : Int) (r : Int) (w : World) (h : cmp_Compare_int.f a0 a1 = some r) :
    Calls Tryd.prog 100 #[.int .i64 a0, .int .i64 a1] w fun e w' => e = .returned (.int .i64 r) ∧ Drawn0 w w' := by
  have H : ((cmp_isNaN_int.f a0).bind fun t156 => ((cmp_isNaN_int.f a1).bind fun t157 => (if t156 = true then (if t157 = true then (some 0) else (some (-1))) else (if t157 = true then (some 1) else (if a0 < a1 then (some (-1)) else (if a0 > a1 then (some 1) else (some 0))))))) = some r := h
  clear h
  replace H := Option.bind_eq_some_iff.mp H
  obtain ⟨t156, A30, H⟩ := H
  replace H : ((cmp_isNaN_int.f a1).bind fun t157 => (if t156 = true then (if t157 = true then (some 0) else (some (-1))) else (if t157 = true then (some 1) else (if a0 < a1 then (some (-1)) else (if a0 > a1 then (some 1) else (some 0)))))) = some r := H
  have A3 := Aside0.mk A30
  clear A30
  replace H := Option.bind_eq_some_iff.mp H
  obtain ⟨t157, A40, H⟩ := H
  replace H : (if t156 = true then (if t157 = true then (some 0) else (some (-1))) else (if t157 = true then (some 1) else (if a0 < a1 then (some (-1)) else (if a0 > a1 then (some 1) else (some 0))))) = some r := H
  have A4 := Aside0.mk A40
  clear A40
  by_cases c5 : t156 = true
  · subst c5
    have H1 : (if t157 = true then (some 0) else (some (-1))) = some r := by rw [if_pos rfl] at H; exact H
    clear H
    have H := H1
    clear H1
    by_cases c6 : t157 = true
    · subst c6
      have H1 : (some 0) = some r := by rw [if_pos rfl] at H; exact H
      clear H
      have H := H1
      clear H1
      obtain rfl := Option.some.inj H
      go_enter Tryd.func100, Tryd.ntmps100
      go_wp2_with (first | ((with_reducible refine gate_callee (f := 110) rfl ?_); refine goesL_ (some 8) rfl rfl Tryd.func110 (by kernel_rfl) rfl #[.int .i64 a0] rfl (by (try simp only [List.map_toArray, List.map_cons, List.map_nil]); first | done | rfl | (simp only [List.length_drop, List.length_take]; rfl)) ?_; (with_reducible refine (cmp_isNaN_int.calls a0 true _ A3.out).mono ?_); rintro e w' ⟨rfl, ⟨nd, rfl⟩⟩; refine ⟨_, rfl, ?_⟩) | ((with_reducible refine gate_callee (f := 110) rfl ?_); refine goesL_ (some 10) rfl rfl Tryd.func110 (by kernel_rfl) rfl #[.int .i64 a1] rfl (by (try simp only [List.map_toArray, List.map_cons, List.map_nil]); first | done | rfl | (simp only [List.length_drop, List.length_take]; rfl)) ?_; (with_reducible refine (cmp_isNaN_int.calls a1 true _ A4.out).mono ?_); rintro e w' ⟨rfl, ⟨nd, rfl⟩⟩; refine ⟨_, rfl, ?_⟩))
      go_ret
      exact ⟨by first | rfl | (simp; done) | (simp [*]; done), by repeat (first | exact Drawn0.refl _ | apply Drawn0.step)⟩
    · replace c6 := Bool.eq_false_iff.mpr c6
      subst c6
      have H1 : (some (-1)) = some r := by rw [if_neg (show ¬ (false = true) by decide)] at H; exact H
      clear H
      have H := H1
      clear H1
      obtain rfl := Option.some.inj H
      go_enter Tryd.func100, Tryd.ntmps100
      go_wp2_with (first | ((with_reducible refine gate_callee (f := 110) rfl ?_); refine goesL_ (some 8) rfl rfl Tryd.func110 (by kernel_rfl) rfl #[.int .i64 a0] rfl (by (try simp only [List.map_toArray, List.map_cons, List.map_nil]); first | done | rfl | (simp only [List.length_drop, List.length_take]; rfl)) ?_; (with_reducible refine (cmp_isNaN_int.calls a0 true _ A3.out).mono ?_); rintro e w' ⟨rfl, ⟨nd, rfl⟩⟩; refine ⟨_, rfl, ?_⟩) | ((with_reducible refine gate_callee (f := 110) rfl ?_); refine goesL_ (some 10) rfl rfl Tryd.func110 (by kernel_rfl) rfl #[.int .i64 a1] rfl (by (try simp only [List.map_toArray, List.map_cons, List.map_nil]); first | done | rfl | (simp only [List.length_drop, List.length_take]; rfl)) ?_; (with_reducible refine (cmp_isNaN_int.calls a1 false _ A4.out).mono ?_); rintro e w' ⟨rfl, ⟨nd, rfl⟩⟩; refine ⟨_, rfl, ?_⟩))
      go_ret
      exact ⟨by first | rfl | (simp; done) | (simp [*]; done), by repeat (first | exact Drawn0.refl _ | apply Drawn0.step)⟩
  · replace c5 := Bool.eq_false_iff.mpr c5
    subst c5
    have H1 : (if t157 = true then (some 1) else (if a0 < a1 then (some (-1)) else (if a0 > a1 then (some 1) else (some 0)))) = some r := by rw [if_neg (show ¬ (false = true) by decide)] at H; exact H
    clear H
    have H := H1
    clear H1
    by_cases c7 : t157 = true
    · subst c7
      have H1 : (some 1) = some r := by rw [if_pos rfl] at H; exact H
      clear H
      have H := H1
      clear H1
      obtain rfl := Option.some.inj H
      go_enter Tryd.func100, Tryd.ntmps100
      go_wp2_with (first | ((with_reducible refine gate_callee (f := 110) rfl ?_); refine goesL_ (some 8) rfl rfl Tryd.func110 (by kernel_rfl) rfl #[.int .i64 a0] rfl (by (try simp only [List.map_toArray, List.map_cons, List.map_nil]); first | done | rfl | (simp only [List.length_drop, List.length_take]; rfl)) ?_; (with_reducible refine (cmp_isNaN_int.calls a0 false _ A3.out).mono ?_); rintro e w' ⟨rfl, ⟨nd, rfl⟩⟩; refine ⟨_, rfl, ?_⟩) | ((with_reducible refine gate_callee (f := 110) rfl ?_); refine goesL_ (some 10) rfl rfl Tryd.func110 (by kernel_rfl) rfl #[.int .i64 a1] rfl (by (try simp only [List.map_toArray, List.map_cons, List.map_nil]); first | done | rfl | (simp only [List.length_drop, List.length_take]; rfl)) ?_; (with_reducible refine (cmp_isNaN_int.calls a1 true _ A4.out).mono ?_); rintro e w' ⟨rfl, ⟨nd, rfl⟩⟩; refine ⟨_, rfl, ?_⟩))
      go_ret
      exact ⟨by first | rfl | (simp; done) | (simp [*]; done), by repeat (first | exact Drawn0.refl _ | apply Drawn0.step)⟩
    · replace c7 := Bool.eq_false_iff.mpr c7
      subst c7
      have H1 : (if a0 < a1 then (some (-1)) else (if a0 > a1 then (some 1) else (some 0))) = some r := by rw [if_neg (show ¬ (false = true) by decide)] at H; exact H
      clear H
      have H := H1
      clear H1
      by_cases c8 : a0 < a1
      · rw [if_pos c8] at H
        have c8b0 : decide (a0 < a1) = true := decide_eq_true c8
        clear c8
        obtain rfl := Option.some.inj H
        go_enter Tryd.func100, Tryd.ntmps100
        go_wp2_with (first | ((with_reducible refine gate_callee (f := 110) rfl ?_); refine goesL_ (some 8) rfl rfl Tryd.func110 (by kernel_rfl) rfl #[.int .i64 a0] rfl (by (try simp only [List.map_toArray, List.map_cons, List.map_nil]); first | done | rfl | (simp only [List.length_drop, List.length_take]; rfl)) ?_; (with_reducible refine (cmp_isNaN_int.calls a0 false _ A3.out).mono ?_); rintro e w' ⟨rfl, ⟨nd, rfl⟩⟩; refine ⟨_, rfl, ?_⟩) | ((with_reducible refine gate_callee (f := 110) rfl ?_); refine goesL_ (some 10) rfl rfl Tryd.func110 (by kernel_rfl) rfl #[.int .i64 a1] rfl (by (try simp only [List.map_toArray, List.map_cons, List.map_nil]); first | done | rfl | (simp only [List.length_drop, List.length_take]; rfl)) ?_; (with_reducible refine (cmp_isNaN_int.calls a1 false _ A4.out).mono ?_); rintro e w' ⟨rfl, ⟨nd, rfl⟩⟩; refine ⟨_, rfl, ?_⟩))
        go_ret
        exact ⟨by first | rfl | (simp; done) | (simp [*]; done), by repeat (first | exact Drawn0.refl _ | apply Drawn0.step)⟩
      · rw [if_neg c8] at H
        have c8b0 : decide (a0 < a1) = false := decide_eq_false c8
        clear c8
        by_cases c9 : a0 > a1
        · rw [if_pos c9] at H
          have c9b0 : decide (a1 < a0) = true := decide_eq_true c9
          clear c9
          obtain rfl := Option.some.inj H
          go_enter Tryd.func100, Tryd.ntmps100
          go_wp2_with (first | ((with_reducible refine gate_callee (f := 110) rfl ?_); refine goesL_ (some 8) rfl rfl Tryd.func110 (by kernel_rfl) rfl #[.int .i64 a0] rfl (by (try simp only [List.map_toArray, List.map_cons, List.map_nil]); first | done | rfl | (simp only [List.length_drop, List.length_take]; rfl)) ?_; (with_reducible refine (cmp_isNaN_int.calls a0 false _ A3.out).mono ?_); rintro e w' ⟨rfl, ⟨nd, rfl⟩⟩; refine ⟨_, rfl, ?_⟩) | ((with_reducible refine gate_callee (f := 110) rfl ?_); refine goesL_ (some 10) rfl rfl Tryd.func110 (by kernel_rfl) rfl #[.int .i64 a1] rfl (by (try simp only [List.map_toArray, List.map_cons, List.map_nil]); first | done | rfl | (simp only [List.length_drop, List.length_take]; rfl)) ?_; (with_reducible refine (cmp_isNaN_int.calls a1 false _ A4.out).mono ?_); rintro e w' ⟨rfl, ⟨nd, rfl⟩⟩; refine ⟨_, rfl, ?_⟩))
          go_ret
          exact ⟨by first | rfl | (simp; done) | (simp [*]; done), by repeat (first | exact Drawn0.refl _ | apply Drawn0.step)⟩
        · rw [if_neg c9] at H
          have c9b0 : decide (a1 < a0) = false := decide_eq_false c9
          clear c9
          obtain rfl := Option.some.inj H
          go_enter Tryd.func100, Tryd.ntmps100
          go_wp2_with (first | ((with_reducible refine gate_callee (f := 110) rfl ?_); refine goesL_ (some 8) rfl rfl Tryd.func110 (by kernel_rfl) rfl #[.int .i64 a0] rfl (by (try simp only [List.map_toArray, List.map_cons, List.map_nil]); first | done | rfl | (simp only [List.length_drop, List.length_take]; rfl)) ?_; (with_reducible refine (cmp_isNaN_int.calls a0 false _ A3.out).mono ?_); rintro e w' ⟨rfl, ⟨nd, rfl⟩⟩; refine ⟨_, rfl, ?_⟩) | ((with_reducible refine gate_callee (f := 110) rfl ?_); refine goesL_ (some 10) rfl rfl Tryd.func110 (by kernel_rfl) rfl #[.int .i64 a1] rfl (by (try simp only [List.map_toArray, List.map_cons, List.map_nil]); first | done | rfl | (simp only [List.length_drop, List.length_take]; rfl)) ?_; (with_reducible refine (cmp_isNaN_int.calls a1 false _ A4.out).mono ?_); rintro e w' ⟨rfl, ⟨nd, rfl⟩⟩; refine ⟨_, rfl, ?_⟩))
          go_ret
          exact ⟨by first | rfl | (simp; done) | (simp [*]; done), by repeat (first | exact Drawn0.refl _ | apply Drawn0.step)⟩
end Go.Proofs.YtamibghbkjmmeaaDoor.G
end
section
namespace Go.Proofs.YtamibghbkjmmeaaDoor.G
open Go.RowKit Go.Proofs.YtamibghbkjmmeaaDoorW.PrintWords Go.Proofs.YtamibghbkjmmeaaDoorW.PrintLast Go.Proofs.YtamibghbkjmmeaaDoorW.PrintMore
attribute [local go_sem] max2_int min2_int max_two min_two max_three min_three max_four min_four
set_option linter.unusedVariables false
set_option linter.unusedSimpArgs false
def slices_Compare_int_int.l0 : Nat → List Int → List Int → List Int → Int → Int → Option (Int)
  | 0, _, _, _, _, _ => none
  | k + 1, x0, x1, x9, x10, x11 => if x11 < x10 then (if 0 ≤ x11 then (if x11 < (x9.length : Int) then (if x11 ≥ (x1.length : Int) then (some 1) else (if x11 < (x1.length : Int) then ((cmp_Compare_int.f (rd x9 x11) (rd x1 x11)).bind fun t160 => (if t160 = 0 then (slices_Compare_int_int.l0 k x0 x1 x9 x10 (wrap64 (x11 + 1))) else (some t160))) else (none))) else (none)) else (none)) else (if (x0.length : Int) < (x1.length : Int) then (some (-1)) else (some 0))
def slices_Compare_int_int.f (k : Nat) (l0 : List Int) (l1 : List Int) : Option (Int) := slices_Compare_int_int.l0 k l0 l1 l0 (l0.length : Int) 0
set_option maxHeartbeats 8000000 in
set_option maxRecDepth 100000 in
theorem slices_Compare_int_int.calls (k : Nat) (A0 : Option Addr) (c0 : Nat) (l0 : List Int) (A1 : Option Addr) (c1 : Nat) (l1 : List Int) (r : Int) (w : World) (hr0 : Kd.C (Kd.int .i64) w A0 l0.length l0) (hc0 : l0.length ≤ c0) (hr1 : Kd.C (Kd.int .i64) w A1 l1.length l1) (hc1 : l1.length ≤ c1) (h : slices_Compare_int_int.f k l0 l1 = some r) :
    Calls Tryd.prog 74 #[.slice A0 l0.length c0, .slice A1 l1.length c1] w fun e w' => e = .returned (.int .i64 r) ∧ Drawn0 w w' := by
  have HR0 := Aside0.mk hr0
  have HC0 := Aside0.mk hc0
  clear hr0 hc0
  have HR1 := Aside0.mk hr1
  have HC1 := Aside0.mk hc1
  clear hr1 hc1
  have H : (slices_Compare_int_int.l0 k l0 l1 l0 (l0.length : Int) 0) = some r := h
  clear h
  have H' := Aside0.mk H
  clear H
  go_enter Tryd.func74, Tryd.ntmps74
  go_wp2
  go_loopg [11] k (fun kq v11 w' => ∃ (x11_1 : Int), v11 = .int .i64 x11_1 ∧ Aside0 (slices_Compare_int_int.l0 kq l0 l1 l0 (l0.length : Int) x11_1 = some r) ∧ Aside0 (kq ≤ k) ∧ Drawn0 w w')
  case atStart => exact ⟨(0), (by first | rfl | (simp; done) | (simp [*]; done)), H', ⟨Nat.le_refl _⟩, by repeat (first | exact Drawn0.refl _ | apply Drawn0.step)⟩
  case round =>
    clear H'
    try clear c1
    try clear p2
    obtain ⟨x11_1, rfl, HA, HK1, ⟨m1, rfl⟩⟩ := hrel
    cases gk with
    | zero => exact absurd HA.out (by simp [slices_Compare_int_int.l0])
    | succ k1 =>
      have H := HA.out
      clear HA
      simp only [slices_Compare_int_int.l0] at H
      by_cases c3 : x11_1 < (l0.length : Int)
      · rw [if_pos c3] at H
        have c3b0 : decide (x11_1 < (l0.length : Int)) = true := decide_eq_true c3
        clear c3
        by_cases c4 : 0 ≤ x11_1
        · rw [if_pos c4] at H
          have c4b0 : decide (0 ≤ x11_1) = true := decide_eq_true c4
          clear c4
          by_cases c5 : x11_1 < (l0.length : Int)
          · rw [if_pos c5] at H
            have c5b0 : decide (x11_1 < (l0.length : Int)) = true := decide_eq_true c5
            clear c5
            by_cases c6 : x11_1 ≥ (l1.length : Int)
            · rw [if_pos c6] at H
              have c6b0 : decide ((l1.length : Int) ≤ x11_1) = true := decide_eq_true c6
              clear c6
              obtain rfl := Option.some.inj H
              have p158 : 0 ≤ (x11_1 : Int) := of_decide_eq_true (by first | (with_reducible assumption) | assumption)
              have q158 : x11_1 < (l0.length : Int) := of_decide_eq_true (by first | (with_reducible assumption) | assumption)
              obtain ⟨ad158, e158, hx158_0⟩ := Kd.at_int HR0.out x11_1 p158 q158
              cases e158
              replace p158 := eq_true p158
              replace q158 := eq_true q158
              go_wp2
              go_ret
              exact ⟨by first | rfl | (simp; done) | (simp [*]; done), by repeat (first | exact Drawn0.refl _ | apply Drawn0.step)⟩
            · rw [if_neg c6] at H
              have c6b0 : decide ((l1.length : Int) ≤ x11_1) = false := decide_eq_false c6
              clear c6
              by_cases c7 : x11_1 < (l1.length : Int)
              · rw [if_pos c7] at H
                have c7b0 : decide (x11_1 < (l1.length : Int)) = true := decide_eq_true c7
                clear c7
                replace H := Option.bind_eq_some_iff.mp H
                obtain ⟨t160, A80, H⟩ := H
                replace H : (if t160 = 0 then (slices_Compare_int_int.l0 k1 l0 l1 l0 (l0.length : Int) (wrap64 (x11_1 + 1))) else (some t160)) = some r := H
                have A8 := Aside0.mk A80
                clear A80
                by_cases c9 : t160 = 0
                · rw [if_pos c9] at H
                  have c9b0 : (t160 == 0) = true := beq_iff_eq.mpr c9
                  have c9b1 : (t160 != 0) = false := bne_eq_false_iff_eq.mpr c9
                  clear c9
                  have H' := Aside0.mk H
                  clear H
                  have p158 : 0 ≤ (x11_1 : Int) := of_decide_eq_true (by first | (with_reducible assumption) | assumption)
                  have q158 : x11_1 < (l0.length : Int) := of_decide_eq_true (by first | (with_reducible assumption) | assumption)
                  obtain ⟨ad158, e158, hx158_0⟩ := Kd.at_int HR0.out x11_1 p158 q158
                  cases e158
                  replace p158 := eq_true p158
                  replace q158 := eq_true q158
                  have p159 : 0 ≤ (x11_1 : Int) := of_decide_eq_true (by first | (with_reducible assumption) | assumption)
                  have q159 : x11_1 < (l1.length : Int) := of_decide_eq_true (by first | (with_reducible assumption) | assumption)
                  obtain ⟨ad159, e159, hx159_0⟩ := Kd.at_int HR1.out x11_1 p159 q159
                  cases e159
                  replace p159 := eq_true p159
                  replace q159 := eq_true q159
                  go_wp2_with (first | ((with_reducible refine gate_callee (f := 100) rfl ?_); refine goesL_ (some 26) rfl rfl Tryd.func100 (by kernel_rfl) rfl #[.int .i64 (rd l0 x11_1), .int .i64 (rd l1 x11_1)] rfl (by (try simp only [List.map_toArray, List.map_cons, List.map_nil]); first | done | rfl | (simp only [List.length_drop, List.length_take]; rfl)) ?_; (with_reducible refine (cmp_Compare_int.calls (rd l0 x11_1) (rd l1 x11_1) t160 _ A8.out).mono ?_); rintro e w' ⟨rfl, ⟨nd, rfl⟩⟩; refine ⟨_, rfl, ?_⟩))
                  go_roundg k1
                  case measure => have := HK1.out; omega
                  case rel => exact ⟨(wrap64 (x11_1 + 1)), (by first | rfl | (simp; done) | (simp [*]; done)), H', ⟨by have := HK1.out; omega⟩, by repeat (first | exact Drawn0.refl _ | apply Drawn0.step)⟩
                · rw [if_neg c9] at H
                  have c9b0 : (t160 == 0) = false := beq_eq_false_iff_ne.mpr c9
                  have c9b1 : (t160 != 0) = true := bne_iff_ne.mpr c9
                  obtain rfl := Option.some.inj H
                  have p158 : 0 ≤ (x11_1 : Int) := of_decide_eq_true (by first | (with_reducible assumption) | assumption)
                  have q158 : x11_1 < (l0.length : Int) := of_decide_eq_true (by first | (with_reducible assumption) | assumption)
                  obtain ⟨ad158, e158, hx158_0⟩ := Kd.at_int HR0.out x11_1 p158 q158
                  cases e158
                  replace p158 := eq_true p158
                  replace q158 := eq_true q158
                  have p159 : 0 ≤ (x11_1 : Int) := of_decide_eq_true (by first | (with_reducible assumption) | assumption)
                  have q159 : x11_1 < (l1.length : Int) := of_decide_eq_true (by first | (with_reducible assumption) | assumption)
                  obtain ⟨ad159, e159, hx159_0⟩ := Kd.at_int HR1.out x11_1 p159 q159
                  cases e159
                  replace p159 := eq_true p159
                  replace q159 := eq_true q159
                  go_wp2_with (first | ((with_reducible refine gate_callee (f := 100) rfl ?_); refine goesL_ (some 26) rfl rfl Tryd.func100 (by kernel_rfl) rfl #[.int .i64 (rd l0 x11_1), .int .i64 (rd l1 x11_1)] rfl (by (try simp only [List.map_toArray, List.map_cons, List.map_nil]); first | done | rfl | (simp only [List.length_drop, List.length_take]; rfl)) ?_; (with_reducible refine (cmp_Compare_int.calls (rd l0 x11_1) (rd l1 x11_1) t160 _ A8.out).mono ?_); rintro e w' ⟨rfl, ⟨nd, rfl⟩⟩; refine ⟨_, rfl, ?_⟩))
                  go_ret
                  exact ⟨by first | rfl | (simp; done) | (simp [*]; done), by repeat (first | exact Drawn0.refl _ | apply Drawn0.step)⟩
              · rw [if_neg c7] at H
                exact absurd H (by simp)
          · rw [if_neg c5] at H
            exact absurd H (by simp)
        · rw [if_neg c4] at H
          exact absurd H (by simp)
      · rw [if_neg c3] at H
        have c3b0 : decide (x11_1 < (l0.length : Int)) = false := decide_eq_false c3
        clear c3
        by_cases c10 : (l0.length : Int) < (l1.length : Int)
        · rw [if_pos c10] at H
          have c10b0 : decide ((l0.length : Int) < (l1.length : Int)) = true := decide_eq_true c10
          have c10b1 : decide (l0.length < l1.length) = true := decide_eq_true (Int.ofNat_lt.mp c10)
          clear c10
          obtain rfl := Option.some.inj H
          go_wp2
          go_ret
          exact ⟨by first | rfl | (simp; done) | (simp [*]; done), by repeat (first | exact Drawn0.refl _ | apply Drawn0.step)⟩
        · rw [if_neg c10] at H
          have c10b0 : decide ((l0.length : Int) < (l1.length : Int)) = false := decide_eq_false c10
          have c10b1 : decide (l0.length < l1.length) = false := decide_eq_false (fun h => c10 (Int.ofNat_lt.mpr h))
          clear c10
          obtain rfl := Option.some.inj H
          go_wp2
          go_ret
          exact ⟨by first | rfl | (simp; done) | (simp [*]; done), by repeat (first | exact Drawn0.refl _ | apply Drawn0.step)⟩
end Go.Proofs.YtamibghbkjmmeaaDoor.G
end
section
namespace Go.Proofs.YtamibghbkjmmeaaDoor.G
open Go.RowKit Go.Proofs.YtamibghbkjmmeaaDoorW.PrintWords Go.Proofs.YtamibghbkjmmeaaDoorW.PrintLast Go.Proofs.YtamibghbkjmmeaaDoorW.PrintMore
set_option linter.unusedVariables false
set_option linter.unusedSimpArgs false
def outB (lo hi x : Int) : Bool := decide (x < lo) || decide (hi < x)
theorem within1_any (lo hi x : Int) (b1 b2 : Nat) (w : World) (h1 : w.cell? ⟨b1, 0, none⟩ = some (.int .i64 lo)) (h2 : w.cell? ⟨b2, 0, none⟩ = some (.int .i64 hi)) :
    Calls Tryd.prog 108 #[.int .i64 x, .pointer (some ⟨b1, 0, none⟩), .pointer (some ⟨b2, 0, none⟩)] w fun e w' => e = .returned (.bool (outB lo hi x)) ∧ w' = w := by
  unfold outB
  by_cases c : x < lo
  · have c1 : decide (x < lo) = true := decide_eq_true c
    go_enter Tryd.func108, Tryd.ntmps108
    go_wp2
    go_ret
    exact ⟨by simp [c], rfl⟩
  · have c1 : decide (x < lo) = false := decide_eq_false c
    go_enter Tryd.func108, Tryd.ntmps108
    go_wp2
    go_ret
    exact ⟨by simp [c], rfl⟩
def idxB {α : Type} (p : α → Bool) : List α → Int
  | [] => -1
  | x :: xs => if p x then 0 else (if idxB p xs < 0 then -1 else idxB p xs + 1)
theorem idxB_none {α : Type} (p : α → Bool) : ∀ xs : List α, (∀ x ∈ xs, p x = false) → idxB p xs = -1
  | [], _ => rfl
  | x :: xs, h => by
    have h1 := h x List.mem_cons_self
    have h2 := idxB_none p xs (fun y hy => h y (List.mem_cons_of_mem _ hy))
    simp [idxB, h1, h2]
theorem idxB_at {α : Type} (p : α → Bool) (z : α) : ∀ (xs : List α) (k : Nat), k < xs.length → (∀ j, j < k → p (xs.getD j z) = false) → p (xs.getD k z) = true → idxB p xs = k
  | [], k, h, _, _ => by simp at h
  | x :: xs, 0, _, _, h => by
    have h' : p x = true := by simpa using h
    simp [idxB, h']
  | x :: xs, k + 1, h, h1, h2 => by
    have h0 : p x = false := by simpa using h1 0 (by omega)
    have ih := idxB_at p z xs k (by simpa using h) (fun j hj => by simpa using h1 (j + 1) (by omega)) (by simpa using h2)
    simp only [idxB, h0, Bool.false_eq_true, if_false, ih]
    rw [if_neg (by omega)]
    omega
theorem idxB_any {α : Type} (p : α → Bool) : ∀ xs : List α, decide (0 ≤ idxB p xs) = xs.any p
  | [] => rfl
  | x :: xs => by
    have ih := idxB_any p xs
    by_cases h : p x = true
    · simp [idxB, h]
    · have h' : p x = false := by simpa using h
      simp only [idxB, h', Bool.false_eq_true, if_false, List.any_cons, Bool.false_or]
      rw [← ih]
      by_cases c : idxB p xs < 0
      · rw [if_pos c, decide_eq_false (by omega), decide_eq_false (by omega)]
      · rw [if_neg c, decide_eq_true (by omega), decide_eq_true (by omega)]
theorem index125 (lo hi : Int) (b1 b2 : Nat) (A : Option Addr) (c : Nat) (xs : List Int) (w : World) (hC : Kd.C (Kd.int .i64) w A xs.length xs)
    (h1 : w.cell? ⟨b1, 0, none⟩ = some (.int .i64 lo)) (h2 : w.cell? ⟨b2, 0, none⟩ = some (.int .i64 hi)) :
    Calls Tryd.prog 125 #[.slice A xs.length c, .func (.func 108) #[] #[.pointer (some ⟨b1, 0, none⟩), .pointer (some ⟨b2, 0, none⟩)]] w fun e w' => e = .returned (.int .i64 (idxB (outB lo hi) xs)) ∧ w' = w := by
  have hm : xs.length ≤ 9223372036854775807 := hC.2.1
  have HC := Aside0.mk hC
  have H1 := Aside0.mk h1
  have H2 := Aside0.mk h2
  clear hC h1 h2
  go_enter Tryd.func125, Tryd.ntmps125
  go_wp2
  go_loop [8] (fun i => ∃ k : Nat, k ≤ xs.length ∧ i = .int .i64 k ∧ Aside0 (∀ j, j < k → outB lo hi (xs.getD j 0) = false)) (fun i => xs.length - (intOf i).toNat)
  case atStart => exact ⟨0, Nat.zero_le _, rfl, ⟨fun j hj => by omega⟩⟩
  case round =>
    obtain ⟨k, hk, rfl, HA⟩ := hrel
    by_cases hlt : k < xs.length
    · obtain ⟨ad, e, hx⟩ := Kd.at_int HC.out (k : Int) (by omega) (by omega)
      cases e
      simp only [Int.toNat_natCast] at hx
      cases hb : outB lo hi (rd xs (k : Int)) with
      | true =>
        have hfin := idxB_at (outB lo hi) 0 xs k hlt HA.out (by simpa [rd] using hb)
        have HF := Aside0.mk hfin
        have HB := Aside0.mk hb
        clear hb hfin
        go_wp2_with (go_at_call 108; refine (within1_any lo hi _ b1 b2 _ H1.out H2.out).mono ?_; rw [HB.out]; rintro e w' ⟨rfl, hw'⟩; rw [hw'])
        go_ret
        exact ⟨by rw [HF.out]; rfl, rfl⟩
      | false =>
        have HB := Aside0.mk hb
        clear hb
        go_wp2_with (go_at_call 108; refine (within1_any lo hi _ b1 b2 _ H1.out H2.out).mono ?_; rw [HB.out]; rintro e w' ⟨rfl, hw'⟩; rw [hw'])
        go_round
        case rel => exact ⟨k + 1, by omega, by go_num, ⟨fun j hj => by
          rcases Nat.lt_succ_iff_lt_or_eq.mp hj with h | h
          · exact HA.out j h
          · subst h; simpa [rd] using HB.out⟩⟩
        case measure => simp [intOf]; omega
    · have hfin := idxB_none (outB lo hi) xs (fun x hx => by
        obtain ⟨j, hj, rfl⟩ := List.mem_iff_getElem.mp hx
        have := HA.out j (by omega)
        simpa [List.getD_eq_getElem?_getD, List.getElem?_eq_getElem hj] using this)
      have HF := Aside0.mk hfin
      clear hfin
      go_wp2
      go_ret
      exact ⟨by rw [HF.out]; rfl, rfl⟩
theorem contains107 (lo hi : Int) (b1 b2 : Nat) (A : Option Addr) (c : Nat) (xs : List Int) (w : World) (hC : Kd.C (Kd.int .i64) w A xs.length xs)
    (h1 : w.cell? ⟨b1, 0, none⟩ = some (.int .i64 lo)) (h2 : w.cell? ⟨b2, 0, none⟩ = some (.int .i64 hi)) :
    Calls Tryd.prog 107 #[.slice A xs.length c, .func (.func 108) #[] #[.pointer (some ⟨b1, 0, none⟩), .pointer (some ⟨b2, 0, none⟩)]] w fun e w' => e = .returned (.bool (xs.any (outB lo hi))) ∧ w' = w := by
  have hany := idxB_any (outB lo hi) xs
  have HI := Aside0.mk (index125 lo hi b1 b2 A c xs w hC h1 h2)
  clear hC h1 h2
  generalize idxB (outB lo hi) xs = i at hany HI
  have HN := Aside0.mk hany
  clear hany
  go_enter Tryd.func107, Tryd.ntmps107
  go_wp2_with (go_at_call 125; refine HI.out.mono ?_; rintro e w' ⟨rfl, hw'⟩; rw [hw'])
  go_ret
  exact ⟨by rw [← HN.out]; rfl, rfl⟩
def guard_within.f (a0 a1 : Int) (l2 : List Int) : Option Bool := some (!(l2.any (outB a0 a1)))
theorem guard_within.calls (a0 a1 : Int) (A2 : Option Addr) (c2 : Nat) (l2 : List Int) (r : Bool) (w : World) (hr2 : Kd.C (Kd.int .i64) w A2 l2.length l2) (hc2 : l2.length ≤ c2) (h : guard_within.f a0 a1 l2 = some r) :
    Calls Tryd.prog 93 #[.int .i64 a0, .int .i64 a1, .slice A2 l2.length c2] w fun e w' => e = .returned (.bool r) ∧ Below w.heap.size w w' := by
  obtain rfl := Option.some.inj h
  clear h
  have HI := Aside0.mk (contains107 a0 a1 w.heap.size (w.heap.size + 1) A2 c2 l2 ((w.alloc (.cells #[.int .i64 a0] 3)).alloc (.cells #[.int .i64 a1] 3)) (Kd.C_below (Kd.C_below hr2 ((Below.refl _ _).alloc (Nat.le_refl _) _)) ((Below.refl _ _).alloc (Nat.le_refl _) _)) (by simp) (by simp))
  clear hr2 hc2
  generalize l2.any (outB a0 a1) = i at HI ⊢
  go_enter Tryd.func93, Tryd.ntmps93
  go_wp2_with (go_at_call 107; refine HI.out.mono ?_; rintro e w' ⟨rfl, hw'⟩; rw [hw'])
  go_ret
  exact ⟨rfl, ((Below.refl _ _).alloc (Nat.le_refl _) _).alloc (by simp) _⟩
end Go.Proofs.YtamibghbkjmmeaaDoor.G
end
section
namespace Go.Proofs.YtamibghbkjmmeaaDoor.G
open Go.RowKit Go.Proofs.YtamibghbkjmmeaaDoorW.PrintWords Go.Proofs.YtamibghbkjmmeaaDoorW.PrintLast Go.Proofs.YtamibghbkjmmeaaDoorW.PrintMore
set_option linter.unusedVariables false
set_option linter.unusedSimpArgs false
def otherB (n : Nat) (x : S24) : Bool := [(x.f1.length : Int)].any (outB 1 4) || decide ((x.f1.length : Int) ≠ (n : Int))
def noneB (x : S24) : Bool := [x.f0].any (outB 1 10000) || x.f1.any (outB 0 500)
theorem lit_reads (W : World) (xs : List Int) (hm : xs.length ≤ 9223372036854775807) : Kd.C (Kd.int .i64) (W.alloc (.cells (nums .i64 xs).toArray 3)) (some ⟨W.heap.size, 0, none⟩) xs.length xs := by
  obtain ⟨A, c, he, _, hr⟩ := Kd.R_reads (d := Kd.int .i64) (ok := fun _ => True) (Kd.R_of_own (own_lit W W.heap.size 3 .i64 xs (Nat.le_refl _) hm) (fun _ _ => trivial))
  injection he with h1 h2 h3
  rw [h1]; exact hr
theorem lit1 (W : World) (a : Int) (g : Nat) (hg : g = W.heap.size) : Kd.C (Kd.int .i64) (W.alloc (.cells #[.int .i64 a] 3)) (some ⟨g, 0, none⟩) 1 [a] := by
  subst hg
  exact lit_reads W [a] (by simp)
theorem lit2 (W : World) (a b : Int) (g : Nat) (hg : g = W.heap.size) : Kd.C (Kd.int .i64) (W.alloc (.cells #[.int .i64 a, .int .i64 b] 3)) (some ⟨g, 0, none⟩) 2 [a, b] := by
  subst hg
  exact lit_reads W [a, b] (by simp)
theorem within_one (a0 a1 x : Int) (A : Option Addr) (c : Nat) (b : Bool) (hb : [x].any (outB a0 a1) = b) (w : World) (hr : Kd.C (Kd.int .i64) w A 1 [x]) (hc : 1 ≤ c) :
    Calls Tryd.prog 93 #[.int .i64 a0, .int .i64 a1, .slice A 1 c] w fun e w' => e = .returned (.bool (!b)) ∧ Below w.heap.size w w' := by
  subst hb
  exact guard_within.calls a0 a1 A c [x] _ w hr hc rfl
theorem within_two (a0 a1 x y : Int) (A : Option Addr) (c : Nat) (b : Bool) (hb : [x, y].any (outB a0 a1) = b) (w : World) (hr : Kd.C (Kd.int .i64) w A 2 [x, y]) (hc : 2 ≤ c) :
    Calls Tryd.prog 93 #[.int .i64 a0, .int .i64 a1, .slice A 2 c] w fun e w' => e = .returned (.bool (!b)) ∧ Below w.heap.size w w' := by
  subst hb
  exact guard_within.calls a0 a1 A c [x, y] _ w hr hc rfl
theorem none94 (x : S24) (A : Option Addr) (c : Nat) (w : World) (hC : Kd.C (Kd.int .i64) w A x.f1.length x.f1) (hc : x.f1.length ≤ c) :
    Calls Tryd.prog 94 #[.agg #[.int .i64 x.f0, .slice A x.f1.length c]] w fun e w' => e = .returned (.bool (noneB x)) ∧ Below w.heap.size w w' := by
  unfold noneB
  have HC := Aside0.mk hC
  have HD := Aside0.mk hc
  clear hC hc
  have HL := Aside0.mk (lit1 (w.alloc (.cells #[.int .i64 x.f0, .slice A x.f1.length c] 24)) x.f0 (w.heap.size + 1) (by simp))
  have HB := Aside0.mk (Below.refl w.heap.size w)
  cases h1 : [x.f0].any (outB 1 10000) with
  | true =>
    have H1 := Aside0.mk h1
    clear h1
    go_enter Tryd.func94, Tryd.ntmps94
    go_wp2_with (fail)
    refine (within_one 1 10000 x.f0 _ 1 true H1.out _ HL.out (by simp)).mono ?_
    rintro e w1 ⟨rfl, hb⟩
    have HB1 := Aside0.mk (below_step (by repeat (first | exact HB.out | apply below_alloc)) hb)
    clear hb
    go_wp2
    go_ret
    exact ⟨by simp, HB1.out⟩
  | false =>
    have H1 := Aside0.mk h1
    clear h1
    go_enter Tryd.func94, Tryd.ntmps94
    go_wp2_with (fail)
    refine (within_one 1 10000 x.f0 _ 1 false H1.out _ HL.out (by simp)).mono ?_
    rintro e w1 ⟨rfl, hb⟩
    have hx0 : w1.cell? ⟨w.heap.size, 1, none⟩ = some (.slice A x.f1.length c) := pw_cell_below hb (by simp)
    have HB1 := Aside0.mk (below_step (by repeat (first | exact HB.out | apply below_alloc)) hb)
    clear hb
    go_wp2_with (fail)
    refine (guard_within.calls 0 500 A c x.f1 (!(x.f1.any (outB 0 500))) _ (Kd.C_below HC.out HB1.out) HD.out rfl).mono ?_
    rintro e w2 ⟨rfl, hb2⟩
    have HB2 := Aside0.mk (below_step HB1.out hb2)
    clear hb2
    go_wp2
    go_ret
    exact ⟨by simp, HB2.out⟩
set_option maxHeartbeats 4000000 in
set_option maxRecDepth 100000 in
theorem other92 (x x0 : S24) (A : Option Addr) (c : Nat) (B : Nat) (ad : Addr) (n cl : Nat) (A0 : Option Addr) (c0 : Nat) (w : World)
    (hB : w.cell? ⟨B, 0, none⟩ = some (.slice (some ad) n cl)) (hn : 0 < n) (h1 : w.cell? ⟨ad.block, ad.off + 1, none⟩ = some (.slice A0 x0.f1.length c0)) :
    Calls Tryd.prog 92 #[.agg #[.int .i64 x.f0, .slice A x.f1.length c], .pointer (some ⟨B, 0, none⟩)] w fun e w' => e = .returned (.bool (otherB x0.f1.length x)) ∧ Below w.heap.size w w' := by
  unfold otherB
  have HB := Aside0.mk (Below.refl w.heap.size w)
  have HL := Aside0.mk (Kd.C_drew (lit1 (w.alloc (.cells #[.int .i64 x.f0, .slice A x.f1.length c] 24)) (x.f1.length : Int) (w.heap.size + 1) (by simp)))
  have hd1 := pw_cell_below (w1 := (w.alloc (.cells #[.int .i64 x.f0, .slice A x.f1.length c] 24)).drew) (by repeat (first | exact HB.out | apply below_alloc | apply below_drew1)) hB
  have hd2 := pw_cell_below (w1 := (w.alloc (.cells #[.int .i64 x.f0, .slice A x.f1.length c] 24)).drew) (by repeat (first | exact HB.out | apply below_alloc | apply below_drew1)) h1
  cases h2 : [(x.f1.length : Int)].any (outB 1 4) with
  | true =>
    have H1 := Aside0.mk h2
    clear h2
    go_enter Tryd.func92, Tryd.ntmps92
    go_wp2_with (fail)
    refine start_ (n := 18) (S := fun w' => w'.cell? ⟨w.heap.size, 1, none⟩ = some (.slice A x.f1.length c) ∧ w'.cell? ⟨B, 0, none⟩ = some (.slice (some ad) n cl) ∧ w'.cell? ⟨ad.block, ad.off + 1, none⟩ = some (.slice A0 x0.f1.length c0)) (ds := []) (bl 18 0) (by kernel_rfl) rfl rfl ⟨by simp, hd1, hd2⟩ (fun hHeld => ?_)
    refine pS 0 4 (bl 18 1) ?_
    refine tS 1 5 (bl 18 3) hHeld ?_
    refine pS 2 6 (bl 18 7) ?_
    refine one_ (i := 3) (N := some 7) (bl 18 15) rfl rfl (by kernel_rfl) (by decide) (fun K hK => ?_)
    refine vS ?_
    refine hK.out _ _ ⟨by simp, pw_cell_below (by repeat (first | exact HB.out | assumption | apply below_alloc | apply pw_below_drewN | apply below_drew1)) hB, pw_cell_below (by repeat (first | exact HB.out | assumption | apply below_alloc | apply pw_below_drewN | apply below_drew1)) h1⟩ (fun hHeld => ?_)
    clear hK K
    refine nS 7 ?_
    refine one_ (i := 4) (N := some 8) (bl 18 31) rfl rfl (by kernel_rfl) (by decide) (fun K hK => ?_)
    refine goes_ Tryd.func93 (by kernel_rfl) rfl #[.int .i64 1, .int .i64 4, .slice (some ⟨w.heap.size + 1, 0, none⟩) 1 1] (by rfl) rfl rfl (by simp only [List.map_toArray, List.map_cons, List.map_nil]; rfl) ?_
    with_reducible refine (within_one 1 4 (x.f1.length : Int) (some ⟨w.heap.size + 1, 0, none⟩) 1 true H1.out _ HL.out (by decide)).mono ?_
    rintro e w3 ⟨rfl, hb⟩
    refine ⟨_, rfl, ?_⟩
    have hq4 : Below w.heap.size w w3 := below_step (by repeat (first | exact HB.out | assumption | apply below_alloc | apply pw_below_drewN | apply below_drew1)) hb
    refine hK.out _ _ ⟨pw_cell_below hb (by simp), pw_cell_below hq4 hB, pw_cell_below hq4 h1⟩ (fun hHeld => ?_)
    clear hK K
    refine nS 8 ?_
    refine pS 5 9 (bl 18 63) ?_
    refine pS 6 10 (bl 18 127) ?_
    refine uS 7 11 (bl 18 255) ?_
    refine uS 8 12 (bl 18 511) ?_
    refine uS 9 13 (bl 18 1023) ?_
    refine uS 10 14 (bl 18 2047) ?_
    refine uS 11 15 (bl 18 4095) ?_
    refine uS 12 16 (bl 18 8191) ?_
    refine uS 13 17 (bl 18 16383) ?_
    refine uS 14 18 (bl 18 32767) ?_
    refine uS 15 19 (bl 18 65535) ?_
    refine pS 16 20 (bl 18 131071) ?_
    refine pS 17 3 (bl 18 262143) ?_
    refine done_ (by kernel_rfl) ?_
    go_wp2
    go_ret
    exact ⟨by simp, hq4⟩
  | false =>
    have H1 := Aside0.mk h2
    clear h2
    go_enter Tryd.func92, Tryd.ntmps92
    go_wp2_with (fail)
    refine start_ (n := 18) (S := fun w' => w'.cell? ⟨w.heap.size, 1, none⟩ = some (.slice A x.f1.length c) ∧ w'.cell? ⟨B, 0, none⟩ = some (.slice (some ad) n cl) ∧ w'.cell? ⟨ad.block, ad.off + 1, none⟩ = some (.slice A0 x0.f1.length c0)) (ds := []) (bl 18 0) (by kernel_rfl) rfl rfl ⟨by simp, hd1, hd2⟩ (fun hHeld => ?_)
    refine pS 0 4 (bl 18 1) ?_
    refine tS 1 5 (bl 18 3) hHeld ?_
    refine pS 2 6 (bl 18 7) ?_
    refine one_ (i := 3) (N := some 7) (bl 18 15) rfl rfl (by kernel_rfl) (by decide) (fun K hK => ?_)
    refine vS ?_
    refine hK.out _ _ ⟨by simp, pw_cell_below (by repeat (first | exact HB.out | assumption | apply below_alloc | apply pw_below_drewN | apply below_drew1)) hB, pw_cell_below (by repeat (first | exact HB.out | assumption | apply below_alloc | apply pw_below_drewN | apply below_drew1)) h1⟩ (fun hHeld => ?_)
    clear hK K
    refine nS 7 ?_
    refine one_ (i := 4) (N := some 8) (bl 18 31) rfl rfl (by kernel_rfl) (by decide) (fun K hK => ?_)
    refine goes_ Tryd.func93 (by kernel_rfl) rfl #[.int .i64 1, .int .i64 4, .slice (some ⟨w.heap.size + 1, 0, none⟩) 1 1] (by rfl) rfl rfl (by simp only [List.map_toArray, List.map_cons, List.map_nil]; rfl) ?_
    with_reducible refine (within_one 1 4 (x.f1.length : Int) (some ⟨w.heap.size + 1, 0, none⟩) 1 false H1.out _ HL.out (by decide)).mono ?_
    rintro e w3 ⟨rfl, hb⟩
    refine ⟨_, rfl, ?_⟩
    have hq4 : Below w.heap.size w w3 := below_step (by repeat (first | exact HB.out | assumption | apply below_alloc | apply pw_below_drewN | apply below_drew1)) hb
    refine hK.out _ _ ⟨pw_cell_below hb (by simp), pw_cell_below hq4 hB, pw_cell_below hq4 h1⟩ (fun hHeld => ?_)
    clear hK K
    refine nS 8 ?_
    refine pS 5 9 (bl 18 63) ?_
    refine pS 6 10 (bl 18 127) ?_
    refine pS 7 11 (bl 18 255) ?_
    refine tS 8 12 (bl 18 511) hHeld ?_
    refine pS 9 13 (bl 18 1023) ?_
    refine tS 10 14 (bl 18 2047) hHeld ?_
    refine pS 11 15 (bl 18 4095) ?_
    refine pS 12 16 (bl 18 8191) ?_
    refine tS 13 17 (bl 18 16383) hHeld ?_
    refine pS 14 18 (bl 18 32767) ?_
    refine pS 15 19 (bl 18 65535) ?_
    refine pS 16 20 (bl 18 131071) ?_
    refine pS 17 3 (bl 18 262143) ?_
    refine done_ (by kernel_rfl) ?_
    go_wp2
    go_ret
    refine ⟨?_, hq4⟩
    by_cases hq : x.f1.length = x0.f1.length
    · simp [hq]
    · have hz : ((x.f1.length : Int) != (x0.f1.length : Int)) = true := by rw [bne_iff_ne]; omega
      have hy : ¬ ((x.f1.length : Int) = (x0.f1.length : Int)) := by omega
      simp only [Bool.false_or, hz, decide_eq_true hy]
      rfl
end Go.Proofs.YtamibghbkjmmeaaDoor.G
end
section
namespace Go.Proofs.YtamibghbkjmmeaaDoor.G
open Go.RowKit Go.Proofs.YtamibghbkjmmeaaDoorW.PrintWords Go.Proofs.YtamibghbkjmmeaaDoorW.PrintLast Go.Proofs.YtamibghbkjmmeaaDoorW.PrintMore
set_option linter.unusedVariables false
set_option linter.unusedSimpArgs false
theorem index109n (l : List S24) (A : Option Addr) (c : Nat) (w : World) (hC : Kd.C k24 w A l.length l) :
    Calls Tryd.prog 109 #[.slice A l.length c, .func (.func 94) #[] #[]] w fun e w' => e = .returned (.int .i64 (idxB noneB l)) ∧ Below w.heap.size w w' := by
  have hm : l.length ≤ 9223372036854775807 := hC.2.1
  have HC := Aside0.mk hC
  clear hC
  go_enter Tryd.func109, Tryd.ntmps109
  go_wp2
  go_loopw [8] (fun i wr => ∃ k : Nat, k ≤ l.length ∧ i = .int .i64 k ∧ Aside0 (∀ j, j < k → noneB (l.getD j z24) = false) ∧ Aside0 (Below w.heap.size w wr)) (fun i _ => l.length - (intOf i).toNat)
  case atStart => exact ⟨0, Nat.zero_le _, rfl, ⟨fun j hj => by omega⟩, ⟨Below.refl _ _⟩⟩
  case round =>
    obtain ⟨k, hk, rfl, HA, HB⟩ := hrel
    by_cases hlt : k < l.length
    · obtain ⟨ad, A1, c1, e, hx0, hx1, hl1, hg1⟩ := at_T24 (Kd.C_below HC.out HB.out) (k : Int) (by omega) (by omega)
      cases e
      simp only [Int.toNat_natCast] at hx0 hx1
      have HG1 := Aside0.mk hg1
      have HL1 := Aside0.mk hl1
      clear hg1 hl1
      cases hb : noneB (rd_T24 l (k : Int)) with
      | true =>
        have HF := Aside0.mk (idxB_at noneB z24 l k hlt HA.out (by simpa [rd_T24] using hb))
        have HP := Aside0.mk hb
        clear hb
        go_wp2_with (go_at_call 94; refine (none94 (rd_T24 l (k : Int)) A1 c1 _ HG1.out HL1.out).mono ?_; rw [HP.out]; rintro e w' ⟨rfl, hb1⟩; have HB1 := Aside0.mk (below_step HB.out hb1); clear hb1)
        go_ret
        exact ⟨by rw [HF.out]; rfl, HB1.out⟩
      | false =>
        have HP := Aside0.mk hb
        clear hb
        go_wp2_with (go_at_call 94; refine (none94 (rd_T24 l (k : Int)) A1 c1 _ HG1.out HL1.out).mono ?_; rw [HP.out]; rintro e w' ⟨rfl, hb1⟩; have HB1 := Aside0.mk (below_step HB.out hb1); clear hb1)
        go_roundw
        case rel => exact ⟨k + 1, by omega, by go_num, ⟨fun j hj => by
          rcases Nat.lt_succ_iff_lt_or_eq.mp hj with h | h
          · exact HA.out j h
          · subst h; simpa [rd_T24] using HP.out⟩, HB1⟩
        case measure => simp [intOf]; omega
    · have HF := Aside0.mk (idxB_none noneB l (fun x hx => by
        obtain ⟨j, hj, rfl⟩ := List.mem_iff_getElem.mp hx
        have := HA.out j (by omega)
        simpa [List.getD_eq_getElem?_getD, List.getElem?_eq_getElem hj] using this))
      go_wp2
      go_ret
      exact ⟨by rw [HF.out]; rfl, HB.out⟩
theorem contains95n (l : List S24) (A : Option Addr) (c : Nat) (w : World) (hC : Kd.C k24 w A l.length l) :
    Calls Tryd.prog 95 #[.slice A l.length c, .func (.func 94) #[] #[]] w fun e w' => e = .returned (.bool (l.any noneB)) ∧ Below w.heap.size w w' := by
  have hany := idxB_any noneB l
  have HI := Aside0.mk (index109n l A c w hC)
  clear hC
  generalize idxB noneB l = i at hany HI
  have HN := Aside0.mk hany
  clear hany
  go_enter Tryd.func95, Tryd.ntmps95
  go_wp2_with (go_at_call 109; refine HI.out.mono ?_; rintro e w' ⟨rfl, hb1⟩; have HB1 := Aside0.mk hb1; clear hb1)
  go_ret
  exact ⟨by rw [← HN.out]; rfl, HB1.out⟩
theorem index109o (l : List S24) (B cl : Nat) (A : Option Addr) (c : Nat) (w : World) (hC : Kd.C k24 w A l.length l) (h0 : 0 < l.length) (hQ : w.cell? ⟨B, 0, none⟩ = some (.slice A l.length cl)) :
    Calls Tryd.prog 109 #[.slice A l.length c, .func (.func 92) #[] #[.pointer (some ⟨B, 0, none⟩)]] w fun e w' => e = .returned (.int .i64 (idxB (otherB (rd_T24 l 0).f1.length) l)) ∧ Below w.heap.size w w' := by
  have hm : l.length ≤ 9223372036854775807 := hC.2.1
  have HC := Aside0.mk hC
  clear hC
  obtain ⟨adl, Al0, cl0, e0, hy0, hy1, _, _⟩ := at_T24 HC.out (0 : Int) (by omega) (by omega)
  have HY := Aside0.mk (show w.cell? ⟨adl.block, adl.off + 1, none⟩ = _ by simpa [Addr.add] using hy1)
  cases e0
  clear hy0 hy1
  have HQ := Aside0.mk hQ
  clear hQ
  go_enter Tryd.func109, Tryd.ntmps109
  go_wp2
  go_loopw [8] (fun i wr => ∃ k : Nat, k ≤ l.length ∧ i = .int .i64 k ∧ Aside0 (∀ j, j < k → (otherB (rd_T24 l 0).f1.length) (l.getD j z24) = false) ∧ Aside0 (Below w.heap.size w wr)) (fun i _ => l.length - (intOf i).toNat)
  case atStart => exact ⟨0, Nat.zero_le _, rfl, ⟨fun j hj => by omega⟩, ⟨Below.refl _ _⟩⟩
  case round =>
    obtain ⟨k, hk, rfl, HA, HB⟩ := hrel
    by_cases hlt : k < l.length
    · obtain ⟨ad, A1, c1, e, hx0, hx1, hl1, hg1⟩ := at_T24 (Kd.C_below HC.out HB.out) (k : Int) (by omega) (by omega)
      cases e
      simp only [Int.toNat_natCast] at hx0 hx1
      have HG1 := Aside0.mk hg1
      have HL1 := Aside0.mk hl1
      clear hg1 hl1
      cases hb : (otherB (rd_T24 l 0).f1.length) (rd_T24 l (k : Int)) with
      | true =>
        have HF := Aside0.mk (idxB_at (otherB (rd_T24 l 0).f1.length) z24 l k hlt HA.out (by simpa [rd_T24] using hb))
        have HP := Aside0.mk hb
        clear hb
        go_wp2_with (go_at_call 92; refine (other92 (rd_T24 l (k : Int)) (rd_T24 l 0) A1 c1 B adl l.length cl Al0 cl0 _ (pw_cell_below HB.out HQ.out) h0 (pw_cell_below HB.out HY.out)).mono ?_; rw [HP.out]; rintro e w' ⟨rfl, hb1⟩; have HB1 := Aside0.mk (below_step HB.out hb1); clear hb1)
        go_ret
        exact ⟨by rw [HF.out]; rfl, HB1.out⟩
      | false =>
        have HP := Aside0.mk hb
        clear hb
        go_wp2_with (go_at_call 92; refine (other92 (rd_T24 l (k : Int)) (rd_T24 l 0) A1 c1 B adl l.length cl Al0 cl0 _ (pw_cell_below HB.out HQ.out) h0 (pw_cell_below HB.out HY.out)).mono ?_; rw [HP.out]; rintro e w' ⟨rfl, hb1⟩; have HB1 := Aside0.mk (below_step HB.out hb1); clear hb1)
        go_roundw
        case rel => exact ⟨k + 1, by omega, by go_num, ⟨fun j hj => by
          rcases Nat.lt_succ_iff_lt_or_eq.mp hj with h | h
          · exact HA.out j h
          · subst h; simpa [rd_T24] using HP.out⟩, HB1⟩
        case measure => simp [intOf]; omega
    · have HF := Aside0.mk (idxB_none (otherB (rd_T24 l 0).f1.length) l (fun x hx => by
        obtain ⟨j, hj, rfl⟩ := List.mem_iff_getElem.mp hx
        have := HA.out j (by omega)
        simpa [List.getD_eq_getElem?_getD, List.getElem?_eq_getElem hj] using this))
      go_wp2
      go_ret
      exact ⟨by rw [HF.out]; rfl, HB.out⟩
theorem contains95o (l : List S24) (B cl : Nat) (A : Option Addr) (c : Nat) (w : World) (hC : Kd.C k24 w A l.length l) (h0 : 0 < l.length) (hQ : w.cell? ⟨B, 0, none⟩ = some (.slice A l.length cl)) :
    Calls Tryd.prog 95 #[.slice A l.length c, .func (.func 92) #[] #[.pointer (some ⟨B, 0, none⟩)]] w fun e w' => e = .returned (.bool (l.any (otherB (rd_T24 l 0).f1.length))) ∧ Below w.heap.size w w' := by
  have hany := idxB_any (otherB (rd_T24 l 0).f1.length) l
  have HI := Aside0.mk (index109o l B cl A c w hC h0 hQ)
  clear hC
  clear hQ
  generalize idxB (otherB (rd_T24 l 0).f1.length) l = i at hany HI
  have HN := Aside0.mk hany
  clear hany
  go_enter Tryd.func95, Tryd.ntmps95
  go_wp2_with (go_at_call 109; refine HI.out.mono ?_; rintro e w' ⟨rfl, hb1⟩; have HB1 := Aside0.mk hb1; clear hb1)
  go_ret
  exact ⟨by rw [← HN.out]; rfl, HB1.out⟩
theorem contains95e (B : Nat) (A : Option Addr) (c : Nat) (w : World) :
    Calls Tryd.prog 95 #[.slice A 0 c, .func (.func 92) #[] #[.pointer (some ⟨B, 0, none⟩)]] w fun e w' => e = .returned (.bool false) ∧ Below w.heap.size w w' := by
  have HI : Aside0 (Calls Tryd.prog 109 #[.slice A 0 c, .func (.func 92) #[] #[.pointer (some ⟨B, 0, none⟩)]] w fun e w' => e = .returned (.int .i64 (-1)) ∧ w' = w) := by
    refine ⟨?_⟩
    go_enter Tryd.func109, Tryd.ntmps109
    go_wp2
    refine wp_loop_rounds 1 ?_
    rw [rounds_succ]
    go_wp2
    go_ret
    exact ⟨rfl, rfl⟩
  go_enter Tryd.func95, Tryd.ntmps95
  go_wp2_with (go_at_call 109; refine HI.out.mono ?_; rintro e w' ⟨rfl, hw⟩; rw [hw])
  go_ret
  exact ⟨rfl, Below.refl _ _⟩
end Go.Proofs.YtamibghbkjmmeaaDoor.G
end
section
namespace Go.Proofs.YtamibghbkjmmeaaDoor.G
open Go.RowKit Go.Proofs.YtamibghbkjmmeaaDoorW.PrintWords Go.Proofs.YtamibghbkjmmeaaDoorW.PrintLast Go.Proofs.YtamibghbkjmmeaaDoorW.PrintMore
set_option linter.unusedVariables false
set_option linter.unusedSimpArgs false
def gaugeB (g0 g1 g2 g3 : Int) : Bool := [g0, g1].any (outB 0 100) || [g2].any (outB 0 10000) || [g3].any (outB 0 500)
def checkAllS (g0 g1 g2 g3 : Int) (l : List S24) : Int :=
  if l.any (otherB (rd_T24 l 0).f1.length) then 4 else if l.any noneB then 2 else if gaugeB g0 g1 g2 g3 then 3 else 0
def guard_checkAll.f (g0 g1 g2 g3 : Int) (l : List S24) : Option Int := some (checkAllS g0 g1 g2 g3 l)
theorem contains95 (l : List S24) (B cl : Nat) (A : Option Addr) (c : Nat) (b : Bool) (hb : l.any (otherB (rd_T24 l 0).f1.length) = b) (w : World) (hC : Kd.C k24 w A l.length l) (hQ : w.cell? ⟨B, 0, none⟩ = some (.slice A l.length cl)) :
    Calls Tryd.prog 95 #[.slice A l.length c, .func (.func 92) #[] #[.pointer (some ⟨B, 0, none⟩)]] w fun e w' => e = .returned (.bool b) ∧ Below w.heap.size w w' := by
  subst hb
  rcases Nat.eq_zero_or_pos l.length with h0 | h0
  · obtain rfl : l = [] := List.eq_nil_of_length_eq_zero h0
    exact contains95e B A c w
  · exact contains95o l B cl A c w hC h0 hQ
theorem contains95m (l : List S24) (A : Option Addr) (c : Nat) (b : Bool) (hb : l.any noneB = b) (w : World) (hC : Kd.C k24 w A l.length l) :
    Calls Tryd.prog 95 #[.slice A l.length c, .func (.func 94) #[] #[]] w fun e w' => e = .returned (.bool b) ∧ Below w.heap.size w w' := by
  subst hb
  exact contains95n l A c w hC
set_option maxHeartbeats 4000000 in
set_option maxRecDepth 100000 in
theorem guard_checkAll.calls (a0_0 a0_1 a0_2 a0_3 : Int) (A1 : Option Addr) (c1 : Nat) (l1 : List S24) (r : Int) (w : World) (hr1 : Kd.C k24 w A1 l1.length l1) (hc1 : l1.length ≤ c1) (h : guard_checkAll.f a0_0 a0_1 a0_2 a0_3 l1 = some r) :
    Calls Tryd.prog 62 #[.agg #[.int .i64 a0_0, .int .i64 a0_1, .int .i64 a0_2, .int .i64 a0_3], .slice A1 l1.length c1] w fun e w' => e = .returned (.int .i64 r) ∧ Below w.heap.size w w' := by
  obtain rfl := Option.some.inj h
  clear h
  unfold checkAllS gaugeB
  have HC := Aside0.mk hr1
  clear hr1 hc1
  have HB := Aside0.mk (Below.refl w.heap.size w)
  have KG := Aside0.mk (show ((w.alloc (.cells #[.int .i64 a0_0, .int .i64 a0_1, .int .i64 a0_2, .int .i64 a0_3] 26)).alloc (.cells #[.slice A1 l1.length c1] 28)).heap[w.heap.size]? = some (.cells #[.int .i64 a0_0, .int .i64 a0_1, .int .i64 a0_2, .int .i64 a0_3] 26) from blk_alloc (blk_new _ _) _)
  have KL := Aside0.mk (show ((w.alloc (.cells #[.int .i64 a0_0, .int .i64 a0_1, .int .i64 a0_2, .int .i64 a0_3] 26)).alloc (.cells #[.slice A1 l1.length c1] 28)).heap[w.heap.size + 1]? = some (.cells #[.slice A1 l1.length c1] 28) from by have := blk_new (w.alloc (.cells #[.int .i64 a0_0, .int .i64 a0_1, .int .i64 a0_2, .int .i64 a0_3] 26)) (.cells #[.slice A1 l1.length c1] 28); simpa using this)
  obtain ⟨b1, e1⟩ : ∃ b, l1.any (otherB (rd_T24 l1 0).f1.length) = b := ⟨_, rfl⟩
  obtain ⟨b2, e2⟩ : ∃ b, l1.any noneB = b := ⟨_, rfl⟩
  obtain ⟨b3, e3⟩ : ∃ b, [a0_0, a0_1].any (outB 0 100) = b := ⟨_, rfl⟩
  obtain ⟨b4, e4⟩ : ∃ b, [a0_2].any (outB 0 10000) = b := ⟨_, rfl⟩
  obtain ⟨b5, e5⟩ : ∃ b, [a0_3].any (outB 0 500) = b := ⟨_, rfl⟩
  have C1 := Aside0.mk (fun (W : World) (h1 : Kd.C k24 W A1 l1.length l1) (h2 : W.cell? ⟨w.heap.size + 1, 0, none⟩ = some (.slice A1 l1.length c1)) => contains95 l1 (w.heap.size + 1) c1 A1 c1 b1 e1 W h1 h2)
  have C2 := Aside0.mk (fun (W : World) (h1 : Kd.C k24 W A1 l1.length l1) => contains95m l1 A1 c1 b2 e2 W h1)
  have C3 := Aside0.mk (fun (W : World) (A : Option Addr) h1 => within_two 0 100 a0_0 a0_1 A 2 b3 e3 W h1 (Nat.le_refl _))
  have C4 := Aside0.mk (fun (W : World) (A : Option Addr) h1 => within_one 0 10000 a0_2 A 1 b4 e4 W h1 (Nat.le_refl _))
  have C5 := Aside0.mk (fun (W : World) (A : Option Addr) h1 => within_one 0 500 a0_3 A 1 b5 e5 W h1 (Nat.le_refl _))
  rw [e1, e2, e3, e4, e5]
  clear e1 e2 e3 e4 e5
  go_enter Tryd.func62, Tryd.ntmps62
  go_wp2_with (fail)
  refine (C1.out _ (Kd.C_below HC.out (by repeat (first | exact HB.out | apply below_alloc))) ((blk_cell KL.out 0).trans rfl)).mono ?_
  cases b1 with
  | true =>
    rintro e w1 ⟨rfl, hb⟩
    replace KG := Aside0.mk (show w1.heap[w.heap.size]? = some (.cells #[.int .i64 a0_0, .int .i64 a0_1, .int .i64 a0_2, .int .i64 a0_3] 26) from blk_below (by repeat (first | exact KG.out | refine blk_alloc ?_ _)) hb)
    replace KL := Aside0.mk (show w1.heap[w.heap.size + 1]? = some (.cells #[.slice A1 l1.length c1] 28) from blk_below (by repeat (first | exact KL.out | refine blk_alloc ?_ _)) hb)
    replace HB := Aside0.mk (below_step (by repeat (first | exact HB.out | apply below_alloc)) hb)
    clear hb
    have hg0 : w1.cell? ⟨w.heap.size, 0, none⟩ = some (.int .i64 a0_0) := (blk_cell KG.out 0).trans rfl
    have hg1 : w1.cell? ⟨w.heap.size, 1, none⟩ = some (.int .i64 a0_1) := (blk_cell KG.out 1).trans rfl
    have hg2 : w1.cell? ⟨w.heap.size, 2, none⟩ = some (.int .i64 a0_2) := (blk_cell KG.out 2).trans rfl
    have hg3 : w1.cell? ⟨w.heap.size, 3, none⟩ = some (.int .i64 a0_3) := (blk_cell KG.out 3).trans rfl
    have hl0 : w1.cell? ⟨w.heap.size + 1, 0, none⟩ = some (.slice A1 l1.length c1) := (blk_cell KL.out 0).trans rfl
    go_wp2
    go_ret
    exact ⟨rfl, HB.out⟩
  | false =>
    rintro e w1 ⟨rfl, hb⟩
    replace KG := Aside0.mk (show w1.heap[w.heap.size]? = some (.cells #[.int .i64 a0_0, .int .i64 a0_1, .int .i64 a0_2, .int .i64 a0_3] 26) from blk_below (by repeat (first | exact KG.out | refine blk_alloc ?_ _)) hb)
    replace KL := Aside0.mk (show w1.heap[w.heap.size + 1]? = some (.cells #[.slice A1 l1.length c1] 28) from blk_below (by repeat (first | exact KL.out | refine blk_alloc ?_ _)) hb)
    replace HB := Aside0.mk (below_step (by repeat (first | exact HB.out | apply below_alloc)) hb)
    clear hb
    have hg0 : w1.cell? ⟨w.heap.size, 0, none⟩ = some (.int .i64 a0_0) := (blk_cell KG.out 0).trans rfl
    have hg1 : w1.cell? ⟨w.heap.size, 1, none⟩ = some (.int .i64 a0_1) := (blk_cell KG.out 1).trans rfl
    have hg2 : w1.cell? ⟨w.heap.size, 2, none⟩ = some (.int .i64 a0_2) := (blk_cell KG.out 2).trans rfl
    have hg3 : w1.cell? ⟨w.heap.size, 3, none⟩ = some (.int .i64 a0_3) := (blk_cell KG.out 3).trans rfl
    have hl0 : w1.cell? ⟨w.heap.size + 1, 0, none⟩ = some (.slice A1 l1.length c1) := (blk_cell KL.out 0).trans rfl
    go_wp2_with (fail)
    refine (C2.out _ (Kd.C_below HC.out HB.out)).mono ?_
    clear hg0 hg1 hg2 hg3 hl0
    cases b2 with
    | true =>
    rintro e w2 ⟨rfl, hb⟩
    replace KG := Aside0.mk (show w2.heap[w.heap.size]? = some (.cells #[.int .i64 a0_0, .int .i64 a0_1, .int .i64 a0_2, .int .i64 a0_3] 26) from blk_below (by repeat (first | exact KG.out | refine blk_alloc ?_ _)) hb)
    replace KL := Aside0.mk (show w2.heap[w.heap.size + 1]? = some (.cells #[.slice A1 l1.length c1] 28) from blk_below (by repeat (first | exact KL.out | refine blk_alloc ?_ _)) hb)
    replace HB := Aside0.mk (below_step (by repeat (first | exact HB.out | apply below_alloc)) hb)
    clear hb
    have hg0 : w2.cell? ⟨w.heap.size, 0, none⟩ = some (.int .i64 a0_0) := (blk_cell KG.out 0).trans rfl
    have hg1 : w2.cell? ⟨w.heap.size, 1, none⟩ = some (.int .i64 a0_1) := (blk_cell KG.out 1).trans rfl
    have hg2 : w2.cell? ⟨w.heap.size, 2, none⟩ = some (.int .i64 a0_2) := (blk_cell KG.out 2).trans rfl
    have hg3 : w2.cell? ⟨w.heap.size, 3, none⟩ = some (.int .i64 a0_3) := (blk_cell KG.out 3).trans rfl
    have hl0 : w2.cell? ⟨w.heap.size + 1, 0, none⟩ = some (.slice A1 l1.length c1) := (blk_cell KL.out 0).trans rfl
    go_wp2
    go_ret
    exact ⟨rfl, HB.out⟩
    | false =>
    rintro e w2 ⟨rfl, hb⟩
    replace KG := Aside0.mk (show w2.heap[w.heap.size]? = some (.cells #[.int .i64 a0_0, .int .i64 a0_1, .int .i64 a0_2, .int .i64 a0_3] 26) from blk_below (by repeat (first | exact KG.out | refine blk_alloc ?_ _)) hb)
    replace KL := Aside0.mk (show w2.heap[w.heap.size + 1]? = some (.cells #[.slice A1 l1.length c1] 28) from blk_below (by repeat (first | exact KL.out | refine blk_alloc ?_ _)) hb)
    replace HB := Aside0.mk (below_step (by repeat (first | exact HB.out | apply below_alloc)) hb)
    clear hb
    have hg0 : w2.cell? ⟨w.heap.size, 0, none⟩ = some (.int .i64 a0_0) := (blk_cell KG.out 0).trans rfl
    have hg1 : w2.cell? ⟨w.heap.size, 1, none⟩ = some (.int .i64 a0_1) := (blk_cell KG.out 1).trans rfl
    have hg2 : w2.cell? ⟨w.heap.size, 2, none⟩ = some (.int .i64 a0_2) := (blk_cell KG.out 2).trans rfl
    have hg3 : w2.cell? ⟨w.heap.size, 3, none⟩ = some (.int .i64 a0_3) := (blk_cell KG.out 3).trans rfl
    have hl0 : w2.cell? ⟨w.heap.size + 1, 0, none⟩ = some (.slice A1 l1.length c1) := (blk_cell KL.out 0).trans rfl
    go_wp2_with (fail)
    refine (C3.out _ _ (lit2 _ a0_0 a0_1 _ rfl)).mono ?_
    clear hg0 hg1 hg2 hg3 hl0
    cases b3 with
    | true =>
    rintro e w3 ⟨rfl, hb⟩
    replace KG := Aside0.mk (show w3.heap[w.heap.size]? = some (.cells #[.int .i64 a0_0, .int .i64 a0_1, .int .i64 a0_2, .int .i64 a0_3] 26) from blk_below (by repeat (first | exact KG.out | refine blk_alloc ?_ _)) hb)
    replace KL := Aside0.mk (show w3.heap[w.heap.size + 1]? = some (.cells #[.slice A1 l1.length c1] 28) from blk_below (by repeat (first | exact KL.out | refine blk_alloc ?_ _)) hb)
    replace HB := Aside0.mk (below_step (by repeat (first | exact HB.out | apply below_alloc)) hb)
    clear hb
    have hg0 : w3.cell? ⟨w.heap.size, 0, none⟩ = some (.int .i64 a0_0) := (blk_cell KG.out 0).trans rfl
    have hg1 : w3.cell? ⟨w.heap.size, 1, none⟩ = some (.int .i64 a0_1) := (blk_cell KG.out 1).trans rfl
    have hg2 : w3.cell? ⟨w.heap.size, 2, none⟩ = some (.int .i64 a0_2) := (blk_cell KG.out 2).trans rfl
    have hg3 : w3.cell? ⟨w.heap.size, 3, none⟩ = some (.int .i64 a0_3) := (blk_cell KG.out 3).trans rfl
    have hl0 : w3.cell? ⟨w.heap.size + 1, 0, none⟩ = some (.slice A1 l1.length c1) := (blk_cell KL.out 0).trans rfl
    go_wp2
    go_ret
    exact ⟨rfl, HB.out⟩
    | false =>
    rintro e w3 ⟨rfl, hb⟩
    replace KG := Aside0.mk (show w3.heap[w.heap.size]? = some (.cells #[.int .i64 a0_0, .int .i64 a0_1, .int .i64 a0_2, .int .i64 a0_3] 26) from blk_below (by repeat (first | exact KG.out | refine blk_alloc ?_ _)) hb)
    replace KL := Aside0.mk (show w3.heap[w.heap.size + 1]? = some (.cells #[.slice A1 l1.length c1] 28) from blk_below (by repeat (first | exact KL.out | refine blk_alloc ?_ _)) hb)
    replace HB := Aside0.mk (below_step (by repeat (first | exact HB.out | apply below_alloc)) hb)
    clear hb
    have hg0 : w3.cell? ⟨w.heap.size, 0, none⟩ = some (.int .i64 a0_0) := (blk_cell KG.out 0).trans rfl
    have hg1 : w3.cell? ⟨w.heap.size, 1, none⟩ = some (.int .i64 a0_1) := (blk_cell KG.out 1).trans rfl
    have hg2 : w3.cell? ⟨w.heap.size, 2, none⟩ = some (.int .i64 a0_2) := (blk_cell KG.out 2).trans rfl
    have hg3 : w3.cell? ⟨w.heap.size, 3, none⟩ = some (.int .i64 a0_3) := (blk_cell KG.out 3).trans rfl
    have hl0 : w3.cell? ⟨w.heap.size + 1, 0, none⟩ = some (.slice A1 l1.length c1) := (blk_cell KL.out 0).trans rfl
    go_wp2_with (fail)
    refine (C4.out _ _ (lit1 _ a0_2 _ rfl)).mono ?_
    clear hg0 hg1 hg2 hg3 hl0
    cases b4 with
    | true =>
    rintro e w4 ⟨rfl, hb⟩
    replace KG := Aside0.mk (show w4.heap[w.heap.size]? = some (.cells #[.int .i64 a0_0, .int .i64 a0_1, .int .i64 a0_2, .int .i64 a0_3] 26) from blk_below (by repeat (first | exact KG.out | refine blk_alloc ?_ _)) hb)
    replace KL := Aside0.mk (show w4.heap[w.heap.size + 1]? = some (.cells #[.slice A1 l1.length c1] 28) from blk_below (by repeat (first | exact KL.out | refine blk_alloc ?_ _)) hb)
    replace HB := Aside0.mk (below_step (by repeat (first | exact HB.out | apply below_alloc)) hb)
    clear hb
    have hg0 : w4.cell? ⟨w.heap.size, 0, none⟩ = some (.int .i64 a0_0) := (blk_cell KG.out 0).trans rfl
    have hg1 : w4.cell? ⟨w.heap.size, 1, none⟩ = some (.int .i64 a0_1) := (blk_cell KG.out 1).trans rfl
    have hg2 : w4.cell? ⟨w.heap.size, 2, none⟩ = some (.int .i64 a0_2) := (blk_cell KG.out 2).trans rfl
    have hg3 : w4.cell? ⟨w.heap.size, 3, none⟩ = some (.int .i64 a0_3) := (blk_cell KG.out 3).trans rfl
    have hl0 : w4.cell? ⟨w.heap.size + 1, 0, none⟩ = some (.slice A1 l1.length c1) := (blk_cell KL.out 0).trans rfl
    go_wp2
    go_ret
    exact ⟨rfl, HB.out⟩
    | false =>
    rintro e w4 ⟨rfl, hb⟩
    replace KG := Aside0.mk (show w4.heap[w.heap.size]? = some (.cells #[.int .i64 a0_0, .int .i64 a0_1, .int .i64 a0_2, .int .i64 a0_3] 26) from blk_below (by repeat (first | exact KG.out | refine blk_alloc ?_ _)) hb)
    replace KL := Aside0.mk (show w4.heap[w.heap.size + 1]? = some (.cells #[.slice A1 l1.length c1] 28) from blk_below (by repeat (first | exact KL.out | refine blk_alloc ?_ _)) hb)
    replace HB := Aside0.mk (below_step (by repeat (first | exact HB.out | apply below_alloc)) hb)
    clear hb
    have hg0 : w4.cell? ⟨w.heap.size, 0, none⟩ = some (.int .i64 a0_0) := (blk_cell KG.out 0).trans rfl
    have hg1 : w4.cell? ⟨w.heap.size, 1, none⟩ = some (.int .i64 a0_1) := (blk_cell KG.out 1).trans rfl
    have hg2 : w4.cell? ⟨w.heap.size, 2, none⟩ = some (.int .i64 a0_2) := (blk_cell KG.out 2).trans rfl
    have hg3 : w4.cell? ⟨w.heap.size, 3, none⟩ = some (.int .i64 a0_3) := (blk_cell KG.out 3).trans rfl
    have hl0 : w4.cell? ⟨w.heap.size + 1, 0, none⟩ = some (.slice A1 l1.length c1) := (blk_cell KL.out 0).trans rfl
    go_wp2_with (fail)
    refine (C5.out _ _ (lit1 _ a0_3 _ rfl)).mono ?_
    clear hg0 hg1 hg2 hg3 hl0
    cases b5 with
    | true =>
    rintro e w5 ⟨rfl, hb⟩
    replace KG := Aside0.mk (show w5.heap[w.heap.size]? = some (.cells #[.int .i64 a0_0, .int .i64 a0_1, .int .i64 a0_2, .int .i64 a0_3] 26) from blk_below (by repeat (first | exact KG.out | refine blk_alloc ?_ _)) hb)
    replace KL := Aside0.mk (show w5.heap[w.heap.size + 1]? = some (.cells #[.slice A1 l1.length c1] 28) from blk_below (by repeat (first | exact KL.out | refine blk_alloc ?_ _)) hb)
    replace HB := Aside0.mk (below_step (by repeat (first | exact HB.out | apply below_alloc)) hb)
    clear hb
    have hg0 : w5.cell? ⟨w.heap.size, 0, none⟩ = some (.int .i64 a0_0) := (blk_cell KG.out 0).trans rfl
    have hg1 : w5.cell? ⟨w.heap.size, 1, none⟩ = some (.int .i64 a0_1) := (blk_cell KG.out 1).trans rfl
    have hg2 : w5.cell? ⟨w.heap.size, 2, none⟩ = some (.int .i64 a0_2) := (blk_cell KG.out 2).trans rfl
    have hg3 : w5.cell? ⟨w.heap.size, 3, none⟩ = some (.int .i64 a0_3) := (blk_cell KG.out 3).trans rfl
    have hl0 : w5.cell? ⟨w.heap.size + 1, 0, none⟩ = some (.slice A1 l1.length c1) := (blk_cell KL.out 0).trans rfl
    go_wp2
    go_ret
    exact ⟨rfl, HB.out⟩
    | false =>
    rintro e w5 ⟨rfl, hb⟩
    replace KG := Aside0.mk (show w5.heap[w.heap.size]? = some (.cells #[.int .i64 a0_0, .int .i64 a0_1, .int .i64 a0_2, .int .i64 a0_3] 26) from blk_below (by repeat (first | exact KG.out | refine blk_alloc ?_ _)) hb)
    replace KL := Aside0.mk (show w5.heap[w.heap.size + 1]? = some (.cells #[.slice A1 l1.length c1] 28) from blk_below (by repeat (first | exact KL.out | refine blk_alloc ?_ _)) hb)
    replace HB := Aside0.mk (below_step (by repeat (first | exact HB.out | apply below_alloc)) hb)
    clear hb
    have hg0 : w5.cell? ⟨w.heap.size, 0, none⟩ = some (.int .i64 a0_0) := (blk_cell KG.out 0).trans rfl
    have hg1 : w5.cell? ⟨w.heap.size, 1, none⟩ = some (.int .i64 a0_1) := (blk_cell KG.out 1).trans rfl
    have hg2 : w5.cell? ⟨w.heap.size, 2, none⟩ = some (.int .i64 a0_2) := (blk_cell KG.out 2).trans rfl
    have hg3 : w5.cell? ⟨w.heap.size, 3, none⟩ = some (.int .i64 a0_3) := (blk_cell KG.out 3).trans rfl
    have hl0 : w5.cell? ⟨w.heap.size + 1, 0, none⟩ = some (.slice A1 l1.length c1) := (blk_cell KL.out 0).trans rfl
    go_wp2
    go_ret
    exact ⟨rfl, HB.out⟩
end Go.Proofs.YtamibghbkjmmeaaDoor.G
end
section
namespace Go.Proofs.YtamibghbkjmmeaaDoor.G
open Go.RowKit Go.Proofs.YtamibghbkjmmeaaDoorW.PrintWords Go.Proofs.YtamibghbkjmmeaaDoorW.PrintLast Go.Proofs.YtamibghbkjmmeaaDoorW.PrintMore
set_option linter.unusedVariables false
set_option linter.unusedSimpArgs false
theorem Kd.C_of_rows {α : Type} {d : Kd α} {w : World} {A : Option Addr} {n : Nat} {xs : List α} (h : ReadsRow (d.K w) d.sz w A n xs) : d.C w A n xs := h
abbrev fk (w0 : World) : Kd S24 := Kd.fixed k24 w0
theorem fk_zero (w0 W : World) (base : Nat) : (fk w0).M W base (fun _ => False) z24 (Value.agg #[.int .i64 0, .slice none 0 0]).cells.toList := k24_mk w0 z24 (A1 := none) (c1 := 0) (Nat.le_refl _) (Kd.C_nil _ _)
theorem slice_h (t e : TypeId) {i : TypeInfo} (ht : Tryd.prog.underlying t = some (.slice e)) (hi : Tryd.prog.info? e = some i) (A : Option Addr) (len c : Nat) (h : Int) (h0 : 0 ≤ h) (h2 : h ≤ c) (W : World) :
    (Instr.slice t (.slice A len c) none (some (.int .i64 h)) none).run Tryd.prog W = .ok (.slice A h.toNat c) W := by
  have hel : Tryd.prog.elem t = e := by simp [Program.elem, ht]
  have hu : Tryd.prog.underlying t = some (.slice (Tryd.prog.elem t)) := by rw [hel]; exact ht
  rw [run_slice_h W t A len c hu .i64 h h0 h2, hel]
  cases A <;> simp [sizeOf, typeInfo, hi, sliced, Result.andThen, Addr.add]
set_option maxHeartbeats 4000000 in
set_option maxRecDepth 100000 in
theorem grow96 (w0 : World) (n : Int) (hn : 0 ≤ n) (hn2 : n ≤ 1000) (w : World) :
    Calls Tryd.prog 96 #[.slice none 0 0, .int .i64 n] w fun e w' => ∃ v, e = .returned v ∧ (fk w0).R 24 w' w.heap.size (fun _ => True) v [] ∧ Below w.heap.size w w' := by
  have HB := Aside0.mk (Below.refl w.heap.size w)
  have HN := Aside0.mk (Kd.R_nil (fk w0) 24 w w.heap.size (fun _ => True))
  have HZ := Aside0.mk (fun W base => fk_zero w0 W base)
  by_cases h0 : n = 0
  · subst h0
    go_enter Tryd.func96, Tryd.ntmps96
    go_wp2
    go_ret
    exact ⟨_, rfl, HN.out, HB.out⟩
  · have h1 : 0 < n := by omega
    have h1b : decide (0 < n) = true := decide_eq_true h1
    clear h0
    go_enter Tryd.func96, Tryd.ntmps96
    go_wp2_with (at_builtin; go_loud (refine Kd.R_append_zeros (fk w0) (w0 := w) w.heap.size rfl (.tmp 20) (.tmp 21) 28 3 24 (.agg #[.int .i64 0, .slice none 0 0]) 32 rfl Tryd.underlying28 Tryd.underlying3 info24 rfl (Nat.succ_pos 1) (by decide) (.slice none 0 0) [] z24 n (fun _ => True) rfl rfl (HZ.out _ _) (fun _ _ => trivial) HN.out hn HB.out (Nat.le_refl _) ?_ ?_; (simp; omega); intro v1 w1 ho1 hb1 _ _; have HO1 := Aside0.mk ho1; have HB1 := Aside0.mk hb1; clear ho1 hb1))
    obtain ⟨A, c, e1, hl, hc⟩ := Kd.R_reads HO1.out
    subst e1
    generalize ([] : List S24) ++ List.replicate n.toNat z24 = xs at HO1 hl hc ⊢
    have HT := Aside0.mk (Kd.R_take (m := 0) HO1.out (Nat.zero_le _))
    obtain ⟨i0, hi0, _⟩ := Option.map_eq_some_iff.1 info24
    have hsl := slice_h 28 24 Tryd.underlying28 hi0 A xs.length c 0 (by omega) (by omega)
    simp only [Int.toNat_zero] at hsl
    clear hi0
    go_simp
    go_wp2
    go_ret
    exact ⟨_, rfl, HT.out, HB1.out⟩
set_option maxHeartbeats 4000000 in
set_option maxRecDepth 100000 in
theorem concat66 (L R : List S24) (AL AR : Option Addr) (cL cR g : Nat) (w : World) (hL : Kd.C k24 w AL L.length L) (hR : Kd.C k24 w AR R.length R) (h8 : L.length ≤ 100) (h9 : R.length ≤ 100)
    (hg0 : w.cell? ⟨g, 0, none⟩ = some (.slice AL L.length cL)) (hg1 : w.cell? ⟨g, 1, none⟩ = some (.slice AR R.length cR)) :
    Calls Tryd.prog 66 #[.slice (some ⟨g, 0, none⟩) 2 2] w fun e w' => ∃ A c, e = .returned (.slice A (L ++ R).length c) ∧ Kd.C k24 w' A (L ++ R).length (L ++ R) ∧ (L ++ R).length ≤ c ∧ Below w.heap.size w w' := by
  have HB := Aside0.mk (Below.refl w.heap.size w)
  have HL := Aside0.mk hL
  have HR := Aside0.mk hR
  clear hL hR
  have hn1 : decide (((L.length : Int)) < 0) = false := decide_eq_false (by omega)
  have hn2 : decide (((L.length : Int) + (R.length : Int)) < 0) = false := decide_eq_false (by omega)
  have G := Aside0.mk (fun W => grow96 w ((L.length : Int) + (R.length : Int)) (by omega) (by omega) W)
  go_enter Tryd.func66, Tryd.ntmps66
  go_wp2
  refine wp_loop_rounds 3 ?_
  rw [rounds_succ]
  go_wp2
  rw [rounds_succ]
  go_wp2
  rw [rounds_succ]
  go_wp2_with (fail)
  refine (G.out _).mono ?_
  rintro e w1 ⟨v, rfl, ho, hb⟩
  have hk0 : w1.cell? ⟨g, 0, none⟩ = some (.slice AL L.length cL) := pw_cell_below hb hg0
  have hk1 : w1.cell? ⟨g, 1, none⟩ = some (.slice AR R.length cR) := pw_cell_below hb hg1
  have HO := Aside0.mk ho
  have HB1 := Aside0.mk hb
  clear ho hb
  go_wp2
  refine wp_loop_rounds 3 ?_
  rw [rounds_succ]
  go_wp2_with (at_builtin; refine Kd.R_append_rows (fk w) (Rr := k24.K w) (w0 := w) w.heap.size rfl (.tmp 31) (.tmp 32) 28 24 (.agg #[.int .i64 0, .slice none 0 0]) 32 rfl Tryd.underlying28 info24 rfl (Nat.succ_pos 1) (by decide) v ([]) L AL L.length cL (fun _ => True) (fun _ => False) rfl rfl HO.out ((Kd.C_rows (d := k24) HL.out).imp_ HB1.out (fun _ _ h => h)) (fun _ _ h => h) (fun _ h => h.elim) (fun _ _ => trivial) HB1.out HB1.out.size ?_ ?_; (simp; omega); intro v1 w2 ho hb _ _; have HO2 := Aside0.mk ho; have HB2 := Aside0.mk hb; have hq : w2.cell? ⟨g, 1, none⟩ = some (.slice AR R.length cR) := pw_cell_below hb hg1; clear ho hb)
  rw [rounds_succ]
  go_wp2_with (at_builtin; refine Kd.R_append_rows (fk w) (Rr := k24.K w) (w0 := w) w.heap.size rfl (.tmp 31) (.tmp 32) 28 24 (.agg #[.int .i64 0, .slice none 0 0]) 32 rfl Tryd.underlying28 info24 rfl (Nat.succ_pos 1) (by decide) v1 ([] ++ L) R AR R.length cR (fun _ => True) (fun _ => False) rfl rfl HO2.out ((Kd.C_rows (d := k24) HR.out).imp_ HB2.out (fun _ _ h => h)) (fun _ _ h => h) (fun _ h => h.elim) (fun _ _ => trivial) HB2.out HB2.out.size ?_ ?_; (simp; omega); intro v2 w3 ho hb _ _; have HO3 := Aside0.mk ho; have HB3 := Aside0.mk hb; have hq : w3.cell? ⟨g, 1, none⟩ = some (.slice AR R.length cR) := pw_cell_below hb hg1; clear ho hb)
  rw [rounds_succ]
  go_wp2
  obtain ⟨A, c, e1, hl, hc⟩ := Kd.R_reads HO3.out
  subst e1
  simp only [List.nil_append] at hl hc ⊢
  go_ret
  exact ⟨A, c, rfl, Kd.C_of_rows (hc.imp_ (Below.refl _ _) (fun _ _ h => k24.K_below HB3.out h)), hl, HB3.out⟩
end Go.Proofs.YtamibghbkjmmeaaDoor.G
end
section
namespace Go.Proofs.YtamibghbkjmmeaaDoor.G
open Go.RowKit Go.Proofs.YtamibghbkjmmeaaDoorW.PrintWords Go.Proofs.YtamibghbkjmmeaaDoorW.PrintLast Go.Proofs.YtamibghbkjmmeaaDoorW.PrintMore
attribute [local go_sem] max2_int min2_int max_two min_two max_three min_three max_four min_four
set_option linter.unusedVariables false
set_option linter.unusedSimpArgs false
def checkS (l r : List S24) (g0 g1 g2 g3 : Int) : Int := if mx (l.length : Int) (r.length : Int) > 8 then 5 else checkAllS g0 g1 g2 g3 (l ++ r)
def guard_Check.f (l r : List S24) (g0 g1 g2 g3 : Int) : Option Int := some (checkS l r g0 g1 g2 g3)
theorem mx_le (a b : Int) (h : ¬ mx a b > 8) : a ≤ 8 ∧ b ≤ 8 := by unfold mx at h; split at h <;> omega
set_option maxHeartbeats 4000000 in
set_option maxRecDepth 100000 in
theorem guard_Check.calls (A0_0 : Option Addr) (c0_0 : Nat) (l0_0 : List S24) (A0_1 : Option Addr) (c0_1 : Nat) (l0_1 : List S24) (a1_0 a1_1 a1_2 a1_3 : Int) (r : Int) (w : World)
    (hr0_0 : Kd.C k24 w A0_0 l0_0.length l0_0) (hc0_0 : l0_0.length ≤ c0_0) (hr0_1 : Kd.C k24 w A0_1 l0_1.length l0_1) (hc0_1 : l0_1.length ≤ c0_1) (h : guard_Check.f l0_0 l0_1 a1_0 a1_1 a1_2 a1_3 = some r) :
    Calls Tryd.prog 26 #[.agg #[.slice A0_0 l0_0.length c0_0, .slice A0_1 l0_1.length c0_1], .agg #[.int .i64 a1_0, .int .i64 a1_1, .int .i64 a1_2, .int .i64 a1_3]] w fun e w' => e = .returned (.int .i64 r) ∧ Below w.heap.size w w' := by
  obtain rfl := Option.some.inj h
  clear h hc0_0 hc0_1
  unfold checkS
  have HB := Aside0.mk (Below.refl w.heap.size w)
  have H0 := Aside0.mk hr0_0
  have H1 := Aside0.mk hr0_1
  clear hr0_0 hr0_1
  have KS := Aside0.mk (show ((w.alloc (.cells #[.slice A0_0 l0_0.length c0_0, .slice A0_1 l0_1.length c0_1] 38)).alloc (.cells #[.int .i64 a1_0, .int .i64 a1_1, .int .i64 a1_2, .int .i64 a1_3] 26)).heap[w.heap.size]? = some (.cells #[.slice A0_0 l0_0.length c0_0, .slice A0_1 l0_1.length c0_1] 38) from blk_alloc (blk_new _ _) _)
  have KG := Aside0.mk (show ((w.alloc (.cells #[.slice A0_0 l0_0.length c0_0, .slice A0_1 l0_1.length c0_1] 38)).alloc (.cells #[.int .i64 a1_0, .int .i64 a1_1, .int .i64 a1_2, .int .i64 a1_3] 26)).heap[w.heap.size + 1]? = some (.cells #[.int .i64 a1_0, .int .i64 a1_1, .int .i64 a1_2, .int .i64 a1_3] 26) from by have h_ := blk_new (w.alloc (.cells #[.slice A0_0 l0_0.length c0_0, .slice A0_1 l0_1.length c0_1] 38)) (.cells #[.int .i64 a1_0, .int .i64 a1_1, .int .i64 a1_2, .int .i64 a1_3] 26); simpa using h_)
  by_cases hlt : l0_0.length < l0_1.length
  · have hmx : mx (l0_0.length : Int) (l0_1.length : Int) = (l0_1.length : Int) := by unfold mx; split <;> omega
    rw [hmx]
    have hsm : l0_0.length ≤ l0_1.length := by omega
    have hlt2 : decide (l0_0.length < l0_1.length) = true := by simp; omega
    have hlt3 : decide ((l0_0.length : Int) < (l0_1.length : Int)) = true := by simp; omega
    by_cases h8 : (l0_1.length : Int) > 8
    · rw [if_pos h8]
      have h9 : decide (8 < (l0_1.length : Int)) = true := decide_eq_true h8
      have h10 : decide (8 < l0_1.length) = true := by simp; omega
      go_enter Tryd.func26, Tryd.ntmps26
      go_wp2
      go_ret
      exact ⟨rfl, by repeat (first | exact HB.out | apply below_alloc)⟩
    · rw [if_neg h8]
      have h9 : decide (8 < (l0_1.length : Int)) = false := decide_eq_false h8
      have h10 : decide (8 < l0_1.length) = false := by simp; omega
      go_enter Tryd.func26, Tryd.ntmps26
      go_wp2_with (fail)
      refine start_ (n := 9) (S := fun w' => w'.cell? ⟨w.heap.size, 0, none⟩ = some (.slice A0_0 l0_0.length c0_0) ∧ w'.cell? ⟨w.heap.size, 1, none⟩ = some (.slice A0_1 l0_1.length c0_1) ∧ w'.cell? ⟨w.heap.size + 1, 0, none⟩ = some (.int .i64 a1_0) ∧ w'.cell? ⟨w.heap.size + 1, 1, none⟩ = some (.int .i64 a1_1) ∧ w'.cell? ⟨w.heap.size + 1, 2, none⟩ = some (.int .i64 a1_2) ∧ w'.cell? ⟨w.heap.size + 1, 3, none⟩ = some (.int .i64 a1_3)) (ds := []) (bl 9 0) (by kernel_rfl) rfl rfl ⟨(blk_cell (by repeat (first | exact KS.out | refine blk_drew ?_ | refine blk_alloc ?_ _)) 0).trans rfl, (blk_cell (by repeat (first | exact KS.out | refine blk_drew ?_ | refine blk_alloc ?_ _)) 1).trans rfl, (blk_cell (by repeat (first | exact KG.out | refine blk_drew ?_ | refine blk_alloc ?_ _)) 0).trans rfl, (blk_cell (by repeat (first | exact KG.out | refine blk_drew ?_ | refine blk_alloc ?_ _)) 1).trans rfl, (blk_cell (by repeat (first | exact KG.out | refine blk_drew ?_ | refine blk_alloc ?_ _)) 2).trans rfl, (blk_cell (by repeat (first | exact KG.out | refine blk_drew ?_ | refine blk_alloc ?_ _)) 3).trans rfl⟩ (fun hHeld => ?_)
      refine pS 1 14 (bl 9 2) ?_
      refine pS 3 16 (bl 9 10) ?_
      refine tS 0 13 (bl 9 11) hHeld ?_
      refine tS 2 15 (bl 9 15) hHeld ?_
      refine tS 4 17 (bl 9 31) hHeld ?_
      refine one_ (i := 5) (N := some 18) (bl 9 63) rfl rfl (by kernel_rfl) (by decide) (fun K hK => ?_)
      refine vS ?_
      refine hK.out _ _ ⟨(blk_cell (by repeat (first | exact KS.out | refine blk_drew ?_ | refine blk_alloc ?_ _)) 0).trans rfl, (blk_cell (by repeat (first | exact KS.out | refine blk_drew ?_ | refine blk_alloc ?_ _)) 1).trans rfl, (blk_cell (by repeat (first | exact KG.out | refine blk_drew ?_ | refine blk_alloc ?_ _)) 0).trans rfl, (blk_cell (by repeat (first | exact KG.out | refine blk_drew ?_ | refine blk_alloc ?_ _)) 1).trans rfl, (blk_cell (by repeat (first | exact KG.out | refine blk_drew ?_ | refine blk_alloc ?_ _)) 2).trans rfl, (blk_cell (by repeat (first | exact KG.out | refine blk_drew ?_ | refine blk_alloc ?_ _)) 3).trans rfl⟩ (fun hHeld => ?_)
      clear hK K
      refine nS 18 ?_
      refine one_ (i := 6) (N := some 19) (bl 9 127) rfl rfl (by kernel_rfl) (by decide) (fun K hK => ?_)
      refine goes_ Tryd.func66 (by kernel_rfl) rfl #[.slice (some ⟨w.heap.size + 2, 0, none⟩) 2 2] (by rfl) rfl rfl (by simp only [List.map_toArray, List.map_cons, List.map_nil]; rfl) ?_
      with_reducible refine (concat66 l0_0 l0_1 A0_0 A0_1 c0_0 c0_1 (w.heap.size + 2) _ (Kd.C_below H0.out (by repeat (first | exact HB.out | assumption | apply below_alloc | apply pw_below_drewN | apply below_drew1))) (Kd.C_below H1.out (by repeat (first | exact HB.out | assumption | apply below_alloc | apply pw_below_drewN | apply below_drew1))) (by omega) (by omega) (by have h_ := blk_drew (blk_new ((w.alloc (.cells #[.slice A0_0 l0_0.length c0_0, .slice A0_1 l0_1.length c0_1] 38)).alloc (.cells #[.int .i64 a1_0, .int .i64 a1_1, .int .i64 a1_2, .int .i64 a1_3] 26)) (.cells #[.slice A0_0 l0_0.length c0_0, .slice A0_1 l0_1.length c0_1] 28)); simp only [World.size_alloc] at h_; exact (blk_cell h_ 0).trans rfl) (by have h_ := blk_drew (blk_new ((w.alloc (.cells #[.slice A0_0 l0_0.length c0_0, .slice A0_1 l0_1.length c0_1] 38)).alloc (.cells #[.int .i64 a1_0, .int .i64 a1_1, .int .i64 a1_2, .int .i64 a1_3] 26)) (.cells #[.slice A0_0 l0_0.length c0_0, .slice A0_1 l0_1.length c0_1] 28)); simp only [World.size_alloc] at h_; exact (blk_cell h_ 1).trans rfl)).mono ?_
      rintro e w3 ⟨A, c, rfl, hc, hl, hb⟩
      refine ⟨_, rfl, ?_⟩
      have HB3 := Aside0.mk (below_step (by repeat (first | exact HB.out | assumption | apply below_alloc | apply pw_below_drewN | apply below_drew1)) hb)
      have HC3 := Aside0.mk hc
      have HD3 := Aside0.mk hl
      clear hc hl
      refine hK.out _ _ ⟨pw_cell_below hb ((blk_cell (by repeat (first | exact KS.out | refine blk_drew ?_ | refine blk_alloc ?_ _)) 0).trans rfl), pw_cell_below hb ((blk_cell (by repeat (first | exact KS.out | refine blk_drew ?_ | refine blk_alloc ?_ _)) 1).trans rfl), pw_cell_below hb ((blk_cell (by repeat (first | exact KG.out | refine blk_drew ?_ | refine blk_alloc ?_ _)) 0).trans rfl), pw_cell_below hb ((blk_cell (by repeat (first | exact KG.out | refine blk_drew ?_ | refine blk_alloc ?_ _)) 1).trans rfl), pw_cell_below hb ((blk_cell (by repeat (first | exact KG.out | refine blk_drew ?_ | refine blk_alloc ?_ _)) 2).trans rfl), pw_cell_below hb ((blk_cell (by repeat (first | exact KG.out | refine blk_drew ?_ | refine blk_alloc ?_ _)) 3).trans rfl)⟩ (fun hHeld => ?_)
      clear hK K
      refine nS 19 ?_
      refine one_ (i := 7) (N := some 20) (bl 9 255) rfl rfl (by kernel_rfl) (by decide) (fun K hK => ?_)
      refine goes_ Tryd.func62 (by kernel_rfl) rfl #[.agg #[.int .i64 a1_0, .int .i64 a1_1, .int .i64 a1_2, .int .i64 a1_3], .slice A (l0_0 ++ l0_1).length c] (by rfl) rfl rfl (by simp only [List.map_toArray, List.map_cons, List.map_nil]; rfl) ?_
      with_reducible refine (guard_checkAll.calls a1_0 a1_1 a1_2 a1_3 A c (l0_0 ++ l0_1) (checkAllS a1_0 a1_1 a1_2 a1_3 (l0_0 ++ l0_1)) _ HC3.out HD3.out rfl).mono ?_
      rintro e w4 ⟨rfl, hb⟩
      refine ⟨_, rfl, ?_⟩
      have HB4 := Aside0.mk (below_step HB3.out hb)
      refine hK.out _ _ ⟨pw_cell_below hb (by with_reducible exact hHeld.1), pw_cell_below hb (by with_reducible exact hHeld.2.1), pw_cell_below hb (by with_reducible exact hHeld.2.2.1), pw_cell_below hb (by with_reducible exact hHeld.2.2.2.1), pw_cell_below hb (by with_reducible exact hHeld.2.2.2.2.1), pw_cell_below hb (by with_reducible exact hHeld.2.2.2.2.2)⟩ (fun hHeld => ?_)
      clear hK K
      refine nS 20 ?_
      refine pS 8 4 (bl 9 511) ?_
      refine done_ (by kernel_rfl) ?_
      go_wp2
      go_ret
      exact ⟨rfl, HB4.out⟩
  · have hmx : mx (l0_0.length : Int) (l0_1.length : Int) = (l0_0.length : Int) := by unfold mx; split <;> omega
    rw [hmx]
    have hsm : l0_1.length ≤ l0_0.length := by omega
    have hlt2 : decide (l0_0.length < l0_1.length) = false := by simp; omega
    have hlt3 : decide ((l0_0.length : Int) < (l0_1.length : Int)) = false := by simp; omega
    by_cases h8 : (l0_0.length : Int) > 8
    · rw [if_pos h8]
      have h9 : decide (8 < (l0_0.length : Int)) = true := decide_eq_true h8
      have h10 : decide (8 < l0_0.length) = true := by simp; omega
      go_enter Tryd.func26, Tryd.ntmps26
      go_wp2
      go_ret
      exact ⟨rfl, by repeat (first | exact HB.out | apply below_alloc)⟩
    · rw [if_neg h8]
      have h9 : decide (8 < (l0_0.length : Int)) = false := decide_eq_false h8
      have h10 : decide (8 < l0_0.length) = false := by simp; omega
      go_enter Tryd.func26, Tryd.ntmps26
      go_wp2_with (fail)
      refine start_ (n := 9) (S := fun w' => w'.cell? ⟨w.heap.size, 0, none⟩ = some (.slice A0_0 l0_0.length c0_0) ∧ w'.cell? ⟨w.heap.size, 1, none⟩ = some (.slice A0_1 l0_1.length c0_1) ∧ w'.cell? ⟨w.heap.size + 1, 0, none⟩ = some (.int .i64 a1_0) ∧ w'.cell? ⟨w.heap.size + 1, 1, none⟩ = some (.int .i64 a1_1) ∧ w'.cell? ⟨w.heap.size + 1, 2, none⟩ = some (.int .i64 a1_2) ∧ w'.cell? ⟨w.heap.size + 1, 3, none⟩ = some (.int .i64 a1_3)) (ds := []) (bl 9 0) (by kernel_rfl) rfl rfl ⟨(blk_cell (by repeat (first | exact KS.out | refine blk_drew ?_ | refine blk_alloc ?_ _)) 0).trans rfl, (blk_cell (by repeat (first | exact KS.out | refine blk_drew ?_ | refine blk_alloc ?_ _)) 1).trans rfl, (blk_cell (by repeat (first | exact KG.out | refine blk_drew ?_ | refine blk_alloc ?_ _)) 0).trans rfl, (blk_cell (by repeat (first | exact KG.out | refine blk_drew ?_ | refine blk_alloc ?_ _)) 1).trans rfl, (blk_cell (by repeat (first | exact KG.out | refine blk_drew ?_ | refine blk_alloc ?_ _)) 2).trans rfl, (blk_cell (by repeat (first | exact KG.out | refine blk_drew ?_ | refine blk_alloc ?_ _)) 3).trans rfl⟩ (fun hHeld => ?_)
      refine pS 1 14 (bl 9 2) ?_
      refine pS 3 16 (bl 9 10) ?_
      refine tS 0 13 (bl 9 11) hHeld ?_
      refine tS 2 15 (bl 9 15) hHeld ?_
      refine tS 4 17 (bl 9 31) hHeld ?_
      refine one_ (i := 5) (N := some 18) (bl 9 63) rfl rfl (by kernel_rfl) (by decide) (fun K hK => ?_)
      refine vS ?_
      refine hK.out _ _ ⟨(blk_cell (by repeat (first | exact KS.out | refine blk_drew ?_ | refine blk_alloc ?_ _)) 0).trans rfl, (blk_cell (by repeat (first | exact KS.out | refine blk_drew ?_ | refine blk_alloc ?_ _)) 1).trans rfl, (blk_cell (by repeat (first | exact KG.out | refine blk_drew ?_ | refine blk_alloc ?_ _)) 0).trans rfl, (blk_cell (by repeat (first | exact KG.out | refine blk_drew ?_ | refine blk_alloc ?_ _)) 1).trans rfl, (blk_cell (by repeat (first | exact KG.out | refine blk_drew ?_ | refine blk_alloc ?_ _)) 2).trans rfl, (blk_cell (by repeat (first | exact KG.out | refine blk_drew ?_ | refine blk_alloc ?_ _)) 3).trans rfl⟩ (fun hHeld => ?_)
      clear hK K
      refine nS 18 ?_
      refine one_ (i := 6) (N := some 19) (bl 9 127) rfl rfl (by kernel_rfl) (by decide) (fun K hK => ?_)
      refine goes_ Tryd.func66 (by kernel_rfl) rfl #[.slice (some ⟨w.heap.size + 2, 0, none⟩) 2 2] (by rfl) rfl rfl (by simp only [List.map_toArray, List.map_cons, List.map_nil]; rfl) ?_
      with_reducible refine (concat66 l0_0 l0_1 A0_0 A0_1 c0_0 c0_1 (w.heap.size + 2) _ (Kd.C_below H0.out (by repeat (first | exact HB.out | assumption | apply below_alloc | apply pw_below_drewN | apply below_drew1))) (Kd.C_below H1.out (by repeat (first | exact HB.out | assumption | apply below_alloc | apply pw_below_drewN | apply below_drew1))) (by omega) (by omega) (by have h_ := blk_drew (blk_new ((w.alloc (.cells #[.slice A0_0 l0_0.length c0_0, .slice A0_1 l0_1.length c0_1] 38)).alloc (.cells #[.int .i64 a1_0, .int .i64 a1_1, .int .i64 a1_2, .int .i64 a1_3] 26)) (.cells #[.slice A0_0 l0_0.length c0_0, .slice A0_1 l0_1.length c0_1] 28)); simp only [World.size_alloc] at h_; exact (blk_cell h_ 0).trans rfl) (by have h_ := blk_drew (blk_new ((w.alloc (.cells #[.slice A0_0 l0_0.length c0_0, .slice A0_1 l0_1.length c0_1] 38)).alloc (.cells #[.int .i64 a1_0, .int .i64 a1_1, .int .i64 a1_2, .int .i64 a1_3] 26)) (.cells #[.slice A0_0 l0_0.length c0_0, .slice A0_1 l0_1.length c0_1] 28)); simp only [World.size_alloc] at h_; exact (blk_cell h_ 1).trans rfl)).mono ?_
      rintro e w3 ⟨A, c, rfl, hc, hl, hb⟩
      refine ⟨_, rfl, ?_⟩
      have HB3 := Aside0.mk (below_step (by repeat (first | exact HB.out | assumption | apply below_alloc | apply pw_below_drewN | apply below_drew1)) hb)
      have HC3 := Aside0.mk hc
      have HD3 := Aside0.mk hl
      clear hc hl
      refine hK.out _ _ ⟨pw_cell_below hb ((blk_cell (by repeat (first | exact KS.out | refine blk_drew ?_ | refine blk_alloc ?_ _)) 0).trans rfl), pw_cell_below hb ((blk_cell (by repeat (first | exact KS.out | refine blk_drew ?_ | refine blk_alloc ?_ _)) 1).trans rfl), pw_cell_below hb ((blk_cell (by repeat (first | exact KG.out | refine blk_drew ?_ | refine blk_alloc ?_ _)) 0).trans rfl), pw_cell_below hb ((blk_cell (by repeat (first | exact KG.out | refine blk_drew ?_ | refine blk_alloc ?_ _)) 1).trans rfl), pw_cell_below hb ((blk_cell (by repeat (first | exact KG.out | refine blk_drew ?_ | refine blk_alloc ?_ _)) 2).trans rfl), pw_cell_below hb ((blk_cell (by repeat (first | exact KG.out | refine blk_drew ?_ | refine blk_alloc ?_ _)) 3).trans rfl)⟩ (fun hHeld => ?_)
      clear hK K
      refine nS 19 ?_
      refine one_ (i := 7) (N := some 20) (bl 9 255) rfl rfl (by kernel_rfl) (by decide) (fun K hK => ?_)
      refine goes_ Tryd.func62 (by kernel_rfl) rfl #[.agg #[.int .i64 a1_0, .int .i64 a1_1, .int .i64 a1_2, .int .i64 a1_3], .slice A (l0_0 ++ l0_1).length c] (by rfl) rfl rfl (by simp only [List.map_toArray, List.map_cons, List.map_nil]; rfl) ?_
      with_reducible refine (guard_checkAll.calls a1_0 a1_1 a1_2 a1_3 A c (l0_0 ++ l0_1) (checkAllS a1_0 a1_1 a1_2 a1_3 (l0_0 ++ l0_1)) _ HC3.out HD3.out rfl).mono ?_
      rintro e w4 ⟨rfl, hb⟩
      refine ⟨_, rfl, ?_⟩
      have HB4 := Aside0.mk (below_step HB3.out hb)
      refine hK.out _ _ ⟨pw_cell_below hb (by with_reducible exact hHeld.1), pw_cell_below hb (by with_reducible exact hHeld.2.1), pw_cell_below hb (by with_reducible exact hHeld.2.2.1), pw_cell_below hb (by with_reducible exact hHeld.2.2.2.1), pw_cell_below hb (by with_reducible exact hHeld.2.2.2.2.1), pw_cell_below hb (by with_reducible exact hHeld.2.2.2.2.2)⟩ (fun hHeld => ?_)
      clear hK K
      refine nS 20 ?_
      refine pS 8 4 (bl 9 511) ?_
      refine done_ (by kernel_rfl) ?_
      go_wp2
      go_ret
      exact ⟨rfl, HB4.out⟩
end Go.Proofs.YtamibghbkjmmeaaDoor.G
end
section
namespace Go.Proofs.YtamibghbkjmmeaaDoor.G
open Go.RowKit Go.Proofs.YtamibghbkjmmeaaDoorW.PrintWords Go.Proofs.YtamibghbkjmmeaaDoorW.PrintLast Go.Proofs.YtamibghbkjmmeaaDoorW.PrintMore
set_option linter.unusedVariables false
set_option linter.unusedSimpArgs false
def szF (t : List Int) (x : Int) : Option Int := (bits_OnesCount.f x).bind fun a => (guard_table_cover.f 1000 t x).bind fun c => (bits_OnesCount.f c).bind fun d => some (wrap64 (a + d))
theorem d_below {w w1 w' : World} (h : Drawn0 w1 w') (hb : Below w.heap.size w w1) : Below w.heap.size w w' := by
  obtain ⟨m, rfl⟩ := h
  exact pw_below_drewN hb m
set_option maxHeartbeats 4000000 in
set_option maxRecDepth 100000 in
theorem cover_size.calls (t : List Int) (A : Option Addr) (ct b8 : Nat) (a0 r : Int) (w : World) (hb : Boxed w b8 111 (.slice A t.length ct)) (hC : Kd.C (Kd.int .u64) w A t.length t) (hc : t.length ≤ ct) (h : szF t a0 = some r) :
    Calls Tryd.prog 70 #[.int .u64 a0, .pointer (some ⟨b8, 0, none⟩)] w fun e w' => e = .returned (.int .i64 r) ∧ Below w.heap.size w w' := by
  obtain ⟨x1, h1, h⟩ := Option.bind_eq_some_iff.mp h
  obtain ⟨x2, h2, h⟩ := Option.bind_eq_some_iff.mp h
  obtain ⟨x3, h3, h⟩ := Option.bind_eq_some_iff.mp h
  obtain rfl := Option.some.inj h
  clear h
  have hmx : Tryd.prog.follows .mixedOrders = true := by kernel_rfl
  have hc0 : w.drew.cell? ⟨b8, 0, none⟩ = some (.slice A t.length ct) := hb.cell
  go_enter Tryd.func70, Tryd.ntmps70
  go_wp2
  have hb0 : Below w.heap.size w w.drew := below_drew (Below.refl _ _)
  go_region_with_o (first
    | (go_at_call 71; with_reducible refine (bits_OnesCount.calls a0 x1 _ h1).mono ?_; rintro e w6 ⟨rfl, hd6⟩; first | (have hA := d_below hd6 hC2) | (have hA := d_below hd6 hb0); have hcA : w6.cell? ⟨b8, 0, none⟩ = some (.slice A t.length ct) := pw_cell_below hA hb.cell)
    | (go_at_call 72; with_reducible refine (guard_table_cover.calls 1000 A ct t a0 x2 _ (Kd.C_below hC (by first | exact hA | exact hb0)) hc h2).mono ?_; rintro e w7 ⟨rfl, hd7⟩; first | (have hC2 := d_below hd7 hA) | (have hC2 := d_below hd7 hb0))
    | (go_at_call 71; with_reducible refine (bits_OnesCount.calls x2 x3 _ h3).mono ?_; rintro e w8 ⟨rfl, hd8⟩; first | (have hD := d_below hd8 hA) | (have hD := d_below hd8 hC2)))
  all_goals go_wp2
  all_goals go_ret
  all_goals exact ⟨by first | rfl | (simp [Act.put, i64_w]), by first | exact hD | exact hA | exact hC2⟩
end Go.Proofs.YtamibghbkjmmeaaDoor.G
end
section
namespace Go.Proofs.YtamibghbkjmmeaaDoor.G
open Go.RowKit Go.Proofs.YtamibghbkjmmeaaDoorW.PrintWords Go.Proofs.YtamibghbkjmmeaaDoorW.PrintLast Go.Proofs.YtamibghbkjmmeaaDoorW.PrintMore
set_option linter.unusedVariables false
set_option linter.unusedSimpArgs false
def coverG (t : List Int) : Nat → Int → Int → Option Int
  | 0, _, _ => none
  | k + 1, s, b => if s < IntKind.u64.wrap (2 ^ min t.length 64) then (szF t s).bind fun x => (szF t b).bind fun y => (guard_numbers.f s).bind fun ns => (guard_numbers.f b).bind fun nb => (slices_Compare_int_int.f 1000 ns nb).bind fun c =>
      (cmp_Or_int.f 1000 [wrap64 (x - y), c]).bind fun o => if o < 0 then coverG t k (IntKind.u64.wrap (s + 1)) s else coverG t k (IntKind.u64.wrap (s + 1)) b
    else some b
def guard_Cover.f (l0 l1 : List S24) (g0 g1 g2 g3 : Int) : Option (List Int × List Int × Int) :=
  if checkS l0 l1 g0 g1 g2 g3 = 0 then (guard_gauge_table.f 1000 g0 g1 g2 g3 l0 l1 2).bind fun t => (coverG t 1000 1 0).bind fun b => (guard_numbers.f b).bind fun x => (guard_table_cover.f 1000 t b).bind fun c => (guard_numbers.f c).bind fun y => some (x, y, 0)
  else some ([], [], checkS l0 l1 g0 g1 g2 g3)
set_option maxHeartbeats 8000000 in
set_option maxRecDepth 100000 in
theorem guard_Cover.calls (A0 : Option Addr) (c0 : Nat) (l0 : List S24) (A1 : Option Addr) (c1 : Nat) (l1 : List S24) (g0 g1 g2 g3 : Int) (r1 r2 : List Int) (r3 : Int) (w : World)
    (hr0 : Kd.C k24 w A0 l0.length l0) (hc0 : l0.length ≤ c0) (hr1 : Kd.C k24 w A1 l1.length l1) (hc1 : l1.length ≤ c1) (hT_ : TabOk w) (h : guard_Cover.f l0 l1 g0 g1 g2 g3 = some (r1, r2, r3)) :
    Calls Tryd.prog 35 #[.agg #[.slice A0 l0.length c0, .slice A1 l1.length c1], .agg #[.int .i64 g0, .int .i64 g1, .int .i64 g2, .int .i64 g3]] w fun e w' => ∃ v0_ v1_ : Value, e = .returned (.tuple #[v0_, v1_, .int .i64 r3]) ∧ Kd.R (Kd.int .i64) 3 w' w.heap.size (fun _ => True) v0_ r1 ∧ Kd.R (Kd.int .i64) 3 w' w.heap.size (fun _ => True) v1_ r2 ∧ Below w.heap.size w w' := by
  have HL := Aside0.mk hr0
  have HR := Aside0.mk hr1
  have HB0 := Aside0.mk (show Below w.heap.size w ((w.alloc (.cells #[.slice A0 l0.length c0, .slice A1 l1.length c1] 38)).alloc (.cells #[.int .i64 g0, .int .i64 g1, .int .i64 g2, .int .i64 g3] 26)) from ((Below.refl _ w).alloc (Nat.le_refl _) _).alloc (by simp) _)
  have KS := Aside0.mk (show ((w.alloc (.cells #[.slice A0 l0.length c0, .slice A1 l1.length c1] 38)).alloc (.cells #[.int .i64 g0, .int .i64 g1, .int .i64 g2, .int .i64 g3] 26)).heap[w.heap.size]? = some (.cells #[.slice A0 l0.length c0, .slice A1 l1.length c1] 38) from blk_alloc (blk_new _ _) _)
  have KG := Aside0.mk (show ((w.alloc (.cells #[.slice A0 l0.length c0, .slice A1 l1.length c1] 38)).alloc (.cells #[.int .i64 g0, .int .i64 g1, .int .i64 g2, .int .i64 g3] 26)).heap[w.heap.size + 1]? = some (.cells #[.int .i64 g0, .int .i64 g1, .int .i64 g2, .int .i64 g3] 26) from by have h_ := blk_new (w.alloc (.cells #[.slice A0 l0.length c0, .slice A1 l1.length c1] 38)) (.cells #[.int .i64 g0, .int .i64 g1, .int .i64 g2, .int .i64 g3] 26); simpa using h_)
  have CK := Aside0.mk (fun W (hb : Below w.heap.size w W) => guard_Check.calls A0 c0 l0 A1 c1 l1 g0 g1 g2 g3 _ W (Kd.C_below hr0 hb) hc0 (Kd.C_below hr1 hb) hc1 rfl)
  have HT := Aside0.mk hT_
  unfold guard_Cover.f at h
  by_cases he : checkS l0 l1 g0 g1 g2 g3 = 0
  · rw [if_pos he] at h
    obtain ⟨t, ht, h⟩ := Option.bind_eq_some_iff.mp h
    obtain ⟨b, hb, h⟩ := Option.bind_eq_some_iff.mp h
    obtain ⟨x, hx, h⟩ := Option.bind_eq_some_iff.mp h
    obtain ⟨cv, hcv, h⟩ := Option.bind_eq_some_iff.mp h
    obtain ⟨y, hy, h⟩ := Option.bind_eq_some_iff.mp h
    simp only [Option.some.injEq, Prod.mk.injEq] at h
    obtain ⟨rfl, rfl, rfl⟩ := h
    have TB := Aside0.mk (fun W (hb : Below w.heap.size w W) => guard_gauge_table.calls 1000 g0 g1 g2 g3 A0 c0 l0 A1 c1 l1 2 t W (Kd.C_below hr0 hb) hc0 (Kd.C_below hr1 hb) hc1 ht)
    have HX := Aside0.mk hx
    have HY := Aside0.mk hy
    have HC := Aside0.mk hcv
    have HG := Aside0.mk hb
    rw [he] at CK
    clear hr0 hr1 hT_ hx hy hcv hb he ht
    go_enter Tryd.func35, Tryd.ntmps35
    go_wp2_with (fail)
    refine (CK.out _ HB0.out).mono ?_
    rintro e w1 ⟨rfl, hb1⟩
    have HB1 := Aside0.mk (below_step HB0.out hb1)
    have KS1 := Aside0.mk (blk_below KS.out hb1)
    have KG1 := Aside0.mk (blk_below KG.out hb1)
    clear hb1
    have hs0 : w1.cell? ⟨w.heap.size, 0, none⟩ = some (.slice A0 l0.length c0) := (blk_cell KS1.out 0).trans rfl
    have hs1 : w1.cell? ⟨w.heap.size, 1, none⟩ = some (.slice A1 l1.length c1) := (blk_cell KS1.out 1).trans rfl
    have hg0 : w1.cell? ⟨w.heap.size + 1, 0, none⟩ = some (.int .i64 g0) := (blk_cell KG1.out 0).trans rfl
    have hg1 : w1.cell? ⟨w.heap.size + 1, 1, none⟩ = some (.int .i64 g1) := (blk_cell KG1.out 1).trans rfl
    have hg2 : w1.cell? ⟨w.heap.size + 1, 2, none⟩ = some (.int .i64 g2) := (blk_cell KG1.out 2).trans rfl
    have hg3 : w1.cell? ⟨w.heap.size + 1, 3, none⟩ = some (.int .i64 g3) := (blk_cell KG1.out 3).trans rfl
    go_wp2_with (fail)
    refine (TB.out _ HB1.out).mono ?_
    rintro e w2 ⟨v2, rfl, ho2, hb2⟩
    obtain ⟨A2, c2, rfl, hl2, hC2⟩ := Kd.R_reads ho2
    have HB2 := Aside0.mk (below_step HB1.out hb2)
    have HC2 := Aside0.mk (Kd.C_below hC2 (below_alloc (Below.refl _ _) (.cells #[.slice A2 t.length c2] 111)))
    have HL2 := Aside0.mk hl2
    have B8 := Aside0.mk (Boxed.new w2 111 (.slice A2 t.length c2))
    have HB3 := Aside0.mk (HB2.out.alloc HB2.out.size (.cells #[.slice A2 t.length c2] 111))
    clear hb2 ho2 hl2 hC2 hs0 hs1 hg0 hg1 hg2 hg3
    go_wp2
    go_loopg [9, 11] 1000 (fun kq v9 v11 w' => ∃ (bb ss : Int), v9 = .int .u64 bb ∧ v11 = .int .u64 ss ∧ Aside0 (coverG t kq ss bb = some b) ∧ Aside0 (Below w.heap.size w w') ∧ Aside0 (Boxed w' w2.heap.size 111 (.slice A2 t.length c2)) ∧ Aside0 (Kd.C (Kd.int .u64) w' A2 t.length t))
    case atStart => exact ⟨0, 1, rfl, rfl, HG, HB3, B8, HC2⟩
    case round =>
      clear HG HB3 B8 HC2 KS1 KG1 HB1 HB2 KS KG HB0
      obtain ⟨bb, ss, rfl, rfl, HG, HB, B8, HC2⟩ := hrel
      have hc8 := B8.out.cell
      cases gk with
      | zero => exact absurd HG.out (by simp [coverG])
      | succ k1 =>
        have hg := HG.out
        unfold coverG at hg
        split at hg
        case isTrue hlt =>
          have hltb : decide (ss < IntKind.u64.wrap (2 ^ min t.length 64)) = true := decide_eq_true hlt
          obtain ⟨x1, h1, hg⟩ := Option.bind_eq_some_iff.mp hg
          obtain ⟨x2, h2, hg⟩ := Option.bind_eq_some_iff.mp hg
          obtain ⟨x3, h3, hg⟩ := Option.bind_eq_some_iff.mp hg
          obtain ⟨x4, h4, hg⟩ := Option.bind_eq_some_iff.mp hg
          obtain ⟨x5, h5, hg⟩ := Option.bind_eq_some_iff.mp hg
          obtain ⟨x6, h6, hg⟩ := Option.bind_eq_some_iff.mp hg
          have K1 := Aside0.mk h1
          have K2 := Aside0.mk h2
          have K3 := Aside0.mk h3
          have K4 := Aside0.mk h4
          have K5 := Aside0.mk h5
          have K6 := Aside0.mk h6
          have HN := Aside0.mk hg
          clear hlt h1 h2 h3 h4 h5 h6 hg HG
          go_wp2_with (fail)
          refine (cover_size.calls t A2 c2 w2.heap.size ss x1 _ B8.out HC2.out HL2.out K1.out).mono ?_
          rintro e w4 ⟨rfl, hb4⟩
          have B4 := Aside0.mk (show Boxed w4 w2.heap.size 111 (.slice A2 t.length c2) from blk_below B8.out hb4)
          have C4 := Aside0.mk (Kd.C_below HC2.out hb4)
          have E4 := Aside0.mk (below_step HB.out hb4)
          clear hb4 B8 HC2 HB hc8
          go_wp2_with (fail)
          refine (cover_size.calls t A2 c2 w2.heap.size bb x2 _ B4.out C4.out HL2.out K2.out).mono ?_
          rintro e w5 ⟨rfl, hb5⟩
          have B5 := Aside0.mk (show Boxed w5 w2.heap.size 111 (.slice A2 t.length c2) from blk_below B4.out hb5)
          have C5 := Aside0.mk (Kd.C_below C4.out hb5)
          have E5 := Aside0.mk (below_step E4.out hb5)
          clear hb5 B4 C4 E4
          go_wp2_with (fail)
          refine (guard_numbers.calls ss x3 _ (HT.out.go E5.out) K3.out).mono ?_
          rintro e w6 ⟨v6, rfl, ho6, hb6⟩
          obtain ⟨A6, c6, rfl, hl6, hC6⟩ := Kd.R_reads ho6
          have L6 := Aside0.mk hl6
          have R6 := Aside0.mk hC6
          have B6 := Aside0.mk (show Boxed w6 w2.heap.size 111 (.slice A2 t.length c2) from blk_below B5.out hb6)
          have C6 := Aside0.mk (Kd.C_below C5.out hb6)
          have E6 := Aside0.mk (below_step E5.out hb6)
          clear hb6 ho6 hl6 hC6 B5 C5 E5
          go_wp2_with (fail)
          refine (guard_numbers.calls bb x4 _ (HT.out.go E6.out) K4.out).mono ?_
          rintro e w7 ⟨v7, rfl, ho7, hb7⟩
          obtain ⟨A7, c7, rfl, hl7, hC7⟩ := Kd.R_reads ho7
          have L7 := Aside0.mk hl7
          have R7 := Aside0.mk hC7
          have R6' := Aside0.mk (Kd.C_below R6.out hb7)
          have B7 := Aside0.mk (show Boxed w7 w2.heap.size 111 (.slice A2 t.length c2) from blk_below B6.out hb7)
          have C7 := Aside0.mk (Kd.C_below C6.out hb7)
          have E7 := Aside0.mk (below_step E6.out hb7)
          clear hb7 ho7 hl7 hC7 B6 C6 E6 R6
          go_wp2_with (fail)
          refine (slices_Compare_int_int.calls 1000 A6 c6 x3 A7 c7 x4 x5 _ R6'.out L6.out R7.out L7.out K5.out).mono ?_
          rintro e w8 ⟨rfl, hd8⟩
          have hb8 := d_below hd8 (Below.refl _ _)
          have B8 := Aside0.mk (show Boxed w8 w2.heap.size 111 (.slice A2 t.length c2) from blk_below B7.out hb8)
          have C8 := Aside0.mk (Kd.C_below C7.out hb8)
          have E8 := Aside0.mk (below_step E7.out hb8)
          clear hb8 hd8 B7 C7 E7 R6' R7 L6 L7
          go_wp2_with (fail)
          refine (cmp_Or_int.calls 1000 _ 2 [wrap64 (x1 - x2), x5] x6 _ (lit2 _ _ _ _ rfl) (Nat.le_refl _) K6.out).mono ?_
          rintro e w9 ⟨rfl, hd9⟩
          have hb9 : Below w8.heap.size w8 w9 := d_below hd9 (below_alloc (Below.refl _ _) _)
          have B9 := Aside0.mk (show Boxed w9 w2.heap.size 111 (.slice A2 t.length c2) from blk_below B8.out hb9)
          have C9 := Aside0.mk (Kd.C_below C8.out hb9)
          have E9 := Aside0.mk (below_step E8.out hb9)
          clear hb9 hd9 B8 C8 E8
          have hn := HN.out
          clear HN
          by_cases hx : x6 < 0
          · rw [if_pos hx] at hn
            have hxb : decide (x6 < 0) = true := decide_eq_true hx
            have HM := Aside0.mk hn
            clear hx hn
            go_wp2
            go_roundg k1
            case measure => omega
            case rel => exact ⟨ss, IntKind.u64.wrap (ss + 1), (by first | rfl | (simp; done)), (by first | rfl | (simp; done)), HM, E9, B9, C9⟩
          · rw [if_neg hx] at hn
            have hxb : decide (x6 < 0) = false := decide_eq_false hx
            have HM := Aside0.mk hn
            clear hx hn
            go_wp2
            go_roundg k1
            case measure => omega
            case rel => exact ⟨bb, IntKind.u64.wrap (ss + 1), (by first | rfl | (simp; done)), (by first | rfl | (simp; done)), HM, E9, B9, C9⟩
        case isFalse hlt =>
          have hltb : decide (ss < IntKind.u64.wrap (2 ^ min t.length 64)) = false := decide_eq_false hlt
          obtain rfl := Option.some.inj hg
          clear hg HG hlt
          have hmx : Tryd.prog.follows .mixedOrders = true := by kernel_rfl
          have hq0 : Below wr.heap.size wr wr.drew := below_drew (Below.refl _ _)
          have hc9 : wr.drew.cell? ⟨w2.heap.size, 0, none⟩ = some (.slice A2 t.length c2) := B8.out.cell
          go_wp2
          clear hc8
          go_region_with_o (first
            | (go_at_call 75; with_reducible refine (guard_numbers.calls bb x _ (HT.out.go (below_step HB.out (by first | exact hD | exact hC | exact hq0))) HX.out).mono ?_; rintro e w6 ⟨v6, rfl, ho6, hb6⟩; first | (have hA := below_step hD hb6) | (have hA := below_step hC hb6) | (have hA := below_step hq0 hb6); have hc96 : w6.cell? ⟨w2.heap.size, 0, none⟩ = some (.slice A2 t.length c2) := pw_cell_below hA B8.out.cell)
            | (go_at_call 72; with_reducible refine (guard_table_cover.calls 1000 A2 c2 t bb cv _ (Kd.C_below HC2.out (by first | exact hA | exact hq0)) HL2.out HC.out).mono ?_; rintro e w7 ⟨rfl, hd7⟩; first | (have hC := d_below hd7 hA) | (have hC := d_below hd7 hq0))
            | (go_at_call 75; with_reducible refine (guard_numbers.calls cv y _ (HT.out.go (below_step HB.out (by first | exact hA | exact hC))) HY.out).mono ?_; rintro e w8 ⟨v8, rfl, ho8, hb8⟩; first | (have hD := below_step hA hb8) | (have hD := below_step hC hb8)))
          all_goals go_wp2
          all_goals go_ret3
          all_goals refine ⟨v6, v8, rfl, ?_, ?_, below_step HB.out (by first | exact hA | exact hD)⟩
          all_goals first
            | exact Kd.R_lower ho6 (by have h1 := HB.out.size; (try have h2 := hA.size); (try have h3 := hC.size); (try have h4 := hD.size); first | exact h1 | omega)
            | exact Kd.R_lower ho8 (by have h1 := HB.out.size; (try have h2 := hA.size); (try have h3 := hC.size); (try have h4 := hD.size); first | exact h1 | omega)
            | exact Kd.R_lower (Kd.R_below ho6 hb8) (by have h1 := HB.out.size; (try have h2 := hA.size); (try have h3 := hC.size); (try have h4 := hD.size); first | exact h1 | omega)
            | exact Kd.R_lower (Kd.R_below ho6 (below_step (d_below hd7 (Below.refl _ _)) hb8)) (by have h1 := HB.out.size; (try have h2 := hA.size); (try have h3 := hC.size); (try have h4 := hD.size); first | exact h1 | omega)
            | exact Kd.R_lower (Kd.R_below ho8 hb6) (by have h1 := HB.out.size; (try have h2 := hA.size); (try have h3 := hC.size); (try have h4 := hD.size); first | exact h1 | omega)
  · rw [if_neg he] at h
    simp only [Option.some.injEq, Prod.mk.injEq] at h
    obtain ⟨rfl, rfl, rfl⟩ := h
    generalize checkS l0 l1 g0 g1 g2 g3 = e0 at he CK
    have hne : (e0 != 0) = true := bne_iff_ne.mpr he
    clear hr0 hr1 hT_ he
    go_enter Tryd.func35, Tryd.ntmps35
    go_wp2_with (go_at_call 26; refine (CK.out _ HB0.out).mono ?_; rintro e w1 ⟨rfl, hb1⟩; have HB1 := Aside0.mk (below_step HB0.out hb1); clear hb1)
    go_ret3
    exact ⟨_, _, rfl, Kd.R_nil _ _ _ _ _, Kd.R_nil _ _ _ _ _, HB1.out⟩
end Go.Proofs.YtamibghbkjmmeaaDoor.G
end
section
namespace Go.Proofs.YtamibghbkjmmeaaDoor.G
open Go.RowKit Go.Proofs.YtamibghbkjmmeaaDoorW.PrintWords Go.Proofs.YtamibghbkjmmeaaDoorW.PrintLast Go.Proofs.YtamibghbkjmmeaaDoorW.PrintMore
set_option linter.unusedVariables false
set_option linter.unusedSimpArgs false
section
variable {P : Program} {n : Nat}
def marks (Ds : List Nat) : List Deferred := Ds.map (fun D => { target := .collected D, args := #[] })
def MarksOk (B : Nat) (Ds : List Nat) (W : World) : Prop := Ds.Nodup ∧ ∀ D ∈ Ds, B ≤ D ∧ W.heap[D]? = some (.deferred (some []))
theorem MarksOk.nil (B : Nat) (W : World) : MarksOk B [] W := ⟨List.nodup_nil, fun _ h => by simp at h⟩
theorem MarksOk.keep {B : Nat} {Ds : List Nat} {W W' : World} (h : MarksOk B Ds W) (k : KeepsFrom B W W') : MarksOk B Ds W' := ⟨h.1, fun D hD => ⟨(h.2 D hD).1, k.same _ _ (h.2 D hD).1 (h.2 D hD).2 rfl⟩⟩
theorem MarksOk.cons {B D : Nat} {Ds : List Nat} {W : World} (h : MarksOk B Ds W) (hB : B ≤ D) (hD : W.heap[D]? = some (.deferred (some []))) (hn : D ∉ Ds) : MarksOk B (D :: Ds) W :=
  ⟨List.nodup_cons.2 ⟨hn, h.1⟩, fun E hE => by
    rcases List.mem_cons.1 hE with rfl | hE
    · exact ⟨hB, hD⟩
    · exact h.2 E hE⟩
theorem MarksOk.lt {B : Nat} {Ds : List Nat} {W : World} (h : MarksOk B Ds W) : ∀ D ∈ Ds, D < W.heap.size := fun D hD => (Array.getElem?_eq_some_iff.1 (h.2 D hD).2).1
theorem MarksOk.grown {B N : Nat} {Ds : List Nat} {W W' : World} {row : Option Nat} (h : MarksOk B Ds W) (hN : ∀ D ∈ Ds, D < N) (hg : W.grownBy W' row) (hr : ∀ r, row = some r → N ≤ r) : MarksOk B Ds W' :=
  ⟨h.1, fun D hD => ⟨(h.2 D hD).1, (hg.block D (h.lt D hD) (fun e => by have := hr D e.symm; have := hN D hD; omega)).trans (h.2 D hD).2⟩⟩
theorem leaves_marks {fn : Func} {tmps : Array Value} {R : Ending → World → Prop} {B : Nat} (Z : World → Prop) (hZ : ∀ W D o, Z W → B ≤ D → W.heap[D]? = some o → o.isCells = false → Z (W.putObj D (.deferred none)))
    (hR : ∀ W, Z W → ∃ v, (results fn tmps).run P W = .ok v W ∧ R (.returned v) W) : ∀ (Ds : List Nat) (W : World), MarksOk B Ds W → Z W → LeavesInM Fence.wide n P fn tmps R (marks Ds) .returning W
  | [], W, _, z => by
    obtain ⟨v, h1, h2⟩ := hR W z
    exact ⟨v, h1, h2⟩
  | D :: Ds, W, h, z => by
    obtain ⟨hB, hD⟩ := h.2 D (by simp)
    have hn := List.nodup_cons.1 h.1
    refine ⟨by simp, .inl ⟨D, _, rfl, run_takeDeferred hD, leaves_marks Z hZ hR Ds _ ⟨hn.2, fun E hE => ?_⟩ (hZ W D _ z hB hD rfl)⟩⟩
    exact ⟨(h.2 E (by simp [hE])).1, (World.putObj_heap_other (by rintro rfl; exact hn.1 hE)).trans (h.2 E (by simp [hE])).2⟩
end
def postM (P : Program) (fn : Func) (R : Ending → World → Prop) : Exit → Act → World → Prop
  | .normal, a, w | .ret, a, w => LeavesInM Fence.wide 3 P fn a.tmps R a.defers .returning w
  | _, _, _ => False
theorem calls_of_marks {P : Program} {f : FuncId} {fn : Func} {c : Code} {args : Array Value} {w : World} {R : Ending → World → Prop} (hf : P.funcs[f]? = some fn) (hb : fn.body = some c)
    (h : c.wp P (postM P fn R) { tmps := args ++ Array.replicate (fn.ntmps - args.size) undef, defers := [] } w) : Calls P f args w R :=
  (callsIn_wide (n := 3)).1 (callsIn_of_wp_marks hf hb trivial (wpIn_wide.2 (wp_mono h (fun e a w hq => by cases e <;> first | exact hq | exact hq.elim))) rfl)
end Go.Proofs.YtamibghbkjmmeaaDoor.G
end
section
namespace Go.Proofs.YtamibghbkjmmeaaDoor.G
open Go.RowKit Go.Proofs.YtamibghbkjmmeaaDoorW.PrintWords Go.Proofs.YtamibghbkjmmeaaDoorW.PrintLast Go.Proofs.YtamibghbkjmmeaaDoorW.PrintMore
set_option linter.unusedVariables false
set_option linter.unusedSimpArgs false
def TRow (W : World) (v : Value) (t : List Int) (X : Nat → Prop) : Prop :=
  ∃ A c, v = .slice A t.length c ∧ t.length ≤ c ∧ Kd.C (Kd.int .u64) W A t.length t ∧ (t ≠ [] → ∀ ad, A = some ad → X ad.block)
theorem C_same {W W' : World} {A : Option Addr} {n : Nat} {t : List Int} (h : Kd.C (Kd.int .u64) W A n t) (hs : t ≠ [] → ∀ ad, A = some ad → W'.heap[ad.block]? = W.heap[ad.block]?) : Kd.C (Kd.int .u64) W' A n t := by
  refine ⟨h.1, h.2.1, fun hn => ?_⟩
  obtain ⟨ad, e, hc⟩ := h.2.2 hn
  have hne : t ≠ [] := by
    have := h.1
    intro e; subst e; simp at this; omega
  refine ⟨ad, e, fun j p hj => ?_⟩
  obtain ⟨c, h1, h2, h3⟩ := hc j p hj
  exact ⟨c, h1, h2, fun i u hu => (World.cell?_of_block (a := ad.add (j * (Kd.int .u64).sz + i)) (by rw [add_block]; exact hs hne ad e)).trans (h3 i u hu)⟩
theorem TRow.cells {W : World} {v : Value} {t : List Int} {X : Nat → Prop} (h : TRow W v t X) (hne : t ≠ []) : ∃ ad c o, v = .slice (some ad) t.length c ∧ X ad.block ∧ W.heap[ad.block]? = some o ∧ o.isCells = true := by
  obtain ⟨A, c, e, _, hC, hX⟩ := h
  have hn : 0 < t.length := List.length_pos_iff.2 hne
  obtain ⟨ad, rfl, hc⟩ := Kd.at_int hC 0 (by omega) (by omega)
  obtain ⟨o, ho, hoc⟩ := cells_of_cell hc
  exact ⟨ad, c, o, e, hX hne ad rfl, ho, hoc⟩
theorem TRow.step {W W' : World} {v : Value} {t : List Int} {X : Nat → Prop} (h : TRow W v t X) (hs : ∀ k o, X k → W.heap[k]? = some o → o.isCells = true → W'.heap[k]? = some o) : TRow W' v t X := by
  have hc := h.cells
  obtain ⟨A, c, e, hl, hC, hX⟩ := h
  refine ⟨A, c, e, hl, C_same hC (fun hne ad hA => ?_), hX⟩
  obtain ⟨ad', c', o, e', hx, ho, hoc⟩ := hc hne
  rw [e] at e'
  injection e' with e1
  rw [hA] at e1
  cases e1
  rw [hs _ o hx ho hoc, ho]
theorem TRow.mono {W : World} {v : Value} {t : List Int} {X X' : Nat → Prop} (h : TRow W v t X) (hx : ∀ k, X k → k < W.heap.size → X' k) : TRow W v t X' := by
  have hc := h.cells
  obtain ⟨A, c, e, hl, hC, hX⟩ := h
  refine ⟨A, c, e, hl, hC, fun hne ad hA => ?_⟩
  obtain ⟨ad', c', o, e', hx', ho, hoc⟩ := hc hne
  rw [e] at e'
  injection e' with e1
  rw [hA] at e1
  cases e1
  exact hx _ hx' (Array.getElem?_eq_some_iff.1 ho).1
theorem TRow.of_C {W : World} {A : Option Addr} {c : Nat} {t : List Int} (h : Kd.C (Kd.int .u64) W A t.length t) (hl : t.length ≤ c) : TRow W (.slice A t.length c) t (fun k => k < W.heap.size) := by
  refine ⟨A, c, rfl, hl, h, fun hne ad hA => ?_⟩
  have hn : 0 < t.length := List.length_pos_iff.2 hne
  obtain ⟨ad', e, hc⟩ := Kd.at_int h 0 (by omega) (by omega)
  rw [hA] at e
  cases e
  obtain ⟨o, ho, hoc⟩ := cells_of_cell hc
  exact (Array.getElem?_eq_some_iff.1 ho).1
theorem TRow.of_R {W : World} {b : Nat} {ok : Nat → Prop} {v : Value} {t : List Int} (h : Kd.R (Kd.int .u64) 116 W b ok v t) : TRow W v t (fun k => b ≤ k) := by
  obtain ⟨A, c, e, hl, hC⟩ := Kd.R_reads h
  refine ⟨A, c, e, hl, hC, fun _ ad hA => ?_⟩
  obtain ⟨inner, ho⟩ := Kd.R_own h
  exact own_base ho _ (by rw [e, hA]; rfl)
theorem TRow.read {W : World} {v : Value} {t : List Int} {X : Nat → Prop} (h : TRow W v t X) : ∃ A c, v = .slice A t.length c ∧ t.length ≤ c ∧ Kd.C (Kd.int .u64) W A t.length t := by
  obtain ⟨A, c, e, hl, hC, _⟩ := h
  exact ⟨A, c, e, hl, hC⟩
def encP (l : List S85) : List Value := l.flatMap (fun p => [.int .i64 p.f0, .int .i64 p.f1])
theorem own_form {W : World} {b e s n : Nat} {v : Value} {cs : List Value} (h : W.ownsRow b e s v n cs) : ∃ A c, v = .slice A n c := by
  rcases h.2 with ⟨rfl, rfl⟩ | ⟨g, cap, cur, rfl, _⟩
  · exact ⟨none, 0, rfl⟩
  · exact ⟨_, _, rfl⟩
theorem reps_encP (W : World) (b : Nat) (ok : Nat → Prop) : ∀ l : List S85, Reps (k85.M W b ok) 2 l (encP l)
  | [] => Reps.none _ _
  | p :: l => by
    have h := Kd.reps_append (Reps.snoc (Reps.none (k85.M W b ok) 2) (k85_mkM W b ok p) rfl) (reps_encP W b ok l)
    simpa [encP] using h
theorem R_encP {W : World} {b : Nat} {v : Value} {l : List S85} {ok : Nat → Prop} (h : W.ownsRow b 85 2 v l.length (encP l)) (hok : ∀ k, v.ownBlock = some k → ok k) : Kd.R k85 85 W b ok v l := ⟨hok, encP l, h, reps_encP W b _ l⟩
theorem own_step {W W' : World} {b e s n : Nat} {v : Value} {cs : List Value} (h : W.ownsRow b e s v n cs) (hs : ∀ k o, v.ownBlock = some k → W.heap[k]? = some o → o.isCells = true → W'.heap[k]? = some o) : W'.ownsRow b e s v n cs := by
  refine ⟨h.1, ?_⟩
  rcases h.2 with h0 | ⟨g, cap, cur, rfl, h1, h2, h3⟩
  · exact .inl h0
  · exact .inr ⟨g, cap, cur, rfl, h1, hs g _ rfl h2 rfl, h3⟩
theorem own_cells {W : World} {b e s n : Nat} {v : Value} {cs : List Value} (h : W.ownsRow b e s v n cs) : ∀ k, v.ownBlock = some k → b ≤ k ∧ ∃ o, W.heap[k]? = some o ∧ o.isCells = true := by
  rcases h.2 with ⟨rfl, _⟩ | ⟨g, cap, cur, rfl, h1, h2, h3⟩
  · intro k hk; simp [Value.ownBlock] at hk
  · intro k hk
    simp [Value.ownBlock] at hk
    subst hk
    exact ⟨h1, _, h2, rfl⟩
def PInv (w : World) (b1 b2 : Nat) (S : Nat → Prop) (t : List Int) (l : List S85) (W : World) : Prop :=
  Below w.heap.size w W ∧ ∃ vt vl : Value, Boxed W b1 111 vt ∧ Boxed W b2 42 vl ∧ TRow W vt t (fun k => k ≠ b1 ∧ k ≠ b2 ∧ some k ≠ vl.ownBlock ∧ ¬ S k) ∧ W.ownsRow w.heap.size 85 2 vl l.length (encP l) ∧ ∀ k, vl.ownBlock = some k → ¬ S k
theorem PInv.step {w W W' : World} {b1 b2 : Nat} {S : Nat → Prop} {t : List Int} {l : List S85} (h : PInv w b1 b2 S t l W) (hB : Below w.heap.size w W') (h1 : ¬ S b1) (h2 : ¬ S b2)
    (hs : ∀ k o, W.heap[k]? = some o → o.isCells = true → ¬ S k → W'.heap[k]? = some o) : PInv w b1 b2 S t l W' := by
  obtain ⟨_, vt, vl, e1, e2, e3, e4, e5⟩ := h
  exact ⟨hB, vt, vl, hs b1 _ e1 rfl h1, hs b2 _ e2 rfl h2, e3.step (fun k o hk ho hc => hs k o ho hc hk.2.2.2), own_step e4 (fun k o hk ho hc => hs k o ho hc (e5 k hk)), e5⟩
theorem PInv.avoid {w W : World} {b1 b2 : Nat} {S S' : Nat → Prop} {t : List Int} {l : List S85} (h : PInv w b1 b2 S t l W) (hS : ∀ k, S' k → k < W.heap.size → S k) : PInv w b1 b2 S' t l W := by
  obtain ⟨e0, vt, vl, e1, e2, e3, e4, e5⟩ := h
  refine ⟨e0, vt, vl, e1, e2, e3.mono (fun k hk hlt => ⟨hk.1, hk.2.1, hk.2.2.1, fun hs => hk.2.2.2 (hS k hs hlt)⟩), e4, fun k hk hs => e5 k hk (hS k hs ?_)⟩
  obtain ⟨_, o, ho, _⟩ := own_cells e4 k hk
  exact (Array.getElem?_eq_some_iff.1 ho).1
theorem PInv.grown {w W W' : World} {b1 b2 : Nat} {S : Nat → Prop} {t : List Int} {l : List S85} {row : Option Nat} (h : PInv w b1 b2 S t l W) (hg : W.grownBy W' row) (h1 : ¬ S b1) (h2 : ¬ S b2)
    (hr : ∀ r, row = some r → w.heap.size ≤ r ∧ ((∃ o, W.heap[r]? = some o ∧ o.isCells = false) ∨ S r)) : PInv w b1 b2 S t l W' := by
  refine h.step (h.1.grown hg h.1.size (fun k e => (hr k e).1)) h1 h2 (fun k o ho hc hk => (hg.block k (Array.getElem?_eq_some_iff.1 ho).1 (fun e => ?_)).trans ho)
  rcases (hr k e.symm).2 with ⟨o', ho', hc'⟩ | hs
  · rw [ho] at ho'; cases ho'; rw [hc] at hc'; cases hc'
  · exact hk hs
theorem PInv.alloc {w W : World} {b1 b2 : Nat} {S : Nat → Prop} {t : List Int} {l : List S85} (h : PInv w b1 b2 S t l W) (h1 : ¬ S b1) (h2 : ¬ S b2) (o : Obj) : PInv w b1 b2 S t l (W.alloc o) := h.grown (World.grownBy_alloc W o none) h1 h2 (fun r e => by cases e)
theorem PInv.below {w W W' : World} {b1 b2 : Nat} {S : Nat → Prop} {t : List Int} {l : List S85} (h : PInv w b1 b2 S t l W) (h1 : ¬ S b1) (h2 : ¬ S b2) (hb : Below W.heap.size W W') : PInv w b1 b2 S t l W' :=
  h.step (below_step h.1 hb) h1 h2 (fun k o ho _ _ => (hb.block k (Array.getElem?_eq_some_iff.1 ho).1).trans ho)
theorem keepsFrom_below {B : Nat} {W W' : World} (h : Below W.heap.size W W') : KeepsFrom B W W' := ⟨h.size, fun k _ _ hk _ => (h.block k (Array.getElem?_eq_some_iff.1 hk).1).trans hk⟩
theorem cell_two_new (w : World) (x y : Value) (t : TypeId) : ∀ j u, [x, y][j]? = some u → (w.alloc (.cells #[x, y] t)).cell? ((⟨w.heap.size, 0, none⟩ : Addr).add j) = some u := by
  intro j u hj
  have hb := blk_new w (.cells #[x, y] t)
  match j, hj with
  | 0, hj =>
    obtain rfl : x = u := by simpa using hj
    simp [Addr.add]
  | 1, hj =>
    obtain rfl : y = u := by simpa using hj
    simp [Addr.add]
  | j + 2, hj => simp at hj
end Go.Proofs.YtamibghbkjmmeaaDoor.G
end
