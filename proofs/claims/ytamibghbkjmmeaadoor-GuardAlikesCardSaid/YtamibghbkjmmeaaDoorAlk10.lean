/- A part of this claim's proof (F21, F89, F65, F22, F23, H3, QA, QB, L3, HRow); no condition. -/
import Derived.Test.YtamibghbkjmmeaaDoorRows
import Derived.ProofKit
import Derived.OpenShut
import Derived.Deep.DeepHandedRow
import Derived.Lib.LaidTab
import Derived.Carry
import Derived.OpenVars
import Derived.Lib.SmallJoins
import Derived.Deep.Slices
import Derived.Stop.LaidErr
import Derived.ChangeOld
import Derived.Test.YtamibghbkjmmeaaDoorAlk09
section
namespace Go.Proofs.YtamibghbkjmmeaaDoor.G
open Go.RowKit Go.Proofs.YtamibghbkjmmeaaDoorW.PrintWords Go.Proofs.YtamibghbkjmmeaaDoorW.PrintLast Go.Proofs.YtamibghbkjmmeaaDoorW.PrintMore
attribute [local go_sem] max2_int min2_int max_two min_two max_three min_three max_four min_four
set_option linter.unusedVariables false
set_option linter.unusedSimpArgs false
def panacheref06_Gauge.f (a0_0 : Int) (a0_1 : Int) (a0_2 : Int) (a0_3 : Int) : Option (Bool) := (panacheref06_In.f a0_0 0 100).bind fun t255 => (if t255 = true then ((panacheref06_In.f a0_1 0 100).bind fun t256 => (if t256 = true then ((panacheref06_In.f a0_2 0 10000).bind fun t257 => (if t257 = true then ((panacheref06_In.f a0_3 0 500).bind fun t258 => (some t258)) else (some false))) else (some false))) else (some false))
set_option maxHeartbeats 8000000 in
set_option maxRecDepth 100000 in
theorem panacheref06_Gauge.calls (a0_0 : Int) (a0_1 : Int) (a0_2 : Int) (a0_3 : Int) (r : Bool) (w : World) (h : panacheref06_Gauge.f a0_0 a0_1 a0_2 a0_3 = some r) :
    Calls Tryd.prog 21 #[.agg #[.int .i64 a0_0, .int .i64 a0_1, .int .i64 a0_2, .int .i64 a0_3]] w fun e w' => e = .returned (.bool r) ∧ Below w.heap.size w w' := by
  have hu26 := Tryd.underlying26
  have HB := Aside0.mk (Below.refl w.heap.size w)
  have H : ((panacheref06_In.f a0_0 0 100).bind fun t255 => (if t255 = true then ((panacheref06_In.f a0_1 0 100).bind fun t256 => (if t256 = true then ((panacheref06_In.f a0_2 0 10000).bind fun t257 => (if t257 = true then ((panacheref06_In.f a0_3 0 500).bind fun t258 => (some t258)) else (some false))) else (some false))) else (some false))) = some r := h
  clear h
  replace H := Option.bind_eq_some_iff.mp H
  obtain ⟨t255, A20, H⟩ := H
  replace H : (if t255 = true then ((panacheref06_In.f a0_1 0 100).bind fun t256 => (if t256 = true then ((panacheref06_In.f a0_2 0 10000).bind fun t257 => (if t257 = true then ((panacheref06_In.f a0_3 0 500).bind fun t258 => (some t258)) else (some false))) else (some false))) else (some false)) = some r := H
  have A2 := Aside0.mk A20
  clear A20
  by_cases c3 : t255 = true
  · subst c3
    have H1 : ((panacheref06_In.f a0_1 0 100).bind fun t256 => (if t256 = true then ((panacheref06_In.f a0_2 0 10000).bind fun t257 => (if t257 = true then ((panacheref06_In.f a0_3 0 500).bind fun t258 => (some t258)) else (some false))) else (some false))) = some r := by rw [if_pos rfl] at H; exact H
    clear H
    have H := H1
    clear H1
    replace H := Option.bind_eq_some_iff.mp H
    obtain ⟨t256, A40, H⟩ := H
    replace H : (if t256 = true then ((panacheref06_In.f a0_2 0 10000).bind fun t257 => (if t257 = true then ((panacheref06_In.f a0_3 0 500).bind fun t258 => (some t258)) else (some false))) else (some false)) = some r := H
    have A4 := Aside0.mk A40
    clear A40
    by_cases c5 : t256 = true
    · subst c5
      have H1 : ((panacheref06_In.f a0_2 0 10000).bind fun t257 => (if t257 = true then ((panacheref06_In.f a0_3 0 500).bind fun t258 => (some t258)) else (some false))) = some r := by rw [if_pos rfl] at H; exact H
      clear H
      have H := H1
      clear H1
      replace H := Option.bind_eq_some_iff.mp H
      obtain ⟨t257, A60, H⟩ := H
      replace H : (if t257 = true then ((panacheref06_In.f a0_3 0 500).bind fun t258 => (some t258)) else (some false)) = some r := H
      have A6 := Aside0.mk A60
      clear A60
      by_cases c7 : t257 = true
      · subst c7
        have H1 : ((panacheref06_In.f a0_3 0 500).bind fun t258 => (some t258)) = some r := by rw [if_pos rfl] at H; exact H
        clear H
        have H := H1
        clear H1
        replace H := Option.bind_eq_some_iff.mp H
        obtain ⟨t258, A80, H⟩ := H
        replace H : (some t258) = some r := H
        have A8 := Aside0.mk A80
        clear A80
        obtain rfl := Option.some.inj H
        go_enter Tryd.func21, Tryd.ntmps21
        go_wp2_with (first | ((with_reducible refine gate_dst (N := 1) rfl ?_); refine box_event ?hg (N := 1) ?hd (cs := #[.int .i64 a0_0, .int .i64 a0_1, .int .i64 a0_2, .int .i64 a0_3]) (t := 26) ?hr ?_; (case hd => rfl); (case hg => rfl); (case hr => first | (go_simp; done) | (go_simp; rfl)); intro gb254 hg w9 hbox hb; have n0_ := Aside0.mk (below_step (by repeat (first | (with_reducible first | exact HB.out | apply below_alloc | apply pw_below_drewN | apply below_drew1) | exact HB.out)) hb); have n1_ := Aside0.mk (hbox); have n2_ := Aside0.mk ((by rw [hg]; exact (below_size (by repeat (first | (with_reducible first | exact HB.out | apply below_alloc | apply pw_below_drewN | apply below_drew1) | exact HB.out))) : w.heap.size ≤ gb254)); have n3_ := Aside0.mk ((by rw [hg]; exact (below_size (by repeat (first | (with_reducible first | exact HB.out | apply below_alloc | apply pw_below_drewN | apply below_drew1) | exact HB.out))) : w.heap.size ≤ gb254)); clear HB; have HB := n0_; have BK254 := n1_; have GW254 := n2_; have GE254 := n3_; clear n0_ n1_ n2_ n3_; clear hb hbox hg; have hcz10_0 : w9.cell? ⟨gb254, 0, none⟩ = some (.int .i64 a0_0) := (blk_cell BK254.out 0).trans rfl; have hcz10_1 : w9.cell? ⟨gb254, 1, none⟩ = some (.int .i64 a0_1) := (blk_cell BK254.out 1).trans rfl; have hcz10_2 : w9.cell? ⟨gb254, 2, none⟩ = some (.int .i64 a0_2) := (blk_cell BK254.out 2).trans rfl; have hcz10_3 : w9.cell? ⟨gb254, 3, none⟩ = some (.int .i64 a0_3) := (blk_cell BK254.out 3).trans rfl; have hfz10_0 := blk_frozen BK254.out 0; have hfz10_1 := blk_frozen BK254.out 1; have hfz10_2 := blk_frozen BK254.out 2; have hfz10_3 := blk_frozen BK254.out 3) | ((with_reducible refine gate_callee (f := 64) rfl ?_); refine goesL_ (some 5) rfl rfl Tryd.func64 (by kernel_rfl) rfl #[.int .i64 a0_0, .int .i64 0, .int .i64 100] rfl (by (try simp only [List.map_toArray, List.map_cons, List.map_nil]); first | done | rfl | (simp only [List.length_drop, List.length_take]; rfl)) ?_; (with_reducible refine (panacheref06_In.calls a0_0 0 100 true _ A2.out).mono ?_); rintro e w' ⟨rfl, ⟨nd, rfl⟩⟩; refine ⟨_, rfl, ?_⟩) | (go_at_call 64; (with_reducible refine (panacheref06_In.calls a0_1 0 100 true _ A4.out).mono ?_); rintro e w' ⟨rfl, ⟨nd, rfl⟩⟩) | (go_at_call 64; (with_reducible refine (panacheref06_In.calls a0_2 0 10000 true _ A6.out).mono ?_); rintro e w' ⟨rfl, ⟨nd, rfl⟩⟩) | (go_at_call 64; (with_reducible refine (panacheref06_In.calls a0_3 0 500 t258 _ A8.out).mono ?_); rintro e w' ⟨rfl, ⟨nd, rfl⟩⟩))
        go_ret
        exact ⟨by first | rfl | (simp [errW_none, errW_some] <;> rfl) | (simp [*, errW_none, errW_some] <;> rfl), by repeat (first | (with_reducible first | exact HB.out | apply below_alloc | apply pw_below_drewN | apply below_drew1 | refine below_set ?_ GE254.out) | exact HB.out)⟩
      · replace c7 := Bool.eq_false_iff.mpr c7
        subst c7
        have H1 : (some false) = some r := by rw [if_neg (show ¬ (false = true) by decide)] at H; exact H
        clear H
        have H := H1
        clear H1
        obtain rfl := Option.some.inj H
        go_enter Tryd.func21, Tryd.ntmps21
        go_wp2_with (first | ((with_reducible refine gate_dst (N := 1) rfl ?_); refine box_event ?hg (N := 1) ?hd (cs := #[.int .i64 a0_0, .int .i64 a0_1, .int .i64 a0_2, .int .i64 a0_3]) (t := 26) ?hr ?_; (case hd => rfl); (case hg => rfl); (case hr => first | (go_simp; done) | (go_simp; rfl)); intro gb254 hg w11 hbox hb; have n0_ := Aside0.mk (below_step (by repeat (first | (with_reducible first | exact HB.out | apply below_alloc | apply pw_below_drewN | apply below_drew1) | exact HB.out)) hb); have n1_ := Aside0.mk (hbox); have n2_ := Aside0.mk ((by rw [hg]; exact (below_size (by repeat (first | (with_reducible first | exact HB.out | apply below_alloc | apply pw_below_drewN | apply below_drew1) | exact HB.out))) : w.heap.size ≤ gb254)); have n3_ := Aside0.mk ((by rw [hg]; exact (below_size (by repeat (first | (with_reducible first | exact HB.out | apply below_alloc | apply pw_below_drewN | apply below_drew1) | exact HB.out))) : w.heap.size ≤ gb254)); clear HB; have HB := n0_; have BK254 := n1_; have GW254 := n2_; have GE254 := n3_; clear n0_ n1_ n2_ n3_; clear hb hbox hg; have hcz12_0 : w11.cell? ⟨gb254, 0, none⟩ = some (.int .i64 a0_0) := (blk_cell BK254.out 0).trans rfl; have hcz12_1 : w11.cell? ⟨gb254, 1, none⟩ = some (.int .i64 a0_1) := (blk_cell BK254.out 1).trans rfl; have hcz12_2 : w11.cell? ⟨gb254, 2, none⟩ = some (.int .i64 a0_2) := (blk_cell BK254.out 2).trans rfl; have hcz12_3 : w11.cell? ⟨gb254, 3, none⟩ = some (.int .i64 a0_3) := (blk_cell BK254.out 3).trans rfl; have hfz12_0 := blk_frozen BK254.out 0; have hfz12_1 := blk_frozen BK254.out 1; have hfz12_2 := blk_frozen BK254.out 2; have hfz12_3 := blk_frozen BK254.out 3) | ((with_reducible refine gate_callee (f := 64) rfl ?_); refine goesL_ (some 5) rfl rfl Tryd.func64 (by kernel_rfl) rfl #[.int .i64 a0_0, .int .i64 0, .int .i64 100] rfl (by (try simp only [List.map_toArray, List.map_cons, List.map_nil]); first | done | rfl | (simp only [List.length_drop, List.length_take]; rfl)) ?_; (with_reducible refine (panacheref06_In.calls a0_0 0 100 true _ A2.out).mono ?_); rintro e w' ⟨rfl, ⟨nd, rfl⟩⟩; refine ⟨_, rfl, ?_⟩) | (go_at_call 64; (with_reducible refine (panacheref06_In.calls a0_1 0 100 true _ A4.out).mono ?_); rintro e w' ⟨rfl, ⟨nd, rfl⟩⟩) | (go_at_call 64; (with_reducible refine (panacheref06_In.calls a0_2 0 10000 false _ A6.out).mono ?_); rintro e w' ⟨rfl, ⟨nd, rfl⟩⟩))
        go_ret
        exact ⟨by first | rfl | (simp [errW_none, errW_some] <;> rfl) | (simp [*, errW_none, errW_some] <;> rfl), by repeat (first | (with_reducible first | exact HB.out | apply below_alloc | apply pw_below_drewN | apply below_drew1 | refine below_set ?_ GE254.out) | exact HB.out)⟩
    · replace c5 := Bool.eq_false_iff.mpr c5
      subst c5
      have H1 : (some false) = some r := by rw [if_neg (show ¬ (false = true) by decide)] at H; exact H
      clear H
      have H := H1
      clear H1
      obtain rfl := Option.some.inj H
      go_enter Tryd.func21, Tryd.ntmps21
      go_wp2_with (first | ((with_reducible refine gate_dst (N := 1) rfl ?_); refine box_event ?hg (N := 1) ?hd (cs := #[.int .i64 a0_0, .int .i64 a0_1, .int .i64 a0_2, .int .i64 a0_3]) (t := 26) ?hr ?_; (case hd => rfl); (case hg => rfl); (case hr => first | (go_simp; done) | (go_simp; rfl)); intro gb254 hg w13 hbox hb; have n0_ := Aside0.mk (below_step (by repeat (first | (with_reducible first | exact HB.out | apply below_alloc | apply pw_below_drewN | apply below_drew1) | exact HB.out)) hb); have n1_ := Aside0.mk (hbox); have n2_ := Aside0.mk ((by rw [hg]; exact (below_size (by repeat (first | (with_reducible first | exact HB.out | apply below_alloc | apply pw_below_drewN | apply below_drew1) | exact HB.out))) : w.heap.size ≤ gb254)); have n3_ := Aside0.mk ((by rw [hg]; exact (below_size (by repeat (first | (with_reducible first | exact HB.out | apply below_alloc | apply pw_below_drewN | apply below_drew1) | exact HB.out))) : w.heap.size ≤ gb254)); clear HB; have HB := n0_; have BK254 := n1_; have GW254 := n2_; have GE254 := n3_; clear n0_ n1_ n2_ n3_; clear hb hbox hg; have hcz14_0 : w13.cell? ⟨gb254, 0, none⟩ = some (.int .i64 a0_0) := (blk_cell BK254.out 0).trans rfl; have hcz14_1 : w13.cell? ⟨gb254, 1, none⟩ = some (.int .i64 a0_1) := (blk_cell BK254.out 1).trans rfl; have hcz14_2 : w13.cell? ⟨gb254, 2, none⟩ = some (.int .i64 a0_2) := (blk_cell BK254.out 2).trans rfl; have hcz14_3 : w13.cell? ⟨gb254, 3, none⟩ = some (.int .i64 a0_3) := (blk_cell BK254.out 3).trans rfl; have hfz14_0 := blk_frozen BK254.out 0; have hfz14_1 := blk_frozen BK254.out 1; have hfz14_2 := blk_frozen BK254.out 2; have hfz14_3 := blk_frozen BK254.out 3) | ((with_reducible refine gate_callee (f := 64) rfl ?_); refine goesL_ (some 5) rfl rfl Tryd.func64 (by kernel_rfl) rfl #[.int .i64 a0_0, .int .i64 0, .int .i64 100] rfl (by (try simp only [List.map_toArray, List.map_cons, List.map_nil]); first | done | rfl | (simp only [List.length_drop, List.length_take]; rfl)) ?_; (with_reducible refine (panacheref06_In.calls a0_0 0 100 true _ A2.out).mono ?_); rintro e w' ⟨rfl, ⟨nd, rfl⟩⟩; refine ⟨_, rfl, ?_⟩) | (go_at_call 64; (with_reducible refine (panacheref06_In.calls a0_1 0 100 false _ A4.out).mono ?_); rintro e w' ⟨rfl, ⟨nd, rfl⟩⟩))
      go_ret
      exact ⟨by first | rfl | (simp [errW_none, errW_some] <;> rfl) | (simp [*, errW_none, errW_some] <;> rfl), by repeat (first | (with_reducible first | exact HB.out | apply below_alloc | apply pw_below_drewN | apply below_drew1 | refine below_set ?_ GE254.out) | exact HB.out)⟩
  · replace c3 := Bool.eq_false_iff.mpr c3
    subst c3
    have H1 : (some false) = some r := by rw [if_neg (show ¬ (false = true) by decide)] at H; exact H
    clear H
    have H := H1
    clear H1
    obtain rfl := Option.some.inj H
    go_enter Tryd.func21, Tryd.ntmps21
    go_wp2_with (first | ((with_reducible refine gate_dst (N := 1) rfl ?_); refine box_event ?hg (N := 1) ?hd (cs := #[.int .i64 a0_0, .int .i64 a0_1, .int .i64 a0_2, .int .i64 a0_3]) (t := 26) ?hr ?_; (case hd => rfl); (case hg => rfl); (case hr => first | (go_simp; done) | (go_simp; rfl)); intro gb254 hg w15 hbox hb; have n0_ := Aside0.mk (below_step (by repeat (first | (with_reducible first | exact HB.out | apply below_alloc | apply pw_below_drewN | apply below_drew1) | exact HB.out)) hb); have n1_ := Aside0.mk (hbox); have n2_ := Aside0.mk ((by rw [hg]; exact (below_size (by repeat (first | (with_reducible first | exact HB.out | apply below_alloc | apply pw_below_drewN | apply below_drew1) | exact HB.out))) : w.heap.size ≤ gb254)); have n3_ := Aside0.mk ((by rw [hg]; exact (below_size (by repeat (first | (with_reducible first | exact HB.out | apply below_alloc | apply pw_below_drewN | apply below_drew1) | exact HB.out))) : w.heap.size ≤ gb254)); clear HB; have HB := n0_; have BK254 := n1_; have GW254 := n2_; have GE254 := n3_; clear n0_ n1_ n2_ n3_; clear hb hbox hg; have hcz16_0 : w15.cell? ⟨gb254, 0, none⟩ = some (.int .i64 a0_0) := (blk_cell BK254.out 0).trans rfl; have hcz16_1 : w15.cell? ⟨gb254, 1, none⟩ = some (.int .i64 a0_1) := (blk_cell BK254.out 1).trans rfl; have hcz16_2 : w15.cell? ⟨gb254, 2, none⟩ = some (.int .i64 a0_2) := (blk_cell BK254.out 2).trans rfl; have hcz16_3 : w15.cell? ⟨gb254, 3, none⟩ = some (.int .i64 a0_3) := (blk_cell BK254.out 3).trans rfl; have hfz16_0 := blk_frozen BK254.out 0; have hfz16_1 := blk_frozen BK254.out 1; have hfz16_2 := blk_frozen BK254.out 2; have hfz16_3 := blk_frozen BK254.out 3) | ((with_reducible refine gate_callee (f := 64) rfl ?_); refine goesL_ (some 5) rfl rfl Tryd.func64 (by kernel_rfl) rfl #[.int .i64 a0_0, .int .i64 0, .int .i64 100] rfl (by (try simp only [List.map_toArray, List.map_cons, List.map_nil]); first | done | rfl | (simp only [List.length_drop, List.length_take]; rfl)) ?_; (with_reducible refine (panacheref06_In.calls a0_0 0 100 false _ A2.out).mono ?_); rintro e w' ⟨rfl, ⟨nd, rfl⟩⟩; refine ⟨_, rfl, ?_⟩))
    go_ret
    exact ⟨by first | rfl | (simp [errW_none, errW_some] <;> rfl) | (simp [*, errW_none, errW_some] <;> rfl), by repeat (first | (with_reducible first | exact HB.out | apply below_alloc | apply pw_below_drewN | apply below_drew1 | refine below_set ?_ GE254.out) | exact HB.out)⟩
end Go.Proofs.YtamibghbkjmmeaaDoor.G
end
section
namespace Go.Proofs.YtamibghbkjmmeaaDoor.G
open Go.RowKit Go.Proofs.YtamibghbkjmmeaaDoorW.PrintWords Go.Proofs.YtamibghbkjmmeaaDoorW.PrintLast Go.Proofs.YtamibghbkjmmeaaDoorW.PrintMore
attribute [local go_sem] max2_int min2_int max_two min_two max_three min_three max_four min_four
set_option linter.unusedVariables false
set_option linter.unusedSimpArgs false
def panacheref06_Far.f (a0 : Int) (a1 : Int) : Option (Int) := some (wrap64 ((mx a0 a1) - (mn a0 a1)))
set_option maxHeartbeats 8000000 in
set_option maxRecDepth 100000 in
theorem panacheref06_Far.calls (a0 : Int) (a1 : Int) (r : Int) (w : World) (h : panacheref06_Far.f a0 a1 = some r) :
    Calls Tryd.prog 89 #[.int .i64 a0, .int .i64 a1] w fun e w' => e = .returned (.int .i64 r) ∧ Below w.heap.size w w' := by
  have HB := Aside0.mk (Below.refl w.heap.size w)
  have H : (some (wrap64 ((mx a0 a1) - (mn a0 a1)))) = some r := h
  clear h
  obtain ⟨ji3, hji3⟩ : ∃ j_ : Int, (mx a0 a1) = j_ := ⟨_, rfl⟩
  replace H : (some (wrap64 ((ji3) - (mn a0 a1)))) = some r := by first | (rw [hji3] at H; exact H) | (simp only [hji3] at H ⊢; exact H)
  have hji3_ : (if a0 < a1 then a1 else a0) = ji3 := hji3
  obtain ⟨ji4, hji4⟩ : ∃ j_ : Int, (mn a0 a1) = j_ := ⟨_, rfl⟩
  replace H : (some (wrap64 ((ji3) - (ji4)))) = some r := by first | (rw [hji4] at H; exact H) | (simp only [hji4] at H ⊢; exact H)
  have hji4_ : (if a1 < a0 then a1 else a0) = ji4 := hji4
  obtain rfl := Option.some.inj H
  go_enter Tryd.func89, Tryd.ntmps89
  go_wp2
  go_ret
  exact ⟨by first | rfl | (simp [errW_none, errW_some] <;> rfl) | (simp only [← hji3, ← hji4]; first | rfl | (simp [errW_none, errW_some] <;> rfl)) | (simp [*, errW_none, errW_some] <;> rfl), by repeat (first | (with_reducible first | exact HB.out | apply below_alloc | apply pw_below_drewN | apply below_drew1) | exact HB.out)⟩
end Go.Proofs.YtamibghbkjmmeaaDoor.G
end
section
namespace Go.Proofs.YtamibghbkjmmeaaDoor.G
open Go.RowKit Go.Proofs.YtamibghbkjmmeaaDoorW.PrintWords Go.Proofs.YtamibghbkjmmeaaDoorW.PrintLast Go.Proofs.YtamibghbkjmmeaaDoorW.PrintMore
attribute [local go_sem] max2_int min2_int max_two min_two max_three min_three max_four min_four
set_option linter.unusedVariables false
set_option linter.unusedSimpArgs false
def panacheref06_Alike.l0 : Nat → Int → Bool → Int → Int → List Int → Int → List Int → Int → Int → Int → Int → Option (Bool)
  | 0, _, _, _, _, _, _, _, _, _, _, _ => none
  | k + 1, x4, x11, x12, x260000, x260001, x261000, x261001, x262000, x262001, x262002, x262003 => if x12 < (x260001.length : Int) then (if x11 = true then (if 0 ≤ x12 then (if x12 < (x261001.length : Int) then ((panacheref06_Far.f (rd x260001 x12) (rd x261001 x12)).bind fun t265 => (panacheref06_Alike.l0 k x4 (decide ((wrap64 (t265 + x4)) ≤ x262003)) (wrap64 (x12 + 1)) x260000 x260001 x261000 x261001 x262000 x262001 x262002 x262003)) else (none)) else (none)) else (panacheref06_Alike.l0 k x4 false (wrap64 (x12 + 1)) x260000 x260001 x261000 x261001 x262000 x262001 x262002 x262003)) else (some x11)
def panacheref06_Alike.f (k : Nat) (a0_0 : Int) (l0_1 : List Int) (a1_0 : Int) (l1_1 : List Int) (a2_0 : Int) (a2_1 : Int) (a2_2 : Int) (a2_3 : Int) (a3 : Int) (a4 : Int) : Option (Bool) := (panacheref06_Far.f a0_0 a1_0).bind fun t262 => (panacheref06_Alike.l0 k a4 (decide ((wrap64 (t262 + a3)) ≤ a2_2)) 0 a0_0 l0_1 a1_0 l1_1 a2_0 a2_1 a2_2 a2_3)
def panacheref06_Alike.T1 : Bool × List (List Nat × List Nat) := (true, [([], []), ([0], [0]), ([], []), ([2], [2]), ([1, 3], [1, 3]), ([], []), ([4, 5], [4, 5]), ([], []), ([7], [7]), ([6, 8], [6, 8]), ([9, 4, 0, 1, 2, 3, 4, 5, 6, 7, 8, 9], [9])])
def panacheref06_Alike.B1 : List Nat := [0, 1, 0, 4, 15, 0, 63, 0, 128, 511, 1023]
theorem panacheref06_Alike.tab1 : rtab .any (opsOf Tryd.f65 1) = panacheref06_Alike.T1 := by kernel_rfl
theorem panacheref06_Alike.bits1 : waitsOk panacheref06_Alike.T1.2 panacheref06_Alike.B1 = true := by kernel_rfl
def panacheref06_Alike.T5 : Bool × List (List Nat × List Nat) := (true, [([], []), ([0], [0]), ([1], [1]), ([2, 1], [1, 2]), ([1], [1]), ([3, 4, 1], [1, 3, 4]), ([5, 1], [1, 5]), ([1], [1]), ([7, 1], [1, 7]), ([1], [1]), ([8, 9, 1], [1, 8, 9]), ([10, 1], [1, 10]), ([6, 11, 1, 1], [1, 6, 11]), ([1], [1]), ([12, 13, 1], [1, 12, 13]), ([1], [1]), ([15, 1], [1, 15]), ([14, 16, 1], [1, 14, 16]), ([1, 17], [1, 17]), ([18, 12, 0, 1, 2, 3, 4, 5, 6, 7, 8, 9, 10, 11, 12, 13, 14, 15, 16, 17, 18], [0, 18])])
def panacheref06_Alike.B5 : List Nat := [0, 1, 3, 7, 3, 31, 63, 3, 131, 3, 899, 1923, 4095, 3, 16383, 3, 32771, 131071, 262143, 524287]
theorem panacheref06_Alike.tab5 : rtab .any (opsOf Tryd.f65 5) = panacheref06_Alike.T5 := by kernel_rfl
theorem panacheref06_Alike.bits5 : waitsOk panacheref06_Alike.T5.2 panacheref06_Alike.B5 = true := by kernel_rfl
set_option maxHeartbeats 8000000 in
set_option maxRecDepth 100000 in
theorem panacheref06_Alike.calls (k : Nat) (a0_0 : Int) (A0_1 : Option Addr) (c0_1 : Nat) (l0_1 : List Int) (a1_0 : Int) (A1_1 : Option Addr) (c1_1 : Nat) (l1_1 : List Int) (a2_0 : Int) (a2_1 : Int) (a2_2 : Int) (a2_3 : Int) (a3 : Int) (a4 : Int) (r : Bool) (w : World) (hr0_1 : Kd.C (Kd.int .i64) w A0_1 l0_1.length l0_1) (hc0_1 : l0_1.length ≤ c0_1) (hr1_1 : Kd.C (Kd.int .i64) w A1_1 l1_1.length l1_1) (hc1_1 : l1_1.length ≤ c1_1) (h : panacheref06_Alike.f k a0_0 l0_1 a1_0 l1_1 a2_0 a2_1 a2_2 a2_3 a3 a4 = some r) :
    Calls Tryd.prog 65 #[.agg #[.int .i64 a0_0, .slice A0_1 l0_1.length c0_1], .agg #[.int .i64 a1_0, .slice A1_1 l1_1.length c1_1], .agg #[.int .i64 a2_0, .int .i64 a2_1, .int .i64 a2_2, .int .i64 a2_3], .int .i64 a3, .int .i64 a4] w fun e w' => e = .returned (.bool r) ∧ Below w.heap.size w w' := by
  have hu24 := Tryd.underlying24
  have hu26 := Tryd.underlying26
  have HR0_1 := Aside0.mk hr0_1
  have HC0_1 := Aside0.mk hc0_1
  clear hr0_1 hc0_1
  have HR1_1 := Aside0.mk hr1_1
  have HC1_1 := Aside0.mk hc1_1
  clear hr1_1 hc1_1
  have HB := Aside0.mk (Below.refl w.heap.size w)
  have H : ((panacheref06_Far.f a0_0 a1_0).bind fun t262 => (panacheref06_Alike.l0 k a4 (decide ((wrap64 (t262 + a3)) ≤ a2_2)) 0 a0_0 l0_1 a1_0 l1_1 a2_0 a2_1 a2_2 a2_3)) = some r := h
  clear h
  replace H := Option.bind_eq_some_iff.mp H
  obtain ⟨t262, A60, H⟩ := H
  replace H : (panacheref06_Alike.l0 k a4 (decide ((wrap64 (t262 + a3)) ≤ a2_2)) 0 a0_0 l0_1 a1_0 l1_1 a2_0 a2_1 a2_2 a2_3) = some r := H
  have A6 := Aside0.mk A60
  clear A60
  have H' := Aside0.mk H
  clear H
  go_enter Tryd.func65, Tryd.ntmps65
  try go_wp2_with (first | ((with_reducible refine gate_dst (N := 5) rfl ?_); refine box_event ?hg (N := 5) ?hd (cs := #[.int .i64 a0_0, .slice A0_1 l0_1.length c0_1]) (t := 24) ?hr ?_; (case hd => rfl); (case hg => rfl); (case hr => first | (go_simp; done) | (go_simp; rfl)); intro gb259 hg w7 hbox hb; have n0_ := Aside0.mk (below_step (by repeat (first | (with_reducible first | exact HB.out | apply below_alloc | apply pw_below_drewN | apply below_drew1) | exact HB.out)) hb); have n1_ := Aside0.mk (hbox); have n2_ := Aside0.mk ((by rw [hg]; exact (below_size (by repeat (first | (with_reducible first | exact HB.out | apply below_alloc | apply pw_below_drewN | apply below_drew1) | exact HB.out))) : w.heap.size ≤ gb259)); have n3_ := Aside0.mk ((by rw [hg]; exact (below_size (by repeat (first | (with_reducible first | exact HB.out | apply below_alloc | apply pw_below_drewN | apply below_drew1) | exact HB.out))) : w.heap.size ≤ gb259)); clear HB; have HB := n0_; have BK259 := n1_; have GW259 := n2_; have GE259 := n3_; clear n0_ n1_ n2_ n3_; clear hb hbox hg) | ((with_reducible refine gate_dst (N := 6) rfl ?_); refine box_event ?hg (N := 6) ?hd (cs := #[.int .i64 a1_0, .slice A1_1 l1_1.length c1_1]) (t := 24) ?hr ?_; (case hd => rfl); (case hg => rfl); (case hr => first | (go_simp; done) | (go_simp; rfl)); intro gb260 hg w8 hbox hb; have n0_ := Aside0.mk (blk_below (g := gb259) (o := .cells #[.int .i64 a0_0, .slice A0_1 l0_1.length c0_1] 24 (0, 0)) (by (with_reducible repeat (first | refine blk_drewN ?_ _ | refine blk_drew ?_ | refine blk_alloc ?_ _)); exact BK259.out) hb); have n1_ := Aside0.mk (below_step (by repeat (first | (with_reducible first | exact HB.out | apply below_alloc | apply pw_below_drewN | apply below_drew1 | refine below_set ?_ GE259.out) | exact HB.out)) hb); have n2_ := Aside0.mk (hbox); have n3_ := Aside0.mk ((by rw [hg]; exact (below_size (by repeat (first | (with_reducible first | exact HB.out | apply below_alloc | apply pw_below_drewN | apply below_drew1 | refine below_set ?_ GE259.out) | exact HB.out))) : w.heap.size ≤ gb260)); have n4_ := Aside0.mk ((by rw [hg]; exact (below_size (by repeat (first | (with_reducible first | exact HB.out | apply below_alloc | apply pw_below_drewN | apply below_drew1 | refine below_set ?_ GE259.out) | exact HB.out))) : w.heap.size ≤ gb260)); have n5_ := Aside0.mk ((by rw [hg]; exact Nat.ne_of_lt (blk_lt (g := gb259) (o := .cells #[.int .i64 a0_0, .slice A0_1 l0_1.length c0_1] 24 (0, 0)) (by (with_reducible repeat (first | refine blk_drewN ?_ _ | refine blk_drew ?_ | refine blk_alloc ?_ _)); exact BK259.out)) : gb259 ≠ gb260)); have n6_ := Aside0.mk ((by rw [hg]; exact Nat.ne_of_gt (blk_lt (g := gb259) (o := .cells #[.int .i64 a0_0, .slice A0_1 l0_1.length c0_1] 24 (0, 0)) (by (with_reducible repeat (first | refine blk_drewN ?_ _ | refine blk_drew ?_ | refine blk_alloc ?_ _)); exact BK259.out)) : gb260 ≠ gb259)); clear BK259; clear HB; have BK259 := n0_; have HB := n1_; have BK260 := n2_; have GW260 := n3_; have GE260 := n4_; have NB259_260 := n5_; have NB260_259 := n6_; clear n0_ n1_ n2_ n3_ n4_ n5_ n6_; clear hb hbox hg) | ((with_reducible refine gate_dst (N := 7) rfl ?_); refine box_event ?hg (N := 7) ?hd (cs := #[.int .i64 a2_0, .int .i64 a2_1, .int .i64 a2_2, .int .i64 a2_3]) (t := 26) ?hr ?_; (case hd => rfl); (case hg => rfl); (case hr => first | (go_simp; done) | (go_simp; rfl)); intro gb261 hg w9 hbox hb; have n0_ := Aside0.mk (blk_below (g := gb259) (o := .cells #[.int .i64 a0_0, .slice A0_1 l0_1.length c0_1] 24 (0, 0)) (by (with_reducible repeat (first | refine blk_drewN ?_ _ | refine blk_drew ?_ | refine blk_alloc ?_ _)); exact BK259.out) hb); have n1_ := Aside0.mk (blk_below (g := gb260) (o := .cells #[.int .i64 a1_0, .slice A1_1 l1_1.length c1_1] 24 (0, 0)) (by (with_reducible repeat (first | refine blk_drewN ?_ _ | refine blk_drew ?_ | refine blk_alloc ?_ _)); exact BK260.out) hb); have n2_ := Aside0.mk (below_step (by repeat (first | (with_reducible first | exact HB.out | apply below_alloc | apply pw_below_drewN | apply below_drew1 | refine below_set ?_ GE259.out | refine below_set ?_ GE260.out) | exact HB.out)) hb); have n3_ := Aside0.mk (hbox); have n4_ := Aside0.mk ((by rw [hg]; exact (below_size (by repeat (first | (with_reducible first | exact HB.out | apply below_alloc | apply pw_below_drewN | apply below_drew1 | refine below_set ?_ GE259.out | refine below_set ?_ GE260.out) | exact HB.out))) : w.heap.size ≤ gb261)); have n5_ := Aside0.mk ((by rw [hg]; exact (below_size (by repeat (first | (with_reducible first | exact HB.out | apply below_alloc | apply pw_below_drewN | apply below_drew1 | refine below_set ?_ GE259.out | refine below_set ?_ GE260.out) | exact HB.out))) : w.heap.size ≤ gb261)); have n6_ := Aside0.mk ((by rw [hg]; exact Nat.ne_of_lt (blk_lt (g := gb259) (o := .cells #[.int .i64 a0_0, .slice A0_1 l0_1.length c0_1] 24 (0, 0)) (by (with_reducible repeat (first | refine blk_drewN ?_ _ | refine blk_drew ?_ | refine blk_alloc ?_ _)); exact BK259.out)) : gb259 ≠ gb261)); have n7_ := Aside0.mk ((by rw [hg]; exact Nat.ne_of_gt (blk_lt (g := gb259) (o := .cells #[.int .i64 a0_0, .slice A0_1 l0_1.length c0_1] 24 (0, 0)) (by (with_reducible repeat (first | refine blk_drewN ?_ _ | refine blk_drew ?_ | refine blk_alloc ?_ _)); exact BK259.out)) : gb261 ≠ gb259)); have n8_ := Aside0.mk ((by rw [hg]; exact Nat.ne_of_lt (blk_lt (g := gb260) (o := .cells #[.int .i64 a1_0, .slice A1_1 l1_1.length c1_1] 24 (0, 0)) (by (with_reducible repeat (first | refine blk_drewN ?_ _ | refine blk_drew ?_ | refine blk_alloc ?_ _)); exact BK260.out)) : gb260 ≠ gb261)); have n9_ := Aside0.mk ((by rw [hg]; exact Nat.ne_of_gt (blk_lt (g := gb260) (o := .cells #[.int .i64 a1_0, .slice A1_1 l1_1.length c1_1] 24 (0, 0)) (by (with_reducible repeat (first | refine blk_drewN ?_ _ | refine blk_drew ?_ | refine blk_alloc ?_ _)); exact BK260.out)) : gb261 ≠ gb260)); clear BK259; clear BK260; clear HB; have BK259 := n0_; have BK260 := n1_; have HB := n2_; have BK261 := n3_; have GW261 := n4_; have GE261 := n5_; have NB259_261 := n6_; have NB261_259 := n7_; have NB260_261 := n8_; have NB261_260 := n9_; clear n0_ n1_ n2_ n3_ n4_ n5_ n6_ n7_ n8_ n9_; clear hb hbox hg))
  have n0_ := Aside0.mk (blk_drew BK259.out)
  have n1_ := Aside0.mk (blk_drew BK260.out)
  have n2_ := Aside0.mk (blk_drew BK261.out)
  have n3_ := Aside0.mk (below_drew1 HB.out)
  clear BK259
  clear BK260
  clear BK261
  clear HB
  have BK259 := n0_
  have BK260 := n1_
  have BK261 := n2_
  have HB := n3_
  clear n0_ n1_ n2_ n3_
  refine start_ (n := 11) (S := fun w' => w'.cell? ⟨gb259, 0, none⟩ = some (.int .i64 a0_0) ∧ w'.cell? ⟨gb259, 1, none⟩ = some (.slice A0_1 l0_1.length c0_1) ∧ w'.cell? ⟨gb260, 0, none⟩ = some (.int .i64 a1_0) ∧ w'.cell? ⟨gb260, 1, none⟩ = some (.slice A1_1 l1_1.length c1_1) ∧ w'.cell? ⟨gb261, 0, none⟩ = some (.int .i64 a2_0) ∧ w'.cell? ⟨gb261, 1, none⟩ = some (.int .i64 a2_1) ∧ w'.cell? ⟨gb261, 2, none⟩ = some (.int .i64 a2_2) ∧ w'.cell? ⟨gb261, 3, none⟩ = some (.int .i64 a2_3)) (ds := []) (bl 11 0) (by kernel_rfl) rfl rfl ⟨(blk_cell BK259.out 0).trans rfl, (blk_cell BK259.out 1).trans rfl, (blk_cell BK260.out 0).trans rfl, (blk_cell BK260.out 1).trans rfl, (blk_cell BK261.out 0).trans rfl, (blk_cell BK261.out 1).trans rfl, (blk_cell BK261.out 2).trans rfl, (blk_cell BK261.out 3).trans rfl⟩ (fun hHeld => ?_); refine with_tabW panacheref06_Alike.tab1 panacheref06_Alike.bits1 (fun HT_ HW_ => ?_)
  generalize w9.drew = w10 at BK259 BK260 BK261 HB hHeld ⊢
  refine pure_ (i := 0) (N := some 13) (v := ?_) (a' := ?_) (bl 11 1) rfl rfl (any_of HT_.out (by kernel_rfl)) (fun _ _ _ h => h) (Or.inl ⟨by rfl, ?_⟩) ?_ ?_
  rotate_left
  · intro w'
    go_simp
    with_reducible rfl
  rotate_left
  · simp only [Act.put, List.setIfInBounds_toArray, List.set_cons_zero, List.set_cons_succ, i64_w, i32_w]
    rfl
  refine pure_ (i := 2) (N := some 15) (v := ?_) (a' := ?_) (bl 11 5) rfl rfl (any_of HT_.out (by kernel_rfl)) (fun _ _ _ h => h) (Or.inl ⟨by rfl, ?_⟩) ?_ ?_
  rotate_left
  · intro w'
    go_simp
    with_reducible rfl
  rotate_left
  · simp only [Act.put, List.setIfInBounds_toArray, List.set_cons_zero, List.set_cons_succ, i64_w, i32_w]
    rfl
  refine pure_ (i := 5) (N := some 18) (v := ?_) (a' := ?_) (bl 11 37) rfl rfl (any_of HT_.out (by kernel_rfl)) (fun _ _ _ h => h) (Or.inl ⟨by rfl, ?_⟩) ?_ ?_
  rotate_left
  · intro w'
    go_simp
    with_reducible rfl
  rotate_left
  · simp only [Act.put, List.setIfInBounds_toArray, List.set_cons_zero, List.set_cons_succ, i64_w, i32_w]
    rfl
  refine pure_ (i := 7) (N := some 20) (v := ?_) (a' := ?_) (bl 11 165) rfl rfl (any_of HT_.out (by kernel_rfl)) (fun _ _ _ h => h) (Or.inl ⟨by rfl, ?_⟩) ?_ ?_
  rotate_left
  · intro w'
    go_simp
    with_reducible rfl
  rotate_left
  · simp only [Act.put, List.setIfInBounds_toArray, List.set_cons_zero, List.set_cons_succ, i64_w, i32_w]
    rfl
  refine take_ (i := 1) (N := some 14) (v := ?_) (a' := ?_) (bl 11 167) rfl rfl (take_ofW HT_.out HW_.out (by kernel_rfl)) (fun _ _ _ h => h) (Or.inl ⟨by rfl, ?_⟩) hHeld ?_ ?_
  rotate_left
  · rintro w' ⟨s0, s1, s2, s3, s4, s5, s6, s7⟩
    go_simp
    with_reducible rfl
  rotate_left
  · simp only [Act.put, List.setIfInBounds_toArray, List.set_cons_zero, List.set_cons_succ, i64_w, i32_w]
    rfl
  refine take_ (i := 3) (N := some 16) (v := ?_) (a' := ?_) (bl 11 175) rfl rfl (take_ofW HT_.out HW_.out (by kernel_rfl)) (fun _ _ _ h => h) (Or.inl ⟨by rfl, ?_⟩) hHeld ?_ ?_
  rotate_left
  · rintro w' ⟨s0, s1, s2, s3, s4, s5, s6, s7⟩
    go_simp
    with_reducible rfl
  rotate_left
  · simp only [Act.put, List.setIfInBounds_toArray, List.set_cons_zero, List.set_cons_succ, i64_w, i32_w]
    rfl
  refine take_ (i := 8) (N := some 21) (v := ?_) (a' := ?_) (bl 11 431) rfl rfl (take_ofW HT_.out HW_.out (by kernel_rfl)) (fun _ _ _ h => h) (Or.inl ⟨by rfl, ?_⟩) hHeld ?_ ?_
  rotate_left
  · rintro w' ⟨s0, s1, s2, s3, s4, s5, s6, s7⟩
    go_simp
    with_reducible rfl
  rotate_left
  · simp only [Act.put, List.setIfInBounds_toArray, List.set_cons_zero, List.set_cons_succ, i64_w, i32_w]
    rfl
  refine one_ (i := 4) (N := some 17) (bl 11 447) rfl rfl (one_of HT_.out (by kernel_rfl)) (by decide) (fun K hK => ?_)
  refine goes_ Tryd.func89 (by kernel_rfl) rfl #[.int .i64 a0_0, .int .i64 a1_0] (by rfl) rfl rfl (by (try simp only [List.map_toArray, List.map_cons, List.map_nil]); first | done | rfl | (simp only [List.length_drop, List.length_take]; rfl)) ?_
  with_reducible refine (panacheref06_Far.calls a0_0 a1_0 t262 _ A6.out).mono ?_
  rintro e w11 ⟨rfl, hb⟩
  refine ⟨_, rfl, ?_⟩
  have n0_ := Aside0.mk (blk_below (g := gb259) (o := .cells #[.int .i64 a0_0, .slice A0_1 l0_1.length c0_1] 24 (0, 0)) (by (with_reducible repeat (first | refine blk_drewN ?_ _ | refine blk_drew ?_ | refine blk_alloc ?_ _)); exact BK259.out) hb)
  have n1_ := Aside0.mk (blk_below (g := gb260) (o := .cells #[.int .i64 a1_0, .slice A1_1 l1_1.length c1_1] 24 (0, 0)) (by (with_reducible repeat (first | refine blk_drewN ?_ _ | refine blk_drew ?_ | refine blk_alloc ?_ _)); exact BK260.out) hb)
  have n2_ := Aside0.mk (blk_below (g := gb261) (o := .cells #[.int .i64 a2_0, .int .i64 a2_1, .int .i64 a2_2, .int .i64 a2_3] 26 (0, 0)) (by (with_reducible repeat (first | refine blk_drewN ?_ _ | refine blk_drew ?_ | refine blk_alloc ?_ _)); exact BK261.out) hb)
  have n3_ := Aside0.mk (below_step (by repeat (first | (with_reducible first | exact HB.out | apply below_alloc | apply pw_below_drewN | apply below_drew1 | refine below_set ?_ GE259.out | refine below_set ?_ GE260.out | refine below_set ?_ GE261.out) | exact HB.out)) hb)
  clear BK259
  clear BK260
  clear BK261
  clear HB
  have BK259 := n0_
  have BK260 := n1_
  have BK261 := n2_
  have HB := n3_
  clear n0_ n1_ n2_ n3_
  (try clear hb)
  (try clear hb2)
  (try clear hk)
  (try clear hi)
  refine hK.out _ _ ⟨(blk_cell BK259.out 0).trans rfl, (blk_cell BK259.out 1).trans rfl, (blk_cell BK260.out 0).trans rfl, (blk_cell BK260.out 1).trans rfl, (blk_cell BK261.out 0).trans rfl, (blk_cell BK261.out 1).trans rfl, (blk_cell BK261.out 2).trans rfl, (blk_cell BK261.out 3).trans rfl⟩ (fun hHeld => ?_)
  clear hK K
  refine nS 17 ?_
  refine pure_ (i := 6) (N := some 19) (v := ?_) (a' := ?_) (bl 11 511) rfl rfl (any_of HT_.out (by kernel_rfl)) (fun _ _ _ h => h) (Or.inl ⟨by rfl, ?_⟩) ?_ ?_
  rotate_left
  · intro w'
    go_simp
    with_reducible rfl
  rotate_left
  · simp only [Act.put, List.setIfInBounds_toArray, List.set_cons_zero, List.set_cons_succ, i64_w, i32_w]
    rfl
  refine pure_ (i := 9) (N := some 22) (v := ?_) (a' := ?_) (bl 11 1023) rfl rfl (any_of HT_.out (by kernel_rfl)) (fun _ _ _ h => h) (Or.inl ⟨by rfl, ?_⟩) ?_ ?_
  rotate_left
  · intro w'
    go_simp
    with_reducible rfl
  rotate_left
  · simp only [Act.put, List.setIfInBounds_toArray, List.set_cons_zero, List.set_cons_succ, i64_w, i32_w]
    rfl
  refine pure_ (i := 10) (N := some 11) (v := ?_) (a' := ?_) (bl 11 2047) rfl rfl (any_of HT_.out (by kernel_rfl)) (fun _ _ _ h => h) (Or.inl ⟨by rfl, ?_⟩) ?_ ?_
  rotate_left
  · intro w'
    go_simp
    with_reducible rfl
  rotate_left
  · simp only [Act.put, List.setIfInBounds_toArray, List.set_cons_zero, List.set_cons_succ, i64_w, i32_w]
    rfl
  refine done_ (done_of HT_.out (by kernel_rfl)) ?_
  try go_wp2
  go_loopg [11, 12] k (fun kq v11 v12 w' => ∃ (x11_1 : Bool) (x12_1 : Int), v11 = .bool x11_1 ∧ v12 = .int .i64 x12_1 ∧ Aside0 (panacheref06_Alike.l0 kq a4 x11_1 x12_1 a0_0 l0_1 a1_0 l1_1 a2_0 a2_1 a2_2 a2_3 = some r) ∧ Aside0 (kq ≤ k) ∧ Aside0 (w'.heap[gb259]? = some (.cells #[.int .i64 a0_0, (.slice A0_1 l0_1.length c0_1)] 24 (0, 0))) ∧ Aside0 (w'.heap[gb260]? = some (.cells #[.int .i64 a1_0, (.slice A1_1 l1_1.length c1_1)] 24 (0, 0))) ∧ Aside0 (w'.heap[gb261]? = some (.cells #[.int .i64 a2_0, .int .i64 a2_1, .int .i64 a2_2, .int .i64 a2_3] 26 (0, 0))) ∧ Aside0 (Below w.heap.size w w'))
  case atStart => exact ⟨(decide ((wrap64 (t262 + a3)) ≤ a2_2)), (0), (by first | rfl | (simp; done) | (simp [*]; done)), (by first | rfl | (simp; done) | (simp [*]; done)), H', ⟨Nat.le_refl _⟩, ⟨by (with_reducible repeat (first | refine blk_drewN ?_ _ | refine blk_drew ?_ | refine blk_alloc ?_ _)); exact BK259.out⟩, ⟨by (with_reducible repeat (first | refine blk_drewN ?_ _ | refine blk_drew ?_ | refine blk_alloc ?_ _)); exact BK260.out⟩, ⟨by (with_reducible repeat (first | refine blk_drewN ?_ _ | refine blk_drew ?_ | refine blk_alloc ?_ _)); exact BK261.out⟩, ⟨by repeat (first | (with_reducible first | exact HB.out | apply below_alloc | apply pw_below_drewN | apply below_drew1 | refine below_set ?_ GE259.out | refine below_set ?_ GE260.out | refine below_set ?_ GE261.out) | exact HB.out)⟩⟩
  case round =>
    clear H'
    try clear c1
    try clear p2
    try clear c6
    try clear p6
    try clear c8
    obtain ⟨x11_1, x12_1, rfl, rfl, HA, HK1, BK259, BK260, BK261, HB⟩ := hrel
    cases gk with
    | zero => exact absurd HA.out (by simp [panacheref06_Alike.l0])
    | succ k1 =>
      have H := HA.out
      clear HA
      simp only [panacheref06_Alike.l0] at H
      by_cases c12 : x12_1 < (l0_1.length : Int)
      · rw [if_pos c12] at H
        have c12b0 : decide (x12_1 < (l0_1.length : Int)) = true := decide_eq_true c12
        clear c12
        by_cases c13 : x11_1 = true
        · subst c13
          have H1 : (if 0 ≤ x12_1 then (if x12_1 < (l1_1.length : Int) then ((panacheref06_Far.f (rd l0_1 x12_1) (rd l1_1 x12_1)).bind fun t265 => (panacheref06_Alike.l0 k1 a4 (decide ((wrap64 (t265 + a4)) ≤ a2_3)) (wrap64 (x12_1 + 1)) a0_0 l0_1 a1_0 l1_1 a2_0 a2_1 a2_2 a2_3)) else (none)) else (none)) = some r := by rw [if_pos rfl] at H; exact H
          clear H
          have H := H1
          clear H1
          by_cases c14 : 0 ≤ x12_1
          · rw [if_pos c14] at H
            have c14b0 : decide (0 ≤ x12_1) = true := decide_eq_true c14
            clear c14
            by_cases c15 : x12_1 < (l1_1.length : Int)
            · rw [if_pos c15] at H
              have c15b0 : decide (x12_1 < (l1_1.length : Int)) = true := decide_eq_true c15
              clear c15
              replace H := Option.bind_eq_some_iff.mp H
              obtain ⟨t265, A160, H⟩ := H
              replace H : (panacheref06_Alike.l0 k1 a4 (decide ((wrap64 (t265 + a4)) ≤ a2_3)) (wrap64 (x12_1 + 1)) a0_0 l0_1 a1_0 l1_1 a2_0 a2_1 a2_2 a2_3) = some r := H
              have A16 := Aside0.mk A160
              clear A160
              have H' := Aside0.mk H
              clear H
              have hnb17 := NB259_260.out
              have hnc17 := NB260_259.out
              have hnb18 := NB259_261.out
              have hnc18 := NB261_259.out
              have hcz19_0 : wr.cell? ⟨gb259, 0, none⟩ = some (.int .i64 a0_0) := (blk_cell BK259.out 0).trans rfl
              have hcz19_1 : wr.cell? ⟨gb259, 1, none⟩ = some (.slice A0_1 l0_1.length c0_1) := (blk_cell BK259.out 1).trans rfl
              have hfz19_0 := blk_frozen BK259.out 0
              have hfz19_1 := blk_frozen BK259.out 1
              try go_wp2
              have n0_ := Aside0.mk (blk_drew BK259.out)
              have n1_ := Aside0.mk (blk_drew BK260.out)
              have n2_ := Aside0.mk (blk_drew BK261.out)
              have n3_ := Aside0.mk (below_drew1 HB.out)
              clear BK259
              clear BK260
              clear BK261
              clear HB
              have BK259 := n0_
              have BK260 := n1_
              have BK261 := n2_
              have HB := n3_
              clear n0_ n1_ n2_ n3_
              have p263 : 0 ≤ (x12_1 : Int) := of_decide_eq_true (by first | (with_reducible assumption) | assumption)
              have q263 : x12_1 < (l0_1.length : Int) := of_decide_eq_true (by first | (with_reducible assumption) | assumption)
              obtain ⟨ad263, e263, hx263_0⟩ := Kd.at_int HR0_1.out x12_1 p263 q263
              have hw263_0 := hx263_0
              cases e263
              replace hx263_0 := (HB.out.cell (World.block_lt_of_cell? w _ hx263_0)).trans hx263_0
              replace p263 := eq_true p263
              replace q263 := eq_true q263
              have p264 : 0 ≤ (x12_1 : Int) := of_decide_eq_true (by first | (with_reducible assumption) | assumption)
              have q264 : x12_1 < (l1_1.length : Int) := of_decide_eq_true (by first | (with_reducible assumption) | assumption)
              obtain ⟨ad264, e264, hx264_0⟩ := Kd.at_int HR1_1.out x12_1 p264 q264
              have hw264_0 := hx264_0
              cases e264
              replace hx264_0 := (HB.out.cell (World.block_lt_of_cell? w _ hx264_0)).trans hx264_0
              replace p264 := eq_true p264
              replace q264 := eq_true q264
              refine start_ (n := 20) (S := fun w' => w'.cell? ⟨gb259, 0, none⟩ = some (.int .i64 a0_0) ∧ w'.cell? ⟨gb259, 1, none⟩ = some (.slice (some ad263) l0_1.length c0_1) ∧ w'.cell? ⟨gb260, 0, none⟩ = some (.int .i64 a1_0) ∧ w'.cell? ⟨gb260, 1, none⟩ = some (.slice (some ad264) l1_1.length c1_1) ∧ w'.cell? ⟨gb261, 0, none⟩ = some (.int .i64 a2_0) ∧ w'.cell? ⟨gb261, 1, none⟩ = some (.int .i64 a2_1) ∧ w'.cell? ⟨gb261, 2, none⟩ = some (.int .i64 a2_2) ∧ w'.cell? ⟨gb261, 3, none⟩ = some (.int .i64 a2_3) ∧ w'.cell? (ad263.add (x12_1).toNat) = some (.int .i64 (rd l0_1 x12_1)) ∧ w'.cell? (ad264.add (x12_1).toNat) = some (.int .i64 (rd l1_1 x12_1))) (ds := []) (bl 20 0) (by kernel_rfl) rfl rfl ⟨(blk_cell BK259.out 0).trans rfl, (blk_cell BK259.out 1).trans rfl, (blk_cell BK260.out 0).trans rfl, (blk_cell BK260.out 1).trans rfl, (blk_cell BK261.out 0).trans rfl, (blk_cell BK261.out 1).trans rfl, (blk_cell BK261.out 2).trans rfl, (blk_cell BK261.out 3).trans rfl, ((HB.out.cell (World.block_lt_of_cell? w _ hw263_0)).trans hw263_0), ((HB.out.cell (World.block_lt_of_cell? w _ hw264_0)).trans hw264_0)⟩ (fun hHeld => ?_); refine with_tabW panacheref06_Alike.tab5 panacheref06_Alike.bits5 (fun HT_ HW_ => ?_)
              generalize wr.drew = w20 at BK259 BK260 BK261 HB hx263_0 hx264_0 hHeld ⊢
              refine pure_ (i := 0) (N := some 30) (v := ?_) (a' := ?_) (bl 20 1) rfl rfl (any_of HT_.out (by kernel_rfl)) (fun _ _ _ h => h) (Or.inl ⟨by rfl, ?_⟩) ?_ ?_
              rotate_left
              · intro w'
                go_simp
                with_reducible rfl
              rotate_left
              · simp only [Act.put, List.setIfInBounds_toArray, List.set_cons_zero, List.set_cons_succ, i64_w, i32_w]
                rfl
              refine pure_ (i := 1) (N := some 31) (v := ?_) (a' := ?_) (bl 20 3) rfl rfl (any_of HT_.out (by kernel_rfl)) (fun _ _ _ h => h) (Or.inl ⟨by rfl, ?_⟩) ?_ ?_
              rotate_left
              · intro w'
                go_simp
                with_reducible rfl
              rotate_left
              · simp only [Act.put, List.setIfInBounds_toArray, List.set_cons_zero, List.set_cons_succ, i64_w, i32_w]
                rfl
              refine pure_ (i := 2) (N := some 32) (v := ?_) (a' := ?_) (bl 20 7) rfl rfl (any_of HT_.out (by kernel_rfl)) (fun _ _ _ h => h) (Or.inl ⟨by rfl, ?_⟩) ?_ ?_
              rotate_left
              · intro w'
                go_simp
                with_reducible rfl
              rotate_left
              · simp only [Act.put, List.setIfInBounds_toArray, List.set_cons_zero, List.set_cons_succ, i64_w, i32_w]
                rfl
              refine pure_ (i := 4) (N := some 34) (v := ?_) (a' := ?_) (bl 20 23) rfl rfl (any_of HT_.out (by kernel_rfl)) (fun _ _ _ h => h) (Or.inl ⟨by rfl, ?_⟩) ?_ ?_
              rotate_left
              · intro w'
                go_simp
                with_reducible rfl
              rotate_left
              · simp only [Act.put, List.setIfInBounds_toArray, List.set_cons_zero, List.set_cons_succ, i64_w, i32_w]
                rfl
              refine pure_ (i := 7) (N := some 37) (v := ?_) (a' := ?_) (bl 20 151) rfl rfl (any_of HT_.out (by kernel_rfl)) (fun _ _ _ h => h) (Or.inl ⟨by rfl, ?_⟩) ?_ ?_
              rotate_left
              · intro w'
                go_simp
                with_reducible rfl
              rotate_left
              · simp only [Act.put, List.setIfInBounds_toArray, List.set_cons_zero, List.set_cons_succ, i64_w, i32_w]
                rfl
              refine pure_ (i := 9) (N := some 39) (v := ?_) (a' := ?_) (bl 20 663) rfl rfl (any_of HT_.out (by kernel_rfl)) (fun _ _ _ h => h) (Or.inl ⟨by rfl, ?_⟩) ?_ ?_
              rotate_left
              · intro w'
                go_simp
                with_reducible rfl
              rotate_left
              · simp only [Act.put, List.setIfInBounds_toArray, List.set_cons_zero, List.set_cons_succ, i64_w, i32_w]
                rfl
              refine pure_ (i := 13) (N := some 43) (v := ?_) (a' := ?_) (bl 20 8855) rfl rfl (any_of HT_.out (by kernel_rfl)) (fun _ _ _ h => h) (Or.inl ⟨by rfl, ?_⟩) ?_ ?_
              rotate_left
              · intro w'
                go_simp
                with_reducible rfl
              rotate_left
              · simp only [Act.put, List.setIfInBounds_toArray, List.set_cons_zero, List.set_cons_succ, i64_w, i32_w]
                rfl
              refine pure_ (i := 15) (N := some 45) (v := ?_) (a' := ?_) (bl 20 41623) rfl rfl (any_of HT_.out (by kernel_rfl)) (fun _ _ _ h => h) (Or.inl ⟨by rfl, ?_⟩) ?_ ?_
              rotate_left
              · intro w'
                go_simp
                with_reducible rfl
              rotate_left
              · simp only [Act.put, List.setIfInBounds_toArray, List.set_cons_zero, List.set_cons_succ, i64_w, i32_w]
                rfl
              refine take_ (i := 3) (N := some 33) (v := ?_) (a' := ?_) (bl 20 41631) rfl rfl (take_ofW HT_.out HW_.out (by kernel_rfl)) (fun _ _ _ h => h) (Or.inl ⟨by rfl, ?_⟩) hHeld ?_ ?_
              rotate_left
              · rintro w' ⟨s0, s1, s2, s3, s4, s5, s6, s7, s8, s9⟩
                go_simp
                with_reducible rfl
              rotate_left
              · simp only [Act.put, List.setIfInBounds_toArray, List.set_cons_zero, List.set_cons_succ, i64_w, i32_w]
                rfl
              refine pure_ (i := 5) (N := some 35) (v := ?_) (a' := ?_) (bl 20 41663) rfl rfl (any_of HT_.out (by kernel_rfl)) (fun _ _ _ h => h) (Or.inl ⟨by rfl, ?_⟩) ?_ ?_
              rotate_left
              · intro w'
                go_simp
                with_reducible rfl
              rotate_left
              · simp only [Act.put, List.setIfInBounds_toArray, List.set_cons_zero, List.set_cons_succ, i64_w, i32_w]
                rfl
              refine take_ (i := 6) (N := some 36) (v := ?_) (a' := ?_) (bl 20 41727) rfl rfl (take_ofW HT_.out HW_.out (by kernel_rfl)) (fun _ _ _ h => h) (Or.inl ⟨by rfl, ?_⟩) hHeld ?_ ?_
              rotate_left
              · rintro w' ⟨s0, s1, s2, s3, s4, s5, s6, s7, s8, s9⟩
                go_simp
                with_reducible rfl
              rotate_left
              · simp only [Act.put, List.setIfInBounds_toArray, List.set_cons_zero, List.set_cons_succ, i64_w, i32_w]
                rfl
              refine take_ (i := 8) (N := some 38) (v := ?_) (a' := ?_) (bl 20 41983) rfl rfl (take_ofW HT_.out HW_.out (by kernel_rfl)) (fun _ _ _ h => h) (Or.inl ⟨by rfl, ?_⟩) hHeld ?_ ?_
              rotate_left
              · rintro w' ⟨s0, s1, s2, s3, s4, s5, s6, s7, s8, s9⟩
                go_simp
                with_reducible rfl
              rotate_left
              · simp only [Act.put, List.setIfInBounds_toArray, List.set_cons_zero, List.set_cons_succ, i64_w, i32_w]
                rfl
              refine pure_ (i := 10) (N := some 40) (v := ?_) (a' := ?_) (bl 20 43007) rfl rfl (any_of HT_.out (by kernel_rfl)) (fun _ _ _ h => h) (Or.inl ⟨by rfl, ?_⟩) ?_ ?_
              rotate_left
              · intro w'
                go_simp
                with_reducible rfl
              rotate_left
              · simp only [Act.put, List.setIfInBounds_toArray, List.set_cons_zero, List.set_cons_succ, i64_w, i32_w]
                rfl
              refine take_ (i := 11) (N := some 41) (v := ?_) (a' := ?_) (bl 20 45055) rfl rfl (take_ofW HT_.out HW_.out (by kernel_rfl)) (fun _ _ _ h => h) (Or.inl ⟨by rfl, ?_⟩) hHeld ?_ ?_
              rotate_left
              · rintro w' ⟨s0, s1, s2, s3, s4, s5, s6, s7, s8, s9⟩
                go_simp
                with_reducible rfl
              rotate_left
              · simp only [Act.put, List.setIfInBounds_toArray, List.set_cons_zero, List.set_cons_succ, i64_w, i32_w]
                rfl
              refine take_ (i := 16) (N := some 46) (v := ?_) (a' := ?_) (bl 20 110591) rfl rfl (take_ofW HT_.out HW_.out (by kernel_rfl)) (fun _ _ _ h => h) (Or.inl ⟨by rfl, ?_⟩) hHeld ?_ ?_
              rotate_left
              · rintro w' ⟨s0, s1, s2, s3, s4, s5, s6, s7, s8, s9⟩
                go_simp
                with_reducible rfl
              rotate_left
              · simp only [Act.put, List.setIfInBounds_toArray, List.set_cons_zero, List.set_cons_succ, i64_w, i32_w]
                rfl
              refine one_ (i := 12) (N := some 42) (bl 20 114687) rfl rfl (one_of HT_.out (by kernel_rfl)) (by decide) (fun K hK => ?_)
              refine goes_ Tryd.func89 (by kernel_rfl) rfl #[.int .i64 (rd l0_1 x12_1), .int .i64 (rd l1_1 x12_1)] (by rfl) rfl rfl (by (try simp only [List.map_toArray, List.map_cons, List.map_nil]); first | done | rfl | (simp only [List.length_drop, List.length_take]; rfl)) ?_
              with_reducible refine (panacheref06_Far.calls (rd l0_1 x12_1) (rd l1_1 x12_1) t265 _ A16.out).mono ?_
              rintro e w21 ⟨rfl, hb⟩
              refine ⟨_, rfl, ?_⟩
              have n0_ := Aside0.mk (blk_below (g := gb259) (o := .cells #[.int .i64 a0_0, .slice (some ad263) l0_1.length c0_1] 24 (0, 0)) (by (with_reducible repeat (first | refine blk_drewN ?_ _ | refine blk_drew ?_ | refine blk_alloc ?_ _)); exact BK259.out) hb)
              have n1_ := Aside0.mk (blk_below (g := gb260) (o := .cells #[.int .i64 a1_0, .slice (some ad264) l1_1.length c1_1] 24 (0, 0)) (by (with_reducible repeat (first | refine blk_drewN ?_ _ | refine blk_drew ?_ | refine blk_alloc ?_ _)); exact BK260.out) hb)
              have n2_ := Aside0.mk (blk_below (g := gb261) (o := .cells #[.int .i64 a2_0, .int .i64 a2_1, .int .i64 a2_2, .int .i64 a2_3] 26 (0, 0)) (by (with_reducible repeat (first | refine blk_drewN ?_ _ | refine blk_drew ?_ | refine blk_alloc ?_ _)); exact BK261.out) hb)
              have n3_ := Aside0.mk (below_step (by repeat (first | (with_reducible first | exact HB.out | apply below_alloc | apply pw_below_drewN | apply below_drew1 | refine below_set ?_ GE259.out | refine below_set ?_ GE260.out | refine below_set ?_ GE261.out) | exact HB.out)) hb)
              clear BK259
              clear BK260
              clear BK261
              clear HB
              have BK259 := n0_
              have BK260 := n1_
              have BK261 := n2_
              have HB := n3_
              clear n0_ n1_ n2_ n3_
              (try clear hb)
              (try clear hb2)
              (try clear hk)
              (try clear hi)
              refine hK.out _ _ ⟨(blk_cell BK259.out 0).trans rfl, (blk_cell BK259.out 1).trans rfl, (blk_cell BK260.out 0).trans rfl, (blk_cell BK260.out 1).trans rfl, (blk_cell BK261.out 0).trans rfl, (blk_cell BK261.out 1).trans rfl, (blk_cell BK261.out 2).trans rfl, (blk_cell BK261.out 3).trans rfl, ((HB.out.cell (World.block_lt_of_cell? w _ hw263_0)).trans hw263_0), ((HB.out.cell (World.block_lt_of_cell? w _ hw264_0)).trans hw264_0)⟩ (fun hHeld => ?_)
              clear hK K
              refine nS 42 ?_
              refine pure_ (i := 14) (N := some 44) (v := ?_) (a' := ?_) (bl 20 131071) rfl rfl (any_of HT_.out (by kernel_rfl)) (fun _ _ _ h => h) (Or.inl ⟨by rfl, ?_⟩) ?_ ?_
              rotate_left
              · intro w'
                go_simp
                with_reducible rfl
              rotate_left
              · simp only [Act.put, List.setIfInBounds_toArray, List.set_cons_zero, List.set_cons_succ, i64_w, i32_w]
                rfl
              refine pure_ (i := 17) (N := some 47) (v := ?_) (a' := ?_) (bl 20 262143) rfl rfl (any_of HT_.out (by kernel_rfl)) (fun _ _ _ h => h) (Or.inl ⟨by rfl, ?_⟩) ?_ ?_
              rotate_left
              · intro w'
                go_simp
                with_reducible rfl
              rotate_left
              · simp only [Act.put, List.setIfInBounds_toArray, List.set_cons_zero, List.set_cons_succ, i64_w, i32_w]
                rfl
              refine pure_ (i := 18) (N := some 48) (v := ?_) (a' := ?_) (bl 20 524287) rfl rfl (any_of HT_.out (by kernel_rfl)) (fun _ _ _ h => h) (Or.inl ⟨by rfl, ?_⟩) ?_ ?_
              rotate_left
              · intro w'
                go_simp
                with_reducible rfl
              rotate_left
              · simp only [Act.put, List.setIfInBounds_toArray, List.set_cons_zero, List.set_cons_succ, i64_w, i32_w]
                rfl
              refine pure_ (i := 19) (N := some 11) (v := ?_) (a' := ?_) (bl 20 1048575) rfl rfl (any_of HT_.out (by kernel_rfl)) (fun _ _ _ h => h) (Or.inl ⟨by rfl, ?_⟩) ?_ ?_
              rotate_left
              · intro w'
                go_simp
                with_reducible rfl
              rotate_left
              · simp only [Act.put, List.setIfInBounds_toArray, List.set_cons_zero, List.set_cons_succ, i64_w, i32_w]
                rfl
              refine done_ (done_of HT_.out (by kernel_rfl)) ?_
              try go_wp2
              go_roundg k1
              case measure => have := HK1.out; omega
              case rel => exact ⟨(decide ((wrap64 (t265 + a4)) ≤ a2_3)), (wrap64 (x12_1 + 1)), (by first | rfl | (simp; done) | (simp [*]; done)), (by first | rfl | (simp; done) | (simp [*]; done)), H', ⟨by have := HK1.out; omega⟩, ⟨by (with_reducible repeat (first | refine blk_drewN ?_ _ | refine blk_drew ?_ | refine blk_alloc ?_ _)); exact BK259.out⟩, ⟨by (with_reducible repeat (first | refine blk_drewN ?_ _ | refine blk_drew ?_ | refine blk_alloc ?_ _)); exact BK260.out⟩, ⟨by (with_reducible repeat (first | refine blk_drewN ?_ _ | refine blk_drew ?_ | refine blk_alloc ?_ _)); exact BK261.out⟩, ⟨by repeat (first | (with_reducible first | exact HB.out | apply below_alloc | apply pw_below_drewN | apply below_drew1 | refine below_set ?_ GE259.out | refine below_set ?_ GE260.out | refine below_set ?_ GE261.out) | exact HB.out)⟩⟩
            · rw [if_neg c15] at H
              exact absurd H (by simp)
          · rw [if_neg c14] at H
            exact absurd H (by simp)
        · replace c13 := Bool.eq_false_iff.mpr c13
          subst c13
          have H1 : (panacheref06_Alike.l0 k1 a4 false (wrap64 (x12_1 + 1)) a0_0 l0_1 a1_0 l1_1 a2_0 a2_1 a2_2 a2_3) = some r := by rw [if_neg (show ¬ (false = true) by decide)] at H; exact H
          clear H
          have H := H1
          clear H1
          have H' := Aside0.mk H
          clear H
          have hnb22 := NB259_260.out
          have hnc22 := NB260_259.out
          have hnb23 := NB259_261.out
          have hnc23 := NB261_259.out
          have hcz24_0 : wr.cell? ⟨gb259, 0, none⟩ = some (.int .i64 a0_0) := (blk_cell BK259.out 0).trans rfl
          have hcz24_1 : wr.cell? ⟨gb259, 1, none⟩ = some (.slice A0_1 l0_1.length c0_1) := (blk_cell BK259.out 1).trans rfl
          have hfz24_0 := blk_frozen BK259.out 0
          have hfz24_1 := blk_frozen BK259.out 1
          try go_wp2
          have n0_ := Aside0.mk (blk_drew BK259.out)
          have n1_ := Aside0.mk (blk_drew BK260.out)
          have n2_ := Aside0.mk (blk_drew BK261.out)
          have n3_ := Aside0.mk (below_drew1 HB.out)
          clear BK259
          clear BK260
          clear BK261
          clear HB
          have BK259 := n0_
          have BK260 := n1_
          have BK261 := n2_
          have HB := n3_
          clear n0_ n1_ n2_ n3_
          refine start_ (n := 20) (S := fun w' => True) (ds := []) (bl 20 0) (by kernel_rfl) rfl rfl trivial (fun hHeld => ?_); refine with_tabW panacheref06_Alike.tab5 panacheref06_Alike.bits5 (fun HT_ HW_ => ?_)
          generalize wr.drew = w25 at BK259 BK260 BK261 HB hHeld ⊢
          refine pure_ (i := 0) (N := some 30) (v := ?_) (a' := ?_) (bl 20 1) rfl rfl (any_of HT_.out (by kernel_rfl)) (fun _ _ _ h => h) (Or.inl ⟨by rfl, ?_⟩) ?_ ?_
          rotate_left
          · intro w'
            go_simp
            with_reducible rfl
          rotate_left
          · simp only [Act.put, List.setIfInBounds_toArray, List.set_cons_zero, List.set_cons_succ, i64_w, i32_w]
            rfl
          refine pure_ (i := 1) (N := some 31) (v := ?_) (a' := ?_) (bl 20 3) rfl rfl (any_of HT_.out (by kernel_rfl)) (fun _ _ _ h => h) (Or.inl ⟨by rfl, ?_⟩) ?_ ?_
          rotate_left
          · intro w'
            go_simp
            with_reducible rfl
          rotate_left
          · simp only [Act.put, List.setIfInBounds_toArray, List.set_cons_zero, List.set_cons_succ, i64_w, i32_w]
            rfl
          refine pure_ (i := 2) (N := some 32) (v := undef) (a' := ?_) (bl 20 7) rfl rfl (any_of HT_.out (by kernel_rfl)) (fun _ _ _ h => h) (Or.inr ⟨by rfl, rfl⟩) ?_ ?_
          rotate_left
          · simp only [Act.put, List.setIfInBounds_toArray, List.set_cons_zero, List.set_cons_succ, i64_w, i32_w]
            rfl
          refine pure_ (i := 3) (N := some 33) (v := undef) (a' := ?_) (bl 20 15) rfl rfl (any_of HT_.out (by kernel_rfl)) (fun _ _ _ h => h) (Or.inr ⟨by rfl, rfl⟩) ?_ ?_
          rotate_left
          · simp only [Act.put, List.setIfInBounds_toArray, List.set_cons_zero, List.set_cons_succ, i64_w, i32_w]
            rfl
          refine pure_ (i := 4) (N := some 34) (v := undef) (a' := ?_) (bl 20 31) rfl rfl (any_of HT_.out (by kernel_rfl)) (fun _ _ _ h => h) (Or.inr ⟨by rfl, rfl⟩) ?_ ?_
          rotate_left
          · simp only [Act.put, List.setIfInBounds_toArray, List.set_cons_zero, List.set_cons_succ, i64_w, i32_w]
            rfl
          refine pure_ (i := 5) (N := some 35) (v := undef) (a' := ?_) (bl 20 63) rfl rfl (any_of HT_.out (by kernel_rfl)) (fun _ _ _ h => h) (Or.inr ⟨by rfl, rfl⟩) ?_ ?_
          rotate_left
          · simp only [Act.put, List.setIfInBounds_toArray, List.set_cons_zero, List.set_cons_succ, i64_w, i32_w]
            rfl
          refine pure_ (i := 6) (N := some 36) (v := undef) (a' := ?_) (bl 20 127) rfl rfl (any_of HT_.out (by kernel_rfl)) (fun _ _ _ h => h) (Or.inr ⟨by rfl, rfl⟩) ?_ ?_
          rotate_left
          · simp only [Act.put, List.setIfInBounds_toArray, List.set_cons_zero, List.set_cons_succ, i64_w, i32_w]
            rfl
          refine pure_ (i := 7) (N := some 37) (v := undef) (a' := ?_) (bl 20 255) rfl rfl (any_of HT_.out (by kernel_rfl)) (fun _ _ _ h => h) (Or.inr ⟨by rfl, rfl⟩) ?_ ?_
          rotate_left
          · simp only [Act.put, List.setIfInBounds_toArray, List.set_cons_zero, List.set_cons_succ, i64_w, i32_w]
            rfl
          refine pure_ (i := 8) (N := some 38) (v := undef) (a' := ?_) (bl 20 511) rfl rfl (any_of HT_.out (by kernel_rfl)) (fun _ _ _ h => h) (Or.inr ⟨by rfl, rfl⟩) ?_ ?_
          rotate_left
          · simp only [Act.put, List.setIfInBounds_toArray, List.set_cons_zero, List.set_cons_succ, i64_w, i32_w]
            rfl
          refine pure_ (i := 9) (N := some 39) (v := undef) (a' := ?_) (bl 20 1023) rfl rfl (any_of HT_.out (by kernel_rfl)) (fun _ _ _ h => h) (Or.inr ⟨by rfl, rfl⟩) ?_ ?_
          rotate_left
          · simp only [Act.put, List.setIfInBounds_toArray, List.set_cons_zero, List.set_cons_succ, i64_w, i32_w]
            rfl
          refine pure_ (i := 10) (N := some 40) (v := undef) (a' := ?_) (bl 20 2047) rfl rfl (any_of HT_.out (by kernel_rfl)) (fun _ _ _ h => h) (Or.inr ⟨by rfl, rfl⟩) ?_ ?_
          rotate_left
          · simp only [Act.put, List.setIfInBounds_toArray, List.set_cons_zero, List.set_cons_succ, i64_w, i32_w]
            rfl
          refine pure_ (i := 11) (N := some 41) (v := undef) (a' := ?_) (bl 20 4095) rfl rfl (any_of HT_.out (by kernel_rfl)) (fun _ _ _ h => h) (Or.inr ⟨by rfl, rfl⟩) ?_ ?_
          rotate_left
          · simp only [Act.put, List.setIfInBounds_toArray, List.set_cons_zero, List.set_cons_succ, i64_w, i32_w]
            rfl
          refine pure_ (i := 12) (N := some 42) (v := undef) (a' := ?_) (bl 20 8191) rfl rfl (any_of HT_.out (by kernel_rfl)) (fun _ _ _ h => h) (Or.inr ⟨by rfl, rfl⟩) ?_ ?_
          rotate_left
          · simp only [Act.put, List.setIfInBounds_toArray, List.set_cons_zero, List.set_cons_succ, i64_w, i32_w]
            rfl
          refine pure_ (i := 13) (N := some 43) (v := undef) (a' := ?_) (bl 20 16383) rfl rfl (any_of HT_.out (by kernel_rfl)) (fun _ _ _ h => h) (Or.inr ⟨by rfl, rfl⟩) ?_ ?_
          rotate_left
          · simp only [Act.put, List.setIfInBounds_toArray, List.set_cons_zero, List.set_cons_succ, i64_w, i32_w]
            rfl
          refine pure_ (i := 14) (N := some 44) (v := undef) (a' := ?_) (bl 20 32767) rfl rfl (any_of HT_.out (by kernel_rfl)) (fun _ _ _ h => h) (Or.inr ⟨by rfl, rfl⟩) ?_ ?_
          rotate_left
          · simp only [Act.put, List.setIfInBounds_toArray, List.set_cons_zero, List.set_cons_succ, i64_w, i32_w]
            rfl
          refine pure_ (i := 15) (N := some 45) (v := undef) (a' := ?_) (bl 20 65535) rfl rfl (any_of HT_.out (by kernel_rfl)) (fun _ _ _ h => h) (Or.inr ⟨by rfl, rfl⟩) ?_ ?_
          rotate_left
          · simp only [Act.put, List.setIfInBounds_toArray, List.set_cons_zero, List.set_cons_succ, i64_w, i32_w]
            rfl
          refine pure_ (i := 16) (N := some 46) (v := undef) (a' := ?_) (bl 20 131071) rfl rfl (any_of HT_.out (by kernel_rfl)) (fun _ _ _ h => h) (Or.inr ⟨by rfl, rfl⟩) ?_ ?_
          rotate_left
          · simp only [Act.put, List.setIfInBounds_toArray, List.set_cons_zero, List.set_cons_succ, i64_w, i32_w]
            rfl
          refine pure_ (i := 17) (N := some 47) (v := undef) (a' := ?_) (bl 20 262143) rfl rfl (any_of HT_.out (by kernel_rfl)) (fun _ _ _ h => h) (Or.inr ⟨by rfl, rfl⟩) ?_ ?_
          rotate_left
          · simp only [Act.put, List.setIfInBounds_toArray, List.set_cons_zero, List.set_cons_succ, i64_w, i32_w]
            rfl
          refine pure_ (i := 18) (N := some 48) (v := ?_) (a' := ?_) (bl 20 524287) rfl rfl (any_of HT_.out (by kernel_rfl)) (fun _ _ _ h => h) (Or.inl ⟨by rfl, ?_⟩) ?_ ?_
          rotate_left
          · intro w'
            go_simp
            with_reducible rfl
          rotate_left
          · simp only [Act.put, List.setIfInBounds_toArray, List.set_cons_zero, List.set_cons_succ, i64_w, i32_w]
            rfl
          refine pure_ (i := 19) (N := some 11) (v := ?_) (a' := ?_) (bl 20 1048575) rfl rfl (any_of HT_.out (by kernel_rfl)) (fun _ _ _ h => h) (Or.inl ⟨by rfl, ?_⟩) ?_ ?_
          rotate_left
          · intro w'
            go_simp
            with_reducible rfl
          rotate_left
          · simp only [Act.put, List.setIfInBounds_toArray, List.set_cons_zero, List.set_cons_succ, i64_w, i32_w]
            rfl
          refine done_ (done_of HT_.out (by kernel_rfl)) ?_
          try go_wp2
          go_roundg k1
          case measure => have := HK1.out; omega
          case rel => exact ⟨(false), (wrap64 (x12_1 + 1)), (by first | rfl | (simp; done) | (simp [*]; done)), (by first | rfl | (simp; done) | (simp [*]; done)), H', ⟨by have := HK1.out; omega⟩, ⟨by (with_reducible repeat (first | refine blk_drewN ?_ _ | refine blk_drew ?_ | refine blk_alloc ?_ _)); exact BK259.out⟩, ⟨by (with_reducible repeat (first | refine blk_drewN ?_ _ | refine blk_drew ?_ | refine blk_alloc ?_ _)); exact BK260.out⟩, ⟨by (with_reducible repeat (first | refine blk_drewN ?_ _ | refine blk_drew ?_ | refine blk_alloc ?_ _)); exact BK261.out⟩, ⟨by repeat (first | (with_reducible first | exact HB.out | apply below_alloc | apply pw_below_drewN | apply below_drew1 | refine below_set ?_ GE259.out | refine below_set ?_ GE260.out | refine below_set ?_ GE261.out) | exact HB.out)⟩⟩
      · rw [if_neg c12] at H
        have c12b0 : decide (x12_1 < (l0_1.length : Int)) = false := decide_eq_false c12
        clear c12
        obtain rfl := Option.some.inj H
        have hnb26 := NB259_260.out
        have hnc26 := NB260_259.out
        have hnb27 := NB259_261.out
        have hnc27 := NB261_259.out
        have hcz28_0 : wr.cell? ⟨gb259, 0, none⟩ = some (.int .i64 a0_0) := (blk_cell BK259.out 0).trans rfl
        have hcz28_1 : wr.cell? ⟨gb259, 1, none⟩ = some (.slice A0_1 l0_1.length c0_1) := (blk_cell BK259.out 1).trans rfl
        have hfz28_0 := blk_frozen BK259.out 0
        have hfz28_1 := blk_frozen BK259.out 1
        go_wp2
        go_ret
        exact ⟨by first | rfl | (simp [errW_none, errW_some] <;> rfl) | (simp [*, errW_none, errW_some] <;> rfl), by repeat (first | (with_reducible first | exact HB.out | apply below_alloc | apply pw_below_drewN | apply below_drew1 | refine below_set ?_ GE259.out | refine below_set ?_ GE260.out | refine below_set ?_ GE261.out) | exact HB.out)⟩
end Go.Proofs.YtamibghbkjmmeaaDoor.G
end
section
namespace Go.Proofs.YtamibghbkjmmeaaDoor.G
open Go.RowKit Go.Proofs.YtamibghbkjmmeaaDoorW.PrintWords Go.Proofs.YtamibghbkjmmeaaDoorW.PrintLast Go.Proofs.YtamibghbkjmmeaaDoorW.PrintMore
attribute [local go_sem] max2_int min2_int max_two min_two max_three min_three max_four min_four
set_option linter.unusedVariables false
set_option linter.unusedSimpArgs false
def panacheref06_Surely.f (k : Nat) (a0_0 : Int) (l0_1 : List Int) (a1_0 : Int) (l1_1 : List Int) (a2_0 : Int) (a2_1 : Int) (a2_2 : Int) (a2_3 : Int) : Option (Bool) := (panacheref06_Alike.f k a0_0 l0_1 a1_0 l1_1 a2_0 a2_1 a2_2 a2_3 (wrap64 (2 * a2_0)) (wrap64 (2 * a2_1))).bind fun t269 => (some t269)
set_option maxHeartbeats 8000000 in
set_option maxRecDepth 100000 in
theorem panacheref06_Surely.calls (k : Nat) (a0_0 : Int) (A0_1 : Option Addr) (c0_1 : Nat) (l0_1 : List Int) (a1_0 : Int) (A1_1 : Option Addr) (c1_1 : Nat) (l1_1 : List Int) (a2_0 : Int) (a2_1 : Int) (a2_2 : Int) (a2_3 : Int) (r : Bool) (w : World) (hr0_1 : Kd.C (Kd.int .i64) w A0_1 l0_1.length l0_1) (hc0_1 : l0_1.length ≤ c0_1) (hr1_1 : Kd.C (Kd.int .i64) w A1_1 l1_1.length l1_1) (hc1_1 : l1_1.length ≤ c1_1) (h : panacheref06_Surely.f k a0_0 l0_1 a1_0 l1_1 a2_0 a2_1 a2_2 a2_3 = some r) :
    Calls Tryd.prog 22 #[.agg #[.int .i64 a0_0, .slice A0_1 l0_1.length c0_1], .agg #[.int .i64 a1_0, .slice A1_1 l1_1.length c1_1], .agg #[.int .i64 a2_0, .int .i64 a2_1, .int .i64 a2_2, .int .i64 a2_3]] w fun e w' => e = .returned (.bool r) ∧ Below w.heap.size w w' := by
  have hu24 := Tryd.underlying24
  have hu26 := Tryd.underlying26
  have HR0_1 := Aside0.mk hr0_1
  have HC0_1 := Aside0.mk hc0_1
  clear hr0_1 hc0_1
  have HR1_1 := Aside0.mk hr1_1
  have HC1_1 := Aside0.mk hc1_1
  clear hr1_1 hc1_1
  have HB := Aside0.mk (Below.refl w.heap.size w)
  have H : ((panacheref06_Alike.f k a0_0 l0_1 a1_0 l1_1 a2_0 a2_1 a2_2 a2_3 (wrap64 (2 * a2_0)) (wrap64 (2 * a2_1))).bind fun t269 => (some t269)) = some r := h
  clear h
  replace H := Option.bind_eq_some_iff.mp H
  obtain ⟨t269, A40, H⟩ := H
  replace H : (some t269) = some r := H
  have A4 := Aside0.mk A40
  clear A40
  obtain rfl := Option.some.inj H
  go_enter Tryd.func22, Tryd.ntmps22
  go_wp2_with (first | ((with_reducible refine gate_dst (N := 3) rfl ?_); refine box_event ?hg (N := 3) ?hd (cs := #[.int .i64 a0_0, .slice A0_1 l0_1.length c0_1]) (t := 24) ?hr ?_; (case hd => rfl); (case hg => rfl); (case hr => first | (go_simp; done) | (go_simp; rfl)); intro gb266 hg w5 hbox hb; have n0_ := Aside0.mk (below_step (by repeat (first | (with_reducible first | exact HB.out | apply below_alloc | apply pw_below_drewN | apply below_drew1) | exact HB.out)) hb); have n1_ := Aside0.mk (hbox); have n2_ := Aside0.mk ((by rw [hg]; exact (below_size (by repeat (first | (with_reducible first | exact HB.out | apply below_alloc | apply pw_below_drewN | apply below_drew1) | exact HB.out))) : w.heap.size ≤ gb266)); have n3_ := Aside0.mk ((by rw [hg]; exact (below_size (by repeat (first | (with_reducible first | exact HB.out | apply below_alloc | apply pw_below_drewN | apply below_drew1) | exact HB.out))) : w.heap.size ≤ gb266)); clear HB; have HB := n0_; have BK266 := n1_; have GW266 := n2_; have GE266 := n3_; clear n0_ n1_ n2_ n3_; clear hb hbox hg) | ((with_reducible refine gate_dst (N := 4) rfl ?_); refine box_event ?hg (N := 4) ?hd (cs := #[.int .i64 a1_0, .slice A1_1 l1_1.length c1_1]) (t := 24) ?hr ?_; (case hd => rfl); (case hg => rfl); (case hr => first | (go_simp; done) | (go_simp; rfl)); intro gb267 hg w6 hbox hb; have n0_ := Aside0.mk (blk_below (g := gb266) (o := .cells #[.int .i64 a0_0, .slice A0_1 l0_1.length c0_1] 24 (0, 0)) (by (with_reducible repeat (first | refine blk_drewN ?_ _ | refine blk_drew ?_ | refine blk_alloc ?_ _)); exact BK266.out) hb); have n1_ := Aside0.mk (below_step (by repeat (first | (with_reducible first | exact HB.out | apply below_alloc | apply pw_below_drewN | apply below_drew1 | refine below_set ?_ GE266.out) | exact HB.out)) hb); have n2_ := Aside0.mk (hbox); have n3_ := Aside0.mk ((by rw [hg]; exact (below_size (by repeat (first | (with_reducible first | exact HB.out | apply below_alloc | apply pw_below_drewN | apply below_drew1 | refine below_set ?_ GE266.out) | exact HB.out))) : w.heap.size ≤ gb267)); have n4_ := Aside0.mk ((by rw [hg]; exact (below_size (by repeat (first | (with_reducible first | exact HB.out | apply below_alloc | apply pw_below_drewN | apply below_drew1 | refine below_set ?_ GE266.out) | exact HB.out))) : w.heap.size ≤ gb267)); have n5_ := Aside0.mk ((by rw [hg]; exact Nat.ne_of_lt (blk_lt (g := gb266) (o := .cells #[.int .i64 a0_0, .slice A0_1 l0_1.length c0_1] 24 (0, 0)) (by (with_reducible repeat (first | refine blk_drewN ?_ _ | refine blk_drew ?_ | refine blk_alloc ?_ _)); exact BK266.out)) : gb266 ≠ gb267)); have n6_ := Aside0.mk ((by rw [hg]; exact Nat.ne_of_gt (blk_lt (g := gb266) (o := .cells #[.int .i64 a0_0, .slice A0_1 l0_1.length c0_1] 24 (0, 0)) (by (with_reducible repeat (first | refine blk_drewN ?_ _ | refine blk_drew ?_ | refine blk_alloc ?_ _)); exact BK266.out)) : gb267 ≠ gb266)); clear BK266; clear HB; have BK266 := n0_; have HB := n1_; have BK267 := n2_; have GW267 := n3_; have GE267 := n4_; have NB266_267 := n5_; have NB267_266 := n6_; clear n0_ n1_ n2_ n3_ n4_ n5_ n6_; clear hb hbox hg) | ((with_reducible refine gate_dst (N := 5) rfl ?_); refine box_event ?hg (N := 5) ?hd (cs := #[.int .i64 a2_0, .int .i64 a2_1, .int .i64 a2_2, .int .i64 a2_3]) (t := 26) ?hr ?_; (case hd => rfl); (case hg => rfl); (case hr => first | (go_simp; done) | (go_simp; rfl)); intro gb268 hg w7 hbox hb; have n0_ := Aside0.mk (blk_below (g := gb266) (o := .cells #[.int .i64 a0_0, .slice A0_1 l0_1.length c0_1] 24 (0, 0)) (by (with_reducible repeat (first | refine blk_drewN ?_ _ | refine blk_drew ?_ | refine blk_alloc ?_ _)); exact BK266.out) hb); have n1_ := Aside0.mk (blk_below (g := gb267) (o := .cells #[.int .i64 a1_0, .slice A1_1 l1_1.length c1_1] 24 (0, 0)) (by (with_reducible repeat (first | refine blk_drewN ?_ _ | refine blk_drew ?_ | refine blk_alloc ?_ _)); exact BK267.out) hb); have n2_ := Aside0.mk (below_step (by repeat (first | (with_reducible first | exact HB.out | apply below_alloc | apply pw_below_drewN | apply below_drew1 | refine below_set ?_ GE266.out | refine below_set ?_ GE267.out) | exact HB.out)) hb); have n3_ := Aside0.mk (hbox); have n4_ := Aside0.mk ((by rw [hg]; exact (below_size (by repeat (first | (with_reducible first | exact HB.out | apply below_alloc | apply pw_below_drewN | apply below_drew1 | refine below_set ?_ GE266.out | refine below_set ?_ GE267.out) | exact HB.out))) : w.heap.size ≤ gb268)); have n5_ := Aside0.mk ((by rw [hg]; exact (below_size (by repeat (first | (with_reducible first | exact HB.out | apply below_alloc | apply pw_below_drewN | apply below_drew1 | refine below_set ?_ GE266.out | refine below_set ?_ GE267.out) | exact HB.out))) : w.heap.size ≤ gb268)); have n6_ := Aside0.mk ((by rw [hg]; exact Nat.ne_of_lt (blk_lt (g := gb266) (o := .cells #[.int .i64 a0_0, .slice A0_1 l0_1.length c0_1] 24 (0, 0)) (by (with_reducible repeat (first | refine blk_drewN ?_ _ | refine blk_drew ?_ | refine blk_alloc ?_ _)); exact BK266.out)) : gb266 ≠ gb268)); have n7_ := Aside0.mk ((by rw [hg]; exact Nat.ne_of_gt (blk_lt (g := gb266) (o := .cells #[.int .i64 a0_0, .slice A0_1 l0_1.length c0_1] 24 (0, 0)) (by (with_reducible repeat (first | refine blk_drewN ?_ _ | refine blk_drew ?_ | refine blk_alloc ?_ _)); exact BK266.out)) : gb268 ≠ gb266)); have n8_ := Aside0.mk ((by rw [hg]; exact Nat.ne_of_lt (blk_lt (g := gb267) (o := .cells #[.int .i64 a1_0, .slice A1_1 l1_1.length c1_1] 24 (0, 0)) (by (with_reducible repeat (first | refine blk_drewN ?_ _ | refine blk_drew ?_ | refine blk_alloc ?_ _)); exact BK267.out)) : gb267 ≠ gb268)); have n9_ := Aside0.mk ((by rw [hg]; exact Nat.ne_of_gt (blk_lt (g := gb267) (o := .cells #[.int .i64 a1_0, .slice A1_1 l1_1.length c1_1] 24 (0, 0)) (by (with_reducible repeat (first | refine blk_drewN ?_ _ | refine blk_drew ?_ | refine blk_alloc ?_ _)); exact BK267.out)) : gb268 ≠ gb267)); clear BK266; clear BK267; clear HB; have BK266 := n0_; have BK267 := n1_; have HB := n2_; have BK268 := n3_; have GW268 := n4_; have GE268 := n5_; have NB266_268 := n6_; have NB268_266 := n7_; have NB267_268 := n8_; have NB268_267 := n9_; clear n0_ n1_ n2_ n3_ n4_ n5_ n6_ n7_ n8_ n9_; clear hb hbox hg; have hnb8 := NB266_267.out; have hnc8 := NB267_266.out; have hnb9 := NB266_268.out; have hnc9 := NB268_266.out; have hcz10_0 : w7.cell? ⟨gb266, 0, none⟩ = some (.int .i64 a0_0) := (blk_cell BK266.out 0).trans rfl; have hcz10_1 : w7.cell? ⟨gb266, 1, none⟩ = some (.slice A0_1 l0_1.length c0_1) := (blk_cell BK266.out 1).trans rfl; have hfz10_0 := blk_frozen BK266.out 0; have hfz10_1 := blk_frozen BK266.out 1; have hnb11 := NB267_268.out; have hnc11 := NB268_267.out; have hcz12_0 : w7.cell? ⟨gb267, 0, none⟩ = some (.int .i64 a1_0) := (blk_cell BK267.out 0).trans rfl; have hcz12_1 : w7.cell? ⟨gb267, 1, none⟩ = some (.slice A1_1 l1_1.length c1_1) := (blk_cell BK267.out 1).trans rfl; have hfz12_0 := blk_frozen BK267.out 0; have hfz12_1 := blk_frozen BK267.out 1; have hcz13_0 : w7.cell? ⟨gb268, 0, none⟩ = some (.int .i64 a2_0) := (blk_cell BK268.out 0).trans rfl; have hcz13_1 : w7.cell? ⟨gb268, 1, none⟩ = some (.int .i64 a2_1) := (blk_cell BK268.out 1).trans rfl; have hcz13_2 : w7.cell? ⟨gb268, 2, none⟩ = some (.int .i64 a2_2) := (blk_cell BK268.out 2).trans rfl; have hcz13_3 : w7.cell? ⟨gb268, 3, none⟩ = some (.int .i64 a2_3) := (blk_cell BK268.out 3).trans rfl; have hfz13_0 := blk_frozen BK268.out 0; have hfz13_1 := blk_frozen BK268.out 1; have hfz13_2 := blk_frozen BK268.out 2; have hfz13_3 := blk_frozen BK268.out 3) | ((with_reducible refine gate_callee (f := 65) rfl ?_); refine goesL_ (some 16) rfl rfl Tryd.func65 (by kernel_rfl) rfl #[.agg #[.int .i64 a0_0, .slice A0_1 l0_1.length c0_1], .agg #[.int .i64 a1_0, .slice A1_1 l1_1.length c1_1], .agg #[.int .i64 a2_0, .int .i64 a2_1, .int .i64 a2_2, .int .i64 a2_3], .int .i64 (wrap64 (2 * a2_0)), .int .i64 (wrap64 (2 * a2_1))] rfl (by (try simp only [List.map_toArray, List.map_cons, List.map_nil]); first | done | rfl | (simp only [List.length_drop, List.length_take]; rfl)) ?_; (with_reducible refine (panacheref06_Alike.calls k a0_0 _ _ l0_1 a1_0 _ _ l1_1 a2_0 a2_1 a2_2 a2_3 (wrap64 (2 * a2_0)) (wrap64 (2 * a2_1)) t269 _ ?side1 ?side2 ?side3 ?side4 A4.out).mono ?_); (case side1 => repeat (first | exact (Kd.C_below HR0_1.out HB.out) | (with_reducible refine Kd.C_alloc ?_ _) | (with_reducible refine Kd.C_drewN ?_ _) | (with_reducible refine Kd.C_drew ?_))); (case side2 => exact HC0_1.out); (case side3 => repeat (first | exact (Kd.C_below HR1_1.out HB.out) | (with_reducible refine Kd.C_alloc ?_ _) | (with_reducible refine Kd.C_drewN ?_ _) | (with_reducible refine Kd.C_drew ?_))); (case side4 => exact HC1_1.out); rintro e w14 ⟨rfl, hb⟩; refine ⟨_, rfl, ?_⟩; have n0_ := Aside0.mk (blk_below (g := gb266) (o := .cells #[.int .i64 a0_0, .slice A0_1 l0_1.length c0_1] 24 (0, 0)) (by (with_reducible repeat (first | refine blk_drewN ?_ _ | refine blk_drew ?_ | refine blk_alloc ?_ _)); exact BK266.out) hb); have n1_ := Aside0.mk (blk_below (g := gb267) (o := .cells #[.int .i64 a1_0, .slice A1_1 l1_1.length c1_1] 24 (0, 0)) (by (with_reducible repeat (first | refine blk_drewN ?_ _ | refine blk_drew ?_ | refine blk_alloc ?_ _)); exact BK267.out) hb); have n2_ := Aside0.mk (blk_below (g := gb268) (o := .cells #[.int .i64 a2_0, .int .i64 a2_1, .int .i64 a2_2, .int .i64 a2_3] 26 (0, 0)) (by (with_reducible repeat (first | refine blk_drewN ?_ _ | refine blk_drew ?_ | refine blk_alloc ?_ _)); exact BK268.out) hb); have n3_ := Aside0.mk (below_step (by repeat (first | (with_reducible first | exact HB.out | apply below_alloc | apply pw_below_drewN | apply below_drew1 | refine below_set ?_ GE266.out | refine below_set ?_ GE267.out | refine below_set ?_ GE268.out) | exact HB.out)) hb); clear BK266; clear BK267; clear BK268; clear HB; have BK266 := n0_; have BK267 := n1_; have BK268 := n2_; have HB := n3_; clear n0_ n1_ n2_ n3_; (try clear hb); (try clear hb2); (try clear hk); (try clear hi)))
  go_ret
  exact ⟨by first | rfl | (simp [errW_none, errW_some] <;> rfl) | (simp [*, errW_none, errW_some] <;> rfl), by repeat (first | (with_reducible first | exact HB.out | apply below_alloc | apply pw_below_drewN | apply below_drew1 | refine below_set ?_ GE266.out | refine below_set ?_ GE267.out | refine below_set ?_ GE268.out) | exact HB.out)⟩
end Go.Proofs.YtamibghbkjmmeaaDoor.G
end
section
namespace Go.Proofs.YtamibghbkjmmeaaDoor.G
open Go.RowKit Go.Proofs.YtamibghbkjmmeaaDoorW.PrintWords Go.Proofs.YtamibghbkjmmeaaDoorW.PrintLast Go.Proofs.YtamibghbkjmmeaaDoorW.PrintMore
attribute [local go_sem] max2_int min2_int max_two min_two max_three min_three max_four min_four
set_option linter.unusedVariables false
set_option linter.unusedSimpArgs false
def panacheref06_Possibly.f (k : Nat) (a0_0 : Int) (l0_1 : List Int) (a1_0 : Int) (l1_1 : List Int) (a2_0 : Int) (a2_1 : Int) (a2_2 : Int) (a2_3 : Int) : Option (Bool) := (panacheref06_Alike.f k a0_0 l0_1 a1_0 l1_1 a2_0 a2_1 a2_2 a2_3 (wrap64 ((-2) * a2_0)) (wrap64 ((-2) * a2_1))).bind fun t273 => (some t273)
set_option maxHeartbeats 8000000 in
set_option maxRecDepth 100000 in
theorem panacheref06_Possibly.calls (k : Nat) (a0_0 : Int) (A0_1 : Option Addr) (c0_1 : Nat) (l0_1 : List Int) (a1_0 : Int) (A1_1 : Option Addr) (c1_1 : Nat) (l1_1 : List Int) (a2_0 : Int) (a2_1 : Int) (a2_2 : Int) (a2_3 : Int) (r : Bool) (w : World) (hr0_1 : Kd.C (Kd.int .i64) w A0_1 l0_1.length l0_1) (hc0_1 : l0_1.length ≤ c0_1) (hr1_1 : Kd.C (Kd.int .i64) w A1_1 l1_1.length l1_1) (hc1_1 : l1_1.length ≤ c1_1) (h : panacheref06_Possibly.f k a0_0 l0_1 a1_0 l1_1 a2_0 a2_1 a2_2 a2_3 = some r) :
    Calls Tryd.prog 23 #[.agg #[.int .i64 a0_0, .slice A0_1 l0_1.length c0_1], .agg #[.int .i64 a1_0, .slice A1_1 l1_1.length c1_1], .agg #[.int .i64 a2_0, .int .i64 a2_1, .int .i64 a2_2, .int .i64 a2_3]] w fun e w' => e = .returned (.bool r) ∧ Below w.heap.size w w' := by
  have hu24 := Tryd.underlying24
  have hu26 := Tryd.underlying26
  have HR0_1 := Aside0.mk hr0_1
  have HC0_1 := Aside0.mk hc0_1
  clear hr0_1 hc0_1
  have HR1_1 := Aside0.mk hr1_1
  have HC1_1 := Aside0.mk hc1_1
  clear hr1_1 hc1_1
  have HB := Aside0.mk (Below.refl w.heap.size w)
  have H : ((panacheref06_Alike.f k a0_0 l0_1 a1_0 l1_1 a2_0 a2_1 a2_2 a2_3 (wrap64 ((-2) * a2_0)) (wrap64 ((-2) * a2_1))).bind fun t273 => (some t273)) = some r := h
  clear h
  replace H := Option.bind_eq_some_iff.mp H
  obtain ⟨t273, A40, H⟩ := H
  replace H : (some t273) = some r := H
  have A4 := Aside0.mk A40
  clear A40
  obtain rfl := Option.some.inj H
  go_enter Tryd.func23, Tryd.ntmps23
  go_wp2_with (first | ((with_reducible refine gate_dst (N := 3) rfl ?_); refine box_event ?hg (N := 3) ?hd (cs := #[.int .i64 a0_0, .slice A0_1 l0_1.length c0_1]) (t := 24) ?hr ?_; (case hd => rfl); (case hg => rfl); (case hr => first | (go_simp; done) | (go_simp; rfl)); intro gb270 hg w5 hbox hb; have n0_ := Aside0.mk (below_step (by repeat (first | (with_reducible first | exact HB.out | apply below_alloc | apply pw_below_drewN | apply below_drew1) | exact HB.out)) hb); have n1_ := Aside0.mk (hbox); have n2_ := Aside0.mk ((by rw [hg]; exact (below_size (by repeat (first | (with_reducible first | exact HB.out | apply below_alloc | apply pw_below_drewN | apply below_drew1) | exact HB.out))) : w.heap.size ≤ gb270)); have n3_ := Aside0.mk ((by rw [hg]; exact (below_size (by repeat (first | (with_reducible first | exact HB.out | apply below_alloc | apply pw_below_drewN | apply below_drew1) | exact HB.out))) : w.heap.size ≤ gb270)); clear HB; have HB := n0_; have BK270 := n1_; have GW270 := n2_; have GE270 := n3_; clear n0_ n1_ n2_ n3_; clear hb hbox hg) | ((with_reducible refine gate_dst (N := 4) rfl ?_); refine box_event ?hg (N := 4) ?hd (cs := #[.int .i64 a1_0, .slice A1_1 l1_1.length c1_1]) (t := 24) ?hr ?_; (case hd => rfl); (case hg => rfl); (case hr => first | (go_simp; done) | (go_simp; rfl)); intro gb271 hg w6 hbox hb; have n0_ := Aside0.mk (blk_below (g := gb270) (o := .cells #[.int .i64 a0_0, .slice A0_1 l0_1.length c0_1] 24 (0, 0)) (by (with_reducible repeat (first | refine blk_drewN ?_ _ | refine blk_drew ?_ | refine blk_alloc ?_ _)); exact BK270.out) hb); have n1_ := Aside0.mk (below_step (by repeat (first | (with_reducible first | exact HB.out | apply below_alloc | apply pw_below_drewN | apply below_drew1 | refine below_set ?_ GE270.out) | exact HB.out)) hb); have n2_ := Aside0.mk (hbox); have n3_ := Aside0.mk ((by rw [hg]; exact (below_size (by repeat (first | (with_reducible first | exact HB.out | apply below_alloc | apply pw_below_drewN | apply below_drew1 | refine below_set ?_ GE270.out) | exact HB.out))) : w.heap.size ≤ gb271)); have n4_ := Aside0.mk ((by rw [hg]; exact (below_size (by repeat (first | (with_reducible first | exact HB.out | apply below_alloc | apply pw_below_drewN | apply below_drew1 | refine below_set ?_ GE270.out) | exact HB.out))) : w.heap.size ≤ gb271)); have n5_ := Aside0.mk ((by rw [hg]; exact Nat.ne_of_lt (blk_lt (g := gb270) (o := .cells #[.int .i64 a0_0, .slice A0_1 l0_1.length c0_1] 24 (0, 0)) (by (with_reducible repeat (first | refine blk_drewN ?_ _ | refine blk_drew ?_ | refine blk_alloc ?_ _)); exact BK270.out)) : gb270 ≠ gb271)); have n6_ := Aside0.mk ((by rw [hg]; exact Nat.ne_of_gt (blk_lt (g := gb270) (o := .cells #[.int .i64 a0_0, .slice A0_1 l0_1.length c0_1] 24 (0, 0)) (by (with_reducible repeat (first | refine blk_drewN ?_ _ | refine blk_drew ?_ | refine blk_alloc ?_ _)); exact BK270.out)) : gb271 ≠ gb270)); clear BK270; clear HB; have BK270 := n0_; have HB := n1_; have BK271 := n2_; have GW271 := n3_; have GE271 := n4_; have NB270_271 := n5_; have NB271_270 := n6_; clear n0_ n1_ n2_ n3_ n4_ n5_ n6_; clear hb hbox hg) | ((with_reducible refine gate_dst (N := 5) rfl ?_); refine box_event ?hg (N := 5) ?hd (cs := #[.int .i64 a2_0, .int .i64 a2_1, .int .i64 a2_2, .int .i64 a2_3]) (t := 26) ?hr ?_; (case hd => rfl); (case hg => rfl); (case hr => first | (go_simp; done) | (go_simp; rfl)); intro gb272 hg w7 hbox hb; have n0_ := Aside0.mk (blk_below (g := gb270) (o := .cells #[.int .i64 a0_0, .slice A0_1 l0_1.length c0_1] 24 (0, 0)) (by (with_reducible repeat (first | refine blk_drewN ?_ _ | refine blk_drew ?_ | refine blk_alloc ?_ _)); exact BK270.out) hb); have n1_ := Aside0.mk (blk_below (g := gb271) (o := .cells #[.int .i64 a1_0, .slice A1_1 l1_1.length c1_1] 24 (0, 0)) (by (with_reducible repeat (first | refine blk_drewN ?_ _ | refine blk_drew ?_ | refine blk_alloc ?_ _)); exact BK271.out) hb); have n2_ := Aside0.mk (below_step (by repeat (first | (with_reducible first | exact HB.out | apply below_alloc | apply pw_below_drewN | apply below_drew1 | refine below_set ?_ GE270.out | refine below_set ?_ GE271.out) | exact HB.out)) hb); have n3_ := Aside0.mk (hbox); have n4_ := Aside0.mk ((by rw [hg]; exact (below_size (by repeat (first | (with_reducible first | exact HB.out | apply below_alloc | apply pw_below_drewN | apply below_drew1 | refine below_set ?_ GE270.out | refine below_set ?_ GE271.out) | exact HB.out))) : w.heap.size ≤ gb272)); have n5_ := Aside0.mk ((by rw [hg]; exact (below_size (by repeat (first | (with_reducible first | exact HB.out | apply below_alloc | apply pw_below_drewN | apply below_drew1 | refine below_set ?_ GE270.out | refine below_set ?_ GE271.out) | exact HB.out))) : w.heap.size ≤ gb272)); have n6_ := Aside0.mk ((by rw [hg]; exact Nat.ne_of_lt (blk_lt (g := gb270) (o := .cells #[.int .i64 a0_0, .slice A0_1 l0_1.length c0_1] 24 (0, 0)) (by (with_reducible repeat (first | refine blk_drewN ?_ _ | refine blk_drew ?_ | refine blk_alloc ?_ _)); exact BK270.out)) : gb270 ≠ gb272)); have n7_ := Aside0.mk ((by rw [hg]; exact Nat.ne_of_gt (blk_lt (g := gb270) (o := .cells #[.int .i64 a0_0, .slice A0_1 l0_1.length c0_1] 24 (0, 0)) (by (with_reducible repeat (first | refine blk_drewN ?_ _ | refine blk_drew ?_ | refine blk_alloc ?_ _)); exact BK270.out)) : gb272 ≠ gb270)); have n8_ := Aside0.mk ((by rw [hg]; exact Nat.ne_of_lt (blk_lt (g := gb271) (o := .cells #[.int .i64 a1_0, .slice A1_1 l1_1.length c1_1] 24 (0, 0)) (by (with_reducible repeat (first | refine blk_drewN ?_ _ | refine blk_drew ?_ | refine blk_alloc ?_ _)); exact BK271.out)) : gb271 ≠ gb272)); have n9_ := Aside0.mk ((by rw [hg]; exact Nat.ne_of_gt (blk_lt (g := gb271) (o := .cells #[.int .i64 a1_0, .slice A1_1 l1_1.length c1_1] 24 (0, 0)) (by (with_reducible repeat (first | refine blk_drewN ?_ _ | refine blk_drew ?_ | refine blk_alloc ?_ _)); exact BK271.out)) : gb272 ≠ gb271)); clear BK270; clear BK271; clear HB; have BK270 := n0_; have BK271 := n1_; have HB := n2_; have BK272 := n3_; have GW272 := n4_; have GE272 := n5_; have NB270_272 := n6_; have NB272_270 := n7_; have NB271_272 := n8_; have NB272_271 := n9_; clear n0_ n1_ n2_ n3_ n4_ n5_ n6_ n7_ n8_ n9_; clear hb hbox hg; have hnb8 := NB270_271.out; have hnc8 := NB271_270.out; have hnb9 := NB270_272.out; have hnc9 := NB272_270.out; have hcz10_0 : w7.cell? ⟨gb270, 0, none⟩ = some (.int .i64 a0_0) := (blk_cell BK270.out 0).trans rfl; have hcz10_1 : w7.cell? ⟨gb270, 1, none⟩ = some (.slice A0_1 l0_1.length c0_1) := (blk_cell BK270.out 1).trans rfl; have hfz10_0 := blk_frozen BK270.out 0; have hfz10_1 := blk_frozen BK270.out 1; have hnb11 := NB271_272.out; have hnc11 := NB272_271.out; have hcz12_0 : w7.cell? ⟨gb271, 0, none⟩ = some (.int .i64 a1_0) := (blk_cell BK271.out 0).trans rfl; have hcz12_1 : w7.cell? ⟨gb271, 1, none⟩ = some (.slice A1_1 l1_1.length c1_1) := (blk_cell BK271.out 1).trans rfl; have hfz12_0 := blk_frozen BK271.out 0; have hfz12_1 := blk_frozen BK271.out 1; have hcz13_0 : w7.cell? ⟨gb272, 0, none⟩ = some (.int .i64 a2_0) := (blk_cell BK272.out 0).trans rfl; have hcz13_1 : w7.cell? ⟨gb272, 1, none⟩ = some (.int .i64 a2_1) := (blk_cell BK272.out 1).trans rfl; have hcz13_2 : w7.cell? ⟨gb272, 2, none⟩ = some (.int .i64 a2_2) := (blk_cell BK272.out 2).trans rfl; have hcz13_3 : w7.cell? ⟨gb272, 3, none⟩ = some (.int .i64 a2_3) := (blk_cell BK272.out 3).trans rfl; have hfz13_0 := blk_frozen BK272.out 0; have hfz13_1 := blk_frozen BK272.out 1; have hfz13_2 := blk_frozen BK272.out 2; have hfz13_3 := blk_frozen BK272.out 3) | ((with_reducible refine gate_callee (f := 65) rfl ?_); refine goesL_ (some 16) rfl rfl Tryd.func65 (by kernel_rfl) rfl #[.agg #[.int .i64 a0_0, .slice A0_1 l0_1.length c0_1], .agg #[.int .i64 a1_0, .slice A1_1 l1_1.length c1_1], .agg #[.int .i64 a2_0, .int .i64 a2_1, .int .i64 a2_2, .int .i64 a2_3], .int .i64 (wrap64 ((-2) * a2_0)), .int .i64 (wrap64 ((-2) * a2_1))] rfl (by (try simp only [List.map_toArray, List.map_cons, List.map_nil]); first | done | rfl | (simp only [List.length_drop, List.length_take]; rfl)) ?_; (with_reducible refine (panacheref06_Alike.calls k a0_0 _ _ l0_1 a1_0 _ _ l1_1 a2_0 a2_1 a2_2 a2_3 (wrap64 ((-2) * a2_0)) (wrap64 ((-2) * a2_1)) t273 _ ?side1 ?side2 ?side3 ?side4 A4.out).mono ?_); (case side1 => repeat (first | exact (Kd.C_below HR0_1.out HB.out) | (with_reducible refine Kd.C_alloc ?_ _) | (with_reducible refine Kd.C_drewN ?_ _) | (with_reducible refine Kd.C_drew ?_))); (case side2 => exact HC0_1.out); (case side3 => repeat (first | exact (Kd.C_below HR1_1.out HB.out) | (with_reducible refine Kd.C_alloc ?_ _) | (with_reducible refine Kd.C_drewN ?_ _) | (with_reducible refine Kd.C_drew ?_))); (case side4 => exact HC1_1.out); rintro e w14 ⟨rfl, hb⟩; refine ⟨_, rfl, ?_⟩; have n0_ := Aside0.mk (blk_below (g := gb270) (o := .cells #[.int .i64 a0_0, .slice A0_1 l0_1.length c0_1] 24 (0, 0)) (by (with_reducible repeat (first | refine blk_drewN ?_ _ | refine blk_drew ?_ | refine blk_alloc ?_ _)); exact BK270.out) hb); have n1_ := Aside0.mk (blk_below (g := gb271) (o := .cells #[.int .i64 a1_0, .slice A1_1 l1_1.length c1_1] 24 (0, 0)) (by (with_reducible repeat (first | refine blk_drewN ?_ _ | refine blk_drew ?_ | refine blk_alloc ?_ _)); exact BK271.out) hb); have n2_ := Aside0.mk (blk_below (g := gb272) (o := .cells #[.int .i64 a2_0, .int .i64 a2_1, .int .i64 a2_2, .int .i64 a2_3] 26 (0, 0)) (by (with_reducible repeat (first | refine blk_drewN ?_ _ | refine blk_drew ?_ | refine blk_alloc ?_ _)); exact BK272.out) hb); have n3_ := Aside0.mk (below_step (by repeat (first | (with_reducible first | exact HB.out | apply below_alloc | apply pw_below_drewN | apply below_drew1 | refine below_set ?_ GE270.out | refine below_set ?_ GE271.out | refine below_set ?_ GE272.out) | exact HB.out)) hb); clear BK270; clear BK271; clear BK272; clear HB; have BK270 := n0_; have BK271 := n1_; have BK272 := n2_; have HB := n3_; clear n0_ n1_ n2_ n3_; (try clear hb); (try clear hb2); (try clear hk); (try clear hi)))
  go_ret
  exact ⟨by first | rfl | (simp [errW_none, errW_some] <;> rfl) | (simp [*, errW_none, errW_some] <;> rfl), by repeat (first | (with_reducible first | exact HB.out | apply below_alloc | apply pw_below_drewN | apply below_drew1 | refine below_set ?_ GE270.out | refine below_set ?_ GE271.out | refine below_set ?_ GE272.out) | exact HB.out)⟩
end Go.Proofs.YtamibghbkjmmeaaDoor.G
end
section
namespace Go.Proofs.YtamibghbkjmmeaaDoor.G
open Go.RowKit Go.Proofs.YtamibghbkjmmeaaDoorW.PrintWords Go.Proofs.YtamibghbkjmmeaaDoorW.PrintLast Go.Proofs.YtamibghbkjmmeaaDoorW.PrintMore
set_option linter.unusedVariables false
set_option linter.unusedSimpArgs false
theorem lit24 (W : World) (x y : S24) {A B : Option Addr} {c d : Nat} (hC : Kd.C (Kd.int .i64) W A x.f1.length x.f1) (hc : x.f1.length ≤ c) (hD : Kd.C (Kd.int .i64) W B y.f1.length y.f1) (hd : y.f1.length ≤ d) :
    Kd.C k24 (W.alloc (.cells #[.int .i64 x.f0, .slice A x.f1.length c, .int .i64 y.f0, .slice B y.f1.length d] 24)) (some ⟨W.heap.size, 0, none⟩) [x, y].length [x, y] := by
  have hb := below_alloc (Below.refl W.heap.size W) (.cells #[.int .i64 x.f0, .slice A x.f1.length c, .int .i64 y.f0, .slice B y.f1.length d] 24)
  have hn := blk_new W (.cells #[.int .i64 x.f0, .slice A x.f1.length c, .int .i64 y.f0, .slice B y.f1.length d] 24)
  refine ⟨rfl, by simp, fun _ => ⟨_, rfl, fun j p hj => ?_⟩⟩
  match j, hj with
  | 0, hj =>
    obtain rfl : x = p := by simpa using hj
    refine ⟨_, rfl, k24_mk _ x hc (Kd.C_below hC hb), fun i u hu => ?_⟩
    match i, hu with
    | 0, hu => obtain rfl : Value.int .i64 x.f0 = u := by simpa using hu
               simp [Addr.add]
    | 1, hu => obtain rfl : Value.slice A x.f1.length c = u := by simpa using hu
               simp [Addr.add]
    | i + 2, hu => simp at hu
  | 1, hj =>
    obtain rfl : y = p := by simpa using hj
    refine ⟨_, rfl, k24_mk _ y hd (Kd.C_below hD hb), fun i u hu => ?_⟩
    match i, hu with
    | 0, hu => obtain rfl : Value.int .i64 y.f0 = u := by simpa using hu
               (have e2 : k24.sz = 2 := rfl); simp [Addr.add, e2]
    | 1, hu => obtain rfl : Value.slice B y.f1.length d = u := by simpa using hu
               (have e2 : k24.sz = 2 := rfl); simp [Addr.add, e2]
    | i + 2, hu => simp at hu
  | j + 2, hj => simp at hj
theorem alike_C (x y : S24) (A B : Option Addr) (c d : Nat) (g0 g1 g2 g3 : Int) (is may : Bool) (e : Int) (w : World) (hC : Kd.C (Kd.int .i64) w A x.f1.length x.f1) (hc : x.f1.length ≤ c) (hD : Kd.C (Kd.int .i64) w B y.f1.length y.f1) (hd : y.f1.length ≤ d) (h : guard_Alike.f 1000 x.f0 x.f1 y.f0 y.f1 g0 g1 g2 g3 = some (is, may, e)) :
    Calls Tryd.prog 18 #[.agg #[.int .i64 x.f0, .slice A x.f1.length c], .agg #[.int .i64 y.f0, .slice B y.f1.length d], .agg #[.int .i64 g0, .int .i64 g1, .int .i64 g2, .int .i64 g3]] w fun r w' => r = .returned (.tuple #[.bool is, .bool may, .int .i64 e]) ∧ Below w.heap.size w w' :=
  guard_Alike.calls 1000 x.f0 (fun q => q < w.heap.size) A c x.f1 y.f0 (fun q => q < w.heap.size) B d y.f1 g0 g1 g2 g3 is may e w (Kd.V_mk hc (Kd.C_F (Kd.heap_int .i64) hC)) (Kd.V_mk hd (Kd.C_F (Kd.heap_int .i64) hD)) h
set_option maxHeartbeats 8000000 in
set_option maxRecDepth 100000 in
theorem alikes_small (x : S24) (A : Option Addr) (c : Nat) (y : S24) (B : Option Addr) (d : Nat) (g0 g1 g2 g3 : Int) (w : World) (hC : Kd.C (Kd.int .i64) w A x.f1.length x.f1) (hc : x.f1.length ≤ c) (hD : Kd.C (Kd.int .i64) w B y.f1.length y.f1) (hd : y.f1.length ≤ d) (hT_ : TabOk w) (hl1 : x.f1.length ≤ 8) (hl2 : y.f1.length ≤ 8) (is may gb : Bool) (e f : Int)
    (h1 : panacheref06_Copy.f 1000 [x, y] = some [x, y]) (h2 : guard_Alike.f 1000 x.f0 x.f1 y.f0 y.f1 g0 g1 g2 g3 = some (is, may, e)) (h3 : panacheref06_Same.f 1000 [x, y] [x, y] = some true) (h4 : panacheref06_Form.f 1000 [x, y] = some f) (h5 : panacheref06_Gauge.f g0 g1 g2 g3 = some gb)
    (hv : (f ≠ 0 ∧ e = f ∧ is = false ∧ may = false) ∨ (f = 0 ∧ gb = false ∧ e = 3 ∧ is = false ∧ may = false) ∨ (f = 0 ∧ gb = true ∧ e = 0 ∧ panacheref06_Surely.f 1000 x.f0 x.f1 y.f0 y.f1 g0 g1 g2 g3 = some is ∧ panacheref06_Possibly.f 1000 x.f0 x.f1 y.f0 y.f1 g0 g1 g2 g3 = some may)) :
    Calls Tryd.prog 3 #[.agg #[.int .i64 x.f0, .slice A x.f1.length c], .agg #[.int .i64 y.f0, .slice B y.f1.length d], .agg #[.int .i64 g0, .int .i64 g1, .int .i64 g2, .int .i64 g3]] w fun e w' => e = .returned (.bool true) ∧ Below w.heap.size w w' := by
  have HT := Aside0.mk hT_
  have HB0 := Aside0.mk (show Below w.heap.size w (((w.alloc (.cells #[.int .i64 x.f0, .slice A x.f1.length c] 24)).alloc (.cells #[.int .i64 y.f0, .slice B y.f1.length d] 24)).alloc (.cells #[.int .i64 g0, .int .i64 g1, .int .i64 g2, .int .i64 g3] 26)) from ((Below.refl _ w).alloc (Nat.le_refl _) _ |>.alloc (by simp) _).alloc (by simp; omega) _)
  have KX := Aside0.mk (show (((w.alloc (.cells #[.int .i64 x.f0, .slice A x.f1.length c] 24)).alloc (.cells #[.int .i64 y.f0, .slice B y.f1.length d] 24)).alloc (.cells #[.int .i64 g0, .int .i64 g1, .int .i64 g2, .int .i64 g3] 26)).heap[w.heap.size]? = some (.cells #[.int .i64 x.f0, .slice A x.f1.length c] 24) from blk_alloc (blk_alloc (blk_new _ _) _) _)
  have KY := Aside0.mk (show (((w.alloc (.cells #[.int .i64 x.f0, .slice A x.f1.length c] 24)).alloc (.cells #[.int .i64 y.f0, .slice B y.f1.length d] 24)).alloc (.cells #[.int .i64 g0, .int .i64 g1, .int .i64 g2, .int .i64 g3] 26)).heap[w.heap.size + 1]? = some (.cells #[.int .i64 y.f0, .slice B y.f1.length d] 24) from blk_alloc (by have h := blk_new (w.alloc (.cells #[.int .i64 x.f0, .slice A x.f1.length c] 24)) (.cells #[.int .i64 y.f0, .slice B y.f1.length d] 24); simpa using h) _)
  have KG := Aside0.mk (show (((w.alloc (.cells #[.int .i64 x.f0, .slice A x.f1.length c] 24)).alloc (.cells #[.int .i64 y.f0, .slice B y.f1.length d] 24)).alloc (.cells #[.int .i64 g0, .int .i64 g1, .int .i64 g2, .int .i64 g3] 26)).heap[w.heap.size + 1 + 1]? = some (.cells #[.int .i64 g0, .int .i64 g1, .int .i64 g2, .int .i64 g3] 26) from by have h := blk_new ((w.alloc (.cells #[.int .i64 x.f0, .slice A x.f1.length c] 24)).alloc (.cells #[.int .i64 y.f0, .slice B y.f1.length d] 24)) (.cells #[.int .i64 g0, .int .i64 g1, .int .i64 g2, .int .i64 g3] 26); simpa using h)
  have HCX := Aside0.mk (Kd.C_below hC HB0.out)
  have HCY := Aside0.mk (Kd.C_below hD HB0.out)
  have HLX := Aside0.mk hc
  have HLY := Aside0.mk hd
  have q1 : decide (8 < x.f1.length) = false := by simp; omega
  have q1' : decide ((8 : Int) < (x.f1.length : Int)) = false := by simp; omega
  have q2 : decide (8 < y.f1.length) = false := by simp; omega
  have q2' : decide ((8 : Int) < (y.f1.length : Int)) = false := by simp; omega
  have H1 := Aside0.mk h1
  have H2 := Aside0.mk h2
  have H3 := Aside0.mk h3
  have H4 := Aside0.mk h4
  have H5 := Aside0.mk h5
  have HV := Aside0.mk hv
  have HC0 := Aside0.mk hC
  have HD0 := Aside0.mk hD
  clear hC hc hD hd hl1 hl2 h1 h2 h3 h4 h5 hv hT_
  go_enter Tryd.func3, Tryd.ntmps3
  go_wp2_with (fail)
  obtain ⟨WB, eWB⟩ : ∃ W, (((w.alloc (.cells #[.int .i64 x.f0, .slice A x.f1.length c] 24)).alloc (.cells #[.int .i64 y.f0, .slice B y.f1.length d] 24)).alloc (.cells #[.int .i64 g0, .int .i64 g1, .int .i64 g2, .int .i64 g3] 26)) = W := ⟨_, rfl⟩
  have HLIT := Aside0.mk (lit24 WB x y (eWB ▸ HCX.out) HLX.out (eWB ▸ HCY.out) HLY.out)
  have HB1 := Aside0.mk (show Below w.heap.size w (WB.alloc (.cells #[.int .i64 x.f0, .slice A x.f1.length c, .int .i64 y.f0, .slice B y.f1.length d] 24)) from (eWB ▸ HB0.out).alloc (below_size (eWB ▸ HB0.out)) _)
  have KG1 := Aside0.mk (blk_alloc (eWB ▸ KG.out) (.cells #[.int .i64 x.f0, .slice A x.f1.length c, .int .i64 y.f0, .slice B y.f1.length d] 24))
  have hsz : WB.heap.size = w.heap.size + 1 + 1 + 1 := by rw [← eWB]; simp
  rw [hsz] at HLIT
  rw [eWB]
  have KXB := Aside0.mk (blk_alloc (eWB ▸ KX.out) (.cells #[.int .i64 x.f0, .slice A x.f1.length c, .int .i64 y.f0, .slice B y.f1.length d] 24))
  have KYB := Aside0.mk (blk_alloc (eWB ▸ KY.out) (.cells #[.int .i64 x.f0, .slice A x.f1.length c, .int .i64 y.f0, .slice B y.f1.length d] 24))
  clear KX KY HCX HCY q1 q1' q2 q2'
  refine (panacheref06_Copy.calls 1000 _ 2 [x, y] [x, y] _ HLIT.out (Nat.le_refl _) H1.out).mono ?_
  rintro e w1 ⟨v8, rfl, ho8, hb8⟩
  have hR8 := Kd.S_R ho8
  obtain ⟨g8, c8, rfl, _, _, _⟩ := Kd.R_form hR8 (by simp)
  obtain ⟨A8, c8', e8, hl8, hC8⟩ := Kd.R_reads hR8
  cases e8
  obtain ⟨a1, Ax, cx, e8, hx0, hx1, hxl, hxC⟩ := at_T24 hC8 0 (by omega) (by simp)
  cases e8
  obtain ⟨a2, Ay, cy, e8, hy0, hy1, hyl, hyC⟩ := at_T24 hC8 1 (by omega) (by simp)
  cases e8
  have er0 : rd_T24 [x, y] 0 = x := rfl
  have er1 : rd_T24 [x, y] 1 = y := rfl
  rw [er0] at hx0 hx1 hxl hxC
  rw [er1] at hy0 hy1 hyl hyC
  have HB2 := Aside0.mk (below_step HB1.out hb8)
  have KG2 := Aside0.mk (blk_below KG1.out hb8)
  have HL2 := Aside0.mk (Kd.C_below HLIT.out hb8)
  have KX2 := Aside0.mk (blk_below KXB.out hb8)
  have KY2 := Aside0.mk (blk_below KYB.out hb8)
  have HI2 := Aside0.mk hC8
  have HI8 := Aside0.mk hl8
  have AL := Aside0.mk (fun W (hb : Below w1.heap.size w1 W) => alike_C x y Ax Ay cx cy g0 g1 g2 g3 is may e W (Kd.C_below hxC hb) hxl (Kd.C_below hyC hb) hyl H2.out)
  replace hx0 : w1.drew.cell? ⟨g8, 0, none⟩ = some (.int .i64 x.f0) := by simpa [add_plain] using hx0
  replace hx1 : w1.drew.cell? ⟨g8, 1, none⟩ = some (.slice Ax x.f1.length cx) := by simpa [add_plain] using hx1
  replace hy0 : w1.drew.cell? ⟨g8, 2, none⟩ = some (.int .i64 y.f0) := by simpa [add_plain] using hy0
  replace hy1 : w1.drew.cell? ⟨g8, 3, none⟩ = some (.slice Ay y.f1.length cy) := by simpa [add_plain] using hy1
  have hg0 : w1.drew.cell? ⟨w.heap.size + 1 + 1, 0, none⟩ = some (.int .i64 g0) := (blk_cell KG2.out 0).trans rfl
  have hg1 : w1.drew.cell? ⟨w.heap.size + 1 + 1, 1, none⟩ = some (.int .i64 g1) := (blk_cell KG2.out 1).trans rfl
  have hg2 : w1.drew.cell? ⟨w.heap.size + 1 + 1, 2, none⟩ = some (.int .i64 g2) := (blk_cell KG2.out 2).trans rfl
  have hg3 : w1.drew.cell? ⟨w.heap.size + 1 + 1, 3, none⟩ = some (.int .i64 g3) := (blk_cell KG2.out 3).trans rfl
  have hq0 : Below w1.heap.size w1 w1.drew := below_drew (Below.refl _ _)
  have hmx : Tryd.prog.follows .mixedOrders = true := by kernel_rfl
  clear eWB hsz HB0 HB1 KG KG1 KXB KYB HLIT hR8 ho8 hb8 hC8 hl8 hxl hxC hyl hyC er0 er1
  go_wp2_with (fail)
  refine start_ (n := 15) (S := fun w' => w'.cell? ⟨g8, 0, none⟩ = some (.int .i64 x.f0) ∧ w'.cell? ⟨g8, 1, none⟩ = some (.slice Ax x.f1.length cx) ∧ w'.cell? ⟨g8, 2, none⟩ = some (.int .i64 y.f0) ∧ w'.cell? ⟨g8, 3, none⟩ = some (.slice Ay y.f1.length cy) ∧ w'.cell? ⟨w.heap.size + 1 + 1, 0, none⟩ = some (.int .i64 g0) ∧ w'.cell? ⟨w.heap.size + 1 + 1, 1, none⟩ = some (.int .i64 g1) ∧ w'.cell? ⟨w.heap.size + 1 + 1, 2, none⟩ = some (.int .i64 g2) ∧ w'.cell? ⟨w.heap.size + 1 + 1, 3, none⟩ = some (.int .i64 g3)) (ds := []) (bl 15 0) (by kernel_rfl) rfl rfl ⟨hx0, hx1, hy0, hy1, hg0, hg1, hg2, hg3⟩ (fun hHeld => ?_)
  refine pS 0 30 (bl 15 1) ?_
  refine pS 1 31 (bl 15 3) ?_
  refine pS 3 33 (bl 15 11) ?_
  refine pS 4 34 (bl 15 27) ?_
  refine tS 2 32 (bl 15 31) hHeld ?_
  refine tS 5 35 (bl 15 63) hHeld ?_
  refine tS 6 36 (bl 15 127) hHeld ?_
  refine one_ (i := 7) (N := some 37) (bl 15 255) rfl rfl (by kernel_rfl) (by decide) (fun K hK => ?_)
  refine goes_ Tryd.func18 (by kernel_rfl) rfl #[.agg #[.int .i64 x.f0, .slice Ax x.f1.length cx], .agg #[.int .i64 y.f0, .slice Ay y.f1.length cy], .agg #[.int .i64 g0, .int .i64 g1, .int .i64 g2, .int .i64 g3]] (by rfl) rfl rfl (by simp only [List.map_toArray, List.map_cons, List.map_nil]; rfl) ?_
  with_reducible refine (AL.out _ hq0).mono ?_
  rintro e w5 ⟨rfl, hb5⟩
  refine ⟨_, rfl, ?_⟩
  refine hK.out _ _ ⟨pw_cell_below hb5 hHeld.1, pw_cell_below hb5 hHeld.2.1, pw_cell_below hb5 hHeld.2.2.1, pw_cell_below hb5 hHeld.2.2.2.1, pw_cell_below hb5 hHeld.2.2.2.2.1, pw_cell_below hb5 hHeld.2.2.2.2.2.1, pw_cell_below hb5 hHeld.2.2.2.2.2.2.1, pw_cell_below hb5 hHeld.2.2.2.2.2.2.2⟩ (fun hHeld => ?_)
  clear hK K
  refine nS 37 ?_
  refine pS 8 29 (bl 15 511) ?_
  refine pS 9 38 (bl 15 1023) ?_
  refine pS 10 39 (bl 15 2047) ?_
  refine pS 11 40 (bl 15 4095) ?_
  refine pS 12 9 (bl 15 8191) ?_
  refine pS 13 10 (bl 15 16383) ?_
  refine pS 14 11 (bl 15 32767) ?_
  refine done_ (by kernel_rfl) ?_
  have hq5 := below_step hq0 hb5
  have HB3 := Aside0.mk (below_step HB2.out hq5)
  have KG3 := Aside0.mk (blk_below KG2.out hq5)
  have HL3 := Aside0.mk (Kd.C_below HL2.out hq5)
  have KX3 := Aside0.mk (blk_below KX2.out hq5)
  have KY3 := Aside0.mk (blk_below KY2.out hq5)
  clear KX2 KY2
  have HI3 := Aside0.mk (Kd.C_below HI2.out hq5)
  clear hHeld hx0 hx1 hy0 hy1 hg0 hg1 hg2 hg3 hq0 hb5 hq5 HB2 KG2 HL2 HI2 AL
  go_wp2_with (fail)
  refine (panacheref06_Same.calls 1000 (some ⟨g8, 0, none⟩) c8 [x, y] _ 2 [x, y] true w5 HI3.out HI8.out HL3.out (Nat.le_refl _) H3.out).mono ?_
  rintro r w6 ⟨rfl, hd6⟩
  have hb6 := d_below hd6 (Below.refl _ _)
  have HB4 := Aside0.mk (below_step HB3.out hb6)
  have KG4 := Aside0.mk (blk_below KG3.out hb6)
  have HL4 := Aside0.mk (Kd.C_below HL3.out hb6)
  have KX4 := Aside0.mk (blk_below KX3.out hb6)
  have KY4 := Aside0.mk (blk_below KY3.out hb6)
  clear KX3 KY3
  clear hd6 hb6 HB3 KG3 HL3 HI3
  go_wp2_with (fail)
  refine (panacheref06_Form.calls 1000 _ 2 [x, y] f w6 HL4.out (Nat.le_refl _) H4.out).mono ?_
  rintro r w7 ⟨rfl, hd7⟩
  have hb7 := d_below hd7 (Below.refl _ _)
  have HB5 := Aside0.mk (below_step HB4.out hb7)
  have KG5 := Aside0.mk (blk_below KG4.out hb7)
  have KX5 := Aside0.mk (blk_below KX4.out hb7)
  have KY5 := Aside0.mk (blk_below KY4.out hb7)
  clear hd7 hb7 HB4 KG4 HL4 KX4 KY4
  have hgc0 : w7.cell? ⟨w.heap.size + 1 + 1, 0, none⟩ = some (.int .i64 g0) := (blk_cell KG5.out 0).trans rfl
  have hgc1 : w7.cell? ⟨w.heap.size + 1 + 1, 1, none⟩ = some (.int .i64 g1) := (blk_cell KG5.out 1).trans rfl
  have hgc2 : w7.cell? ⟨w.heap.size + 1 + 1, 2, none⟩ = some (.int .i64 g2) := (blk_cell KG5.out 2).trans rfl
  have hgc3 : w7.cell? ⟨w.heap.size + 1 + 1, 3, none⟩ = some (.int .i64 g3) := (blk_cell KG5.out 3).trans rfl
  have hv := HV.out
  clear HV
  rcases hv with ⟨hf, rfl, rfl, rfl⟩ | ⟨rfl, rfl, rfl, rfl, rfl⟩ | ⟨rfl, rfl, rfl, hs1, hs2⟩
  · have hq1 : (e == 0) = false := beq_eq_false_iff_ne.mpr hf
    have hq2 : (e != 0) = true := bne_iff_ne.mpr hf
    have hq3 : (e == e) = true := beq_self_eq_true e
    clear hf
    go_wp2_with (fail)
    refine (panachelaw06_known.calls _ (HT.out.go HB5.out)).mono ?_
    rintro r w20 ⟨rfl, hb⟩
    have HBE := Aside0.mk (below_step HB5.out hb)
    clear hb
    go_wp2
    go_ret
    exact ⟨rfl, HBE.out⟩
  · go_wp2_with (fail)
    refine (panacheref06_Gauge.calls g0 g1 g2 g3 false w7 H5.out).mono ?_
    rintro r w8 ⟨rfl, hb8⟩
    have HB6 := Aside0.mk (below_step HB5.out hb8)
    clear hb8 hgc0 hgc1 hgc2 hgc3
    go_wp2_with (fail)
    refine (panachelaw06_known.calls _ (HT.out.go HB6.out)).mono ?_
    rintro r w20 ⟨rfl, hb⟩
    have HBE := Aside0.mk (below_step HB6.out hb)
    clear hb
    go_wp2
    go_ret
    exact ⟨rfl, HBE.out⟩
  · have S1 := Aside0.mk hs1
    have S2 := Aside0.mk hs2
    clear hs1 hs2
    go_wp2_with (fail)
    refine (panacheref06_Gauge.calls g0 g1 g2 g3 true w7 H5.out).mono ?_
    rintro r w8 ⟨rfl, hb8⟩
    have HB6 := Aside0.mk (below_step HB5.out hb8)
    have KG6 := Aside0.mk (blk_below KG5.out hb8)
    have KX6 := Aside0.mk (blk_below KX5.out hb8)
    have KY6 := Aside0.mk (blk_below KY5.out hb8)
    clear hb8 hgc0 hgc1 hgc2 hgc3 KG5 KX5 KY5 HB5
    have bX06 : w8.cell? ⟨w.heap.size, 0, none⟩ = some (.int .i64 x.f0) := (blk_cell KX6.out 0).trans rfl
    have bX16 : w8.cell? ⟨w.heap.size, 1, none⟩ = some (.slice A x.f1.length c) := (blk_cell KX6.out 1).trans rfl
    have bY06 : w8.cell? ⟨w.heap.size + 1, 0, none⟩ = some (.int .i64 y.f0) := (blk_cell KY6.out 0).trans rfl
    have bY16 : w8.cell? ⟨w.heap.size + 1, 1, none⟩ = some (.slice B y.f1.length d) := (blk_cell KY6.out 1).trans rfl
    have bG06 : w8.cell? ⟨w.heap.size + 1 + 1, 0, none⟩ = some (.int .i64 g0) := (blk_cell KG6.out 0).trans rfl
    have bG16 : w8.cell? ⟨w.heap.size + 1 + 1, 1, none⟩ = some (.int .i64 g1) := (blk_cell KG6.out 1).trans rfl
    have bG26 : w8.cell? ⟨w.heap.size + 1 + 1, 2, none⟩ = some (.int .i64 g2) := (blk_cell KG6.out 2).trans rfl
    have bG36 : w8.cell? ⟨w.heap.size + 1 + 1, 3, none⟩ = some (.int .i64 g3) := (blk_cell KG6.out 3).trans rfl
    go_wp2_with (fail)
    refine (panacheref06_Surely.calls 1000 x.f0 A c x.f1 y.f0 B d y.f1 g0 g1 g2 g3 is w8 (Kd.C_below HC0.out HB6.out) HLX.out (Kd.C_below HD0.out HB6.out) HLY.out S1.out).mono ?_
    rintro r w9 ⟨rfl, hb9⟩
    have HB7 := Aside0.mk (below_step HB6.out hb9)
    have KG7 := Aside0.mk (blk_below KG6.out hb9)
    have KX7 := Aside0.mk (blk_below KX6.out hb9)
    have KY7 := Aside0.mk (blk_below KY6.out hb9)
    have hbb1 : (is == is) = true := beq_self_eq_true is
    have hbb2 : (may == may) = true := beq_self_eq_true may
    clear hb9 KG6 KX6 KY6 HB6 bX06 bX16 bY06 bY16 bG06 bG16 bG26 bG36
    have bX07 : w9.cell? ⟨w.heap.size, 0, none⟩ = some (.int .i64 x.f0) := (blk_cell KX7.out 0).trans rfl
    have bX17 : w9.cell? ⟨w.heap.size, 1, none⟩ = some (.slice A x.f1.length c) := (blk_cell KX7.out 1).trans rfl
    have bY07 : w9.cell? ⟨w.heap.size + 1, 0, none⟩ = some (.int .i64 y.f0) := (blk_cell KY7.out 0).trans rfl
    have bY17 : w9.cell? ⟨w.heap.size + 1, 1, none⟩ = some (.slice B y.f1.length d) := (blk_cell KY7.out 1).trans rfl
    have bG07 : w9.cell? ⟨w.heap.size + 1 + 1, 0, none⟩ = some (.int .i64 g0) := (blk_cell KG7.out 0).trans rfl
    have bG17 : w9.cell? ⟨w.heap.size + 1 + 1, 1, none⟩ = some (.int .i64 g1) := (blk_cell KG7.out 1).trans rfl
    have bG27 : w9.cell? ⟨w.heap.size + 1 + 1, 2, none⟩ = some (.int .i64 g2) := (blk_cell KG7.out 2).trans rfl
    have bG37 : w9.cell? ⟨w.heap.size + 1 + 1, 3, none⟩ = some (.int .i64 g3) := (blk_cell KG7.out 3).trans rfl
    go_wp2_with (fail)
    refine (panacheref06_Possibly.calls 1000 x.f0 A c x.f1 y.f0 B d y.f1 g0 g1 g2 g3 may w9 (Kd.C_below HC0.out HB7.out) HLX.out (Kd.C_below HD0.out HB7.out) HLY.out S2.out).mono ?_
    rintro r w10 ⟨rfl, hb10⟩
    have HB8 := Aside0.mk (below_step HB7.out hb10)
    clear hb10 bX07 bX17 bY07 bY17 bG07 bG17 bG27 bG37
    go_wp2_with (fail)
    refine (panachelaw06_known.calls _ (HT.out.go HB8.out)).mono ?_
    rintro r w20 ⟨rfl, hb⟩
    have HBE := Aside0.mk (below_step HB8.out hb)
    clear hb
    go_wp2
    go_ret
    exact ⟨rfl, HBE.out⟩
set_option maxHeartbeats 8000000 in
set_option maxRecDepth 100000 in
theorem alikes_large (x : S24) (A : Option Addr) (c : Nat) (y : S24) (B : Option Addr) (d : Nat) (g0 g1 g2 g3 : Int) (w : World) (hC : Kd.C (Kd.int .i64) w A x.f1.length x.f1) (hc : x.f1.length ≤ c) (hD : Kd.C (Kd.int .i64) w B y.f1.length y.f1) (hd : y.f1.length ≤ d) (hT_ : TabOk w) (h : 8 < x.f1.length ∨ 8 < y.f1.length) : Calls Tryd.prog 3 #[.agg #[.int .i64 x.f0, .slice A x.f1.length c], .agg #[.int .i64 y.f0, .slice B y.f1.length d], .agg #[.int .i64 g0, .int .i64 g1, .int .i64 g2, .int .i64 g3]] w fun e w' => e = .returned (.bool true) ∧ Below w.heap.size w w' := by
  have HT := Aside0.mk hT_
  have HB0 := Aside0.mk (show Below w.heap.size w (((w.alloc (.cells #[.int .i64 x.f0, .slice A x.f1.length c] 24)).alloc (.cells #[.int .i64 y.f0, .slice B y.f1.length d] 24)).alloc (.cells #[.int .i64 g0, .int .i64 g1, .int .i64 g2, .int .i64 g3] 26)) from ((Below.refl _ w).alloc (Nat.le_refl _) _ |>.alloc (by simp) _).alloc (by simp; omega) _)
  clear hC hD hT_ hc hd
  by_cases h1 : 8 < x.f1.length
  · have q1 : decide (8 < x.f1.length) = true := by simp; omega
    have q1' : decide ((8 : Int) < (x.f1.length : Int)) = true := by simp; omega
    clear h h1
    go_enter Tryd.func3, Tryd.ntmps3
    go_wp2_with (fail)
    refine (panachelaw06_known.calls _ (HT.out.go HB0.out)).mono ?_
    rintro r w20 ⟨rfl, hb⟩
    have HBE := Aside0.mk (below_step HB0.out hb)
    clear hb
    go_wp2
    go_ret
    exact ⟨rfl, HBE.out⟩
  · have h2 : 8 < y.f1.length := by rcases h with h | h <;> omega
    have q1 : decide (8 < x.f1.length) = false := by simp; omega
    have q1' : decide ((8 : Int) < (x.f1.length : Int)) = false := by simp; omega
    have q2 : decide (8 < y.f1.length) = true := by simp; omega
    have q2' : decide ((8 : Int) < (y.f1.length : Int)) = true := by simp; omega
    clear h h1 h2
    go_enter Tryd.func3, Tryd.ntmps3
    go_wp2_with (fail)
    refine (panachelaw06_known.calls _ (HT.out.go HB0.out)).mono ?_
    rintro r w20 ⟨rfl, hb⟩
    have HBE := Aside0.mk (below_step HB0.out hb)
    clear hb
    go_wp2
    go_ret
    exact ⟨rfl, HBE.out⟩
end Go.Proofs.YtamibghbkjmmeaaDoor.G
end
section
namespace Go.Proofs.YtamibghbkjmmeaaDoor.G
open Go.RowKit Go.Proofs.YtamibghbkjmmeaaDoorW.PrintWords Go.Proofs.YtamibghbkjmmeaaDoorW.PrintLast Go.Proofs.YtamibghbkjmmeaaDoorW.PrintMore
set_option linter.unusedVariables false
set_option linter.unusedSimpArgs false
theorem wrap_small (z : Int) (h1 : -4611686018427387904 ≤ z) (h2 : z ≤ 4611686018427387904) : wrap64 z = z := by unfold wrap64; omega
theorem wrap_succ (i : Nat) (h : i ≤ 1000000) : wrap64 ((i : Int) + 1) = ((i + 1 : Nat) : Int) := by rw [wrap_small _ (by omega) (by omega)]; omega
theorem rd_at (l : List Int) (i : Nat) (h : i < l.length) : rd l (i : Int) = l[i] := by simp [rd, rdOf, h]
theorem rdT_at (l : List S24) (i : Nat) (h : i < l.length) : rd_T24 l (i : Int) = l[i] := by simp [rd_T24, h]
def dist (a b : Int) : Int := if a ≤ b then b - a else a - b
structure VG (x : S24) : Prop where
  w0 : 1 ≤ x.f0
  w1 : x.f0 ≤ 10000
  l0 : 1 ≤ x.f1.length
  l1 : x.f1.length ≤ 4
  c : ∀ c ∈ x.f1, 0 ≤ c ∧ c ≤ 500
structure VGa (g0 g1 g2 g3 : Int) : Prop where
  s0 : 0 ≤ g0
  s1 : g0 ≤ 100
  a0 : 0 ≤ g1
  a1 : g1 ≤ 100
  w0 : 0 ≤ g2
  w1 : g2 ≤ 10000
  c0 : 0 ≤ g3
  c1 : g3 ≤ 500
def alikeB (g0 g1 g2 g3 t : Int) (x y : S24) : Bool := decide (dist x.f0 y.f0 + t * g0 ≤ g2) && (x.f1.zip y.f1).all (fun p => decide (dist p.1 p.2 + t * g1 ≤ g3))
theorem far_f (a b : Int) (ha0 : -100000 ≤ a) (ha : a ≤ 100000) (hb0 : -100000 ≤ b) (hb : b ≤ 100000) : guard_far.f a b = some (dist a b) := by
  unfold guard_far.f dist mx
  rw [wrap_small _ (by omega) (by omega), wrap_small _ (by omega) (by omega)]
  congr 1
  split <;> split <;> omega
theorem rfar_f (a b : Int) (ha0 : -100000 ≤ a) (ha : a ≤ 100000) (hb0 : -100000 ≤ b) (hb : b ≤ 100000) : panacheref06_Far.f a b = some (dist a b) := by
  unfold panacheref06_Far.f dist mx mn
  congr 1
  rw [wrap_small _ (by split <;> split <;> omega) (by split <;> split <;> omega)]
  split <;> split <;> omega
theorem dist_bd (a b : Int) (ha0 : 0 ≤ a) (ha : a ≤ 10000) (hb0 : 0 ≤ b) (hb : b ≤ 10000) : 0 ≤ dist a b ∧ dist a b ≤ 10000 := by unfold dist; split <;> omega
theorem alike_l0 (g0 g1 g2 g3 t b0 : Int) (la lb : List Int) (hl : la.length = lb.length) (h4 : la.length ≤ 4) (ha : ∀ c ∈ la, 0 ≤ c ∧ c ≤ 500) (hb : ∀ c ∈ lb, 0 ≤ c ∧ c ≤ 500) (hg0 : 0 ≤ g1) (hg1 : g1 ≤ 100) (ht : t = 2 ∨ t = -2 ∨ t = 1) :
    ∀ (d k i : Nat), la.length - i = d → i ≤ la.length → d < k → guard_gauge_alike.l0 k t la (la.length : Int) (i : Int) g0 g1 g2 g3 b0 lb = some (((la.zip lb).drop i).all (fun p => decide (dist p.1 p.2 + t * g1 ≤ g3))) := by
  intro d
  induction d with
  | zero =>
    intro k i hd hi hk
    obtain ⟨k, rfl⟩ : ∃ m, k = m + 1 := ⟨k - 1, by omega⟩
    simp only [guard_gauge_alike.l0]
    rw [if_neg (by omega), List.drop_eq_nil_of_le (by simp; omega)]
    rfl
  | succ d ih =>
    intro k i hd hi hk
    obtain ⟨k, rfl⟩ : ∃ m, k = m + 1 := ⟨k - 1, by omega⟩
    have h1 : i < la.length := by omega
    have h2 : i < lb.length := by omega
    have e1 := ha la[i] (List.getElem_mem h1)
    have e2 := hb lb[i] (List.getElem_mem h2)
    have e3 := dist_bd la[i] lb[i] (by omega) (by omega) (by omega) (by omega)
    simp only [guard_gauge_alike.l0]
    rw [if_pos (by omega), if_pos (by omega), if_pos (by omega), if_pos (by omega), rd_at la i h1, rd_at lb i h2, far_f _ _ (by omega) (by omega) (by omega) (by omega), wrap_succ i (by omega), Option.bind_some]
    rw [List.drop_eq_getElem_cons (i := i) (l := la.zip lb) (by simp; omega), List.all_cons, List.getElem_zip]
    have ew : wrap64 (dist la[i] lb[i] + wrap64 (t * g1)) = dist la[i] lb[i] + t * g1 := by
      rcases ht with rfl | rfl | rfl
      · rw [wrap_small (2 * g1) (by omega) (by omega), wrap_small _ (by omega) (by omega)]
      · rw [wrap_small (-2 * g1) (by omega) (by omega), wrap_small _ (by omega) (by omega)]
      · rw [wrap_small (1 * g1) (by omega) (by omega), wrap_small _ (by omega) (by omega)]
    rw [ew]
    by_cases hc : dist la[i] lb[i] + t * g1 > g3
    · rw [if_pos hc, show decide (dist la[i] lb[i] + t * g1 ≤ g3) = false from decide_eq_false (Int.not_le.2 hc)]; rfl
    · rw [if_neg hc, show decide (dist la[i] lb[i] + t * g1 ≤ g3) = true from decide_eq_true (Int.not_lt.1 hc), Bool.true_and]
      exact ih k (i + 1) (by omega) (by omega) (by omega)
theorem alike_f (g0 g1 g2 g3 t : Int) (x y : S24) (hx : VG x) (hy : VG y) (hl : x.f1.length = y.f1.length) (hg : VGa g0 g1 g2 g3) (ht : t = 2 ∨ t = -2 ∨ t = 1) (k : Nat) (hk : 5 ≤ k) :
    guard_gauge_alike.f k g0 g1 g2 g3 x.f0 x.f1 y.f0 y.f1 t = some (alikeB g0 g1 g2 g3 t x y) := by
  obtain ⟨a1, a2, a3, a4, a5⟩ := hx
  obtain ⟨b1, b2, b3, b4, b5⟩ := hy
  obtain ⟨s0, s1, q0, q1, w0, w1, c0, c1⟩ := hg
  have e3 := dist_bd x.f0 y.f0 (by omega) (by omega) (by omega) (by omega)
  unfold guard_gauge_alike.f alikeB
  rw [far_f _ _ (by omega) (by omega) (by omega) (by omega), Option.bind_some]
  have ew : wrap64 (dist x.f0 y.f0 + wrap64 (t * g0)) = dist x.f0 y.f0 + t * g0 := by
    rcases ht with rfl | rfl | rfl
    · rw [wrap_small (2 * g0) (by omega) (by omega), wrap_small _ (by omega) (by omega)]
    · rw [wrap_small (-2 * g0) (by omega) (by omega), wrap_small _ (by omega) (by omega)]
    · rw [wrap_small (1 * g0) (by omega) (by omega), wrap_small _ (by omega) (by omega)]
  rw [ew]
  by_cases hc : dist x.f0 y.f0 + t * g0 > g2
  · rw [if_pos hc, show decide (dist x.f0 y.f0 + t * g0 ≤ g2) = false from decide_eq_false (Int.not_le.2 hc)]; rfl
  · rw [if_neg hc, show decide (dist x.f0 y.f0 + t * g0 ≤ g2) = true from decide_eq_true (Int.not_lt.1 hc), Bool.true_and]
    exact alike_l0 g0 g1 g2 g3 t y.f0 x.f1 y.f1 hl a4 a5 b5 q0 q1 ht x.f1.length k 0 (by omega) (by omega) (by omega)
def ralikeB (s a g2 g3 : Int) (x y : S24) : Bool := decide (dist x.f0 y.f0 + s ≤ g2) && (x.f1.zip y.f1).all (fun p => decide (dist p.1 p.2 + a ≤ g3))
theorem ralike_l0 (g0 g1 g2 g3 a a0 b0 : Int) (la lb : List Int) (hl : la.length = lb.length) (h4 : la.length ≤ 4) (ha : ∀ c ∈ la, 0 ≤ c ∧ c ≤ 500) (hb : ∀ c ∈ lb, 0 ≤ c ∧ c ≤ 500) (hs0 : -200 ≤ a) (hs1 : a ≤ 200) :
    ∀ (d k i : Nat) (ok : Bool), la.length - i = d → i ≤ la.length → d < k → panacheref06_Alike.l0 k a ok (i : Int) a0 la b0 lb g0 g1 g2 g3 = some (ok && ((la.zip lb).drop i).all (fun p => decide (dist p.1 p.2 + a ≤ g3))) := by
  intro d
  induction d with
  | zero =>
    intro k i ok hd hi hk
    obtain ⟨k, rfl⟩ : ∃ m, k = m + 1 := ⟨k - 1, by omega⟩
    simp only [panacheref06_Alike.l0]
    rw [if_neg (by omega), List.drop_eq_nil_of_le (by simp; omega)]
    simp
  | succ d ih =>
    intro k i ok hd hi hk
    obtain ⟨k, rfl⟩ : ∃ m, k = m + 1 := ⟨k - 1, by omega⟩
    have h1 : i < la.length := by omega
    have h2 : i < lb.length := by omega
    have e1 := ha la[i] (List.getElem_mem h1)
    have e2 := hb lb[i] (List.getElem_mem h2)
    have e3 := dist_bd la[i] lb[i] (by omega) (by omega) (by omega) (by omega)
    simp only [panacheref06_Alike.l0]
    rw [if_pos (by omega), wrap_succ i (by omega)]
    rw [List.drop_eq_getElem_cons (i := i) (l := la.zip lb) (by simp; omega), List.all_cons, List.getElem_zip]
    cases ok with
    | true =>
      rw [if_pos rfl, if_pos (by omega), if_pos (by omega), rd_at la i h1, rd_at lb i h2, rfar_f _ _ (by omega) (by omega) (by omega) (by omega), Option.bind_some, wrap_small _ (by omega) (by omega)]
      rw [ih k (i + 1) _ (by omega) (by omega) (by omega)]
      simp
    | false =>
      rw [if_neg (by simp), ih k (i + 1) _ (by omega) (by omega) (by omega)]
      simp
theorem ralike_f (g0 g1 g2 g3 s a : Int) (x y : S24) (hx : VG x) (hy : VG y) (hl : x.f1.length = y.f1.length) (hs0 : -200 ≤ s) (hs1 : s ≤ 200) (ha0 : -200 ≤ a) (ha1 : a ≤ 200) (k : Nat) (hk : 5 ≤ k) :
    panacheref06_Alike.f k x.f0 x.f1 y.f0 y.f1 g0 g1 g2 g3 s a = some (ralikeB s a g2 g3 x y) := by
  obtain ⟨a1, a2, a3, a4, a5⟩ := hx
  obtain ⟨b1, b2, b3, b4, b5⟩ := hy
  have e3 := dist_bd x.f0 y.f0 (by omega) (by omega) (by omega) (by omega)
  unfold panacheref06_Alike.f ralikeB
  rw [rfar_f _ _ (by omega) (by omega) (by omega) (by omega), Option.bind_some, wrap_small _ (by omega) (by omega)]
  exact ralike_l0 g0 g1 g2 g3 a x.f0 y.f0 x.f1 y.f1 hl a4 a5 b5 ha0 ha1 x.f1.length k 0 _ (by omega) (by omega) (by omega)
theorem surely_f (g0 g1 g2 g3 : Int) (x y : S24) (hx : VG x) (hy : VG y) (hl : x.f1.length = y.f1.length) (hg : VGa g0 g1 g2 g3) (k : Nat) (hk : 5 ≤ k) : panacheref06_Surely.f k x.f0 x.f1 y.f0 y.f1 g0 g1 g2 g3 = some (alikeB g0 g1 g2 g3 2 x y) := by
  obtain ⟨s0, s1, q0, q1, w0, w1, c0, c1⟩ := hg
  unfold panacheref06_Surely.f
  rw [wrap_small (2 * g0) (by omega) (by omega), wrap_small (2 * g1) (by omega) (by omega), ralike_f g0 g1 g2 g3 (2 * g0) (2 * g1) x y hx hy hl (by omega) (by omega) (by omega) (by omega) k hk]
  rfl
theorem possibly_f (g0 g1 g2 g3 : Int) (x y : S24) (hx : VG x) (hy : VG y) (hl : x.f1.length = y.f1.length) (hg : VGa g0 g1 g2 g3) (k : Nat) (hk : 5 ≤ k) : panacheref06_Possibly.f k x.f0 x.f1 y.f0 y.f1 g0 g1 g2 g3 = some (alikeB g0 g1 g2 g3 (-2) x y) := by
  obtain ⟨s0, s1, q0, q1, w0, w1, c0, c1⟩ := hg
  unfold panacheref06_Possibly.f
  rw [wrap_small ((-2) * g0) (by omega) (by omega), wrap_small ((-2) * g1) (by omega) (by omega), ralike_f g0 g1 g2 g3 ((-2) * g0) ((-2) * g1) x y hx hy hl (by omega) (by omega) (by omega) (by omega) k hk]
  rfl
end Go.Proofs.YtamibghbkjmmeaaDoor.G
end
section
namespace Go.Proofs.YtamibghbkjmmeaaDoor.G
open Go.RowKit Go.Proofs.YtamibghbkjmmeaaDoorW.PrintWords Go.Proofs.YtamibghbkjmmeaaDoorW.PrintLast Go.Proofs.YtamibghbkjmmeaaDoorW.PrintMore
set_option linter.unusedVariables false
set_option linter.unusedSimpArgs false
theorem in_f (a lo hi : Int) : panacheref06_In.f a lo hi = some (!(outB lo hi a)) := by
  unfold panacheref06_In.f outB
  by_cases h : a ≥ lo
  · rw [if_pos h, decide_eq_false (by omega : ¬ a < lo), Bool.false_or]
    by_cases h2 : a ≤ hi
    · rw [decide_eq_true h2, decide_eq_false (by omega : ¬ hi < a)]; rfl
    · rw [decide_eq_false h2, decide_eq_true (by omega : hi < a)]; rfl
  · rw [if_neg h, decide_eq_true (by omega : a < lo)]; rfl
def formS (l : List S24) : Int := if l.any (otherB (rd_T24 l 0).f1.length) then 4 else if l.any noneB then 2 else 0
theorem checkAllS_form (g0 g1 g2 g3 : Int) (l : List S24) : checkAllS g0 g1 g2 g3 l = if formS l ≠ 0 then formS l else if gaugeB g0 g1 g2 g3 then 3 else 0 := by
  unfold checkAllS formS
  cases l.any (otherB (rd_T24 l 0).f1.length) <;> cases l.any noneB <;> simp
theorem gauge_f (g0 g1 g2 g3 : Int) : panacheref06_Gauge.f g0 g1 g2 g3 = some (!(gaugeB g0 g1 g2 g3)) := by
  unfold panacheref06_Gauge.f gaugeB
  simp only [in_f, Option.bind_some, List.any_cons, List.any_nil, Bool.or_false]
  cases outB 0 100 g0 <;> cases outB 0 100 g1 <;> cases outB 0 10000 g2 <;> cases outB 0 500 g3 <;> rfl
theorem form_l2 (x : List S24) (hx : x.length ≤ 1000) (i : Nat) (hi : i < x.length) (hB : x[i].f1.length ≤ 1000) (K1 : Nat) (R : Int) (hR : ∀ k, K1 < k → panacheref06_Form.l1 k x ((i + 1 : Nat) : Int) = some R) :
    ∀ (e k j : Nat), x[i].f1.length - j = e → j ≤ x[i].f1.length → K1 + e + 1 < k → panacheref06_Form.l2 k x (i : Int) (j : Int) = some (if (x[i].f1.drop j).any (outB 0 500) then 2 else R) := by
  intro e
  induction e with
  | zero =>
    intro k j he hj hk
    obtain ⟨k, rfl⟩ : ∃ m, k = m + 1 := ⟨k - 1, by omega⟩
    simp only [panacheref06_Form.l2]
    rw [if_pos (by omega), if_pos (by omega), rdT_at x i hi, if_neg (by omega), wrap_succ i (by omega), hR k (by omega), List.drop_eq_nil_of_le (by omega)]
    simp
  | succ e ih =>
    intro k j he hj hk
    obtain ⟨k, rfl⟩ : ∃ m, k = m + 1 := ⟨k - 1, by omega⟩
    have h1 : j < x[i].f1.length := by omega
    simp only [panacheref06_Form.l2]
    rw [if_pos (by omega), if_pos (by omega), rdT_at x i hi, if_pos (by omega), if_pos (by omega), rd_at _ j h1, in_f, Option.bind_some, wrap_succ j (by omega)]
    rw [List.drop_eq_getElem_cons h1, List.any_cons]
    cases outB 0 500 x[i].f1[j] with
    | true => rfl
    | false =>
      rw [if_pos (by rfl), ih k (j + 1) (by omega) (by omega) (by omega)]
      rfl
theorem form_l1 (x : List S24) (hx : x.length ≤ 1000) (hB : ∀ a ∈ x, a.f1.length ≤ 8) : ∀ (d k i : Nat), x.length - i = d → i ≤ x.length → d * 11 < k → panacheref06_Form.l1 k x (i : Int) = some (if (x.drop i).any noneB then 2 else 0) := by
  intro d
  induction d with
  | zero =>
    intro k i hd hi hk
    obtain ⟨k, rfl⟩ : ∃ m, k = m + 1 := ⟨k - 1, by omega⟩
    simp only [panacheref06_Form.l1]
    rw [if_neg (by omega), List.drop_eq_nil_of_le (by omega)]
    simp
  | succ d ih =>
    intro k i hd hi hk
    obtain ⟨k, rfl⟩ : ∃ m, k = m + 1 := ⟨k - 1, by omega⟩
    have h1 : i < x.length := by omega
    have h8 := hB x[i] (List.getElem_mem h1)
    simp only [panacheref06_Form.l1]
    rw [if_pos (by omega), if_pos (by omega), rdT_at x i h1, in_f, Option.bind_some]
    have h2 := form_l2 x hx i h1 (by omega) (d * 11) _ (fun k hk => ih k (i + 1) (by omega) (by omega) hk) x[i].f1.length k 0 (by omega) (by omega) (by omega)
    rw [show ((0 : Nat) : Int) = 0 from rfl] at h2
    rw [h2, List.drop_eq_getElem_cons h1, List.any_cons]
    unfold noneB
    simp only [List.any_cons, List.any_nil, Bool.or_false, List.drop_zero]
    cases outB 1 10000 x[i].f0 with
    | true => rfl
    | false =>
      cases x[i].f1.any (outB 0 500) <;> rfl
theorem form_l0 (x : List S24) (hx : x.length ≤ 1000) (R : Int) (K1 : Nat) (hR : ∀ k, K1 < k → panacheref06_Form.l1 k x 0 = some R) : ∀ (d k i : Nat), x.length - i = d → i ≤ x.length → K1 + d + 1 < k → panacheref06_Form.l0 k x (i : Int) = some (if (x.drop i).any (otherB (rd_T24 x 0).f1.length) then 4 else R) := by
  intro d
  induction d with
  | zero =>
    intro k i hd hi hk
    obtain ⟨k, rfl⟩ : ∃ m, k = m + 1 := ⟨k - 1, by omega⟩
    simp only [panacheref06_Form.l0]
    rw [if_neg (by omega), hR k (by omega), List.drop_eq_nil_of_le (by omega)]
    simp
  | succ d ih =>
    intro k i hd hi hk
    obtain ⟨k, rfl⟩ : ∃ m, k = m + 1 := ⟨k - 1, by omega⟩
    have h1 : i < x.length := by omega
    simp only [panacheref06_Form.l0]
    rw [if_pos (by omega), if_pos (by omega), rdT_at x i h1, in_f, Option.bind_some, wrap_succ i (by omega), ih k (i + 1) (by omega) (by omega) (by omega), List.drop_eq_getElem_cons h1, List.any_cons]
    unfold otherB
    simp only [List.any_cons, List.any_nil, Bool.or_false]
    cases outB 1 4 (x[i].f1.length : Int) with
    | true => rfl
    | false =>
      rw [if_pos (by rfl), if_pos (by omega)]
      by_cases h2 : (x[i].f1.length : Int) = ((rd_T24 x 0).f1.length : Int)
      · rw [if_pos h2, decide_eq_false (fun h => h h2)]; rfl
      · rw [if_neg h2, decide_eq_true h2]; rfl
theorem form_f (x : List S24) (hx : x.length ≤ 24) (hB : ∀ a ∈ x, a.f1.length ≤ 8) (k : Nat) (hk : 400 ≤ k) : panacheref06_Form.f k x = some (formS x) := by
  unfold panacheref06_Form.f formS
  have h1 := form_l0 x (by omega) (if x.any noneB then 2 else 0) 300 (fun k hk => by
    have h2 := form_l1 x (by omega) hB x.length k 0 (by omega) (by omega) (by omega)
    rw [List.drop_zero] at h2
    exact h2) x.length k 0 (by omega) (by omega) (by omega)
  rw [List.drop_zero] at h1
  exact h1
theorem copy_l0 (x : List S24) (hx : x.length ≤ 1000) (hB : ∀ a ∈ x, a.f1.length ≤ 1000) : ∀ (d k i : Nat), x.length - i = d → i ≤ x.length → d < k → panacheref06_Copy.l0 k x (x.take i) (i : Int) = some x := by
  intro d
  induction d with
  | zero =>
    intro k i hd hi hk
    obtain ⟨k, rfl⟩ : ∃ m, k = m + 1 := ⟨k - 1, by omega⟩
    simp only [panacheref06_Copy.l0]
    rw [if_neg (by omega), List.take_of_length_le (by omega)]
  | succ d ih =>
    intro k i hd hi hk
    obtain ⟨k, rfl⟩ : ∃ m, k = m + 1 := ⟨k - 1, by omega⟩
    have h1 : i < x.length := by omega
    have h8 := hB x[i] (List.getElem_mem h1)
    simp only [panacheref06_Copy.l0]
    rw [if_pos (by omega), if_pos (by omega), Option.bind_some, rdT_at x i h1, if_pos (by simp; omega), if_pos (by simp; omega), wrap_succ i (by omega)]
    have e : x.take i ++ [(⟨x[i].f0, ([] : List Int) ++ x[i].f1⟩ : S24)] = x.take (i + 1) := by rw [List.take_succ_eq_append_getElem h1]; rfl
    rw [e]
    exact ih k (i + 1) (by omega) (by omega) (by omega)
theorem copy_f (x : List S24) (hx : x.length ≤ 900) (hB : ∀ a ∈ x, a.f1.length ≤ 1000) (k : Nat) (hk : 1000 ≤ k) : panacheref06_Copy.f k x = some x := by
  have h := copy_l0 x (by omega) hB x.length k 0 (by omega) (by omega) (by omega)
  rw [List.take_zero] at h
  exact h
theorem ints_l0 (x : List Int) (hx : x.length ≤ 1000) : ∀ (d k i : Nat), x.length - i = d → i ≤ x.length → d < k → panacheref06_Ints.l0 k x x (i : Int) = some true := by
  intro d
  induction d with
  | zero =>
    intro k i hd hi hk
    obtain ⟨k, rfl⟩ : ∃ m, k = m + 1 := ⟨k - 1, by omega⟩
    simp only [panacheref06_Ints.l0]
    rw [if_neg (by omega)]
  | succ d ih =>
    intro k i hd hi hk
    obtain ⟨k, rfl⟩ : ∃ m, k = m + 1 := ⟨k - 1, by omega⟩
    simp only [panacheref06_Ints.l0]
    rw [if_pos (by omega), if_pos (by omega), if_pos (by omega), if_pos trivial, wrap_succ i (by omega)]
    exact ih k (i + 1) (by omega) (by omega) (by omega)
theorem ints_f (x : List Int) (hx : x.length ≤ 100) (k : Nat) (hk : 200 ≤ k) : panacheref06_Ints.f k x x = some true := by
  unfold panacheref06_Ints.f
  rw [if_pos rfl]
  exact ints_l0 x (by omega) x.length k 0 (by omega) (by omega) (by omega)
theorem same_l0 (x : List S24) (hx : x.length ≤ 100) (hB : ∀ a ∈ x, a.f1.length ≤ 100) : ∀ (d k i : Nat), x.length - i = d → i ≤ x.length → d + 200 < k → panacheref06_Same.l0 k x x (i : Int) = some true := by
  intro d
  induction d with
  | zero =>
    intro k i hd hi hk
    obtain ⟨k, rfl⟩ : ∃ m, k = m + 1 := ⟨k - 1, by omega⟩
    simp only [panacheref06_Same.l0]
    rw [if_neg (by omega)]
  | succ d ih =>
    intro k i hd hi hk
    obtain ⟨k, rfl⟩ : ∃ m, k = m + 1 := ⟨k - 1, by omega⟩
    have h1 : i < x.length := by omega
    simp only [panacheref06_Same.l0]
    rw [if_pos (by omega), if_pos (by omega), if_pos (by omega), if_pos trivial, rdT_at x i h1, ints_f _ (hB x[i] (List.getElem_mem h1)) k (by omega), Option.bind_some, if_pos rfl, wrap_succ i (by omega)]
    exact ih k (i + 1) (by omega) (by omega) (by omega)
theorem same_f (x : List S24) (hx : x.length ≤ 100) (hB : ∀ a ∈ x, a.f1.length ≤ 100) (k : Nat) (hk : 500 ≤ k) : panacheref06_Same.f k x x = some true := by
  unfold panacheref06_Same.f
  rw [if_pos rfl]
  exact same_l0 x hx hB x.length k 0 (by omega) (by omega) (by omega)
theorem out_false {lo hi a : Int} (h : outB lo hi a = false) : lo ≤ a ∧ a ≤ hi := by
  unfold outB at h
  rw [Bool.or_eq_false_iff] at h
  have h1 := of_decide_eq_false h.1
  have h2 := of_decide_eq_false h.2
  omega
theorem gaugeB_ok {g0 g1 g2 g3 : Int} (h : gaugeB g0 g1 g2 g3 = false) : VGa g0 g1 g2 g3 := by
  unfold gaugeB at h
  simp only [List.any_cons, List.any_nil, Bool.or_false, Bool.or_eq_false_iff] at h
  obtain ⟨⟨⟨h1, h2⟩, h3⟩, h4⟩ := h
  have e1 := out_false h1
  have e2 := out_false h2
  have e3 := out_false h3
  have e4 := out_false h4
  exact ⟨e1.1, e1.2, e2.1, e2.2, e3.1, e3.2, e4.1, e4.2⟩
theorem formS_ok {l : List S24} (h : formS l = 0) : (∀ x ∈ l, VG x) ∧ ∀ x ∈ l, x.f1.length = (rd_T24 l 0).f1.length := by
  unfold formS at h
  split at h
  · cases h
  · rename_i h1
    split at h
    · cases h
    · rename_i h2
      rw [Bool.not_eq_true] at h1 h2
      rw [List.any_eq_false] at h1 h2
      have e : ∀ x ∈ l, (1 ≤ x.f1.length ∧ x.f1.length ≤ 4) ∧ x.f1.length = (rd_T24 l 0).f1.length := fun x hx => by
        have h3 := h1 x hx
        rw [Bool.not_eq_true] at h3
        unfold otherB at h3
        simp only [List.any_cons, List.any_nil, Bool.or_false, Bool.or_eq_false_iff, decide_eq_false_iff_not, Classical.not_not] at h3
        have h4 := out_false h3.1
        exact ⟨by omega, by omega⟩
      refine ⟨fun x hx => ?_, fun x hx => (e x hx).2⟩
      have h3 := h2 x hx
      rw [Bool.not_eq_true] at h3
      unfold noneB at h3
      simp only [List.any_cons, List.any_nil, Bool.or_false, Bool.or_eq_false_iff] at h3
      have h4 := out_false h3.1
      have h5 := List.any_eq_false.1 h3.2
      exact ⟨h4.1, h4.2, (e x hx).1.1, (e x hx).1.2, fun c hc => out_false (by simpa using h5 c hc)⟩
end Go.Proofs.YtamibghbkjmmeaaDoor.G
end
section
namespace Go.Proofs.YtamibghbkjmmeaaDoor.G
open Go.RowKit Go.Proofs.YtamibghbkjmmeaaDoorW.PrintWords Go.Proofs.YtamibghbkjmmeaaDoorW.PrintLast Go.Proofs.YtamibghbkjmmeaaDoorW.PrintMore
set_option linter.unusedVariables false
set_option linter.unusedSimpArgs false
theorem GuardAlikes_walk (x : S24) (A : Option Addr) (c : Nat) (y : S24) (B : Option Addr) (d : Nat) (g0 g1 g2 g3 : Int) (w : World) (hC : Kd.C (Kd.int .i64) w A x.f1.length x.f1) (hc : x.f1.length ≤ c) (hD : Kd.C (Kd.int .i64) w B y.f1.length y.f1) (hd : y.f1.length ≤ d)
    (_ : (Lit.int .i64 g0).wf = true) (_ : (Lit.int .i64 g1).wf = true) (_ : (Lit.int .i64 g2).wf = true) (_ : (Lit.int .i64 g3).wf = true) (hT : TabOk w) :
    Calls Tryd.prog 3 #[.agg #[.int .i64 x.f0, .slice A x.f1.length c], .agg #[.int .i64 y.f0, .slice B y.f1.length d], .agg #[.int .i64 g0, .int .i64 g1, .int .i64 g2, .int .i64 g3]] w fun e w' => e = .returned (.bool true) ∧ Below w.heap.size w w' := by
  by_cases hl : 8 < x.f1.length ∨ 8 < y.f1.length
  · exact alikes_large x A c y B d g0 g1 g2 g3 w hC hc hD hd hT hl
  · have hx8 : x.f1.length ≤ 8 := by omega
    have hy8 : y.f1.length ≤ 8 := by omega
    have hm : ∀ a ∈ [x, y], a.f1.length ≤ 8 := fun a ha => by
      rcases List.mem_cons.1 ha with rfl | ha
      · exact hx8
      · rw [List.mem_singleton.1 ha]; exact hy8
    have hf := form_f [x, y] (by simp) hm 1000 (by omega)
    have hcp := copy_f [x, y] (by simp) (fun a ha => by have := hm a ha; omega) 1000 (by omega)
    have hs := same_f [x, y] (by simp) (fun a ha => by have := hm a ha; omega) 1000 (by omega)
    have hg := gauge_f g0 g1 g2 g3
    have hcs := checkAllS_form g0 g1 g2 g3 [x, y]
    have hA : ∀ r, checkAllS g0 g1 g2 g3 [x, y] = r → guard_Alike.f 1000 x.f0 x.f1 y.f0 y.f1 g0 g1 g2 g3 = if r = 0 then (guard_gauge_alike.f 1000 g0 g1 g2 g3 x.f0 x.f1 y.f0 y.f1 2).bind (fun a => (guard_gauge_alike.f 1000 g0 g1 g2 g3 x.f0 x.f1 y.f0 y.f1 (-2)).bind fun b => some (a, b, 0)) else some (false, false, r) := fun r hr => by
      subst hr; rfl
    by_cases h0 : formS [x, y] = 0
    · rw [if_neg (fun h => h h0)] at hcs
      cases hgb : gaugeB g0 g1 g2 g3 with
      | true =>
        rw [hgb, if_pos rfl] at hcs
        have h2 := hA 3 hcs
        rw [if_neg (by decide)] at h2
        rw [hgb] at hg
        exact alikes_small x A c y B d g0 g1 g2 g3 w hC hc hD hd hT hx8 hy8 false false false 3 0 hcp h2 hs (by rw [hf, h0]) hg (.inr (.inl ⟨rfl, rfl, rfl, rfl, rfl⟩))
      | false =>
        rw [hgb, if_neg (by decide)] at hcs
        obtain ⟨hv, hle⟩ := formS_ok h0
        have vx := hv x (by simp)
        have vy := hv y (by simp)
        have hxy : x.f1.length = y.f1.length := (hle x (by simp)).trans (hle y (by simp)).symm
        have vg := gaugeB_ok hgb
        have h2 := hA 0 hcs
        rw [if_pos rfl, alike_f g0 g1 g2 g3 2 x y vx vy hxy vg (by simp) 1000 (by omega), Option.bind_some, alike_f g0 g1 g2 g3 (-2) x y vx vy hxy vg (by simp) 1000 (by omega), Option.bind_some] at h2
        rw [hgb] at hg
        exact alikes_small x A c y B d g0 g1 g2 g3 w hC hc hD hd hT hx8 hy8 _ _ true 0 0 hcp h2 hs (by rw [hf, h0]) hg (.inr (.inr ⟨rfl, rfl, rfl, surely_f g0 g1 g2 g3 x y vx vy hxy vg 1000 (by omega), possibly_f g0 g1 g2 g3 x y vx vy hxy vg 1000 (by omega)⟩))
    · rw [if_pos h0] at hcs
      have h2 := hA _ hcs
      rw [if_neg h0] at h2
      exact alikes_small x A c y B d g0 g1 g2 g3 w hC hc hD hd hT hx8 hy8 false false _ (formS [x, y]) (formS [x, y]) hcp h2 hs hf hg (.inl ⟨h0, rfl, rfl, rfl⟩)
end Go.Proofs.YtamibghbkjmmeaaDoor.G
end
section
namespace Go.Proofs.YtamibghbkjmmeaaDoor.G
open Go.RowKit Go.Proofs.YtamibghbkjmmeaaDoorW.PrintWords Go.Proofs.YtamibghbkjmmeaaDoorW.PrintLast Go.Proofs.YtamibghbkjmmeaaDoorW.PrintMore
set_option linter.unusedVariables false
set_option linter.unusedSimpArgs false
open Go.ChangeShapes Go.WideShapes Go.ChangeAt Go.Deep
section
variable {H : Type} {enc : TypeId × Value → H} {W : World} {held : Bool}
theorem open_row {α : Type} [Inhabited α] {d : Kd α} {t e : TypeId} {fuel : Nat} {v : Value} {x : DataW H × List MemPlace} (ht : Tryd.prog.underlying t = some (.slice e)) (hc : Tryd.prog.cellsOf e = d.sz)
    (hE : ∀ n cs y, DataW.trod enc Tryd.prog W 0 (fun _ => true) held n e cs = some y → ∃ p : α, d.K W p cs) (h : DataW.trod enc Tryd.prog W 0 (fun _ => true) held fuel t [v] = some x) :
    ∃ (A : Option Addr) (xs : List α) (c : Nat), v = .slice A xs.length c ∧ xs.length ≤ c ∧ Kd.C d W A xs.length xs := by
  rcases open_slice ht h with ⟨h0, _⟩ | ⟨a, len, cap, m, n, D, Pl, hv, _, hl, hm, hmm, _, hx⟩
  · exact ⟨none, [], 0, by simpa using h0, Nat.le_refl _, Kd.C_nil _ _⟩
  · simp only [if_true] at hmm
    subst hmm
    have each : ∀ i, i < m → ∃ y : α × List Value, W.cells? 0 (a.add (i * Tryd.prog.cellsOf e)) (Tryd.prog.cellsOf e) = some y.2 ∧ d.K W y.1 y.2 := by
      intro i hi
      obtain ⟨cs', h1, h2⟩ := hx i hi
      obtain ⟨p, hp⟩ := hE _ _ _ h2
      exact ⟨(p, cs'), h1, hp⟩
    obtain ⟨y, hy⟩ := choose_lt each
    have hlen : ((List.range len).map fun i => (y i).1).length = len := by simp
    refine ⟨some a, (List.range len).map fun i => (y i).1, m, ?_, by rw [hlen]; exact hl, rfl, ?_, fun _ => ⟨a, rfl, fun j p hj => ?_⟩⟩
    · rw [hlen]; simpa using hv
    · rw [hlen]; unfold maxLen at hm; omega
    · have hjl : j < len := by
        have := (List.getElem?_eq_some_iff.1 hj).1
        simpa using this
      obtain ⟨h1, h2⟩ := hy j (by omega)
      have hp : p = (y j).1 := by
        rw [List.getElem?_map, List.getElem?_range hjl] at hj
        simpa using hj.symm
      refine ⟨(y j).2, by rw [d.K_len h2], hp ▸ h2, fun i u hu => ?_⟩
      obtain ⟨_, hsz, hcell⟩ := World.cells?_some h1
      have hi : i < Tryd.prog.cellsOf e := by
        have := (List.getElem?_eq_some_iff.1 hu).1
        omega
      have h3 := hcell i hi
      rw [hc] at h3
      have h4 : (a.add (j * d.sz)).add i = a.add (j * d.sz + i) := by
        unfold Addr.add
        by_cases h5 : j * d.sz = 0 <;> by_cases h6 : i = 0 <;> simp [h5, h6, Nat.add_assoc]
      rw [← h4, h3, hu]
theorem open_num {k : IntKind} {t : TypeId} (ht : Tryd.prog.underlying t = some (.int k)) {n : Nat} {cs : List Value} {y : DataW H × List MemPlace} (h : DataW.trod enc Tryd.prog W 0 (fun _ => true) held n t cs = some y) : ∃ p : Int, (Kd.int k).K W p cs ∧ (Lit.int k p).wf = true := by
  obtain ⟨m, rfl, _, hw⟩ := DataW.trod_int ht h
  exact ⟨m, rfl, hw⟩
set_option maxRecDepth 100000 in
theorem open_guard {d0 : DataW H} {p0 : List MemPlace} {v : Value} (hv : Value.okWide Tryd.prog W .any 0 24 v) (h : DataW.Trod enc Tryd.prog W 0 (fun _ => true) held 24 v d0 p0) : ∃ (x : S24) (A : Option Addr) (c : Nat), v = .agg #[.int .i64 x.f0, .slice A x.f1.length c] ∧ x.f1.length ≤ c ∧ Kd.C (Kd.int .i64) W A x.f1.length x.f1 ∧ (Lit.int .i64 x.f0).wf = true := by
  obtain ⟨v0, v1, y0, y1, n, rfl, _, _, h0, h1⟩ := Joins.open_agg2 Tryd.underlying24 (by kernel_rfl) (by kernel_rfl) hv h
  obtain ⟨f0, hf0, hw⟩ := open_num Tryd.underlying3 h0
  obtain ⟨A, xs, c, rfl, hle, hC⟩ := open_row (d := Kd.int .i64) Tryd.underlying22 (by kernel_rfl) (fun _ _ _ h => (open_num Tryd.underlying3 h).imp fun _ h => h.1) h1
  obtain rfl : v0 = .int .i64 f0 := by simpa using (show [v0] = [.int .i64 f0] from hf0)
  exact ⟨⟨f0, xs⟩, A, c, rfl, hle, hC, hw⟩
set_option maxRecDepth 100000 in
theorem open_gauge {d0 : DataW H} {p0 : List MemPlace} {v : Value} (hv : Value.okWide Tryd.prog W .any 0 26 v) (h : DataW.Trod enc Tryd.prog W 0 (fun _ => true) held 26 v d0 p0) : ∃ g0 g1 g2 g3 : Int, v = .agg #[.int .i64 g0, .int .i64 g1, .int .i64 g2, .int .i64 g3] ∧
    (Lit.int .i64 g0).wf = true ∧ (Lit.int .i64 g1).wf = true ∧ (Lit.int .i64 g2).wf = true ∧ (Lit.int .i64 g3).wf = true := by
  obtain ⟨v0, v1, v2, v3, y0, y1, y2, y3, n, rfl, _, _, h0, h1, h2, h3⟩ := Joins.open_agg4 Tryd.underlying26 (by kernel_rfl) (by kernel_rfl) hv h
  obtain ⟨f0, e0, w0⟩ := open_num Tryd.underlying3 h0
  obtain ⟨f1, e1, w1⟩ := open_num Tryd.underlying3 h1
  obtain ⟨f2, e2, w2⟩ := open_num Tryd.underlying3 h2
  obtain ⟨f3, e3, w3⟩ := open_num Tryd.underlying3 h3
  obtain rfl : v0 = .int .i64 f0 := by simpa using (show [v0] = [.int .i64 f0] from e0)
  obtain rfl : v1 = .int .i64 f1 := by simpa using (show [v1] = [.int .i64 f1] from e1)
  obtain rfl : v2 = .int .i64 f2 := by simpa using (show [v2] = [.int .i64 f2] from e2)
  obtain rfl : v3 = .int .i64 f3 := by simpa using (show [v3] = [.int .i64 f3] from e3)
  exact ⟨f0, f1, f2, f3, rfl, w0, w1, w2, w3⟩
instance : Inhabited S24 := ⟨z24⟩
end
set_option maxRecDepth 100000 in
theorem tab_of_laid {W : World} (h : laidMet Tryd.prog [("math/bits.deBruijn32tab", Rows.laid_math_bits_deBruijn32tab), ("math/bits.deBruijn64tab", Rows.laid_math_bits_deBruijn64tab)] W) : TabOk W := by
  have h2 := laidMet.tail h
  have h3 : Lib.TabIs Tryd.prog W "math/bits.deBruijn64tab" .u8 (Lib.deBruijn64tab.map Int.ofNat) :=
    Lib.tabIs_of_head (rest := []) (g := 1) (t := 173) (e := 5) (n := 64) (by kernel_rfl) (by kernel_rfl) Tryd.underlying173 Tryd.underlying5 (by kernel_rfl) (by kernel_rfl) h2
  intro j hj
  have h4 := h3.cell (g := 1) (by kernel_rfl) j (by simpa using hj)
  rw [h4]
  simp [List.getD, hj]
end Go.Proofs.YtamibghbkjmmeaaDoor.G
end
