/- A part of this claim's proof (F61, H16, F17, F19, F64, F20); no condition. -/
import Derived.Test.YtamibghbkjmmeaaDoorAlk08
section
namespace Go.Proofs.YtamibghbkjmmeaaDoor.G
open Go.RowKit Go.Proofs.YtamibghbkjmmeaaDoorW.PrintWords Go.Proofs.YtamibghbkjmmeaaDoorW.PrintLast Go.Proofs.YtamibghbkjmmeaaDoorW.PrintMore
attribute [local go_sem] max2_int min2_int max_two min_two max_three min_three max_four min_four
set_option linter.unusedVariables false
set_option linter.unusedSimpArgs false
def panachelaw06_stock.f  : Option ((List (S24)) × (List (S24))) := (panachelaw06_one.f 100 20).bind fun bt195 => ((panachelaw06_one.f 104 24).bind fun bt199 => ((panachelaw06_one.f 120 20).bind fun bt203 => ((panachelaw06_one.f 103 22).bind fun bt210 => ((panachelaw06_one.f 101 20).bind fun bt214 => ((panachelaw06_one.f 118 30).bind fun bt218 => (some ((([(⟨bt195.1, bt195.2⟩ : S24), (⟨bt199.1, bt199.2⟩ : S24), (⟨bt203.1, bt203.2⟩ : S24)] : List (S24))), (([(⟨bt210.1, bt210.2⟩ : S24), (⟨bt214.1, bt214.2⟩ : S24), (⟨bt218.1, bt218.2⟩ : S24)] : List (S24))))))))))
set_option maxHeartbeats 8000000 in
set_option maxRecDepth 100000 in
theorem panachelaw06_stock.calls  (r1 : List (S24)) (r2 : List (S24)) (w : World) (h : panachelaw06_stock.f  = some (r1, r2)) :
    Calls Tryd.prog 61 #[] w fun e w' => ∃ v0_ v1_ : Value, e = .returned (.agg #[v0_, v1_]) ∧ Kd.N k24 24 w' w.heap.size (fun k_ => (w.heap.size ≤ k_) ∧ some k_ ≠ (v1_ : Value).ownBlock) v0_ r1 ∧ Kd.N k24 24 w' w.heap.size (fun k_ => (w.heap.size ≤ k_) ∧ some k_ ≠ (v0_ : Value).ownBlock) v1_ r2 ∧ Below w.heap.size w w' := by
  have hu38 := Tryd.underlying38
  have HB := Aside0.mk (Below.refl w.heap.size w)
  have H : ((panachelaw06_one.f 100 20).bind fun bt195 => ((panachelaw06_one.f 104 24).bind fun bt199 => ((panachelaw06_one.f 120 20).bind fun bt203 => ((panachelaw06_one.f 103 22).bind fun bt210 => ((panachelaw06_one.f 101 20).bind fun bt214 => ((panachelaw06_one.f 118 30).bind fun bt218 => (some ((([(⟨bt195.1, bt195.2⟩ : S24), (⟨bt199.1, bt199.2⟩ : S24), (⟨bt203.1, bt203.2⟩ : S24)] : List (S24))), (([(⟨bt210.1, bt210.2⟩ : S24), (⟨bt214.1, bt214.2⟩ : S24), (⟨bt218.1, bt218.2⟩ : S24)] : List (S24))))))))))) = some (r1, r2) := h
  clear h
  replace H := Option.bind_eq_some_iff.mp H
  obtain ⟨⟨t195, t196⟩, A10, H⟩ := H
  replace H : ((panachelaw06_one.f 104 24).bind fun bt199 => ((panachelaw06_one.f 120 20).bind fun bt203 => ((panachelaw06_one.f 103 22).bind fun bt210 => ((panachelaw06_one.f 101 20).bind fun bt214 => ((panachelaw06_one.f 118 30).bind fun bt218 => (some ((([(⟨t195, t196⟩ : S24), (⟨bt199.1, bt199.2⟩ : S24), (⟨bt203.1, bt203.2⟩ : S24)] : List (S24))), (([(⟨bt210.1, bt210.2⟩ : S24), (⟨bt214.1, bt214.2⟩ : S24), (⟨bt218.1, bt218.2⟩ : S24)] : List (S24)))))))))) = some (r1, r2) := H
  have A1 := Aside0.mk A10
  clear A10
  replace H := Option.bind_eq_some_iff.mp H
  obtain ⟨⟨t199, t200⟩, A20, H⟩ := H
  replace H : ((panachelaw06_one.f 120 20).bind fun bt203 => ((panachelaw06_one.f 103 22).bind fun bt210 => ((panachelaw06_one.f 101 20).bind fun bt214 => ((panachelaw06_one.f 118 30).bind fun bt218 => (some ((([(⟨t195, t196⟩ : S24), (⟨t199, t200⟩ : S24), (⟨bt203.1, bt203.2⟩ : S24)] : List (S24))), (([(⟨bt210.1, bt210.2⟩ : S24), (⟨bt214.1, bt214.2⟩ : S24), (⟨bt218.1, bt218.2⟩ : S24)] : List (S24))))))))) = some (r1, r2) := H
  have A2 := Aside0.mk A20
  clear A20
  replace H := Option.bind_eq_some_iff.mp H
  obtain ⟨⟨t203, t204⟩, A30, H⟩ := H
  replace H : ((panachelaw06_one.f 103 22).bind fun bt210 => ((panachelaw06_one.f 101 20).bind fun bt214 => ((panachelaw06_one.f 118 30).bind fun bt218 => (some ((([(⟨t195, t196⟩ : S24), (⟨t199, t200⟩ : S24), (⟨t203, t204⟩ : S24)] : List (S24))), (([(⟨bt210.1, bt210.2⟩ : S24), (⟨bt214.1, bt214.2⟩ : S24), (⟨bt218.1, bt218.2⟩ : S24)] : List (S24)))))))) = some (r1, r2) := H
  have A3 := Aside0.mk A30
  clear A30
  obtain ⟨y207, hy207⟩ : ∃ y_ : List (S24), y_ = (([(⟨t195, t196⟩ : S24), (⟨t199, t200⟩ : S24), (⟨t203, t204⟩ : S24)] : List (S24))) := ⟨_, rfl⟩
  replace H : ((panachelaw06_one.f 103 22).bind fun bt210 => ((panachelaw06_one.f 101 20).bind fun bt214 => ((panachelaw06_one.f 118 30).bind fun bt218 => (some (y207, (([(⟨bt210.1, bt210.2⟩ : S24), (⟨bt214.1, bt214.2⟩ : S24), (⟨bt218.1, bt218.2⟩ : S24)] : List (S24)))))))) = some (r1, r2) := by first | (rw [hy207]; with_reducible exact H) | (have H2_ := (Option.bind_some _ _).symm.trans H; rw [hy207]; with_reducible exact H2_) | (have H2_ := (Option.bind_some _ _).symm.trans H; with_reducible exact H2_) | with_reducible exact H | (rw [hy207]; exact H) | exact H
  have Ny207 := Aside0.mk hy207
  clear hy207
  replace H := Option.bind_eq_some_iff.mp H
  obtain ⟨⟨t210, t211⟩, A40, H⟩ := H
  replace H : ((panachelaw06_one.f 101 20).bind fun bt214 => ((panachelaw06_one.f 118 30).bind fun bt218 => (some (y207, (([(⟨t210, t211⟩ : S24), (⟨bt214.1, bt214.2⟩ : S24), (⟨bt218.1, bt218.2⟩ : S24)] : List (S24))))))) = some (r1, r2) := H
  have A4 := Aside0.mk A40
  clear A40
  replace H := Option.bind_eq_some_iff.mp H
  obtain ⟨⟨t214, t215⟩, A50, H⟩ := H
  replace H : ((panachelaw06_one.f 118 30).bind fun bt218 => (some (y207, (([(⟨t210, t211⟩ : S24), (⟨t214, t215⟩ : S24), (⟨bt218.1, bt218.2⟩ : S24)] : List (S24)))))) = some (r1, r2) := H
  have A5 := Aside0.mk A50
  clear A50
  replace H := Option.bind_eq_some_iff.mp H
  obtain ⟨⟨t218, t219⟩, A60, H⟩ := H
  replace H : (some (y207, (([(⟨t210, t211⟩ : S24), (⟨t214, t215⟩ : S24), (⟨t218, t219⟩ : S24)] : List (S24))))) = some (r1, r2) := H
  have A6 := Aside0.mk A60
  clear A60
  obtain ⟨y222, hy222⟩ : ∃ y_ : List (S24), y_ = (([(⟨t210, t211⟩ : S24), (⟨t214, t215⟩ : S24), (⟨t218, t219⟩ : S24)] : List (S24))) := ⟨_, rfl⟩
  replace H : (some (y207, y222)) = some (r1, r2) := by first | (rw [hy222]; with_reducible exact H) | (have H2_ := (Option.bind_some _ _).symm.trans H; rw [hy222]; with_reducible exact H2_) | (have H2_ := (Option.bind_some _ _).symm.trans H; with_reducible exact H2_) | with_reducible exact H | (rw [hy222]; exact H) | exact H
  have Ny222 := Aside0.mk hy222
  clear hy222
  simp only [Option.some.injEq, Prod.mk.injEq] at H
  obtain ⟨rfl, rfl⟩ := H
  go_enter Tryd.func61, Tryd.ntmps61
  go_wp2_with (first | ((with_reducible refine gate_dst (N := 0) rfl ?_); refine box_event ?hg (N := 0) ?hd (cs := #[.slice none 0 0, .slice none 0 0]) (t := 38) ?hr ?_; (case hd => rfl); (case hg => rfl); (case hr => first | (go_simp; done) | (go_simp; rfl)); intro gb194 hg w7 hbox hb; have n0_ := Aside0.mk (below_step (by repeat (first | (with_reducible first | exact HB.out | apply below_alloc | apply pw_below_drewN | apply below_drew1) | exact HB.out)) hb); have n1_ := Aside0.mk (hbox); have n2_ := Aside0.mk ((by rw [hg]; exact (below_size (by repeat (first | (with_reducible first | exact HB.out | apply below_alloc | apply pw_below_drewN | apply below_drew1) | exact HB.out))) : w.heap.size ≤ gb194)); have n3_ := Aside0.mk ((by rw [hg]; exact (below_size (by repeat (first | (with_reducible first | exact HB.out | apply below_alloc | apply pw_below_drewN | apply below_drew1) | exact HB.out))) : w.heap.size ≤ gb194)); clear HB; have HB := n0_; have BK194 := n1_; have GW194 := n2_; have GE194 := n3_; clear n0_ n1_ n2_ n3_; clear hb hbox hg) | ((with_reducible refine gate_callee (f := 59) rfl ?_); refine goesL_ (some 1) rfl rfl Tryd.func59 (by kernel_rfl) rfl #[.int .i64 100, .int .i64 20] rfl (by (try simp only [List.map_toArray, List.map_cons, List.map_nil]); first | done | rfl | (simp only [List.length_drop, List.length_take]; rfl)) ?_; (with_reducible refine (panachelaw06_one.calls 100 20 t195 t196 _ A1.out).mono ?_); rintro e w8 ⟨v197, rfl, ho0, hb⟩; refine ⟨_, rfl, ?_⟩; have n0_ := Aside0.mk (Kd.R_lower (Kd.R_newM (M := fun k_ => (w.heap.size ≤ k_)) ho0 (below_size (by repeat (first | (with_reducible first | exact HB.out | apply below_alloc | apply pw_below_drewN | apply below_drew1 | refine below_set ?_ GE194.out) | exact HB.out))) (fun k_ h_ => h_)) (below_size (by repeat (first | (with_reducible first | exact HB.out | apply below_alloc | apply pw_below_drewN | apply below_drew1 | refine below_set ?_ GE194.out) | exact HB.out)))); have n1_ := Aside0.mk (blk_below (g := gb194) (o := .cells #[.slice none 0 0, .slice none 0 0] 38 (0, 0)) (by (with_reducible repeat (first | refine blk_drewN ?_ _ | refine blk_drew ?_ | refine blk_alloc ?_ _)); exact BK194.out) hb); have n2_ := Aside0.mk (below_step (by repeat (first | (with_reducible first | exact HB.out | apply below_alloc | apply pw_below_drewN | apply below_drew1 | refine below_set ?_ GE194.out) | exact HB.out)) hb); clear BK194; clear HB; have HO198 := n0_; have BK194 := n1_; have HB := n2_; clear n0_ n1_ n2_; (try clear hb); (try clear hb2); (try clear hk); (try clear hi); (try clear ho0)) | ((with_reducible refine gate_callee (f := 59) rfl ?_); refine goesL_ (some 2) rfl rfl Tryd.func59 (by kernel_rfl) rfl #[.int .i64 104, .int .i64 24] rfl (by (try simp only [List.map_toArray, List.map_cons, List.map_nil]); first | done | rfl | (simp only [List.length_drop, List.length_take]; rfl)) ?_; (with_reducible refine (panachelaw06_one.calls 104 24 t199 t200 _ A2.out).mono ?_); rintro e w9 ⟨v201, rfl, ho0, hb⟩; refine ⟨_, rfl, ?_⟩; have n0_ := Aside0.mk (Kd.R_elder' (by (with_reducible repeat (first | apply Kd.R_alloc | apply Kd.R_drewN | apply Kd.R_drew)); exact HO198.out) (Kd.R_base ho0) hb); have n1_ := Aside0.mk (Kd.R_lower (Kd.R_new' (Kd.R_newM (M := fun k_ => (w.heap.size ≤ k_)) ho0 (below_size (by repeat (first | (with_reducible first | exact HB.out | apply below_alloc | apply pw_below_drewN | apply below_drew1 | refine below_set ?_ GE194.out) | exact HB.out))) (fun k_ h_ => h_)) (Kd.R_lt (by (with_reducible repeat (first | apply Kd.R_alloc | apply Kd.R_drewN | apply Kd.R_drew)); exact HO198.out))) (below_size (by repeat (first | (with_reducible first | exact HB.out | apply below_alloc | apply pw_below_drewN | apply below_drew1 | refine below_set ?_ GE194.out) | exact HB.out)))); have n2_ := Aside0.mk (blk_below (g := gb194) (o := .cells #[.slice none 0 0, .slice none 0 0] 38 (0, 0)) (by (with_reducible repeat (first | refine blk_drewN ?_ _ | refine blk_drew ?_ | refine blk_alloc ?_ _)); exact BK194.out) hb); have n3_ := Aside0.mk (below_step (by repeat (first | (with_reducible first | exact HB.out | apply below_alloc | apply pw_below_drewN | apply below_drew1 | refine below_set ?_ GE194.out) | exact HB.out)) hb); clear HO198; clear BK194; clear HB; have HO198 := n0_; have HO202 := n1_; have BK194 := n2_; have HB := n3_; clear n0_ n1_ n2_ n3_; (try clear hb); (try clear hb2); (try clear hk); (try clear hi); (try clear ho0)) | ((with_reducible refine gate_callee (f := 59) rfl ?_); refine goesL_ (some 3) rfl rfl Tryd.func59 (by kernel_rfl) rfl #[.int .i64 120, .int .i64 20] rfl (by (try simp only [List.map_toArray, List.map_cons, List.map_nil]); first | done | rfl | (simp only [List.length_drop, List.length_take]; rfl)) ?_; (with_reducible refine (panachelaw06_one.calls 120 20 t203 t204 _ A3.out).mono ?_); rintro e w10 ⟨v205, rfl, ho0, hb⟩; refine ⟨_, rfl, ?_⟩; have n0_ := Aside0.mk (Kd.R_elder' (by (with_reducible repeat (first | apply Kd.R_alloc | apply Kd.R_drewN | apply Kd.R_drew)); exact HO198.out) (Kd.R_base ho0) hb); have n1_ := Aside0.mk (Kd.R_elder' (by (with_reducible repeat (first | apply Kd.R_alloc | apply Kd.R_drewN | apply Kd.R_drew)); exact HO202.out) (Kd.R_base ho0) hb); have n2_ := Aside0.mk (Kd.R_lower (Kd.R_new' (Kd.R_new' (Kd.R_newM (M := fun k_ => (w.heap.size ≤ k_)) ho0 (below_size (by repeat (first | (with_reducible first | exact HB.out | apply below_alloc | apply pw_below_drewN | apply below_drew1 | refine below_set ?_ GE194.out) | exact HB.out))) (fun k_ h_ => h_)) (Kd.R_lt (by (with_reducible repeat (first | apply Kd.R_alloc | apply Kd.R_drewN | apply Kd.R_drew)); exact HO198.out))) (Kd.R_lt (by (with_reducible repeat (first | apply Kd.R_alloc | apply Kd.R_drewN | apply Kd.R_drew)); exact HO202.out))) (below_size (by repeat (first | (with_reducible first | exact HB.out | apply below_alloc | apply pw_below_drewN | apply below_drew1 | refine below_set ?_ GE194.out) | exact HB.out)))); have n3_ := Aside0.mk (blk_below (g := gb194) (o := .cells #[.slice none 0 0, .slice none 0 0] 38 (0, 0)) (by (with_reducible repeat (first | refine blk_drewN ?_ _ | refine blk_drew ?_ | refine blk_alloc ?_ _)); exact BK194.out) hb); have n4_ := Aside0.mk (below_step (by repeat (first | (with_reducible first | exact HB.out | apply below_alloc | apply pw_below_drewN | apply below_drew1 | refine below_set ?_ GE194.out) | exact HB.out)) hb); clear HO198; clear HO202; clear BK194; clear HB; have HO198 := n0_; have HO202 := n1_; have HO206 := n2_; have BK194 := n3_; have HB := n4_; clear n0_ n1_ n2_ n3_ n4_; (try clear hb); (try clear hb2); (try clear hk); (try clear hi); (try clear ho0); obtain ⟨Ao11, co11, eo11⟩ := Kd.R_slice HO198.out; subst eo11; obtain ⟨Ao12, co12, eo12⟩ := Kd.R_slice HO202.out; subst eo12; obtain ⟨Ao13, co13, eo13⟩ := Kd.R_slice HO206.out; subst eo13) | ((with_reducible refine gate_dst (N := 4) rfl ?_); refine Kd.N_lit k24 _ 24 ?hg (N' := 4) ?hd (xs := ([(⟨t195, t196⟩ : S24), (⟨t199, t200⟩ : S24), (⟨t203, t204⟩ : S24)] : List (S24))) (inner := [.int .i64 t195, .slice Ao11 t196.length co11, .int .i64 t199, .slice Ao12 t200.length co12, .int .i64 t203, .slice Ao13 t204.length co13]) (ok := (fun k_ => (w.heap.size ≤ k_) ∧ k_ ≠ gb194)) (okp := (fun k_ => (w.heap.size ≤ k_) ∧ k_ ≠ gb194)) ?hr ?hp (fun _ hk => hk) ((show ∀ k_, w10.heap.size ≤ k_ → (fun k_ => (w.heap.size ≤ k_) ∧ k_ ≠ gb194) k_ from fun k_ hk => ⟨(Nat.le_trans (below_size (by repeat (first | (with_reducible first | exact HB.out | apply below_alloc | apply pw_below_drewN | apply below_drew1 | refine below_set ?_ GE194.out) | exact HB.out))) hk), Kd.freshB (g := gb194) (o := .cells #[.slice none 0 0, .slice none 0 0] 38 (0, 0)) (by (with_reducible repeat (first | refine blk_drewN ?_ _ | refine blk_drew ?_ | refine blk_alloc ?_ _)); exact BK194.out) k_ hk⟩) _ (Nat.le_refl _)) (Below.refl _ _) (Nat.le_refl _) (by simp) ?_; (case hd => rfl); (case hg => rfl); (case hr => first | (go_simp; done) | (go_simp; rfl)); (case hp => exact (Reps.c2 (show Kd.FK k24 _ _ (⟨t195, t196⟩ : S24) [.int .i64 t195, .slice Ao11 t196.length co11] from (k24_mkF _ _ (⟨t195, t196⟩ : S24) (Kd.R_reads' (Kd.R_mono (ok' := (fun k_ => (w.heap.size ≤ k_) ∧ k_ ≠ gb194)) (Kd.R_types (HO198.out) BK194.out (by decide)) (fun k_ hk => ⟨hk.1.1.1.1, hk.2⟩))).2.1 (Kd.R_F (Kd.R_mono (ok' := (fun k_ => (w.heap.size ≤ k_) ∧ k_ ≠ gb194)) (Kd.R_types (HO198.out) BK194.out (by decide)) (fun k_ hk => ⟨hk.1.1.1.1, hk.2⟩))))) (Reps.c2 (show Kd.FK k24 _ _ (⟨t199, t200⟩ : S24) [.int .i64 t199, .slice Ao12 t200.length co12] from (k24_mkF _ _ (⟨t199, t200⟩ : S24) (Kd.R_reads' (Kd.R_mono (ok' := (fun k_ => (w.heap.size ≤ k_) ∧ k_ ≠ gb194)) (Kd.R_types (HO202.out) BK194.out (by decide)) (fun k_ hk => ⟨hk.1.1.1.1, hk.2⟩))).2.1 (Kd.R_F (Kd.R_mono (ok' := (fun k_ => (w.heap.size ≤ k_) ∧ k_ ≠ gb194)) (Kd.R_types (HO202.out) BK194.out (by decide)) (fun k_ hk => ⟨hk.1.1.1.1, hk.2⟩))))) (Reps.c2 (show Kd.FK k24 _ _ (⟨t203, t204⟩ : S24) [.int .i64 t203, .slice Ao13 t204.length co13] from (k24_mkF _ _ (⟨t203, t204⟩ : S24) (Kd.R_reads' (Kd.R_mono (ok' := (fun k_ => (w.heap.size ≤ k_) ∧ k_ ≠ gb194)) (Kd.R_types (HO206.out) BK194.out (by decide)) (fun k_ hk => ⟨hk.1.1.1.1, hk.2⟩))).2.1 (Kd.R_F (Kd.R_mono (ok' := (fun k_ => (w.heap.size ≤ k_) ∧ k_ ≠ gb194)) (Kd.R_types (HO206.out) BK194.out (by decide)) (fun k_ hk => ⟨hk.1.1.1.1, hk.2⟩))))) (Reps.none _ _))))); intro v208 w14 ho15 hb hg_ hnew_; clear hg_ hnew_; (first | rw [← Ny207.out] at ho15 | (simp only [Int.reduceToNat] at ho15; rw [← Ny207.out] at ho15)); have n0_ := Aside0.mk (Kd.N_lower ho15 (below_size (by repeat (first | (with_reducible first | exact HB.out | apply below_alloc | apply pw_below_drewN | apply below_drew1 | refine below_set ?_ GE194.out) | exact HB.out)))); have n1_ := Aside0.mk (blk_below (g := gb194) (o := .cells #[.slice none 0 0, .slice none 0 0] 38 (0, 0)) (by (with_reducible repeat (first | refine blk_drewN ?_ _ | refine blk_drew ?_ | refine blk_alloc ?_ _)); exact BK194.out) hb); have n2_ := Aside0.mk (below_step (by repeat (first | (with_reducible first | exact HB.out | apply below_alloc | apply pw_below_drewN | apply below_drew1 | refine below_set ?_ GE194.out) | exact HB.out)) hb); clear BK194; clear HB; clear HO198; clear HO202; clear HO206; have HO209 := n0_; have BK194 := n1_; have HB := n2_; clear n0_ n1_ n2_; clear hb ho15) | ((with_reducible refine gate_callee (f := 59) rfl ?_); refine goesL_ (some 5) rfl rfl Tryd.func59 (by kernel_rfl) rfl #[.int .i64 103, .int .i64 22] rfl (by (try simp only [List.map_toArray, List.map_cons, List.map_nil]); first | done | rfl | (simp only [List.length_drop, List.length_take]; rfl)) ?_; (with_reducible refine (panachelaw06_one.calls 103 22 t210 t211 _ A4.out).mono ?_); rintro e w16 ⟨v212, rfl, ho0, hb⟩; refine ⟨_, rfl, ?_⟩; have n0_ := Aside0.mk (Kd.N_elder' (by (with_reducible repeat (first | apply Kd.N_alloc | apply Kd.N_drewN | apply Kd.N_drew)); exact HO209.out) (Kd.R_base ho0) hb); have n1_ := Aside0.mk (Kd.R_lower (Kd.R_newM (M := fun k_ => (w.heap.size ≤ k_)) ho0 (below_size (by repeat (first | (with_reducible first | exact HB.out | apply below_alloc | apply pw_below_drewN | apply below_drew1 | refine below_set ?_ GE194.out) | exact HB.out))) (fun k_ h_ => h_)) (below_size (by repeat (first | (with_reducible first | exact HB.out | apply below_alloc | apply pw_below_drewN | apply below_drew1 | refine below_set ?_ GE194.out) | exact HB.out)))); have n2_ := Aside0.mk (blk_below (g := gb194) (o := .cells #[.slice none 0 0, .slice none 0 0] 38 (0, 0)) (by (with_reducible repeat (first | refine blk_drewN ?_ _ | refine blk_drew ?_ | refine blk_alloc ?_ _)); exact BK194.out) hb); have n3_ := Aside0.mk (below_step (by repeat (first | (with_reducible first | exact HB.out | apply below_alloc | apply pw_below_drewN | apply below_drew1 | refine below_set ?_ GE194.out) | exact HB.out)) hb); clear HO209; clear BK194; clear HB; have HO209 := n0_; have HO213 := n1_; have BK194 := n2_; have HB := n3_; clear n0_ n1_ n2_ n3_; (try clear hb); (try clear hb2); (try clear hk); (try clear hi); (try clear ho0)) | ((with_reducible refine gate_callee (f := 59) rfl ?_); refine goesL_ (some 6) rfl rfl Tryd.func59 (by kernel_rfl) rfl #[.int .i64 101, .int .i64 20] rfl (by (try simp only [List.map_toArray, List.map_cons, List.map_nil]); first | done | rfl | (simp only [List.length_drop, List.length_take]; rfl)) ?_; (with_reducible refine (panachelaw06_one.calls 101 20 t214 t215 _ A5.out).mono ?_); rintro e w17 ⟨v216, rfl, ho0, hb⟩; refine ⟨_, rfl, ?_⟩; have n0_ := Aside0.mk (Kd.N_elder' (by (with_reducible repeat (first | apply Kd.N_alloc | apply Kd.N_drewN | apply Kd.N_drew)); exact HO209.out) (Kd.R_base ho0) hb); have n1_ := Aside0.mk (Kd.R_elder' (by (with_reducible repeat (first | apply Kd.R_alloc | apply Kd.R_drewN | apply Kd.R_drew)); exact HO213.out) (Kd.R_base ho0) hb); have n2_ := Aside0.mk (Kd.R_lower (Kd.R_new' (Kd.R_newM (M := fun k_ => (w.heap.size ≤ k_)) ho0 (below_size (by repeat (first | (with_reducible first | exact HB.out | apply below_alloc | apply pw_below_drewN | apply below_drew1 | refine below_set ?_ GE194.out) | exact HB.out))) (fun k_ h_ => h_)) (Kd.R_lt (by (with_reducible repeat (first | apply Kd.R_alloc | apply Kd.R_drewN | apply Kd.R_drew)); exact HO213.out))) (below_size (by repeat (first | (with_reducible first | exact HB.out | apply below_alloc | apply pw_below_drewN | apply below_drew1 | refine below_set ?_ GE194.out) | exact HB.out)))); have n3_ := Aside0.mk (blk_below (g := gb194) (o := .cells #[.slice none 0 0, .slice none 0 0] 38 (0, 0)) (by (with_reducible repeat (first | refine blk_drewN ?_ _ | refine blk_drew ?_ | refine blk_alloc ?_ _)); exact BK194.out) hb); have n4_ := Aside0.mk (below_step (by repeat (first | (with_reducible first | exact HB.out | apply below_alloc | apply pw_below_drewN | apply below_drew1 | refine below_set ?_ GE194.out) | exact HB.out)) hb); clear HO209; clear HO213; clear BK194; clear HB; have HO209 := n0_; have HO213 := n1_; have HO217 := n2_; have BK194 := n3_; have HB := n4_; clear n0_ n1_ n2_ n3_ n4_; (try clear hb); (try clear hb2); (try clear hk); (try clear hi); (try clear ho0)) | ((with_reducible refine gate_callee (f := 59) rfl ?_); refine goesL_ (some 7) rfl rfl Tryd.func59 (by kernel_rfl) rfl #[.int .i64 118, .int .i64 30] rfl (by (try simp only [List.map_toArray, List.map_cons, List.map_nil]); first | done | rfl | (simp only [List.length_drop, List.length_take]; rfl)) ?_; (with_reducible refine (panachelaw06_one.calls 118 30 t218 t219 _ A6.out).mono ?_); rintro e w18 ⟨v220, rfl, ho0, hb⟩; refine ⟨_, rfl, ?_⟩; have n0_ := Aside0.mk (Kd.N_elder' (by (with_reducible repeat (first | apply Kd.N_alloc | apply Kd.N_drewN | apply Kd.N_drew)); exact HO209.out) (Kd.R_base ho0) hb); have n1_ := Aside0.mk (Kd.R_elder' (by (with_reducible repeat (first | apply Kd.R_alloc | apply Kd.R_drewN | apply Kd.R_drew)); exact HO213.out) (Kd.R_base ho0) hb); have n2_ := Aside0.mk (Kd.R_elder' (by (with_reducible repeat (first | apply Kd.R_alloc | apply Kd.R_drewN | apply Kd.R_drew)); exact HO217.out) (Kd.R_base ho0) hb); have n3_ := Aside0.mk (Kd.R_lower (Kd.R_new' (Kd.R_new' (Kd.R_newM (M := fun k_ => (w.heap.size ≤ k_)) ho0 (below_size (by repeat (first | (with_reducible first | exact HB.out | apply below_alloc | apply pw_below_drewN | apply below_drew1 | refine below_set ?_ GE194.out) | exact HB.out))) (fun k_ h_ => h_)) (Kd.R_lt (by (with_reducible repeat (first | apply Kd.R_alloc | apply Kd.R_drewN | apply Kd.R_drew)); exact HO213.out))) (Kd.R_lt (by (with_reducible repeat (first | apply Kd.R_alloc | apply Kd.R_drewN | apply Kd.R_drew)); exact HO217.out))) (below_size (by repeat (first | (with_reducible first | exact HB.out | apply below_alloc | apply pw_below_drewN | apply below_drew1 | refine below_set ?_ GE194.out) | exact HB.out)))); have n4_ := Aside0.mk (blk_below (g := gb194) (o := .cells #[.slice none 0 0, .slice none 0 0] 38 (0, 0)) (by (with_reducible repeat (first | refine blk_drewN ?_ _ | refine blk_drew ?_ | refine blk_alloc ?_ _)); exact BK194.out) hb); have n5_ := Aside0.mk (below_step (by repeat (first | (with_reducible first | exact HB.out | apply below_alloc | apply pw_below_drewN | apply below_drew1 | refine below_set ?_ GE194.out) | exact HB.out)) hb); clear HO209; clear HO213; clear HO217; clear BK194; clear HB; have HO209 := n0_; have HO213 := n1_; have HO217 := n2_; have HO221 := n3_; have BK194 := n4_; have HB := n5_; clear n0_ n1_ n2_ n3_ n4_ n5_; (try clear hb); (try clear hb2); (try clear hk); (try clear hi); (try clear ho0); obtain ⟨Ao19, co19, eo19⟩ := Kd.R_slice HO213.out; subst eo19; obtain ⟨Ao20, co20, eo20⟩ := Kd.R_slice HO217.out; subst eo20; obtain ⟨Ao21, co21, eo21⟩ := Kd.R_slice HO221.out; subst eo21) | ((with_reducible refine gate_dst (N := 8) rfl ?_); refine Kd.N_lit k24 _ 24 ?hg (N' := 8) ?hd (xs := ([(⟨t210, t211⟩ : S24), (⟨t214, t215⟩ : S24), (⟨t218, t219⟩ : S24)] : List (S24))) (inner := [.int .i64 t210, .slice Ao19 t211.length co19, .int .i64 t214, .slice Ao20 t215.length co20, .int .i64 t218, .slice Ao21 t219.length co21]) (ok := (fun k_ => (w.heap.size ≤ k_) ∧ some k_ ≠ (v208 : Value).ownBlock ∧ k_ ≠ gb194)) (okp := (fun k_ => (w.heap.size ≤ k_) ∧ some k_ ≠ (v208 : Value).ownBlock ∧ k_ ≠ gb194)) ?hr ?hp (fun _ hk => hk) ((show ∀ k_, w18.heap.size ≤ k_ → (fun k_ => (w.heap.size ≤ k_) ∧ some k_ ≠ (v208 : Value).ownBlock ∧ k_ ≠ gb194) k_ from fun k_ hk => ⟨(Nat.le_trans (below_size (by repeat (first | (with_reducible first | exact HB.out | apply below_alloc | apply pw_below_drewN | apply below_drew1 | refine below_set ?_ GE194.out) | exact HB.out))) hk), Kd.fresh' (Kd.N_lt (by (with_reducible repeat (first | apply Kd.N_alloc | apply Kd.N_drewN | apply Kd.N_drew)); exact HO209.out)) k_ hk, Kd.freshB (g := gb194) (o := .cells #[.slice none 0 0, .slice none 0 0] 38 (0, 0)) (by (with_reducible repeat (first | refine blk_drewN ?_ _ | refine blk_drew ?_ | refine blk_alloc ?_ _)); exact BK194.out) k_ hk⟩) _ (Nat.le_refl _)) (Below.refl _ _) (Nat.le_refl _) (by simp) ?_; (case hd => rfl); (case hg => rfl); (case hr => first | (go_simp; done) | (go_simp; rfl)); (case hp => exact (Reps.c2 (show Kd.FK k24 _ _ (⟨t210, t211⟩ : S24) [.int .i64 t210, .slice Ao19 t211.length co19] from (k24_mkF _ _ (⟨t210, t211⟩ : S24) (Kd.R_reads' (Kd.R_mono (ok' := (fun k_ => (w.heap.size ≤ k_) ∧ some k_ ≠ (v208 : Value).ownBlock ∧ k_ ≠ gb194)) (Kd.R_types (Kd.R_apart' (HO213.out) (Kd.N_typed HO209.out) (by decide)) BK194.out (by decide)) (fun k_ hk => ⟨hk.1.1.1.1.1, ⟨hk.1.2, hk.2⟩⟩))).2.1 (Kd.R_F (Kd.R_mono (ok' := (fun k_ => (w.heap.size ≤ k_) ∧ some k_ ≠ (v208 : Value).ownBlock ∧ k_ ≠ gb194)) (Kd.R_types (Kd.R_apart' (HO213.out) (Kd.N_typed HO209.out) (by decide)) BK194.out (by decide)) (fun k_ hk => ⟨hk.1.1.1.1.1, ⟨hk.1.2, hk.2⟩⟩))))) (Reps.c2 (show Kd.FK k24 _ _ (⟨t214, t215⟩ : S24) [.int .i64 t214, .slice Ao20 t215.length co20] from (k24_mkF _ _ (⟨t214, t215⟩ : S24) (Kd.R_reads' (Kd.R_mono (ok' := (fun k_ => (w.heap.size ≤ k_) ∧ some k_ ≠ (v208 : Value).ownBlock ∧ k_ ≠ gb194)) (Kd.R_types (Kd.R_apart' (HO217.out) (Kd.N_typed HO209.out) (by decide)) BK194.out (by decide)) (fun k_ hk => ⟨hk.1.1.1.1.1, ⟨hk.1.2, hk.2⟩⟩))).2.1 (Kd.R_F (Kd.R_mono (ok' := (fun k_ => (w.heap.size ≤ k_) ∧ some k_ ≠ (v208 : Value).ownBlock ∧ k_ ≠ gb194)) (Kd.R_types (Kd.R_apart' (HO217.out) (Kd.N_typed HO209.out) (by decide)) BK194.out (by decide)) (fun k_ hk => ⟨hk.1.1.1.1.1, ⟨hk.1.2, hk.2⟩⟩))))) (Reps.c2 (show Kd.FK k24 _ _ (⟨t218, t219⟩ : S24) [.int .i64 t218, .slice Ao21 t219.length co21] from (k24_mkF _ _ (⟨t218, t219⟩ : S24) (Kd.R_reads' (Kd.R_mono (ok' := (fun k_ => (w.heap.size ≤ k_) ∧ some k_ ≠ (v208 : Value).ownBlock ∧ k_ ≠ gb194)) (Kd.R_types (Kd.R_apart' (HO221.out) (Kd.N_typed HO209.out) (by decide)) BK194.out (by decide)) (fun k_ hk => ⟨hk.1.1.1.1.1, ⟨hk.1.2, hk.2⟩⟩))).2.1 (Kd.R_F (Kd.R_mono (ok' := (fun k_ => (w.heap.size ≤ k_) ∧ some k_ ≠ (v208 : Value).ownBlock ∧ k_ ≠ gb194)) (Kd.R_types (Kd.R_apart' (HO221.out) (Kd.N_typed HO209.out) (by decide)) BK194.out (by decide)) (fun k_ hk => ⟨hk.1.1.1.1.1, ⟨hk.1.2, hk.2⟩⟩))))) (Reps.none _ _))))); intro v223 w22 ho23 hb hg_ hnew_; clear hg_ hnew_; (first | rw [← Ny222.out] at ho23 | (simp only [Int.reduceToNat] at ho23; rw [← Ny222.out] at ho23)); have n0_ := Aside0.mk (Kd.N_elder' (by (with_reducible repeat (first | apply Kd.N_alloc | apply Kd.N_drewN | apply Kd.N_drew)); exact HO209.out) (Kd.N_base ho23) hb); have n1_ := Aside0.mk (Kd.N_lower ho23 (below_size (by repeat (first | (with_reducible first | exact HB.out | apply below_alloc | apply pw_below_drewN | apply below_drew1 | refine below_set ?_ GE194.out) | exact HB.out)))); have n2_ := Aside0.mk (blk_below (g := gb194) (o := .cells #[.slice none 0 0, .slice none 0 0] 38 (0, 0)) (by (with_reducible repeat (first | refine blk_drewN ?_ _ | refine blk_drew ?_ | refine blk_alloc ?_ _)); exact BK194.out) hb); have n3_ := Aside0.mk (below_step (by repeat (first | (with_reducible first | exact HB.out | apply below_alloc | apply pw_below_drewN | apply below_drew1 | refine below_set ?_ GE194.out) | exact HB.out)) hb); clear HO209; clear BK194; clear HB; clear HO213; clear HO217; clear HO221; have HO209 := n0_; have HO224 := n1_; have BK194 := n2_; have HB := n3_; clear n0_ n1_ n2_ n3_; clear hb ho23; obtain ⟨Ao24, co24, eo24⟩ := Kd.N_slice HO224.out; subst eo24; obtain ⟨Ao25, co25, eo25⟩ := Kd.N_slice HO209.out; subst eo25; have hcz26_0 : w22.cell? ⟨gb194, 0, none⟩ = some (.slice none 0 0) := (blk_cell BK194.out 0).trans rfl; have hcz26_1 : w22.cell? ⟨gb194, 1, none⟩ = some (.slice none 0 0) := (blk_cell BK194.out 1).trans rfl; have hfz26_0 := blk_frozen BK194.out 0; have hfz26_1 := blk_frozen BK194.out 1))
  refine bodyPost_ret (results_cell_row rfl _ _ gb194 38 #[.slice Ao25 y207.length co25, .slice Ao24 y222.length co24] (0, 0) _ rfl (by (with_reducible repeat (first | refine blk_drewN ?_ _ | refine blk_drew ?_ | refine blk_alloc ?_ _)); refine blk_put (cs := #[.slice Ao25 y207.length co25, .slice none 0 0]) ?_ 1 _ rfl; (with_reducible repeat (first | refine blk_drewN ?_ _ | refine blk_drew ?_ | refine blk_alloc ?_ _)); refine blk_put (cs := #[.slice none 0 0, .slice none 0 0]) ?_ 0 _ rfl; (with_reducible repeat (first | refine blk_drewN ?_ _ | refine blk_drew ?_ | refine blk_alloc ?_ _)); exact BK194.out) Tryd.underlying38 rfl (by kernel_rfl)) rfl ?_
  exact ⟨_, _, by first | rfl | (simp [errW_none, errW_some] <;> rfl) | (simp [*, errW_none, errW_some] <;> rfl), by (with_reducible repeat (first | apply Kd.N_alloc | apply Kd.N_drewN | apply Kd.N_drew)); exact Kd.N_mono (Kd.N_far (p := ⟨gb194, 1, none⟩) (Kd.N_far (p := ⟨gb194, 0, none⟩) (Kd.N_mono HO209.out (fun k_ hk => (⟨hk, hk.1.1.1.1.2⟩ : _ ∧ k_ ≠ gb194))) (fun _ hk => hk.2) (.slice Ao25 y207.length co25)) (fun _ hk => hk.2) (.slice Ao24 y222.length co24)) (fun _ hk => ⟨hk.1.1.1.1.1.1, hk.1.2⟩), by (with_reducible repeat (first | apply Kd.N_alloc | apply Kd.N_drewN | apply Kd.N_drew)); exact Kd.N_mono (Kd.N_far (p := ⟨gb194, 1, none⟩) (Kd.N_far (p := ⟨gb194, 0, none⟩) (Kd.N_mono HO224.out (fun k_ hk => (⟨hk, hk.2.2⟩ : _ ∧ k_ ≠ gb194))) (fun _ hk => hk.2) (.slice Ao25 y207.length co25)) (fun _ hk => hk.2) (.slice Ao24 y222.length co24)) (fun _ hk => ⟨hk.1.1, hk.1.2.1⟩), by repeat (first | (with_reducible first | exact HB.out | apply below_alloc | apply pw_below_drewN | apply below_drew1 | refine below_set ?_ GE194.out) | exact HB.out)⟩
end Go.Proofs.YtamibghbkjmmeaaDoor.G
end
section
namespace Go.Proofs.YtamibghbkjmmeaaDoor.G
open Go.RowKit Go.Proofs.YtamibghbkjmmeaaDoorW.PrintWords Go.Proofs.YtamibghbkjmmeaaDoorW.PrintLast Go.Proofs.YtamibghbkjmmeaaDoorW.PrintMore
set_option linter.unusedVariables false
set_option linter.unusedSimpArgs false
def kL : List S24 := [⟨100, [20]⟩, ⟨104, [24]⟩, ⟨120, [20]⟩]
def kR : List S24 := [⟨103, [22]⟩, ⟨101, [20]⟩, ⟨118, [30]⟩]
theorem kAlike : guard_Alike.f 1000 100 [20] 104 [24] 1 0 5 4 = some (false, true, 0) := by kernel_rfl
theorem kPairs : guard_Pairs.f 1000 kL kR 1 0 5 4 = some ([⟨0, 0⟩, ⟨1, 1⟩], 0) := by kernel_rfl
theorem kPossible : guard_Possible.f 1000 kL kR 1 0 5 4 = some (2, 0) := by kernel_rfl
theorem kCover : guard_Cover.f kL kR 1 0 5 4 = some ([], [0, 1], 0) := by kernel_rfl
theorem kSpare : guard_Spare.f 1000 kL kR 1 0 5 4 = some ([2], [2], 0) := by kernel_rfl
theorem kTwins : guard_Twins.f kL kR 1 0 6 4 = some ([⟨0, 0⟩, ⟨1, 1⟩], 0) := by kernel_rfl
theorem kCut : guard_Cut.f kL kR 1 0 5 4 = some (2, 3, 0) := by kernel_rfl
theorem kLook : guard_Look.f kL kR 1 0 5 4 = some (false, 0, 0, 7) := by kernel_rfl
theorem kCheck : guard_Check.f kL kR (-1) 0 0 0 = some 3 := by kernel_rfl
theorem kAcc : dAcc kL kR kL.length = [0, 3, 1, 18, 1, 3, 14, 17, 19, 2] := by kernel_rfl
theorem kSort : sortI [0, 3, 1, 18, 1, 3, 14, 17, 19, 2] = [0, 1, 1, 2, 3, 3, 14, 17, 18, 19] := by simp [sortI, List.mergeSort, List.MergeSort.Internal.splitInTwo]
theorem kBalance : guard_Balance.f kL kR 1 0 5 4 = some ([⟨0, 1⟩, ⟨1, 0⟩, ⟨2, 2⟩], 2, 0) := by
  unfold guard_Balance.f
  rw [if_pos (by kernel_rfl), if_pos (by kernel_rfl), kAcc, kSort]
  kernel_rfl
theorem stock_C (w : World) : Calls Tryd.prog 61 #[] w fun e w' => ∃ A c B d, e = .returned (.agg #[.slice A kL.length c, .slice B kR.length d]) ∧ Kd.C k24 w' A kL.length kL ∧ kL.length ≤ c ∧ Kd.C k24 w' B kR.length kR ∧ kR.length ≤ d ∧ Below w.heap.size w w' := by
  refine (panachelaw06_stock.calls kL kR w (by kernel_rfl)).mono ?_
  rintro e w' ⟨v, v', rfl, h1, h2, hb⟩
  obtain ⟨A, c, rfl, hc, hA⟩ := Kd.N_reads h1
  obtain ⟨B, d, rfl, hd, hB⟩ := Kd.N_reads h2
  exact ⟨A, c, B, d, rfl, hA, hc, hB, hd, hb⟩
structure St (P : World → Prop) (W : World) : Prop where
  h : P W
  s : ∀ A B, P A → Below A.heap.size A B → P B
theorem St.go {P : World → Prop} {W W' : World} (h : St P W) (hb : Below W.heap.size W W') : St P W' := ⟨h.s _ _ h.h hb, h.s⟩
theorem St.row {α : Type} {P : World → Prop} {W : World} {d : Kd α} {A : Option Addr} {n : Nat} {xs : List α} (h : St P W) (hc : d.C W A n xs) : St (fun W => d.C W A n xs ∧ P W) W := ⟨⟨hc, h.h⟩, fun A B z hb => ⟨Kd.C_below z.1 hb, h.s A B z.2 hb⟩⟩
theorem St.start (w W : World) (h : Below w.heap.size w W) : St (fun W => Below w.heap.size w W) W := ⟨h, fun A B z hb => below_step z hb⟩
theorem lit85 (W : World) (xs : List S85) (hm : xs.length ≤ 1000) : Kd.C k85 (W.alloc (.cells (encP xs).toArray 85)) (some ⟨W.heap.size, 0, none⟩) xs.length xs := by
  have h := World.ownsRow_lit (base := W.heap.size) (e := 85) (size := 2) W (encP xs).toArray xs.length (Nat.le_refl _) (by unfold maxLen; omega) (by induction xs <;> simp_all [encP]; omega)
  obtain ⟨A, c, he, _, hr⟩ := Kd.R_reads (d := k85) (R_encP (ok := fun _ => True) (by simpa using h) (fun _ _ => trivial))
  injection he with h1 h2 h3
  rw [h1]; exact hr
set_option maxHeartbeats 8000000 in
set_option maxRecDepth 100000 in
theorem known_walk (rl rt rx : List S85) (ra rb rc rd : List Int) (w : World) (hT_ : TabOk w) (h27 : guard_Pairs.f 1000 kL kR 1 0 5 4 = some (rl, 0)) (h35 : guard_Cover.f kL kR 1 0 5 4 = some (ra, rb, 0)) (h38 : guard_Spare.f 1000 kL kR 1 0 5 4 = some (rc, rd, 0))
    (h40 : guard_Twins.f kL kR 1 0 6 4 = some (rt, 0)) (h46 : guard_Balance.f kL kR 1 0 5 4 = some (rx, 2, 0)) (e1 : rl = [⟨0, 0⟩, ⟨1, 1⟩]) (e2 : ra = []) (e3 : rb = [0, 1]) (e4 : rc = [2]) (e5 : rd = [2]) (e6 : rt = rl) (e7 : rx = [⟨0, 1⟩, ⟨1, 0⟩, ⟨2, 2⟩]) :
    Calls Tryd.prog 16 #[] w fun e w' => e = .returned (.bool true) ∧ Below w.heap.size w w' := by
  have Q1 := Aside0.mk e1
  have H46 := Aside0.mk h46
  clear h46
  have H40 := Aside0.mk h40
  clear h40
  have H38 := Aside0.mk h38
  clear h38
  have H35 := Aside0.mk h35
  clear h35
  have H27 := Aside0.mk h27
  clear h27
  have Q2 := Aside0.mk e2
  have Q3 := Aside0.mk e3
  have Q4 := Aside0.mk e4
  have Q5 := Aside0.mk e5
  have Q6 := Aside0.mk e6
  have Q7 := Aside0.mk e7
  clear e1 e2 e3 e4 e5 e6 e7
  have HT := Aside0.mk hT_
  have HB0 := Aside0.mk (Below.refl w.heap.size w)
  have LV0 := Aside0.mk (St.start w w (Below.refl _ _))
  clear hT_
  go_enter Tryd.func16, Tryd.ntmps16
  go_wp2_with (fail)
  refine (panachelaw06_one.calls 100 20 100 [20] _ rfl).mono ?_
  rintro e w1 ⟨v1, rfl, ho1, hb⟩
  have HB1 := Aside0.mk (below_step HB0.out hb)
  have LV1 := Aside0.mk (LV0.out.go hb)
  obtain ⟨A1, c1, rfl, hc1, hC1⟩ := Kd.R_reads ho1
  have HC1 := Aside0.mk hC1
  have HL1 := Aside0.mk hc1
  clear ho1 hc1 hC1 hb
  go_wp2_with (fail)
  refine (panachelaw06_one.calls 104 24 104 [24] _ rfl).mono ?_
  rintro e w2 ⟨v2, rfl, ho2, hb⟩
  have HB2 := Aside0.mk (below_step HB1.out hb)
  have LV2 := Aside0.mk (LV1.out.go hb)
  obtain ⟨A2, c2, rfl, hc2, hC2⟩ := Kd.R_reads ho2
  have HC2 := Aside0.mk hC2
  have HL2 := Aside0.mk hc2
  replace HC1 := Aside0.mk (Kd.C_below HC1.out hb)
  clear ho2 hc2 hC2 hb
  go_wp2_with (fail)
  refine (panachelaw06_gauge.calls 5 1 0 5 4 _ rfl).mono ?_
  rintro e w3 ⟨rfl, hb⟩
  have HB3 := Aside0.mk (below_step HB2.out hb)
  have LV3 := Aside0.mk (LV2.out.go hb)
  replace HC1 := Aside0.mk (Kd.C_below HC1.out hb)
  replace HC2 := Aside0.mk (Kd.C_below HC2.out hb)
  clear hb
  go_wp2_with (fail)
  refine (guard_Alike.calls 1000 100 (fun q => q < w3.heap.size) A1 c1 [20] 104 (fun q => q < w3.heap.size) A2 c2 [24] 1 0 5 4 false true 0 w3 (Kd.V_mk HL1.out (Kd.C_F (Kd.heap_int .i64) HC1.out)) (Kd.V_mk HL2.out (Kd.C_F (Kd.heap_int .i64) HC2.out)) kAlike).mono ?_
  rintro e w4 ⟨rfl, hb⟩
  have HB4 := Aside0.mk (below_step HB3.out hb)
  have LV4 := Aside0.mk (LV3.out.go hb)
  clear hb HC1 HC2 HL1 HL2
  go_wp2_with (fail)
  refine (stock_C _).mono ?_
  rintro e w5 ⟨A, c, B, d, rfl, hA, hc, hB, hd, hb⟩
  have HB5 := Aside0.mk (below_step HB4.out hb)
  have LV5 := Aside0.mk (LV4.out.go hb)
  have HA := Aside0.mk hA
  have HC := Aside0.mk hc
  have HR := Aside0.mk hB
  have HD := Aside0.mk hd
  clear hA hc hB hd hb LV4 HB4
  go_wp2_with (fail)
  refine (panachelaw06_gauge.calls 5 1 0 5 4 _ rfl).mono ?_
  rintro e w6 ⟨rfl, hb⟩
  have HB6 := Aside0.mk (below_step HB5.out hb)
  have LV6 := Aside0.mk (LV5.out.go hb)
  replace HA := Aside0.mk (Kd.C_below HA.out hb)
  replace HR := Aside0.mk (Kd.C_below HR.out hb)
  clear hb LV5 HB5
  go_wp2_with (fail)
  refine (guard_Pairs.calls 1000 A c kL B d kR 1 0 5 4 rl 0 _ HA.out HC.out HR.out HD.out (HT.out.go HB6.out) H27.out).mono ?_
  rintro e w7 ⟨v, rfl, ho, hb⟩
  have HB7 := Aside0.mk (below_step HB6.out hb)
  have LV7 := Aside0.mk (LV6.out.go hb)
  obtain ⟨Al, cl, rfl, hcl, hCcl⟩ := Kd.R_reads ho
  have Lcl := Aside0.mk hcl
  replace LV7 := Aside0.mk (LV7.out.row hCcl)
  clear hb ho hcl hCcl LV6 HB6 HA HC HR HD
  go_wp2_with (fail)
  refine (stock_C _).mono ?_
  rintro e w8 ⟨A, c, B, d, rfl, hA, hc, hB, hd, hb⟩
  have HB8 := Aside0.mk (below_step HB7.out hb)
  have LV8 := Aside0.mk (LV7.out.go hb)
  have HA := Aside0.mk hA
  have HC := Aside0.mk hc
  have HR := Aside0.mk hB
  have HD := Aside0.mk hd
  clear hA hc hB hd hb LV7 HB7
  go_wp2_with (fail)
  refine (panachelaw06_gauge.calls 5 1 0 5 4 _ rfl).mono ?_
  rintro e w9 ⟨rfl, hb⟩
  have HB9 := Aside0.mk (below_step HB8.out hb)
  have LV9 := Aside0.mk (LV8.out.go hb)
  replace HA := Aside0.mk (Kd.C_below HA.out hb)
  replace HR := Aside0.mk (Kd.C_below HR.out hb)
  clear hb LV8 HB8
  go_wp2_with (fail)
  refine (guard_Possible.calls 1000 A c kL B d kR 1 0 5 4 2 0 _ HA.out HC.out HR.out HD.out (HT.out.go HB9.out) kPossible).mono ?_
  rintro e w10 ⟨rfl, hb⟩
  have HB10 := Aside0.mk (below_step HB9.out hb)
  have LV10 := Aside0.mk (LV9.out.go hb)
  clear hb  LV9 HB9 HA HC HR HD
  go_wp2_with (fail)
  refine (stock_C _).mono ?_
  rintro e w11 ⟨A, c, B, d, rfl, hA, hc, hB, hd, hb⟩
  have HB11 := Aside0.mk (below_step HB10.out hb)
  have LV11 := Aside0.mk (LV10.out.go hb)
  have HA := Aside0.mk hA
  have HC := Aside0.mk hc
  have HR := Aside0.mk hB
  have HD := Aside0.mk hd
  clear hA hc hB hd hb LV10 HB10
  go_wp2_with (fail)
  refine (panachelaw06_gauge.calls 5 1 0 5 4 _ rfl).mono ?_
  rintro e w12 ⟨rfl, hb⟩
  have HB12 := Aside0.mk (below_step HB11.out hb)
  have LV12 := Aside0.mk (LV11.out.go hb)
  replace HA := Aside0.mk (Kd.C_below HA.out hb)
  replace HR := Aside0.mk (Kd.C_below HR.out hb)
  clear hb LV11 HB11
  go_wp2_with (fail)
  refine (guard_Cover.calls A c kL B d kR 1 0 5 4 ra rb 0 _ HA.out HC.out HR.out HD.out (HT.out.go HB12.out) H35.out).mono ?_
  rintro e w13 ⟨v, v', rfl, ho, ho', hb⟩
  have HB13 := Aside0.mk (below_step HB12.out hb)
  have LV13 := Aside0.mk (LV12.out.go hb)
  obtain ⟨Aa, ca, rfl, hca, hCca⟩ := Kd.R_reads ho
  have Lca := Aside0.mk hca
  replace LV13 := Aside0.mk (LV13.out.row hCca)
  obtain ⟨Ab, cb, rfl, hcb, hCcb⟩ := Kd.R_reads ho'
  have Lcb := Aside0.mk hcb
  replace LV13 := Aside0.mk (LV13.out.row hCcb)
  clear hb ho hca hCca ho' hcb hCcb LV12 HB12 HA HC HR HD
  go_wp2_with (fail)
  refine (stock_C _).mono ?_
  rintro e w14 ⟨A, c, B, d, rfl, hA, hc, hB, hd, hb⟩
  have HB14 := Aside0.mk (below_step HB13.out hb)
  have LV14 := Aside0.mk (LV13.out.go hb)
  have HA := Aside0.mk hA
  have HC := Aside0.mk hc
  have HR := Aside0.mk hB
  have HD := Aside0.mk hd
  clear hA hc hB hd hb LV13 HB13
  go_wp2_with (fail)
  refine (panachelaw06_gauge.calls 5 1 0 5 4 _ rfl).mono ?_
  rintro e w15 ⟨rfl, hb⟩
  have HB15 := Aside0.mk (below_step HB14.out hb)
  have LV15 := Aside0.mk (LV14.out.go hb)
  replace HA := Aside0.mk (Kd.C_below HA.out hb)
  replace HR := Aside0.mk (Kd.C_below HR.out hb)
  clear hb LV14 HB14
  go_wp2_with (fail)
  refine (guard_Spare.calls 1000 A c kL B d kR 1 0 5 4 rc rd 0 _ HA.out HC.out HR.out HD.out (HT.out.go HB15.out) H38.out).mono ?_
  rintro e w16 ⟨v, v', rfl, ho, ho', hb⟩
  have HB16 := Aside0.mk (below_step HB15.out hb)
  have LV16 := Aside0.mk (LV15.out.go hb)
  obtain ⟨Ac, cc, rfl, hcc, hCcc⟩ := Kd.R_reads ho
  have Lcc := Aside0.mk hcc
  replace LV16 := Aside0.mk (LV16.out.row hCcc)
  obtain ⟨Ad, cd, rfl, hcd, hCcd⟩ := Kd.R_reads ho'
  have Lcd := Aside0.mk hcd
  replace LV16 := Aside0.mk (LV16.out.row hCcd)
  clear hb ho hcc hCcc ho' hcd hCcd LV15 HB15 HA HC HR HD
  go_wp2_with (fail)
  refine (stock_C _).mono ?_
  rintro e w17 ⟨A, c, B, d, rfl, hA, hc, hB, hd, hb⟩
  have HB17 := Aside0.mk (below_step HB16.out hb)
  have LV17 := Aside0.mk (LV16.out.go hb)
  have HA := Aside0.mk hA
  have HC := Aside0.mk hc
  have HR := Aside0.mk hB
  have HD := Aside0.mk hd
  clear hA hc hB hd hb LV16 HB16
  go_wp2_with (fail)
  refine (panachelaw06_gauge.calls 6 1 0 6 4 _ rfl).mono ?_
  rintro e w18 ⟨rfl, hb⟩
  have HB18 := Aside0.mk (below_step HB17.out hb)
  have LV18 := Aside0.mk (LV17.out.go hb)
  replace HA := Aside0.mk (Kd.C_below HA.out hb)
  replace HR := Aside0.mk (Kd.C_below HR.out hb)
  clear hb LV17 HB17
  go_wp2_with (fail)
  refine (guard_Twins.calls A c kL B d kR 1 0 6 4 rt 0 _ HA.out HC.out HR.out HD.out (HT.out.go HB18.out) H40.out).mono ?_
  rintro e w19 ⟨v, rfl, ho, hb⟩
  have HB19 := Aside0.mk (below_step HB18.out hb)
  have LV19 := Aside0.mk (LV18.out.go hb)
  obtain ⟨At, ct, rfl, hct, hCct⟩ := Kd.R_reads ho
  have Lct := Aside0.mk hct
  replace LV19 := Aside0.mk (LV19.out.row hCct)
  clear hb ho hct hCct LV18 HB18 HA HC HR HD
  go_wp2_with (fail)
  refine (stock_C _).mono ?_
  rintro e w20 ⟨A, c, B, d, rfl, hA, hc, hB, hd, hb⟩
  have HB20 := Aside0.mk (below_step HB19.out hb)
  have LV20 := Aside0.mk (LV19.out.go hb)
  have HA := Aside0.mk hA
  have HC := Aside0.mk hc
  have HR := Aside0.mk hB
  have HD := Aside0.mk hd
  clear hA hc hB hd hb LV19 HB19
  go_wp2_with (fail)
  refine (panachelaw06_gauge.calls 5 1 0 5 4 _ rfl).mono ?_
  rintro e w21 ⟨rfl, hb⟩
  have HB21 := Aside0.mk (below_step HB20.out hb)
  have LV21 := Aside0.mk (LV20.out.go hb)
  replace HA := Aside0.mk (Kd.C_below HA.out hb)
  replace HR := Aside0.mk (Kd.C_below HR.out hb)
  clear hb LV20 HB20
  go_wp2_with (fail)
  refine (guard_Cut.calls A c kL B d kR 1 0 5 4 2 3 0 _ HA.out HC.out HR.out HD.out (HT.out.go HB21.out) kCut).mono ?_
  rintro e w22 ⟨rfl, hb⟩
  have HB22 := Aside0.mk (below_step HB21.out hb)
  have LV22 := Aside0.mk (LV21.out.go hb)
  clear hb  LV21 HB21 HA HC HR HD
  go_wp2_with (fail)
  refine (stock_C _).mono ?_
  rintro e w23 ⟨A, c, B, d, rfl, hA, hc, hB, hd, hb⟩
  have HB23 := Aside0.mk (below_step HB22.out hb)
  have LV23 := Aside0.mk (LV22.out.go hb)
  have HA := Aside0.mk hA
  have HC := Aside0.mk hc
  have HR := Aside0.mk hB
  have HD := Aside0.mk hd
  clear hA hc hB hd hb LV22 HB22
  go_wp2_with (fail)
  refine (panachelaw06_gauge.calls 5 1 0 5 4 _ rfl).mono ?_
  rintro e w24 ⟨rfl, hb⟩
  have HB24 := Aside0.mk (below_step HB23.out hb)
  have LV24 := Aside0.mk (LV23.out.go hb)
  replace HA := Aside0.mk (Kd.C_below HA.out hb)
  replace HR := Aside0.mk (Kd.C_below HR.out hb)
  clear hb LV23 HB23
  go_wp2_with (fail)
  refine (guard_Look.calls A c kL B d kR 1 0 5 4 false 0 0 7 _ HA.out HC.out HR.out HD.out (HT.out.go HB24.out) kLook).mono ?_
  rintro e w25 ⟨rfl, hb⟩
  have HB25 := Aside0.mk (below_step HB24.out hb)
  have LV25 := Aside0.mk (LV24.out.go hb)
  clear hb  LV24 HB24 HA HC HR HD
  go_wp2_with (fail)
  refine (stock_C _).mono ?_
  rintro e w26 ⟨A, c, B, d, rfl, hA, hc, hB, hd, hb⟩
  have HB26 := Aside0.mk (below_step HB25.out hb)
  have LV26 := Aside0.mk (LV25.out.go hb)
  have HA := Aside0.mk hA
  have HC := Aside0.mk hc
  have HR := Aside0.mk hB
  have HD := Aside0.mk hd
  clear hA hc hB hd hb LV25 HB25
  go_wp2_with (fail)
  refine (panachelaw06_gauge.calls 5 1 0 5 4 _ rfl).mono ?_
  rintro e w27 ⟨rfl, hb⟩
  have HB27 := Aside0.mk (below_step HB26.out hb)
  have LV27 := Aside0.mk (LV26.out.go hb)
  replace HA := Aside0.mk (Kd.C_below HA.out hb)
  replace HR := Aside0.mk (Kd.C_below HR.out hb)
  clear hb LV26 HB26
  go_wp2_with (fail)
  refine (guard_Balance.calls A c kL B d kR 1 0 5 4 rx 2 0 _ HA.out HC.out HR.out HD.out (HT.out.go HB27.out) H46.out).mono ?_
  rintro e w28 ⟨v, rfl, ho, hb⟩
  have HB28 := Aside0.mk (below_step HB27.out hb)
  have LV28 := Aside0.mk (LV27.out.go hb)
  obtain ⟨Ax, cx, rfl, hcx, hCcx⟩ := Kd.R_reads ho
  have Lcx := Aside0.mk hcx
  replace LV28 := Aside0.mk (LV28.out.row hCcx)
  clear hb ho hcx hCcx LV27 HB27 HA HC HR HD
  have V1 := Aside0.mk (show panacheref06_All.f 1000 rl [⟨0, 0⟩, ⟨1, 1⟩] = some true from by rw [Q1.out]; kernel_rfl)
  have V2 := Aside0.mk (show panacheref06_Ints.f 1000 rb [0, 1] = some true from by rw [Q3.out]; kernel_rfl)
  have V3 := Aside0.mk (show panacheref06_Ints.f 1000 rc [2] = some true from by rw [Q4.out]; kernel_rfl)
  have V4 := Aside0.mk (show panacheref06_Ints.f 1000 rd [2] = some true from by rw [Q5.out]; kernel_rfl)
  have V5 := Aside0.mk (show panacheref06_All.f 1000 rt rl = some true from by rw [Q6.out, Q1.out]; kernel_rfl)
  have V6 := Aside0.mk (show panacheref06_All.f 1000 rx [⟨0, 1⟩, ⟨1, 0⟩, ⟨2, 2⟩] = some true from by rw [Q7.out]; kernel_rfl)
  have hra : ((ra.length : Int) != 0) = false := by rw [Q2.out]; rfl
  have hra2 : (ra.length != 0) = false := by rw [Q2.out]; rfl
  go_wp2_with (fail)
  refine (panachelaw06_pair.calls 0 0 0 0 _ rfl).mono ?_
  rintro e w29 ⟨rfl, hb⟩
  have HB29 := Aside0.mk (below_step HB28.out hb)
  have LV29 := Aside0.mk (LV28.out.go hb)
  clear hb LV28 HB28
  go_wp2_with (fail)
  refine (panachelaw06_pair.calls 1 1 1 1 _ rfl).mono ?_
  rintro e w30 ⟨rfl, hb⟩
  have HB30 := Aside0.mk (below_step HB29.out hb)
  have LV30 := Aside0.mk (LV29.out.go hb)
  clear hb LV29 HB29
  go_wp2_with (fail)
  refine (panacheref06_All.calls 1000 Al cl rl (some ⟨w30.heap.size, 0, none⟩) 2 [⟨0, 0⟩, ⟨1, 1⟩] true _ (Kd.C_below LV30.out.h.2.2.2.2.2.2.1 (below_alloc (Below.refl w30.heap.size w30) (.cells #[.int .i64 0, .int .i64 0, .int .i64 1, .int .i64 1] 85))) Lcl.out (by exact lit85 w30 [⟨0, 0⟩, ⟨1, 1⟩] (by decide)) (Nat.le_refl _) V1.out).mono ?_
  rintro e w31 ⟨rfl, hd⟩
  have hb := d_below hd (below_alloc (Below.refl w30.heap.size w30) (.cells #[.int .i64 0, .int .i64 0, .int .i64 1, .int .i64 1] 85))
  have HB31 := Aside0.mk (below_step HB30.out hb)
  have LV31 := Aside0.mk (LV30.out.go hb)
  clear hd hb LV30 HB30
  go_wp2_with (fail)
  refine (panacheref06_Ints.calls 1000 Ab cb rb (some ⟨w31.heap.size, 0, none⟩) 2 [0, 1] true _ (Kd.C_below LV31.out.h.2.2.2.2.1 (below_alloc (Below.refl w31.heap.size w31) (.cells #[.int .i64 0, .int .i64 1] 3))) Lcb.out (lit2 w31 0 1 _ rfl) (Nat.le_refl _) V2.out).mono ?_
  rintro e w32 ⟨rfl, hd⟩
  have hb := d_below hd (below_alloc (Below.refl w31.heap.size w31) (.cells #[.int .i64 0, .int .i64 1] 3))
  have HB32 := Aside0.mk (below_step HB31.out hb)
  have LV32 := Aside0.mk (LV31.out.go hb)
  clear hd hb LV31 HB31
  go_wp2_with (fail)
  refine (panacheref06_Ints.calls 1000 Ac cc rc (some ⟨w32.heap.size, 0, none⟩) 1 [2] true _ (Kd.C_below LV32.out.h.2.2.2.1 (below_alloc (Below.refl w32.heap.size w32) (.cells #[.int .i64 2] 3))) Lcc.out (lit1 w32 2 _ rfl) (Nat.le_refl _) V3.out).mono ?_
  rintro e w33 ⟨rfl, hd⟩
  have hb := d_below hd (below_alloc (Below.refl w32.heap.size w32) (.cells #[.int .i64 2] 3))
  have HB33 := Aside0.mk (below_step HB32.out hb)
  have LV33 := Aside0.mk (LV32.out.go hb)
  clear hd hb LV32 HB32
  go_wp2_with (fail)
  refine (panacheref06_Ints.calls 1000 Ad cd rd (some ⟨w33.heap.size, 0, none⟩) 1 [2] true _ (Kd.C_below LV33.out.h.2.2.1 (below_alloc (Below.refl w33.heap.size w33) (.cells #[.int .i64 2] 3))) Lcd.out (lit1 w33 2 _ rfl) (Nat.le_refl _) V4.out).mono ?_
  rintro e w34 ⟨rfl, hd⟩
  have hb := d_below hd (below_alloc (Below.refl w33.heap.size w33) (.cells #[.int .i64 2] 3))
  have HB34 := Aside0.mk (below_step HB33.out hb)
  have LV34 := Aside0.mk (LV33.out.go hb)
  clear hd hb LV33 HB33
  go_wp2_with (fail)
  refine (panacheref06_All.calls 1000 At ct rt Al cl rl true _ LV34.out.h.2.1 Lct.out LV34.out.h.2.2.2.2.2.2.1 Lcl.out V5.out).mono ?_
  rintro e w35 ⟨rfl, hd⟩
  have hb := d_below hd (Below.refl _ _)
  have HB35 := Aside0.mk (below_step HB34.out hb)
  have LV35 := Aside0.mk (LV34.out.go hb)
  clear hd hb LV34 HB34
  go_wp2_with (fail)
  refine (panachelaw06_pair.calls 0 1 0 1 _ rfl).mono ?_
  rintro e w36 ⟨rfl, hb⟩
  have HB36 := Aside0.mk (below_step HB35.out hb)
  have LV36 := Aside0.mk (LV35.out.go hb)
  clear hb LV35 HB35
  go_wp2_with (fail)
  refine (panachelaw06_pair.calls 1 0 1 0 _ rfl).mono ?_
  rintro e w37 ⟨rfl, hb⟩
  have HB37 := Aside0.mk (below_step HB36.out hb)
  have LV37 := Aside0.mk (LV36.out.go hb)
  clear hb LV36 HB36
  go_wp2_with (fail)
  refine (panachelaw06_pair.calls 2 2 2 2 _ rfl).mono ?_
  rintro e w38 ⟨rfl, hb⟩
  have HB38 := Aside0.mk (below_step HB37.out hb)
  have LV38 := Aside0.mk (LV37.out.go hb)
  clear hb LV37 HB37
  go_wp2_with (fail)
  refine (panacheref06_All.calls 1000 Ax cx rx (some ⟨w38.heap.size, 0, none⟩) 3 [⟨0, 1⟩, ⟨1, 0⟩, ⟨2, 2⟩] true _ (Kd.C_below LV38.out.h.1 (below_alloc (Below.refl w38.heap.size w38) (.cells #[.int .i64 0, .int .i64 1, .int .i64 1, .int .i64 0, .int .i64 2, .int .i64 2] 85))) Lcx.out (by exact lit85 w38 [⟨0, 1⟩, ⟨1, 0⟩, ⟨2, 2⟩] (by decide)) (Nat.le_refl _) V6.out).mono ?_
  rintro e w39 ⟨rfl, hd⟩
  have hb := d_below hd (below_alloc (Below.refl w38.heap.size w38) (.cells #[.int .i64 0, .int .i64 1, .int .i64 1, .int .i64 0, .int .i64 2, .int .i64 2] 85))
  have HB39 := Aside0.mk (below_step HB38.out hb)
  have LV39 := Aside0.mk (LV38.out.go hb)
  clear hd hb LV38 HB38
  go_wp2_with (fail)
  refine (stock_C _).mono ?_
  rintro e w40 ⟨A, c, B, d, rfl, hA, hc, hB, hd, hb⟩
  have HB40 := Aside0.mk (below_step HB39.out hb)
  have LV40 := Aside0.mk (LV39.out.go hb)
  have HA := Aside0.mk hA
  have HC := Aside0.mk hc
  have HR := Aside0.mk hB
  have HD := Aside0.mk hd
  clear hA hc hB hd hb LV39 HB39
  go_wp2_with (fail)
  refine (guard_Check.calls A c kL B d kR (-1) 0 0 0 3 _ HA.out HC.out HR.out HD.out kCheck).mono ?_
  rintro e w41 ⟨rfl, hb⟩
  have HB41 := Aside0.mk (below_step HB40.out hb)
  have LV41 := Aside0.mk (LV40.out.go hb)
  clear hb LV40 HB40
  go_wp2
  go_ret
  exact ⟨rfl, HB41.out⟩
theorem panachelaw06_known.calls (w : World) (hT_ : TabOk w) : Calls Tryd.prog 16 #[] w fun e w' => e = .returned (.bool true) ∧ Below w.heap.size w w' :=
  known_walk _ _ _ _ _ _ _ w hT_ kPairs kCover kSpare kTwins kBalance rfl rfl rfl rfl rfl rfl rfl
end Go.Proofs.YtamibghbkjmmeaaDoor.G
end
section
namespace Go.Proofs.YtamibghbkjmmeaaDoor.G
open Go.RowKit Go.Proofs.YtamibghbkjmmeaaDoorW.PrintWords Go.Proofs.YtamibghbkjmmeaaDoorW.PrintLast Go.Proofs.YtamibghbkjmmeaaDoorW.PrintMore
attribute [local go_sem] max2_int min2_int max_two min_two max_three min_three max_four min_four
set_option linter.unusedVariables false
set_option linter.unusedSimpArgs false
def panacheref06_Copy.l0 : Nat → List (S24) → List (S24) → Int → Option ((List (S24)))
  | 0, _, _, _ => none
  | k + 1, x0, x3, x4 => if x4 < (x0.length : Int) then (if 0 ≤ x4 then ((some (([] : List Int) : List Int)).bind fun y229 => (if y229.length + ((rd_T24 x0 x4).f1).length < 17592186044416 then (if x3.length < 4398046511104 then (panacheref06_Copy.l0 k x0 (x3 ++ [(⟨(rd_T24 x0 x4).f0, (y229 ++ ((rd_T24 x0 x4).f1))⟩ : S24)]) (wrap64 (x4 + 1))) else (none)) else (none))) else (none)) else (some x3)
def panacheref06_Copy.f (k : Nat) (l0 : List (S24)) : Option ((List (S24))) := panacheref06_Copy.l0 k l0 (([] : List (S24))) 0
def panacheref06_Copy.T5 : Bool × List (List Nat × List Nat) := (true, [([], []), ([], []), ([], []), ([1, 2], [1, 2]), ([3], [3]), ([4], [4]), ([], []), ([], []), ([], []), ([7, 8], [7, 8]), ([9], [9]), ([10], [10]), ([6, 11], [6, 11]), ([5, 12], [5, 12]), ([13], [13]), ([0, 14, 12], [0, 14]), ([15, 15, 0, 1, 2, 3, 4, 5, 6, 7, 8, 9, 10, 11, 12, 13, 14, 15], [0, 15])])
def panacheref06_Copy.B5 : List Nat := [0, 0, 0, 6, 14, 30, 0, 0, 0, 384, 896, 1920, 4032, 8190, 16382, 32767, 65535]
theorem panacheref06_Copy.tab5 : rtab .any (opsOf Tryd.f17 5) = panacheref06_Copy.T5 := by kernel_rfl
theorem panacheref06_Copy.bits5 : waitsOk panacheref06_Copy.T5.2 panacheref06_Copy.B5 = true := by kernel_rfl
set_option maxHeartbeats 8000000 in
set_option maxRecDepth 100000 in
theorem panacheref06_Copy.calls (k : Nat) (A0 : Option Addr) (c0 : Nat) (l0 : List (S24)) (r : List (S24)) (w : World) (hr0 : Kd.C k24 w A0 l0.length l0) (hc0 : l0.length ≤ c0) (h : panacheref06_Copy.f k l0 = some r) :
    Calls Tryd.prog 17 #[.slice A0 l0.length c0] w fun e w' => ∃ v0_ : Value, e = .returned (v0_) ∧ Kd.S k24 24 w' w.heap.size (fun _ => True) v0_ r ∧ Below w.heap.size w w' := by
  have hu24 := Tryd.underlying24
  have HR0 := Aside0.mk hr0
  have HC0 := Aside0.mk hc0
  clear hr0 hc0
  have HB := Aside0.mk (Below.refl w.heap.size w)
  have H : (panacheref06_Copy.l0 k l0 (([] : List (S24))) 0) = some r := h
  clear h
  obtain ⟨y225, hy225⟩ : ∃ y_ : List (S24), y_ = (([] : List (S24))) := ⟨_, rfl⟩
  replace H : (panacheref06_Copy.l0 k l0 y225 0) = some r := by first | (rw [hy225]; with_reducible exact H) | (have H2_ := (Option.bind_some _ _).symm.trans H; rw [hy225]; with_reducible exact H2_) | (have H2_ := (Option.bind_some _ _).symm.trans H; with_reducible exact H2_) | with_reducible exact H | (rw [hy225]; exact H) | exact H
  have Ny225 := Aside0.mk hy225
  clear hy225
  have H' := Aside0.mk H
  clear H
  go_enter Tryd.func17, Tryd.ntmps17
  go_wp2_with (first | ((with_reducible refine gate_dst (N := 5) rfl ?_); refine Kd.S_lit k24 _ 24 ?hg (N := 5) ?hd (xs := ([] : List (S24))) (inner := []) (ok := fun _ => True) (okp := fun _ => True) ?hr ?hp (fun _ hk => hk) trivial (Below.refl _ _) (Nat.le_refl _) (by simp) ?_; (case hd => rfl); (case hg => rfl); (case hr => first | (go_simp; done) | (go_simp; rfl)); (case hp => exact (Reps.none _ _)); intro v226 w2 ho3 hb hg_ hnew_; clear hg_ hnew_; (first | rw [← Ny225.out] at ho3 | (simp only [Int.reduceToNat] at ho3; rw [← Ny225.out] at ho3)); have n0_ := Aside0.mk (Kd.S_lower ho3 (below_size (by repeat (first | (with_reducible first | exact HB.out | apply below_alloc | apply pw_below_drewN | apply below_drew1) | exact HB.out)))); have n1_ := Aside0.mk (below_step (by repeat (first | (with_reducible first | exact HB.out | apply below_alloc | apply pw_below_drewN | apply below_drew1) | exact HB.out)) hb); clear HB; have HO227 := n0_; have HB := n1_; clear n0_ n1_; clear hb ho3))
  go_loopg [3, 4] k (fun kq v3 v4 w' => ∃ (x3_1 : List (S24)) (x4_1 : Int), v4 = .int .i64 x4_1 ∧ Aside0 (panacheref06_Copy.l0 kq l0 x3_1 x4_1 = some r) ∧ Aside0 (kq ≤ k) ∧ Aside0 (Kd.S k24 24 w' w.heap.size (fun _ => True) v3 x3_1) ∧ Aside0 (Below w.heap.size w w'))
  case atStart => exact ⟨(y225), (0), (by first | rfl | (simp; done) | (simp [*]; done)), H', ⟨Nat.le_refl _⟩, ⟨by (with_reducible repeat (first | apply Kd.S_alloc | apply Kd.S_drewN | apply Kd.S_drew)); exact HO227.out⟩, ⟨by repeat (first | (with_reducible first | exact HB.out | apply below_alloc | apply pw_below_drewN | apply below_drew1) | exact HB.out)⟩⟩
  case round =>
    clear H'
    try clear c1
    try clear p2
    obtain ⟨x3_1, x4_1, rfl, HA, HK1, HO_3, HB⟩ := hrel
    cases gk with
    | zero => exact absurd HA.out (by simp [panacheref06_Copy.l0])
    | succ k1 =>
      have H := HA.out
      clear HA
      simp only [panacheref06_Copy.l0] at H
      by_cases c4 : x4_1 < (l0.length : Int)
      · rw [if_pos c4] at H
        have c4b0 : decide (x4_1 < (l0.length : Int)) = true := decide_eq_true c4
        clear c4
        by_cases c5 : 0 ≤ x4_1
        · rw [if_pos c5] at H
          have c5b0 : decide (0 ≤ x4_1) = true := decide_eq_true c5
          clear c5
          obtain ⟨y229, hy229⟩ : ∃ y_ : List Int, y_ = (([] : List Int)) := ⟨_, rfl⟩
          replace H : (if y229.length + ((rd_T24 l0 x4_1).f1).length < 17592186044416 then (if x3_1.length < 4398046511104 then (panacheref06_Copy.l0 k1 l0 (x3_1 ++ [(⟨(rd_T24 l0 x4_1).f0, (y229 ++ ((rd_T24 l0 x4_1).f1))⟩ : S24)]) (wrap64 (x4_1 + 1))) else (none)) else (none)) = some r := by first | (rw [hy229]; with_reducible exact H) | (have H2_ := (Option.bind_some _ _).symm.trans H; rw [hy229]; with_reducible exact H2_) | (have H2_ := (Option.bind_some _ _).symm.trans H; with_reducible exact H2_) | with_reducible exact H | (rw [hy229]; exact H) | exact H
          have Ny229 := Aside0.mk hy229
          clear hy229
          by_cases c6 : y229.length + ((rd_T24 l0 x4_1).f1).length < 17592186044416
          · rw [if_pos c6] at H
            have LMc6 := Aside0.mk c6
            clear c6
            obtain ⟨y233, hy233⟩ : ∃ y_ : List Int, y_ = (y229 ++ ((rd_T24 l0 x4_1).f1)) := ⟨_, rfl⟩
            replace H : (if x3_1.length < 4398046511104 then (panacheref06_Copy.l0 k1 l0 (x3_1 ++ [(⟨(rd_T24 l0 x4_1).f0, y233⟩ : S24)]) (wrap64 (x4_1 + 1))) else (none)) = some r := by first | (rw [hy233]; with_reducible exact H) | (have H2_ := (Option.bind_some _ _).symm.trans H; rw [hy233]; with_reducible exact H2_) | (have H2_ := (Option.bind_some _ _).symm.trans H; with_reducible exact H2_) | with_reducible exact H | (rw [hy233]; exact H) | exact H
            have Ny233 := Aside0.mk hy233
            clear hy233
            by_cases c7 : x3_1.length < 4398046511104
            · rw [if_pos c7] at H
              have LMc7 := Aside0.mk c7
              clear c7
              obtain ⟨y236, hy236⟩ : ∃ y_ : List (S24), y_ = (x3_1 ++ [(⟨(rd_T24 l0 x4_1).f0, y233⟩ : S24)]) := ⟨_, rfl⟩
              replace H : (panacheref06_Copy.l0 k1 l0 y236 (wrap64 (x4_1 + 1))) = some r := by first | (rw [hy236]; with_reducible exact H) | (have H2_ := (Option.bind_some _ _).symm.trans H; rw [hy236]; with_reducible exact H2_) | (have H2_ := (Option.bind_some _ _).symm.trans H; with_reducible exact H2_) | with_reducible exact H | (rw [hy236]; exact H) | exact H
              have Ny236 := Aside0.mk hy236
              clear hy236
              have H' := Aside0.mk H
              clear H
              try go_wp2
              have n0_ := Aside0.mk (Kd.S_drew HO_3.out)
              have n1_ := Aside0.mk (below_drew1 HB.out)
              clear HO_3
              clear HB
              have HO_3 := n0_
              have HB := n1_
              clear n0_ n1_
              have p228 : 0 ≤ (x4_1 : Int) := of_decide_eq_true (by first | (with_reducible assumption) | assumption)
              have q228 : x4_1 < (l0.length : Int) := of_decide_eq_true (by first | (with_reducible assumption) | assumption)
              obtain ⟨ad228, A228_1, c228_1, e228, hx228_0, hx228_1, hl228_1, hi228_1⟩ := at_T24 HR0.out x4_1 p228 q228
              have hw228_1 := hx228_1
              have hw228_0 := hx228_0
              cases e228
              replace hx228_0 := (HB.out.cell (World.block_lt_of_cell? w _ hx228_0)).trans hx228_0
              replace hx228_1 := (HB.out.cell (World.block_lt_of_cell? w _ hx228_1)).trans hx228_1
              have HR228_1 := Aside0.mk hi228_1
              have HC228_1 := Aside0.mk hl228_1
              clear hi228_1 hl228_1
              replace p228 := eq_true p228
              replace q228 := eq_true q228
              have p232 : 0 ≤ (x4_1 : Int) := of_decide_eq_true (by first | (with_reducible assumption) | assumption)
              have q232 : x4_1 < (l0.length : Int) := of_decide_eq_true (by first | (with_reducible assumption) | assumption)
              obtain ⟨ad232, A232_1, c232_1, e232, hx232_0, hx232_1, hl232_1, hi232_1⟩ := at_T24 HR0.out x4_1 p232 q232
              have hw232_1 := hx232_1
              have hw232_0 := hx232_0
              obtain rfl : ad228 = ad232 := (by injection e232)
              replace hx232_0 := (HB.out.cell (World.block_lt_of_cell? w _ hx232_0)).trans hx232_0
              replace hx232_1 := (HB.out.cell (World.block_lt_of_cell? w _ hx232_1)).trans hx232_1
              have HR232_1 := Aside0.mk hi232_1
              have HC232_1 := Aside0.mk hl232_1
              clear hi232_1 hl232_1
              replace p232 := eq_true p232
              replace q232 := eq_true q232
              have ea_ := Option.some.inj (hx228_1.symm.trans hx232_1)
              injection ea_ with ea_ en_ ec_
              subst ea_
              subst ec_
              clear en_
              refine start_ (n := 17) (S := fun w' => w'.cell? (ad228.add ((x4_1).toNat * 2)) = some (.int .i64 ((rd_T24 l0 x4_1).f0)) ∧ w'.cell? ⟨(ad228.add ((x4_1).toNat * 2)).block, (ad228.add ((x4_1).toNat * 2)).off + 1, none⟩ = some (.slice A228_1 ((rd_T24 l0 x4_1).f1).length c228_1) ∧ w'.cell? (ad228.add ((x4_1).toNat * 2)) = some (.int .i64 ((rd_T24 l0 x4_1).f0)) ∧ w'.cell? ⟨(ad228.add ((x4_1).toNat * 2)).block, (ad228.add ((x4_1).toNat * 2)).off + 1, none⟩ = some (.slice A228_1 ((rd_T24 l0 x4_1).f1).length c228_1)) (ds := []) (bl 17 0) (by kernel_rfl) rfl rfl ⟨((HB.out.cell (World.block_lt_of_cell? w _ hw228_0)).trans hw228_0), ((HB.out.cell (World.block_lt_of_cell? w _ hw228_1)).trans hw228_1), ((HB.out.cell (World.block_lt_of_cell? w _ hw232_0)).trans hw232_0), ((HB.out.cell (World.block_lt_of_cell? w _ hw232_1)).trans hw232_1)⟩ (fun hHeld => ?_); refine with_tabW panacheref06_Copy.tab5 panacheref06_Copy.bits5 (fun HT_ HW_ => ?_)
              generalize wr.drew = w8 at HO_3 HB HR228_1 HR232_1 hx228_0 hx228_1 hx232_0 hx232_1 hHeld ⊢
              refine pure_ (i := 0) (N := some 12) (v := ?_) (a' := ?_) (bl 17 1) rfl rfl (any_of HT_.out (by kernel_rfl)) (fun _ _ _ h => h) (Or.inl ⟨by rfl, ?_⟩) ?_ ?_
              rotate_left
              · intro w'
                go_simp
                with_reducible rfl
              rotate_left
              · simp only [Act.put, List.setIfInBounds_toArray, List.set_cons_zero, List.set_cons_succ, i64_w, i32_w]
                rfl
              refine pure_ (i := 1) (N := some 13) (v := ?_) (a' := ?_) (bl 17 3) rfl rfl (any_of HT_.out (by kernel_rfl)) (fun _ _ _ h => h) (Or.inl ⟨by rfl, ?_⟩) ?_ ?_
              rotate_left
              · intro w'
                go_simp
                with_reducible rfl
              rotate_left
              · simp only [Act.put, List.setIfInBounds_toArray, List.set_cons_zero, List.set_cons_succ, i64_w, i32_w]
                rfl
              refine pure_ (i := 2) (N := some 14) (v := ?_) (a' := ?_) (bl 17 7) rfl rfl (any_of HT_.out (by kernel_rfl)) (fun _ _ _ h => h) (Or.inl ⟨by rfl, ?_⟩) ?_ ?_
              rotate_left
              · intro w'
                go_simp
                with_reducible rfl
              rotate_left
              · simp only [Act.put, List.setIfInBounds_toArray, List.set_cons_zero, List.set_cons_succ, i64_w, i32_w]
                rfl
              refine pure_ (i := 3) (N := some 15) (v := ?_) (a' := ?_) (bl 17 15) rfl rfl (any_of HT_.out (by kernel_rfl)) (fun _ _ _ h => h) (Or.inl ⟨by rfl, ?_⟩) ?_ ?_
              rotate_left
              · intro w'
                go_simp
                with_reducible rfl
              rotate_left
              · simp only [Act.put, List.setIfInBounds_toArray, List.set_cons_zero, List.set_cons_succ, i64_w, i32_w]
                rfl
              refine pure_ (i := 4) (N := some 16) (v := ?_) (a' := ?_) (bl 17 31) rfl rfl (any_of HT_.out (by kernel_rfl)) (fun _ _ _ h => h) (Or.inl ⟨by rfl, ?_⟩) ?_ ?_
              rotate_left
              · intro w'
                go_simp
                with_reducible rfl
              rotate_left
              · simp only [Act.put, List.setIfInBounds_toArray, List.set_cons_zero, List.set_cons_succ, i64_w, i32_w]
                rfl
              refine pure_ (i := 7) (N := some 19) (v := ?_) (a' := ?_) (bl 17 159) rfl rfl (any_of HT_.out (by kernel_rfl)) (fun _ _ _ h => h) (Or.inl ⟨by rfl, ?_⟩) ?_ ?_
              rotate_left
              · intro w'
                go_simp
                with_reducible rfl
              rotate_left
              · simp only [Act.put, List.setIfInBounds_toArray, List.set_cons_zero, List.set_cons_succ, i64_w, i32_w]
                rfl
              refine pure_ (i := 8) (N := some 20) (v := ?_) (a' := ?_) (bl 17 415) rfl rfl (any_of HT_.out (by kernel_rfl)) (fun _ _ _ h => h) (Or.inl ⟨by rfl, ?_⟩) ?_ ?_
              rotate_left
              · intro w'
                go_simp
                with_reducible rfl
              rotate_left
              · simp only [Act.put, List.setIfInBounds_toArray, List.set_cons_zero, List.set_cons_succ, i64_w, i32_w]
                rfl
              refine pure_ (i := 9) (N := some 21) (v := ?_) (a' := ?_) (bl 17 927) rfl rfl (any_of HT_.out (by kernel_rfl)) (fun _ _ _ h => h) (Or.inl ⟨by rfl, ?_⟩) ?_ ?_
              rotate_left
              · intro w'
                go_simp
                with_reducible rfl
              rotate_left
              · simp only [Act.put, List.setIfInBounds_toArray, List.set_cons_zero, List.set_cons_succ, i64_w, i32_w]
                rfl
              refine pure_ (i := 10) (N := some 22) (v := ?_) (a' := ?_) (bl 17 1951) rfl rfl (any_of HT_.out (by kernel_rfl)) (fun _ _ _ h => h) (Or.inl ⟨by rfl, ?_⟩) ?_ ?_
              rotate_left
              · intro w'
                go_simp
                with_reducible rfl
              rotate_left
              · simp only [Act.put, List.setIfInBounds_toArray, List.set_cons_zero, List.set_cons_succ, i64_w, i32_w]
                rfl
              refine take_ (i := 5) (N := some 17) (v := ?_) (a' := ?_) (bl 17 1983) rfl rfl (take_ofW HT_.out HW_.out (by kernel_rfl)) (fun _ _ _ h => h) (Or.inl ⟨by rfl, ?_⟩) hHeld ?_ ?_
              rotate_left
              · rintro w' ⟨s0, s1, s2, s3⟩
                go_simp
                with_reducible rfl
              rotate_left
              · simp only [Act.put, List.setIfInBounds_toArray, List.set_cons_zero, List.set_cons_succ, i64_w, i32_w]
                rfl
              refine take_ (i := 11) (N := some 23) (v := ?_) (a' := ?_) (bl 17 4031) rfl rfl (take_ofW HT_.out HW_.out (by kernel_rfl)) (fun _ _ _ h => h) (Or.inl ⟨by rfl, ?_⟩) hHeld ?_ ?_
              rotate_left
              · rintro w' ⟨s0, s1, s2, s3⟩
                go_simp
                with_reducible rfl
              rotate_left
              · simp only [Act.put, List.setIfInBounds_toArray, List.set_cons_zero, List.set_cons_succ, i64_w, i32_w]
                rfl
              refine one_ (i := 6) (N := some 18) (bl 17 4095) rfl rfl (one_of HT_.out (by kernel_rfl)) (by decide) (fun K hK => ?_)
              refine Kd.R_lit_step (Kd.int .i64) _ 3 ?hg (N := 18) ?hd (xs := ([] : List Int)) (inner := []) (ok := fun _ => True) (okp := fun _ => True) ?hr ?hp (fun _ hk => hk) trivial (Below.refl _ _) (Nat.le_refl _) (by simp) ?_; (case hd => rfl); (case hg => rfl); (case hr => first | (go_simp; done) | (go_simp; rfl)); (case hp => exact (Reps.none _ _))
              intro v230 w9 ho10 hb hg_ hnew_
              clear hg_ hnew_
              (first | rw [← Ny229.out] at ho10 | (simp only [Int.reduceToNat] at ho10; rw [← Ny229.out] at ho10))
              have n0_ := Aside0.mk (Kd.S_elder' (by (with_reducible repeat (first | apply Kd.S_alloc | apply Kd.S_drewN | apply Kd.S_drew)); exact HO_3.out) (Kd.R_base ho10) hb)
              have n1_ := Aside0.mk (Kd.R_lower ho10 (below_size (by repeat (first | (with_reducible first | exact HB.out | apply below_alloc | apply pw_below_drewN | apply below_drew1) | exact HB.out))))
              have n2_ := Aside0.mk (below_step (by repeat (first | (with_reducible first | exact HB.out | apply below_alloc | apply pw_below_drewN | apply below_drew1) | exact HB.out)) hb)
              clear HO_3
              clear HB
              have HO_3 := n0_
              have HO231 := n1_
              have HB := n2_
              clear n0_ n1_ n2_
              clear hb ho10
              refine hK.out _ _ ⟨((HB.out.cell (World.block_lt_of_cell? w _ hw228_0)).trans hw228_0), ((HB.out.cell (World.block_lt_of_cell? w _ hw228_1)).trans hw228_1), ((HB.out.cell (World.block_lt_of_cell? w _ hw232_0)).trans hw232_0), ((HB.out.cell (World.block_lt_of_cell? w _ hw232_1)).trans hw232_1)⟩ (fun hHeld => ?_)
              clear hK K
              refine nS 18 ?_
              refine one_ (i := 12) (N := some 24) (bl 17 8191) rfl rfl (one_of HT_.out (by kernel_rfl)) (by decide) (fun K hK => ?_)
              refine Kd.R_append_rows_step (Kd.int .i64) (w0 := w) w.heap.size (by rfl) (.tmp 18) (.tmp 23) 22 3 (.int .i64 0) 8 rfl Tryd.underlying22 info3 rfl (by decide) (by omega) v230 y229 ((rd_T24 l0 x4_1).f1) _ _ _ (fun _ => True) (fun _ => False) rfl rfl ?aO ?aR (fun _ _ h => h) (fun _ h => h.elim) ?aF ?aB ?aS ?aL ?_
              (case aR => repeat (first | exact (Kd.C_below HR232_1.out HB.out) | (with_reducible refine Kd.C_alloc ?_ _) | (with_reducible refine Kd.C_drewN ?_ _) | (with_reducible refine Kd.C_drew ?_)))
              (case aB => exact (by repeat (first | (with_reducible first | exact HB.out | apply below_alloc | apply pw_below_drewN | apply below_drew1) | exact HB.out)))
              (case aF => exact (fun _ _ => trivial))
              (case aO => exact (by (with_reducible repeat (first | apply Kd.R_alloc | apply Kd.R_drewN | apply Kd.R_drew)); exact HO231.out))
              (case aS => exact (below_size (by repeat (first | (with_reducible first | exact HB.out | apply below_alloc | apply pw_below_drewN | apply below_drew1) | exact HB.out))))
              (case aL => have := LMc6.out; omega)
              intro v234 w11 ho hb hg hat
              rw [← Ny233.out] at ho
              have n0_ := Aside0.mk (Kd.S_after (ok := (fun _ => True)) (by (with_reducible repeat (first | apply Kd.S_alloc | apply Kd.S_drewN | apply Kd.S_drew)); exact HO_3.out) hg hat)
              have n1_ := Aside0.mk (hb)
              have n2_ := Aside0.mk (ho)
              clear HO_3
              clear HB
              clear HO231
              have HO_3 := n0_
              have HB := n1_
              have HO235 := n2_
              clear n0_ n1_ n2_
              clear ho hb hg hat
              obtain ⟨Ao12, co12, eo12⟩ := Kd.R_slice HO235.out
              (first | subst eo12 | (injection eo12 with f1_ f2_ f3_; have f4_ := f1_.symm; have f5_ := f3_.symm; clear f1_ f2_ f3_; subst f4_; subst f5_))
              refine hK.out _ _ ⟨((HB.out.cell (World.block_lt_of_cell? w _ hw228_0)).trans hw228_0), ((HB.out.cell (World.block_lt_of_cell? w _ hw228_1)).trans hw228_1), ((HB.out.cell (World.block_lt_of_cell? w _ hw232_0)).trans hw232_0), ((HB.out.cell (World.block_lt_of_cell? w _ hw232_1)).trans hw232_1)⟩ (fun hHeld => ?_)
              clear hK K
              refine nS 24 ?_
              refine pure_ (i := 13) (N := some 25) (v := ?_) (a' := ?_) (bl 17 16383) rfl rfl (any_of HT_.out (by kernel_rfl)) (fun _ _ _ h => h) (Or.inl ⟨by rfl, ?_⟩) ?_ ?_
              rotate_left
              · intro w'
                go_simp
                with_reducible rfl
              rotate_left
              · simp only [Act.put, List.setIfInBounds_toArray, List.set_cons_zero, List.set_cons_succ, i64_w, i32_w]
                rfl
              refine one_ (i := 14) (N := some 26) (bl 17 32767) rfl rfl (one_of HT_.out (by kernel_rfl)) (by decide) (fun K hK => ?_)
              refine vS ?_
              refine hK.out _ _ ⟨(World.cell?_alloc_lt _ _ _ (World.block_lt_of_cell? _ _ (((HB.out.cell (World.block_lt_of_cell? w _ hw228_0)).trans hw228_0)))).trans (((HB.out.cell (World.block_lt_of_cell? w _ hw228_0)).trans hw228_0)), (World.cell?_alloc_lt _ _ _ (World.block_lt_of_cell? _ _ (((HB.out.cell (World.block_lt_of_cell? w _ hw228_1)).trans hw228_1)))).trans (((HB.out.cell (World.block_lt_of_cell? w _ hw228_1)).trans hw228_1)), (World.cell?_alloc_lt _ _ _ (World.block_lt_of_cell? _ _ (((HB.out.cell (World.block_lt_of_cell? w _ hw232_0)).trans hw232_0)))).trans (((HB.out.cell (World.block_lt_of_cell? w _ hw232_0)).trans hw232_0)), (World.cell?_alloc_lt _ _ _ (World.block_lt_of_cell? _ _ (((HB.out.cell (World.block_lt_of_cell? w _ hw232_1)).trans hw232_1)))).trans (((HB.out.cell (World.block_lt_of_cell? w _ hw232_1)).trans hw232_1))⟩ (fun hHeld => ?_)
              clear hK K
              refine nS 26 ?_
              refine one_ (i := 15) (N := some 27) (bl 17 65535) rfl rfl (one_of HT_.out (by kernel_rfl)) (by decide) (fun K hK => ?_)
              refine Kd.S_append_step k24 (w0 := w) w.heap.size (by rfl) (.tmp 12) (.tmp 26) 28 24 (.agg #[(.int .i64 0), (.slice none 0 0)]) 32 rfl Tryd.underlying28 info24 rfl (by decide) (by omega) u3 x3_1 (⟨(rd_T24 l0 x4_1).f0, y233⟩ : S24) [.int .i64 ((rd_T24 l0 x4_1).f0), .slice Ao12 y233.length co12] (fun _ => True) (fun k_ => some k_ = (.slice Ao12 y233.length co12 : Value).ownBlock) rfl rfl ?aP (fun k_ hk_ => ((Kd.R_mono (ok' := fun k_ => ((fun _ => True)) k_ ∧ some k_ ≠ (u3 : Value).ownBlock) (Kd.R_apart' (HO235.out) (Kd.S_typed HO_3.out) (by decide)) (fun k_ hk => ⟨trivial, hk.2⟩))).1 k_ hk_.symm) ?aF ?aO ?aB ?aS ?aL ?_
              (case aP => exact k24_mkM _ _ _ (⟨(rd_T24 l0 x4_1).f0, y233⟩ : S24) (Kd.R_mono (Kd.R_tight rfl (Kd.R_mono (ok' := fun k_ => ((fun _ => True)) k_ ∧ some k_ ≠ (u3 : Value).ownBlock) (Kd.R_apart' (HO235.out) (Kd.S_typed HO_3.out) (by decide)) (fun k_ hk => ⟨trivial, hk.2⟩))) (fun _ h_ => h_)))
              (case aB => exact (by repeat (first | (with_reducible first | exact HB.out | apply below_alloc | apply pw_below_drewN | apply below_drew1) | exact HB.out)))
              (case aF => exact (fun _ _ => trivial))
              (case aO => exact (by (with_reducible repeat (first | apply Kd.S_alloc | apply Kd.S_drewN | apply Kd.S_drew)); exact Kd.S_mono HO_3.out (fun k_ hk => ⟨trivial, fun e_ => hk.2 e_⟩)))
              (case aS => exact (below_size (by repeat (first | (with_reducible first | exact HB.out | apply below_alloc | apply pw_below_drewN | apply below_drew1) | exact HB.out))))
              (case aL => have := LMc7.out; omega)
              intro v237 w13 ho hb hg hat
              rw [← Ny236.out] at ho
              have n0_ := Aside0.mk (hb)
              have n1_ := Aside0.mk (ho)
              clear HB
              clear HO_3
              clear HO235
              have HB := n0_
              have HO238 := n1_
              clear n0_ n1_
              clear ho hb hg hat
              refine hK.out _ _ ⟨((HB.out.cell (World.block_lt_of_cell? w _ hw228_0)).trans hw228_0), ((HB.out.cell (World.block_lt_of_cell? w _ hw228_1)).trans hw228_1), ((HB.out.cell (World.block_lt_of_cell? w _ hw232_0)).trans hw232_0), ((HB.out.cell (World.block_lt_of_cell? w _ hw232_1)).trans hw232_1)⟩ (fun hHeld => ?_)
              clear hK K
              refine nS 27 ?_
              refine pure_ (i := 16) (N := some 3) (v := ?_) (a' := ?_) (bl 17 131071) rfl rfl (any_of HT_.out (by kernel_rfl)) (fun _ _ _ h => h) (Or.inl ⟨by rfl, ?_⟩) ?_ ?_
              rotate_left
              · intro w'
                go_simp
                with_reducible rfl
              rotate_left
              · simp only [Act.put, List.setIfInBounds_toArray, List.set_cons_zero, List.set_cons_succ, i64_w, i32_w]
                rfl
              refine done_ (done_of HT_.out (by kernel_rfl)) ?_
              try go_wp2
              go_roundg k1
              case measure => have := HK1.out; omega
              case rel => exact ⟨(y236), (wrap64 (x4_1 + 1)), (by first | rfl | (simp; done) | (simp [*]; done)), H', ⟨by have := HK1.out; omega⟩, ⟨by (with_reducible repeat (first | apply Kd.S_alloc | apply Kd.S_drewN | apply Kd.S_drew)); exact HO238.out⟩, ⟨by repeat (first | (with_reducible first | exact HB.out | apply below_alloc | apply pw_below_drewN | apply below_drew1) | exact HB.out)⟩⟩
            · rw [if_neg c7] at H
              exact absurd H (by simp)
          · rw [if_neg c6] at H
            exact absurd H (by simp)
        · rw [if_neg c5] at H
          exact absurd H (by simp)
      · rw [if_neg c4] at H
        have c4b0 : decide (x4_1 < (l0.length : Int)) = false := decide_eq_false c4
        clear c4
        obtain rfl := Option.some.inj H
        go_wp2
        go_ret
        exact ⟨_, by first | rfl | (simp [errW_none, errW_some] <;> rfl) | (simp [*, errW_none, errW_some] <;> rfl), by (with_reducible repeat (first | apply Kd.S_alloc | apply Kd.S_drewN | apply Kd.S_drew)); exact HO_3.out, by repeat (first | (with_reducible first | exact HB.out | apply below_alloc | apply pw_below_drewN | apply below_drew1) | exact HB.out)⟩
end Go.Proofs.YtamibghbkjmmeaaDoor.G
end
section
namespace Go.Proofs.YtamibghbkjmmeaaDoor.G
open Go.RowKit Go.Proofs.YtamibghbkjmmeaaDoorW.PrintWords Go.Proofs.YtamibghbkjmmeaaDoorW.PrintLast Go.Proofs.YtamibghbkjmmeaaDoorW.PrintMore
attribute [local go_sem] max2_int min2_int max_two min_two max_three min_three max_four min_four
set_option linter.unusedVariables false
set_option linter.unusedSimpArgs false
def panacheref06_Same.l0 : Nat → List (S24) → List (S24) → Int → Option (Bool)
  | 0, _, _, _ => none
  | k + 1, x0, x1, x5 => if x5 < (x0.length : Int) then (if 0 ≤ x5 then (if x5 < (x1.length : Int) then (if ((rd_T24 x0 x5).f0) = ((rd_T24 x1 x5).f0) then ((panacheref06_Ints.f k ((rd_T24 x0 x5).f1) ((rd_T24 x1 x5).f1)).bind fun t243 => (if t243 = true then (panacheref06_Same.l0 k x0 x1 (wrap64 (x5 + 1))) else (some false))) else (some false)) else (none)) else (none)) else (some true)
def panacheref06_Same.f (k : Nat) (l0 : List (S24)) (l1 : List (S24)) : Option (Bool) := if (l0.length : Int) = (l1.length : Int) then (panacheref06_Same.l0 k l0 l1 0) else (some false)
set_option maxHeartbeats 8000000 in
set_option maxRecDepth 100000 in
theorem panacheref06_Same.calls (k : Nat) (A0 : Option Addr) (c0 : Nat) (l0 : List (S24)) (A1 : Option Addr) (c1 : Nat) (l1 : List (S24)) (r : Bool) (w : World) (hr0 : Kd.C k24 w A0 l0.length l0) (hc0 : l0.length ≤ c0) (hr1 : Kd.C k24 w A1 l1.length l1) (hc1 : l1.length ≤ c1) (h : panacheref06_Same.f k l0 l1 = some r) :
    Calls Tryd.prog 19 #[.slice A0 l0.length c0, .slice A1 l1.length c1] w fun e w' => e = .returned (.bool r) ∧ Drawn0 w w' := by
  have HR0 := Aside0.mk hr0
  have HC0 := Aside0.mk hc0
  clear hr0 hc0
  have HR1 := Aside0.mk hr1
  have HC1 := Aside0.mk hc1
  clear hr1 hc1
  have H : (if (l0.length : Int) = (l1.length : Int) then (panacheref06_Same.l0 k l0 l1 0) else (some false)) = some r := h
  clear h
  by_cases c3 : (l0.length : Int) = (l1.length : Int)
  · rw [if_pos c3] at H
    have c3b0 : ((l0.length : Int) == (l1.length : Int)) = true := beq_iff_eq.mpr c3
    have c3b1 : ((l0.length : Int) != (l1.length : Int)) = false := bne_eq_false_iff_eq.mpr c3
    have c3b2 : (l0.length == l1.length) = true := by first | simpa using c3 | (simp at c3 ⊢; omega)
    clear c3
    have H' := Aside0.mk H
    clear H
    go_enter Tryd.func19, Tryd.ntmps19
    go_wp2
    repeat (go_quiet (fail); try go_wp2)
    go_loopg [5] k (fun kq v5 w' => ∃ (x5_1 : Int), v5 = .int .i64 x5_1 ∧ Aside0 (panacheref06_Same.l0 kq l0 l1 x5_1 = some r) ∧ Aside0 (kq ≤ k) ∧ Drawn0 w w')
    case atStart => exact ⟨(0), (by first | rfl | (simp; done) | (simp [*]; done)), H', ⟨Nat.le_refl _⟩, by repeat (first | exact Drawn0.refl _ | apply Drawn0.step)⟩
    case round =>
      clear H'
      try clear c1
      try clear p2
      try clear c3
      try clear c3b0
      try clear c3b1
      try clear c3b2
      obtain ⟨x5_1, rfl, HA, HK1, ⟨m1, rfl⟩⟩ := hrel
      cases gk with
      | zero => exact absurd HA.out (by simp [panacheref06_Same.l0])
      | succ k1 =>
        have H := HA.out
        clear HA
        simp only [panacheref06_Same.l0] at H
        by_cases c4 : x5_1 < (l0.length : Int)
        · rw [if_pos c4] at H
          have c4b0 : decide (x5_1 < (l0.length : Int)) = true := decide_eq_true c4
          clear c4
          by_cases c5 : 0 ≤ x5_1
          · rw [if_pos c5] at H
            have c5b0 : decide (0 ≤ x5_1) = true := decide_eq_true c5
            clear c5
            by_cases c6 : x5_1 < (l1.length : Int)
            · rw [if_pos c6] at H
              have c6b0 : decide (x5_1 < (l1.length : Int)) = true := decide_eq_true c6
              clear c6
              by_cases c7 : ((rd_T24 l0 x5_1).f0) = ((rd_T24 l1 x5_1).f0)
              · rw [if_pos c7] at H
                have c7b0 : (((rd_T24 l0 x5_1).f0) == ((rd_T24 l1 x5_1).f0)) = true := beq_iff_eq.mpr c7
                have c7b1 : (((rd_T24 l0 x5_1).f0) != ((rd_T24 l1 x5_1).f0)) = false := bne_eq_false_iff_eq.mpr c7
                clear c7
                replace H := Option.bind_eq_some_iff.mp H
                obtain ⟨t243, A80, H⟩ := H
                replace H : (if t243 = true then (panacheref06_Same.l0 k1 l0 l1 (wrap64 (x5_1 + 1))) else (some false)) = some r := H
                have A8 := Aside0.mk A80
                clear A80
                by_cases c9 : t243 = true
                · subst c9
                  have H1 : (panacheref06_Same.l0 k1 l0 l1 (wrap64 (x5_1 + 1))) = some r := by rw [if_pos rfl] at H; exact H
                  clear H
                  have H := H1
                  clear H1
                  have H' := Aside0.mk H
                  clear H
                  have p239 : 0 ≤ (x5_1 : Int) := of_decide_eq_true (by first | (with_reducible assumption) | assumption)
                  have q239 : x5_1 < (l0.length : Int) := of_decide_eq_true (by first | (with_reducible assumption) | assumption)
                  obtain ⟨ad239, A239_1, c239_1, e239, hx239_0, hx239_1, hl239_1, hi239_1⟩ := at_T24 HR0.out x5_1 p239 q239
                  cases e239
                  have HR239_1 := Aside0.mk hi239_1
                  have HC239_1 := Aside0.mk hl239_1
                  clear hi239_1 hl239_1
                  replace p239 := eq_true p239
                  replace q239 := eq_true q239
                  have p240 : 0 ≤ (x5_1 : Int) := of_decide_eq_true (by first | (with_reducible assumption) | assumption)
                  have q240 : x5_1 < (l1.length : Int) := of_decide_eq_true (by first | (with_reducible assumption) | assumption)
                  obtain ⟨ad240, A240_1, c240_1, e240, hx240_0, hx240_1, hl240_1, hi240_1⟩ := at_T24 HR1.out x5_1 p240 q240
                  cases e240
                  have HR240_1 := Aside0.mk hi240_1
                  have HC240_1 := Aside0.mk hl240_1
                  clear hi240_1 hl240_1
                  replace p240 := eq_true p240
                  replace q240 := eq_true q240
                  have p241 : 0 ≤ (x5_1 : Int) := of_decide_eq_true (by first | (with_reducible assumption) | assumption)
                  have q241 : x5_1 < (l0.length : Int) := of_decide_eq_true (by first | (with_reducible assumption) | assumption)
                  obtain ⟨ad241, A241_1, c241_1, e241, hx241_0, hx241_1, hl241_1, hi241_1⟩ := at_T24 HR0.out x5_1 p241 q241
                  obtain rfl : ad239 = ad241 := (by injection e241)
                  have HR241_1 := Aside0.mk hi241_1
                  have HC241_1 := Aside0.mk hl241_1
                  clear hi241_1 hl241_1
                  replace p241 := eq_true p241
                  replace q241 := eq_true q241
                  have ea_ := Option.some.inj (hx239_1.symm.trans hx241_1)
                  injection ea_ with ea_ en_ ec_
                  subst ea_
                  subst ec_
                  clear en_
                  have p242 : 0 ≤ (x5_1 : Int) := of_decide_eq_true (by first | (with_reducible assumption) | assumption)
                  have q242 : x5_1 < (l1.length : Int) := of_decide_eq_true (by first | (with_reducible assumption) | assumption)
                  obtain ⟨ad242, A242_1, c242_1, e242, hx242_0, hx242_1, hl242_1, hi242_1⟩ := at_T24 HR1.out x5_1 p242 q242
                  obtain rfl : ad240 = ad242 := (by injection e242)
                  have HR242_1 := Aside0.mk hi242_1
                  have HC242_1 := Aside0.mk hl242_1
                  clear hi242_1 hl242_1
                  replace p242 := eq_true p242
                  replace q242 := eq_true q242
                  have ea_ := Option.some.inj (hx240_1.symm.trans hx242_1)
                  injection ea_ with ea_ en_ ec_
                  subst ea_
                  subst ec_
                  clear en_
                  go_wp2_with (first | (go_at_call 37; (with_reducible refine (panacheref06_Ints.calls k1 _ _ ((rd_T24 l0 x5_1).f1) _ _ ((rd_T24 l1 x5_1).f1) true _ ?side1 ?side2 ?side3 ?side4 A8.out).mono ?_); (case side1 => repeat (first | exact HR241_1.out | (with_reducible refine Kd.C_alloc ?_ _) | (with_reducible refine Kd.C_drewN ?_ _) | (with_reducible refine Kd.C_drew ?_))); (case side2 => exact HC241_1.out); (case side3 => repeat (first | exact HR242_1.out | (with_reducible refine Kd.C_alloc ?_ _) | (with_reducible refine Kd.C_drewN ?_ _) | (with_reducible refine Kd.C_drew ?_))); (case side4 => exact HC242_1.out); rintro e w' ⟨rfl, ⟨nd, rfl⟩⟩; (try first | exact ⟨rfl, _, World.drewN_drewN _ _ _⟩ | exact ⟨rfl, _, Eq.trans (World.drewN_drewN _ _ _) (congrArg (World.drewN _) (Nat.add_assoc _ _ _))⟩)))
                  repeat (go_quiet (first | (go_at_call 37; (with_reducible refine (panacheref06_Ints.calls k1 _ _ ((rd_T24 l0 x5_1).f1) _ _ ((rd_T24 l1 x5_1).f1) true _ ?side1 ?side2 ?side3 ?side4 A8.out).mono ?_); (case side1 => repeat (first | exact HR241_1.out | (with_reducible refine Kd.C_alloc ?_ _) | (with_reducible refine Kd.C_drewN ?_ _) | (with_reducible refine Kd.C_drew ?_))); (case side2 => exact HC241_1.out); (case side3 => repeat (first | exact HR242_1.out | (with_reducible refine Kd.C_alloc ?_ _) | (with_reducible refine Kd.C_drewN ?_ _) | (with_reducible refine Kd.C_drew ?_))); (case side4 => exact HC242_1.out); rintro e w' ⟨rfl, ⟨nd, rfl⟩⟩; (try first | exact ⟨rfl, _, World.drewN_drewN _ _ _⟩ | exact ⟨rfl, _, Eq.trans (World.drewN_drewN _ _ _) (congrArg (World.drewN _) (Nat.add_assoc _ _ _))⟩))); try go_wp2_with (first | (go_at_call 37; (with_reducible refine (panacheref06_Ints.calls k1 _ _ ((rd_T24 l0 x5_1).f1) _ _ ((rd_T24 l1 x5_1).f1) true _ ?side1 ?side2 ?side3 ?side4 A8.out).mono ?_); (case side1 => repeat (first | exact HR241_1.out | (with_reducible refine Kd.C_alloc ?_ _) | (with_reducible refine Kd.C_drewN ?_ _) | (with_reducible refine Kd.C_drew ?_))); (case side2 => exact HC241_1.out); (case side3 => repeat (first | exact HR242_1.out | (with_reducible refine Kd.C_alloc ?_ _) | (with_reducible refine Kd.C_drewN ?_ _) | (with_reducible refine Kd.C_drew ?_))); (case side4 => exact HC242_1.out); rintro e w' ⟨rfl, ⟨nd, rfl⟩⟩; (try first | exact ⟨rfl, _, World.drewN_drewN _ _ _⟩ | exact ⟨rfl, _, Eq.trans (World.drewN_drewN _ _ _) (congrArg (World.drewN _) (Nat.add_assoc _ _ _))⟩))))
                  go_roundg k1
                  case measure => have := HK1.out; omega
                  case rel => exact ⟨(wrap64 (x5_1 + 1)), (by first | rfl | (simp; done) | (simp [*]; done)), H', ⟨by have := HK1.out; omega⟩, by repeat (first | exact Drawn0.refl _ | apply Drawn0.step)⟩
                · replace c9 := Bool.eq_false_iff.mpr c9
                  subst c9
                  have H1 : (some false) = some r := by rw [if_neg (show ¬ (false = true) by decide)] at H; exact H
                  clear H
                  have H := H1
                  clear H1
                  obtain rfl := Option.some.inj H
                  have p239 : 0 ≤ (x5_1 : Int) := of_decide_eq_true (by first | (with_reducible assumption) | assumption)
                  have q239 : x5_1 < (l0.length : Int) := of_decide_eq_true (by first | (with_reducible assumption) | assumption)
                  obtain ⟨ad239, A239_1, c239_1, e239, hx239_0, hx239_1, hl239_1, hi239_1⟩ := at_T24 HR0.out x5_1 p239 q239
                  cases e239
                  have HR239_1 := Aside0.mk hi239_1
                  have HC239_1 := Aside0.mk hl239_1
                  clear hi239_1 hl239_1
                  replace p239 := eq_true p239
                  replace q239 := eq_true q239
                  have p240 : 0 ≤ (x5_1 : Int) := of_decide_eq_true (by first | (with_reducible assumption) | assumption)
                  have q240 : x5_1 < (l1.length : Int) := of_decide_eq_true (by first | (with_reducible assumption) | assumption)
                  obtain ⟨ad240, A240_1, c240_1, e240, hx240_0, hx240_1, hl240_1, hi240_1⟩ := at_T24 HR1.out x5_1 p240 q240
                  cases e240
                  have HR240_1 := Aside0.mk hi240_1
                  have HC240_1 := Aside0.mk hl240_1
                  clear hi240_1 hl240_1
                  replace p240 := eq_true p240
                  replace q240 := eq_true q240
                  have p241 : 0 ≤ (x5_1 : Int) := of_decide_eq_true (by first | (with_reducible assumption) | assumption)
                  have q241 : x5_1 < (l0.length : Int) := of_decide_eq_true (by first | (with_reducible assumption) | assumption)
                  obtain ⟨ad241, A241_1, c241_1, e241, hx241_0, hx241_1, hl241_1, hi241_1⟩ := at_T24 HR0.out x5_1 p241 q241
                  obtain rfl : ad239 = ad241 := (by injection e241)
                  have HR241_1 := Aside0.mk hi241_1
                  have HC241_1 := Aside0.mk hl241_1
                  clear hi241_1 hl241_1
                  replace p241 := eq_true p241
                  replace q241 := eq_true q241
                  have ea_ := Option.some.inj (hx239_1.symm.trans hx241_1)
                  injection ea_ with ea_ en_ ec_
                  subst ea_
                  subst ec_
                  clear en_
                  have p242 : 0 ≤ (x5_1 : Int) := of_decide_eq_true (by first | (with_reducible assumption) | assumption)
                  have q242 : x5_1 < (l1.length : Int) := of_decide_eq_true (by first | (with_reducible assumption) | assumption)
                  obtain ⟨ad242, A242_1, c242_1, e242, hx242_0, hx242_1, hl242_1, hi242_1⟩ := at_T24 HR1.out x5_1 p242 q242
                  obtain rfl : ad240 = ad242 := (by injection e242)
                  have HR242_1 := Aside0.mk hi242_1
                  have HC242_1 := Aside0.mk hl242_1
                  clear hi242_1 hl242_1
                  replace p242 := eq_true p242
                  replace q242 := eq_true q242
                  have ea_ := Option.some.inj (hx240_1.symm.trans hx242_1)
                  injection ea_ with ea_ en_ ec_
                  subst ea_
                  subst ec_
                  clear en_
                  go_wp2_with (first | (go_at_call 37; (with_reducible refine (panacheref06_Ints.calls k1 _ _ ((rd_T24 l0 x5_1).f1) _ _ ((rd_T24 l1 x5_1).f1) false _ ?side1 ?side2 ?side3 ?side4 A8.out).mono ?_); (case side1 => repeat (first | exact HR241_1.out | (with_reducible refine Kd.C_alloc ?_ _) | (with_reducible refine Kd.C_drewN ?_ _) | (with_reducible refine Kd.C_drew ?_))); (case side2 => exact HC241_1.out); (case side3 => repeat (first | exact HR242_1.out | (with_reducible refine Kd.C_alloc ?_ _) | (with_reducible refine Kd.C_drewN ?_ _) | (with_reducible refine Kd.C_drew ?_))); (case side4 => exact HC242_1.out); rintro e w' ⟨rfl, ⟨nd, rfl⟩⟩; (try first | exact ⟨rfl, _, World.drewN_drewN _ _ _⟩ | exact ⟨rfl, _, Eq.trans (World.drewN_drewN _ _ _) (congrArg (World.drewN _) (Nat.add_assoc _ _ _))⟩)))
                  repeat (go_quiet (first | (go_at_call 37; (with_reducible refine (panacheref06_Ints.calls k1 _ _ ((rd_T24 l0 x5_1).f1) _ _ ((rd_T24 l1 x5_1).f1) false _ ?side1 ?side2 ?side3 ?side4 A8.out).mono ?_); (case side1 => repeat (first | exact HR241_1.out | (with_reducible refine Kd.C_alloc ?_ _) | (with_reducible refine Kd.C_drewN ?_ _) | (with_reducible refine Kd.C_drew ?_))); (case side2 => exact HC241_1.out); (case side3 => repeat (first | exact HR242_1.out | (with_reducible refine Kd.C_alloc ?_ _) | (with_reducible refine Kd.C_drewN ?_ _) | (with_reducible refine Kd.C_drew ?_))); (case side4 => exact HC242_1.out); rintro e w' ⟨rfl, ⟨nd, rfl⟩⟩; (try first | exact ⟨rfl, _, World.drewN_drewN _ _ _⟩ | exact ⟨rfl, _, Eq.trans (World.drewN_drewN _ _ _) (congrArg (World.drewN _) (Nat.add_assoc _ _ _))⟩))); try go_wp2_with (first | (go_at_call 37; (with_reducible refine (panacheref06_Ints.calls k1 _ _ ((rd_T24 l0 x5_1).f1) _ _ ((rd_T24 l1 x5_1).f1) false _ ?side1 ?side2 ?side3 ?side4 A8.out).mono ?_); (case side1 => repeat (first | exact HR241_1.out | (with_reducible refine Kd.C_alloc ?_ _) | (with_reducible refine Kd.C_drewN ?_ _) | (with_reducible refine Kd.C_drew ?_))); (case side2 => exact HC241_1.out); (case side3 => repeat (first | exact HR242_1.out | (with_reducible refine Kd.C_alloc ?_ _) | (with_reducible refine Kd.C_drewN ?_ _) | (with_reducible refine Kd.C_drew ?_))); (case side4 => exact HC242_1.out); rintro e w' ⟨rfl, ⟨nd, rfl⟩⟩; (try first | exact ⟨rfl, _, World.drewN_drewN _ _ _⟩ | exact ⟨rfl, _, Eq.trans (World.drewN_drewN _ _ _) (congrArg (World.drewN _) (Nat.add_assoc _ _ _))⟩))))
                  go_ret
                  exact ⟨by first | rfl | (simp; done) | (simp [*]; done), by repeat (first | exact Drawn0.refl _ | apply Drawn0.step)⟩
              · rw [if_neg c7] at H
                have c7b0 : (((rd_T24 l0 x5_1).f0) == ((rd_T24 l1 x5_1).f0)) = false := beq_eq_false_iff_ne.mpr c7
                have c7b1 : (((rd_T24 l0 x5_1).f0) != ((rd_T24 l1 x5_1).f0)) = true := bne_iff_ne.mpr c7
                obtain rfl := Option.some.inj H
                have p239 : 0 ≤ (x5_1 : Int) := of_decide_eq_true (by first | (with_reducible assumption) | assumption)
                have q239 : x5_1 < (l0.length : Int) := of_decide_eq_true (by first | (with_reducible assumption) | assumption)
                obtain ⟨ad239, A239_1, c239_1, e239, hx239_0, hx239_1, hl239_1, hi239_1⟩ := at_T24 HR0.out x5_1 p239 q239
                cases e239
                have HR239_1 := Aside0.mk hi239_1
                have HC239_1 := Aside0.mk hl239_1
                clear hi239_1 hl239_1
                replace p239 := eq_true p239
                replace q239 := eq_true q239
                have p240 : 0 ≤ (x5_1 : Int) := of_decide_eq_true (by first | (with_reducible assumption) | assumption)
                have q240 : x5_1 < (l1.length : Int) := of_decide_eq_true (by first | (with_reducible assumption) | assumption)
                obtain ⟨ad240, A240_1, c240_1, e240, hx240_0, hx240_1, hl240_1, hi240_1⟩ := at_T24 HR1.out x5_1 p240 q240
                cases e240
                have HR240_1 := Aside0.mk hi240_1
                have HC240_1 := Aside0.mk hl240_1
                clear hi240_1 hl240_1
                replace p240 := eq_true p240
                replace q240 := eq_true q240
                go_wp2
                repeat (go_quiet (fail); try go_wp2)
                go_ret
                exact ⟨by first | rfl | (simp; done) | (simp [*]; done), by repeat (first | exact Drawn0.refl _ | apply Drawn0.step)⟩
            · rw [if_neg c6] at H
              exact absurd H (by simp)
          · rw [if_neg c5] at H
            exact absurd H (by simp)
        · rw [if_neg c4] at H
          have c4b0 : decide (x5_1 < (l0.length : Int)) = false := decide_eq_false c4
          clear c4
          obtain rfl := Option.some.inj H
          go_wp2
          repeat (go_quiet (fail); try go_wp2)
          go_ret
          exact ⟨by first | rfl | (simp; done) | (simp [*]; done), by repeat (first | exact Drawn0.refl _ | apply Drawn0.step)⟩
  · rw [if_neg c3] at H
    have c3b0 : ((l0.length : Int) == (l1.length : Int)) = false := beq_eq_false_iff_ne.mpr c3
    have c3b1 : ((l0.length : Int) != (l1.length : Int)) = true := bne_iff_ne.mpr c3
    have c3b2 : (l0.length == l1.length) = false := by first | simpa using c3 | (simp at c3 ⊢; omega)
    obtain rfl := Option.some.inj H
    go_enter Tryd.func19, Tryd.ntmps19
    go_wp2
    repeat (go_quiet (fail); try go_wp2)
    go_ret
    exact ⟨by first | rfl | (simp; done) | (simp [*]; done), by repeat (first | exact Drawn0.refl _ | apply Drawn0.step)⟩
end Go.Proofs.YtamibghbkjmmeaaDoor.G
end
section
namespace Go.Proofs.YtamibghbkjmmeaaDoor.G
open Go.RowKit Go.Proofs.YtamibghbkjmmeaaDoorW.PrintWords Go.Proofs.YtamibghbkjmmeaaDoorW.PrintLast Go.Proofs.YtamibghbkjmmeaaDoorW.PrintMore
attribute [local go_sem] max2_int min2_int max_two min_two max_three min_three max_four min_four
set_option linter.unusedVariables false
set_option linter.unusedSimpArgs false
def panacheref06_In.f (a0 : Int) (a1 : Int) (a2 : Int) : Option (Bool) := if a0 ≥ a1 then (some (decide (a0 ≤ a2))) else (some false)
set_option maxHeartbeats 8000000 in
set_option maxRecDepth 100000 in
theorem panacheref06_In.calls (a0 : Int) (a1 : Int) (a2 : Int) (r : Bool) (w : World) (h : panacheref06_In.f a0 a1 a2 = some r) :
    Calls Tryd.prog 64 #[.int .i64 a0, .int .i64 a1, .int .i64 a2] w fun e w' => e = .returned (.bool r) ∧ Drawn0 w w' := by
  have H : (if a0 ≥ a1 then (some (decide (a0 ≤ a2))) else (some false)) = some r := h
  clear h
  by_cases c4 : a0 ≥ a1
  · rw [if_pos c4] at H
    have c4b0 : decide (a1 ≤ a0) = true := decide_eq_true c4
    clear c4
    obtain rfl := Option.some.inj H
    go_enter Tryd.func64, Tryd.ntmps64
    go_wp2
    go_ret
    exact ⟨by first | rfl | (simp; done) | (simp [*]; done), by repeat (first | exact Drawn0.refl _ | apply Drawn0.step)⟩
  · rw [if_neg c4] at H
    have c4b0 : decide (a1 ≤ a0) = false := decide_eq_false c4
    clear c4
    obtain rfl := Option.some.inj H
    go_enter Tryd.func64, Tryd.ntmps64
    go_wp2
    go_ret
    exact ⟨by first | rfl | (simp; done) | (simp [*]; done), by repeat (first | exact Drawn0.refl _ | apply Drawn0.step)⟩
end Go.Proofs.YtamibghbkjmmeaaDoor.G
end
section
namespace Go.Proofs.YtamibghbkjmmeaaDoor.G
open Go.RowKit Go.Proofs.YtamibghbkjmmeaaDoorW.PrintWords Go.Proofs.YtamibghbkjmmeaaDoorW.PrintLast Go.Proofs.YtamibghbkjmmeaaDoorW.PrintMore
attribute [local go_sem] max2_int min2_int max_two min_two max_three min_three max_four min_four
set_option linter.unusedVariables false
set_option linter.unusedSimpArgs false
mutual
def panacheref06_Form.l0 : Nat → List (S24) → Int → Option (Int)
  | 0, _, _ => none
  | k + 1, x0, x3 => if x3 < (x0.length : Int) then (if 0 ≤ x3 then ((panacheref06_In.f (((rd_T24 x0 x3).f1).length : Int) 1 4).bind fun t245 => (if t245 = true then (if 0 < (x0.length : Int) then (if (((rd_T24 x0 x3).f1).length : Int) = (((rd_T24 x0 0).f1).length : Int) then (panacheref06_Form.l0 k x0 (wrap64 (x3 + 1))) else (some 4)) else (none)) else (some 4))) else (none)) else (panacheref06_Form.l1 k x0 0)
def panacheref06_Form.l1 : Nat → List (S24) → Int → Option (Int)
  | 0, _, _ => none
  | k + 1, x0, x4 => if x4 < (x0.length : Int) then (if 0 ≤ x4 then ((panacheref06_In.f ((rd_T24 x0 x4).f0) 1 10000).bind fun t249 => (if t249 = true then (panacheref06_Form.l2 k x0 x4 0) else (some 2))) else (none)) else (some 0)
def panacheref06_Form.l2 : Nat → List (S24) → Int → Int → Option (Int)
  | 0, _, _, _ => none
  | k + 1, x0, x4, x5 => if 0 ≤ x4 then (if x4 < (x0.length : Int) then (if x5 < (((rd_T24 x0 x4).f1).length : Int) then (if 0 ≤ x5 then ((panacheref06_In.f (rd ((rd_T24 x0 x4).f1) x5) 0 500).bind fun t253 => (if t253 = true then (panacheref06_Form.l2 k x0 x4 (wrap64 (x5 + 1))) else (some 2))) else (none)) else (panacheref06_Form.l1 k x0 (wrap64 (x4 + 1)))) else (none)) else (none)
end
def panacheref06_Form.f (k : Nat) (l0 : List (S24)) : Option (Int) := panacheref06_Form.l0 k l0 0
set_option maxHeartbeats 8000000 in
set_option maxRecDepth 100000 in
theorem panacheref06_Form.calls (k : Nat) (A0 : Option Addr) (c0 : Nat) (l0 : List (S24)) (r : Int) (w : World) (hr0 : Kd.C k24 w A0 l0.length l0) (hc0 : l0.length ≤ c0) (h : panacheref06_Form.f k l0 = some r) :
    Calls Tryd.prog 20 #[.slice A0 l0.length c0] w fun e w' => e = .returned (.int .i64 r) ∧ Drawn0 w w' := by
  have HR0 := Aside0.mk hr0
  have HC0 := Aside0.mk hc0
  clear hr0 hc0
  have H : (panacheref06_Form.l0 k l0 0) = some r := h
  clear h
  have H' := Aside0.mk H
  clear H
  go_enter Tryd.func20, Tryd.ntmps20
  go_wp2
  repeat (go_quiet (fail); try go_wp2)
  go_loopg [3] k (fun kq v3 w' => ∃ (x3_1 : Int), v3 = .int .i64 x3_1 ∧ Aside0 (panacheref06_Form.l0 kq l0 x3_1 = some r) ∧ Aside0 (kq ≤ k) ∧ Drawn0 w w')
  case atStart => exact ⟨(0), (by first | rfl | (simp; done) | (simp [*]; done)), H', ⟨Nat.le_refl _⟩, by repeat (first | exact Drawn0.refl _ | apply Drawn0.step)⟩
  case round =>
    clear H'
    obtain ⟨x3_1, rfl, HA, HK1, ⟨m1, rfl⟩⟩ := hrel
    cases gk with
    | zero => exact absurd HA.out (by simp [panacheref06_Form.l0])
    | succ k1 =>
      have H := HA.out
      clear HA
      simp only [panacheref06_Form.l0] at H
      by_cases c2 : x3_1 < (l0.length : Int)
      · rw [if_pos c2] at H
        have c2b0 : decide (x3_1 < (l0.length : Int)) = true := decide_eq_true c2
        clear c2
        by_cases c3 : 0 ≤ x3_1
        · rw [if_pos c3] at H
          have c3b0 : decide (0 ≤ x3_1) = true := decide_eq_true c3
          clear c3
          replace H := Option.bind_eq_some_iff.mp H
          obtain ⟨t245, A40, H⟩ := H
          replace H : (if t245 = true then (if 0 < (l0.length : Int) then (if (((rd_T24 l0 x3_1).f1).length : Int) = (((rd_T24 l0 0).f1).length : Int) then (panacheref06_Form.l0 k1 l0 (wrap64 (x3_1 + 1))) else (some 4)) else (none)) else (some 4)) = some r := H
          have A4 := Aside0.mk A40
          clear A40
          by_cases c5 : t245 = true
          · subst c5
            have H1 : (if 0 < (l0.length : Int) then (if (((rd_T24 l0 x3_1).f1).length : Int) = (((rd_T24 l0 0).f1).length : Int) then (panacheref06_Form.l0 k1 l0 (wrap64 (x3_1 + 1))) else (some 4)) else (none)) = some r := by rw [if_pos rfl] at H; exact H
            clear H
            have H := H1
            clear H1
            by_cases c6 : 0 < (l0.length : Int)
            · rw [if_pos c6] at H
              have c6b0 : decide (0 < (l0.length : Int)) = true := decide_eq_true c6
              have c6b1 : decide (0 < l0.length) = true := decide_eq_true (by omega)
              clear c6
              by_cases c7 : (((rd_T24 l0 x3_1).f1).length : Int) = (((rd_T24 l0 0).f1).length : Int)
              · rw [if_pos c7] at H
                have c7b0 : ((((rd_T24 l0 x3_1).f1).length : Int) == (((rd_T24 l0 0).f1).length : Int)) = true := beq_iff_eq.mpr c7
                have c7b1 : ((((rd_T24 l0 x3_1).f1).length : Int) != (((rd_T24 l0 0).f1).length : Int)) = false := bne_eq_false_iff_eq.mpr c7
                have c7b2 : (((rd_T24 l0 x3_1).f1).length == ((rd_T24 l0 0).f1).length) = true := by first | simpa using c7 | (simp at c7 ⊢; omega)
                clear c7
                have H' := Aside0.mk H
                clear H
                have p244 : 0 ≤ (x3_1 : Int) := of_decide_eq_true (by first | (with_reducible assumption) | assumption)
                have q244 : x3_1 < (l0.length : Int) := of_decide_eq_true (by first | (with_reducible assumption) | assumption)
                obtain ⟨ad244, A244_1, c244_1, e244, hx244_0, hx244_1, hl244_1, hi244_1⟩ := at_T24 HR0.out x3_1 p244 q244
                cases e244
                have HR244_1 := Aside0.mk hi244_1
                have HC244_1 := Aside0.mk hl244_1
                clear hi244_1 hl244_1
                replace p244 := eq_true p244
                replace q244 := eq_true q244
                go_wp2_with (first | (go_at_call 64; (with_reducible refine (panacheref06_In.calls (((rd_T24 l0 x3_1).f1).length : Int) 1 4 true _ A4.out).mono ?_); rintro e w' ⟨rfl, ⟨nd, rfl⟩⟩; (try first | exact ⟨rfl, _, World.drewN_drewN _ _ _⟩ | exact ⟨rfl, _, Eq.trans (World.drewN_drewN _ _ _) (congrArg (World.drewN _) (Nat.add_assoc _ _ _))⟩); have p246 : 0 ≤ (x3_1 : Int) := of_decide_eq_true (by first | (with_reducible assumption) | assumption); have q246 : x3_1 < (l0.length : Int) := of_decide_eq_true (by first | (with_reducible assumption) | assumption); obtain ⟨ad246, A246_1, c246_1, e246, hx246_0, hx246_1, hl246_1, hi246_1⟩ := at_T24 HR0.out x3_1 p246 q246; obtain rfl : ad244 = ad246 := (by injection e246); have HR246_1 := Aside0.mk hi246_1; have HC246_1 := Aside0.mk hl246_1; clear hi246_1 hl246_1; replace p246 := eq_true p246; replace q246 := eq_true q246; have ea_ := Option.some.inj (hx244_1.symm.trans hx246_1); injection ea_ with ea_ en_ ec_; subst ea_; subst ec_; clear en_; have p247 : 0 ≤ (0 : Int) := (by omega); have q247 : 0 < (l0.length : Int) := of_decide_eq_true (by first | (with_reducible assumption) | assumption); obtain ⟨ad247, A247_1, c247_1, e247, hx247_0, hx247_1, hl247_1, hi247_1⟩ := at_T24 HR0.out 0 p247 q247; obtain rfl : ad244 = ad247 := (by injection e247); have qi247 : (0 < l0.length) = True := eq_true (by omega); (try rw [show ((0 : Int)).toNat = 0 from rfl] at hx247_0); (try rw [show 0 * 2 = 0 from rfl] at hx247_0); (try rw [Addr.add_zero'] at hx247_0); (try rw [show ((0 : Int)).toNat = 0 from rfl] at hx247_1); (try rw [show 0 * 2 = 0 from rfl] at hx247_1); (try rw [Addr.add_zero'] at hx247_1); have HR247_1 := Aside0.mk hi247_1; have HC247_1 := Aside0.mk hl247_1; clear hi247_1 hl247_1; replace p247 := eq_true p247; replace q247 := eq_true q247))
                repeat (go_quiet (first | (go_at_call 64; (with_reducible refine (panacheref06_In.calls (((rd_T24 l0 x3_1).f1).length : Int) 1 4 true _ A4.out).mono ?_); rintro e w' ⟨rfl, ⟨nd, rfl⟩⟩; (try first | exact ⟨rfl, _, World.drewN_drewN _ _ _⟩ | exact ⟨rfl, _, Eq.trans (World.drewN_drewN _ _ _) (congrArg (World.drewN _) (Nat.add_assoc _ _ _))⟩); have p246 : 0 ≤ (x3_1 : Int) := of_decide_eq_true (by first | (with_reducible assumption) | assumption); have q246 : x3_1 < (l0.length : Int) := of_decide_eq_true (by first | (with_reducible assumption) | assumption); obtain ⟨ad246, A246_1, c246_1, e246, hx246_0, hx246_1, hl246_1, hi246_1⟩ := at_T24 HR0.out x3_1 p246 q246; obtain rfl : ad244 = ad246 := (by injection e246); have HR246_1 := Aside0.mk hi246_1; have HC246_1 := Aside0.mk hl246_1; clear hi246_1 hl246_1; replace p246 := eq_true p246; replace q246 := eq_true q246; have ea_ := Option.some.inj (hx244_1.symm.trans hx246_1); injection ea_ with ea_ en_ ec_; subst ea_; subst ec_; clear en_; have p247 : 0 ≤ (0 : Int) := (by omega); have q247 : 0 < (l0.length : Int) := of_decide_eq_true (by first | (with_reducible assumption) | assumption); obtain ⟨ad247, A247_1, c247_1, e247, hx247_0, hx247_1, hl247_1, hi247_1⟩ := at_T24 HR0.out 0 p247 q247; obtain rfl : ad244 = ad247 := (by injection e247); have qi247 : (0 < l0.length) = True := eq_true (by omega); (try rw [show ((0 : Int)).toNat = 0 from rfl] at hx247_0); (try rw [show 0 * 2 = 0 from rfl] at hx247_0); (try rw [Addr.add_zero'] at hx247_0); (try rw [show ((0 : Int)).toNat = 0 from rfl] at hx247_1); (try rw [show 0 * 2 = 0 from rfl] at hx247_1); (try rw [Addr.add_zero'] at hx247_1); have HR247_1 := Aside0.mk hi247_1; have HC247_1 := Aside0.mk hl247_1; clear hi247_1 hl247_1; replace p247 := eq_true p247; replace q247 := eq_true q247)); try go_wp2_with (first | (go_at_call 64; (with_reducible refine (panacheref06_In.calls (((rd_T24 l0 x3_1).f1).length : Int) 1 4 true _ A4.out).mono ?_); rintro e w' ⟨rfl, ⟨nd, rfl⟩⟩; (try first | exact ⟨rfl, _, World.drewN_drewN _ _ _⟩ | exact ⟨rfl, _, Eq.trans (World.drewN_drewN _ _ _) (congrArg (World.drewN _) (Nat.add_assoc _ _ _))⟩); have p246 : 0 ≤ (x3_1 : Int) := of_decide_eq_true (by first | (with_reducible assumption) | assumption); have q246 : x3_1 < (l0.length : Int) := of_decide_eq_true (by first | (with_reducible assumption) | assumption); obtain ⟨ad246, A246_1, c246_1, e246, hx246_0, hx246_1, hl246_1, hi246_1⟩ := at_T24 HR0.out x3_1 p246 q246; obtain rfl : ad244 = ad246 := (by injection e246); have HR246_1 := Aside0.mk hi246_1; have HC246_1 := Aside0.mk hl246_1; clear hi246_1 hl246_1; replace p246 := eq_true p246; replace q246 := eq_true q246; have ea_ := Option.some.inj (hx244_1.symm.trans hx246_1); injection ea_ with ea_ en_ ec_; subst ea_; subst ec_; clear en_; have p247 : 0 ≤ (0 : Int) := (by omega); have q247 : 0 < (l0.length : Int) := of_decide_eq_true (by first | (with_reducible assumption) | assumption); obtain ⟨ad247, A247_1, c247_1, e247, hx247_0, hx247_1, hl247_1, hi247_1⟩ := at_T24 HR0.out 0 p247 q247; obtain rfl : ad244 = ad247 := (by injection e247); have qi247 : (0 < l0.length) = True := eq_true (by omega); (try rw [show ((0 : Int)).toNat = 0 from rfl] at hx247_0); (try rw [show 0 * 2 = 0 from rfl] at hx247_0); (try rw [Addr.add_zero'] at hx247_0); (try rw [show ((0 : Int)).toNat = 0 from rfl] at hx247_1); (try rw [show 0 * 2 = 0 from rfl] at hx247_1); (try rw [Addr.add_zero'] at hx247_1); have HR247_1 := Aside0.mk hi247_1; have HC247_1 := Aside0.mk hl247_1; clear hi247_1 hl247_1; replace p247 := eq_true p247; replace q247 := eq_true q247)))
                go_roundg k1
                case measure => have := HK1.out; omega
                case rel => exact ⟨(wrap64 (x3_1 + 1)), (by first | rfl | (simp; done) | (simp [*]; done)), H', ⟨by have := HK1.out; omega⟩, by repeat (first | exact Drawn0.refl _ | apply Drawn0.step)⟩
              · rw [if_neg c7] at H
                have c7b0 : ((((rd_T24 l0 x3_1).f1).length : Int) == (((rd_T24 l0 0).f1).length : Int)) = false := beq_eq_false_iff_ne.mpr c7
                have c7b1 : ((((rd_T24 l0 x3_1).f1).length : Int) != (((rd_T24 l0 0).f1).length : Int)) = true := bne_iff_ne.mpr c7
                have c7b2 : (((rd_T24 l0 x3_1).f1).length == ((rd_T24 l0 0).f1).length) = false := by first | simpa using c7 | (simp at c7 ⊢; omega)
                obtain rfl := Option.some.inj H
                have p244 : 0 ≤ (x3_1 : Int) := of_decide_eq_true (by first | (with_reducible assumption) | assumption)
                have q244 : x3_1 < (l0.length : Int) := of_decide_eq_true (by first | (with_reducible assumption) | assumption)
                obtain ⟨ad244, A244_1, c244_1, e244, hx244_0, hx244_1, hl244_1, hi244_1⟩ := at_T24 HR0.out x3_1 p244 q244
                cases e244
                have HR244_1 := Aside0.mk hi244_1
                have HC244_1 := Aside0.mk hl244_1
                clear hi244_1 hl244_1
                replace p244 := eq_true p244
                replace q244 := eq_true q244
                go_wp2_with (first | (go_at_call 64; (with_reducible refine (panacheref06_In.calls (((rd_T24 l0 x3_1).f1).length : Int) 1 4 true _ A4.out).mono ?_); rintro e w' ⟨rfl, ⟨nd, rfl⟩⟩; (try first | exact ⟨rfl, _, World.drewN_drewN _ _ _⟩ | exact ⟨rfl, _, Eq.trans (World.drewN_drewN _ _ _) (congrArg (World.drewN _) (Nat.add_assoc _ _ _))⟩); have p246 : 0 ≤ (x3_1 : Int) := of_decide_eq_true (by first | (with_reducible assumption) | assumption); have q246 : x3_1 < (l0.length : Int) := of_decide_eq_true (by first | (with_reducible assumption) | assumption); obtain ⟨ad246, A246_1, c246_1, e246, hx246_0, hx246_1, hl246_1, hi246_1⟩ := at_T24 HR0.out x3_1 p246 q246; obtain rfl : ad244 = ad246 := (by injection e246); have HR246_1 := Aside0.mk hi246_1; have HC246_1 := Aside0.mk hl246_1; clear hi246_1 hl246_1; replace p246 := eq_true p246; replace q246 := eq_true q246; have ea_ := Option.some.inj (hx244_1.symm.trans hx246_1); injection ea_ with ea_ en_ ec_; subst ea_; subst ec_; clear en_; have p247 : 0 ≤ (0 : Int) := (by omega); have q247 : 0 < (l0.length : Int) := of_decide_eq_true (by first | (with_reducible assumption) | assumption); obtain ⟨ad247, A247_1, c247_1, e247, hx247_0, hx247_1, hl247_1, hi247_1⟩ := at_T24 HR0.out 0 p247 q247; obtain rfl : ad244 = ad247 := (by injection e247); have qi247 : (0 < l0.length) = True := eq_true (by omega); (try rw [show ((0 : Int)).toNat = 0 from rfl] at hx247_0); (try rw [show 0 * 2 = 0 from rfl] at hx247_0); (try rw [Addr.add_zero'] at hx247_0); (try rw [show ((0 : Int)).toNat = 0 from rfl] at hx247_1); (try rw [show 0 * 2 = 0 from rfl] at hx247_1); (try rw [Addr.add_zero'] at hx247_1); have HR247_1 := Aside0.mk hi247_1; have HC247_1 := Aside0.mk hl247_1; clear hi247_1 hl247_1; replace p247 := eq_true p247; replace q247 := eq_true q247))
                repeat (go_quiet (first | (go_at_call 64; (with_reducible refine (panacheref06_In.calls (((rd_T24 l0 x3_1).f1).length : Int) 1 4 true _ A4.out).mono ?_); rintro e w' ⟨rfl, ⟨nd, rfl⟩⟩; (try first | exact ⟨rfl, _, World.drewN_drewN _ _ _⟩ | exact ⟨rfl, _, Eq.trans (World.drewN_drewN _ _ _) (congrArg (World.drewN _) (Nat.add_assoc _ _ _))⟩); have p246 : 0 ≤ (x3_1 : Int) := of_decide_eq_true (by first | (with_reducible assumption) | assumption); have q246 : x3_1 < (l0.length : Int) := of_decide_eq_true (by first | (with_reducible assumption) | assumption); obtain ⟨ad246, A246_1, c246_1, e246, hx246_0, hx246_1, hl246_1, hi246_1⟩ := at_T24 HR0.out x3_1 p246 q246; obtain rfl : ad244 = ad246 := (by injection e246); have HR246_1 := Aside0.mk hi246_1; have HC246_1 := Aside0.mk hl246_1; clear hi246_1 hl246_1; replace p246 := eq_true p246; replace q246 := eq_true q246; have ea_ := Option.some.inj (hx244_1.symm.trans hx246_1); injection ea_ with ea_ en_ ec_; subst ea_; subst ec_; clear en_; have p247 : 0 ≤ (0 : Int) := (by omega); have q247 : 0 < (l0.length : Int) := of_decide_eq_true (by first | (with_reducible assumption) | assumption); obtain ⟨ad247, A247_1, c247_1, e247, hx247_0, hx247_1, hl247_1, hi247_1⟩ := at_T24 HR0.out 0 p247 q247; obtain rfl : ad244 = ad247 := (by injection e247); have qi247 : (0 < l0.length) = True := eq_true (by omega); (try rw [show ((0 : Int)).toNat = 0 from rfl] at hx247_0); (try rw [show 0 * 2 = 0 from rfl] at hx247_0); (try rw [Addr.add_zero'] at hx247_0); (try rw [show ((0 : Int)).toNat = 0 from rfl] at hx247_1); (try rw [show 0 * 2 = 0 from rfl] at hx247_1); (try rw [Addr.add_zero'] at hx247_1); have HR247_1 := Aside0.mk hi247_1; have HC247_1 := Aside0.mk hl247_1; clear hi247_1 hl247_1; replace p247 := eq_true p247; replace q247 := eq_true q247)); try go_wp2_with (first | (go_at_call 64; (with_reducible refine (panacheref06_In.calls (((rd_T24 l0 x3_1).f1).length : Int) 1 4 true _ A4.out).mono ?_); rintro e w' ⟨rfl, ⟨nd, rfl⟩⟩; (try first | exact ⟨rfl, _, World.drewN_drewN _ _ _⟩ | exact ⟨rfl, _, Eq.trans (World.drewN_drewN _ _ _) (congrArg (World.drewN _) (Nat.add_assoc _ _ _))⟩); have p246 : 0 ≤ (x3_1 : Int) := of_decide_eq_true (by first | (with_reducible assumption) | assumption); have q246 : x3_1 < (l0.length : Int) := of_decide_eq_true (by first | (with_reducible assumption) | assumption); obtain ⟨ad246, A246_1, c246_1, e246, hx246_0, hx246_1, hl246_1, hi246_1⟩ := at_T24 HR0.out x3_1 p246 q246; obtain rfl : ad244 = ad246 := (by injection e246); have HR246_1 := Aside0.mk hi246_1; have HC246_1 := Aside0.mk hl246_1; clear hi246_1 hl246_1; replace p246 := eq_true p246; replace q246 := eq_true q246; have ea_ := Option.some.inj (hx244_1.symm.trans hx246_1); injection ea_ with ea_ en_ ec_; subst ea_; subst ec_; clear en_; have p247 : 0 ≤ (0 : Int) := (by omega); have q247 : 0 < (l0.length : Int) := of_decide_eq_true (by first | (with_reducible assumption) | assumption); obtain ⟨ad247, A247_1, c247_1, e247, hx247_0, hx247_1, hl247_1, hi247_1⟩ := at_T24 HR0.out 0 p247 q247; obtain rfl : ad244 = ad247 := (by injection e247); have qi247 : (0 < l0.length) = True := eq_true (by omega); (try rw [show ((0 : Int)).toNat = 0 from rfl] at hx247_0); (try rw [show 0 * 2 = 0 from rfl] at hx247_0); (try rw [Addr.add_zero'] at hx247_0); (try rw [show ((0 : Int)).toNat = 0 from rfl] at hx247_1); (try rw [show 0 * 2 = 0 from rfl] at hx247_1); (try rw [Addr.add_zero'] at hx247_1); have HR247_1 := Aside0.mk hi247_1; have HC247_1 := Aside0.mk hl247_1; clear hi247_1 hl247_1; replace p247 := eq_true p247; replace q247 := eq_true q247)))
                go_ret
                exact ⟨by first | rfl | (simp; done) | (simp [*]; done), by repeat (first | exact Drawn0.refl _ | apply Drawn0.step)⟩
            · rw [if_neg c6] at H
              exact absurd H (by simp)
          · replace c5 := Bool.eq_false_iff.mpr c5
            subst c5
            have H1 : (some 4) = some r := by rw [if_neg (show ¬ (false = true) by decide)] at H; exact H
            clear H
            have H := H1
            clear H1
            obtain rfl := Option.some.inj H
            have p244 : 0 ≤ (x3_1 : Int) := of_decide_eq_true (by first | (with_reducible assumption) | assumption)
            have q244 : x3_1 < (l0.length : Int) := of_decide_eq_true (by first | (with_reducible assumption) | assumption)
            obtain ⟨ad244, A244_1, c244_1, e244, hx244_0, hx244_1, hl244_1, hi244_1⟩ := at_T24 HR0.out x3_1 p244 q244
            cases e244
            have HR244_1 := Aside0.mk hi244_1
            have HC244_1 := Aside0.mk hl244_1
            clear hi244_1 hl244_1
            replace p244 := eq_true p244
            replace q244 := eq_true q244
            go_wp2_with (first | (go_at_call 64; (with_reducible refine (panacheref06_In.calls (((rd_T24 l0 x3_1).f1).length : Int) 1 4 false _ A4.out).mono ?_); rintro e w' ⟨rfl, ⟨nd, rfl⟩⟩; (try first | exact ⟨rfl, _, World.drewN_drewN _ _ _⟩ | exact ⟨rfl, _, Eq.trans (World.drewN_drewN _ _ _) (congrArg (World.drewN _) (Nat.add_assoc _ _ _))⟩)))
            repeat (go_quiet (first | (go_at_call 64; (with_reducible refine (panacheref06_In.calls (((rd_T24 l0 x3_1).f1).length : Int) 1 4 false _ A4.out).mono ?_); rintro e w' ⟨rfl, ⟨nd, rfl⟩⟩; (try first | exact ⟨rfl, _, World.drewN_drewN _ _ _⟩ | exact ⟨rfl, _, Eq.trans (World.drewN_drewN _ _ _) (congrArg (World.drewN _) (Nat.add_assoc _ _ _))⟩))); try go_wp2_with (first | (go_at_call 64; (with_reducible refine (panacheref06_In.calls (((rd_T24 l0 x3_1).f1).length : Int) 1 4 false _ A4.out).mono ?_); rintro e w' ⟨rfl, ⟨nd, rfl⟩⟩; (try first | exact ⟨rfl, _, World.drewN_drewN _ _ _⟩ | exact ⟨rfl, _, Eq.trans (World.drewN_drewN _ _ _) (congrArg (World.drewN _) (Nat.add_assoc _ _ _))⟩))))
            go_ret
            exact ⟨by first | rfl | (simp; done) | (simp [*]; done), by repeat (first | exact Drawn0.refl _ | apply Drawn0.step)⟩
        · rw [if_neg c3] at H
          exact absurd H (by simp)
      · rw [if_neg c2] at H
        have c2b0 : decide (x3_1 < (l0.length : Int)) = false := decide_eq_false c2
        clear c2
        have H' := Aside0.mk H
        clear H
        go_wp2
        repeat (go_quiet (fail); try go_wp2)
        go_loopg [4] k1 (fun kq v4 w' => ∃ (x4_2 : Int), v4 = .int .i64 x4_2 ∧ Aside0 (panacheref06_Form.l1 kq l0 x4_2 = some r) ∧ Aside0 (kq ≤ k1) ∧ Drawn0 w w')
        case atStart => exact ⟨(0), (by first | rfl | (simp; done) | (simp [*]; done)), H', ⟨Nat.le_refl _⟩, by repeat (first | exact Drawn0.refl _ | apply Drawn0.step)⟩
        case round =>
          clear H'
          try clear c2
          try clear c2b0
          try clear p2
          try clear q2
          try clear hx2
          try clear qi2
          try clear c3
          try clear c3b0
          try clear c5
          try clear c6
          try clear c6b0
          try clear c6b1
          try clear p6
          try clear c7
          try clear c7b0
          try clear c7b1
          try clear c7b2
          try clear hx244_0
          try clear hx244_1
          try clear hx246_0
          try clear hx246_1
          try clear hx247_0
          try clear hx247_1
          try clear p244
          try clear p246
          try clear p247
          try clear q244
          try clear q246
          try clear q247
          obtain ⟨x4_2, rfl, HA, HK2, ⟨m2, rfl⟩⟩ := hrel
          cases gk with
          | zero => exact absurd HA.out (by simp [panacheref06_Form.l1])
          | succ k2 =>
            have H := HA.out
            clear HA
            simp only [panacheref06_Form.l1] at H
            by_cases c8 : x4_2 < (l0.length : Int)
            · rw [if_pos c8] at H
              have c8b0 : decide (x4_2 < (l0.length : Int)) = true := decide_eq_true c8
              clear c8
              by_cases c9 : 0 ≤ x4_2
              · rw [if_pos c9] at H
                have c9b0 : decide (0 ≤ x4_2) = true := decide_eq_true c9
                clear c9
                replace H := Option.bind_eq_some_iff.mp H
                obtain ⟨t249, A100, H⟩ := H
                replace H : (if t249 = true then (panacheref06_Form.l2 k2 l0 x4_2 0) else (some 2)) = some r := H
                have A10 := Aside0.mk A100
                clear A100
                by_cases c11 : t249 = true
                · subst c11
                  have H1 : (panacheref06_Form.l2 k2 l0 x4_2 0) = some r := by rw [if_pos rfl] at H; exact H
                  clear H
                  have H := H1
                  clear H1
                  have H' := Aside0.mk H
                  clear H
                  have p248 : 0 ≤ (x4_2 : Int) := of_decide_eq_true (by first | (with_reducible assumption) | assumption)
                  have q248 : x4_2 < (l0.length : Int) := of_decide_eq_true (by first | (with_reducible assumption) | assumption)
                  obtain ⟨ad248, A248_1, c248_1, e248, hx248_0, hx248_1, hl248_1, hi248_1⟩ := at_T24 HR0.out x4_2 p248 q248
                  cases e248
                  have HR248_1 := Aside0.mk hi248_1
                  have HC248_1 := Aside0.mk hl248_1
                  clear hi248_1 hl248_1
                  replace p248 := eq_true p248
                  replace q248 := eq_true q248
                  go_wp2_with (first | (go_at_call 64; (with_reducible refine (panacheref06_In.calls ((rd_T24 l0 x4_2).f0) 1 10000 true _ A10.out).mono ?_); rintro e w' ⟨rfl, ⟨nd, rfl⟩⟩; (try first | exact ⟨rfl, _, World.drewN_drewN _ _ _⟩ | exact ⟨rfl, _, Eq.trans (World.drewN_drewN _ _ _) (congrArg (World.drewN _) (Nat.add_assoc _ _ _))⟩)))
                  repeat (go_quiet (first | (go_at_call 64; (with_reducible refine (panacheref06_In.calls ((rd_T24 l0 x4_2).f0) 1 10000 true _ A10.out).mono ?_); rintro e w' ⟨rfl, ⟨nd, rfl⟩⟩; (try first | exact ⟨rfl, _, World.drewN_drewN _ _ _⟩ | exact ⟨rfl, _, Eq.trans (World.drewN_drewN _ _ _) (congrArg (World.drewN _) (Nat.add_assoc _ _ _))⟩))); try go_wp2_with (first | (go_at_call 64; (with_reducible refine (panacheref06_In.calls ((rd_T24 l0 x4_2).f0) 1 10000 true _ A10.out).mono ?_); rintro e w' ⟨rfl, ⟨nd, rfl⟩⟩; (try first | exact ⟨rfl, _, World.drewN_drewN _ _ _⟩ | exact ⟨rfl, _, Eq.trans (World.drewN_drewN _ _ _) (congrArg (World.drewN _) (Nat.add_assoc _ _ _))⟩))))
                  go_loopg [5] k2 (fun kq v5 w' => ∃ (x5_3 : Int), v5 = .int .i64 x5_3 ∧ Aside0 (panacheref06_Form.l2 kq l0 x4_2 x5_3 = some r) ∧ Aside0 (kq ≤ k2) ∧ Drawn0 w w')
                  case atStart => exact ⟨(0), (by first | rfl | (simp; done) | (simp [*]; done)), H', ⟨Nat.le_refl _⟩, by repeat (first | exact Drawn0.refl _ | apply Drawn0.step)⟩
                  case round =>
                    clear H'
                    try clear c1
                    try clear c2
                    try clear c2b0
                    try clear p2
                    try clear q2
                    try clear hx2
                    try clear qi2
                    try clear c3
                    try clear c3b0
                    try clear c5
                    try clear c6
                    try clear c6b0
                    try clear c6b1
                    try clear p6
                    try clear c7
                    try clear c7b0
                    try clear c7b1
                    try clear c7b2
                    try clear c8
                    try clear c8b0
                    try clear c9
                    try clear c9b0
                    try clear c11
                    try clear hx244_0
                    try clear hx244_1
                    try clear hx246_0
                    try clear hx246_1
                    try clear hx247_0
                    try clear hx247_1
                    try clear hx248_0
                    try clear hx248_1
                    try clear p2
                    try clear p244
                    try clear p246
                    try clear p247
                    try clear p248
                    try clear p6
                    try clear q2
                    try clear q244
                    try clear q246
                    try clear q247
                    try clear q248
                    obtain ⟨x5_3, rfl, HA, HK3, ⟨m3, rfl⟩⟩ := hrel
                    cases gk with
                    | zero => exact absurd HA.out (by simp [panacheref06_Form.l2])
                    | succ k3 =>
                      have H := HA.out
                      clear HA
                      simp only [panacheref06_Form.l2] at H
                      by_cases c12 : 0 ≤ x4_2
                      · rw [if_pos c12] at H
                        have c12b0 : decide (0 ≤ x4_2) = true := decide_eq_true c12
                        clear c12
                        by_cases c13 : x4_2 < (l0.length : Int)
                        · rw [if_pos c13] at H
                          have c13b0 : decide (x4_2 < (l0.length : Int)) = true := decide_eq_true c13
                          clear c13
                          by_cases c14 : x5_3 < (((rd_T24 l0 x4_2).f1).length : Int)
                          · rw [if_pos c14] at H
                            have c14b0 : decide (x5_3 < (((rd_T24 l0 x4_2).f1).length : Int)) = true := decide_eq_true c14
                            clear c14
                            by_cases c15 : 0 ≤ x5_3
                            · rw [if_pos c15] at H
                              have c15b0 : decide (0 ≤ x5_3) = true := decide_eq_true c15
                              clear c15
                              replace H := Option.bind_eq_some_iff.mp H
                              obtain ⟨t253, A160, H⟩ := H
                              replace H : (if t253 = true then (panacheref06_Form.l2 k3 l0 x4_2 (wrap64 (x5_3 + 1))) else (some 2)) = some r := H
                              have A16 := Aside0.mk A160
                              clear A160
                              by_cases c17 : t253 = true
                              · subst c17
                                have H1 : (panacheref06_Form.l2 k3 l0 x4_2 (wrap64 (x5_3 + 1))) = some r := by rw [if_pos rfl] at H; exact H
                                clear H
                                have H := H1
                                clear H1
                                have H' := Aside0.mk H
                                clear H
                                have p250 : 0 ≤ (x4_2 : Int) := of_decide_eq_true (by first | (with_reducible assumption) | assumption)
                                have q250 : x4_2 < (l0.length : Int) := of_decide_eq_true (by first | (with_reducible assumption) | assumption)
                                obtain ⟨ad250, A250_1, c250_1, e250, hx250_0, hx250_1, hl250_1, hi250_1⟩ := at_T24 HR0.out x4_2 p250 q250
                                obtain rfl : ad248 = ad250 := (by injection e250)
                                have HR250_1 := Aside0.mk hi250_1
                                have HC250_1 := Aside0.mk hl250_1
                                clear hi250_1 hl250_1
                                replace p250 := eq_true p250
                                replace q250 := eq_true q250
                                have p251 : 0 ≤ (x4_2 : Int) := of_decide_eq_true (by first | (with_reducible assumption) | assumption)
                                have q251 : x4_2 < (l0.length : Int) := of_decide_eq_true (by first | (with_reducible assumption) | assumption)
                                obtain ⟨ad251, A251_1, c251_1, e251, hx251_0, hx251_1, hl251_1, hi251_1⟩ := at_T24 HR0.out x4_2 p251 q251
                                obtain rfl : ad248 = ad251 := (by injection e251)
                                have HR251_1 := Aside0.mk hi251_1
                                have HC251_1 := Aside0.mk hl251_1
                                clear hi251_1 hl251_1
                                replace p251 := eq_true p251
                                replace q251 := eq_true q251
                                have ea_ := Option.some.inj (hx250_1.symm.trans hx251_1)
                                injection ea_ with ea_ en_ ec_
                                subst ea_
                                subst ec_
                                clear en_
                                have p252 : 0 ≤ (x5_3 : Int) := of_decide_eq_true (by first | (with_reducible assumption) | assumption)
                                have q252 : x5_3 < (((rd_T24 l0 x4_2).f1).length : Int) := of_decide_eq_true (by first | (with_reducible assumption) | assumption)
                                obtain ⟨ad252, e252, hx252_0⟩ := Kd.at_int HR251_1.out x5_3 p252 q252
                                cases e252
                                replace p252 := eq_true p252
                                replace q252 := eq_true q252
                                go_wp2_with (first | (go_at_call 64; (with_reducible refine (panacheref06_In.calls (rd ((rd_T24 l0 x4_2).f1) x5_3) 0 500 true _ A16.out).mono ?_); rintro e w' ⟨rfl, ⟨nd, rfl⟩⟩; (try first | exact ⟨rfl, _, World.drewN_drewN _ _ _⟩ | exact ⟨rfl, _, Eq.trans (World.drewN_drewN _ _ _) (congrArg (World.drewN _) (Nat.add_assoc _ _ _))⟩)))
                                repeat (go_quiet (first | (go_at_call 64; (with_reducible refine (panacheref06_In.calls (rd ((rd_T24 l0 x4_2).f1) x5_3) 0 500 true _ A16.out).mono ?_); rintro e w' ⟨rfl, ⟨nd, rfl⟩⟩; (try first | exact ⟨rfl, _, World.drewN_drewN _ _ _⟩ | exact ⟨rfl, _, Eq.trans (World.drewN_drewN _ _ _) (congrArg (World.drewN _) (Nat.add_assoc _ _ _))⟩))); try go_wp2_with (first | (go_at_call 64; (with_reducible refine (panacheref06_In.calls (rd ((rd_T24 l0 x4_2).f1) x5_3) 0 500 true _ A16.out).mono ?_); rintro e w' ⟨rfl, ⟨nd, rfl⟩⟩; (try first | exact ⟨rfl, _, World.drewN_drewN _ _ _⟩ | exact ⟨rfl, _, Eq.trans (World.drewN_drewN _ _ _) (congrArg (World.drewN _) (Nat.add_assoc _ _ _))⟩))))
                                go_roundg k3
                                case measure => have := HK1.out; have := HK2.out; have := HK3.out; omega
                                case rel => exact ⟨(wrap64 (x5_3 + 1)), (by first | rfl | (simp; done) | (simp [*]; done)), H', ⟨by have := HK1.out; have := HK2.out; have := HK3.out; omega⟩, by repeat (first | exact Drawn0.refl _ | apply Drawn0.step)⟩
                              · replace c17 := Bool.eq_false_iff.mpr c17
                                subst c17
                                have H1 : (some 2) = some r := by rw [if_neg (show ¬ (false = true) by decide)] at H; exact H
                                clear H
                                have H := H1
                                clear H1
                                obtain rfl := Option.some.inj H
                                have p250 : 0 ≤ (x4_2 : Int) := of_decide_eq_true (by first | (with_reducible assumption) | assumption)
                                have q250 : x4_2 < (l0.length : Int) := of_decide_eq_true (by first | (with_reducible assumption) | assumption)
                                obtain ⟨ad250, A250_1, c250_1, e250, hx250_0, hx250_1, hl250_1, hi250_1⟩ := at_T24 HR0.out x4_2 p250 q250
                                obtain rfl : ad248 = ad250 := (by injection e250)
                                have HR250_1 := Aside0.mk hi250_1
                                have HC250_1 := Aside0.mk hl250_1
                                clear hi250_1 hl250_1
                                replace p250 := eq_true p250
                                replace q250 := eq_true q250
                                have p251 : 0 ≤ (x4_2 : Int) := of_decide_eq_true (by first | (with_reducible assumption) | assumption)
                                have q251 : x4_2 < (l0.length : Int) := of_decide_eq_true (by first | (with_reducible assumption) | assumption)
                                obtain ⟨ad251, A251_1, c251_1, e251, hx251_0, hx251_1, hl251_1, hi251_1⟩ := at_T24 HR0.out x4_2 p251 q251
                                obtain rfl : ad248 = ad251 := (by injection e251)
                                have HR251_1 := Aside0.mk hi251_1
                                have HC251_1 := Aside0.mk hl251_1
                                clear hi251_1 hl251_1
                                replace p251 := eq_true p251
                                replace q251 := eq_true q251
                                have ea_ := Option.some.inj (hx250_1.symm.trans hx251_1)
                                injection ea_ with ea_ en_ ec_
                                subst ea_
                                subst ec_
                                clear en_
                                have p252 : 0 ≤ (x5_3 : Int) := of_decide_eq_true (by first | (with_reducible assumption) | assumption)
                                have q252 : x5_3 < (((rd_T24 l0 x4_2).f1).length : Int) := of_decide_eq_true (by first | (with_reducible assumption) | assumption)
                                obtain ⟨ad252, e252, hx252_0⟩ := Kd.at_int HR251_1.out x5_3 p252 q252
                                cases e252
                                replace p252 := eq_true p252
                                replace q252 := eq_true q252
                                go_wp2_with (first | (go_at_call 64; (with_reducible refine (panacheref06_In.calls (rd ((rd_T24 l0 x4_2).f1) x5_3) 0 500 false _ A16.out).mono ?_); rintro e w' ⟨rfl, ⟨nd, rfl⟩⟩; (try first | exact ⟨rfl, _, World.drewN_drewN _ _ _⟩ | exact ⟨rfl, _, Eq.trans (World.drewN_drewN _ _ _) (congrArg (World.drewN _) (Nat.add_assoc _ _ _))⟩)))
                                repeat (go_quiet (first | (go_at_call 64; (with_reducible refine (panacheref06_In.calls (rd ((rd_T24 l0 x4_2).f1) x5_3) 0 500 false _ A16.out).mono ?_); rintro e w' ⟨rfl, ⟨nd, rfl⟩⟩; (try first | exact ⟨rfl, _, World.drewN_drewN _ _ _⟩ | exact ⟨rfl, _, Eq.trans (World.drewN_drewN _ _ _) (congrArg (World.drewN _) (Nat.add_assoc _ _ _))⟩))); try go_wp2_with (first | (go_at_call 64; (with_reducible refine (panacheref06_In.calls (rd ((rd_T24 l0 x4_2).f1) x5_3) 0 500 false _ A16.out).mono ?_); rintro e w' ⟨rfl, ⟨nd, rfl⟩⟩; (try first | exact ⟨rfl, _, World.drewN_drewN _ _ _⟩ | exact ⟨rfl, _, Eq.trans (World.drewN_drewN _ _ _) (congrArg (World.drewN _) (Nat.add_assoc _ _ _))⟩))))
                                go_ret
                                exact ⟨by first | rfl | (simp; done) | (simp [*]; done), by repeat (first | exact Drawn0.refl _ | apply Drawn0.step)⟩
                            · rw [if_neg c15] at H
                              exact absurd H (by simp)
                          · rw [if_neg c14] at H
                            have c14b0 : decide (x5_3 < (((rd_T24 l0 x4_2).f1).length : Int)) = false := decide_eq_false c14
                            clear c14
                            have H' := Aside0.mk H
                            clear H
                            have p250 : 0 ≤ (x4_2 : Int) := of_decide_eq_true (by first | (with_reducible assumption) | assumption)
                            have q250 : x4_2 < (l0.length : Int) := of_decide_eq_true (by first | (with_reducible assumption) | assumption)
                            obtain ⟨ad250, A250_1, c250_1, e250, hx250_0, hx250_1, hl250_1, hi250_1⟩ := at_T24 HR0.out x4_2 p250 q250
                            obtain rfl : ad248 = ad250 := (by injection e250)
                            have HR250_1 := Aside0.mk hi250_1
                            have HC250_1 := Aside0.mk hl250_1
                            clear hi250_1 hl250_1
                            replace p250 := eq_true p250
                            replace q250 := eq_true q250
                            go_wp2
                            repeat (go_quiet (fail); try go_wp2)
                            go_roundg k3
                            case measure => have := HK1.out; have := HK2.out; have := HK3.out; omega
                            case rel => exact ⟨(wrap64 (x4_2 + 1)), (by first | rfl | (simp; done) | (simp [*]; done)), H', ⟨by have := HK1.out; have := HK2.out; have := HK3.out; omega⟩, by repeat (first | exact Drawn0.refl _ | apply Drawn0.step)⟩
                        · rw [if_neg c13] at H
                          exact absurd H (by simp)
                      · rw [if_neg c12] at H
                        exact absurd H (by simp)
                · replace c11 := Bool.eq_false_iff.mpr c11
                  subst c11
                  have H1 : (some 2) = some r := by rw [if_neg (show ¬ (false = true) by decide)] at H; exact H
                  clear H
                  have H := H1
                  clear H1
                  obtain rfl := Option.some.inj H
                  have p248 : 0 ≤ (x4_2 : Int) := of_decide_eq_true (by first | (with_reducible assumption) | assumption)
                  have q248 : x4_2 < (l0.length : Int) := of_decide_eq_true (by first | (with_reducible assumption) | assumption)
                  obtain ⟨ad248, A248_1, c248_1, e248, hx248_0, hx248_1, hl248_1, hi248_1⟩ := at_T24 HR0.out x4_2 p248 q248
                  cases e248
                  have HR248_1 := Aside0.mk hi248_1
                  have HC248_1 := Aside0.mk hl248_1
                  clear hi248_1 hl248_1
                  replace p248 := eq_true p248
                  replace q248 := eq_true q248
                  go_wp2_with (first | (go_at_call 64; (with_reducible refine (panacheref06_In.calls ((rd_T24 l0 x4_2).f0) 1 10000 false _ A10.out).mono ?_); rintro e w' ⟨rfl, ⟨nd, rfl⟩⟩; (try first | exact ⟨rfl, _, World.drewN_drewN _ _ _⟩ | exact ⟨rfl, _, Eq.trans (World.drewN_drewN _ _ _) (congrArg (World.drewN _) (Nat.add_assoc _ _ _))⟩)))
                  repeat (go_quiet (first | (go_at_call 64; (with_reducible refine (panacheref06_In.calls ((rd_T24 l0 x4_2).f0) 1 10000 false _ A10.out).mono ?_); rintro e w' ⟨rfl, ⟨nd, rfl⟩⟩; (try first | exact ⟨rfl, _, World.drewN_drewN _ _ _⟩ | exact ⟨rfl, _, Eq.trans (World.drewN_drewN _ _ _) (congrArg (World.drewN _) (Nat.add_assoc _ _ _))⟩))); try go_wp2_with (first | (go_at_call 64; (with_reducible refine (panacheref06_In.calls ((rd_T24 l0 x4_2).f0) 1 10000 false _ A10.out).mono ?_); rintro e w' ⟨rfl, ⟨nd, rfl⟩⟩; (try first | exact ⟨rfl, _, World.drewN_drewN _ _ _⟩ | exact ⟨rfl, _, Eq.trans (World.drewN_drewN _ _ _) (congrArg (World.drewN _) (Nat.add_assoc _ _ _))⟩))))
                  go_ret
                  exact ⟨by first | rfl | (simp; done) | (simp [*]; done), by repeat (first | exact Drawn0.refl _ | apply Drawn0.step)⟩
              · rw [if_neg c9] at H
                exact absurd H (by simp)
            · rw [if_neg c8] at H
              have c8b0 : decide (x4_2 < (l0.length : Int)) = false := decide_eq_false c8
              clear c8
              obtain rfl := Option.some.inj H
              go_wp2
              repeat (go_quiet (fail); try go_wp2)
              go_ret
              exact ⟨by first | rfl | (simp; done) | (simp [*]; done), by repeat (first | exact Drawn0.refl _ | apply Drawn0.step)⟩
end Go.Proofs.YtamibghbkjmmeaaDoor.G
end
