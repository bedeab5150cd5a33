/- A part of this claim's proof (F79, H68, H42, H88, H46, HB); no condition. -/
import Derived.Maps.AppendAt
import Derived.Maps.OwnIn
import Derived.ArgAppend
import Derived.Shelf.Slices.In.SortAlone
import Derived.Sort.OwnSortedInts
import Derived.Sort.EveryDepth
import Derived.OrdersIn
import Derived.Test.YtamibghbkjmmeaaDoorAlk04
section
namespace Go.Proofs.YtamibghbkjmmeaaDoor.G
open Go.RowKit Go.Proofs.YtamibghbkjmmeaaDoorW.PrintWords Go.Proofs.YtamibghbkjmmeaaDoorW.PrintLast Go.Proofs.YtamibghbkjmmeaaDoorW.PrintMore
attribute [local go_sem] max2_int min2_int max_two min_two max_three min_three max_four min_four
set_option linter.unusedVariables false
set_option linter.unusedSimpArgs false
def guard_table_without.l0 : Nat → Int → Int → List Int → Int → Int → Option (List Int)
  | 0, _, _, _, _, _ => none
  | k + 1, x1, x2, x7, x12, x13 => if x13 < x12 then (if 0 ≤ x13 then (if x13 < (x7.length : Int) then ((some (x7.set (x13 : Int).toNat (Go.bits .andNot .u64 (rd x7 x13) x2) : List Int)).bind fun y134 => (if (Go.bits .and .u64 (shr .u64 x1 x13) 1) = 1 then (guard_table_without.l0 k x1 x2 (y134.set (x13 : Int).toNat 0) x12 (wrap64 (x13 + 1))) else (guard_table_without.l0 k x1 x2 y134 x12 (wrap64 (x13 + 1))))) else (none)) else (none)) else (some x7)
def guard_table_without.f (k : Nat) (l0 : List Int) (a1 : Int) (a2 : Int) : Option (List Int) := (guard_table_uint.f l0).bind fun t130 => (guard_table_without.l0 k a1 a2 t130 (t130.length : Int) 0)
set_option maxHeartbeats 8000000 in
set_option maxRecDepth 100000 in
theorem guard_table_without.calls (k : Nat) (A0 : Option Addr) (c0 : Nat) (l0 : List Int) (a1 : Int) (a2 : Int) (r : List Int) (w : World) (hr0 : Kd.C (Kd.int .u64) w A0 l0.length l0) (hc0 : l0.length ≤ c0) (h : guard_table_without.f k l0 a1 a2 = some r) :
    Calls Tryd.prog 79 #[.slice A0 l0.length c0, .int .u64 a1, .int .u64 a2] w fun e w' => ∃ v0_ : Value, e = .returned (v0_) ∧ Kd.R (Kd.int .u64) 116 w' w.heap.size (fun _ => True) v0_ r ∧ Below w.heap.size w w' := by
  have HR0 := Aside0.mk hr0
  have HC0 := Aside0.mk hc0
  clear hr0 hc0
  have HB := Aside0.mk (Below.refl w.heap.size w)
  have H : ((guard_table_uint.f l0).bind fun t130 => (guard_table_without.l0 k a1 a2 t130 (t130.length : Int) 0)) = some r := h
  clear h
  replace H := Option.bind_eq_some_iff.mp H
  obtain ⟨t130, A40, H⟩ := H
  replace H : (guard_table_without.l0 k a1 a2 t130 (t130.length : Int) 0) = some r := H
  have A4 := Aside0.mk A40
  clear A40
  have H' := Aside0.mk H
  clear H
  go_enter Tryd.func79, Tryd.ntmps79
  go_wp2_with (first | ((with_reducible refine gate_callee (f := 86) rfl ?_); refine goesL_ (some 10) rfl rfl Tryd.func86 (by kernel_rfl) rfl #[.slice A0 l0.length c0] rfl (by (try simp only [List.map_toArray, List.map_cons, List.map_nil]); first | done | rfl | (simp only [List.length_drop, List.length_take]; rfl)) ?_; (with_reducible refine (guard_table_uint.calls _ _ l0 t130 _ ?side1 ?side2 A4.out).mono ?_); (case side1 => repeat (first | exact HR0.out | (with_reducible refine Kd.C_alloc ?_ _) | (with_reducible refine Kd.C_drewN ?_ _) | (with_reducible refine Kd.C_drew ?_))); (case side2 => exact HC0.out); rintro e w5 ⟨v131, rfl, ho0, hb⟩; refine ⟨_, rfl, ?_⟩; have n0_ := Aside0.mk (Kd.R_lower ho0 (below_size (by repeat (first | (with_reducible first | exact HB.out | apply below_alloc | apply pw_below_drewN | apply below_drew1) | exact HB.out)))); have n1_ := Aside0.mk (below_step (by repeat (first | (with_reducible first | exact HB.out | apply below_alloc | apply pw_below_drewN | apply below_drew1) | exact HB.out)) hb); clear HB; have HO132 := n0_; have HB := n1_; clear n0_ n1_; (try clear hb); (try clear hb2); (try clear hk); (try clear hi); (try clear ho0); obtain ⟨Ao6, co6, eo6⟩ := Kd.R_slice HO132.out; subst eo6))
  go_loopg [13] k (fun kq v13 w' => ∃ (x7_1 : List Int) (x13_1 : Int), v13 = .int .i64 x13_1 ∧ Aside0 (guard_table_without.l0 kq a1 a2 x7_1 (t130.length : Int) x13_1 = some r) ∧ Aside0 (kq ≤ k) ∧ Aside0 (Kd.R (Kd.int .u64) 116 w' w.heap.size (fun _ => True) (.slice Ao6 t130.length co6) x7_1) ∧ Aside0 (Below w.heap.size w w'))
  case atStart => exact ⟨(t130), (0), (by first | rfl | (simp; done) | (simp [*]; done)), H', ⟨Nat.le_refl _⟩, ⟨by (with_reducible repeat (first | apply Kd.R_alloc | apply Kd.R_drewN | apply Kd.R_drew)); exact HO132.out⟩, ⟨by repeat (first | (with_reducible first | exact HB.out | apply below_alloc | apply pw_below_drewN | apply below_drew1) | exact HB.out)⟩⟩
  case round =>
    clear H'
    try clear p2
    obtain ⟨x7_1, x13_1, rfl, HA, HK1, HO_7, HB⟩ := hrel
    have hl7_1 := (Kd.R_reads' HO_7.out).1
    rw [hl7_1] at HO_7
    (try simp only [hl7_1])
    cases gk with
    | zero => exact absurd HA.out (by simp [guard_table_without.l0])
    | succ k1 =>
      have H := HA.out
      clear HA
      simp only [guard_table_without.l0] at H
      by_cases c7 : x13_1 < (t130.length : Int)
      · rw [if_pos c7] at H
        have c7b0 : decide (x13_1 < (t130.length : Int)) = true := decide_eq_true c7
        have c7b0z := c7b0; (try simp only [hl7_1] at c7b0z)
        clear c7
        by_cases c8 : 0 ≤ x13_1
        · rw [if_pos c8] at H
          have c8b0 : decide (0 ≤ x13_1) = true := decide_eq_true c8
          clear c8
          by_cases c9 : x13_1 < (x7_1.length : Int)
          · rw [if_pos c9] at H
            have c9b0 : decide (x13_1 < (x7_1.length : Int)) = true := decide_eq_true c9
            have c9b0z := c9b0; (try simp only [hl7_1] at c9b0z)
            clear c9
            obtain ⟨y134, hy134⟩ : ∃ y_ : List Int, y_ = (x7_1.set (x13_1 : Int).toNat (Go.bits .andNot .u64 (rd x7_1 x13_1) a2)) := ⟨_, rfl⟩
            replace H : (if (Go.bits .and .u64 (shr .u64 a1 x13_1) 1) = 1 then (guard_table_without.l0 k1 a1 a2 (y134.set (x13_1 : Int).toNat 0) (t130.length : Int) (wrap64 (x13_1 + 1))) else (guard_table_without.l0 k1 a1 a2 y134 (t130.length : Int) (wrap64 (x13_1 + 1)))) = some r := by first | (rw [hy134]; with_reducible exact H) | (have H2_ := (Option.bind_some _ _).symm.trans H; rw [hy134]; with_reducible exact H2_) | (have H2_ := (Option.bind_some _ _).symm.trans H; with_reducible exact H2_) | with_reducible exact H | (rw [hy134]; exact H) | exact H
            have Ny134 := Aside0.mk hy134
            clear hy134
            have c11b0 := eq_true (of_decide_eq_true (by first | (with_reducible assumption) | assumption) : 0 ≤ x13_1)
            obtain ⟨ji12, hji12⟩ : ∃ j_ : Int, (shr .u64 a1 x13_1) = j_ := ⟨_, rfl⟩
            replace H : (if (Go.bits .and .u64 (ji12) 1) = 1 then (guard_table_without.l0 k1 a1 a2 (y134.set (x13_1 : Int).toNat 0) (t130.length : Int) (wrap64 (x13_1 + 1))) else (guard_table_without.l0 k1 a1 a2 y134 (t130.length : Int) (wrap64 (x13_1 + 1)))) = some r := by first | (rw [hji12] at H; exact H) | (simp only [hji12] at H ⊢; exact H)
            have hji12_ : (a1 / 2 ^ min x13_1.toNat 64) = ji12 := hji12
            have hji12z : x13_1 ≤ 64 → (a1 / 2 ^ x13_1.toNat) = ji12 := shr_small hji12
            by_cases c13 : (Go.bits .and .u64 (ji12) 1) = 1
            · rw [if_pos c13] at H
              have c13b0 : ((Go.bits .and .u64 (ji12) 1) == 1) = true := beq_iff_eq.mpr c13
              have c13b1 : ((Go.bits .and .u64 (ji12) 1) != 1) = false := bne_eq_false_iff_eq.mpr c13
              clear c13
              obtain ⟨y135, hy135⟩ : ∃ y_ : List Int, y_ = (y134.set (x13_1 : Int).toNat 0) := ⟨_, rfl⟩
              replace H : (guard_table_without.l0 k1 a1 a2 y135 (t130.length : Int) (wrap64 (x13_1 + 1))) = some r := by first | (rw [hy135]; with_reducible exact H) | (have H2_ := (Option.bind_some _ _).symm.trans H; rw [hy135]; with_reducible exact H2_) | (have H2_ := (Option.bind_some _ _).symm.trans H; with_reducible exact H2_) | with_reducible exact H | (rw [hy135]; exact H) | exact H
              have Ny135 := Aside0.mk hy135
              clear hy135
              have H' := Aside0.mk H
              clear H
              have p133 : 0 ≤ (x13_1 : Int) := of_decide_eq_true (by first | (with_reducible assumption) | assumption)
              have q133 : x13_1 < (x7_1.length : Int) := of_decide_eq_true (by first | (with_reducible assumption) | assumption)
              obtain ⟨ad133, e133, hx133_0⟩ := Kd.at_int (Kd.R_reads' HO_7.out).2.2 x13_1 p133 q133
              cases e133
              replace p133 := eq_true p133
              replace q133 := eq_true q133
              have p10 : 0 ≤ (x13_1 : Int) := of_decide_eq_true (by first | (with_reducible assumption) | assumption)
              have q10 : (x13_1 : Int) < ((x7_1.length : Int) : Int) := of_decide_eq_true (by first | (with_reducible assumption) | assumption)
              obtain ⟨go10, co10, eo10, gb10, gl10, cl10, HG10⟩ := Kd.R_form HO_7.out (by omega)
              (first | cases eo10 | (injection eo10 with ea_ en_ ec_; (first | subst ea_ | (injection ea_ with ea_; subst ea_)); subst ec_; clear en_))
              have GB10 := Aside0.mk gb10
              have GG10 := Aside0.mk HG10
              clear gb10 gl10 HG10
              (first | simp only [add_plain] at hx133_0 | skip)
              obtain ⟨hx10_0, hf10_0⟩ := Kd.R_celln 0 HO_7.out (x13_1 : Int) p10 q10
              replace p10 := eq_true p10
              replace q10 := eq_true q10
              have HP15 := Kd.R_putg HO_7.out (x13_1 : Int) (Go.bits .andNot .u64 (rd x7_1 x13_1) a2)
              go_wp2_with (first | ((with_reducible refine gate_store (t := 116) (p := 22) rfl ?_); refine store_event (t := 116) (p := 22) (v := ?vo_w16) (w1 := (wr.setCell ⟨go10, (x13_1 : Int).toNat, none⟩ (.int .u64 (Go.bits .andNot .u64 (rd x7_1 x13_1) a2)))) ?hg ?ho ?hn ?hr ?_; (case ho => rfl); (case hg => rfl); (case hn => rfl); (case hr => first | (go_simp; done) | (go_simp; rfl)); intro w16 hw; have hg : wr.grownBy w16 (some go10) := (by rw [hw]; exact HP15.2); have hp_ : Kd.R (Kd.int .u64) 116 w16 w.heap.size (fun _ => True) (.slice (some ⟨go10, 0, none⟩) x7_1.length co6) y134 := (by rw [hw, Ny134.out]; exact HP15.1); clear HP15; have n0_ := Aside0.mk (hp_); have n1_ := Aside0.mk ((by rw [hw]; exact below_set (HB.out) GB10.out : Below w.heap.size w w16)); clear HO_7; clear HB; have HO_7 := n0_; have HB := n1_; clear n0_ n1_; clear hg hw hp_; have p14 : 0 ≤ (x13_1 : Int) := of_decide_eq_true (by first | (with_reducible assumption) | assumption); have q14 : (x13_1 : Int) < ((x7_1.length : Int) : Int) := of_decide_eq_true (by first | (with_reducible assumption) | assumption); obtain ⟨hx14_0, hf14_0⟩ := Kd.R_celln 0 HO_7.out (x13_1 : Int) p14 q14; replace p14 := eq_true p14; replace q14 := eq_true q14; obtain ⟨hy17_, hz17_⟩ := Kd.R_celln 0 HO_7.out (x13_1 : Int) (of_decide_eq_true (by first | (with_reducible assumption) | assumption)) (of_decide_eq_true (by first | (with_reducible assumption) | assumption)); have HP17 := Kd.R_putg HO_7.out (x13_1 : Int) 0) | ((with_reducible refine gate_store (t := 116) (p := 30) rfl ?_); refine store_event (t := 116) (p := 30) (v := ?vo_w18) (w1 := (w16.setCell ⟨go10, (x13_1 : Int).toNat, none⟩ (.int .u64 0))) ?hg ?ho ?hn ?hr ?_; (case ho => rfl); (case hg => rfl); (case hn => rfl); (case hr => first | (go_simp; done) | (go_simp; rfl)); intro w18 hw; have hg : w16.grownBy w18 (some go10) := (by rw [hw]; exact HP17.2); have hp_ : Kd.R (Kd.int .u64) 116 w18 w.heap.size (fun _ => True) (.slice (some ⟨go10, 0, none⟩) x7_1.length co6) y135 := (by rw [hw, Ny135.out]; exact HP17.1); clear HP17; have n0_ := Aside0.mk (hp_); have n1_ := Aside0.mk ((by rw [hw]; exact below_set (HB.out) GB10.out : Below w.heap.size w w18)); clear HO_7; clear HB; have HO_7 := n0_; have HB := n1_; clear n0_ n1_; clear hg hw hp_))
              (try simp only [← hl7_1])
              go_roundg k1
              case measure => have := HK1.out; omega
              case rel => exact ⟨(y135), (wrap64 (x13_1 + 1)), (by first | rfl | (simp; done) | (simp [*]; done)), H', ⟨by have := HK1.out; omega⟩, ⟨by (try simp only [hl7_1]); (with_reducible repeat (first | apply Kd.R_alloc | apply Kd.R_drewN | apply Kd.R_drew)); exact HO_7.out⟩, ⟨by repeat (first | (with_reducible first | exact HB.out | apply below_alloc | apply pw_below_drewN | apply below_drew1) | exact HB.out)⟩⟩
            · rw [if_neg c13] at H
              have c13b0 : ((Go.bits .and .u64 (ji12) 1) == 1) = false := beq_eq_false_iff_ne.mpr c13
              have c13b1 : ((Go.bits .and .u64 (ji12) 1) != 1) = true := bne_iff_ne.mpr c13
              have H' := Aside0.mk H
              clear H
              have p133 : 0 ≤ (x13_1 : Int) := of_decide_eq_true (by first | (with_reducible assumption) | assumption)
              have q133 : x13_1 < (x7_1.length : Int) := of_decide_eq_true (by first | (with_reducible assumption) | assumption)
              obtain ⟨ad133, e133, hx133_0⟩ := Kd.at_int (Kd.R_reads' HO_7.out).2.2 x13_1 p133 q133
              cases e133
              replace p133 := eq_true p133
              replace q133 := eq_true q133
              have p10 : 0 ≤ (x13_1 : Int) := of_decide_eq_true (by first | (with_reducible assumption) | assumption)
              have q10 : (x13_1 : Int) < ((x7_1.length : Int) : Int) := of_decide_eq_true (by first | (with_reducible assumption) | assumption)
              obtain ⟨go10, co10, eo10, gb10, gl10, cl10, HG10⟩ := Kd.R_form HO_7.out (by omega)
              (first | cases eo10 | (injection eo10 with ea_ en_ ec_; (first | subst ea_ | (injection ea_ with ea_; subst ea_)); subst ec_; clear en_))
              have GB10 := Aside0.mk gb10
              have GG10 := Aside0.mk HG10
              clear gb10 gl10 HG10
              (first | simp only [add_plain] at hx133_0 | skip)
              obtain ⟨hx10_0, hf10_0⟩ := Kd.R_celln 0 HO_7.out (x13_1 : Int) p10 q10
              replace p10 := eq_true p10
              replace q10 := eq_true q10
              have HP19 := Kd.R_putg HO_7.out (x13_1 : Int) (Go.bits .andNot .u64 (rd x7_1 x13_1) a2)
              go_wp2_with (first | ((with_reducible refine gate_store (t := 116) (p := 22) rfl ?_); refine store_event (t := 116) (p := 22) (v := ?vo_w20) (w1 := (wr.setCell ⟨go10, (x13_1 : Int).toNat, none⟩ (.int .u64 (Go.bits .andNot .u64 (rd x7_1 x13_1) a2)))) ?hg ?ho ?hn ?hr ?_; (case ho => rfl); (case hg => rfl); (case hn => rfl); (case hr => first | (go_simp; done) | (go_simp; rfl)); intro w20 hw; have hg : wr.grownBy w20 (some go10) := (by rw [hw]; exact HP19.2); have hp_ : Kd.R (Kd.int .u64) 116 w20 w.heap.size (fun _ => True) (.slice (some ⟨go10, 0, none⟩) x7_1.length co6) y134 := (by rw [hw, Ny134.out]; exact HP19.1); clear HP19; have n0_ := Aside0.mk (hp_); have n1_ := Aside0.mk ((by rw [hw]; exact below_set (HB.out) GB10.out : Below w.heap.size w w20)); clear HO_7; clear HB; have HO_7 := n0_; have HB := n1_; clear n0_ n1_; clear hg hw hp_))
              (try simp only [← hl7_1])
              go_roundg k1
              case measure => have := HK1.out; omega
              case rel => exact ⟨(y134), (wrap64 (x13_1 + 1)), (by first | rfl | (simp; done) | (simp [*]; done)), H', ⟨by have := HK1.out; omega⟩, ⟨by (try simp only [hl7_1]); (with_reducible repeat (first | apply Kd.R_alloc | apply Kd.R_drewN | apply Kd.R_drew)); exact HO_7.out⟩, ⟨by repeat (first | (with_reducible first | exact HB.out | apply below_alloc | apply pw_below_drewN | apply below_drew1) | exact HB.out)⟩⟩
          · rw [if_neg c9] at H
            exact absurd H (by simp)
        · rw [if_neg c8] at H
          exact absurd H (by simp)
      · rw [if_neg c7] at H
        have c7b0 : decide (x13_1 < (t130.length : Int)) = false := decide_eq_false c7
        have c7b0z := c7b0; (try simp only [hl7_1] at c7b0z)
        clear c7
        obtain rfl := Option.some.inj H
        go_wp2
        go_ret
        exact ⟨_, by first | rfl | (simp [errW_none, errW_some] <;> rfl) | (simp [*, errW_none, errW_some] <;> rfl), by (with_reducible repeat (first | apply Kd.R_alloc | apply Kd.R_drewN | apply Kd.R_drew)); exact HO_7.out, by repeat (first | (with_reducible first | exact HB.out | apply below_alloc | apply pw_below_drewN | apply below_drew1) | exact HB.out)⟩
end Go.Proofs.YtamibghbkjmmeaaDoor.G
end
section
namespace Go.Proofs.YtamibghbkjmmeaaDoor.G
open Go.RowKit Go.Proofs.YtamibghbkjmmeaaDoorW.PrintWords Go.Proofs.YtamibghbkjmmeaaDoorW.PrintLast Go.Proofs.YtamibghbkjmmeaaDoorW.PrintMore
set_option linter.unusedVariables false
set_option linter.unusedSimpArgs false
attribute [local go_sem] Oper.semAt_some
abbrev sh1 (i : Nat) : Int := IntKind.u64.wrap (2 ^ min i 64)
def scanF (t : List Int) (i : Nat) : List Nat → Option (Option (Nat × List Int))
  | [] => some none
  | r :: rs => (guard_table_without.f 100 t (sh1 i) (sh1 r)).bind fun rest => (guard_table_most.f rest).bind fun a => (guard_table_most.f t).bind fun b => if wrap64 (1 + a) = b then some (some (r, rest)) else scanF t i rs
def pairsG : Nat → List Int → List S85 → Nat → Option (List S85)
  | 0, _, l, _ => some l
  | n + 1, t, l, i => if i < t.length ∧ 0 ≤ rd t i ∧ rd t i < 18446744073709551616 ∧ l.length ≤ i then (scanF t i (bitsL (rd t i).toNat)).bind fun o => match o with
      | none => (guard_table_without.f 100 t (sh1 i) 0).bind fun t1 => pairsG n t1 l (i + 1)
      | some p => (guard_table_without.f 100 p.2 (sh1 i) 0).bind fun t1 => pairsG n t1 (l ++ [⟨(i : Int), (p.1 : Int)⟩]) (i + 1) else none
def guard_table_pairs.f (l0 : List Int) : Option (List S85) := if l0.length ≤ 64 then pairsG l0.length l0 [] 0 else none
set_option maxHeartbeats 8000000 in
set_option maxRecDepth 100000 in
theorem guard_table_pairs.calls (A0 : Option Addr) (c0 : Nat) (l0 : List Int) (r : List S85) (w : World) (hr0 : Kd.C (Kd.int .u64) w A0 l0.length l0) (hc0 : l0.length ≤ c0) (hT_ : TabOk w) (h : guard_table_pairs.f l0 = some r) :
    Calls Tryd.prog 68 #[.slice A0 l0.length c0] w fun e w' => ∃ v0_ : Value, e = .returned v0_ ∧ Kd.R k85 85 w' w.heap.size (fun _ => True) v0_ r ∧ Below w.heap.size w w' := by
  unfold guard_table_pairs.f at h
  split at h
  case isFalse => simp at h
  rename_i h64
  have HF0 := Aside0.mk (TRow.of_C hr0 hc0)
  have HT := Aside0.mk hT_
  have HH := Aside0.mk h
  clear h hr0 hT_
  refine calls_of_marks Tryd.func68 rfl ?_
  simp only [Tryd.ntmps68, List.size_toArray, List.length_cons, List.length_nil, Nat.reduceAdd, Nat.reduceSub, Array.replicate_succ, Array.replicate_zero, List.push_toArray, List.append_toArray, List.nil_append, List.cons_append]
  go_wp2
  refine wp_loop_ghost_k (fun k a' W => ∃ (i : Nat) (t : List Int) (l : List S85) (Ds : List Nat) (u3 u4 u5 u9 u10 u11 u12 u13 u14 u15 u16 u17 u18 u19 u20 u21 u22 u23 u24 u25 u26 u27 u28 u29 u30 u31 u32 u33 u34 u35 u36 u37 u38 u39 u40 u41 : Value), Aside0 (i + k = l0.length) ∧ Aside0 (pairsG k t l i = some r) ∧ Aside0 (PInv w w.heap.size (w.heap.size + 1) (fun _ => False) t l W) ∧ Aside0 (MarksOk w.heap.size Ds W) ∧ a' = { tmps := #[.slice A0 l0.length c0, .pointer (some ⟨w.heap.size, 0, none⟩), .pointer (some ⟨w.heap.size + 1, 0, none⟩), u3, u4, u5, .slice A0 l0.length c0, .int .i64 (l0.length : Int), .int .i64 (i : Int), u9, u10, u11, u12, u13, u14, u15, u16, u17, u18, u19, u20, u21, u22, u23, u24, u25, u26, u27, u28, u29, u30, u31, u32, u33, u34, u35, u36, u37, u38, u39, u40, u41], defers := marks Ds }) l0.length ?start ?round
  case start =>
    refine ⟨0, l0, [], [], undef, undef, undef, undef, undef, undef, undef, undef, undef, undef, undef, undef, undef, undef, undef, undef, undef, undef, undef, undef, undef, undef, undef, undef, undef, undef, undef, undef, undef, undef, undef, undef, undef, undef, undef, undef, ⟨by omega⟩, HH, ⟨?_, .slice A0 l0.length c0, .slice none 0 0, ?_, ?_, ?_, own_nil _ _ _ _, fun _ _ h => h⟩, ⟨MarksOk.nil _ _⟩, rfl⟩
    · exact ((Below.refl _ w).alloc (Nat.le_refl _) _).alloc (by simp) _
    · exact (Boxed.new w 111 _).alloc _
    · have h := Boxed.new (w.alloc (.cells #[.slice A0 l0.length c0] 111)) 42 (.slice none 0 0)
      rwa [World.size_alloc] at h
    · exact (HF0.out.step (fun k o _ ho _ => blk_alloc (blk_alloc ho _) _)).mono (fun k hk _ => ⟨by omega, by omega, by simp [Value.ownBlock], fun h => h⟩)
  case round =>
    rintro gk a' wr ⟨i, t, l, Ds, u3, u4, u5, u9, u10, u11, u12, u13, u14, u15, u16, u17, u18, u19, u20, u21, u22, u23, u24, u25, u26, u27, u28, u29, u30, u31, u32, u33, u34, u35, u36, u37, u38, u39, u40, u41, HI, HG, HP, HM, rfl⟩ J K hJ hK
    clear HH HF0
    cases gk with
    | zero =>
      have hi := HI.out
      have hl : l = r := Option.some.inj HG.out
      subst hl
      obtain ⟨hB, vt, vl, hbt, hbl, hF, hrow, _⟩ := HP.out
      have hcl := hbl.cell
      have hfl := hbl.frozen
      have hie : decide (i < l0.length) = false := by simp; omega
      obtain ⟨Al, cl, rfl⟩ := own_form hrow
      go_wp2
      refine leaves_marks (B := w.heap.size) (fun W => (Boxed W (w.heap.size + 1) 42 (.slice Al l.length cl) ∧ W.ownsRow w.heap.size 85 2 (.slice Al l.length cl) l.length (encP l)) ∧ Below w.heap.size w W) ?_ ?_ Ds _ (HM.out.keep ((KeepsOthers.setCell _ _ _).from _)) ?_
      · rintro W D o ⟨⟨z1, z2⟩, z3⟩ hD ho hc
        exact ⟨⟨boxed_keptC z1 (grownBy_putObj' W D _) (fun k e => by cases e; exact ⟨o, ho, hc⟩), ownsRow_putObj z2 _ ho hc⟩, z3.grown (grownBy_putObj' W D _) z3.size (fun k e => by cases e; exact hD)⟩
      · rintro W ⟨⟨z1, z2⟩, z3⟩
        have hc := z1.cell
        refine ⟨.slice Al l.length cl, ?_, _, rfl, ?_, z3⟩
        · simp only [results, show (Tryd.f68).results = #[.cell 2 42] from rfl]
          go_simp
        · exact R_encP z2 (fun _ _ => trivial)
      · exact ⟨⟨hbl.set _, hrow.kept (grownBy_setCell' wr (w.heap.size + 1) _) (.inr (hbl.not_row (by decide) hrow).symm)⟩, hB.setCell (p := ⟨w.heap.size + 1, 0, none⟩) (by simp) _⟩
    | succ k1 =>
      have hg := HG.out
      unfold pairsG at hg
      split at hg
      case isFalse => simp at hg
      rename_i hc
      obtain ⟨hit, h00, h01, hll⟩ := hc
      obtain ⟨o, ho, hrest⟩ := Option.bind_eq_some_iff.mp hg
      have HS := Aside0.mk ho
      have HN := Aside0.mk hrest
      clear hg ho hrest HG
      have hie : decide (i < l0.length) = true := by have := HI.out; simp; omega
      obtain ⟨hB, vt, vl, hbt, hbl, hF, hrow, _⟩ := HP.out
      obtain ⟨A, c, rfl, htc, hC⟩ := hF.read
      obtain ⟨adr, e0, hx0⟩ := Kd.at_int hC (i : Int) (by omega) (by omega)
      cases e0
      have p1 : decide (i < t.length) = true := by simp; omega
      have hct : (wr.alloc (.cells #[.int .i64 (i : Int)] 3)).cell? ⟨w.heap.size, 0, none⟩ = some (.slice (some adr) t.length c) := (hbt.alloc _).cell
      have hc3 : (wr.alloc (.cells #[.int .i64 (i : Int)] 3)).cell? ⟨wr.heap.size, 0, none⟩ = some (.int .i64 (i : Int)) := (Boxed.new wr 3 _).cell
      have hxr : (wr.alloc (.cells #[.int .i64 (i : Int)] 3)).cell? (adr.add i) = some (.int .u64 (rd t i)) := pw_cell_below (below_alloc (Below.refl _ _) _) (by simpa using hx0)
      go_wp2_with (go_at_call 83; refine (guard_bitsOf.calls (rd t i) _).mono ?_; rintro e w1 ⟨rfl, hw1⟩; rw [hw1]; clear hw1)
      have hsz := HT.out.two
      have hws := hB.size
      clear hct hc3 hxr hx0 hie p1 hbt hbl hF hrow hC
      obtain ⟨x, hx, hx64⟩ : ∃ x : Nat, rd t i = (x : Int) ∧ x < 18446744073709551616 := ⟨(rd t i).toNat, by omega, by omega⟩
      have HS2 := Aside0.mk (show scanF t i (bitsL x) = some o from by have := HS.out; rw [hx] at this; exact this)
      rw [hx]
      clear HS h00 h01
      obtain ⟨W1, eW1⟩ : ∃ W1, (wr.alloc (.cells #[.int .i64 (i : Int)] 3)).alloc (.cells #[.int .u64 (x : Int)] 116) = W1 := ⟨_, rfl⟩
      have hb3 : Boxed W1 wr.heap.size 3 (.int .i64 (i : Int)) := eW1 ▸ (Boxed.new wr 3 _).alloc _
      have hbB : Boxed W1 (wr.heap.size + 1) 116 (.int .u64 (x : Int)) := by
        have h := Boxed.new (wr.alloc (.cells #[.int .i64 (i : Int)] 3)) 116 (.int .u64 (x : Int))
        rw [eW1, World.size_alloc] at h
        exact h
      have hS1 : W1.heap.size = wr.heap.size + 2 := by rw [← eW1]; simp
      have hP1 : PInv w w.heap.size (w.heap.size + 1) (fun k => k = wr.heap.size ∨ k = wr.heap.size + 1) t l W1 := by
        rw [← eW1]
        have h := HP.out
        obtain ⟨_, _, _, q1, q2, _⟩ := HP.out
        have g1 := q1.lt
        have g2 := q2.lt
        exact ((h.avoid (fun k hk hlt => by omega)).alloc (by omega) (by omega) _).alloc (by omega) (by omega) _
      have hM1 : MarksOk w.heap.size Ds W1 := eW1 ▸ (HM.out.keep ((KeepsOthers.alloc _ _).from _)).keep ((KeepsOthers.alloc _ _).from _)
      have hMlt := hM1.lt
      have hwi := Aside0.mk (show wrap64 ((i : Int) + 1) = ((i + 1 : Nat) : Int) from by have := HI.out; rw [← i64_w, IntKind.wrap_i64]; omega)
      rw [eW1]
      obtain ⟨_, vt1, vl1, q1, q2, _⟩ := HP.out
      have g1 := q1.lt
      have g2 := q2.lt
      clear q1 q2 eW1 HP HM
      refine (wpIn_wide (n := 3)).1 ?_
      refine range_out (xs := bitsL x) rfl (enters_of Tryd.func102 (by kernel_rfl) rfl) (bits_seq x (wr.heap.size + 1) hx64 W1 hbB (HT.out.far (.inl (Nat.le_refl _)) hP1.1)) (fun _ => rfl) (fun h k => h.trans k)
        (fun W l' r1 r2 hl' h => KeepB.put (by omega) (by omega)) (fun A A' ⟨v, e⟩ => by rw [e]; exact (KeepsOthers.setCell _ _ _).from _)
        (fun pre W => (∀ rest, scanF t i (pre ++ rest) = scanF t i rest) ∧ PInv w w.heap.size (w.heap.size + 1) (fun k => k = wr.heap.size ∨ k = wr.heap.size + 1) t l W ∧ Boxed W wr.heap.size 3 (.int .i64 (i : Int)) ∧ (∃ u, Boxed W (wr.heap.size + 1) 116 u) ∧ MarksOk w.heap.size Ds W)
        (fun cd pre W => cd = .exit 2 ∧ ∃ p, o = some p ∧ PInv w w.heap.size (w.heap.size + 1) (fun k => k = wr.heap.size ∨ k = wr.heap.size + 1) p.2 (l ++ [⟨(i : Int), (p.1 : Int)⟩]) W ∧ Boxed W wr.heap.size 3 (.int .i64 (i : Int)) ∧ (∃ u, Boxed W (wr.heap.size + 1) 116 u) ∧ MarksOk w.heap.size Ds W)
        ?hI ?hIx ?hIs ?hIxs ?h0 (fun rr a' _ => a' = { tmps := #[.slice A0 l0.length c0, .pointer (some ⟨w.heap.size, 0, none⟩), .pointer (some ⟨w.heap.size + 1, 0, none⟩), .pointer (some ⟨wr.heap.size, 0, none⟩), .int .i64 (rr : Int), u5, .slice A0 l0.length c0, .int .i64 (l0.length : Int), .int .i64 (i : Int), .bool true, .int .i64 (i : Int), .slice (some adr) t.length c, .int .i64 (i : Int), .pointer (some (adr.add i)), .int .u64 (x : Int), .func (.func 102) #[] #[.pointer (some ⟨wr.heap.size + 1, 0, none⟩)], .int .i64 (rr : Int), u17, u18, u19, u20, u21, u22, u23, u24, u25, u26, u27, u28, u29, u30, u31, u32, u33, u34, u35, u36, u37, u38, u39, u40, u41], defers := [] }) (fun _ _ _ _ _ _ h _ _ => h) ?assign ?body ?done ?stop
      case hI =>
        rintro s W W' row ⟨z1, z2, z3, ⟨u, z4⟩, z5⟩ hg hrow
        have hr' := fun r e => (hrow r e).2
        exact ⟨z1, z2.grown hg (by omega) (by omega) (fun r e => ⟨by have := (hrow r e).1; omega, .inl (hr' r e)⟩), boxed_keptC z3 hg hr', ⟨u, boxed_keptC z4 hg hr'⟩, z5.grown hMlt hg (fun r e => (hrow r e).1)⟩
      case hIx =>
        rintro cd s W W' row ⟨rfl, p, z1, z2, z3, ⟨u, z4⟩, z5⟩ hg hrow
        have hr' := fun r e => (hrow r e).2
        exact ⟨rfl, p, z1, z2.grown hg (by omega) (by omega) (fun r e => ⟨by have := (hrow r e).1; omega, .inl (hr' r e)⟩), boxed_keptC z3 hg hr', ⟨u, boxed_keptC z4 hg hr'⟩, z5.grown hMlt hg (fun r e => (hrow r e).1)⟩
      case hIs =>
        rintro s A A' ⟨z1, z2, z3, ⟨u, z4⟩, z5⟩ ⟨z, rfl⟩
        exact ⟨z1, z2.grown (grownBy_setCell' A _ z) (by omega) (by omega) (fun r e => by cases e; exact ⟨by omega, .inr (.inr rfl)⟩), z3.kept (grownBy_setCell' A _ z) (by simp), ⟨z, z4.set z⟩, z5.keep ((KeepsOthers.setCell _ _ _).from _)⟩
      case hIxs =>
        rintro cd s A A' ⟨rfl, p, z1, z2, z3, ⟨u, z4⟩, z5⟩ ⟨z, rfl⟩
        exact ⟨rfl, p, z1, z2.grown (grownBy_setCell' A _ z) (by omega) (by omega) (fun r e => by cases e; exact ⟨by omega, .inr (.inr rfl)⟩), z3.kept (grownBy_setCell' A _ z) (by simp), ⟨z, z4.set z⟩, z5.keep ((KeepsOthers.setCell _ _ _).from _)⟩
      case h0 => exact ⟨fun _ => rfl, hP1, hb3, ⟨_, hbB⟩, hM1⟩
      case assign =>
        intro m l' pre rr W K hI hpre hK
        gi_wp2
        exact hK _ _ (KeepsFrom.refl _ _) (KeepB.refl _ _) hI rfl
      case body =>
        rintro m l' pre rr a' W hl' hr' ⟨hsc, hPI, hI3, ⟨u, hIB⟩, hIM⟩ rfl hpre
        obtain ⟨hWB, vt2, vl2, k1b, k2b, hF2, hrow2, hnS⟩ := hPI
        obtain ⟨At, ct, rfl, htc2, hCt⟩ := hF2.read
        obtain ⟨suf, hsuf⟩ := hpre
        have hsome := HS2.out
        rw [← hsuf, List.append_assoc, hsc, List.singleton_append] at hsome
        unfold scanF at hsome
        obtain ⟨rest, hw1, hsome⟩ := Option.bind_eq_some_iff.mp hsome
        obtain ⟨m1, hm1, hsome⟩ := Option.bind_eq_some_iff.mp hsome
        obtain ⟨m2, hm2, hsome⟩ := Option.bind_eq_some_iff.mp hsome
        have hc1 : W.drew.cell? ⟨w.heap.size, 0, none⟩ = some (.slice At t.length ct) := k1b.cell
        have hc3 : W.drew.cell? ⟨wr.heap.size, 0, none⟩ = some (.int .i64 (i : Int)) := hI3.cell
        have hmx : Tryd.prog.follows .mixedOrders = true := by kernel_rfl
        gi_wp2
        refine wpIn_mono (Q := fun e a' W' => e = Exit.normal ∧ ∃ v5, a' = { tmps := #[.slice A0 l0.length c0, .pointer (some ⟨w.heap.size, 0, none⟩), .pointer (some ⟨w.heap.size + 1, 0, none⟩), .pointer (some ⟨wr.heap.size, 0, none⟩), .int .i64 (rr : Int), v5, .slice A0 l0.length c0, .int .i64 (l0.length : Int), .int .i64 (i : Int), .bool true, .int .i64 (i : Int), .slice (some adr) t.length c, .int .i64 (i : Int), .pointer (some (adr.add i)), .int .u64 (x : Int), .func (.func 102) #[] #[.pointer (some ⟨wr.heap.size + 1, 0, none⟩)], .int .i64 (rr : Int), .slice At t.length ct, .int .i64 (i : Int), .int .u64 (sh1 i), .int .i64 (rr : Int), .int .u64 (sh1 rr), v5, u23, u24, u25, u26, u27, u28, u29, u30, u31, u32, u33, u34, u35, u36, u37, u38, u39, u40, u41], defers := [] } ∧ Kd.R (Kd.int .u64) 116 W' W.heap.size (fun _ => True) v5 rest ∧ Below W.heap.size W W') ?reg ?cont
        case reg =>
          gi_region_with_o (refine ⟨trivial, fun h => by simp [Fence.wide] at h, ?_⟩; gi_at_call 79; refine (CallsIn.inRound l' (callsIn_wide.2 (guard_table_without.calls 100 At ct t (sh1 i) (sh1 rr) rest _ (Kd.C_below hCt (below_drew (Below.refl _ _))) htc2 hw1))).mono ?_; rintro e w5 ⟨v5, rfl, ho5, hb5⟩)
          all_goals exact ⟨rfl, v5, rfl, ho5, below_step (below_drew (Below.refl _ _)) hb5⟩
        case cont =>
          rintro _ a' W5 ⟨rfl, v5, rfl, hR5, hb5⟩
          obtain ⟨A5, c5, rfl, hc5, hC5⟩ := Kd.R_reads hR5
          have hWB5 := below_step hWB hb5
          have hT5 : TabOk W5 := HT.out.far (.inl (Nat.le_refl _)) hWB5
          have hCt5 := Kd.C_below hCt hb5
          clear hc1 hc3
          have hc1 : W5.drew.cell? ⟨w.heap.size, 0, none⟩ = some (.slice At t.length ct) := pw_cell_below (below_drew hb5) k1b.cell
          have MR := Aside0.mk (fun W6 (hb : Below W5.heap.size W5 W6) => callsIn_wide (n := m - 1).2 (guard_table_most.calls A5 c5 rest m1 W6 (Kd.C_below hC5 hb) hc5 (hT5.far (.inl (Nat.le_refl _)) hb) hm1))
          have MT := Aside0.mk (fun W6 (hb : Below W5.heap.size W5 W6) => callsIn_wide (n := m - 1).2 (guard_table_most.calls At ct t m2 W6 (Kd.C_below hCt5 hb) htc2 (hT5.far (.inl (Nat.le_refl _)) hb) hm2))
          gi_wp2
          refine wpIn_mono (Q := fun e a' W' => e = Exit.normal ∧ a' = { tmps := #[.slice A0 l0.length c0, .pointer (some ⟨w.heap.size, 0, none⟩), .pointer (some ⟨w.heap.size + 1, 0, none⟩), .pointer (some ⟨wr.heap.size, 0, none⟩), .int .i64 (rr : Int), .slice A5 rest.length c5, .slice A0 l0.length c0, .int .i64 (l0.length : Int), .int .i64 (i : Int), .bool true, .int .i64 (i : Int), .slice (some adr) t.length c, .int .i64 (i : Int), .pointer (some (adr.add i)), .int .u64 (x : Int), .func (.func 102) #[] #[.pointer (some ⟨wr.heap.size + 1, 0, none⟩)], .int .i64 (rr : Int), .slice At t.length ct, .int .i64 (i : Int), .int .u64 (sh1 i), .int .i64 (rr : Int), .int .u64 (sh1 rr), .slice A5 rest.length c5, .slice A5 rest.length c5, .int .i64 m1, .int .i64 (IntKind.i64.wrap (1 + m1)), .slice At t.length ct, .int .i64 m2, .bool (IntKind.i64.wrap (1 + m1) == m2), u29, u30, u31, u32, u33, u34, u35, u36, u37, u38, u39, u40, u41], defers := [] } ∧ Below W5.heap.size W5 W') ?reg7 ?cont7
          case reg7 =>
            gi_region_with_o (first
              | (refine ⟨trivial, fun h => by simp [Fence.wide] at h, ?_⟩; gi_at_call 69; with_reducible refine (CallsIn.inRound l' (MR.out _ (by first | exact below_drew (Below.refl _ _) | exact hbB))).mono ?_; rintro e w6 ⟨rfl, hb6⟩; (first | (have hbA := below_step hbB hb6) | (have hbA := below_step (below_drew (Below.refl _ W5)) hb6; have hc1A := pw_cell_below hb6 hc1)); clear hb6)
              | (refine ⟨trivial, fun h => by simp [Fence.wide] at h, ?_⟩; gi_at_call 69; with_reducible refine (CallsIn.inRound l' (MT.out _ (by first | exact below_drew (Below.refl _ _) | exact hbA))).mono ?_; rintro e w6 ⟨rfl, hb6⟩; (first | (have hbB := below_step hbA hb6) | (have hbB := below_step (below_drew (Below.refl _ W5)) hb6)); clear hb6))
            all_goals exact ⟨rfl, rfl, by first | exact hbB | exact hbA⟩
          case cont7 =>
            rintro _ a' W7 ⟨rfl, rfl, hb7⟩
            have hb57 := below_step hb5 hb7
            have hWB7 := below_step hWB5 hb7
            have hsz7 := hb57.size
            have k1c : Boxed W7 w.heap.size 111 (.slice At t.length ct) := blk_below k1b hb57
            have k2c : Boxed W7 (w.heap.size + 1) 42 vl2 := blk_below k2b hb57
            have k3c : Boxed W7 wr.heap.size 3 (.int .i64 (i : Int)) := blk_below hI3 hb57
            have kBc : Boxed W7 (wr.heap.size + 1) 116 u := blk_below hIB hb57
            have hKB : KeepB (wr.heap.size + 1) W W7 := KeepB.below hb57 hIB.lt (by have := hIB.lt; omega)
            have hlt1 := k1b.lt
            have hlt3 := hI3.lt
            have hltB := hIB.lt
            by_cases heq : wrap64 (1 + m1) = m2
            · rw [if_pos heq] at hsome
              obtain rfl := (Option.some.inj hsome).symm
              have hbq : (IntKind.i64.wrap (1 + m1) == m2) = true := by rw [i64_w]; exact beq_iff_eq.mpr heq
              simp only [hbq]
              have hrow7 := own_step hrow2 (fun k o hk ho _ => blk_below ho hb57)
              obtain ⟨Al, cl, rfl⟩ := own_form hrow2
              have hcl : W7.cell? ⟨w.heap.size + 1, 0, none⟩ = some (.slice Al l.length cl) := k2c.cell
              have hci : W7.cell? ⟨wr.heap.size, 0, none⟩ = some (.int .i64 (i : Int)) := k3c.cell
              obtain ⟨i0, hi, hz0, hz1, hz2⟩ := info_parts info85
              have hl64 : l.length + 1 ≤ 65 := by have := HI.out; omega
              gi_wp2_with (gi_at_builtin; go_loud (refine wpListIn_append_own_at _ rfl _ _ 42 rfl w.heap.size 85 i0 (.agg #[.int .i64 0, .int .i64 0]) 2 16 Tryd.underlying42 hi hz0 hz1 hz2 rfl (by decide) _ _ _ rfl (hrow7.alloc _) ⟨W7.heap.size, 0, none⟩ 1 1 [.int .i64 (i : Int), .int .i64 (rr : Int)] rfl rfl (cell_two_new _ _ _ _) (by simp [Value.oneCell']) (by simp only [maxLen]; omega) (by omega) (by have := hWB7.size; simp; omega) ?_; intro v' w8 hown' hgrow _ hat'; obtain ⟨g', cap', rfl⟩ := ownsRow_succ hown'; have k2d := (k2c.alloc (.cells #[.int .i64 (i : Int), .int .i64 (rr : Int)] 85)).kept hgrow (k2c.not_row (by decide) hrow7); have hc8 := k2d.cell; have hf8 := k2d.frozen; have k1d := (k1c.alloc (.cells #[.int .i64 (i : Int), .int .i64 (rr : Int)] 85)).kept hgrow (k1c.not_row (by decide) hrow7); have hc9 : (w8.setCell ⟨w.heap.size + 1, 0, none⟩ (.slice (some ⟨g', 0, none⟩) (l.length + 1) cap')).cell? ⟨w.heap.size, 0, none⟩ = some (.slice At t.length ct) := (k1d.kept (grownBy_setCell' w8 _ _) (by simp)).cell; have hf9 := (k1d.kept (grownBy_setCell' w8 (w.heap.size + 1) (.slice (some ⟨g', 0, none⟩) (l.length + 1) cap')) (by simp)).frozen))
              clear hc8 hf8 hc9 hf9 hcl hci hc1 hsome
              have hown8 := own_cells hrow7
              have hat8 : ∀ k, (Value.slice (some ⟨g', 0, none⟩) (l.length + 1) cap').ownBlock = some k → (Value.slice Al l.length cl).ownBlock = some k ∨ k = W7.heap.size + 1 := fun k hk => by
                rcases hat' with e | e
                · exact .inl (e ▸ hk)
                · rw [e] at hk
                  simp only [World.size_alloc, Option.some.injEq] at hk
                  exact .inr hk.symm
              have hlt8 : ∀ k, (Value.slice Al l.length cl).ownBlock = some k → k < W.heap.size := fun k hk => by
                obtain ⟨_, o, ho, _⟩ := own_cells hrow2 k hk
                exact (Array.getElem?_eq_some_iff.1 ho).1
              have hWB8 : Below w.heap.size w w8 := (hWB7.alloc hWB7.size _).grown hgrow (by have := hWB7.size; simp; omega) (fun k hk => (hown8 k hk).1)
              have s1 := grownBy_setCell' w8 (w.heap.size + 1) (.slice (some ⟨g', 0, none⟩) (l.length + 1) cap')
              obtain ⟨w9, e9⟩ : ∃ w9, w8.setCell ⟨w.heap.size + 1, 0, none⟩ (.slice (some ⟨g', 0, none⟩) (l.length + 1) cap') = w9 := ⟨_, rfl⟩
              rw [e9] at s1 ⊢
              have s2 := grownBy_setCell' w9 w.heap.size (.slice A5 rest.length c5)
              have hWB9 : Below w.heap.size w w9 := e9 ▸ hWB8.setCell (p := ⟨w.heap.size + 1, 0, none⟩) (by simp) _
              have k2e : Boxed w9 (w.heap.size + 1) 42 (.slice (some ⟨g', 0, none⟩) (l.length + 1) cap') := e9 ▸ k2d.set _
              have k1e := (k1d.kept s1 (by simp)).set (.slice A5 rest.length c5)
              have kBd := (((kBc.alloc (.cells #[.int .i64 (i : Int), .int .i64 (rr : Int)] 85)).kept hgrow (fun e => by have := hnS _ e.symm; simp at this)).kept s1 (by simp; omega)).kept s2 (by simp; omega)
              have k3d := (((k3c.alloc (.cells #[.int .i64 (i : Int), .int .i64 (rr : Int)] 85)).kept hgrow (fun e => by have := hnS _ e.symm; simp at this)).kept s1 (by simp; omega)).kept s2 (by simp; omega)
              have hWBa : Below w.heap.size w (w9.setCell ⟨w.heap.size, 0, none⟩ (.slice A5 rest.length c5)) := hWB9.setCell (p := ⟨w.heap.size, 0, none⟩) (Nat.le_refl _) _
              have hKF : ∀ B', KeepsFrom B' W (w9.setCell ⟨w.heap.size, 0, none⟩ (.slice A5 rest.length c5)) := fun B' => by
                refine (keepsFrom_below hb57).trans ((((KeepsOthers.alloc _ _).trans (KeepsOthers.of_grownBy hgrow fun j o ej hj => ?_)).trans (e9 ▸ KeepsOthers.setCell _ _ _)).trans (KeepsOthers.setCell _ _ _) |>.from _)
                obtain ⟨_, o', ho', hc'⟩ := hown8 j ej
                rw [blk_alloc ho' _] at hj
                cases hj
                exact hc'
              refine ⟨hKF _, rfl, ⟨hWBa, .slice A5 rest.length c5, .slice (some ⟨g', 0, none⟩) (l.length + 1) cap', k1e, k2e.kept s2 (by simp), ?_, ?_, ?_⟩, k3d, ⟨u, kBd⟩, hIM.keep (hKF _)⟩
              · refine (TRow.of_R hR5).mono (fun k hk hlt => ?_) |>.step (W' := w9.setCell ⟨w.heap.size, 0, none⟩ (.slice A5 rest.length c5)) (X := fun k => (k ≠ w.heap.size ∧ k ≠ w.heap.size + 1 ∧ some k ≠ (Value.slice (some ⟨g', 0, none⟩) (l.length + 1) cap').ownBlock ∧ ¬(k = wr.heap.size ∨ k = wr.heap.size + 1)) ∧ W.heap.size ≤ k ∧ k < W5.heap.size) (fun k o hk ho hoc => ?_) |>.mono (fun k hk _ => hk.1)
                · refine ⟨⟨by omega, by omega, fun e => ?_, by omega⟩, hk, hlt⟩
                  rcases hat8 k e.symm with h | h
                  · have := hlt8 k h; omega
                  · have := hb7.size; omega
                · have h7 := (hb7.block k hk.2.2).trans ho
                  have h8 := (hgrow.block k (by have := hb7.size; have := hk.2.2; simp; omega) (fun e => by have := hlt8 k e.symm; omega)).trans (blk_alloc h7 _)
                  have h9 := (s1.block k (Array.getElem?_eq_some_iff.1 h8).1 (fun e => by simp at e; omega)).trans h8
                  exact (s2.block k (Array.getElem?_eq_some_iff.1 h9).1 (fun e => by simp at e; omega)).trans h9
              · have h9 := hown'.kept s1 (.inr (by rw [← e9] at k2e; exact (k2d.not_row (by decide) hown').symm))
                have h10 := h9.kept s2 (.inr ((k1d.kept s1 (by simp)).not_row (by decide) h9).symm)
                simpa [encP] using h10
              · intro k hk
                rcases hat8 k hk with h | h
                · exact hnS k h
                · omega
            · rw [if_neg heq] at hsome
              have hbq : (IntKind.i64.wrap (1 + m1) == m2) = false := by rw [i64_w]; exact beq_eq_false_iff_ne.mpr heq
              simp only [hbq]
              gi_wp2
              refine ⟨keepsFrom_below hb57, hKB, fun rs => ?_, ?_, k3c, ⟨u, kBc⟩, hIM.keep (keepsFrom_below hb57)⟩
              · rw [List.append_assoc, hsc, List.singleton_append]
                show ((guard_table_without.f 100 t (sh1 i) (sh1 rr)).bind _) = _
                rw [hw1]
                show ((guard_table_most.f rest).bind _) = _
                rw [hm1]
                show ((guard_table_most.f t).bind _) = _
                rw [hm2]
                show (if wrap64 (1 + m1) = m2 then _ else _) = _
                rw [if_neg heq]
              · exact PInv.below ⟨hWB, _, vl2, k1b, k2b, hF2, hrow2, hnS⟩ (by omega) (by omega) hb57
      case done =>
        rintro D W hD ⟨hsc, hPI, hI3, ⟨u, hIB⟩, hIM⟩ hDm
        have ho : o = none := by
          have h1 := hsc []
          rw [List.append_nil] at h1
          exact (Option.some.inj ((h1.symm.trans HS2.out : some none = some o))).symm
        subst ho
        obtain ⟨t1, hw1, hrest⟩ := Option.bind_eq_some_iff.mp HN.out
        clear HN HS2
        obtain ⟨hWB, vt2, vl2, k1b, k2b, hF2, hrow2, hnS⟩ := hPI
        obtain ⟨At, ct, rfl, htc2, hCt⟩ := hF2.read
        have hc1 : W.drew.cell? ⟨w.heap.size, 0, none⟩ = some (.slice At t.length ct) := k1b.cell
        have hc3 : W.drew.cell? ⟨wr.heap.size, 0, none⟩ = some (.int .i64 (i : Int)) := hI3.cell
        have hmx : Tryd.prog.follows .mixedOrders = true := by kernel_rfl
        go_wp2_with (fail)
        refine start_ (n := 5) (S := fun w' => w'.cell? ⟨w.heap.size, 0, none⟩ = some (.slice At t.length ct) ∧ w'.cell? ⟨wr.heap.size, 0, none⟩ = some (.int .i64 (i : Int))) (ds := [4]) (bl 5 0) (by kernel_rfl) rfl rfl ⟨hc1, hc3⟩ (fun hHeld => ?_)
        refine tS 0 36 (bl 5 1) hHeld ?_
        refine tS 1 37 (bl 5 3) hHeld ?_
        refine pS 2 38 (bl 5 7) ?_
        refine one_ (i := 3) (N := some 39) (bl 5 15) rfl rfl (by kernel_rfl) (by decide) (fun K hK => ?_)
        refine goes_ Tryd.func79 (by kernel_rfl) rfl #[.slice At t.length ct, .int .u64 (sh1 i), .int .u64 0] (by rfl) rfl rfl (by simp only [List.map_toArray, List.map_cons, List.map_nil]; rfl) ?_
        with_reducible refine (guard_table_without.calls 100 At ct t (sh1 i) 0 t1 _ (Kd.C_below hCt (below_drew (Below.refl _ _))) htc2 hw1).mono ?_
        rintro e w5 ⟨v5, rfl, ho5, hb5⟩
        refine ⟨_, rfl, ?_⟩
        obtain ⟨A5, c5, rfl, hc5, hC5⟩ := Kd.R_reads ho5
        have hf5 : w5.frozen? ⟨w.heap.size, 0, none⟩ = false := (Boxed.frozen (blk_below (blk_drew k1b) hb5))
        refine hK.out _ _ ⟨pw_cell_below hb5 hc1, pw_cell_below hb5 hc3⟩ (fun hHeld => ?_)
        clear hK K
        refine nS 39 ?_
        refine last_ (i := 4) (N := none) (bl 5 31) rfl rfl (by kernel_rfl) (by decide) (fun K hK => ?_)
        refine sS ?_
        refine hK.out _ _ ?_
        clear hK K
        refine done_ (by kernel_rfl) ?_
        go_wp2
        have hWB5 := below_step (below_step hWB (below_drew (Below.refl _ W))) hb5
        have hb5' := below_step (below_drew (Below.refl _ W)) hb5
        have q1 := k1b.lt
        have s1 := grownBy_setCell' w5 w.heap.size (.slice A5 t1.length c5)
        have k1e : Boxed w5 w.heap.size 111 (.slice At t.length ct) := blk_below k1b hb5'
        have k2e : Boxed w5 (w.heap.size + 1) 42 vl2 := blk_below k2b hb5'
        have hrow5 := own_step hrow2 (fun k o hk ho _ => blk_below ho hb5')
        rw [hwi.out]
        refine Handed.intro k1 (Nat.lt_succ_self _) (hJ _ _ _ ⟨i + 1, t1, l, D :: Ds, _, _, _, _, _, _, _, _, _, _, _, _, _, _, _, _, _, _, _, _, _, _, _, _, _, _, _, _, _, _, _, _, _, _, _, _, ⟨by have := HI.out; omega⟩, ⟨hrest⟩, ⟨hWB5.setCell (p := ⟨w.heap.size, 0, none⟩) (Nat.le_refl _) _, .slice A5 t1.length c5, vl2, k1e.set _, k2e.kept s1 (by simp), ?_, hrow5.kept s1 (.inr (k1e.not_row (by decide) hrow5).symm), fun _ _ h => h⟩, ⟨MarksOk.cons ((hIM.keep (keepsFrom_below hb5')).keep ((KeepsOthers.setCell _ _ _).from _)) (by have := hWB.size; omega) ?_ (fun hm => by have := hMlt D hm; omega)⟩, rfl⟩)
        · refine (TRow.of_R ho5).step (X := fun k => W.heap.size ≤ k) (fun k o hk ho _ => (s1.block k (Array.getElem?_eq_some_iff.1 ho).1 (fun e => by simp at e; omega)).trans ho) |>.mono (fun k hk _ => ⟨by omega, by have := k2b.lt; omega, fun e => ?_, fun h => h⟩)
          obtain ⟨_, o, ho, _⟩ := own_cells hrow2 k e.symm
          have := (Array.getElem?_eq_some_iff.1 ho).1
          omega
        · exact (KeepsOthers.setCell _ _ _).same _ _ (blk_below hDm hb5') rfl
      case stop =>
        rintro D cd pre W hD _ ⟨rfl, p, rfl, hPI, hI3, ⟨u, hIB⟩, hIM⟩ hDm
        obtain ⟨t1, hw1, hrest⟩ := Option.bind_eq_some_iff.mp HN.out
        clear HN HS2
        obtain ⟨hWB, vt2, vl2, k1b, k2b, hF2, hrow2, hnS⟩ := hPI
        obtain ⟨At, ct, rfl, htc2, hCt⟩ := hF2.read
        have hc1 : W.drew.cell? ⟨w.heap.size, 0, none⟩ = some (.slice At p.2.length ct) := k1b.cell
        have hc3 : W.drew.cell? ⟨wr.heap.size, 0, none⟩ = some (.int .i64 (i : Int)) := hI3.cell
        have hmx : Tryd.prog.follows .mixedOrders = true := by kernel_rfl
        gi_wp2_with (fail)
        go_wp2_with (fail)
        refine start_ (n := 5) (S := fun w' => w'.cell? ⟨w.heap.size, 0, none⟩ = some (.slice At p.2.length ct) ∧ w'.cell? ⟨wr.heap.size, 0, none⟩ = some (.int .i64 (i : Int))) (ds := [4]) (bl 5 0) (by kernel_rfl) rfl rfl ⟨hc1, hc3⟩ (fun hHeld => ?_)
        refine tS 0 36 (bl 5 1) hHeld ?_
        refine tS 1 37 (bl 5 3) hHeld ?_
        refine pS 2 38 (bl 5 7) ?_
        refine one_ (i := 3) (N := some 39) (bl 5 15) rfl rfl (by kernel_rfl) (by decide) (fun K hK => ?_)
        refine goes_ Tryd.func79 (by kernel_rfl) rfl #[.slice At p.2.length ct, .int .u64 (sh1 i), .int .u64 0] (by rfl) rfl rfl (by simp only [List.map_toArray, List.map_cons, List.map_nil]; rfl) ?_
        with_reducible refine (guard_table_without.calls 100 At ct p.2 (sh1 i) 0 t1 _ (Kd.C_below hCt (below_drew (Below.refl _ _))) htc2 hw1).mono ?_
        rintro e w5 ⟨v5, rfl, ho5, hb5⟩
        refine ⟨_, rfl, ?_⟩
        obtain ⟨A5, c5, rfl, hc5, hC5⟩ := Kd.R_reads ho5
        have hf5 : w5.frozen? ⟨w.heap.size, 0, none⟩ = false := (Boxed.frozen (blk_below (blk_drew k1b) hb5))
        refine hK.out _ _ ⟨pw_cell_below hb5 hc1, pw_cell_below hb5 hc3⟩ (fun hHeld => ?_)
        clear hK K
        refine nS 39 ?_
        refine last_ (i := 4) (N := none) (bl 5 31) rfl rfl (by kernel_rfl) (by decide) (fun K hK => ?_)
        refine sS ?_
        refine hK.out _ _ ?_
        clear hK K
        refine done_ (by kernel_rfl) ?_
        go_wp2
        have hWB5 := below_step (below_step hWB (below_drew (Below.refl _ W))) hb5
        have hb5' := below_step (below_drew (Below.refl _ W)) hb5
        have q1 := k1b.lt
        have s1 := grownBy_setCell' w5 w.heap.size (.slice A5 t1.length c5)
        have k1e : Boxed w5 w.heap.size 111 (.slice At p.2.length ct) := blk_below k1b hb5'
        have k2e : Boxed w5 (w.heap.size + 1) 42 vl2 := blk_below k2b hb5'
        have hrow5 := own_step hrow2 (fun k o hk ho _ => blk_below ho hb5')
        rw [hwi.out]
        refine Handed.intro k1 (Nat.lt_succ_self _) (hJ _ _ _ ⟨i + 1, t1, (l ++ [⟨(i : Int), (p.1 : Int)⟩]), D :: Ds, _, _, _, _, _, _, _, _, _, _, _, _, _, _, _, _, _, _, _, _, _, _, _, _, _, _, _, _, _, _, _, _, _, _, _, _, ⟨by have := HI.out; omega⟩, ⟨hrest⟩, ⟨hWB5.setCell (p := ⟨w.heap.size, 0, none⟩) (Nat.le_refl _) _, .slice A5 t1.length c5, vl2, k1e.set _, k2e.kept s1 (by simp), ?_, hrow5.kept s1 (.inr (k1e.not_row (by decide) hrow5).symm), fun _ _ h => h⟩, ⟨MarksOk.cons ((hIM.keep (keepsFrom_below hb5')).keep ((KeepsOthers.setCell _ _ _).from _)) (by have := hWB.size; omega) ?_ (fun hm => by have := hMlt D hm; omega)⟩, rfl⟩)
        · refine (TRow.of_R ho5).step (X := fun k => W.heap.size ≤ k) (fun k o hk ho _ => (s1.block k (Array.getElem?_eq_some_iff.1 ho).1 (fun e => by simp at e; omega)).trans ho) |>.mono (fun k hk _ => ⟨by omega, by have := k2b.lt; omega, fun e => ?_, fun h => h⟩)
          obtain ⟨_, o, ho, _⟩ := own_cells hrow2 k e.symm
          have := (Array.getElem?_eq_some_iff.1 ho).1
          omega
        · exact (KeepsOthers.setCell _ _ _).same _ _ (blk_below hDm hb5') rfl
end Go.Proofs.YtamibghbkjmmeaaDoor.G
end
section
namespace Go.Proofs.YtamibghbkjmmeaaDoor.G
open Go.RowKit Go.Proofs.YtamibghbkjmmeaaDoorW.PrintWords Go.Proofs.YtamibghbkjmmeaaDoorW.PrintLast Go.Proofs.YtamibghbkjmmeaaDoorW.PrintMore
set_option linter.unusedVariables false
set_option linter.unusedSimpArgs false
def cutG (l0 l1 : List S24) (g0 g1 g2 g3 : Int) : Nat → Nat → Int → Int → Option (Int × Int)
  | 0, _, left, pairs => some (left, pairs)
  | n + 1, i, left, pairs => (guard_gauge_table.f 1000 g0 g1 g2 g3 l0 (l1 ++ [rd_T24 l0 i]) 2).bind fun t => (guard_table_most.f t).bind fun m => if m > pairs then cutG l0 l1 g0 g1 g2 g3 n (i + 1) i m else cutG l0 l1 g0 g1 g2 g3 n (i + 1) left pairs
def guard_Cut.f (l0 l1 : List S24) (g0 g1 g2 g3 : Int) : Option (Int × Int × Int) :=
  if checkS l0 l1 g0 g1 g2 g3 = 0 then (guard_gauge_table.f 1000 g0 g1 g2 g3 l0 l1 2).bind fun t => (guard_table_most.f t).bind fun now => (cutG l0 l1 g0 g1 g2 g3 l0.length 0 0 now).bind fun p => if p.2 = now then some (0, 0, 7) else some (p.1, p.2, 0)
  else some (0, 0, checkS l0 l1 g0 g1 g2 g3)
theorem check_len {l r : List S24} {g0 g1 g2 g3 : Int} (h : checkS l r g0 g1 g2 g3 = 0) : l.length ≤ 8 ∧ r.length ≤ 8 := by
  unfold checkS at h
  split at h
  · cases h
  · rename_i hn
    have := mx_le _ _ hn
    omega
theorem olds_of {A : Option Addr} {w : World} {l : List S24} (h : Kd.C k24 w A l.length l) : ∃ olds : List Value, olds.length = l.length * 2 ∧ Reps (k24.K w) 2 l olds ∧ ∀ b, A = some b → ∀ j u, olds[j]? = some u → w.cell? (b.add j) = some u := by
  cases A with
  | none =>
    have hl : l = [] := by
      cases l with
      | nil => rfl
      | cons y ys =>
        obtain ⟨ad', _, _, e', _⟩ := at_T24 h 0 (by omega) (by simp)
        cases e'
    subst hl
    exact ⟨[], rfl, Reps.none _ _, fun b e => by cases e⟩
  | some ad =>
    obtain ⟨inner, h1, h2⟩ := ReadsRow.inner_ (Kd.C_rows (d := k24) h)
    exact ⟨inner, h1.1, h1, fun b e j u hu => by cases e; exact h2 j u hu⟩
theorem append_full_step {P : Program} {W : World} {ops : Array Oper} {o : Oper} {a : Act} {Q : Exit → Act → World → Prop} {Kc : Act → World → Prop} (hw : Region.wanted o (yielded ops a.tmps) = true)
    (s x : Operand) (t : TypeId) (hop : o.op = Op.call { callee := Callee.builtin Builtin.append, args := #[s, x], argTypes := #[t, t] })
    (e : TypeId) (z : Value) (size bytes : Nat) (h1 : P.underlying t = some (.slice e)) (hinfo : (P.info? e).map (fun i => (i.zero, i.size, i.bytes)) = some (some z, size, bytes)) (h6 : z.cells.size = size) (h7 : 0 < size)
    (ao : Option Addr) (n cap : Nat) (olds : List Value) (hs : a.eval s = .slice ao n cap) (hnone : ao = none → n = 0 ∧ cap = 0) (hlo : olds.length = n * size) (holds : ∀ b, ao = some b → ∀ j u, olds[j]? = some u → W.cell? (b.add j) = some u)
    (ad : Addr) (m c : Nat) (news : List Value) (hx : a.eval x = .slice (some ad) m c) (hn : news.length = m * size) (hc : ∀ j u, news[j]? = some u → W.cell? (ad.add j) = some u) (h1c : ∀ u ∈ news, u.oneCell' = true)
    (hfull : cap < n + m) (b1 : n + m ≤ maxLen) (b2 : (n + m) * bytes ≤ 140737488355328)
    (hK : ∀ v' w', w'.ownsRow W.heap.size e size v' (n + m) (olds ++ news) → W.grownBy w' none → Kc (a.put o.dst v') w') :
    if Region.wanted o (yielded ops a.tmps) = true then Oper.wp P o a W Kc Q else Kc (a.put o.dst undef) W := by
  rw [if_pos hw]
  obtain ⟨i, h2, hzz⟩ := Option.map_eq_some_iff.1 hinfo
  simp only [Prod.mk.injEq] at hzz
  obtain ⟨h3, h4, h5⟩ := hzz
  cases ao with
  | some b =>
    obtain ⟨v', w', hrun, r1, r2⟩ := run_append_arg_grows (P := P) W t o.type e i z size bytes h1 h2 h3 h4 h5 h6 h7 b n cap olds hlo (holds b rfl) ad m c news hn hc hfull b1 b2
    unfold Oper.wp execOp
    simp only [hop, resolve, invoke, builtin, Sem.run_bind, Sem.run_pure, Result.andThen_ok, List.map_toArray, List.map_cons, List.map_nil, hs, hx, hrun]
    exact hK v' w' r1 r2
  | none =>
    obtain ⟨rfl, rfl⟩ := hnone rfl
    obtain rfl : olds = [] := List.eq_nil_of_length_eq_zero (by simpa using hlo)
    obtain ⟨v', w', hrun, r1, r2, _⟩ := run_append_own (P := P) W W.heap.size t o.type e i z size bytes h1 h2 h3 h4 h5 h6 h7 (.slice none 0 0) 0 [] (World.ownsRow_nil W _ e size) ad m c news hn hc h1c b1 b2 (Nat.le_refl _)
    unfold Oper.wp execOp
    simp only [hop, resolve, invoke, builtin, Sem.run_bind, Sem.run_pure, Result.andThen_ok, List.map_toArray, List.map_cons, List.map_nil, hs, hx, hrun]
    exact hK v' w' r1 r2
theorem cells2 {W : World} {g : Nat} {x y : Value} {t : TypeId} (h : W.heap[g]? = some (.cells #[x, y] t)) : ∀ j u, [x, y][j]? = some u → W.cell? ((⟨g, 0, none⟩ : Addr).add j) = some u := by
  intro j u hj
  match j, hj with
  | 0, hj =>
    obtain rfl : x = u := by simpa using hj
    simp [Addr.add, blk_cell h 0]
  | 1, hj =>
    obtain rfl : y = u := by simpa using hj
    simp [Addr.add, blk_cell h 1]
  | j + 2, hj => simp at hj
def Fin9 (wq : World) (ga : Nat) (v : Value) (n : Nat) (cs : List Value) (w' : World) : Prop :=
  Below wq.heap.size wq w' ∧ w'.heap[ga]? = some (.cells #[.slice none 0 0, .slice none 0 0] 38) ∧ wq.heap.size ≤ ga ∧ w'.ownsRow wq.heap.size 24 2 v n cs ∧ v.ownBlock ≠ some ga
theorem own_lower {W : World} {b b' e s n : Nat} {v : Value} {cs : List Value} (h : W.ownsRow b e s v n cs) (hb : b' ≤ b) : W.ownsRow b' e s v n cs := by
  refine ⟨h.1, ?_⟩
  rcases h.2 with h0 | ⟨g, cap, cur, h1, h2, h3⟩
  · exact .inl h0
  · exact .inr ⟨g, cap, cur, h1, Nat.le_trans hb h2, h3⟩
theorem fin9_a {wq W w7 : World} {ga n : Nat} {v : Value} {cs : List Value} (hW : Below wq.heap.size wq W) (hga : W.heap[ga]? = some (.cells #[.slice none 0 0, .slice none 0 0] 38)) (hle : wq.heap.size ≤ ga) (ho : w7.ownsRow W.heap.size 24 2 v n cs) (hg : W.grownBy w7 none) : Fin9 wq ga v n cs w7 :=
  ⟨hW.grown hg hW.size (fun k e => by cases e), (hg.block ga (blk_lt hga) (by simp)).trans hga, hle, own_lower ho hW.size, fun e => by have := (own_cells ho ga e).1; have := blk_lt hga; omega⟩
theorem fin9_b {wq W w7 : World} {n : Nat} {v : Value} {cs : List Value} (hW : Below wq.heap.size wq W) (ho : w7.ownsRow W.heap.size 24 2 v n cs) (hg : W.grownBy w7 none) : Fin9 wq w7.heap.size v n cs (w7.alloc (.cells #[.slice none 0 0, .slice none 0 0] 38)) := by
  have h7 := hW.grown hg hW.size (fun k e => by cases e)
  refine ⟨h7.alloc h7.size _, blk_new _ _, h7.size, own_step (own_lower ho hW.size) (fun k o _ h _ => blk_alloc h _), fun e => ?_⟩
  obtain ⟨_, o, h, _⟩ := own_cells ho _ e
  have := (Array.getElem?_eq_some_iff.1 h).1
  omega
theorem grownBy_setCell'' (W : World) (p : Addr) (v : Value) : W.grownBy (W.setCell p v) (some p.block) :=
  ⟨rfl, rfl, rfl, by show W.heap.size ≤ (W.heap.modify _ _).size; rw [Array.size_modify]; exact Nat.le_refl _, fun k _ hk => Below.heap_setCell W p v k (fun e => hk (by rw [e]))⟩
theorem clip84 (A : Option Addr) (n c : Nat) (w : World) (hc : n ≤ c) : Calls Tryd.prog 84 #[.slice A n c] w fun e w' => e = .returned (.slice A n n) ∧ w' = w := by
  go_enter Tryd.func84, Tryd.ntmps84
  go_wp2
  go_ret
  exact ⟨rfl, rfl⟩
set_option maxHeartbeats 8000000 in
set_option maxRecDepth 100000 in
theorem guard_Cut.calls (A0 : Option Addr) (c0 : Nat) (l0 : List S24) (A1 : Option Addr) (c1 : Nat) (l1 : List S24) (g0 g1 g2 g3 : Int) (r1 r2 r3 : Int) (w : World) (hr0 : Kd.C k24 w A0 l0.length l0) (hc0 : l0.length ≤ c0) (hr1 : Kd.C k24 w A1 l1.length l1) (hc1 : l1.length ≤ c1) (hT_ : TabOk w) (h : guard_Cut.f l0 l1 g0 g1 g2 g3 = some (r1, r2, r3)) :
    Calls Tryd.prog 42 #[.agg #[.slice A0 l0.length c0, .slice A1 l1.length c1], .agg #[.int .i64 g0, .int .i64 g1, .int .i64 g2, .int .i64 g3]] w fun e w' => e = .returned (.tuple #[.int .i64 r1, .int .i64 r2, .int .i64 r3]) ∧ Below w.heap.size w w' := by
  have HL := Aside0.mk hr0
  have HR := Aside0.mk hr1
  have HB0 := Aside0.mk (show Below w.heap.size w ((w.alloc (.cells #[.slice A0 l0.length c0, .slice A1 l1.length c1] 38)).alloc (.cells #[.int .i64 g0, .int .i64 g1, .int .i64 g2, .int .i64 g3] 26)) from ((Below.refl _ w).alloc (Nat.le_refl _) _).alloc (by simp) _)
  have KS := Aside0.mk (show ((w.alloc (.cells #[.slice A0 l0.length c0, .slice A1 l1.length c1] 38)).alloc (.cells #[.int .i64 g0, .int .i64 g1, .int .i64 g2, .int .i64 g3] 26)).heap[w.heap.size]? = some (.cells #[.slice A0 l0.length c0, .slice A1 l1.length c1] 38) from blk_alloc (blk_new _ _) _)
  have KG := Aside0.mk (show ((w.alloc (.cells #[.slice A0 l0.length c0, .slice A1 l1.length c1] 38)).alloc (.cells #[.int .i64 g0, .int .i64 g1, .int .i64 g2, .int .i64 g3] 26)).heap[w.heap.size + 1]? = some (.cells #[.int .i64 g0, .int .i64 g1, .int .i64 g2, .int .i64 g3] 26) from by have h_ := blk_new (w.alloc (.cells #[.slice A0 l0.length c0, .slice A1 l1.length c1] 38)) (.cells #[.int .i64 g0, .int .i64 g1, .int .i64 g2, .int .i64 g3] 26); simpa using h_)
  have CK := Aside0.mk (fun W (hb : Below w.heap.size w W) => guard_Check.calls A0 c0 l0 A1 c1 l1 g0 g1 g2 g3 _ W (Kd.C_below hr0 hb) hc0 (Kd.C_below hr1 hb) hc1 rfl)
  have HT := Aside0.mk hT_
  unfold guard_Cut.f at h
  by_cases he : checkS l0 l1 g0 g1 g2 g3 = 0
  · rw [if_pos he] at h
    obtain ⟨t, ht, h⟩ := Option.bind_eq_some_iff.mp h
    obtain ⟨now, hnow, h⟩ := Option.bind_eq_some_iff.mp h
    obtain ⟨⟨pl, pp⟩, hp, h⟩ := Option.bind_eq_some_iff.mp h
    have TB := Aside0.mk (fun W (hb : Below w.heap.size w W) => guard_gauge_table.calls 1000 g0 g1 g2 g3 A0 c0 l0 A1 c1 l1 2 t W (Kd.C_below hr0 hb) hc0 (Kd.C_below hr1 hb) hc1 ht)
    have HN := Aside0.mk hnow
    have HG := Aside0.mk hp
    have HE := Aside0.mk h
    have LN := Aside0.mk (check_len he)
    rw [he] at CK
    clear hr0 hr1 hT_ hnow hp he ht h
    go_enter Tryd.func42, Tryd.ntmps42
    go_wp2_with (fail)
    refine (CK.out _ HB0.out).mono ?_
    rintro e w1 ⟨rfl, hb1⟩
    have HB1 := Aside0.mk (below_step HB0.out hb1)
    have KS1 := Aside0.mk (blk_below KS.out hb1)
    have KG1 := Aside0.mk (blk_below KG.out hb1)
    clear hb1 CK HB0 KS KG
    have hs0 : w1.cell? ⟨w.heap.size, 0, none⟩ = some (.slice A0 l0.length c0) := (blk_cell KS1.out 0).trans rfl
    have hs1 : w1.cell? ⟨w.heap.size, 1, none⟩ = some (.slice A1 l1.length c1) := (blk_cell KS1.out 1).trans rfl
    have hg0 : w1.cell? ⟨w.heap.size + 1, 0, none⟩ = some (.int .i64 g0) := (blk_cell KG1.out 0).trans rfl
    have hg1 : w1.cell? ⟨w.heap.size + 1, 1, none⟩ = some (.int .i64 g1) := (blk_cell KG1.out 1).trans rfl
    have hg2 : w1.cell? ⟨w.heap.size + 1, 2, none⟩ = some (.int .i64 g2) := (blk_cell KG1.out 2).trans rfl
    have hg3 : w1.cell? ⟨w.heap.size + 1, 3, none⟩ = some (.int .i64 g3) := (blk_cell KG1.out 3).trans rfl
    go_wp2_with (fail)
    refine (TB.out _ HB1.out).mono ?_
    rintro e w2 ⟨v2, rfl, ho2, hb2⟩
    obtain ⟨A2, c2, rfl, hl2, hC2⟩ := Kd.R_reads ho2
    have HB2 := Aside0.mk (below_step HB1.out hb2)
    have KS2 := Aside0.mk (blk_below KS1.out hb2)
    have KG2 := Aside0.mk (blk_below KG1.out hb2)
    have HC2 := Aside0.mk hC2
    have HL2 := Aside0.mk hl2
    clear hb2 ho2 hl2 hC2 hs0 hs1 hg0 hg1 hg2 hg3 HB1 KS1 KG1
    go_wp2_with (fail)
    refine (guard_table_most.calls A2 c2 t now _ HC2.out HL2.out (HT.out.go HB2.out) HN.out).mono ?_
    rintro e w3 ⟨rfl, hb3⟩
    have HB3 := Aside0.mk (below_step HB2.out hb3)
    have KS3 := Aside0.mk (blk_below KS2.out hb3)
    have KG3 := Aside0.mk (blk_below KG2.out hb3)
    clear hb3 HB2 KS2 KG2 HC2 HL2
    have hs0 : w3.cell? ⟨w.heap.size, 0, none⟩ = some (.slice A0 l0.length c0) := (blk_cell KS3.out 0).trans rfl
    go_wp2
    go_loopg [4, 5, 28] l0.length (fun kq v4 v5 v28 w' => ∃ (i : Nat) (lf ps : Int), v4 = .int .i64 lf ∧ v5 = .int .i64 ps ∧ v28 = .int .i64 (i : Int) ∧ Aside0 (i + kq = l0.length) ∧ Aside0 (cutG l0 l1 g0 g1 g2 g3 kq i lf ps = some (pl, pp)) ∧ Aside0 (Below w.heap.size w w') ∧ Aside0 (w'.heap[w.heap.size]? = some (.cells #[.slice A0 l0.length c0, .slice A1 l1.length c1] 38)) ∧ Aside0 (w'.heap[w.heap.size + 1]? = some (.cells #[.int .i64 g0, .int .i64 g1, .int .i64 g2, .int .i64 g3] 26)))
    case atStart => exact ⟨0, 0, now, rfl, rfl, rfl, ⟨by omega⟩, HG, HB3, KS3, KG3⟩
    case round =>
      clear HG HB3 KS3 KG3 hs0
      obtain ⟨i, lf, ps, rfl, rfl, rfl, HI, HG, HB, KS, KG⟩ := hrel
      cases gk with
      | zero =>
        have hie : decide (i < l0.length) = false := by have := HI.out; simp; omega
        have hg := Option.some.inj HG.out
        obtain ⟨rfl, rfl⟩ := Prod.mk.inj hg
        clear hg HG
        have he2 := HE.out
        by_cases hpn : ps = now
        · rw [if_pos hpn] at he2
          simp only [Option.some.injEq, Prod.mk.injEq] at he2
          obtain ⟨rfl, rfl, rfl⟩ := he2
          have hq : (ps == now) = true := beq_iff_eq.mpr hpn
          clear hpn HE
          go_wp2
          go_ret3
          exact ⟨rfl, HB.out⟩
        · rw [if_neg hpn] at he2
          simp only [Option.some.injEq, Prod.mk.injEq] at he2
          obtain ⟨rfl, rfl, rfl⟩ := he2
          have hq : (lf, ps).2 = ps := rfl
          have hq : (ps == now) = false := beq_eq_false_iff_ne.mpr hpn
          clear hpn HE
          go_wp2
          go_ret3
          exact ⟨rfl, HB.out⟩
      | succ k1 =>
        have hie : decide (i < l0.length) = true := by have := HI.out; simp; omega
        have hg := HG.out
        obtain ⟨t1, ht1, hg⟩ := Option.bind_eq_some_iff.mp hg
        obtain ⟨m, hm, hg⟩ := Option.bind_eq_some_iff.mp hg
        have HT1 := Aside0.mk ht1
        have HM1 := Aside0.mk hm
        have HNX := Aside0.mk hg
        clear ht1 hm hg HG
        have hL := Kd.C_below HL.out HB.out
        obtain ⟨ad, Ax, cx, e0, hx0, hx1, hxl, hxC⟩ := at_T24 hL (i : Int) (by omega) (by have := HI.out; omega)
        cases e0
        have HXL := Aside0.mk hxl
        have HXC := Aside0.mk hxC
        clear hL hxl hxC
        obtain ⟨x, hx⟩ : ∃ x, rd_T24 l0 (i : Int) = x := ⟨_, rfl⟩
        rw [hx] at hx0 hx1 HXL HXC HT1
        simp only [Int.toNat_natCast] at hx0 hx1
        have hil : i < l0.length := by have := HI.out; omega
        have KX := Aside0.mk (blk_new wr (.cells #[.int .i64 x.f0, .slice Ax x.f1.length cx] 24))
        have HB1 := Aside0.mk (HB.out.alloc HB.out.size (.cells #[.int .i64 x.f0, .slice Ax x.f1.length cx] 24))
        go_wp2
        have hc1A : A1 = none → l1.length = 0 ∧ l1.length = 0 := fun e => by
          cases l1 with
          | nil => exact ⟨rfl, rfl⟩
          | cons y ys =>
            obtain ⟨ad', _, _, e', _⟩ := at_T24 HR.out 0 (by omega) (by simp)
            rw [e] at e'; cases e'
        obtain ⟨olds, hol, hrep, hocell⟩ := olds_of HR.out
        obtain ⟨wq, ewq⟩ : ∃ W, wr.alloc (.cells #[.int .i64 x.f0, .slice Ax x.f1.length cx] 24) = W := ⟨_, rfl⟩
        have KQ := Aside0.mk (show wq.heap[wr.heap.size]? = some (.cells #[.int .i64 x.f0, .slice Ax x.f1.length cx] 24) from ewq ▸ KX.out)
        have HBq := Aside0.mk (show Below w.heap.size w wq from ewq ▸ HB1.out)
        have HRQ := Aside0.mk (show Below wr.heap.size wr wq from ewq ▸ below_alloc (Below.refl _ _) _)
        have KSq := Aside0.mk (show wq.heap[w.heap.size]? = some (.cells #[.slice (some ad) l0.length c0, .slice A1 l1.length c1] 38) from ewq ▸ blk_alloc KS.out _)
        have KGq := Aside0.mk (show wq.heap[w.heap.size + 1]? = some (.cells #[.int .i64 g0, .int .i64 g1, .int .i64 g2, .int .i64 g3] 26) from ewq ▸ blk_alloc KG.out _)
        have LN2 := LN.out.2
        rw [ewq]
        clear hx0 hx1 hil hie KX HB1 KS KG HB ewq
        refine start_ (n := 11) (S := fun w' => w'.cell? ⟨w.heap.size, 0, none⟩ = some (.slice (some ad) l0.length c0) ∧ w'.cell? ⟨w.heap.size, 1, none⟩ = some (.slice A1 l1.length c1) ∧ w'.cell? ⟨wr.heap.size, 0, none⟩ = some (.int .i64 x.f0) ∧ w'.cell? ⟨wr.heap.size, 1, none⟩ = some (.slice Ax x.f1.length cx)) (ds := [10]) (bl 11 0) (by kernel_rfl) rfl rfl ⟨(blk_cell (blk_drew KSq.out) 0).trans rfl, (blk_cell (blk_drew KSq.out) 1).trans rfl, (blk_cell (blk_drew KQ.out) 0).trans rfl, (blk_cell (blk_drew KQ.out) 1).trans rfl⟩ (fun hHeld => ?_)
        refine pS 0 33 (bl 11 1) ?_
        refine pS 2 35 (bl 11 5) ?_
        refine tS 1 34 (bl 11 7) hHeld ?_
        refine tS 3 36 (bl 11 15) hHeld ?_
        refine tS 5 38 (bl 11 47) hHeld ?_
        refine join_ (σ := Nat × Nat × Value) 1 (bl 11 1023) (fun s => [(37, .slice A1 l1.length l1.length), (39, .slice (some ⟨s.1, 0, none⟩) 1 1), (40, s.2.2), (41, .agg #[.slice (some ad) l0.length c0, s.2.2]), (11, .pointer (some ⟨s.2.1, 0, none⟩))]) (fun s w' => (w'.cell? ⟨w.heap.size, 0, none⟩ = some (.slice (some ad) l0.length c0) ∧ w'.cell? ⟨w.heap.size, 1, none⟩ = some (.slice A1 l1.length c1) ∧ w'.cell? ⟨wr.heap.size, 0, none⟩ = some (.int .i64 x.f0) ∧ w'.cell? ⟨wr.heap.size, 1, none⟩ = some (.slice Ax x.f1.length cx)) ∧ Fin9 wq s.2.1 s.2.2 (l1.length + 1) (olds ++ [.int .i64 x.f0, .slice Ax x.f1.length cx]) w') ?_ ?_
        rotate_left
        · intro hCont
          refine three_ (i := 4) (j := 6) (k := 9) (Ni := some 37) (Nj := some 39) (Nk := some 11) (bl 11 63) (bl 11 111) (bl 11 559) rfl rfl rfl rfl rfl rfl (by kernel_rfl) (by decide) (by decide) (by decide) (fun K hK => ?_) (fun K hK => ?_) (fun K hK => ?_)
          · skip
            refine goes_ Tryd.func84 (by kernel_rfl) rfl #[.slice A1 l1.length c1] (by rfl) rfl rfl (by simp only [List.map_toArray, List.map_cons, List.map_nil]; rfl) ?_
            with_reducible refine (clip84 A1 l1.length c1 _ hc1).mono ?_
            rintro e w5 ⟨rfl, hw5⟩
            refine ⟨_, rfl, ?_⟩
            subst hw5
            refine hK.out _ _ ⟨hHeld.1, hHeld.2.1, hHeld.2.2.1, hHeld.2.2.2⟩ (fun hHeld => ?_)
            clear hK K
            refine nS 37 ?_
            refine two_ (i := 6) (j := 9) (Ni := some 39) (Nj := some 11) (bl 11 127) (bl 11 575) rfl rfl rfl rfl (by kernel_rfl) (by decide) (by decide) (fun K hK => ?_) (fun K hK => ?_)
            · skip
              refine vS ?_
              refine hK.out _ _ ⟨pw_cell_below (below_alloc (Below.refl _ _) _) hHeld.1, pw_cell_below (below_alloc (Below.refl _ _) _) hHeld.2.1, pw_cell_below (below_alloc (Below.refl _ _) _) hHeld.2.2.1, pw_cell_below (below_alloc (Below.refl _ _) _) hHeld.2.2.2⟩ (fun hHeld => ?_)
              clear hK K
              refine nS 39 ?_
              refine two_ (i := 7) (j := 9) (Ni := some 40) (Nj := some 11) (bl 11 255) (bl 11 639) rfl rfl rfl rfl (by kernel_rfl) (by decide) (by decide) (fun K hK => ?_) (fun K hK => ?_)
              · skip
                have hbe : Below wq.heap.size wq (wq.drew.alloc (.cells #[.int .i64 x.f0, .slice Ax x.f1.length cx] 24)) := by repeat (first | exact Below.refl _ _ | apply below_alloc | apply below_drew)
                have hsz7 : (wq.drew.alloc (.cells #[.int .i64 x.f0, .slice Ax x.f1.length cx] 24)).heap.size = wq.heap.size + 1 := by simp only [World.size_alloc]; rfl
                have hb24 : (wq.drew.alloc (.cells #[.int .i64 x.f0, .slice Ax x.f1.length cx] 24)).heap[wq.heap.size]? = some (.cells #[.int .i64 x.f0, .slice Ax x.f1.length cx] 24) := blk_new wq.drew _
                refine append_full_step (by rfl) (.tmp 37) (.tmp 39) 28 rfl 24 (.agg #[.int .i64 0, .slice none 0 0]) 2 32 Tryd.underlying28 info24 rfl (by decide) A1 l1.length l1.length olds rfl hc1A hol (fun b e j u hu => pw_cell_below hbe (pw_cell_below HBq.out (hocell b e j u hu))) ⟨wq.heap.size, 0, none⟩ 1 1 [.int .i64 x.f0, .slice Ax x.f1.length cx] rfl rfl (cells2 hb24) (by simp [Value.oneCell']) (by omega) (by simp only [maxLen]; omega) (by omega) ?_
                intro v7 w7 hown7 hgr7
                obtain ⟨Am7, cm7, rfl⟩ := own_form hown7
                have hb7 := (Below.refl _ _).grown hgr7 (Nat.le_refl _) (fun k e => by cases e)
                refine hK.out _ _ ⟨pw_cell_below hb7 hHeld.1, pw_cell_below hb7 hHeld.2.1, pw_cell_below hb7 hHeld.2.2.1, pw_cell_below hb7 hHeld.2.2.2⟩ (fun hHeld => ?_)
                clear hK K
                refine nS 40 ?_
                refine pS 8 41 (bl 11 511) ?_
                refine one_ (i := 9) (N := some 11) (bl 11 1023) rfl rfl (by kernel_rfl) (by decide) (fun K hK => ?_)
                refine vS ?_
                refine hK.out _ _ ⟨pw_cell_below (below_alloc (Below.refl _ _) _) hHeld.1, pw_cell_below (below_alloc (Below.refl _ _) _) hHeld.2.1, pw_cell_below (below_alloc (Below.refl _ _) _) hHeld.2.2.1, pw_cell_below (below_alloc (Below.refl _ _) _) hHeld.2.2.2⟩ (fun hHeld => ?_)
                clear hK K
                refine nS 11 ?_
                exact norm_ (by simp only [putAll, Act.put, List.setIfInBounds_toArray, List.set_cons_zero, List.set_cons_succ]) (hCont (wq.heap.size, w7.heap.size, .slice Am7 (l1.length + 1) cm7) _ ⟨hHeld, fin9_b hbe hown7 hgr7⟩)
              · skip
                refine vS ?_
                refine hK.out _ _ ⟨pw_cell_below (below_alloc (Below.refl _ _) _) hHeld.1, pw_cell_below (below_alloc (Below.refl _ _) _) hHeld.2.1, pw_cell_below (below_alloc (Below.refl _ _) _) hHeld.2.2.1, pw_cell_below (below_alloc (Below.refl _ _) _) hHeld.2.2.2⟩ (fun hHeld => ?_)
                clear hK K
                refine nS 11 ?_
                refine one_ (i := 7) (N := some 40) (bl 11 767) rfl rfl (by kernel_rfl) (by decide) (fun K hK => ?_)
                have hbe : Below wq.heap.size wq ((wq.drew.alloc (.cells #[.int .i64 x.f0, .slice Ax x.f1.length cx] 24)).alloc (.cells #[.slice none 0 0, .slice none 0 0] 38)) := by repeat (first | exact Below.refl _ _ | apply below_alloc | apply below_drew)
                have hsz7 : ((wq.drew.alloc (.cells #[.int .i64 x.f0, .slice Ax x.f1.length cx] 24)).alloc (.cells #[.slice none 0 0, .slice none 0 0] 38)).heap.size = wq.heap.size + 2 := by simp only [World.size_alloc]; rfl
                have hb24 : ((wq.drew.alloc (.cells #[.int .i64 x.f0, .slice Ax x.f1.length cx] 24)).alloc (.cells #[.slice none 0 0, .slice none 0 0] 38)).heap[wq.heap.size]? = some (.cells #[.int .i64 x.f0, .slice Ax x.f1.length cx] 24) := blk_alloc (blk_new wq.drew _) _
                have hb38 : ((wq.drew.alloc (.cells #[.int .i64 x.f0, .slice Ax x.f1.length cx] 24)).alloc (.cells #[.slice none 0 0, .slice none 0 0] 38)).heap[wq.heap.size + 1]? = some (.cells #[.slice none 0 0, .slice none 0 0] 38) := (by have h_ := blk_new (wq.drew.alloc (.cells #[.int .i64 x.f0, .slice Ax x.f1.length cx] 24)) (.cells #[.slice none 0 0, .slice none 0 0] 38); rw [World.size_alloc] at h_; exact h_)
                refine append_full_step (by rfl) (.tmp 37) (.tmp 39) 28 rfl 24 (.agg #[.int .i64 0, .slice none 0 0]) 2 32 Tryd.underlying28 info24 rfl (by decide) A1 l1.length l1.length olds rfl hc1A hol (fun b e j u hu => pw_cell_below hbe (pw_cell_below HBq.out (hocell b e j u hu))) ⟨wq.heap.size, 0, none⟩ 1 1 [.int .i64 x.f0, .slice Ax x.f1.length cx] rfl rfl (cells2 hb24) (by simp [Value.oneCell']) (by omega) (by simp only [maxLen]; omega) (by omega) ?_
                intro v7 w7 hown7 hgr7
                obtain ⟨Am7, cm7, rfl⟩ := own_form hown7
                have hb7 := (Below.refl _ _).grown hgr7 (Nat.le_refl _) (fun k e => by cases e)
                refine hK.out _ _ ⟨pw_cell_below hb7 hHeld.1, pw_cell_below hb7 hHeld.2.1, pw_cell_below hb7 hHeld.2.2.1, pw_cell_below hb7 hHeld.2.2.2⟩ (fun hHeld => ?_)
                clear hK K
                refine nS 40 ?_
                refine pS 8 41 (bl 11 1023) ?_
                exact norm_ (by simp only [putAll, Act.put, List.setIfInBounds_toArray, List.set_cons_zero, List.set_cons_succ]) (hCont (wq.heap.size, wq.heap.size + 1, .slice Am7 (l1.length + 1) cm7) _ ⟨hHeld, fin9_a hbe hb38 (Nat.le_succ _) hown7 hgr7⟩)
            · skip
              refine vS ?_
              refine hK.out _ _ ⟨pw_cell_below (below_alloc (Below.refl _ _) _) hHeld.1, pw_cell_below (below_alloc (Below.refl _ _) _) hHeld.2.1, pw_cell_below (below_alloc (Below.refl _ _) _) hHeld.2.2.1, pw_cell_below (below_alloc (Below.refl _ _) _) hHeld.2.2.2⟩ (fun hHeld => ?_)
              clear hK K
              refine nS 11 ?_
              refine one_ (i := 6) (N := some 39) (bl 11 639) rfl rfl (by kernel_rfl) (by decide) (fun K hK => ?_)
              refine vS ?_
              refine hK.out _ _ ⟨pw_cell_below (below_alloc (Below.refl _ _) _) hHeld.1, pw_cell_below (below_alloc (Below.refl _ _) _) hHeld.2.1, pw_cell_below (below_alloc (Below.refl _ _) _) hHeld.2.2.1, pw_cell_below (below_alloc (Below.refl _ _) _) hHeld.2.2.2⟩ (fun hHeld => ?_)
              clear hK K
              refine nS 39 ?_
              refine one_ (i := 7) (N := some 40) (bl 11 767) rfl rfl (by kernel_rfl) (by decide) (fun K hK => ?_)
              have hbe : Below wq.heap.size wq ((wq.drew.alloc (.cells #[.slice none 0 0, .slice none 0 0] 38)).alloc (.cells #[.int .i64 x.f0, .slice Ax x.f1.length cx] 24)) := by repeat (first | exact Below.refl _ _ | apply below_alloc | apply below_drew)
              have hsz7 : ((wq.drew.alloc (.cells #[.slice none 0 0, .slice none 0 0] 38)).alloc (.cells #[.int .i64 x.f0, .slice Ax x.f1.length cx] 24)).heap.size = wq.heap.size + 2 := by simp only [World.size_alloc]; rfl
              have hb24 : ((wq.drew.alloc (.cells #[.slice none 0 0, .slice none 0 0] 38)).alloc (.cells #[.int .i64 x.f0, .slice Ax x.f1.length cx] 24)).heap[wq.heap.size + 1]? = some (.cells #[.int .i64 x.f0, .slice Ax x.f1.length cx] 24) := (by have h_ := blk_new (wq.drew.alloc (.cells #[.slice none 0 0, .slice none 0 0] 38)) (.cells #[.int .i64 x.f0, .slice Ax x.f1.length cx] 24); rw [World.size_alloc] at h_; exact h_)
              have hb38 : ((wq.drew.alloc (.cells #[.slice none 0 0, .slice none 0 0] 38)).alloc (.cells #[.int .i64 x.f0, .slice Ax x.f1.length cx] 24)).heap[wq.heap.size]? = some (.cells #[.slice none 0 0, .slice none 0 0] 38) := blk_alloc (blk_new wq.drew _) _
              refine append_full_step (by rfl) (.tmp 37) (.tmp 39) 28 rfl 24 (.agg #[.int .i64 0, .slice none 0 0]) 2 32 Tryd.underlying28 info24 rfl (by decide) A1 l1.length l1.length olds rfl hc1A hol (fun b e j u hu => pw_cell_below hbe (pw_cell_below HBq.out (hocell b e j u hu))) ⟨wq.heap.size + 1, 0, none⟩ 1 1 [.int .i64 x.f0, .slice Ax x.f1.length cx] rfl rfl (cells2 hb24) (by simp [Value.oneCell']) (by omega) (by simp only [maxLen]; omega) (by omega) ?_
              intro v7 w7 hown7 hgr7
              obtain ⟨Am7, cm7, rfl⟩ := own_form hown7
              have hb7 := (Below.refl _ _).grown hgr7 (Nat.le_refl _) (fun k e => by cases e)
              refine hK.out _ _ ⟨pw_cell_below hb7 hHeld.1, pw_cell_below hb7 hHeld.2.1, pw_cell_below hb7 hHeld.2.2.1, pw_cell_below hb7 hHeld.2.2.2⟩ (fun hHeld => ?_)
              clear hK K
              refine nS 40 ?_
              refine pS 8 41 (bl 11 1023) ?_
              exact norm_ (by simp only [putAll, Act.put, List.setIfInBounds_toArray, List.set_cons_zero, List.set_cons_succ]) (hCont (wq.heap.size + 1, wq.heap.size, .slice Am7 (l1.length + 1) cm7) _ ⟨hHeld, fin9_a hbe hb38 (Nat.le_refl _) hown7 hgr7⟩)
          · skip
            refine vS ?_
            refine hK.out _ _ ⟨pw_cell_below (below_alloc (Below.refl _ _) _) hHeld.1, pw_cell_below (below_alloc (Below.refl _ _) _) hHeld.2.1, pw_cell_below (below_alloc (Below.refl _ _) _) hHeld.2.2.1, pw_cell_below (below_alloc (Below.refl _ _) _) hHeld.2.2.2⟩ (fun hHeld => ?_)
            clear hK K
            refine nS 39 ?_
            refine two_ (i := 4) (j := 9) (Ni := some 37) (Nj := some 11) (bl 11 127) (bl 11 623) rfl rfl rfl rfl (by kernel_rfl) (by decide) (by decide) (fun K hK => ?_) (fun K hK => ?_)
            · skip
              refine goes_ Tryd.func84 (by kernel_rfl) rfl #[.slice A1 l1.length c1] (by rfl) rfl rfl (by simp only [List.map_toArray, List.map_cons, List.map_nil]; rfl) ?_
              with_reducible refine (clip84 A1 l1.length c1 _ hc1).mono ?_
              rintro e w5 ⟨rfl, hw5⟩
              refine ⟨_, rfl, ?_⟩
              subst hw5
              refine hK.out _ _ ⟨hHeld.1, hHeld.2.1, hHeld.2.2.1, hHeld.2.2.2⟩ (fun hHeld => ?_)
              clear hK K
              refine nS 37 ?_
              refine two_ (i := 7) (j := 9) (Ni := some 40) (Nj := some 11) (bl 11 255) (bl 11 639) rfl rfl rfl rfl (by kernel_rfl) (by decide) (by decide) (fun K hK => ?_) (fun K hK => ?_)
              · skip
                have hbe : Below wq.heap.size wq (wq.drew.alloc (.cells #[.int .i64 x.f0, .slice Ax x.f1.length cx] 24)) := by repeat (first | exact Below.refl _ _ | apply below_alloc | apply below_drew)
                have hsz7 : (wq.drew.alloc (.cells #[.int .i64 x.f0, .slice Ax x.f1.length cx] 24)).heap.size = wq.heap.size + 1 := by simp only [World.size_alloc]; rfl
                have hb24 : (wq.drew.alloc (.cells #[.int .i64 x.f0, .slice Ax x.f1.length cx] 24)).heap[wq.heap.size]? = some (.cells #[.int .i64 x.f0, .slice Ax x.f1.length cx] 24) := blk_new wq.drew _
                refine append_full_step (by rfl) (.tmp 37) (.tmp 39) 28 rfl 24 (.agg #[.int .i64 0, .slice none 0 0]) 2 32 Tryd.underlying28 info24 rfl (by decide) A1 l1.length l1.length olds rfl hc1A hol (fun b e j u hu => pw_cell_below hbe (pw_cell_below HBq.out (hocell b e j u hu))) ⟨wq.heap.size, 0, none⟩ 1 1 [.int .i64 x.f0, .slice Ax x.f1.length cx] rfl rfl (cells2 hb24) (by simp [Value.oneCell']) (by omega) (by simp only [maxLen]; omega) (by omega) ?_
                intro v7 w7 hown7 hgr7
                obtain ⟨Am7, cm7, rfl⟩ := own_form hown7
                have hb7 := (Below.refl _ _).grown hgr7 (Nat.le_refl _) (fun k e => by cases e)
                refine hK.out _ _ ⟨pw_cell_below hb7 hHeld.1, pw_cell_below hb7 hHeld.2.1, pw_cell_below hb7 hHeld.2.2.1, pw_cell_below hb7 hHeld.2.2.2⟩ (fun hHeld => ?_)
                clear hK K
                refine nS 40 ?_
                refine pS 8 41 (bl 11 511) ?_
                refine one_ (i := 9) (N := some 11) (bl 11 1023) rfl rfl (by kernel_rfl) (by decide) (fun K hK => ?_)
                refine vS ?_
                refine hK.out _ _ ⟨pw_cell_below (below_alloc (Below.refl _ _) _) hHeld.1, pw_cell_below (below_alloc (Below.refl _ _) _) hHeld.2.1, pw_cell_below (below_alloc (Below.refl _ _) _) hHeld.2.2.1, pw_cell_below (below_alloc (Below.refl _ _) _) hHeld.2.2.2⟩ (fun hHeld => ?_)
                clear hK K
                refine nS 11 ?_
                exact norm_ (by simp only [putAll, Act.put, List.setIfInBounds_toArray, List.set_cons_zero, List.set_cons_succ]) (hCont (wq.heap.size, w7.heap.size, .slice Am7 (l1.length + 1) cm7) _ ⟨hHeld, fin9_b hbe hown7 hgr7⟩)
              · skip
                refine vS ?_
                refine hK.out _ _ ⟨pw_cell_below (below_alloc (Below.refl _ _) _) hHeld.1, pw_cell_below (below_alloc (Below.refl _ _) _) hHeld.2.1, pw_cell_below (below_alloc (Below.refl _ _) _) hHeld.2.2.1, pw_cell_below (below_alloc (Below.refl _ _) _) hHeld.2.2.2⟩ (fun hHeld => ?_)
                clear hK K
                refine nS 11 ?_
                refine one_ (i := 7) (N := some 40) (bl 11 767) rfl rfl (by kernel_rfl) (by decide) (fun K hK => ?_)
                have hbe : Below wq.heap.size wq ((wq.drew.alloc (.cells #[.int .i64 x.f0, .slice Ax x.f1.length cx] 24)).alloc (.cells #[.slice none 0 0, .slice none 0 0] 38)) := by repeat (first | exact Below.refl _ _ | apply below_alloc | apply below_drew)
                have hsz7 : ((wq.drew.alloc (.cells #[.int .i64 x.f0, .slice Ax x.f1.length cx] 24)).alloc (.cells #[.slice none 0 0, .slice none 0 0] 38)).heap.size = wq.heap.size + 2 := by simp only [World.size_alloc]; rfl
                have hb24 : ((wq.drew.alloc (.cells #[.int .i64 x.f0, .slice Ax x.f1.length cx] 24)).alloc (.cells #[.slice none 0 0, .slice none 0 0] 38)).heap[wq.heap.size]? = some (.cells #[.int .i64 x.f0, .slice Ax x.f1.length cx] 24) := blk_alloc (blk_new wq.drew _) _
                have hb38 : ((wq.drew.alloc (.cells #[.int .i64 x.f0, .slice Ax x.f1.length cx] 24)).alloc (.cells #[.slice none 0 0, .slice none 0 0] 38)).heap[wq.heap.size + 1]? = some (.cells #[.slice none 0 0, .slice none 0 0] 38) := (by have h_ := blk_new (wq.drew.alloc (.cells #[.int .i64 x.f0, .slice Ax x.f1.length cx] 24)) (.cells #[.slice none 0 0, .slice none 0 0] 38); rw [World.size_alloc] at h_; exact h_)
                refine append_full_step (by rfl) (.tmp 37) (.tmp 39) 28 rfl 24 (.agg #[.int .i64 0, .slice none 0 0]) 2 32 Tryd.underlying28 info24 rfl (by decide) A1 l1.length l1.length olds rfl hc1A hol (fun b e j u hu => pw_cell_below hbe (pw_cell_below HBq.out (hocell b e j u hu))) ⟨wq.heap.size, 0, none⟩ 1 1 [.int .i64 x.f0, .slice Ax x.f1.length cx] rfl rfl (cells2 hb24) (by simp [Value.oneCell']) (by omega) (by simp only [maxLen]; omega) (by omega) ?_
                intro v7 w7 hown7 hgr7
                obtain ⟨Am7, cm7, rfl⟩ := own_form hown7
                have hb7 := (Below.refl _ _).grown hgr7 (Nat.le_refl _) (fun k e => by cases e)
                refine hK.out _ _ ⟨pw_cell_below hb7 hHeld.1, pw_cell_below hb7 hHeld.2.1, pw_cell_below hb7 hHeld.2.2.1, pw_cell_below hb7 hHeld.2.2.2⟩ (fun hHeld => ?_)
                clear hK K
                refine nS 40 ?_
                refine pS 8 41 (bl 11 1023) ?_
                exact norm_ (by simp only [putAll, Act.put, List.setIfInBounds_toArray, List.set_cons_zero, List.set_cons_succ]) (hCont (wq.heap.size, wq.heap.size + 1, .slice Am7 (l1.length + 1) cm7) _ ⟨hHeld, fin9_a hbe hb38 (Nat.le_succ _) hown7 hgr7⟩)
            · skip
              refine vS ?_
              refine hK.out _ _ ⟨pw_cell_below (below_alloc (Below.refl _ _) _) hHeld.1, pw_cell_below (below_alloc (Below.refl _ _) _) hHeld.2.1, pw_cell_below (below_alloc (Below.refl _ _) _) hHeld.2.2.1, pw_cell_below (below_alloc (Below.refl _ _) _) hHeld.2.2.2⟩ (fun hHeld => ?_)
              clear hK K
              refine nS 11 ?_
              refine one_ (i := 4) (N := some 37) (bl 11 639) rfl rfl (by kernel_rfl) (by decide) (fun K hK => ?_)
              refine goes_ Tryd.func84 (by kernel_rfl) rfl #[.slice A1 l1.length c1] (by rfl) rfl rfl (by simp only [List.map_toArray, List.map_cons, List.map_nil]; rfl) ?_
              with_reducible refine (clip84 A1 l1.length c1 _ hc1).mono ?_
              rintro e w5 ⟨rfl, hw5⟩
              refine ⟨_, rfl, ?_⟩
              subst hw5
              refine hK.out _ _ ⟨hHeld.1, hHeld.2.1, hHeld.2.2.1, hHeld.2.2.2⟩ (fun hHeld => ?_)
              clear hK K
              refine nS 37 ?_
              refine one_ (i := 7) (N := some 40) (bl 11 767) rfl rfl (by kernel_rfl) (by decide) (fun K hK => ?_)
              have hbe : Below wq.heap.size wq ((wq.drew.alloc (.cells #[.int .i64 x.f0, .slice Ax x.f1.length cx] 24)).alloc (.cells #[.slice none 0 0, .slice none 0 0] 38)) := by repeat (first | exact Below.refl _ _ | apply below_alloc | apply below_drew)
              have hsz7 : ((wq.drew.alloc (.cells #[.int .i64 x.f0, .slice Ax x.f1.length cx] 24)).alloc (.cells #[.slice none 0 0, .slice none 0 0] 38)).heap.size = wq.heap.size + 2 := by simp only [World.size_alloc]; rfl
              have hb24 : ((wq.drew.alloc (.cells #[.int .i64 x.f0, .slice Ax x.f1.length cx] 24)).alloc (.cells #[.slice none 0 0, .slice none 0 0] 38)).heap[wq.heap.size]? = some (.cells #[.int .i64 x.f0, .slice Ax x.f1.length cx] 24) := blk_alloc (blk_new wq.drew _) _
              have hb38 : ((wq.drew.alloc (.cells #[.int .i64 x.f0, .slice Ax x.f1.length cx] 24)).alloc (.cells #[.slice none 0 0, .slice none 0 0] 38)).heap[wq.heap.size + 1]? = some (.cells #[.slice none 0 0, .slice none 0 0] 38) := (by have h_ := blk_new (wq.drew.alloc (.cells #[.int .i64 x.f0, .slice Ax x.f1.length cx] 24)) (.cells #[.slice none 0 0, .slice none 0 0] 38); rw [World.size_alloc] at h_; exact h_)
              refine append_full_step (by rfl) (.tmp 37) (.tmp 39) 28 rfl 24 (.agg #[.int .i64 0, .slice none 0 0]) 2 32 Tryd.underlying28 info24 rfl (by decide) A1 l1.length l1.length olds rfl hc1A hol (fun b e j u hu => pw_cell_below hbe (pw_cell_below HBq.out (hocell b e j u hu))) ⟨wq.heap.size, 0, none⟩ 1 1 [.int .i64 x.f0, .slice Ax x.f1.length cx] rfl rfl (cells2 hb24) (by simp [Value.oneCell']) (by omega) (by simp only [maxLen]; omega) (by omega) ?_
              intro v7 w7 hown7 hgr7
              obtain ⟨Am7, cm7, rfl⟩ := own_form hown7
              have hb7 := (Below.refl _ _).grown hgr7 (Nat.le_refl _) (fun k e => by cases e)
              refine hK.out _ _ ⟨pw_cell_below hb7 hHeld.1, pw_cell_below hb7 hHeld.2.1, pw_cell_below hb7 hHeld.2.2.1, pw_cell_below hb7 hHeld.2.2.2⟩ (fun hHeld => ?_)
              clear hK K
              refine nS 40 ?_
              refine pS 8 41 (bl 11 1023) ?_
              exact norm_ (by simp only [putAll, Act.put, List.setIfInBounds_toArray, List.set_cons_zero, List.set_cons_succ]) (hCont (wq.heap.size, wq.heap.size + 1, .slice Am7 (l1.length + 1) cm7) _ ⟨hHeld, fin9_a hbe hb38 (Nat.le_succ _) hown7 hgr7⟩)
          · skip
            refine vS ?_
            refine hK.out _ _ ⟨pw_cell_below (below_alloc (Below.refl _ _) _) hHeld.1, pw_cell_below (below_alloc (Below.refl _ _) _) hHeld.2.1, pw_cell_below (below_alloc (Below.refl _ _) _) hHeld.2.2.1, pw_cell_below (below_alloc (Below.refl _ _) _) hHeld.2.2.2⟩ (fun hHeld => ?_)
            clear hK K
            refine nS 11 ?_
            refine two_ (i := 4) (j := 6) (Ni := some 37) (Nj := some 39) (bl 11 575) (bl 11 623) rfl rfl rfl rfl (by kernel_rfl) (by decide) (by decide) (fun K hK => ?_) (fun K hK => ?_)
            · skip
              refine goes_ Tryd.func84 (by kernel_rfl) rfl #[.slice A1 l1.length c1] (by rfl) rfl rfl (by simp only [List.map_toArray, List.map_cons, List.map_nil]; rfl) ?_
              with_reducible refine (clip84 A1 l1.length c1 _ hc1).mono ?_
              rintro e w5 ⟨rfl, hw5⟩
              refine ⟨_, rfl, ?_⟩
              subst hw5
              refine hK.out _ _ ⟨hHeld.1, hHeld.2.1, hHeld.2.2.1, hHeld.2.2.2⟩ (fun hHeld => ?_)
              clear hK K
              refine nS 37 ?_
              refine one_ (i := 6) (N := some 39) (bl 11 639) rfl rfl (by kernel_rfl) (by decide) (fun K hK => ?_)
              refine vS ?_
              refine hK.out _ _ ⟨pw_cell_below (below_alloc (Below.refl _ _) _) hHeld.1, pw_cell_below (below_alloc (Below.refl _ _) _) hHeld.2.1, pw_cell_below (below_alloc (Below.refl _ _) _) hHeld.2.2.1, pw_cell_below (below_alloc (Below.refl _ _) _) hHeld.2.2.2⟩ (fun hHeld => ?_)
              clear hK K
              refine nS 39 ?_
              refine one_ (i := 7) (N := some 40) (bl 11 767) rfl rfl (by kernel_rfl) (by decide) (fun K hK => ?_)
              have hbe : Below wq.heap.size wq ((wq.drew.alloc (.cells #[.slice none 0 0, .slice none 0 0] 38)).alloc (.cells #[.int .i64 x.f0, .slice Ax x.f1.length cx] 24)) := by repeat (first | exact Below.refl _ _ | apply below_alloc | apply below_drew)
              have hsz7 : ((wq.drew.alloc (.cells #[.slice none 0 0, .slice none 0 0] 38)).alloc (.cells #[.int .i64 x.f0, .slice Ax x.f1.length cx] 24)).heap.size = wq.heap.size + 2 := by simp only [World.size_alloc]; rfl
              have hb24 : ((wq.drew.alloc (.cells #[.slice none 0 0, .slice none 0 0] 38)).alloc (.cells #[.int .i64 x.f0, .slice Ax x.f1.length cx] 24)).heap[wq.heap.size + 1]? = some (.cells #[.int .i64 x.f0, .slice Ax x.f1.length cx] 24) := (by have h_ := blk_new (wq.drew.alloc (.cells #[.slice none 0 0, .slice none 0 0] 38)) (.cells #[.int .i64 x.f0, .slice Ax x.f1.length cx] 24); rw [World.size_alloc] at h_; exact h_)
              have hb38 : ((wq.drew.alloc (.cells #[.slice none 0 0, .slice none 0 0] 38)).alloc (.cells #[.int .i64 x.f0, .slice Ax x.f1.length cx] 24)).heap[wq.heap.size]? = some (.cells #[.slice none 0 0, .slice none 0 0] 38) := blk_alloc (blk_new wq.drew _) _
              refine append_full_step (by rfl) (.tmp 37) (.tmp 39) 28 rfl 24 (.agg #[.int .i64 0, .slice none 0 0]) 2 32 Tryd.underlying28 info24 rfl (by decide) A1 l1.length l1.length olds rfl hc1A hol (fun b e j u hu => pw_cell_below hbe (pw_cell_below HBq.out (hocell b e j u hu))) ⟨wq.heap.size + 1, 0, none⟩ 1 1 [.int .i64 x.f0, .slice Ax x.f1.length cx] rfl rfl (cells2 hb24) (by simp [Value.oneCell']) (by omega) (by simp only [maxLen]; omega) (by omega) ?_
              intro v7 w7 hown7 hgr7
              obtain ⟨Am7, cm7, rfl⟩ := own_form hown7
              have hb7 := (Below.refl _ _).grown hgr7 (Nat.le_refl _) (fun k e => by cases e)
              refine hK.out _ _ ⟨pw_cell_below hb7 hHeld.1, pw_cell_below hb7 hHeld.2.1, pw_cell_below hb7 hHeld.2.2.1, pw_cell_below hb7 hHeld.2.2.2⟩ (fun hHeld => ?_)
              clear hK K
              refine nS 40 ?_
              refine pS 8 41 (bl 11 1023) ?_
              exact norm_ (by simp only [putAll, Act.put, List.setIfInBounds_toArray, List.set_cons_zero, List.set_cons_succ]) (hCont (wq.heap.size + 1, wq.heap.size, .slice Am7 (l1.length + 1) cm7) _ ⟨hHeld, fin9_a hbe hb38 (Nat.le_refl _) hown7 hgr7⟩)
            · skip
              refine vS ?_
              refine hK.out _ _ ⟨pw_cell_below (below_alloc (Below.refl _ _) _) hHeld.1, pw_cell_below (below_alloc (Below.refl _ _) _) hHeld.2.1, pw_cell_below (below_alloc (Below.refl _ _) _) hHeld.2.2.1, pw_cell_below (below_alloc (Below.refl _ _) _) hHeld.2.2.2⟩ (fun hHeld => ?_)
              clear hK K
              refine nS 39 ?_
              refine one_ (i := 4) (N := some 37) (bl 11 639) rfl rfl (by kernel_rfl) (by decide) (fun K hK => ?_)
              refine goes_ Tryd.func84 (by kernel_rfl) rfl #[.slice A1 l1.length c1] (by rfl) rfl rfl (by simp only [List.map_toArray, List.map_cons, List.map_nil]; rfl) ?_
              with_reducible refine (clip84 A1 l1.length c1 _ hc1).mono ?_
              rintro e w5 ⟨rfl, hw5⟩
              refine ⟨_, rfl, ?_⟩
              subst hw5
              refine hK.out _ _ ⟨hHeld.1, hHeld.2.1, hHeld.2.2.1, hHeld.2.2.2⟩ (fun hHeld => ?_)
              clear hK K
              refine nS 37 ?_
              refine one_ (i := 7) (N := some 40) (bl 11 767) rfl rfl (by kernel_rfl) (by decide) (fun K hK => ?_)
              have hbe : Below wq.heap.size wq ((wq.drew.alloc (.cells #[.slice none 0 0, .slice none 0 0] 38)).alloc (.cells #[.int .i64 x.f0, .slice Ax x.f1.length cx] 24)) := by repeat (first | exact Below.refl _ _ | apply below_alloc | apply below_drew)
              have hsz7 : ((wq.drew.alloc (.cells #[.slice none 0 0, .slice none 0 0] 38)).alloc (.cells #[.int .i64 x.f0, .slice Ax x.f1.length cx] 24)).heap.size = wq.heap.size + 2 := by simp only [World.size_alloc]; rfl
              have hb24 : ((wq.drew.alloc (.cells #[.slice none 0 0, .slice none 0 0] 38)).alloc (.cells #[.int .i64 x.f0, .slice Ax x.f1.length cx] 24)).heap[wq.heap.size + 1]? = some (.cells #[.int .i64 x.f0, .slice Ax x.f1.length cx] 24) := (by have h_ := blk_new (wq.drew.alloc (.cells #[.slice none 0 0, .slice none 0 0] 38)) (.cells #[.int .i64 x.f0, .slice Ax x.f1.length cx] 24); rw [World.size_alloc] at h_; exact h_)
              have hb38 : ((wq.drew.alloc (.cells #[.slice none 0 0, .slice none 0 0] 38)).alloc (.cells #[.int .i64 x.f0, .slice Ax x.f1.length cx] 24)).heap[wq.heap.size]? = some (.cells #[.slice none 0 0, .slice none 0 0] 38) := blk_alloc (blk_new wq.drew _) _
              refine append_full_step (by rfl) (.tmp 37) (.tmp 39) 28 rfl 24 (.agg #[.int .i64 0, .slice none 0 0]) 2 32 Tryd.underlying28 info24 rfl (by decide) A1 l1.length l1.length olds rfl hc1A hol (fun b e j u hu => pw_cell_below hbe (pw_cell_below HBq.out (hocell b e j u hu))) ⟨wq.heap.size + 1, 0, none⟩ 1 1 [.int .i64 x.f0, .slice Ax x.f1.length cx] rfl rfl (cells2 hb24) (by simp [Value.oneCell']) (by omega) (by simp only [maxLen]; omega) (by omega) ?_
              intro v7 w7 hown7 hgr7
              obtain ⟨Am7, cm7, rfl⟩ := own_form hown7
              have hb7 := (Below.refl _ _).grown hgr7 (Nat.le_refl _) (fun k e => by cases e)
              refine hK.out _ _ ⟨pw_cell_below hb7 hHeld.1, pw_cell_below hb7 hHeld.2.1, pw_cell_below hb7 hHeld.2.2.1, pw_cell_below hb7 hHeld.2.2.2⟩ (fun hHeld => ?_)
              clear hK K
              refine nS 40 ?_
              refine pS 8 41 (bl 11 1023) ?_
              exact norm_ (by simp only [putAll, Act.put, List.setIfInBounds_toArray, List.set_cons_zero, List.set_cons_succ]) (hCont (wq.heap.size + 1, wq.heap.size, .slice Am7 (l1.length + 1) cm7) _ ⟨hHeld, fin9_a hbe hb38 (Nat.le_refl _) hown7 hgr7⟩)
        rintro ⟨gb, ga, v40⟩ w9 ⟨hHeld, hFin⟩
        obtain ⟨Am, cm, rfl⟩ := own_form hFin.2.2.2.1
        have hf380 := blk_frozen hFin.2.1 0
        have hf381 := blk_frozen hFin.2.1 1
        have hcg0 : w9.cell? ⟨ga, 0, none⟩ = some (.slice none 0 0) := (blk_cell hFin.2.1 0).trans rfl
        have hcg1 : w9.cell? ⟨ga, 1, none⟩ = some (.slice none 0 0) := (blk_cell hFin.2.1 1).trans rfl
        refine norm_ (a' := ?_) ?_ ?_
        rotate_left
        · simp only [putAll, Act.put, List.setIfInBounds_toArray, List.set_cons_zero, List.set_cons_succ]
          rfl
        refine last_ (i := 10) (N := none) (bl 11 2047) rfl rfl (by kernel_rfl) (by decide) (fun K hK => ?_)
        refine sS ?_
        refine hK.out _ _ ?_
        clear hK K
        refine done_ (by kernel_rfl) ?_
        clear hc1A hocell hcg0 hcg1 hf380 hf381 hHeld
        obtain ⟨wz, ewz⟩ : ∃ W, (w9.setCell ⟨ga, 0, none⟩ (.slice (some ad) l0.length c0)).setCell ⟨ga, 1, none⟩ (.slice Am (l1.length + 1) cm) = W := ⟨_, rfl⟩
        rw [ewz]
        have hga := hFin.2.2.1
        have hBz : Below wq.heap.size wq wz := ewz ▸ (hFin.1.setCell (p := ⟨ga, 0, none⟩) hga _).setCell (p := ⟨ga, 1, none⟩) hga _
        have BM := Aside0.mk (show wz.heap[ga]? = some (.cells #[.slice (some ad) l0.length c0, .slice Am (l1.length + 1) cm] 38) from ewz ▸ blk_put (blk_put hFin.2.1 0 _ rfl) 1 _ rfl)
        have hown : wz.ownsRow wq.heap.size 24 2 (.slice Am (l1.length + 1) cm) (l1.length + 1) (olds ++ [.int .i64 x.f0, .slice Ax x.f1.length cx]) := by
          rw [← ewz]
          have hne := hFin.2.2.2.2
          exact (hFin.2.2.2.1.kept (grownBy_setCell'' w9 ⟨ga, 0, none⟩ _) (.inr (fun e => hne e))).kept (grownBy_setCell'' _ ⟨ga, 1, none⟩ _) (.inr (fun e => hne e))
        have B4 := Aside0.mk (below_step HBq.out hBz)
        have G4 := Aside0.mk (blk_below KGq.out hBz)
        have S4 := Aside0.mk (blk_below KSq.out hBz)
        have hreps : Reps (k24.K wz) 2 (l1 ++ [x]) (olds ++ [.int .i64 x.f0, .slice Ax x.f1.length cx]) := Reps.snoc (hrep.imp_ (fun _ _ h => k24.K_below B4.out h)) (k24_mk wz x HXL.out (Kd.C_below HXC.out (below_step HRQ.out hBz))) rfl
        have hlen : (l1 ++ [x]).length = l1.length + 1 := by simp
        obtain ⟨A', c', e', hlm, hRm⟩ := OwnRow.reads (⟨_, by rw [hlen]; exact hown, hreps⟩ : OwnRow (k24.K wz) 24 2 wz wq.heap.size (.slice Am (l1.length + 1) cm) (l1 ++ [x]))
        obtain ⟨rfl, _, rfl⟩ := (by simpa [hlen] using e' : Am = A' ∧ True ∧ cm = c')
        have TB1 := guard_gauge_table.calls 1000 g0 g1 g2 g3 (some ad) c0 l0 Am cm (l1 ++ [x]) 2 t1 wz (Kd.C_below HL.out B4.out) hc0 (Kd.C_of_rows (d := k24) hRm) hlm HT1.out
        rw [hlen] at TB1
        have TC := Aside0.mk TB1
        clear TB1 hRm hlm e' hreps hown hBz ewz hFin hga hrep hol HBq HRQ KSq KGq KQ hlen
        have hg0 : wz.cell? ⟨w.heap.size + 1, 0, none⟩ = some (.int .i64 g0) := (blk_cell G4.out 0).trans rfl
        have hg1 : wz.cell? ⟨w.heap.size + 1, 1, none⟩ = some (.int .i64 g1) := (blk_cell G4.out 1).trans rfl
        have hg2 : wz.cell? ⟨w.heap.size + 1, 2, none⟩ = some (.int .i64 g2) := (blk_cell G4.out 2).trans rfl
        have hg3 : wz.cell? ⟨w.heap.size + 1, 3, none⟩ = some (.int .i64 g3) := (blk_cell G4.out 3).trans rfl
        have hm0 : wz.cell? ⟨ga, 0, none⟩ = some (.slice (some ad) l0.length c0) := (blk_cell BM.out 0).trans rfl
        have hm1 : wz.cell? ⟨ga, 1, none⟩ = some (.slice Am (l1.length + 1) cm) := (blk_cell BM.out 1).trans rfl
        go_wp2_with (fail)
        refine TC.out.mono ?_
        rintro e w5 ⟨v5, rfl, ho5, hb5⟩
        obtain ⟨A5, c5, rfl, hl5, hC5⟩ := Kd.R_reads ho5
        have B5 := Aside0.mk (below_step B4.out hb5)
        have G5 := Aside0.mk (blk_below G4.out hb5)
        have S5 := Aside0.mk (blk_below S4.out hb5)
        have C5 := Aside0.mk hC5
        have L5 := Aside0.mk hl5
        clear hb5 ho5 hl5 hC5 hg0 hg1 hg2 hg3 hm0 hm1 TC BM B4 G4 S4
        go_wp2_with (fail)
        refine (guard_table_most.calls A5 c5 t1 m _ C5.out L5.out (HT.out.go B5.out) HM1.out).mono ?_
        rintro e w6 ⟨rfl, hb6⟩
        have B6 := Aside0.mk (below_step B5.out hb6)
        have G6 := Aside0.mk (blk_below G5.out hb6)
        have S6 := Aside0.mk (blk_below S5.out hb6)
        clear hb6 B5 G5 S5 C5 L5
        have HW := Aside0.mk (show wrap64 ((i : Int) + 1) = (i : Int) + 1 from by have h1 := LN.out.1; have h2 := HI.out; rw [← i64_w, IntKind.wrap_i64]; omega)
        have hn := HNX.out
        clear HNX
        by_cases hmp : m > ps
        · rw [if_pos hmp] at hn
          have HNY := Aside0.mk hn
          have hq : decide (ps < m) = true := decide_eq_true hmp
          clear hn hmp
          go_wp2
          go_roundg k1
          case measure => omega
          case rel => exact ⟨i + 1, i, m, rfl, rfl, (by first | rfl | (simp [HW.out]; done)), ⟨by have := HI.out; omega⟩, HNY, B6, S6, G6⟩
        · rw [if_neg hmp] at hn
          have HNY := Aside0.mk hn
          have hq : decide (ps < m) = false := decide_eq_false hmp
          clear hn hmp
          go_wp2
          go_roundg k1
          case measure => omega
          case rel => exact ⟨i + 1, lf, ps, rfl, rfl, (by first | rfl | (simp [HW.out]; done)), ⟨by have := HI.out; omega⟩, HNY, B6, S6, G6⟩
  · rw [if_neg he] at h
    simp only [Option.some.injEq, Prod.mk.injEq] at h
    obtain ⟨rfl, rfl, rfl⟩ := h
    generalize checkS l0 l1 g0 g1 g2 g3 = e0 at he CK
    have hne : (e0 != 0) = true := bne_iff_ne.mpr he
    clear hr0 hr1 hT_ he
    go_enter Tryd.func42, Tryd.ntmps42
    go_wp2_with (go_at_call 26; refine (CK.out _ HB0.out).mono ?_; rintro e w1 ⟨rfl, hb1⟩; have HB1 := Aside0.mk (below_step HB0.out hb1); clear hb1)
    go_ret3
    exact ⟨rfl, HB1.out⟩
end Go.Proofs.YtamibghbkjmmeaaDoor.G
end
section
namespace Go.Proofs.YtamibghbkjmmeaaDoor.G
open Go.RowKit Go.Proofs.YtamibghbkjmmeaaDoorW.PrintWords Go.Proofs.YtamibghbkjmmeaaDoorW.PrintLast Go.Proofs.YtamibghbkjmmeaaDoorW.PrintMore
open Go.Shelf
set_option linter.unusedVariables false
set_option linter.unusedSimpArgs false
def sortRen : Ren :=
  { f := fun x =>
      match x with
      | 189 => 88
      | 125 => 106
      | 257 => 105
      | 128 => 123
      | 129 => 124
      | 294 => 114
      | 295 => 115
      | 296 => 116
      | 297 => 117
      | 298 => 118
      | 299 => 119
      | 216 => 120
      | 300 => 121
      | 301 => 122
      | 328 => 126
      | 329 => 127
      | 330 => 128
      | 331 => 129
      | 332 => 130
      | 215 => 110
      | 343 => 131
      | n => n,
    t := fun x =>
      match x with
      | 28 => 22
      | 3 => 3
      | 46 => 116
      | 0 => 0
      | 51 => 149
      | 53 => 151
      | 4 => 4
      | 183 => 165
      | 182 => 164
      | 131 => 160
      | 5 => 5
      | 9 => 9
      | 218 => 174
      | 222 => 178
      | 228 => 180
      | 229 => 181
      | n => n,
    g := fun x => x }
theorem sortLays : Lays.n189 Tryd.prog sortRen :=
  { mixed := by kernel_rfl,
    f125 := by kernel_rfl,
    f128 := by kernel_rfl,
    f129 := by kernel_rfl,
    f189 := by kernel_rfl,
    f215 := by kernel_rfl,
    f216 := by kernel_rfl,
    f257 := by kernel_rfl,
    f294 := by kernel_rfl,
    f295 := by kernel_rfl,
    f296 := by kernel_rfl,
    f297 := by kernel_rfl,
    f298 := by kernel_rfl,
    f299 := by kernel_rfl,
    f300 := by kernel_rfl,
    f301 := by kernel_rfl,
    f328 := by kernel_rfl,
    f329 := by kernel_rfl,
    f330 := by kernel_rfl,
    f331 := by kernel_rfl,
    f332 := by kernel_rfl,
    f343 := by kernel_rfl,
    t0 := Tryd.underlying0,
    a0 := Tryd.isAgg0,
    z0 := Tryd.sizeOf0,
    v0 := Tryd.zeroValue0,
    t3 := Tryd.underlying3,
    a3 := Tryd.isAgg3,
    z3 := Tryd.sizeOf3,
    v3 := Tryd.zeroValue3,
    t4 := Tryd.underlying4,
    a4 := Tryd.isAgg4,
    z4 := Tryd.sizeOf4,
    v4 := Tryd.zeroValue4,
    t5 := Tryd.underlying5,
    a5 := Tryd.isAgg5,
    z5 := Tryd.sizeOf5,
    v5 := Tryd.zeroValue5,
    t9 := Tryd.underlying9,
    a9 := Tryd.isAgg9,
    z9 := Tryd.sizeOf9,
    v9 := Tryd.zeroValue9,
    t28 := Tryd.underlying22,
    a28 := Tryd.isAgg22,
    z28 := Tryd.sizeOf22,
    v28 := Tryd.zeroValue22,
    t46 := Tryd.underlying116,
    a46 := Tryd.isAgg116,
    z46 := Tryd.sizeOf116,
    v46 := Tryd.zeroValue116,
    t51 := Tryd.underlying149,
    a51 := Tryd.isAgg149,
    z51 := Tryd.sizeOf149,
    v51 := Tryd.zeroValue149,
    t53 := Tryd.underlying151,
    a53 := Tryd.isAgg151,
    z53 := Tryd.sizeOf151,
    v53 := Tryd.zeroValue151,
    t131 := Tryd.underlying160,
    a131 := Tryd.isAgg160,
    z131 := Tryd.sizeOf160,
    v131 := Tryd.zeroValue160,
    t182 := Tryd.underlying164,
    a182 := Tryd.isAgg164,
    z182 := Tryd.sizeOf164,
    v182 := Tryd.zeroValue164,
    t183 := Tryd.underlying165,
    a183 := Tryd.isAgg165,
    z183 := Tryd.sizeOf165,
    v183 := Tryd.zeroValue165,
    t218 := Tryd.underlying174,
    a218 := Tryd.isAgg174,
    z218 := Tryd.sizeOf174,
    v218 := Tryd.zeroValue174,
    t222 := Tryd.underlying178,
    a222 := Tryd.isAgg178,
    z222 := Tryd.sizeOf178,
    v222 := Tryd.zeroValue178,
    t228 := Tryd.underlying180,
    a228 := Tryd.isAgg180,
    z228 := Tryd.sizeOf180,
    v228 := Tryd.zeroValue180,
    t229 := Tryd.underlying181,
    a229 := Tryd.isAgg181,
    z229 := Tryd.sizeOf181,
    v229 := Tryd.zeroValue181 }
theorem slices_Sort.calls (blk off cap : Nat) (zs : List Int) (w : World) (hH : Go.Sort.Holds (Value.int .i64) w blk off zs.toArray) (hblk : blk < w.heap.size) (hsz : zs.length < 4611686018427387904) :
    Calls Tryd.prog 88 #[.slice (some ⟨blk, off, none⟩) zs.length cap] w fun e w' => e = .returned (.tuple #[]) ∧ ∃ n os, w' = Go.Sort.grow (Go.Sort.putRow (Value.int .i64) (Sort.ahead w n) blk off (zs.mergeSort fun x y => decide (x ≤ y)).toArray) os :=
  calls_of_every_depth fun D => AnyS.slices_Sort_int_alone sortLays D blk off cap zs w hH hblk hsz
end Go.Proofs.YtamibghbkjmmeaaDoor.G
end
section
namespace Go.Proofs.YtamibghbkjmmeaaDoor.G
open Go.RowKit Go.Proofs.YtamibghbkjmmeaaDoorW.PrintWords Go.Proofs.YtamibghbkjmmeaaDoorW.PrintLast Go.Proofs.YtamibghbkjmmeaaDoorW.PrintMore
set_option linter.unusedVariables false
set_option linter.unusedSimpArgs false
def farI (a b : Int) : Int := mx (wrap64 (a - b)) (wrap64 (b - a))
def dAcc (l0 l1 : List S24) (i : Nat) : List Int := 0 :: (l0.take i).flatMap (fun a => l1.map (fun b => farI a.f0 b.f0))
theorem rd_get (l : List S24) (i : Nat) (h : i < l.length) : rd_T24 l (i : Int) = l[i] := by simp [rd_T24, h]
theorem dAcc_succ (l0 l1 : List S24) (i : Nat) (h : i < l0.length) : dAcc l0 l1 (i + 1) = dAcc l0 l1 i ++ l1.map (fun b => farI (rd_T24 l0 (i : Int)).f0 b.f0) := by
  unfold dAcc
  rw [List.take_add_one, List.getElem?_eq_getElem h, rd_get l0 i h, Option.toList_some, List.flatMap_append, List.flatMap_cons, List.flatMap_nil, List.append_nil]
  rfl
theorem map_succ {β : Type} (g : S24 → β) (l : List S24) (k : Nat) (h : k < l.length) : (l.take (k + 1)).map g = (l.take k).map g ++ [g (rd_T24 l (k : Int))] := by
  rw [List.take_add_one, List.getElem?_eq_getElem h, rd_get l k h, Option.toList_some, List.map_append]
  rfl
theorem dAcc_len (l0 l1 : List S24) (i : Nat) (h0 : l0.length ≤ 8) (h1 : l1.length ≤ 8) : (dAcc l0 l1 i).length ≤ 65 := by
  have key : ∀ l : List S24, (l.flatMap (fun a => l1.map (fun b => farI a.f0 b.f0))).length = l.length * l1.length := by
    intro l
    induction l with
    | nil => simp
    | cons a l ih => rw [List.flatMap_cons, List.length_append, ih, List.length_map, List.length_cons]; rw [Nat.add_mul, Nat.one_mul, Nat.add_comm]
  have h2 : (l0.take i).length ≤ 8 := by rw [List.length_take]; omega
  have h3 := Nat.mul_le_mul h2 h1
  unfold dAcc
  rw [List.length_cons, key]
  omega
def sortI (l : List Int) : List Int := l.mergeSort (fun x y => decide (x ≤ y))
def rowB (d : Int) (a : S24) (l1 : List S24) : Nat → Int
  | 0 => 0
  | n + 1 => if farI a.f0 (rd_T24 l1 (n : Int)).f0 ≤ d then Go.bits .or .u64 (rowB d a l1 n) (IntKind.u64.wrap (2 ^ min n 64)) else rowB d a l1 n
def tabB (d : Int) (l0 l1 : List S24) : List Int := l0.map (fun a => rowB d a l1 l1.length)
theorem sort_own {v : Value} {xs : List Int} {w : World} {base : Nat} {ok : Nat → Prop} (h : Kd.R (Kd.int .i64) 3 w base ok v xs) (hne : xs ≠ []) (hl : xs.length ≤ 1000) :
    Calls Tryd.prog 88 #[v] w fun e w' => e = .returned (.tuple #[]) ∧ Kd.R (Kd.int .i64) 3 w' base ok v (sortI xs) ∧ w.grownBy w' v.ownBlock := by
  have ho := Kd.own_of_R h
  have hok := h.1
  rcases ho.2 with ⟨rfl, h0⟩ | ⟨g, cap, cur, rfl, h1, h2, h3, h4, h5, h6⟩
  · exact absurd (List.eq_nil_of_length_eq_zero h0) hne
  · refine (slices_Sort.calls g 0 cap xs w (holds_of_blockI h2 (by rw [Nat.mul_one] at h6; exact h6)) (blk_lt h2) (by omega)).mono ?_
    rintro e w' ⟨rfl, n, os, rfl⟩
    refine ⟨rfl, Kd.R_of_own (h1 := fun _ => rfl) ?_ hok, grownBy_sortedI _⟩
    have hlen : (sortI xs).length = xs.length := List.length_mergeSort _
    rw [hlen]
    exact ownsRow_sortedI hlen h1 h2 h3 h4 h5
def TabP (d : Int) (l0 l1 : List S24) (i : Nat) (v : Int) (T : List Int) : Prop :=
  T.length = l0.length ∧ ∀ q, q < l0.length → T.getD q 0 = if q < i then rowB d (rd_T24 l0 (q : Int)) l1 l1.length else if q = i then v else 0
theorem TabP.start (d : Int) (l0 l1 : List S24) : TabP d l0 l1 0 0 (List.replicate l0.length 0) := ⟨by simp, fun q hq => by
  rw [List.getD_eq_getElem?_getD, List.getElem?_replicate]; simp [hq]⟩
theorem TabP.next {d : Int} {l0 l1 : List S24} {i : Nat} {v : Int} {T : List Int} (h : TabP d l0 l1 i v T) (hv : v = rowB d (rd_T24 l0 (i : Int)) l1 l1.length) : TabP d l0 l1 (i + 1) 0 T := ⟨h.1, fun q hq => by
  rw [h.2 q hq]
  by_cases h1 : q < i
  · rw [if_pos h1, if_pos (by omega)]
  · rw [if_neg h1]
    by_cases h2 : q = i
    · rw [if_pos h2, if_pos (by omega), hv, h2]
    · rw [if_neg h2, if_neg (by omega)]; simp⟩
theorem TabP.set {d : Int} {l0 l1 : List S24} {i : Nat} {v : Int} {T : List Int} (h : TabP d l0 l1 i v T) (hi : i < l0.length) (u : Int) : TabP d l0 l1 i u (T.set i u) := ⟨by rw [List.length_set]; exact h.1, fun q hq => by
  have h0 := h.1
  rw [List.getD_eq_getElem?_getD, List.getElem?_set]
  by_cases h2 : i = q
  · rw [if_pos h2, if_pos (by omega), if_neg (by omega), if_pos h2.symm]; rfl
  · rw [if_neg h2, ← List.getD_eq_getElem?_getD, h.2 q hq]
    by_cases h1 : q < i
    · rw [if_pos h1, if_pos h1]
    · rw [if_neg h1, if_neg h1, if_neg (fun e => h2 e.symm), if_neg (fun e => h2 e.symm)]⟩
theorem TabP.at {d : Int} {l0 l1 : List S24} {i : Nat} {v : Int} {T : List Int} (h : TabP d l0 l1 i v T) (hi : i < l0.length) : rd T (i : Int) = v := by
  have := h.2 i hi
  rw [if_neg (by omega), if_pos rfl] at this
  simpa [rd, rdOf] using this
theorem TabP.done {d : Int} {l0 l1 : List S24} {v : Int} {T : List Int} (h : TabP d l0 l1 l0.length v T) : T = tabB d l0 l1 := by
  refine List.ext_getElem (by simp [tabB, h.1]) (fun q h1 h2 => ?_)
  have hq : q < l0.length := by have := h.1; omega
  have h3 := h.2 q hq
  rw [if_pos hq, List.getD_eq_getElem?_getD, List.getElem?_eq_getElem h1, rd_get l0 q hq] at h3
  simpa [tabB] using h3
theorem rows_ne {α β : Type} {d : Kd α} {d' : Kd β} {e e' : Nat} {W : World} {b b' : Nat} {ok ok' : Nat → Prop} {v v' : Value} {xs : List α} {ys : List β} (h : d.R e W b ok v xs) (h' : d'.R e' W b' ok' v' ys) (hne : e' ≠ e) : ∀ k, v.ownBlock = some k → some k ≠ v'.ownBlock := fun k hk => by
  obtain ⟨inner, ho⟩ := Kd.R_own h
  obtain ⟨cells, hc⟩ := own_typed ho k hk
  exact Kd.R_ne h' hc hne
def balG (l0 l1 : List S24) : List Int → Option (List S85 × Int)
  | [] => some ([], 0)
  | d :: ds => (guard_table_most.f (tabB d l0 l1)).bind fun m => if m = (l0.length : Int) then (guard_table_pairs.f (tabB d l0 l1)).bind fun p => some (p, d) else balG l0 l1 ds
def guard_Balance.f (l0 l1 : List S24) (g0 g1 g2 g3 : Int) : Option (List S85 × Int × Int) :=
  if checkS l0 l1 g0 g1 g2 g3 = 0 then (if l0.length = l1.length then (balG l0 l1 (sortI (dAcc l0 l1 l0.length))).bind fun p => some (p.1, p.2, 0) else some ([], 0, 9)) else some ([], 0, checkS l0 l1 g0 g1 g2 g3)
set_option maxHeartbeats 40000000 in
set_option maxRecDepth 100000 in
theorem guard_Balance.calls (A0 : Option Addr) (c0 : Nat) (l0 : List S24) (A1 : Option Addr) (c1 : Nat) (l1 : List S24) (g0 g1 g2 g3 : Int) (r1 : List S85) (r2 r3 : Int) (w : World) (hr0 : Kd.C k24 w A0 l0.length l0) (hc0 : l0.length ≤ c0) (hr1 : Kd.C k24 w A1 l1.length l1) (hc1 : l1.length ≤ c1) (hT_ : TabOk w) (h : guard_Balance.f l0 l1 g0 g1 g2 g3 = some (r1, r2, r3)) :
    Calls Tryd.prog 46 #[.agg #[.slice A0 l0.length c0, .slice A1 l1.length c1], .agg #[.int .i64 g0, .int .i64 g1, .int .i64 g2, .int .i64 g3]] w fun e w' => ∃ v0_ : Value, e = .returned (.tuple #[v0_, .int .i64 r2, .int .i64 r3]) ∧ Kd.R k85 85 w' w.heap.size (fun _ => True) v0_ r1 ∧ Below w.heap.size w w' := by
  have HL := Aside0.mk hr0
  have HR := Aside0.mk hr1
  have HB0 := Aside0.mk (show Below w.heap.size w ((w.alloc (.cells #[.slice A0 l0.length c0, .slice A1 l1.length c1] 38)).alloc (.cells #[.int .i64 g0, .int .i64 g1, .int .i64 g2, .int .i64 g3] 26)) from ((Below.refl _ w).alloc (Nat.le_refl _) _).alloc (by simp) _)
  have KS := Aside0.mk (show ((w.alloc (.cells #[.slice A0 l0.length c0, .slice A1 l1.length c1] 38)).alloc (.cells #[.int .i64 g0, .int .i64 g1, .int .i64 g2, .int .i64 g3] 26)).heap[w.heap.size]? = some (.cells #[.slice A0 l0.length c0, .slice A1 l1.length c1] 38) from blk_alloc (blk_new _ _) _)
  have KG := Aside0.mk (show ((w.alloc (.cells #[.slice A0 l0.length c0, .slice A1 l1.length c1] 38)).alloc (.cells #[.int .i64 g0, .int .i64 g1, .int .i64 g2, .int .i64 g3] 26)).heap[w.heap.size + 1]? = some (.cells #[.int .i64 g0, .int .i64 g1, .int .i64 g2, .int .i64 g3] 26) from by have h_ := blk_new (w.alloc (.cells #[.slice A0 l0.length c0, .slice A1 l1.length c1] 38)) (.cells #[.int .i64 g0, .int .i64 g1, .int .i64 g2, .int .i64 g3] 26); simpa using h_)
  have CK := Aside0.mk (fun W (hb : Below w.heap.size w W) => guard_Check.calls A0 c0 l0 A1 c1 l1 g0 g1 g2 g3 _ W (Kd.C_below hr0 hb) hc0 (Kd.C_below hr1 hb) hc1 rfl)
  have HT := Aside0.mk hT_
  unfold guard_Balance.f at h
  by_cases he : checkS l0 l1 g0 g1 g2 g3 = 0
  · rw [if_pos he] at h
    have LN := Aside0.mk (check_len he)
    rw [he] at CK
    by_cases hll : l0.length = l1.length
    · rw [if_pos hll] at h
      obtain ⟨⟨pp, pd⟩, hp, h⟩ := Option.bind_eq_some_iff.mp h
      simp only [Option.some.injEq, Prod.mk.injEq] at h
      obtain ⟨rfl, rfl, rfl⟩ := h
      have HG := Aside0.mk hp
      have hlb : ((l0.length : Int) != (l1.length : Int)) = false := by simp; omega
      have hlb2 : (l0.length != l1.length) = false := by simp; omega
      have HLL := Aside0.mk hll
      clear hr0 hr1 hT_ hp he hll
      go_enter Tryd.func46, Tryd.ntmps46
      go_wp2_with (fail)
      refine (CK.out _ HB0.out).mono ?_
      rintro e w1 ⟨rfl, hb1⟩
      have HB1 := Aside0.mk (below_step HB0.out hb1)
      have KS1 := Aside0.mk (blk_below KS.out hb1)
      clear hb1 CK HB0 KS KG
      have hs0 : w1.cell? ⟨w.heap.size, 0, none⟩ = some (.slice A0 l0.length c0) := (blk_cell KS1.out 0).trans rfl
      have hs1 : w1.cell? ⟨w.heap.size, 1, none⟩ = some (.slice A1 l1.length c1) := (blk_cell KS1.out 1).trans rfl
      go_wp2_with (first | ((with_reducible refine gate_dst (N := 33) rfl ?_); refine Kd.R_lit (Kd.int .i64) _ 3 ?hg (N := 33) ?hd (xs := ([0] : List Int)) (inner := [.int .i64 0]) (ok := fun _ => True) (okp := fun _ => True) ?hr ?hp (fun _ hk => hk) trivial (Below.refl _ _) (Nat.le_refl _) (by simp) ?_; (case hd => rfl); (case hg => rfl); (case hr => first | (go_simp; done) | (go_simp; rfl)); (case hp => exact (Reps.snoc (Reps.none _ _) rfl rfl)); intro v33 w2 ho hb hg_ hnew_; clear hg_ hnew_; have HO := Aside0.mk (Kd.R_lower ho (below_size HB1.out)); have HB2 := Aside0.mk (below_step HB1.out hb); have KS2 := Aside0.mk (blk_below KS1.out hb); have hk0 : w2.cell? ⟨w.heap.size, 0, none⟩ = some (.slice A0 l0.length c0) := (blk_cell KS2.out 0).trans rfl; clear ho hb))
      go_loopg [8, 37] l0.length (fun kq v8 v37 w' => ∃ i : Nat, v37 = .int .i64 (i : Int) ∧ Aside0 (i + kq = l0.length) ∧ Aside0 (Kd.R (Kd.int .i64) 3 w' w.heap.size (fun _ => True) v8 (dAcc l0 l1 i)) ∧ Aside0 (Below w.heap.size w w') ∧ Aside0 (w'.heap[w.heap.size]? = some (.cells #[.slice A0 l0.length c0, .slice A1 l1.length c1] 38)))
      case atStart => exact ⟨0, rfl, ⟨by omega⟩, HO, HB2, KS2⟩
      case round =>
        clear HO HB2 KS2 HB1 KS1
        obtain ⟨i, rfl, HI, HD, HB, KS⟩ := hrel
        cases gk with
        | zero =>
          have hie : decide (i < l0.length) = false := by have := HI.out; simp; omega
          obtain rfl : i = l0.length := by have := HI.out; omega
          have hlen := dAcc_len l0 l1 l0.length LN.out.1 LN.out.2
          go_wp2_with (fail)
          refine (sort_own HD.out (by simp [dAcc]) (by omega)).mono ?_
          rintro e w6 ⟨rfl, hR6, hg6⟩
          have KS6 := Aside0.mk (blk_grown KS.out hg6 (Kd.R_ne HD.out KS.out (by decide)))
          have hR0 := HD.out
          have HB6 := Aside0.mk (HB.out.grown hg6 HB.out.size (fun k e => by obtain ⟨inner, ho⟩ := Kd.R_own hR0; exact own_base ho k e))
          obtain ⟨S, hS⟩ : ∃ S, sortI (dAcc l0 l1 l0.length) = S := ⟨_, rfl⟩
          have hSl : S.length ≤ 65 := by rw [← hS]; have : (sortI (dAcc l0 l1 l0.length)).length = (dAcc l0 l1 l0.length).length := List.length_mergeSort _; omega
          rw [hS] at hR6 HG
          obtain ⟨As, cs, eS, hlS, _⟩ := Kd.R_reads hR6
          subst eS
          have HS6 := Aside0.mk hR6
          have HSL := Aside0.mk hSl
          clear hR6 hg6 hR0 HD HB KS hlen hS hSl HI hlS
          go_wp2
          go_loopg [62] S.length (fun kq v62 w' => ∃ j : Nat, v62 = .int .i64 (j : Int) ∧ Aside0 (j + kq = S.length) ∧ Aside0 (balG l0 l1 (S.drop j) = some (pp, pd)) ∧ Aside0 (Kd.R (Kd.int .i64) 3 w' w.heap.size (fun _ => True) (.slice As S.length cs) S) ∧ Aside0 (Below w.heap.size w w') ∧ Aside0 (w'.heap[w.heap.size]? = some (.cells #[.slice A0 l0.length c0, .slice A1 l1.length c1] 38)))
          case atStart => exact ⟨0, rfl, ⟨by omega⟩, HG, HS6, HB6, KS6⟩
          case round =>
            clear HG HS6 HB6 KS6
            obtain ⟨j, rfl, HJ, HG, HD, HB, KS⟩ := hrel
            cases gk with
            | zero =>
              have hje : decide (j < S.length) = false := by have := HJ.out; simp; omega
              have hg := HG.out
              rw [List.drop_eq_nil_of_le (by have := HJ.out; omega)] at hg
              obtain ⟨rfl, rfl⟩ := Prod.mk.inj (Option.some.inj hg)
              clear hg HG
              go_wp2
              go_ret3
              exact ⟨_, rfl, Kd.R_nil _ _ _ _ _, HB.out⟩
            | succ k2 =>
              have hjl : j < S.length := by have := HJ.out; omega
              have hje : decide (j < S.length) = true := by simp; omega
              have hg := HG.out
              rw [List.drop_eq_getElem_cons hjl] at hg
              obtain ⟨d, hd⟩ : ∃ d, S[j] = d := ⟨_, rfl⟩
              rw [hd] at hg
              obtain ⟨m, hm, hg⟩ := Option.bind_eq_some_iff.mp hg
              have HM := Aside0.mk hm
              have HN := Aside0.mk hg
              obtain ⟨aS, e0, hx0⟩ := Kd.at_int (Kd.R_reads' HD.out).2.2 (j : Int) (by omega) (by omega)
              cases e0
              have hrd : rd S (j : Int) = d := by simp [rd, rdOf, hjl, hd]
              rw [hrd] at hx0
              simp only [Int.toNat_natCast] at hx0
              have hk0 : wr.cell? ⟨w.heap.size, 0, none⟩ = some (.slice A0 l0.length c0) := (blk_cell KS.out 0).trans rfl
              have hk1 : wr.cell? ⟨w.heap.size, 1, none⟩ = some (.slice A1 l1.length c1) := (blk_cell KS.out 1).trans rfl
              clear hm hg HG hd hrd
              go_wp2_with ((with_reducible refine gate_dst (N := 69) rfl ?_); refine Kd.R_make (Kd.int .u64) _ 116 rfl (N := 69) rfl 111 _ _ rfl (l0.length : Int) rfl rfl Tryd.underlying111 (.int .u64 0) 8 info116 rfl (by decide) (by omega) 0 (ok := fun _ => True) (okp := fun _ => True) rfl (fun _ hk => hk) trivial (by omega) (by have := LN.out.1; simp; omega) (Below.refl _ _) (Nat.le_refl _) ?_; intro v69 w7 ho hb hg_ hnew_; have HT7 := Aside0.mk (show Kd.R (Kd.int .u64) 116 w7 w.heap.size (fun _ => True) v69 (List.replicate l0.length 0) from by have h := Kd.R_lower ho HB.out.size; simpa using h); have HB7 := Aside0.mk (below_step HB.out hb); have HD7 := Aside0.mk (Kd.R_below HD.out hb); have KS7 := Aside0.mk (blk_below KS.out hb); have hk70 : w7.cell? ⟨w.heap.size, 0, none⟩ = some (.slice A0 l0.length c0) := (blk_cell KS7.out 0).trans rfl; clear ho hb hg_ hnew_ hk0 hk1)
              obtain ⟨At, ct, eT, hlt, _⟩ := Kd.R_reads HT7.out
              simp only [List.length_replicate] at eT hlt
              subst eT
              clear HD HB KS hlt hx0
              go_loopg [73] l0.length (fun kq v73 w' => ∃ (i : Nat) (T : List Int), v73 = .int .i64 (i : Int) ∧ Aside0 (i + kq = l0.length) ∧ Aside0 (TabP d l0 l1 i 0 T) ∧ Aside0 (Kd.R (Kd.int .u64) 116 w' w.heap.size (fun _ => True) (.slice At l0.length ct) T) ∧ Aside0 (Kd.R (Kd.int .i64) 3 w' w.heap.size (fun _ => True) (.slice (some aS) S.length cs) S) ∧ Aside0 (Below w.heap.size w w') ∧ Aside0 (w'.heap[w.heap.size]? = some (.cells #[.slice A0 l0.length c0, .slice A1 l1.length c1] 38)))
              case atStart => exact ⟨0, _, rfl, ⟨by omega⟩, ⟨TabP.start d l0 l1⟩, HT7, HD7, HB7, KS7⟩
              case round =>
                clear HT7 HD7 HB7 KS7 hk70
                obtain ⟨i, T, rfl, HI, HP, HTT, HD, HB, KS⟩ := hrel
                cases gk with
                | zero =>
                  have hie : decide (i < l0.length) = false := by have := HI.out; simp; omega
                  obtain rfl : i = l0.length := by have := HI.out; omega
                  have eTT := HP.out.done
                  subst eTT
                  have hlenT : (tabB d l0 l1).length = l0.length := by simp [tabB]
                  have hTC1 : Kd.C (Kd.int .u64) wr At (tabB d l0 l1).length (tabB d l0 l1) ∧ l0.length ≤ ct := by
                    obtain ⟨A', c', e', h1, h2⟩ := Kd.R_reads HTT.out
                    injection e' with e1 e2 e3
                    subst e1
                    subst e3
                    exact ⟨h2, by omega⟩
                  have MC := guard_table_most.calls At ct (tabB d l0 l1) m wr hTC1.1 (by have := hTC1.2; omega) (HT.out.go HB.out) HM.out
                  rw [hlenT] at MC
                  have MCA := Aside0.mk MC
                  have hn := HN.out
                  have HTC := Aside0.mk hTC1.1
                  have HTc := Aside0.mk hTC1.2
                  clear MC hTC1 hlenT HN
                  go_wp2_with (fail)
                  refine MCA.out.mono ?_
                  rintro e w8 ⟨rfl, hb8⟩
                  have HB8 := Aside0.mk (below_step HB.out hb8)
                  have KS8 := Aside0.mk (blk_below KS.out hb8)
                  have HD8 := Aside0.mk (Kd.R_below HD.out hb8)
                  have HT8 := Aside0.mk (Kd.C_below HTC.out hb8)
                  clear hb8 HB KS HD HTC HTT MCA
                  by_cases hml : m = (l0.length : Int)
                  · rw [if_pos hml] at hn
                    obtain ⟨P1, hp1, hn⟩ := Option.bind_eq_some_iff.mp hn
                    obtain ⟨rfl, rfl⟩ := Prod.mk.inj (Option.some.inj hn)
                    have hmb : (m == (l0.length : Int)) = true := beq_iff_eq.mpr hml
                    have hlenT : (tabB d l0 l1).length = l0.length := by simp [tabB]
                    have PC := guard_table_pairs.calls At ct (tabB d l0 l1) P1 w8 HT8.out (by rw [hlenT]; exact HTc.out) (HT.out.go HB8.out) hp1
                    rw [hlenT] at PC
                    have PCA := Aside0.mk PC
                    clear hn hml PC hlenT hp1
                    go_wp2_with (fail)
                    refine PCA.out.mono ?_
                    rintro e w9 ⟨v9, rfl, ho9, hb9⟩
                    have HB9 := Aside0.mk (below_step HB8.out hb9)
                    have HO9 := Aside0.mk (Kd.R_lower ho9 HB8.out.size)
                    clear ho9 hb9 PCA
                    go_wp2
                    go_ret3
                    exact ⟨_, rfl, HO9.out, HB9.out⟩
                  · rw [if_neg hml] at hn
                    have HN2 := Aside0.mk hn
                    have hmb : (m == (l0.length : Int)) = false := beq_eq_false_iff_ne.mpr hml
                    have hwj := Aside0.mk (show wrap64 ((j : Int) + 1) = (j : Int) + 1 from by have h1 := HSL.out; rw [← i64_w, IntKind.wrap_i64]; omega)
                    clear hn hml
                    go_wp2
                    go_roundg k2
                    case measure => omega
                    case rel => exact ⟨j + 1, (by first | rfl | (simp [hwj.out]; done)), ⟨by have := HJ.out; omega⟩, HN2, HD8, HB8, KS8⟩
                | succ k3 =>
                  have hil : i < l0.length := by have := HI.out; omega
                  have hie : decide (i < l0.length) = true := by simp; omega
                  obtain ⟨ad, Ax, cx, e0, hx0, hx1, hxl, hxC⟩ := at_T24 (Kd.C_below HL.out HB.out) (i : Int) (by omega) (by omega)
                  cases e0
                  clear hxl hxC
                  obtain ⟨x, hx⟩ : ∃ x, rd_T24 l0 (i : Int) = x := ⟨_, rfl⟩
                  rw [hx] at hx0 hx1
                  simp only [Int.toNat_natCast] at hx0 hx1
                  have KA := Aside0.mk (blk_new wr (.cells #[.int .i64 x.f0, .slice Ax x.f1.length cx] 24))
                  have HB1 := Aside0.mk (HB.out.alloc HB.out.size (.cells #[.int .i64 x.f0, .slice Ax x.f1.length cx] 24))
                  have KS1 := Aside0.mk (blk_alloc KS.out (.cells #[.int .i64 x.f0, .slice Ax x.f1.length cx] 24))
                  have HD1 := Aside0.mk (Kd.R_alloc HD.out (.cells #[.int .i64 x.f0, .slice Ax x.f1.length cx] 24))
                  have HT1 := Aside0.mk (Kd.R_alloc HTT.out (.cells #[.int .i64 x.f0, .slice Ax x.f1.length cx] 24))
                  have hk1 : (wr.alloc (.cells #[.int .i64 x.f0, .slice Ax x.f1.length cx] 24)).cell? ⟨w.heap.size, 1, none⟩ = some (.slice A1 l1.length c1) := (blk_cell KS1.out 1).trans rfl
                  obtain ⟨gt, ct', eG, hgb, _⟩ := Kd.R_form HTT.out (by have := HP.out.1; omega)
                  injection eG with eG1 eG2 eG3
                  subst eG1
                  subst eG3
                  have HGT := Aside0.mk hgb
                  clear eG2 hgb
                  go_wp2
                  obtain ⟨wa, hwa⟩ : ∃ n, wr.heap.size = n := ⟨_, rfl⟩
                  rw [hwa] at KA ⊢
                  go_loopg [81] l1.length (fun kq v81 w' => ∃ (k : Nat) (T : List Int), v81 = .int .i64 (k : Int) ∧ Aside0 (k + kq = l1.length) ∧ Aside0 (TabP d l0 l1 i (rowB d x l1 k) T) ∧ Aside0 (Kd.R (Kd.int .u64) 116 w' w.heap.size (fun _ => True) (.slice (some ⟨gt, 0, none⟩) l0.length ct) T) ∧ Aside0 (Kd.R (Kd.int .i64) 3 w' w.heap.size (fun _ => True) (.slice (some aS) S.length cs) S) ∧ Aside0 (Below w.heap.size w w') ∧ Aside0 (w'.heap[w.heap.size]? = some (.cells #[.slice (some ad) l0.length c0, .slice A1 l1.length c1] 38)) ∧ Aside0 (w'.heap[wa]? = some (.cells #[.int .i64 x.f0, .slice Ax x.f1.length cx] 24)))
                  case atStart => exact ⟨0, T, rfl, ⟨by omega⟩, HP, HT1, HD1, HB1, KS1, KA⟩
                  case round =>
                    clear KA HB1 KS1 HD1 HT1 hk1 HB KS HD HTT hwa hx0 hx1 HP
                    obtain ⟨k, T, rfl, HK, HP, HTT, HD, HB, KS, KA⟩ := hrel
                    cases gk with
                    | zero =>
                      have hke : decide (k < l1.length) = false := by have := HK.out; simp; omega
                      obtain rfl : k = l1.length := by have := HK.out; omega
                      have HPn := Aside0.mk (HP.out.next (by rw [hx]))
                      have hwi := Aside0.mk (show wrap64 ((i : Int) + 1) = (i : Int) + 1 from by have h1 := LN.out.1; rw [← i64_w, IntKind.wrap_i64]; omega)
                      go_wp2
                      go_roundg k3
                      case measure => omega
                      case rel => exact ⟨i + 1, T, (by first | rfl | (simp [hwi.out]; done)), ⟨by have := HI.out; omega⟩, HPn, HTT, HD, HB, KS⟩
                    | succ k4 =>
                      have hkl : k < l1.length := by have := HK.out; omega
                      have hke : decide (k < l1.length) = true := by simp; omega
                      obtain ⟨ad2, Ay, cy, e2, hy0, hy1, hyl, hyC⟩ := at_T24 (Kd.C_below HR.out HB.out) (k : Int) (by omega) (by omega)
                      cases e2
                      clear hyl hyC
                      obtain ⟨y, hy⟩ : ∃ y, rd_T24 l1 (k : Int) = y := ⟨_, rfl⟩
                      rw [hy] at hy0 hy1
                      simp only [Int.toNat_natCast] at hy0 hy1
                      have HBb := Aside0.mk (HB.out.alloc HB.out.size (.cells #[.int .i64 y.f0, .slice Ay y.f1.length cy] 24))
                      have KSb := Aside0.mk (blk_alloc KS.out (.cells #[.int .i64 y.f0, .slice Ay y.f1.length cy] 24))
                      have KAb := Aside0.mk (blk_alloc KA.out (.cells #[.int .i64 y.f0, .slice Ay y.f1.length cy] 24))
                      have HDb := Aside0.mk (Kd.R_alloc HD.out (.cells #[.int .i64 y.f0, .slice Ay y.f1.length cy] 24))
                      have HTb := Aside0.mk (Kd.R_alloc HTT.out (.cells #[.int .i64 y.f0, .slice Ay y.f1.length cy] 24))
                      have hca : (wr.alloc (.cells #[.int .i64 y.f0, .slice Ay y.f1.length cy] 24)).cell? ⟨wa, 0, none⟩ = some (.int .i64 x.f0) := (blk_cell KAb.out 0).trans rfl
                      go_wp2_with (fail)
                      refine (guard_far.calls x.f0 y.f0 (farI x.f0 y.f0) _ rfl).mono ?_
                      rintro e w4 ⟨rfl, hb4⟩
                      have HBf := Aside0.mk (below_step HBb.out hb4)
                      have KSf := Aside0.mk (blk_below KSb.out hb4)
                      have KAf := Aside0.mk (blk_below KAb.out hb4)
                      have HDf := Aside0.mk (Kd.R_below HDb.out hb4)
                      have HTf := Aside0.mk (Kd.R_below HTb.out hb4)
                      have hwk := Aside0.mk (show wrap64 ((k : Int) + 1) = (k : Int) + 1 from by have h1 := LN.out.2; rw [← i64_w, IntKind.wrap_i64]; omega)
                      have hrow : rowB d x l1 (k + 1) = if farI x.f0 y.f0 ≤ d then Go.bits .or .u64 (rowB d x l1 k) (IntKind.u64.wrap (2 ^ min k 64)) else rowB d x l1 k := by rw [rowB, hy]
                      obtain ⟨fv, efv⟩ : ∃ fv, farI x.f0 y.f0 = fv := ⟨_, rfl⟩
                      rw [efv] at hrow ⊢
                      clear hb4 HBb KSb KAb HDb HTb HB KS KA HD HTT hca hy0 hy1 efv
                      by_cases hfd : fv ≤ d
                      · rw [if_pos hfd] at hrow
                        have hfb : decide (fv ≤ d) = true := decide_eq_true hfd
                        have HPn := Aside0.mk (HP.out.set hil (rowB d x l1 (k + 1)))
                        have hrd := HP.out.at hil
                        obtain ⟨hq0, hqf⟩ := Kd.R_celln 0 HTf.out (i : Int) (by omega) (by omega)
                        rw [show rdOf 0 T (i : Int) = rd T (i : Int) from rfl, hrd] at hq0
                        simp only [Int.toNat_natCast] at hq0 hqf
                        have HPU := Kd.R_putg HTf.out (i : Int) (rowB d x l1 (k + 1))
                        simp only [Int.toNat_natCast] at HPU
                        have HR5 := Aside0.mk HPU.1
                        have HG5 := Aside0.mk HPU.2
                        have HRN := Aside0.mk (rows_ne HTf.out HDf.out (by decide))
                        have HN1 := Aside0.mk (Kd.R_ne HTf.out KSf.out (by decide))
                        have HN2 := Aside0.mk (Kd.R_ne HTf.out KAf.out (by decide))
                        have HROW := Aside0.mk hrow
                        clear hrd hrow HPU hfd HP HTf
                        go_wp2_with (fail)
                        refine start_ (n := 9) (S := fun w' => w'.cell? ⟨gt, i, none⟩ = some (.int .u64 (rowB d x l1 k))) (ds := [8]) (bl 9 0) (by kernel_rfl) rfl rfl (hq0) (fun hHeld => ?_)
                        refine pS 0 93 (bl 9 1) ?_
                        refine pS 1 94 (bl 9 3) ?_
                        refine pS 2 95 (bl 9 7) ?_
                        refine pS 4 97 (bl 9 23) ?_
                        refine pS 5 98 (bl 9 55) ?_
                        refine tS 3 96 (bl 9 63) hHeld ?_
                        refine pS 6 99 (bl 9 127) ?_
                        refine pS 7 100 (bl 9 255) ?_
                        refine last_ (i := 8) (N := none) (bl 9 511) rfl rfl (by kernel_rfl) (by decide) (fun K hK => ?_)
                        refine sS ?_
                        refine hK.out _ _ ?_
                        clear hK K
                        refine done_ (by kernel_rfl) ?_
                        rw [← HROW.out]
                        go_wp2
                        go_roundg k4
                        case measure => omega
                        case rel => exact ⟨k + 1, T.set i (rowB d x l1 (k + 1)), (by first | rfl | (simp [hwk.out]; done)), ⟨by have := HK.out; omega⟩, HPn, ⟨Kd.R_drew HR5.out⟩, ⟨Kd.R_drew (Kd.R_grown2 HDf.out rfl HG5.out (fun q e => by cases e; exact HRN.out gt rfl))⟩, ⟨(HBf.out.setCell (p := ⟨gt, i, none⟩) HGT.out _).drew⟩, ⟨blk_drew (blk_grown KSf.out HG5.out (by first | exact HN1.out | exact fun e => HN1.out e))⟩, ⟨blk_drew (blk_grown KAf.out HG5.out (by first | exact HN2.out | exact fun e => HN2.out e))⟩⟩
                      · rw [if_neg hfd] at hrow
                        have hfb : decide (fv ≤ d) = false := decide_eq_false hfd
                        have HPn := Aside0.mk (show TabP d l0 l1 i (rowB d x l1 (k + 1)) T from by rw [hrow]; exact HP.out)
                        clear hfd hrow HP
                        go_wp2
                        go_roundg k4
                        case measure => omega
                        case rel => exact ⟨k + 1, T, (by first | rfl | (simp [hwk.out]; done)), ⟨by have := HK.out; omega⟩, HPn, HTf, HDf, HBf, KSf, KAf⟩
        | succ k1 =>
          have hil : i < l0.length := by have := HI.out; omega
          have hie : decide (i < l0.length) = true := by simp; omega
          obtain ⟨ad, Ax, cx, e0, hx0, hx1, hxl, hxC⟩ := at_T24 (Kd.C_below HL.out HB.out) (i : Int) (by omega) (by omega)
          cases e0
          clear hxl hxC
          obtain ⟨x, hx⟩ : ∃ x, rd_T24 l0 (i : Int) = x := ⟨_, rfl⟩
          rw [hx] at hx0 hx1
          simp only [Int.toNat_natCast] at hx0 hx1
          have KA := Aside0.mk (blk_new wr (.cells #[.int .i64 x.f0, .slice Ax x.f1.length cx] 24))
          have HB1 := Aside0.mk (HB.out.alloc HB.out.size (.cells #[.int .i64 x.f0, .slice Ax x.f1.length cx] 24))
          have KS1 := Aside0.mk (blk_alloc KS.out (.cells #[.int .i64 x.f0, .slice Ax x.f1.length cx] 24))
          have HD1 := Aside0.mk (Kd.R_alloc HD.out (.cells #[.int .i64 x.f0, .slice Ax x.f1.length cx] 24))
          have hk1 : (wr.alloc (.cells #[.int .i64 x.f0, .slice Ax x.f1.length cx] 24)).cell? ⟨w.heap.size, 1, none⟩ = some (.slice A1 l1.length c1) := (blk_cell KS1.out 1).trans rfl
          go_wp2
          obtain ⟨wa, hwa⟩ : ∃ n, wr.heap.size = n := ⟨_, rfl⟩
          rw [hwa] at KA ⊢
          go_loopg [8, 44] l1.length (fun kq v8 v44 w' => ∃ k : Nat, v44 = .int .i64 (k : Int) ∧ Aside0 (k + kq = l1.length) ∧ Aside0 (Kd.R (Kd.int .i64) 3 w' w.heap.size (fun _ => True) v8 (dAcc l0 l1 i ++ (l1.take k).map (fun b => farI x.f0 b.f0))) ∧ Aside0 (Below w.heap.size w w') ∧ Aside0 (w'.heap[w.heap.size]? = some (.cells #[.slice (some ad) l0.length c0, .slice A1 l1.length c1] 38)) ∧ Aside0 (w'.heap[wa]? = some (.cells #[.int .i64 x.f0, .slice Ax x.f1.length cx] 24)))
          case atStart => exact ⟨0, rfl, ⟨by omega⟩, ⟨by simpa using HD1.out⟩, HB1, KS1, KA⟩
          case round =>
            clear KA HB1 KS1 HD1 hk1 HB KS HD hwa hx0 hx1
            obtain ⟨k, rfl, HK, HD, HB, KS, KA⟩ := hrel
            cases gk with
            | zero =>
              have hke : decide (k < l1.length) = false := by have := HK.out; simp; omega
              obtain rfl : k = l1.length := by have := HK.out; omega
              have HDn := Aside0.mk (show Kd.R (Kd.int .i64) 3 wr w.heap.size (fun _ => True) u8 (dAcc l0 l1 (i + 1)) from by
                have h := HD.out
                rw [List.take_length] at h
                rw [dAcc_succ l0 l1 i hil, hx]
                exact h)
              have hwi := Aside0.mk (show wrap64 ((i : Int) + 1) = (i : Int) + 1 from by have h1 := LN.out.1; rw [← i64_w, IntKind.wrap_i64]; omega)
              go_wp2
              go_roundg k1
              case measure => omega
              case rel => exact ⟨i + 1, (by first | rfl | (simp [hwi.out]; done)), ⟨by have := HI.out; omega⟩, HDn, HB, KS⟩
            | succ k2 =>
              have hkl : k < l1.length := by have := HK.out; omega
              have hke : decide (k < l1.length) = true := by simp; omega
              obtain ⟨ad2, Ay, cy, e2, hy0, hy1, hyl, hyC⟩ := at_T24 (Kd.C_below HR.out HB.out) (k : Int) (by omega) (by omega)
              cases e2
              clear hyl hyC
              obtain ⟨y, hy⟩ : ∃ y, rd_T24 l1 (k : Int) = y := ⟨_, rfl⟩
              rw [hy] at hy0 hy1
              simp only [Int.toNat_natCast] at hy0 hy1
              have HBb := Aside0.mk (HB.out.alloc HB.out.size (.cells #[.int .i64 y.f0, .slice Ay y.f1.length cy] 24))
              have KSb := Aside0.mk (blk_alloc KS.out (.cells #[.int .i64 y.f0, .slice Ay y.f1.length cy] 24))
              have KAb := Aside0.mk (blk_alloc KA.out (.cells #[.int .i64 y.f0, .slice Ay y.f1.length cy] 24))
              have HDb := Aside0.mk (Kd.R_alloc HD.out (.cells #[.int .i64 y.f0, .slice Ay y.f1.length cy] 24))
              have hca : (wr.alloc (.cells #[.int .i64 y.f0, .slice Ay y.f1.length cy] 24)).cell? ⟨wa, 0, none⟩ = some (.int .i64 x.f0) := (blk_cell KAb.out 0).trans rfl
              obtain ⟨Ad, cd, eD, hlD, _⟩ := Kd.R_reads HD.out
              subst eD
              go_wp2_with (fail)
              refine (guard_far.calls x.f0 y.f0 (farI x.f0 y.f0) _ rfl).mono ?_
              rintro e w4 ⟨rfl, hb4⟩
              have HBf := Aside0.mk (below_step HBb.out hb4)
              have KSf := Aside0.mk (blk_below KSb.out hb4)
              have KAf := Aside0.mk (blk_below KAb.out hb4)
              have HDf := Aside0.mk (Kd.R_below HDb.out hb4)
              have LD := Aside0.mk (show (dAcc l0 l1 i ++ (l1.take k).map (fun b => farI x.f0 b.f0)).length ≤ 73 from by have h1 := dAcc_len l0 l1 i LN.out.1 LN.out.2; have h2 := LN.out.2; rw [List.length_append, List.length_map, List.length_take]; omega)
              have hN1 := Aside0.mk (Kd.R_ne HDf.out KSf.out (by decide))
              have hN2 := Aside0.mk (Kd.R_ne HDf.out KAf.out (by decide))
              obtain ⟨D1, eD1⟩ : ∃ D1, dAcc l0 l1 i ++ (l1.take k).map (fun b => farI x.f0 b.f0) = D1 := ⟨_, rfl⟩
              have HD3 := Aside0.mk (show D1 ++ [farI x.f0 y.f0] = dAcc l0 l1 i ++ (l1.take (k + 1)).map (fun b => farI x.f0 b.f0) from by rw [← eD1, map_succ _ _ _ hkl, hy, List.append_assoc])
              obtain ⟨fv, efv⟩ : ∃ fv, farI x.f0 y.f0 = fv := ⟨_, rfl⟩
              rw [eD1] at HDf LD hN1 hN2 ⊢
              rw [efv] at HD3 ⊢
              clear hb4 HBb KSb KAb HDb HD HB KS KA hca hy0 hy1 eD1 hlD efv
              go_wp2_with (at_builtin; go_loud (refine Kd.R_append (Kd.int .i64) (w0 := w) w.heap.size rfl (.tmp 48) (.tmp 54) 22 3 (.int .i64 0) 8 rfl Tryd.underlying22 info3 rfl (by decide) (by omega) (.slice Ad D1.length cd) D1 fv [.int .i64 fv] (fun _ => True) (fun _ => False) rfl rfl rfl (fun _ hk => hk.elim) (fun _ _ => trivial) HDf.out HBf.out HBf.out.size (by have := LD.out; omega) ?_; intro v55 w5 ho hb hg hat; have HD5 := Aside0.mk ho; have HB5 := Aside0.mk hb; have KS5 := Aside0.mk (blk_grown KSf.out hg hN1.out); have KA5 := Aside0.mk (blk_grown KAf.out hg hN2.out); clear ho hb hg hat))
              have hwk := Aside0.mk (show wrap64 ((k : Int) + 1) = (k : Int) + 1 from by have h1 := LN.out.2; rw [← i64_w, IntKind.wrap_i64]; omega)
              go_wp2
              go_roundg k2
              case measure => omega
              case rel => exact ⟨k + 1, (by first | rfl | (simp [hwk.out]; done)), ⟨by have := HK.out; omega⟩, ⟨HD3.out ▸ HD5.out⟩, HB5, KS5, KA5⟩
    · rw [if_neg hll] at h
      simp only [Option.some.injEq, Prod.mk.injEq] at h
      obtain ⟨rfl, rfl, rfl⟩ := h
      have hlb : ((l0.length : Int) != (l1.length : Int)) = true := by simp; omega
      have hlb2 : (l0.length != l1.length) = true := by simp; omega
      clear hr0 hr1 hT_ he hll
      go_enter Tryd.func46, Tryd.ntmps46
      go_wp2_with (fail)
      refine (CK.out _ HB0.out).mono ?_
      rintro e w1 ⟨rfl, hb1⟩
      have HB1 := Aside0.mk (below_step HB0.out hb1)
      have KS1 := Aside0.mk (blk_below KS.out hb1)
      clear hb1 CK HB0 KS KG
      have hs0 : w1.cell? ⟨w.heap.size, 0, none⟩ = some (.slice A0 l0.length c0) := (blk_cell KS1.out 0).trans rfl
      have hs1 : w1.cell? ⟨w.heap.size, 1, none⟩ = some (.slice A1 l1.length c1) := (blk_cell KS1.out 1).trans rfl
      go_wp2
      go_ret3
      exact ⟨_, rfl, Kd.R_nil _ _ _ _ _, HB1.out⟩
  · rw [if_neg he] at h
    simp only [Option.some.injEq, Prod.mk.injEq] at h
    obtain ⟨rfl, rfl, rfl⟩ := h
    generalize checkS l0 l1 g0 g1 g2 g3 = e0 at he CK
    have hne : (e0 != 0) = true := bne_iff_ne.mpr he
    clear hr0 hr1 hT_ he
    go_enter Tryd.func46, Tryd.ntmps46
    go_wp2_with (go_at_call 26; refine (CK.out _ HB0.out).mono ?_; rintro e w1 ⟨rfl, hb1⟩; have HB1 := Aside0.mk (below_step HB0.out hb1); clear hb1)
    go_ret3
    exact ⟨_, rfl, Kd.R_nil _ _ _ _ _, HB1.out⟩
end Go.Proofs.YtamibghbkjmmeaaDoor.G
end
section
namespace Go.Proofs.YtamibghbkjmmeaaDoor.G
open Go.RowKit Go.Proofs.YtamibghbkjmmeaaDoorW.PrintWords Go.Proofs.YtamibghbkjmmeaaDoorW.PrintLast Go.Proofs.YtamibghbkjmmeaaDoorW.PrintMore
set_option linter.unusedVariables false
set_option linter.unusedSimpArgs false
section
variable {P : Program} {ops : Array Oper} {Q : Exit → Act → World → Prop} {md : Region.Mode} {l n : Nat}
theorem operIn_of_oper {o : Oper} {a : Act} {w : World} {K K' : Act → World → Prop} (hd : ∀ c, o.op ≠ .defer c) (hK : ∀ a w, K a w → K' a w) (h : o.wp P a w K Q) : o.wpIn (Fence.wide.inRound l) n P a w K' Q := by
  refine ⟨fun _ _ => trivial, ?_⟩
  show o.uponIn _ n P a K' Q ((Oper.semAt (some l) a.eval o).run P w)
  rw [Oper.semAt_some l _ _ hd]
  unfold Oper.wp at h
  generalize (execOp a.eval o).run P w = r at h ⊢
  cases r with
  | ok x w' =>
    cases x with
    | value v => exact hK _ _ h
    | skip => exact hK _ _ h
    | defer d => exact hK _ _ h
    | enter f args =>
      refine ⟨fun h => by simp [Fence.wide, Fence.inRound] at h, callsIn_wide.2 (Calls.mono h (fun e w'' he => ?_))⟩
      cases e with
      | returned v => exact hK _ _ he
      | panicked c => exact he
      | outgrown => exact he
    | row row args => exact ⟨fun h => by simp [Fence.wide, Fence.inRound] at h, fun c cs _ => by
        obtain ⟨v, w', hr, hs⟩ := h c cs
        exact ⟨v, w', hK _ _ hr, stepsIn_wide.2 hs⟩⟩
    | round => exact h.elim
    | _ => exact h.elim
  | halt x w' =>
    cases x with
    | panic v => exact h
    | _ => exact h.elim
theorem anyIn_of_any (hD : ∀ (i : Nat) (o : Oper), ops[i]? = some o → ∀ c, o.op ≠ .defer c) (hL : ¬ LetsOut Q) : ∀ (fuel : Nat) (listed : Array Bool) (a : Act) (w : World), wpAny P md ops Q fuel listed a w → wpAnyIn (Fence.wide.inRound l) n P md ops Q fuel listed a w
  | 0, _, _, _, h => h
  | fuel + 1, listed, a, w, h => ⟨h.1, fun i hi => by
    have hw := h.2 i hi
    unfold wpOp at hw
    unfold wpOpIn
    split
    · rename_i ho
      rw [ho] at hw
      exact anyIn_of_any hD hL fuel _ _ _ hw
    · rename_i o ho
      rw [ho] at hw
      simp only at hw
      split
      · rename_i hwd
        rw [if_pos hwd] at hw
        rcases hw with hw | hw
        · exact operIn_of_oper (hD i o ho) (fun a w h => anyIn_of_any hD hL fuel _ a w h) hw
        · exact absurd hw.2 hL
      · rename_i hwd
        rw [if_neg hwd] at hw
        exact ⟨fun _ _ => trivial, anyIn_of_any hD hL fuel _ _ _ hw⟩⟩
def noDefer (ops : Array Oper) : Bool := ops.all (fun o => match o.op with | .defer _ => false | _ => true)
theorem noDefer_spec (h : noDefer ops = true) : ∀ (i : Nat) (o : Oper), ops[i]? = some o → ∀ c, o.op ≠ .defer c := fun i o ho c hc => by
  unfold noDefer at h
  rw [Array.all_eq_true] at h
  obtain ⟨hlt, he⟩ := Array.getElem?_eq_some_iff.1 ho
  have h1 := h i hlt
  rw [he, hc] at h1
  cases h1
theorem startIn_ {S : World → Prop} {ds : List Nat} {id n' : Nat} {a : Act} {w : World} (l0 : Array Bool) (hm : P.follows .mixedOrders = true) (hn : ops.size = n') (hl : Array.replicate n' false = l0) (hd : noDefer ops = true) (hL : ¬ LetsOut Q) (hS : S w.drew)
    (h : S w.drew → wpAnyLast P .any ops Q S ds n' l0 a w.drew) : (Code.region id ops true).wpIn (Fence.wide.inRound l) n P Q a w := by
  subst hn
  subst hl
  exact wpIn_region_any hm (anyIn_of_any (noDefer_spec hd) hL _ _ _ _ (wpAny_of_last _ _ _ _ (h hS)))
def onlyThen (K : Act → World → Prop) : Exit → Act → World → Prop
  | .normal, a, w => K a w
  | _, _, _ => False
theorem onlyThen_lets (K : Act → World → Prop) : ¬ LetsOut (onlyThen K) := fun ⟨_, _, h⟩ => h
theorem cutIn {c : Code} {F : Fence} {Q' : Exit → Act → World → Prop} {a : Act} {w : World} (K : Act → World → Prop) (h : c.wpIn F n P (onlyThen K) a w) (hK : ∀ a' w', K a' w' → Q' .normal a' w') : c.wpIn F n P Q' a w :=
  wpIn_mono h (fun e a' w' h' => by cases e <;> first | exact hK _ _ h' | exact h'.elim)
end
end Go.Proofs.YtamibghbkjmmeaaDoor.G
end
