/- A part of this claim's proof (H44); no condition. -/
import Derived.Test.YtamibghbkjmmeaaDoorAlk05
section
namespace Go.Proofs.YtamibghbkjmmeaaDoor.G
open Go.RowKit Go.Proofs.YtamibghbkjmmeaaDoorW.PrintWords Go.Proofs.YtamibghbkjmmeaaDoorW.PrintLast Go.Proofs.YtamibghbkjmmeaaDoorW.PrintMore
set_option linter.unusedVariables false
set_option linter.unusedSimpArgs false
attribute [local go_sem] Oper.semAt_some
def lookX (t su : List Int) (p : Bool × Nat) (j : Nat) : Int :=
  if p.1 = true then Go.bits .or .u64 (rd t j) (Go.bits .and .u64 (rd su j) (IntKind.u64.wrap (2 ^ min p.2 64))) else if j = p.2 then rd su j else rd t j
def moreL (t su : List Int) (p : Bool × Nat) : List Int := (List.range t.length).map (lookX t su p)
def moreP (t su : List Int) (p : Bool × Nat) (j : Nat) : List Int := (List.range j).map (lookX t su p) ++ t.drop j
theorem moreP_len (t su : List Int) (p : Bool × Nat) (j : Nat) (h : j ≤ t.length) : (moreP t su p j).length = t.length := by simp [moreP]; omega
theorem moreP_at (t su : List Int) (p : Bool × Nat) (j : Nat) (h : j < t.length) : rd (moreP t su p j) (j : Int) = rd t (j : Int) := by
  simp [rd, rdOf, moreP, List.getElem?_append]
theorem moreP_set (t su : List Int) (p : Bool × Nat) (j : Nat) (h : j < t.length) : (moreP t su p j).set j (lookX t su p j) = moreP t su p (j + 1) := by
  unfold moreP
  rw [List.set_append_right _ _ (by simp), List.range_succ, List.map_append, List.append_assoc]
  congr 1
  simp only [List.length_map, List.length_range, Nat.sub_self]
  rw [List.drop_eq_getElem_cons h]
  rfl
theorem moreP_same (t su : List Int) (p : Bool × Nat) (j : Nat) (h : j < t.length) (e : lookX t su p j = rd t (j : Int)) : moreP t su p j = moreP t su p (j + 1) := by
  rw [← moreP_set t su p j h, e]
  have h2 := moreP_at t su p j h
  have h3 : j < (moreP t su p j).length := by rw [moreP_len t su p j (by omega)]; exact h
  rw [← h2]
  conv => lhs; rw [← List.set_getElem_self h3]
  congr 1
  simp [rd, rdOf, h3]
theorem moreP_done (t su : List Int) (p : Bool × Nat) : moreP t su p t.length = moreL t su p := by simp [moreP, moreL]
theorem three_set {W : World} {n : Nat} {x y z : Value} (h2 : Boxed W n 4 x) (h3 : Boxed W (n + 1) 3 y) (h4 : Boxed W (n + 1 + 1) 3 z) (x' y' z' : Value) :
    ∃ W', W' = (((W.setCell ⟨n, 0, none⟩ x').setCell ⟨n + 1, 0, none⟩ y').setCell ⟨n + 1 + 1, 0, none⟩ z') ∧ Boxed W' n 4 x' ∧ Boxed W' (n + 1) 3 y' ∧ Boxed W' (n + 1 + 1) 3 z' := by
  have far : ∀ {W : World} {B t k : Nat} {v u : Value}, Boxed W B t v → B ≠ k → Boxed (W.setCell ⟨k, 0, none⟩ u) B t v := fun h hne => h.kept (grownBy_setCell' _ _ _) (by simpa using hne)
  exact ⟨_, rfl, far (far (h2.set x') (by omega)) (by omega), far ((far h3 (by omega)).set y') (by omega), (far (far h4 (by omega)) (by omega)).set z'⟩
theorem cutIn0 {P : Program} {n : Nat} {c : Code} {F : Fence} {Q' : Exit → Act → World → Prop} {a : Act} {w : World} (h : c.wpIn F n P (onlyThen (Q' .normal)) a w) : c.wpIn F n P Q' a w := cutIn (Q' .normal) h (fun _ _ h => h)
theorem onlyThen_go {K : Act → World → Prop} {a : Act} {w : World} (h : K a w) : onlyThen K .normal a w := h
theorem lookX_true (t su : List Int) (n j : Nat) : lookX t su (true, n) j = Go.bits .or .u64 (rd t j) (Go.bits .and .u64 (rd su j) (IntKind.u64.wrap (2 ^ min n 64))) := by simp [lookX]
theorem lookX_here (t su : List Int) (j : Nat) : lookX t su (false, j) j = rd su j := by simp [lookX]
theorem lookX_else (t su : List Int) (n j : Nat) (h : ¬ j = n) : lookX t su (false, n) j = rd t j := by simp [lookX, h]
theorem moreL_len (t su : List Int) (x : Bool × Nat) : (moreL t su x).length = t.length := by simp [moreL]
theorem TRow.of_R2 {W : World} {b : Nat} {ok : Nat → Prop} {v : Value} {t : List Int} (h : Kd.R (Kd.int .u64) 116 W b ok v t) : TRow W v t (fun k => v.ownBlock = some k ∧ b ≤ k) := by
  obtain ⟨A, c, e, hl, hC⟩ := Kd.R_reads h
  refine ⟨A, c, e, hl, hC, fun _ ad hA => ?_⟩
  obtain ⟨inner, ho⟩ := Kd.R_own h
  have hk : v.ownBlock = some ad.block := by rw [e, hA]; rfl
  exact ⟨hk, own_base ho _ hk⟩
def lookG (t su : List Int) : List (Bool × Nat) → Bool → Int → Int → Option (Bool × Int × Int)
  | [], r, n, g => some (r, n, g)
  | p :: ps, r, n, g => (guard_table_most.f (moreL t su p)).bind fun a => (guard_table_most.f t).bind fun b => if wrap64 (a - b) > g then lookG t su ps p.1 p.2 (wrap64 (a - b)) else lookG t su ps r n g
def Tri (W : World) (n : Nat) (r : Bool) (nn g : Int) : Prop := Boxed W n 4 (.bool r) ∧ Boxed W (n + 1) 3 (.int .i64 nn) ∧ Boxed W (n + 1 + 1) 3 (.int .i64 g)
theorem boxed_far {W : World} {B t k : Nat} {v : Value} (h : Boxed W B t v) (hne : B ≠ k) (u : Value) : Boxed (W.setCell ⟨k, 0, none⟩ u) B t v := h.kept (grownBy_setCell' _ _ _) (by simpa using hne)
theorem Tri.set0 {W : World} {n : Nat} {r : Bool} {nn g : Int} (h : Tri W n r nn g) (r' : Bool) : Tri (W.setCell ⟨n, 0, none⟩ (.bool r')) n r' nn g := ⟨h.1.set _, boxed_far h.2.1 (by omega) _, boxed_far h.2.2 (by omega) _⟩
theorem Tri.set1 {W : World} {n : Nat} {r : Bool} {nn g : Int} (h : Tri W n r nn g) (v : Int) : Tri (W.setCell ⟨n + 1, 0, none⟩ (.int .i64 v)) n r v g := ⟨boxed_far h.1 (by omega) _, h.2.1.set _, boxed_far h.2.2 (by omega) _⟩
theorem Tri.set2 {W : World} {n : Nat} {r : Bool} {nn g : Int} (h : Tri W n r nn g) (v : Int) : Tri (W.setCell ⟨n + 1 + 1, 0, none⟩ (.int .i64 v)) n r nn v := ⟨boxed_far h.1 (by omega) _, boxed_far h.2.1 (by omega) _, h.2.2.set _⟩
theorem look_leaves {n m : Nat} {w W : World} {r : Bool} {nn g ev : Int} {tmps : Array Value} {D : Nat} (hD : w.heap.size ≤ D) (h : Tri W n r nn g) (hB : Below w.heap.size w W) (hM : W.heap[D]? = some (.deferred (some [])))
    (t4 : tmps[4]? = some (.pointer (some ⟨n, 0, none⟩))) (t5 : tmps[5]? = some (.pointer (some ⟨n + 1, 0, none⟩))) (t6 : tmps[6]? = some (.pointer (some ⟨n + 1 + 1, 0, none⟩))) (t7 : tmps[7]? = some (.int .i64 ev)) :
    LeavesInM Fence.wide m Tryd.prog Tryd.f44 tmps (fun e w' => e = .returned (.tuple #[.bool r, .int .i64 nn, .int .i64 g, .int .i64 ev]) ∧ Below w.heap.size w w') [{ target := .collected D, args := #[] }] .returning W := by
  refine leaves_marks (B := w.heap.size) (fun W => Tri W n r nn g ∧ Below w.heap.size w W) ?_ ?_ [D] W ⟨by simp, fun E hE => by rw [List.mem_singleton.1 hE]; exact ⟨hD, hM⟩⟩ ⟨h, hB⟩
  · rintro W D o ⟨⟨z1, z2, z3⟩, z4⟩ hD ho hc
    have hk := fun {B t : Nat} {v : Value} (z : Boxed W B t v) => boxed_keptC z (grownBy_putObj' W D (.deferred none)) (fun k e => by cases e; exact ⟨o, ho, hc⟩)
    exact ⟨⟨hk z1, hk z2, hk z3⟩, z4.grown (grownBy_putObj' W D _) z4.size (fun k e => by cases e; exact hD)⟩
  · rintro W ⟨⟨z1, z2, z3⟩, z4⟩
    have y2 := z1.cell
    have y3 := z2.cell
    have y4 := z3.cell
    refine ⟨_, ?_, rfl, z4⟩
    simp [results, show (Tryd.f44).results = #[.cell 4 4, .cell 5 3, .cell 6 3, .tmp 7] from rfl, go_sem, t4, t5, t6, t7, y2, y3, y4]
def LInv (w : World) (n b b' : Nat) (vt vs : Value) (t su : List Int) (r : Bool) (nn g : Int) (W : World) : Prop :=
  Below w.heap.size w W ∧ Boxed W n 4 (.bool r) ∧ Boxed W (n + 1) 3 (.int .i64 nn) ∧ Boxed W (n + 1 + 1) 3 (.int .i64 g) ∧ Boxed W b 111 vt ∧ Boxed W b' 111 vs ∧ TRow W vt t (fun k => k ≠ n ∧ k ≠ n + 1 ∧ k ≠ n + 1 + 1) ∧ TRow W vs su (fun k => k ≠ n ∧ k ≠ n + 1 ∧ k ≠ n + 1 + 1)
theorem LInv.step {w W W' : World} {n b b' : Nat} {vt vs : Value} {t su : List Int} {r : Bool} {nn g : Int} (h : LInv w n b b' vt vs t su r nn g W) (hB : Below w.heap.size w W') (hs : ∀ (k : Nat) (o : Obj), W.heap[k]? = some o → o.isCells = true → W'.heap[k]? = some o) : LInv w n b b' vt vs t su r nn g W' := by
  obtain ⟨_, e1, e2, e3, e4, e5, e6, e7⟩ := h
  exact ⟨hB, hs _ _ e1 rfl, hs _ _ e2 rfl, hs _ _ e3 rfl, hs _ _ e4 rfl, hs _ _ e5 rfl, e6.step (fun k o _ ho hc => hs k o ho hc), e7.step (fun k o _ ho hc => hs k o ho hc)⟩
theorem LInv.below {w W W' : World} {n b b' : Nat} {vt vs : Value} {t su : List Int} {r : Bool} {nn g : Int} (h : LInv w n b b' vt vs t su r nn g W) (hB : Below W.heap.size W W') : LInv w n b b' vt vs t su r nn g W' :=
  h.step (below_step h.1 hB) (fun k o ho _ => blk_below ho hB)
theorem LInv.grown {w W W' : World} {n b b' : Nat} {vt vs : Value} {t su : List Int} {r : Bool} {nn g : Int} {row : Option Nat} (h : LInv w n b b' vt vs t su r nn g W) (hg : W.grownBy W' row) (hr : ∀ q, row = some q → w.heap.size ≤ q ∧ ∃ o : Obj, W.heap[q]? = some o ∧ o.isCells = false) : LInv w n b b' vt vs t su r nn g W' :=
  h.step (h.1.grown hg h.1.size (fun k e => (hr k e).1)) (fun k o ho hc => (hg.block k (Array.getElem?_eq_some_iff.1 ho).1 (fun e => by obtain ⟨o', ho', hc'⟩ := (hr k e.symm).2; rw [ho] at ho'; cases ho'; rw [hc] at hc'; cases hc')).trans ho)
theorem LInv.put3 {w W : World} {n b b' : Nat} {vt vs : Value} {t su : List Int} {r : Bool} {nn g : Int} (h : LInv w n b b' vt vs t su r nn g W) (hn : w.heap.size ≤ n) (r' : Bool) (nn' g' : Int) :
    LInv w n b b' vt vs t su r' nn' g' (((W.setCell ⟨n, 0, none⟩ (.bool r')).setCell ⟨n + 1, 0, none⟩ (.int .i64 nn')).setCell ⟨n + 1 + 1, 0, none⟩ (.int .i64 g')).drew := by
  obtain ⟨e0, e1, e2, e3, e4, e5, e6, e7⟩ := h
  have ht : Tri W n r nn g := ⟨e1, e2, e3⟩
  obtain ⟨f1, f2, f3⟩ := ((ht.set0 r').set1 nn').set2 g'
  have ne : ∀ {B k t : Nat} {v u : Value}, Boxed W B 111 v → Boxed W k t u → t ≠ 111 → B ≠ k := fun hB hk ht e => by subst e; have h1 := (show W.heap[_]? = _ from hB).symm.trans (show W.heap[_]? = _ from hk); simp at h1; exact ht h1.2.symm
  have hs : ∀ (k : Nat) (o : Obj), (k ≠ n ∧ k ≠ n + 1 ∧ k ≠ n + 1 + 1) → W.heap[k]? = some o → o.isCells = true → ((((W.setCell ⟨n, 0, none⟩ (.bool r')).setCell ⟨n + 1, 0, none⟩ (.int .i64 nn')).setCell ⟨n + 1 + 1, 0, none⟩ (.int .i64 g')).drew).heap[k]? = some o := fun k o hk ho _ =>
    (Below.heap_setCell _ _ _ k hk.2.2).trans ((Below.heap_setCell _ _ _ k hk.2.1).trans ((Below.heap_setCell _ _ _ k hk.1).trans ho))
  refine ⟨(((e0.setCell (p := ⟨n, 0, none⟩) hn _).setCell (p := ⟨n + 1, 0, none⟩) (by simp; omega) _).setCell (p := ⟨n + 1 + 1, 0, none⟩) (by simp; omega) _).drew, f1, f2, f3, ?_, ?_, e6.step (fun k o hk ho hc => hs k o hk ho hc), e7.step (fun k o hk ho hc => hs k o hk ho hc)⟩
  · exact hs b _ ⟨ne e4 e1 (by decide), ne e4 e2 (by decide), ne e4 e3 (by decide)⟩ e4 rfl
  · exact hs b' _ ⟨ne e5 e1 (by decide), ne e5 e2 (by decide), ne e5 e3 (by decide)⟩ e5 rfl
def LookI (w : World) (n b b' : Nat) (vt vs : Value) (t su : List Int) (pre : List (Bool × Nat)) (W : World) : Prop := ∃ r nn g, (∀ rest, lookG t su (pre ++ rest) false 0 0 = lookG t su rest r nn g) ∧ LInv w n b b' vt vs t su r nn g W
def Fin4 (w : World) (t su : List Int) (v v' : Value) (b b' : Nat) (W : World) : Prop :=
  Kd.R (Kd.int .u64) 116 W w.heap.size (fun _ => True) v t ∧ Kd.R (Kd.int .u64) 116 W w.heap.size (fun _ => True) v' su ∧ Boxed W b 111 (.slice none 0 0) ∧ Boxed W b' 111 (.slice none 0 0) ∧ b ≠ b' ∧ w.heap.size ≤ b ∧ w.heap.size ≤ b' ∧ Below w.heap.size w W
theorem lookG_step {t su : List Int} {x : Bool × Nat} {pre : List (Bool × Nat)} {r : Bool} {nn g m1 m2 : Int} (z : ∀ rest, lookG t su (pre ++ rest) false 0 0 = lookG t su rest r nn g) (h1 : guard_table_most.f (moreL t su x) = some m1) (h2 : guard_table_most.f t = some m2) (rest : List (Bool × Nat)) :
    lookG t su ((pre ++ [x]) ++ rest) false 0 0 = if wrap64 (m1 - m2) > g then lookG t su rest x.1 x.2 (wrap64 (m1 - m2)) else lookG t su rest r nn g := by
  rw [List.append_assoc, z, List.singleton_append]
  show ((guard_table_most.f (moreL t su x)).bind _) = _
  rw [h1]
  show ((guard_table_most.f t).bind _) = _
  rw [h2]
  rfl
def guard_Look.f (l0 l1 : List S24) (g0 g1 g2 g3 : Int) : Option (Bool × Int × Int × Int) :=
  if checkS l0 l1 g0 g1 g2 g3 = 0 then (guard_gauge_table.f 1000 g0 g1 g2 g3 l0 l1 2).bind fun t => (guard_gauge_table.f 1000 g0 g1 g2 g3 l0 l1 1).bind fun su => if t.length ≤ su.length ∧ t.length ≤ 64 then (lookG t su (placesL l0.length l1.length) false 0 0).bind fun p => if p.2.2 = 0 then some (false, 0, 0, 7) else some (p.1, p.2.1, p.2.2, 0) else none
  else some (false, 0, 0, checkS l0 l1 g0 g1 g2 g3)
set_option maxHeartbeats 8000000 in
set_option maxRecDepth 100000 in
theorem look_none (A0 : Option Addr) (c0 : Nat) (l0 : List S24) (A1 : Option Addr) (c1 : Nat) (l1 : List S24) (g0 g1 g2 g3 : Int) (w : World) (hr0 : Kd.C k24 w A0 l0.length l0) (hc0 : l0.length ≤ c0) (hr1 : Kd.C k24 w A1 l1.length l1) (hc1 : l1.length ≤ c1) (hT_ : TabOk w) (he : checkS l0 l1 g0 g1 g2 g3 ≠ 0) :
    Calls Tryd.prog 44 #[.agg #[.slice A0 l0.length c0, .slice A1 l1.length c1], .agg #[.int .i64 g0, .int .i64 g1, .int .i64 g2, .int .i64 g3]] w fun e w' => e = .returned (.tuple #[.bool false, .int .i64 0, .int .i64 0, .int .i64 (checkS l0 l1 g0 g1 g2 g3)]) ∧ Below w.heap.size w w' := by
  have HL := Aside0.mk hr0
  have HR := Aside0.mk hr1
  have HB0 := Aside0.mk (show Below w.heap.size w ((w.alloc (.cells #[.slice A0 l0.length c0, .slice A1 l1.length c1] 38)).alloc (.cells #[.int .i64 g0, .int .i64 g1, .int .i64 g2, .int .i64 g3] 26)) from ((Below.refl _ w).alloc (Nat.le_refl _) _).alloc (by simp) _)
  have KS := Aside0.mk (show ((w.alloc (.cells #[.slice A0 l0.length c0, .slice A1 l1.length c1] 38)).alloc (.cells #[.int .i64 g0, .int .i64 g1, .int .i64 g2, .int .i64 g3] 26)).heap[w.heap.size]? = some (.cells #[.slice A0 l0.length c0, .slice A1 l1.length c1] 38) from blk_alloc (blk_new _ _) _)
  have KG := Aside0.mk (show ((w.alloc (.cells #[.slice A0 l0.length c0, .slice A1 l1.length c1] 38)).alloc (.cells #[.int .i64 g0, .int .i64 g1, .int .i64 g2, .int .i64 g3] 26)).heap[w.heap.size + 1]? = some (.cells #[.int .i64 g0, .int .i64 g1, .int .i64 g2, .int .i64 g3] 26) from by have h_ := blk_new (w.alloc (.cells #[.slice A0 l0.length c0, .slice A1 l1.length c1] 38)) (.cells #[.int .i64 g0, .int .i64 g1, .int .i64 g2, .int .i64 g3] 26); simpa using h_)
  have CK := Aside0.mk (fun W (hb : Below w.heap.size w W) => guard_Check.calls A0 c0 l0 A1 c1 l1 g0 g1 g2 g3 _ W (Kd.C_below hr0 hb) hc0 (Kd.C_below hr1 hb) hc1 rfl)
  have HT := Aside0.mk hT_
  have HB4 := Aside0.mk (((HB0.out.alloc (by simp; omega) (.cells #[.bool false] 4)).alloc (by simp; omega) (.cells #[.int .i64 0] 3)).alloc (by simp; omega) (.cells #[.int .i64 0] 3))
  have K2 := Aside0.mk (show Boxed (((((w.alloc (.cells #[.slice A0 l0.length c0, .slice A1 l1.length c1] 38)).alloc (.cells #[.int .i64 g0, .int .i64 g1, .int .i64 g2, .int .i64 g3] 26)).alloc (.cells #[.bool false] 4)).alloc (.cells #[.int .i64 0] 3)).alloc (.cells #[.int .i64 0] 3)) (w.heap.size + 1 + 1) 4 (.bool false) from ((show Boxed (((w.alloc (.cells #[.slice A0 l0.length c0, .slice A1 l1.length c1] 38)).alloc (.cells #[.int .i64 g0, .int .i64 g1, .int .i64 g2, .int .i64 g3] 26)).alloc (.cells #[.bool false] 4)) (w.heap.size + 1 + 1) 4 (.bool false) from by have h := Boxed.new ((w.alloc (.cells #[.slice A0 l0.length c0, .slice A1 l1.length c1] 38)).alloc (.cells #[.int .i64 g0, .int .i64 g1, .int .i64 g2, .int .i64 g3] 26)) 4 (.bool false); simpa only [World.size_alloc] using h).alloc _).alloc _)
  have K3 := Aside0.mk (show Boxed (((((w.alloc (.cells #[.slice A0 l0.length c0, .slice A1 l1.length c1] 38)).alloc (.cells #[.int .i64 g0, .int .i64 g1, .int .i64 g2, .int .i64 g3] 26)).alloc (.cells #[.bool false] 4)).alloc (.cells #[.int .i64 0] 3)).alloc (.cells #[.int .i64 0] 3)) (w.heap.size + 1 + 1 + 1) 3 (.int .i64 0) from (show Boxed ((((w.alloc (.cells #[.slice A0 l0.length c0, .slice A1 l1.length c1] 38)).alloc (.cells #[.int .i64 g0, .int .i64 g1, .int .i64 g2, .int .i64 g3] 26)).alloc (.cells #[.bool false] 4)).alloc (.cells #[.int .i64 0] 3)) (w.heap.size + 1 + 1 + 1) 3 (.int .i64 0) from by have h := Boxed.new (((w.alloc (.cells #[.slice A0 l0.length c0, .slice A1 l1.length c1] 38)).alloc (.cells #[.int .i64 g0, .int .i64 g1, .int .i64 g2, .int .i64 g3] 26)).alloc (.cells #[.bool false] 4)) 3 (.int .i64 0); simpa only [World.size_alloc] using h).alloc _)
  have K4 := Aside0.mk (show Boxed (((((w.alloc (.cells #[.slice A0 l0.length c0, .slice A1 l1.length c1] 38)).alloc (.cells #[.int .i64 g0, .int .i64 g1, .int .i64 g2, .int .i64 g3] 26)).alloc (.cells #[.bool false] 4)).alloc (.cells #[.int .i64 0] 3)).alloc (.cells #[.int .i64 0] 3)) (w.heap.size + 1 + 1 + 1 + 1) 3 (.int .i64 0) from by have h := Boxed.new ((((w.alloc (.cells #[.slice A0 l0.length c0, .slice A1 l1.length c1] 38)).alloc (.cells #[.int .i64 g0, .int .i64 g1, .int .i64 g2, .int .i64 g3] 26)).alloc (.cells #[.bool false] 4)).alloc (.cells #[.int .i64 0] 3)) 3 (.int .i64 0); simpa only [World.size_alloc] using h)
  generalize checkS l0 l1 g0 g1 g2 g3 = e0 at he CK ⊢
  have hne : (e0 != 0) = true := bne_iff_ne.mpr he
  clear hr0 hr1 hT_ he
  go_enter Tryd.func44, Tryd.ntmps44
  go_wp2_with (fail)
  refine (CK.out _ HB4.out).mono ?_
  rintro e w1 ⟨rfl, hb1⟩
  have HB1 := Aside0.mk (below_step HB4.out hb1)
  have J2 : Boxed w1 (w.heap.size + 1 + 1) 4 (.bool false) := blk_below K2.out hb1
  have J3 : Boxed w1 (w.heap.size + 1 + 1 + 1) 3 (.int .i64 0) := blk_below K3.out hb1
  have J4 : Boxed w1 (w.heap.size + 1 + 1 + 1 + 1) 3 (.int .i64 0) := blk_below K4.out hb1
  have hc2 := J2.cell
  have hf2 := J2.frozen
  have hc3 := J3.cell
  have hf3 := J3.frozen
  have hc4 := J4.cell
  have hf4 := J4.frozen
  clear hb1
  go_wp2
  have HB5 := Aside0.mk (((HB1.out.setCell (p := ⟨w.heap.size + 1 + 1, 0, none⟩) (by simp; omega) (.bool false)).setCell (p := ⟨w.heap.size + 1 + 1 + 1, 0, none⟩) (by simp; omega) (.int .i64 0)).setCell (p := ⟨w.heap.size + 1 + 1 + 1 + 1, 0, none⟩) (by simp; omega) (.int .i64 0))
  obtain ⟨W5, e5, z2, z3, z4⟩ := three_set J2 J3 J4 (.bool false) (.int .i64 0) (.int .i64 0)
  rw [← e5] at HB5 ⊢
  have y2 := z2.cell
  have y3 := z3.cell
  have y4 := z4.cell
  refine bodyPost_ret (v := .tuple #[.bool false, .int .i64 0, .int .i64 0, .int .i64 e0]) (by simp [results, Tryd.results44, go_sem, y2, y3, y4]) rfl ⟨rfl, HB5.out⟩
set_option maxHeartbeats 8000000 in
set_option maxRecDepth 100000 in
theorem look_some (A0 : Option Addr) (c0 : Nat) (l0 : List S24) (A1 : Option Addr) (c1 : Nat) (l1 : List S24) (g0 g1 g2 g3 : Int) (t su : List Int) (r1 : Bool) (r2 r3 : Int) (w : World) (hr0 : Kd.C k24 w A0 l0.length l0) (hc0 : l0.length ≤ c0) (hr1 : Kd.C k24 w A1 l1.length l1) (hc1 : l1.length ≤ c1) (hT_ : TabOk w) (he : checkS l0 l1 g0 g1 g2 g3 = 0)
    (ht : guard_gauge_table.f 1000 g0 g1 g2 g3 l0 l1 2 = some t) (hs : guard_gauge_table.f 1000 g0 g1 g2 g3 l0 l1 1 = some su) (hls : t.length ≤ su.length) (h64 : t.length ≤ 64) (hl : lookG t su (placesL l0.length l1.length) false 0 0 = some (r1, r2, r3)) (o1 : Bool) (o2 o3 o4 : Int) (ho : (r3 = 0 ∧ o1 = false ∧ o2 = 0 ∧ o3 = 0 ∧ o4 = 7) ∨ (r3 ≠ 0 ∧ o1 = r1 ∧ o2 = r2 ∧ o3 = r3 ∧ o4 = 0)) :
    Calls Tryd.prog 44 #[.agg #[.slice A0 l0.length c0, .slice A1 l1.length c1], .agg #[.int .i64 g0, .int .i64 g1, .int .i64 g2, .int .i64 g3]] w fun e w' => e = .returned (.tuple #[.bool o1, .int .i64 o2, .int .i64 o3, .int .i64 o4]) ∧ Below w.heap.size w w' := by
  have HL := Aside0.mk hr0
  have HR := Aside0.mk hr1
  have HB0 := Aside0.mk (show Below w.heap.size w ((w.alloc (.cells #[.slice A0 l0.length c0, .slice A1 l1.length c1] 38)).alloc (.cells #[.int .i64 g0, .int .i64 g1, .int .i64 g2, .int .i64 g3] 26)) from ((Below.refl _ w).alloc (Nat.le_refl _) _).alloc (by simp) _)
  have KS := Aside0.mk (show ((w.alloc (.cells #[.slice A0 l0.length c0, .slice A1 l1.length c1] 38)).alloc (.cells #[.int .i64 g0, .int .i64 g1, .int .i64 g2, .int .i64 g3] 26)).heap[w.heap.size]? = some (.cells #[.slice A0 l0.length c0, .slice A1 l1.length c1] 38) from blk_alloc (blk_new _ _) _)
  have KG := Aside0.mk (show ((w.alloc (.cells #[.slice A0 l0.length c0, .slice A1 l1.length c1] 38)).alloc (.cells #[.int .i64 g0, .int .i64 g1, .int .i64 g2, .int .i64 g3] 26)).heap[w.heap.size + 1]? = some (.cells #[.int .i64 g0, .int .i64 g1, .int .i64 g2, .int .i64 g3] 26) from by have h_ := blk_new (w.alloc (.cells #[.slice A0 l0.length c0, .slice A1 l1.length c1] 38)) (.cells #[.int .i64 g0, .int .i64 g1, .int .i64 g2, .int .i64 g3] 26); simpa using h_)
  have CK := Aside0.mk (fun W (hb : Below w.heap.size w W) => guard_Check.calls A0 c0 l0 A1 c1 l1 g0 g1 g2 g3 _ W (Kd.C_below hr0 hb) hc0 (Kd.C_below hr1 hb) hc1 rfl)
  have HT := Aside0.mk hT_
  have HB4 := Aside0.mk (((HB0.out.alloc (by simp; omega) (.cells #[.bool false] 4)).alloc (by simp; omega) (.cells #[.int .i64 0] 3)).alloc (by simp; omega) (.cells #[.int .i64 0] 3))
  have K2 := Aside0.mk (show Boxed (((((w.alloc (.cells #[.slice A0 l0.length c0, .slice A1 l1.length c1] 38)).alloc (.cells #[.int .i64 g0, .int .i64 g1, .int .i64 g2, .int .i64 g3] 26)).alloc (.cells #[.bool false] 4)).alloc (.cells #[.int .i64 0] 3)).alloc (.cells #[.int .i64 0] 3)) (w.heap.size + 1 + 1) 4 (.bool false) from ((show Boxed (((w.alloc (.cells #[.slice A0 l0.length c0, .slice A1 l1.length c1] 38)).alloc (.cells #[.int .i64 g0, .int .i64 g1, .int .i64 g2, .int .i64 g3] 26)).alloc (.cells #[.bool false] 4)) (w.heap.size + 1 + 1) 4 (.bool false) from by have h := Boxed.new ((w.alloc (.cells #[.slice A0 l0.length c0, .slice A1 l1.length c1] 38)).alloc (.cells #[.int .i64 g0, .int .i64 g1, .int .i64 g2, .int .i64 g3] 26)) 4 (.bool false); simpa only [World.size_alloc] using h).alloc _).alloc _)
  have K3 := Aside0.mk (show Boxed (((((w.alloc (.cells #[.slice A0 l0.length c0, .slice A1 l1.length c1] 38)).alloc (.cells #[.int .i64 g0, .int .i64 g1, .int .i64 g2, .int .i64 g3] 26)).alloc (.cells #[.bool false] 4)).alloc (.cells #[.int .i64 0] 3)).alloc (.cells #[.int .i64 0] 3)) (w.heap.size + 1 + 1 + 1) 3 (.int .i64 0) from (show Boxed ((((w.alloc (.cells #[.slice A0 l0.length c0, .slice A1 l1.length c1] 38)).alloc (.cells #[.int .i64 g0, .int .i64 g1, .int .i64 g2, .int .i64 g3] 26)).alloc (.cells #[.bool false] 4)).alloc (.cells #[.int .i64 0] 3)) (w.heap.size + 1 + 1 + 1) 3 (.int .i64 0) from by have h := Boxed.new (((w.alloc (.cells #[.slice A0 l0.length c0, .slice A1 l1.length c1] 38)).alloc (.cells #[.int .i64 g0, .int .i64 g1, .int .i64 g2, .int .i64 g3] 26)).alloc (.cells #[.bool false] 4)) 3 (.int .i64 0); simpa only [World.size_alloc] using h).alloc _)
  have K4 := Aside0.mk (show Boxed (((((w.alloc (.cells #[.slice A0 l0.length c0, .slice A1 l1.length c1] 38)).alloc (.cells #[.int .i64 g0, .int .i64 g1, .int .i64 g2, .int .i64 g3] 26)).alloc (.cells #[.bool false] 4)).alloc (.cells #[.int .i64 0] 3)).alloc (.cells #[.int .i64 0] 3)) (w.heap.size + 1 + 1 + 1 + 1) 3 (.int .i64 0) from by have h := Boxed.new ((((w.alloc (.cells #[.slice A0 l0.length c0, .slice A1 l1.length c1] 38)).alloc (.cells #[.int .i64 g0, .int .i64 g1, .int .i64 g2, .int .i64 g3] 26)).alloc (.cells #[.bool false] 4)).alloc (.cells #[.int .i64 0] 3)) 3 (.int .i64 0); simpa only [World.size_alloc] using h)
  have KS4 := Aside0.mk (blk_alloc (blk_alloc (blk_alloc KS.out (.cells #[.bool false] 4)) (.cells #[.int .i64 0] 3)) (.cells #[.int .i64 0] 3))
  have KG4 := Aside0.mk (blk_alloc (blk_alloc (blk_alloc KG.out (.cells #[.bool false] 4)) (.cells #[.int .i64 0] 3)) (.cells #[.int .i64 0] 3))
  have TB := Aside0.mk (fun W (hb : Below w.heap.size w W) => guard_gauge_table.calls 1000 g0 g1 g2 g3 A0 c0 l0 A1 c1 l1 2 t W (Kd.C_below hr0 hb) hc0 (Kd.C_below hr1 hb) hc1 ht)
  have TS := Aside0.mk (fun W (hb : Below w.heap.size w W) => guard_gauge_table.calls 1000 g0 g1 g2 g3 A0 c0 l0 A1 c1 l1 1 su W (Kd.C_below hr0 hb) hc0 (Kd.C_below hr1 hb) hc1 hs)
  have LN := Aside0.mk (check_len he)
  have HG := Aside0.mk hl
  have HO := Aside0.mk ho
  have HLS := Aside0.mk hls
  have H64 := Aside0.mk h64
  rw [he] at CK
  clear hr0 hr1 hT_ he ht hs hl hls h64 ho HB0 KS KG
  refine calls_of_marks Tryd.func44 rfl ?_
  simp only [Tryd.ntmps44, List.size_toArray, List.length_cons, List.length_nil, Nat.reduceAdd, Nat.reduceSub, Array.replicate_succ, Array.replicate_zero, List.push_toArray, List.append_toArray, List.nil_append, List.cons_append]
  go_wp2_with (fail)
  refine (CK.out _ HB4.out).mono ?_
  rintro e w1 ⟨rfl, hb1⟩
  have HB1 := below_step HB4.out hb1
  have HQ0 : Below w1.heap.size w1 w1.drew := below_drew (Below.refl _ _)
  have KS1 := Aside0.mk (blk_below KS4.out hb1)
  have KG1 := Aside0.mk (blk_below KG4.out hb1)
  have J2 := Aside0.mk (show Boxed w1 (w.heap.size + 1 + 1) 4 (.bool false) from blk_below K2.out hb1)
  have J3 := Aside0.mk (show Boxed w1 (w.heap.size + 1 + 1 + 1) 3 (.int .i64 0) from blk_below K3.out hb1)
  have J4 := Aside0.mk (show Boxed w1 (w.heap.size + 1 + 1 + 1 + 1) 3 (.int .i64 0) from blk_below K4.out hb1)
  clear hb1 HB4 KS4 KG4 K2 K3 K4 CK
  have hs0 : w1.drew.cell? ⟨w.heap.size, 0, none⟩ = some (.slice A0 l0.length c0) := (blk_cell (blk_drew KS1.out) 0).trans rfl
  have hs1 : w1.drew.cell? ⟨w.heap.size, 1, none⟩ = some (.slice A1 l1.length c1) := (blk_cell (blk_drew KS1.out) 1).trans rfl
  have hg0 : w1.drew.cell? ⟨w.heap.size + 1, 0, none⟩ = some (.int .i64 g0) := (blk_cell (blk_drew KG1.out) 0).trans rfl
  have hg1 : w1.drew.cell? ⟨w.heap.size + 1, 1, none⟩ = some (.int .i64 g1) := (blk_cell (blk_drew KG1.out) 1).trans rfl
  have hg2 : w1.drew.cell? ⟨w.heap.size + 1, 2, none⟩ = some (.int .i64 g2) := (blk_cell (blk_drew KG1.out) 2).trans rfl
  have hg3 : w1.drew.cell? ⟨w.heap.size + 1, 3, none⟩ = some (.int .i64 g3) := (blk_cell (blk_drew KG1.out) 3).trans rfl
  have hmx : Tryd.prog.follows .mixedOrders = true := by kernel_rfl
  go_wp2_with (fail)
  refine start_ (n := 12) (S := fun w' => w'.cell? ⟨w.heap.size, 0, none⟩ = some (.slice A0 l0.length c0) ∧ w'.cell? ⟨w.heap.size, 1, none⟩ = some (.slice A1 l1.length c1) ∧ w'.cell? ⟨w.heap.size + 1, 0, none⟩ = some (.int .i64 g0) ∧ w'.cell? ⟨w.heap.size + 1, 1, none⟩ = some (.int .i64 g1) ∧ w'.cell? ⟨w.heap.size + 1, 2, none⟩ = some (.int .i64 g2) ∧ w'.cell? ⟨w.heap.size + 1, 3, none⟩ = some (.int .i64 g3)) (ds := [10, 11]) (bl 12 0) (by kernel_rfl) rfl rfl ⟨hs0, hs1, hg0, hg1, hg2, hg3⟩ (fun hHeld => ?_)
  refine tS 0 21 (bl 12 1) hHeld ?_
  refine pS 1 22 (bl 12 3) ?_
  refine tS 2 23 (bl 12 7) hHeld ?_
  refine tS 4 25 (bl 12 23) hHeld ?_
  refine pS 5 26 (bl 12 55) ?_
  refine tS 6 27 (bl 12 119) hHeld ?_
  refine join_ (σ := Value × Value × Nat × Nat) 2 (bl 12 1023) (fun s => [(24, s.1), (28, s.2.1), (9, .pointer (some ⟨s.2.2.1, 0, none⟩)), (10, .pointer (some ⟨s.2.2.2, 0, none⟩))]) (fun s w' => Fin4 w1 t su s.1 s.2.1 s.2.2.1 s.2.2.2 w') ?_ ?_
  rotate_left
  · intro hCont
    refine three_ (i := 3) (j := 8) (k := 9) (Ni := some 24) (Nj := some 9) (Nk := some 10) (bl 12 127) (bl 12 375) (bl 12 631) rfl rfl rfl rfl rfl rfl (by kernel_rfl) (by decide) (by decide) (by decide) (fun K hK => ?_) (fun K hK => ?_) (fun K hK => ?_)
    · skip
      refine goes_ Tryd.func67 (by kernel_rfl) rfl #[.agg #[.int .i64 g0, .int .i64 g1, .int .i64 g2, .int .i64 g3], .agg #[.slice A0 l0.length c0, .slice A1 l1.length c1], .int .i64 2] (by rfl) rfl rfl (by simp only [List.map_toArray, List.map_cons, List.map_nil]; rfl) ?_
      with_reducible refine (TB.out _ (below_step HB1 HQ0)).mono ?_
      rintro e w23 ⟨v23, rfl, hx3, hb⟩
      refine ⟨_, rfl, ?_⟩
      replace hx3 := Kd.R_lower hx3 (below_size HQ0)
      have hB1 := below_step HQ0 hb
      have hz3 := hb.size
      (try simp only [World.size_alloc, World.size_drew] at hz3)
      refine hK.out _ _ ⟨pw_cell_below hb hHeld.1, pw_cell_below hb hHeld.2.1, pw_cell_below hb hHeld.2.2.1, pw_cell_below hb hHeld.2.2.2.1, pw_cell_below hb hHeld.2.2.2.2.1, pw_cell_below hb hHeld.2.2.2.2.2⟩ (fun hHeld => ?_)
      clear hK K
      refine nS 24 ?_
      refine three_ (i := 7) (j := 8) (k := 9) (Ni := some 28) (Nj := some 9) (Nk := some 10) (bl 12 255) (bl 12 383) (bl 12 639) rfl rfl rfl rfl rfl rfl (by kernel_rfl) (by decide) (by decide) (by decide) (fun K hK => ?_) (fun K hK => ?_) (fun K hK => ?_)
      · skip
        refine goes_ Tryd.func67 (by kernel_rfl) rfl #[.agg #[.int .i64 g0, .int .i64 g1, .int .i64 g2, .int .i64 g3], .agg #[.slice A0 l0.length c0, .slice A1 l1.length c1], .int .i64 1] (by rfl) rfl rfl (by simp only [List.map_toArray, List.map_cons, List.map_nil]; rfl) ?_
        with_reducible refine (TS.out _ (below_step HB1 hB1)).mono ?_
        rintro e w27 ⟨v27, rfl, hx7, hb⟩
        refine ⟨_, rfl, ?_⟩
        replace hx7 := Kd.R_lower hx7 (below_size hB1)
        replace hx3 := Kd.R_below hx3 hb
        have hB2 := below_step hB1 hb
        have hz7 := hb.size
        (try simp only [World.size_alloc, World.size_drew] at hz7)
        refine hK.out _ _ ⟨pw_cell_below hb hHeld.1, pw_cell_below hb hHeld.2.1, pw_cell_below hb hHeld.2.2.1, pw_cell_below hb hHeld.2.2.2.1, pw_cell_below hb hHeld.2.2.2.2.1, pw_cell_below hb hHeld.2.2.2.2.2⟩ (fun hHeld => ?_)
        clear hK K
        refine nS 28 ?_
        refine two_ (i := 8) (j := 9) (Ni := some 9) (Nj := some 10) (bl 12 511) (bl 12 767) rfl rfl rfl rfl (by kernel_rfl) (by decide) (by decide) (fun K hK => ?_) (fun K hK => ?_)
        · skip
          refine vS ?_
          have hx8 := Boxed.new w27 111 (.slice none 0 0)
          (try rw [World.size_alloc] at hx8)
          replace hx3 := Kd.R_below hx3 (below_alloc (Below.refl w27.heap.size w27) (.cells #[.slice none 0 0] 111))
          replace hx7 := Kd.R_below hx7 (below_alloc (Below.refl w27.heap.size w27) (.cells #[.slice none 0 0] 111))
          have hB3 := below_step hB2 (below_alloc (Below.refl w27.heap.size w27) (.cells #[.slice none 0 0] 111))
          (try simp only [World.alloc_drew] at hB3)
          refine hK.out _ _ ⟨pw_cell_below (below_alloc (Below.refl w27.heap.size w27) (.cells #[.slice none 0 0] 111)) hHeld.1, pw_cell_below (below_alloc (Below.refl w27.heap.size w27) (.cells #[.slice none 0 0] 111)) hHeld.2.1, pw_cell_below (below_alloc (Below.refl w27.heap.size w27) (.cells #[.slice none 0 0] 111)) hHeld.2.2.1, pw_cell_below (below_alloc (Below.refl w27.heap.size w27) (.cells #[.slice none 0 0] 111)) hHeld.2.2.2.1, pw_cell_below (below_alloc (Below.refl w27.heap.size w27) (.cells #[.slice none 0 0] 111)) hHeld.2.2.2.2.1, pw_cell_below (below_alloc (Below.refl w27.heap.size w27) (.cells #[.slice none 0 0] 111)) hHeld.2.2.2.2.2⟩ (fun hHeld => ?_)
          clear hK K
          refine nS 9 ?_
          refine one_ (i := 9) (N := some 10) (bl 12 1023) rfl rfl (by kernel_rfl) (by decide) (fun K hK => ?_)
          refine vS ?_
          have hx9 := Boxed.new (w27.alloc (.cells #[.slice none 0 0] 111)) 111 (.slice none 0 0)
          (try rw [World.size_alloc] at hx9)
          replace hx3 := Kd.R_below hx3 (below_alloc (Below.refl (w27.alloc (.cells #[.slice none 0 0] 111)).heap.size (w27.alloc (.cells #[.slice none 0 0] 111))) (.cells #[.slice none 0 0] 111))
          replace hx7 := Kd.R_below hx7 (below_alloc (Below.refl (w27.alloc (.cells #[.slice none 0 0] 111)).heap.size (w27.alloc (.cells #[.slice none 0 0] 111))) (.cells #[.slice none 0 0] 111))
          replace hx8 := blk_below hx8 (below_alloc (Below.refl (w27.alloc (.cells #[.slice none 0 0] 111)).heap.size (w27.alloc (.cells #[.slice none 0 0] 111))) (.cells #[.slice none 0 0] 111))
          have hB4 := below_step hB3 (below_alloc (Below.refl (w27.alloc (.cells #[.slice none 0 0] 111)).heap.size (w27.alloc (.cells #[.slice none 0 0] 111))) (.cells #[.slice none 0 0] 111))
          (try simp only [World.alloc_drew] at hB4)
          refine hK.out _ _ ⟨pw_cell_below (below_alloc (Below.refl (w27.alloc (.cells #[.slice none 0 0] 111)).heap.size (w27.alloc (.cells #[.slice none 0 0] 111))) (.cells #[.slice none 0 0] 111)) hHeld.1, pw_cell_below (below_alloc (Below.refl (w27.alloc (.cells #[.slice none 0 0] 111)).heap.size (w27.alloc (.cells #[.slice none 0 0] 111))) (.cells #[.slice none 0 0] 111)) hHeld.2.1, pw_cell_below (below_alloc (Below.refl (w27.alloc (.cells #[.slice none 0 0] 111)).heap.size (w27.alloc (.cells #[.slice none 0 0] 111))) (.cells #[.slice none 0 0] 111)) hHeld.2.2.1, pw_cell_below (below_alloc (Below.refl (w27.alloc (.cells #[.slice none 0 0] 111)).heap.size (w27.alloc (.cells #[.slice none 0 0] 111))) (.cells #[.slice none 0 0] 111)) hHeld.2.2.2.1, pw_cell_below (below_alloc (Below.refl (w27.alloc (.cells #[.slice none 0 0] 111)).heap.size (w27.alloc (.cells #[.slice none 0 0] 111))) (.cells #[.slice none 0 0] 111)) hHeld.2.2.2.2.1, pw_cell_below (below_alloc (Below.refl (w27.alloc (.cells #[.slice none 0 0] 111)).heap.size (w27.alloc (.cells #[.slice none 0 0] 111))) (.cells #[.slice none 0 0] 111)) hHeld.2.2.2.2.2⟩ (fun hHeld => ?_)
          clear hK K
          refine nS 10 ?_
          exact norm_ (by simp only [putAll, Act.put, List.setIfInBounds_toArray, List.set_cons_zero, List.set_cons_succ]) (hCont (v23, v27, w27.heap.size, w27.heap.size + 1) _ ⟨hx3, hx7, hx8, hx9, by dsimp only; omega, by dsimp only; omega, by dsimp only; omega, hB4⟩)
        · skip
          refine vS ?_
          have hx9 := Boxed.new w27 111 (.slice none 0 0)
          (try rw [World.size_alloc] at hx9)
          replace hx3 := Kd.R_below hx3 (below_alloc (Below.refl w27.heap.size w27) (.cells #[.slice none 0 0] 111))
          replace hx7 := Kd.R_below hx7 (below_alloc (Below.refl w27.heap.size w27) (.cells #[.slice none 0 0] 111))
          have hB3 := below_step hB2 (below_alloc (Below.refl w27.heap.size w27) (.cells #[.slice none 0 0] 111))
          (try simp only [World.alloc_drew] at hB3)
          refine hK.out _ _ ⟨pw_cell_below (below_alloc (Below.refl w27.heap.size w27) (.cells #[.slice none 0 0] 111)) hHeld.1, pw_cell_below (below_alloc (Below.refl w27.heap.size w27) (.cells #[.slice none 0 0] 111)) hHeld.2.1, pw_cell_below (below_alloc (Below.refl w27.heap.size w27) (.cells #[.slice none 0 0] 111)) hHeld.2.2.1, pw_cell_below (below_alloc (Below.refl w27.heap.size w27) (.cells #[.slice none 0 0] 111)) hHeld.2.2.2.1, pw_cell_below (below_alloc (Below.refl w27.heap.size w27) (.cells #[.slice none 0 0] 111)) hHeld.2.2.2.2.1, pw_cell_below (below_alloc (Below.refl w27.heap.size w27) (.cells #[.slice none 0 0] 111)) hHeld.2.2.2.2.2⟩ (fun hHeld => ?_)
          clear hK K
          refine nS 10 ?_
          refine one_ (i := 8) (N := some 9) (bl 12 1023) rfl rfl (by kernel_rfl) (by decide) (fun K hK => ?_)
          refine vS ?_
          have hx8 := Boxed.new (w27.alloc (.cells #[.slice none 0 0] 111)) 111 (.slice none 0 0)
          (try rw [World.size_alloc] at hx8)
          replace hx3 := Kd.R_below hx3 (below_alloc (Below.refl (w27.alloc (.cells #[.slice none 0 0] 111)).heap.size (w27.alloc (.cells #[.slice none 0 0] 111))) (.cells #[.slice none 0 0] 111))
          replace hx7 := Kd.R_below hx7 (below_alloc (Below.refl (w27.alloc (.cells #[.slice none 0 0] 111)).heap.size (w27.alloc (.cells #[.slice none 0 0] 111))) (.cells #[.slice none 0 0] 111))
          replace hx9 := blk_below hx9 (below_alloc (Below.refl (w27.alloc (.cells #[.slice none 0 0] 111)).heap.size (w27.alloc (.cells #[.slice none 0 0] 111))) (.cells #[.slice none 0 0] 111))
          have hB4 := below_step hB3 (below_alloc (Below.refl (w27.alloc (.cells #[.slice none 0 0] 111)).heap.size (w27.alloc (.cells #[.slice none 0 0] 111))) (.cells #[.slice none 0 0] 111))
          (try simp only [World.alloc_drew] at hB4)
          refine hK.out _ _ ⟨pw_cell_below (below_alloc (Below.refl (w27.alloc (.cells #[.slice none 0 0] 111)).heap.size (w27.alloc (.cells #[.slice none 0 0] 111))) (.cells #[.slice none 0 0] 111)) hHeld.1, pw_cell_below (below_alloc (Below.refl (w27.alloc (.cells #[.slice none 0 0] 111)).heap.size (w27.alloc (.cells #[.slice none 0 0] 111))) (.cells #[.slice none 0 0] 111)) hHeld.2.1, pw_cell_below (below_alloc (Below.refl (w27.alloc (.cells #[.slice none 0 0] 111)).heap.size (w27.alloc (.cells #[.slice none 0 0] 111))) (.cells #[.slice none 0 0] 111)) hHeld.2.2.1, pw_cell_below (below_alloc (Below.refl (w27.alloc (.cells #[.slice none 0 0] 111)).heap.size (w27.alloc (.cells #[.slice none 0 0] 111))) (.cells #[.slice none 0 0] 111)) hHeld.2.2.2.1, pw_cell_below (below_alloc (Below.refl (w27.alloc (.cells #[.slice none 0 0] 111)).heap.size (w27.alloc (.cells #[.slice none 0 0] 111))) (.cells #[.slice none 0 0] 111)) hHeld.2.2.2.2.1, pw_cell_below (below_alloc (Below.refl (w27.alloc (.cells #[.slice none 0 0] 111)).heap.size (w27.alloc (.cells #[.slice none 0 0] 111))) (.cells #[.slice none 0 0] 111)) hHeld.2.2.2.2.2⟩ (fun hHeld => ?_)
          clear hK K
          refine nS 9 ?_
          exact norm_ (by simp only [putAll, Act.put, List.setIfInBounds_toArray, List.set_cons_zero, List.set_cons_succ]) (hCont (v23, v27, w27.heap.size + 1, w27.heap.size) _ ⟨hx3, hx7, hx8, hx9, by dsimp only; omega, by dsimp only; omega, by dsimp only; omega, hB4⟩)
      · skip
        refine vS ?_
        have hx8 := Boxed.new w23 111 (.slice none 0 0)
        (try rw [World.size_alloc] at hx8)
        replace hx3 := Kd.R_below hx3 (below_alloc (Below.refl w23.heap.size w23) (.cells #[.slice none 0 0] 111))
        have hB2 := below_step hB1 (below_alloc (Below.refl w23.heap.size w23) (.cells #[.slice none 0 0] 111))
        (try simp only [World.alloc_drew] at hB2)
        refine hK.out _ _ ⟨pw_cell_below (below_alloc (Below.refl w23.heap.size w23) (.cells #[.slice none 0 0] 111)) hHeld.1, pw_cell_below (below_alloc (Below.refl w23.heap.size w23) (.cells #[.slice none 0 0] 111)) hHeld.2.1, pw_cell_below (below_alloc (Below.refl w23.heap.size w23) (.cells #[.slice none 0 0] 111)) hHeld.2.2.1, pw_cell_below (below_alloc (Below.refl w23.heap.size w23) (.cells #[.slice none 0 0] 111)) hHeld.2.2.2.1, pw_cell_below (below_alloc (Below.refl w23.heap.size w23) (.cells #[.slice none 0 0] 111)) hHeld.2.2.2.2.1, pw_cell_below (below_alloc (Below.refl w23.heap.size w23) (.cells #[.slice none 0 0] 111)) hHeld.2.2.2.2.2⟩ (fun hHeld => ?_)
        clear hK K
        refine nS 9 ?_
        refine two_ (i := 7) (j := 9) (Ni := some 28) (Nj := some 10) (bl 12 511) (bl 12 895) rfl rfl rfl rfl (by kernel_rfl) (by decide) (by decide) (fun K hK => ?_) (fun K hK => ?_)
        · skip
          refine goes_ Tryd.func67 (by kernel_rfl) rfl #[.agg #[.int .i64 g0, .int .i64 g1, .int .i64 g2, .int .i64 g3], .agg #[.slice A0 l0.length c0, .slice A1 l1.length c1], .int .i64 1] (by rfl) rfl rfl (by simp only [List.map_toArray, List.map_cons, List.map_nil]; rfl) ?_
          with_reducible refine (TS.out _ (below_step HB1 hB2)).mono ?_
          rintro e w27 ⟨v27, rfl, hx7, hb⟩
          refine ⟨_, rfl, ?_⟩
          replace hx7 := Kd.R_lower hx7 (below_size hB2)
          replace hx3 := Kd.R_below hx3 hb
          replace hx8 := blk_below hx8 hb
          have hB3 := below_step hB2 hb
          have hz7 := hb.size
          (try simp only [World.size_alloc, World.size_drew] at hz7)
          refine hK.out _ _ ⟨pw_cell_below hb hHeld.1, pw_cell_below hb hHeld.2.1, pw_cell_below hb hHeld.2.2.1, pw_cell_below hb hHeld.2.2.2.1, pw_cell_below hb hHeld.2.2.2.2.1, pw_cell_below hb hHeld.2.2.2.2.2⟩ (fun hHeld => ?_)
          clear hK K
          refine nS 28 ?_
          refine one_ (i := 9) (N := some 10) (bl 12 1023) rfl rfl (by kernel_rfl) (by decide) (fun K hK => ?_)
          refine vS ?_
          have hx9 := Boxed.new w27 111 (.slice none 0 0)
          (try rw [World.size_alloc] at hx9)
          replace hx3 := Kd.R_below hx3 (below_alloc (Below.refl w27.heap.size w27) (.cells #[.slice none 0 0] 111))
          replace hx8 := blk_below hx8 (below_alloc (Below.refl w27.heap.size w27) (.cells #[.slice none 0 0] 111))
          replace hx7 := Kd.R_below hx7 (below_alloc (Below.refl w27.heap.size w27) (.cells #[.slice none 0 0] 111))
          have hB4 := below_step hB3 (below_alloc (Below.refl w27.heap.size w27) (.cells #[.slice none 0 0] 111))
          (try simp only [World.alloc_drew] at hB4)
          refine hK.out _ _ ⟨pw_cell_below (below_alloc (Below.refl w27.heap.size w27) (.cells #[.slice none 0 0] 111)) hHeld.1, pw_cell_below (below_alloc (Below.refl w27.heap.size w27) (.cells #[.slice none 0 0] 111)) hHeld.2.1, pw_cell_below (below_alloc (Below.refl w27.heap.size w27) (.cells #[.slice none 0 0] 111)) hHeld.2.2.1, pw_cell_below (below_alloc (Below.refl w27.heap.size w27) (.cells #[.slice none 0 0] 111)) hHeld.2.2.2.1, pw_cell_below (below_alloc (Below.refl w27.heap.size w27) (.cells #[.slice none 0 0] 111)) hHeld.2.2.2.2.1, pw_cell_below (below_alloc (Below.refl w27.heap.size w27) (.cells #[.slice none 0 0] 111)) hHeld.2.2.2.2.2⟩ (fun hHeld => ?_)
          clear hK K
          refine nS 10 ?_
          exact norm_ (by simp only [putAll, Act.put, List.setIfInBounds_toArray, List.set_cons_zero, List.set_cons_succ]) (hCont (v23, v27, w23.heap.size, w27.heap.size) _ ⟨hx3, hx7, hx8, hx9, by dsimp only; omega, by dsimp only; omega, by dsimp only; omega, hB4⟩)
        · skip
          refine vS ?_
          have hx9 := Boxed.new (w23.alloc (.cells #[.slice none 0 0] 111)) 111 (.slice none 0 0)
          (try rw [World.size_alloc] at hx9)
          replace hx3 := Kd.R_below hx3 (below_alloc (Below.refl (w23.alloc (.cells #[.slice none 0 0] 111)).heap.size (w23.alloc (.cells #[.slice none 0 0] 111))) (.cells #[.slice none 0 0] 111))
          replace hx8 := blk_below hx8 (below_alloc (Below.refl (w23.alloc (.cells #[.slice none 0 0] 111)).heap.size (w23.alloc (.cells #[.slice none 0 0] 111))) (.cells #[.slice none 0 0] 111))
          have hB3 := below_step hB2 (below_alloc (Below.refl (w23.alloc (.cells #[.slice none 0 0] 111)).heap.size (w23.alloc (.cells #[.slice none 0 0] 111))) (.cells #[.slice none 0 0] 111))
          (try simp only [World.alloc_drew] at hB3)
          refine hK.out _ _ ⟨pw_cell_below (below_alloc (Below.refl (w23.alloc (.cells #[.slice none 0 0] 111)).heap.size (w23.alloc (.cells #[.slice none 0 0] 111))) (.cells #[.slice none 0 0] 111)) hHeld.1, pw_cell_below (below_alloc (Below.refl (w23.alloc (.cells #[.slice none 0 0] 111)).heap.size (w23.alloc (.cells #[.slice none 0 0] 111))) (.cells #[.slice none 0 0] 111)) hHeld.2.1, pw_cell_below (below_alloc (Below.refl (w23.alloc (.cells #[.slice none 0 0] 111)).heap.size (w23.alloc (.cells #[.slice none 0 0] 111))) (.cells #[.slice none 0 0] 111)) hHeld.2.2.1, pw_cell_below (below_alloc (Below.refl (w23.alloc (.cells #[.slice none 0 0] 111)).heap.size (w23.alloc (.cells #[.slice none 0 0] 111))) (.cells #[.slice none 0 0] 111)) hHeld.2.2.2.1, pw_cell_below (below_alloc (Below.refl (w23.alloc (.cells #[.slice none 0 0] 111)).heap.size (w23.alloc (.cells #[.slice none 0 0] 111))) (.cells #[.slice none 0 0] 111)) hHeld.2.2.2.2.1, pw_cell_below (below_alloc (Below.refl (w23.alloc (.cells #[.slice none 0 0] 111)).heap.size (w23.alloc (.cells #[.slice none 0 0] 111))) (.cells #[.slice none 0 0] 111)) hHeld.2.2.2.2.2⟩ (fun hHeld => ?_)
          clear hK K
          refine nS 10 ?_
          refine one_ (i := 7) (N := some 28) (bl 12 1023) rfl rfl (by kernel_rfl) (by decide) (fun K hK => ?_)
          refine goes_ Tryd.func67 (by kernel_rfl) rfl #[.agg #[.int .i64 g0, .int .i64 g1, .int .i64 g2, .int .i64 g3], .agg #[.slice A0 l0.length c0, .slice A1 l1.length c1], .int .i64 1] (by rfl) rfl rfl (by simp only [List.map_toArray, List.map_cons, List.map_nil]; rfl) ?_
          with_reducible refine (TS.out _ (below_step HB1 hB3)).mono ?_
          rintro e w27 ⟨v27, rfl, hx7, hb⟩
          refine ⟨_, rfl, ?_⟩
          replace hx7 := Kd.R_lower hx7 (below_size hB3)
          replace hx3 := Kd.R_below hx3 hb
          replace hx8 := blk_below hx8 hb
          replace hx9 := blk_below hx9 hb
          have hB4 := below_step hB3 hb
          have hz7 := hb.size
          (try simp only [World.size_alloc, World.size_drew] at hz7)
          refine hK.out _ _ ⟨pw_cell_below hb hHeld.1, pw_cell_below hb hHeld.2.1, pw_cell_below hb hHeld.2.2.1, pw_cell_below hb hHeld.2.2.2.1, pw_cell_below hb hHeld.2.2.2.2.1, pw_cell_below hb hHeld.2.2.2.2.2⟩ (fun hHeld => ?_)
          clear hK K
          refine nS 28 ?_
          exact norm_ (by simp only [putAll, Act.put, List.setIfInBounds_toArray, List.set_cons_zero, List.set_cons_succ]) (hCont (v23, v27, w23.heap.size, w23.heap.size + 1) _ ⟨hx3, hx7, hx8, hx9, by dsimp only; omega, by dsimp only; omega, by dsimp only; omega, hB4⟩)
      · skip
        refine vS ?_
        have hx9 := Boxed.new w23 111 (.slice none 0 0)
        (try rw [World.size_alloc] at hx9)
        replace hx3 := Kd.R_below hx3 (below_alloc (Below.refl w23.heap.size w23) (.cells #[.slice none 0 0] 111))
        have hB2 := below_step hB1 (below_alloc (Below.refl w23.heap.size w23) (.cells #[.slice none 0 0] 111))
        (try simp only [World.alloc_drew] at hB2)
        refine hK.out _ _ ⟨pw_cell_below (below_alloc (Below.refl w23.heap.size w23) (.cells #[.slice none 0 0] 111)) hHeld.1, pw_cell_below (below_alloc (Below.refl w23.heap.size w23) (.cells #[.slice none 0 0] 111)) hHeld.2.1, pw_cell_below (below_alloc (Below.refl w23.heap.size w23) (.cells #[.slice none 0 0] 111)) hHeld.2.2.1, pw_cell_below (below_alloc (Below.refl w23.heap.size w23) (.cells #[.slice none 0 0] 111)) hHeld.2.2.2.1, pw_cell_below (below_alloc (Below.refl w23.heap.size w23) (.cells #[.slice none 0 0] 111)) hHeld.2.2.2.2.1, pw_cell_below (below_alloc (Below.refl w23.heap.size w23) (.cells #[.slice none 0 0] 111)) hHeld.2.2.2.2.2⟩ (fun hHeld => ?_)
        clear hK K
        refine nS 10 ?_
        refine two_ (i := 7) (j := 8) (Ni := some 28) (Nj := some 9) (bl 12 767) (bl 12 895) rfl rfl rfl rfl (by kernel_rfl) (by decide) (by decide) (fun K hK => ?_) (fun K hK => ?_)
        · skip
          refine goes_ Tryd.func67 (by kernel_rfl) rfl #[.agg #[.int .i64 g0, .int .i64 g1, .int .i64 g2, .int .i64 g3], .agg #[.slice A0 l0.length c0, .slice A1 l1.length c1], .int .i64 1] (by rfl) rfl rfl (by simp only [List.map_toArray, List.map_cons, List.map_nil]; rfl) ?_
          with_reducible refine (TS.out _ (below_step HB1 hB2)).mono ?_
          rintro e w27 ⟨v27, rfl, hx7, hb⟩
          refine ⟨_, rfl, ?_⟩
          replace hx7 := Kd.R_lower hx7 (below_size hB2)
          replace hx3 := Kd.R_below hx3 hb
          replace hx9 := blk_below hx9 hb
          have hB3 := below_step hB2 hb
          have hz7 := hb.size
          (try simp only [World.size_alloc, World.size_drew] at hz7)
          refine hK.out _ _ ⟨pw_cell_below hb hHeld.1, pw_cell_below hb hHeld.2.1, pw_cell_below hb hHeld.2.2.1, pw_cell_below hb hHeld.2.2.2.1, pw_cell_below hb hHeld.2.2.2.2.1, pw_cell_below hb hHeld.2.2.2.2.2⟩ (fun hHeld => ?_)
          clear hK K
          refine nS 28 ?_
          refine one_ (i := 8) (N := some 9) (bl 12 1023) rfl rfl (by kernel_rfl) (by decide) (fun K hK => ?_)
          refine vS ?_
          have hx8 := Boxed.new w27 111 (.slice none 0 0)
          (try rw [World.size_alloc] at hx8)
          replace hx3 := Kd.R_below hx3 (below_alloc (Below.refl w27.heap.size w27) (.cells #[.slice none 0 0] 111))
          replace hx9 := blk_below hx9 (below_alloc (Below.refl w27.heap.size w27) (.cells #[.slice none 0 0] 111))
          replace hx7 := Kd.R_below hx7 (below_alloc (Below.refl w27.heap.size w27) (.cells #[.slice none 0 0] 111))
          have hB4 := below_step hB3 (below_alloc (Below.refl w27.heap.size w27) (.cells #[.slice none 0 0] 111))
          (try simp only [World.alloc_drew] at hB4)
          refine hK.out _ _ ⟨pw_cell_below (below_alloc (Below.refl w27.heap.size w27) (.cells #[.slice none 0 0] 111)) hHeld.1, pw_cell_below (below_alloc (Below.refl w27.heap.size w27) (.cells #[.slice none 0 0] 111)) hHeld.2.1, pw_cell_below (below_alloc (Below.refl w27.heap.size w27) (.cells #[.slice none 0 0] 111)) hHeld.2.2.1, pw_cell_below (below_alloc (Below.refl w27.heap.size w27) (.cells #[.slice none 0 0] 111)) hHeld.2.2.2.1, pw_cell_below (below_alloc (Below.refl w27.heap.size w27) (.cells #[.slice none 0 0] 111)) hHeld.2.2.2.2.1, pw_cell_below (below_alloc (Below.refl w27.heap.size w27) (.cells #[.slice none 0 0] 111)) hHeld.2.2.2.2.2⟩ (fun hHeld => ?_)
          clear hK K
          refine nS 9 ?_
          exact norm_ (by simp only [putAll, Act.put, List.setIfInBounds_toArray, List.set_cons_zero, List.set_cons_succ]) (hCont (v23, v27, w27.heap.size, w23.heap.size) _ ⟨hx3, hx7, hx8, hx9, by dsimp only; omega, by dsimp only; omega, by dsimp only; omega, hB4⟩)
        · skip
          refine vS ?_
          have hx8 := Boxed.new (w23.alloc (.cells #[.slice none 0 0] 111)) 111 (.slice none 0 0)
          (try rw [World.size_alloc] at hx8)
          replace hx3 := Kd.R_below hx3 (below_alloc (Below.refl (w23.alloc (.cells #[.slice none 0 0] 111)).heap.size (w23.alloc (.cells #[.slice none 0 0] 111))) (.cells #[.slice none 0 0] 111))
          replace hx9 := blk_below hx9 (below_alloc (Below.refl (w23.alloc (.cells #[.slice none 0 0] 111)).heap.size (w23.alloc (.cells #[.slice none 0 0] 111))) (.cells #[.slice none 0 0] 111))
          have hB3 := below_step hB2 (below_alloc (Below.refl (w23.alloc (.cells #[.slice none 0 0] 111)).heap.size (w23.alloc (.cells #[.slice none 0 0] 111))) (.cells #[.slice none 0 0] 111))
          (try simp only [World.alloc_drew] at hB3)
          refine hK.out _ _ ⟨pw_cell_below (below_alloc (Below.refl (w23.alloc (.cells #[.slice none 0 0] 111)).heap.size (w23.alloc (.cells #[.slice none 0 0] 111))) (.cells #[.slice none 0 0] 111)) hHeld.1, pw_cell_below (below_alloc (Below.refl (w23.alloc (.cells #[.slice none 0 0] 111)).heap.size (w23.alloc (.cells #[.slice none 0 0] 111))) (.cells #[.slice none 0 0] 111)) hHeld.2.1, pw_cell_below (below_alloc (Below.refl (w23.alloc (.cells #[.slice none 0 0] 111)).heap.size (w23.alloc (.cells #[.slice none 0 0] 111))) (.cells #[.slice none 0 0] 111)) hHeld.2.2.1, pw_cell_below (below_alloc (Below.refl (w23.alloc (.cells #[.slice none 0 0] 111)).heap.size (w23.alloc (.cells #[.slice none 0 0] 111))) (.cells #[.slice none 0 0] 111)) hHeld.2.2.2.1, pw_cell_below (below_alloc (Below.refl (w23.alloc (.cells #[.slice none 0 0] 111)).heap.size (w23.alloc (.cells #[.slice none 0 0] 111))) (.cells #[.slice none 0 0] 111)) hHeld.2.2.2.2.1, pw_cell_below (below_alloc (Below.refl (w23.alloc (.cells #[.slice none 0 0] 111)).heap.size (w23.alloc (.cells #[.slice none 0 0] 111))) (.cells #[.slice none 0 0] 111)) hHeld.2.2.2.2.2⟩ (fun hHeld => ?_)
          clear hK K
          refine nS 9 ?_
          refine one_ (i := 7) (N := some 28) (bl 12 1023) rfl rfl (by kernel_rfl) (by decide) (fun K hK => ?_)
          refine goes_ Tryd.func67 (by kernel_rfl) rfl #[.agg #[.int .i64 g0, .int .i64 g1, .int .i64 g2, .int .i64 g3], .agg #[.slice A0 l0.length c0, .slice A1 l1.length c1], .int .i64 1] (by rfl) rfl rfl (by simp only [List.map_toArray, List.map_cons, List.map_nil]; rfl) ?_
          with_reducible refine (TS.out _ (below_step HB1 hB3)).mono ?_
          rintro e w27 ⟨v27, rfl, hx7, hb⟩
          refine ⟨_, rfl, ?_⟩
          replace hx7 := Kd.R_lower hx7 (below_size hB3)
          replace hx3 := Kd.R_below hx3 hb
          replace hx9 := blk_below hx9 hb
          replace hx8 := blk_below hx8 hb
          have hB4 := below_step hB3 hb
          have hz7 := hb.size
          (try simp only [World.size_alloc, World.size_drew] at hz7)
          refine hK.out _ _ ⟨pw_cell_below hb hHeld.1, pw_cell_below hb hHeld.2.1, pw_cell_below hb hHeld.2.2.1, pw_cell_below hb hHeld.2.2.2.1, pw_cell_below hb hHeld.2.2.2.2.1, pw_cell_below hb hHeld.2.2.2.2.2⟩ (fun hHeld => ?_)
          clear hK K
          refine nS 28 ?_
          exact norm_ (by simp only [putAll, Act.put, List.setIfInBounds_toArray, List.set_cons_zero, List.set_cons_succ]) (hCont (v23, v27, w23.heap.size + 1, w23.heap.size) _ ⟨hx3, hx7, hx8, hx9, by dsimp only; omega, by dsimp only; omega, by dsimp only; omega, hB4⟩)
    · skip
      refine vS ?_
      have hx8 := Boxed.new w1.drew 111 (.slice none 0 0)
      (try rw [World.size_alloc] at hx8)
      have hB1 := below_step HQ0 (below_alloc (Below.refl w1.drew.heap.size w1.drew) (.cells #[.slice none 0 0] 111))
      (try simp only [World.alloc_drew] at hB1)
      refine hK.out _ _ ⟨pw_cell_below (below_alloc (Below.refl w1.drew.heap.size w1.drew) (.cells #[.slice none 0 0] 111)) hHeld.1, pw_cell_below (below_alloc (Below.refl w1.drew.heap.size w1.drew) (.cells #[.slice none 0 0] 111)) hHeld.2.1, pw_cell_below (below_alloc (Below.refl w1.drew.heap.size w1.drew) (.cells #[.slice none 0 0] 111)) hHeld.2.2.1, pw_cell_below (below_alloc (Below.refl w1.drew.heap.size w1.drew) (.cells #[.slice none 0 0] 111)) hHeld.2.2.2.1, pw_cell_below (below_alloc (Below.refl w1.drew.heap.size w1.drew) (.cells #[.slice none 0 0] 111)) hHeld.2.2.2.2.1, pw_cell_below (below_alloc (Below.refl w1.drew.heap.size w1.drew) (.cells #[.slice none 0 0] 111)) hHeld.2.2.2.2.2⟩ (fun hHeld => ?_)
      clear hK K
      refine nS 9 ?_
      refine two_ (i := 3) (j := 9) (Ni := some 24) (Nj := some 10) (bl 12 383) (bl 12 887) rfl rfl rfl rfl (by kernel_rfl) (by decide) (by decide) (fun K hK => ?_) (fun K hK => ?_)
      · skip
        refine goes_ Tryd.func67 (by kernel_rfl) rfl #[.agg #[.int .i64 g0, .int .i64 g1, .int .i64 g2, .int .i64 g3], .agg #[.slice A0 l0.length c0, .slice A1 l1.length c1], .int .i64 2] (by rfl) rfl rfl (by simp only [List.map_toArray, List.map_cons, List.map_nil]; rfl) ?_
        with_reducible refine (TB.out _ (below_step HB1 hB1)).mono ?_
        rintro e w23 ⟨v23, rfl, hx3, hb⟩
        refine ⟨_, rfl, ?_⟩
        replace hx3 := Kd.R_lower hx3 (below_size hB1)
        replace hx8 := blk_below hx8 hb
        have hB2 := below_step hB1 hb
        have hz3 := hb.size
        (try simp only [World.size_alloc, World.size_drew] at hz3)
        refine hK.out _ _ ⟨pw_cell_below hb hHeld.1, pw_cell_below hb hHeld.2.1, pw_cell_below hb hHeld.2.2.1, pw_cell_below hb hHeld.2.2.2.1, pw_cell_below hb hHeld.2.2.2.2.1, pw_cell_below hb hHeld.2.2.2.2.2⟩ (fun hHeld => ?_)
        clear hK K
        refine nS 24 ?_
        refine two_ (i := 7) (j := 9) (Ni := some 28) (Nj := some 10) (bl 12 511) (bl 12 895) rfl rfl rfl rfl (by kernel_rfl) (by decide) (by decide) (fun K hK => ?_) (fun K hK => ?_)
        · skip
          refine goes_ Tryd.func67 (by kernel_rfl) rfl #[.agg #[.int .i64 g0, .int .i64 g1, .int .i64 g2, .int .i64 g3], .agg #[.slice A0 l0.length c0, .slice A1 l1.length c1], .int .i64 1] (by rfl) rfl rfl (by simp only [List.map_toArray, List.map_cons, List.map_nil]; rfl) ?_
          with_reducible refine (TS.out _ (below_step HB1 hB2)).mono ?_
          rintro e w27 ⟨v27, rfl, hx7, hb⟩
          refine ⟨_, rfl, ?_⟩
          replace hx7 := Kd.R_lower hx7 (below_size hB2)
          replace hx8 := blk_below hx8 hb
          replace hx3 := Kd.R_below hx3 hb
          have hB3 := below_step hB2 hb
          have hz7 := hb.size
          (try simp only [World.size_alloc, World.size_drew] at hz7)
          refine hK.out _ _ ⟨pw_cell_below hb hHeld.1, pw_cell_below hb hHeld.2.1, pw_cell_below hb hHeld.2.2.1, pw_cell_below hb hHeld.2.2.2.1, pw_cell_below hb hHeld.2.2.2.2.1, pw_cell_below hb hHeld.2.2.2.2.2⟩ (fun hHeld => ?_)
          clear hK K
          refine nS 28 ?_
          refine one_ (i := 9) (N := some 10) (bl 12 1023) rfl rfl (by kernel_rfl) (by decide) (fun K hK => ?_)
          refine vS ?_
          have hx9 := Boxed.new w27 111 (.slice none 0 0)
          (try rw [World.size_alloc] at hx9)
          replace hx8 := blk_below hx8 (below_alloc (Below.refl w27.heap.size w27) (.cells #[.slice none 0 0] 111))
          replace hx3 := Kd.R_below hx3 (below_alloc (Below.refl w27.heap.size w27) (.cells #[.slice none 0 0] 111))
          replace hx7 := Kd.R_below hx7 (below_alloc (Below.refl w27.heap.size w27) (.cells #[.slice none 0 0] 111))
          have hB4 := below_step hB3 (below_alloc (Below.refl w27.heap.size w27) (.cells #[.slice none 0 0] 111))
          (try simp only [World.alloc_drew] at hB4)
          refine hK.out _ _ ⟨pw_cell_below (below_alloc (Below.refl w27.heap.size w27) (.cells #[.slice none 0 0] 111)) hHeld.1, pw_cell_below (below_alloc (Below.refl w27.heap.size w27) (.cells #[.slice none 0 0] 111)) hHeld.2.1, pw_cell_below (below_alloc (Below.refl w27.heap.size w27) (.cells #[.slice none 0 0] 111)) hHeld.2.2.1, pw_cell_below (below_alloc (Below.refl w27.heap.size w27) (.cells #[.slice none 0 0] 111)) hHeld.2.2.2.1, pw_cell_below (below_alloc (Below.refl w27.heap.size w27) (.cells #[.slice none 0 0] 111)) hHeld.2.2.2.2.1, pw_cell_below (below_alloc (Below.refl w27.heap.size w27) (.cells #[.slice none 0 0] 111)) hHeld.2.2.2.2.2⟩ (fun hHeld => ?_)
          clear hK K
          refine nS 10 ?_
          exact norm_ (by simp only [putAll, Act.put, List.setIfInBounds_toArray, List.set_cons_zero, List.set_cons_succ]) (hCont (v23, v27, w1.heap.size, w27.heap.size) _ ⟨hx3, hx7, hx8, hx9, by dsimp only; omega, by dsimp only; omega, by dsimp only; omega, hB4⟩)
        · skip
          refine vS ?_
          have hx9 := Boxed.new w23 111 (.slice none 0 0)
          (try rw [World.size_alloc] at hx9)
          replace hx8 := blk_below hx8 (below_alloc (Below.refl w23.heap.size w23) (.cells #[.slice none 0 0] 111))
          replace hx3 := Kd.R_below hx3 (below_alloc (Below.refl w23.heap.size w23) (.cells #[.slice none 0 0] 111))
          have hB3 := below_step hB2 (below_alloc (Below.refl w23.heap.size w23) (.cells #[.slice none 0 0] 111))
          (try simp only [World.alloc_drew] at hB3)
          refine hK.out _ _ ⟨pw_cell_below (below_alloc (Below.refl w23.heap.size w23) (.cells #[.slice none 0 0] 111)) hHeld.1, pw_cell_below (below_alloc (Below.refl w23.heap.size w23) (.cells #[.slice none 0 0] 111)) hHeld.2.1, pw_cell_below (below_alloc (Below.refl w23.heap.size w23) (.cells #[.slice none 0 0] 111)) hHeld.2.2.1, pw_cell_below (below_alloc (Below.refl w23.heap.size w23) (.cells #[.slice none 0 0] 111)) hHeld.2.2.2.1, pw_cell_below (below_alloc (Below.refl w23.heap.size w23) (.cells #[.slice none 0 0] 111)) hHeld.2.2.2.2.1, pw_cell_below (below_alloc (Below.refl w23.heap.size w23) (.cells #[.slice none 0 0] 111)) hHeld.2.2.2.2.2⟩ (fun hHeld => ?_)
          clear hK K
          refine nS 10 ?_
          refine one_ (i := 7) (N := some 28) (bl 12 1023) rfl rfl (by kernel_rfl) (by decide) (fun K hK => ?_)
          refine goes_ Tryd.func67 (by kernel_rfl) rfl #[.agg #[.int .i64 g0, .int .i64 g1, .int .i64 g2, .int .i64 g3], .agg #[.slice A0 l0.length c0, .slice A1 l1.length c1], .int .i64 1] (by rfl) rfl rfl (by simp only [List.map_toArray, List.map_cons, List.map_nil]; rfl) ?_
          with_reducible refine (TS.out _ (below_step HB1 hB3)).mono ?_
          rintro e w27 ⟨v27, rfl, hx7, hb⟩
          refine ⟨_, rfl, ?_⟩
          replace hx7 := Kd.R_lower hx7 (below_size hB3)
          replace hx8 := blk_below hx8 hb
          replace hx3 := Kd.R_below hx3 hb
          replace hx9 := blk_below hx9 hb
          have hB4 := below_step hB3 hb
          have hz7 := hb.size
          (try simp only [World.size_alloc, World.size_drew] at hz7)
          refine hK.out _ _ ⟨pw_cell_below hb hHeld.1, pw_cell_below hb hHeld.2.1, pw_cell_below hb hHeld.2.2.1, pw_cell_below hb hHeld.2.2.2.1, pw_cell_below hb hHeld.2.2.2.2.1, pw_cell_below hb hHeld.2.2.2.2.2⟩ (fun hHeld => ?_)
          clear hK K
          refine nS 28 ?_
          exact norm_ (by simp only [putAll, Act.put, List.setIfInBounds_toArray, List.set_cons_zero, List.set_cons_succ]) (hCont (v23, v27, w1.heap.size, w23.heap.size) _ ⟨hx3, hx7, hx8, hx9, by dsimp only; omega, by dsimp only; omega, by dsimp only; omega, hB4⟩)
      · skip
        refine vS ?_
        have hx9 := Boxed.new (w1.drew.alloc (.cells #[.slice none 0 0] 111)) 111 (.slice none 0 0)
        (try rw [World.size_alloc] at hx9)
        replace hx8 := blk_below hx8 (below_alloc (Below.refl (w1.drew.alloc (.cells #[.slice none 0 0] 111)).heap.size (w1.drew.alloc (.cells #[.slice none 0 0] 111))) (.cells #[.slice none 0 0] 111))
        have hB2 := below_step hB1 (below_alloc (Below.refl (w1.drew.alloc (.cells #[.slice none 0 0] 111)).heap.size (w1.drew.alloc (.cells #[.slice none 0 0] 111))) (.cells #[.slice none 0 0] 111))
        (try simp only [World.alloc_drew] at hB2)
        refine hK.out _ _ ⟨pw_cell_below (below_alloc (Below.refl (w1.drew.alloc (.cells #[.slice none 0 0] 111)).heap.size (w1.drew.alloc (.cells #[.slice none 0 0] 111))) (.cells #[.slice none 0 0] 111)) hHeld.1, pw_cell_below (below_alloc (Below.refl (w1.drew.alloc (.cells #[.slice none 0 0] 111)).heap.size (w1.drew.alloc (.cells #[.slice none 0 0] 111))) (.cells #[.slice none 0 0] 111)) hHeld.2.1, pw_cell_below (below_alloc (Below.refl (w1.drew.alloc (.cells #[.slice none 0 0] 111)).heap.size (w1.drew.alloc (.cells #[.slice none 0 0] 111))) (.cells #[.slice none 0 0] 111)) hHeld.2.2.1, pw_cell_below (below_alloc (Below.refl (w1.drew.alloc (.cells #[.slice none 0 0] 111)).heap.size (w1.drew.alloc (.cells #[.slice none 0 0] 111))) (.cells #[.slice none 0 0] 111)) hHeld.2.2.2.1, pw_cell_below (below_alloc (Below.refl (w1.drew.alloc (.cells #[.slice none 0 0] 111)).heap.size (w1.drew.alloc (.cells #[.slice none 0 0] 111))) (.cells #[.slice none 0 0] 111)) hHeld.2.2.2.2.1, pw_cell_below (below_alloc (Below.refl (w1.drew.alloc (.cells #[.slice none 0 0] 111)).heap.size (w1.drew.alloc (.cells #[.slice none 0 0] 111))) (.cells #[.slice none 0 0] 111)) hHeld.2.2.2.2.2⟩ (fun hHeld => ?_)
        clear hK K
        refine nS 10 ?_
        refine one_ (i := 3) (N := some 24) (bl 12 895) rfl rfl (by kernel_rfl) (by decide) (fun K hK => ?_)
        refine goes_ Tryd.func67 (by kernel_rfl) rfl #[.agg #[.int .i64 g0, .int .i64 g1, .int .i64 g2, .int .i64 g3], .agg #[.slice A0 l0.length c0, .slice A1 l1.length c1], .int .i64 2] (by rfl) rfl rfl (by simp only [List.map_toArray, List.map_cons, List.map_nil]; rfl) ?_
        with_reducible refine (TB.out _ (below_step HB1 hB2)).mono ?_
        rintro e w23 ⟨v23, rfl, hx3, hb⟩
        refine ⟨_, rfl, ?_⟩
        replace hx3 := Kd.R_lower hx3 (below_size hB2)
        replace hx8 := blk_below hx8 hb
        replace hx9 := blk_below hx9 hb
        have hB3 := below_step hB2 hb
        have hz3 := hb.size
        (try simp only [World.size_alloc, World.size_drew] at hz3)
        refine hK.out _ _ ⟨pw_cell_below hb hHeld.1, pw_cell_below hb hHeld.2.1, pw_cell_below hb hHeld.2.2.1, pw_cell_below hb hHeld.2.2.2.1, pw_cell_below hb hHeld.2.2.2.2.1, pw_cell_below hb hHeld.2.2.2.2.2⟩ (fun hHeld => ?_)
        clear hK K
        refine nS 24 ?_
        refine one_ (i := 7) (N := some 28) (bl 12 1023) rfl rfl (by kernel_rfl) (by decide) (fun K hK => ?_)
        refine goes_ Tryd.func67 (by kernel_rfl) rfl #[.agg #[.int .i64 g0, .int .i64 g1, .int .i64 g2, .int .i64 g3], .agg #[.slice A0 l0.length c0, .slice A1 l1.length c1], .int .i64 1] (by rfl) rfl rfl (by simp only [List.map_toArray, List.map_cons, List.map_nil]; rfl) ?_
        with_reducible refine (TS.out _ (below_step HB1 hB3)).mono ?_
        rintro e w27 ⟨v27, rfl, hx7, hb⟩
        refine ⟨_, rfl, ?_⟩
        replace hx7 := Kd.R_lower hx7 (below_size hB3)
        replace hx8 := blk_below hx8 hb
        replace hx9 := blk_below hx9 hb
        replace hx3 := Kd.R_below hx3 hb
        have hB4 := below_step hB3 hb
        have hz7 := hb.size
        (try simp only [World.size_alloc, World.size_drew] at hz7)
        refine hK.out _ _ ⟨pw_cell_below hb hHeld.1, pw_cell_below hb hHeld.2.1, pw_cell_below hb hHeld.2.2.1, pw_cell_below hb hHeld.2.2.2.1, pw_cell_below hb hHeld.2.2.2.2.1, pw_cell_below hb hHeld.2.2.2.2.2⟩ (fun hHeld => ?_)
        clear hK K
        refine nS 28 ?_
        exact norm_ (by simp only [putAll, Act.put, List.setIfInBounds_toArray, List.set_cons_zero, List.set_cons_succ]) (hCont (v23, v27, w1.heap.size, w1.heap.size + 1) _ ⟨hx3, hx7, hx8, hx9, by dsimp only; omega, by dsimp only; omega, by dsimp only; omega, hB4⟩)
    · skip
      refine vS ?_
      have hx9 := Boxed.new w1.drew 111 (.slice none 0 0)
      (try rw [World.size_alloc] at hx9)
      have hB1 := below_step HQ0 (below_alloc (Below.refl w1.drew.heap.size w1.drew) (.cells #[.slice none 0 0] 111))
      (try simp only [World.alloc_drew] at hB1)
      refine hK.out _ _ ⟨pw_cell_below (below_alloc (Below.refl w1.drew.heap.size w1.drew) (.cells #[.slice none 0 0] 111)) hHeld.1, pw_cell_below (below_alloc (Below.refl w1.drew.heap.size w1.drew) (.cells #[.slice none 0 0] 111)) hHeld.2.1, pw_cell_below (below_alloc (Below.refl w1.drew.heap.size w1.drew) (.cells #[.slice none 0 0] 111)) hHeld.2.2.1, pw_cell_below (below_alloc (Below.refl w1.drew.heap.size w1.drew) (.cells #[.slice none 0 0] 111)) hHeld.2.2.2.1, pw_cell_below (below_alloc (Below.refl w1.drew.heap.size w1.drew) (.cells #[.slice none 0 0] 111)) hHeld.2.2.2.2.1, pw_cell_below (below_alloc (Below.refl w1.drew.heap.size w1.drew) (.cells #[.slice none 0 0] 111)) hHeld.2.2.2.2.2⟩ (fun hHeld => ?_)
      clear hK K
      refine nS 10 ?_
      refine two_ (i := 3) (j := 8) (Ni := some 24) (Nj := some 9) (bl 12 639) (bl 12 887) rfl rfl rfl rfl (by kernel_rfl) (by decide) (by decide) (fun K hK => ?_) (fun K hK => ?_)
      · skip
        refine goes_ Tryd.func67 (by kernel_rfl) rfl #[.agg #[.int .i64 g0, .int .i64 g1, .int .i64 g2, .int .i64 g3], .agg #[.slice A0 l0.length c0, .slice A1 l1.length c1], .int .i64 2] (by rfl) rfl rfl (by simp only [List.map_toArray, List.map_cons, List.map_nil]; rfl) ?_
        with_reducible refine (TB.out _ (below_step HB1 hB1)).mono ?_
        rintro e w23 ⟨v23, rfl, hx3, hb⟩
        refine ⟨_, rfl, ?_⟩
        replace hx3 := Kd.R_lower hx3 (below_size hB1)
        replace hx9 := blk_below hx9 hb
        have hB2 := below_step hB1 hb
        have hz3 := hb.size
        (try simp only [World.size_alloc, World.size_drew] at hz3)
        refine hK.out _ _ ⟨pw_cell_below hb hHeld.1, pw_cell_below hb hHeld.2.1, pw_cell_below hb hHeld.2.2.1, pw_cell_below hb hHeld.2.2.2.1, pw_cell_below hb hHeld.2.2.2.2.1, pw_cell_below hb hHeld.2.2.2.2.2⟩ (fun hHeld => ?_)
        clear hK K
        refine nS 24 ?_
        refine two_ (i := 7) (j := 8) (Ni := some 28) (Nj := some 9) (bl 12 767) (bl 12 895) rfl rfl rfl rfl (by kernel_rfl) (by decide) (by decide) (fun K hK => ?_) (fun K hK => ?_)
        · skip
          refine goes_ Tryd.func67 (by kernel_rfl) rfl #[.agg #[.int .i64 g0, .int .i64 g1, .int .i64 g2, .int .i64 g3], .agg #[.slice A0 l0.length c0, .slice A1 l1.length c1], .int .i64 1] (by rfl) rfl rfl (by simp only [List.map_toArray, List.map_cons, List.map_nil]; rfl) ?_
          with_reducible refine (TS.out _ (below_step HB1 hB2)).mono ?_
          rintro e w27 ⟨v27, rfl, hx7, hb⟩
          refine ⟨_, rfl, ?_⟩
          replace hx7 := Kd.R_lower hx7 (below_size hB2)
          replace hx9 := blk_below hx9 hb
          replace hx3 := Kd.R_below hx3 hb
          have hB3 := below_step hB2 hb
          have hz7 := hb.size
          (try simp only [World.size_alloc, World.size_drew] at hz7)
          refine hK.out _ _ ⟨pw_cell_below hb hHeld.1, pw_cell_below hb hHeld.2.1, pw_cell_below hb hHeld.2.2.1, pw_cell_below hb hHeld.2.2.2.1, pw_cell_below hb hHeld.2.2.2.2.1, pw_cell_below hb hHeld.2.2.2.2.2⟩ (fun hHeld => ?_)
          clear hK K
          refine nS 28 ?_
          refine one_ (i := 8) (N := some 9) (bl 12 1023) rfl rfl (by kernel_rfl) (by decide) (fun K hK => ?_)
          refine vS ?_
          have hx8 := Boxed.new w27 111 (.slice none 0 0)
          (try rw [World.size_alloc] at hx8)
          replace hx9 := blk_below hx9 (below_alloc (Below.refl w27.heap.size w27) (.cells #[.slice none 0 0] 111))
          replace hx3 := Kd.R_below hx3 (below_alloc (Below.refl w27.heap.size w27) (.cells #[.slice none 0 0] 111))
          replace hx7 := Kd.R_below hx7 (below_alloc (Below.refl w27.heap.size w27) (.cells #[.slice none 0 0] 111))
          have hB4 := below_step hB3 (below_alloc (Below.refl w27.heap.size w27) (.cells #[.slice none 0 0] 111))
          (try simp only [World.alloc_drew] at hB4)
          refine hK.out _ _ ⟨pw_cell_below (below_alloc (Below.refl w27.heap.size w27) (.cells #[.slice none 0 0] 111)) hHeld.1, pw_cell_below (below_alloc (Below.refl w27.heap.size w27) (.cells #[.slice none 0 0] 111)) hHeld.2.1, pw_cell_below (below_alloc (Below.refl w27.heap.size w27) (.cells #[.slice none 0 0] 111)) hHeld.2.2.1, pw_cell_below (below_alloc (Below.refl w27.heap.size w27) (.cells #[.slice none 0 0] 111)) hHeld.2.2.2.1, pw_cell_below (below_alloc (Below.refl w27.heap.size w27) (.cells #[.slice none 0 0] 111)) hHeld.2.2.2.2.1, pw_cell_below (below_alloc (Below.refl w27.heap.size w27) (.cells #[.slice none 0 0] 111)) hHeld.2.2.2.2.2⟩ (fun hHeld => ?_)
          clear hK K
          refine nS 9 ?_
          exact norm_ (by simp only [putAll, Act.put, List.setIfInBounds_toArray, List.set_cons_zero, List.set_cons_succ]) (hCont (v23, v27, w27.heap.size, w1.heap.size) _ ⟨hx3, hx7, hx8, hx9, by dsimp only; omega, by dsimp only; omega, by dsimp only; omega, hB4⟩)
        · skip
          refine vS ?_
          have hx8 := Boxed.new w23 111 (.slice none 0 0)
          (try rw [World.size_alloc] at hx8)
          replace hx9 := blk_below hx9 (below_alloc (Below.refl w23.heap.size w23) (.cells #[.slice none 0 0] 111))
          replace hx3 := Kd.R_below hx3 (below_alloc (Below.refl w23.heap.size w23) (.cells #[.slice none 0 0] 111))
          have hB3 := below_step hB2 (below_alloc (Below.refl w23.heap.size w23) (.cells #[.slice none 0 0] 111))
          (try simp only [World.alloc_drew] at hB3)
          refine hK.out _ _ ⟨pw_cell_below (below_alloc (Below.refl w23.heap.size w23) (.cells #[.slice none 0 0] 111)) hHeld.1, pw_cell_below (below_alloc (Below.refl w23.heap.size w23) (.cells #[.slice none 0 0] 111)) hHeld.2.1, pw_cell_below (below_alloc (Below.refl w23.heap.size w23) (.cells #[.slice none 0 0] 111)) hHeld.2.2.1, pw_cell_below (below_alloc (Below.refl w23.heap.size w23) (.cells #[.slice none 0 0] 111)) hHeld.2.2.2.1, pw_cell_below (below_alloc (Below.refl w23.heap.size w23) (.cells #[.slice none 0 0] 111)) hHeld.2.2.2.2.1, pw_cell_below (below_alloc (Below.refl w23.heap.size w23) (.cells #[.slice none 0 0] 111)) hHeld.2.2.2.2.2⟩ (fun hHeld => ?_)
          clear hK K
          refine nS 9 ?_
          refine one_ (i := 7) (N := some 28) (bl 12 1023) rfl rfl (by kernel_rfl) (by decide) (fun K hK => ?_)
          refine goes_ Tryd.func67 (by kernel_rfl) rfl #[.agg #[.int .i64 g0, .int .i64 g1, .int .i64 g2, .int .i64 g3], .agg #[.slice A0 l0.length c0, .slice A1 l1.length c1], .int .i64 1] (by rfl) rfl rfl (by simp only [List.map_toArray, List.map_cons, List.map_nil]; rfl) ?_
          with_reducible refine (TS.out _ (below_step HB1 hB3)).mono ?_
          rintro e w27 ⟨v27, rfl, hx7, hb⟩
          refine ⟨_, rfl, ?_⟩
          replace hx7 := Kd.R_lower hx7 (below_size hB3)
          replace hx9 := blk_below hx9 hb
          replace hx3 := Kd.R_below hx3 hb
          replace hx8 := blk_below hx8 hb
          have hB4 := below_step hB3 hb
          have hz7 := hb.size
          (try simp only [World.size_alloc, World.size_drew] at hz7)
          refine hK.out _ _ ⟨pw_cell_below hb hHeld.1, pw_cell_below hb hHeld.2.1, pw_cell_below hb hHeld.2.2.1, pw_cell_below hb hHeld.2.2.2.1, pw_cell_below hb hHeld.2.2.2.2.1, pw_cell_below hb hHeld.2.2.2.2.2⟩ (fun hHeld => ?_)
          clear hK K
          refine nS 28 ?_
          exact norm_ (by simp only [putAll, Act.put, List.setIfInBounds_toArray, List.set_cons_zero, List.set_cons_succ]) (hCont (v23, v27, w23.heap.size, w1.heap.size) _ ⟨hx3, hx7, hx8, hx9, by dsimp only; omega, by dsimp only; omega, by dsimp only; omega, hB4⟩)
      · skip
        refine vS ?_
        have hx8 := Boxed.new (w1.drew.alloc (.cells #[.slice none 0 0] 111)) 111 (.slice none 0 0)
        (try rw [World.size_alloc] at hx8)
        replace hx9 := blk_below hx9 (below_alloc (Below.refl (w1.drew.alloc (.cells #[.slice none 0 0] 111)).heap.size (w1.drew.alloc (.cells #[.slice none 0 0] 111))) (.cells #[.slice none 0 0] 111))
        have hB2 := below_step hB1 (below_alloc (Below.refl (w1.drew.alloc (.cells #[.slice none 0 0] 111)).heap.size (w1.drew.alloc (.cells #[.slice none 0 0] 111))) (.cells #[.slice none 0 0] 111))
        (try simp only [World.alloc_drew] at hB2)
        refine hK.out _ _ ⟨pw_cell_below (below_alloc (Below.refl (w1.drew.alloc (.cells #[.slice none 0 0] 111)).heap.size (w1.drew.alloc (.cells #[.slice none 0 0] 111))) (.cells #[.slice none 0 0] 111)) hHeld.1, pw_cell_below (below_alloc (Below.refl (w1.drew.alloc (.cells #[.slice none 0 0] 111)).heap.size (w1.drew.alloc (.cells #[.slice none 0 0] 111))) (.cells #[.slice none 0 0] 111)) hHeld.2.1, pw_cell_below (below_alloc (Below.refl (w1.drew.alloc (.cells #[.slice none 0 0] 111)).heap.size (w1.drew.alloc (.cells #[.slice none 0 0] 111))) (.cells #[.slice none 0 0] 111)) hHeld.2.2.1, pw_cell_below (below_alloc (Below.refl (w1.drew.alloc (.cells #[.slice none 0 0] 111)).heap.size (w1.drew.alloc (.cells #[.slice none 0 0] 111))) (.cells #[.slice none 0 0] 111)) hHeld.2.2.2.1, pw_cell_below (below_alloc (Below.refl (w1.drew.alloc (.cells #[.slice none 0 0] 111)).heap.size (w1.drew.alloc (.cells #[.slice none 0 0] 111))) (.cells #[.slice none 0 0] 111)) hHeld.2.2.2.2.1, pw_cell_below (below_alloc (Below.refl (w1.drew.alloc (.cells #[.slice none 0 0] 111)).heap.size (w1.drew.alloc (.cells #[.slice none 0 0] 111))) (.cells #[.slice none 0 0] 111)) hHeld.2.2.2.2.2⟩ (fun hHeld => ?_)
        clear hK K
        refine nS 9 ?_
        refine one_ (i := 3) (N := some 24) (bl 12 895) rfl rfl (by kernel_rfl) (by decide) (fun K hK => ?_)
        refine goes_ Tryd.func67 (by kernel_rfl) rfl #[.agg #[.int .i64 g0, .int .i64 g1, .int .i64 g2, .int .i64 g3], .agg #[.slice A0 l0.length c0, .slice A1 l1.length c1], .int .i64 2] (by rfl) rfl rfl (by simp only [List.map_toArray, List.map_cons, List.map_nil]; rfl) ?_
        with_reducible refine (TB.out _ (below_step HB1 hB2)).mono ?_
        rintro e w23 ⟨v23, rfl, hx3, hb⟩
        refine ⟨_, rfl, ?_⟩
        replace hx3 := Kd.R_lower hx3 (below_size hB2)
        replace hx9 := blk_below hx9 hb
        replace hx8 := blk_below hx8 hb
        have hB3 := below_step hB2 hb
        have hz3 := hb.size
        (try simp only [World.size_alloc, World.size_drew] at hz3)
        refine hK.out _ _ ⟨pw_cell_below hb hHeld.1, pw_cell_below hb hHeld.2.1, pw_cell_below hb hHeld.2.2.1, pw_cell_below hb hHeld.2.2.2.1, pw_cell_below hb hHeld.2.2.2.2.1, pw_cell_below hb hHeld.2.2.2.2.2⟩ (fun hHeld => ?_)
        clear hK K
        refine nS 24 ?_
        refine one_ (i := 7) (N := some 28) (bl 12 1023) rfl rfl (by kernel_rfl) (by decide) (fun K hK => ?_)
        refine goes_ Tryd.func67 (by kernel_rfl) rfl #[.agg #[.int .i64 g0, .int .i64 g1, .int .i64 g2, .int .i64 g3], .agg #[.slice A0 l0.length c0, .slice A1 l1.length c1], .int .i64 1] (by rfl) rfl rfl (by simp only [List.map_toArray, List.map_cons, List.map_nil]; rfl) ?_
        with_reducible refine (TS.out _ (below_step HB1 hB3)).mono ?_
        rintro e w27 ⟨v27, rfl, hx7, hb⟩
        refine ⟨_, rfl, ?_⟩
        replace hx7 := Kd.R_lower hx7 (below_size hB3)
        replace hx9 := blk_below hx9 hb
        replace hx8 := blk_below hx8 hb
        replace hx3 := Kd.R_below hx3 hb
        have hB4 := below_step hB3 hb
        have hz7 := hb.size
        (try simp only [World.size_alloc, World.size_drew] at hz7)
        refine hK.out _ _ ⟨pw_cell_below hb hHeld.1, pw_cell_below hb hHeld.2.1, pw_cell_below hb hHeld.2.2.1, pw_cell_below hb hHeld.2.2.2.1, pw_cell_below hb hHeld.2.2.2.2.1, pw_cell_below hb hHeld.2.2.2.2.2⟩ (fun hHeld => ?_)
        clear hK K
        refine nS 28 ?_
        exact norm_ (by simp only [putAll, Act.put, List.setIfInBounds_toArray, List.set_cons_zero, List.set_cons_succ]) (hCont (v23, v27, w1.heap.size + 1, w1.heap.size) _ ⟨hx3, hx7, hx8, hx9, by dsimp only; omega, by dsimp only; omega, by dsimp only; omega, hB4⟩)
  rintro ⟨v23, v27, b9, b10⟩ w9 ⟨z1, z2, z3, z4, z5, z8, z9, z6⟩
  dsimp only at z1 z2 z3 z4 z5 z8 z9
  obtain ⟨A2, c2, rfl, hl2, _⟩ := Kd.R_reads z1
  obtain ⟨A3, c3, rfl, hl3, _⟩ := Kd.R_reads z2
  have hf9 := z3.frozen
  have hc9 := z3.cell
  have z4b : Boxed (w9.setCell ⟨b9, 0, none⟩ (.slice A2 t.length c2)) b10 111 (.slice none 0 0) := z4.kept (grownBy_setCell' _ _ _) (by simpa using z5.symm)
  have hf10 := z4b.frozen
  have hc10 := z4b.cell
  refine norm_ (a' := ?_) ?_ ?_
  rotate_left
  · simp only [putAll, Act.put, List.setIfInBounds_toArray, List.set_cons_zero, List.set_cons_succ]
    rfl
  refine last_ (i := 10) (N := none) (bl 12 2047) rfl rfl (by kernel_rfl) (by decide) (fun K hK => ?_)
  refine sS ?_
  refine hK.out _ _ ?_
  clear hK K
  refine last_ (i := 11) (N := none) (bl 12 4095) rfl rfl (by kernel_rfl) (by decide) (fun K hK => ?_)
  refine sS ?_
  refine hK.out _ _ ?_
  clear hK K
  refine done_ (by kernel_rfl) ?_
  have hn5 := J4.out.lt
  obtain ⟨W4, e4, g9, g10⟩ : ∃ W4, W4 = (w9.setCell ⟨b9, 0, none⟩ (.slice A2 t.length c2)).setCell ⟨b10, 0, none⟩ (.slice A3 su.length c3) ∧ Boxed W4 b9 111 (.slice A2 t.length c2) ∧ Boxed W4 b10 111 (.slice A3 su.length c3) :=
    ⟨_, rfl, (z3.set _).kept (grownBy_setCell' _ _ _) (by simpa using z5), z4b.set _⟩
  have hB4 : Below w1.heap.size w1 W4 := e4 ▸ (z6.setCell (p := ⟨b9, 0, none⟩) z8 _).setCell (p := ⟨b10, 0, none⟩) z9 _
  have far4 : ∀ k o, W4 = W4 → k ≠ b9 → k ≠ b10 → w9.heap[k]? = some o → W4.heap[k]? = some o := fun k o _ h9 h10 h => by rw [e4]; exact (Below.heap_setCell _ _ _ k h10).trans ((Below.heap_setCell _ _ _ k h9).trans h)
  have KS4 := Aside0.mk (blk_below KS1.out hB4)
  have HI4 : LInv w (w.heap.size + 1 + 1) b9 b10 (.slice A2 t.length c2) (.slice A3 su.length c3) t su false 0 0 W4 := ⟨below_step HB1 hB4, blk_below J2.out hB4, blk_below J3.out hB4, blk_below J4.out hB4, g9, g10,
    ((TRow.of_R2 z1).step (fun k o hk ho _ => far4 k o rfl (fun e => Kd.R_ne z1 z3 (by decide) (e ▸ hk.1.symm)) (fun e => Kd.R_ne z1 z4 (by decide) (e ▸ hk.1.symm)) ho)).mono (fun k hk _ => by have := hk.2; omega),
    ((TRow.of_R2 z2).step (fun k o hk ho _ => far4 k o rfl (fun e => Kd.R_ne z2 z3 (by decide) (e ▸ hk.1.symm)) (fun e => Kd.R_ne z2 z4 (by decide) (e ▸ hk.1.symm)) ho)).mono (fun k hk _ => by have := hk.2; omega)⟩
  rw [← e4]
  clear hs0 hs1 hg0 hg1 hg2 hg3 hHeld z1 z2 z3 z4 z4b z5 z6 z8 z9 hf9 hc9 hf10 hc10 KS1 KG1 J2 J3 J4 HQ0 hB4 far4 g9 g10 e4 TB TS
  have hs0 : W4.cell? ⟨w.heap.size, 0, none⟩ = some (.slice A0 l0.length c0) := (blk_cell KS4.out 0).trans rfl
  have hs1 : W4.cell? ⟨w.heap.size, 1, none⟩ = some (.slice A1 l1.length c1) := (blk_cell KS4.out 1).trans rfl
  go_wp2_with (go_at_call 85; refine (guard_places.calls A0 A1 l0.length c0 l1.length c1 _).mono ?_; rintro e w1 ⟨rfl, hw1⟩; rw [hw1]; clear hw1)
  obtain ⟨n, hn⟩ : ∃ n, w.heap.size + 1 + 1 = n := ⟨_, rfl⟩
  have hB4 := HI4.1
  rw [hn] at HI4 hn5
  have hwn : w.heap.size < n := by omega
  have hsz := hB4.size
  have h4n : n + 1 + 1 < W4.heap.size := HI4.2.2.2.1.lt
  simp only [hn]
  refine (wpIn_wide (n := 3)).1 ?_
  refine range_out (xs := placesL l0.length l1.length) rfl (enters_of Tryd.func104 (by kernel_rfl) rfl) (places_seq A0 A1 l0.length c0 l1.length c1 W4.heap.size (fun k => k = n ∨ k = n + 1 ∨ k = n + 1 + 1) _ LN.out.1 LN.out.2 (blk_new _ _) (fun k hk => by simp only [World.size_alloc]; omega)) (fun _ => rfl) (fun h k => h.trans k)
    (fun W l' q1 q2 hl' h => KeepC.put h) (fun A A' h => keepsFrom_below h)
    (LookI w n b9 b10 (.slice A2 t.length c2) (.slice A3 su.length c3) t su)
    (fun _ _ _ => False) ?hI (fun _ _ _ _ _ h _ _ => h) ?hIs (fun _ _ _ _ h _ => h) ?h0 (fun x a' W => ∃ b, a' = { tmps := #[.agg #[.slice A0 l0.length c0, .slice A1 l1.length c1], .agg #[.int .i64 g0, .int .i64 g1, .int .i64 g2, .int .i64 g3], .pointer (some ⟨w.heap.size, 0, none⟩), .pointer (some ⟨w.heap.size + 1, 0, none⟩), .pointer (some ⟨n, 0, none⟩), .pointer (some ⟨n + 1, 0, none⟩), .pointer (some ⟨n + 1 + 1, 0, none⟩), .int .i64 0, .int .i64 0, .pointer (some ⟨b9, 0, none⟩), .pointer (some ⟨b10, 0, none⟩), .pointer (some ⟨b, 0, none⟩), undef, undef, undef, .agg #[.slice A0 l0.length c0, .slice A1 l1.length c1], .agg #[.int .i64 g0, .int .i64 g1, .int .i64 g2, .int .i64 g3], .int .i64 0, .int .i64 0, .bool false, undef, .agg #[.int .i64 g0, .int .i64 g1, .int .i64 g2, .int .i64 g3], .agg #[.int .i64 g0, .int .i64 g1, .int .i64 g2, .int .i64 g3], .agg #[.slice A0 l0.length c0, .slice A1 l1.length c1], .slice A2 t.length c2, .agg #[.int .i64 g0, .int .i64 g1, .int .i64 g2, .int .i64 g3], .agg #[.int .i64 g0, .int .i64 g1, .int .i64 g2, .int .i64 g3], .agg #[.slice A0 l0.length c0, .slice A1 l1.length c1], .slice A3 su.length c3, .agg #[.slice A0 l0.length c0, .slice A1 l1.length c1], .func (.func 104) #[] #[.pointer (some ⟨W4.heap.size, 0, none⟩)], .agg #[.bool x.1, .int .i64 x.2], undef, undef, undef, undef, undef, undef, undef, undef, undef, undef, undef, undef, undef, undef, undef, undef, undef, undef, undef, undef, undef, undef, undef, undef, undef, undef, undef, undef, undef, undef, undef, undef, undef, undef, undef, undef, undef, undef, undef, undef, undef, undef, undef, undef, undef, undef, undef, undef, undef, undef, undef, undef, undef, undef, undef], defers := [] } ∧ W.heap[b]? = some (.cells #[.bool x.1, .int .i64 x.2] 133)) ?hAx ?assign ?body ?done (fun _ _ _ _ _ _ h => h.elim)
  case hI =>
    rintro s W W' row ⟨r, nn, g, z1, z2⟩ hg hrow
    exact ⟨r, nn, g, z1, z2.grown hg (fun q e => ⟨by have h1 := (hrow q e).1; simp only [World.size_alloc] at h1; omega, (hrow q e).2⟩)⟩
  case hIs =>
    rintro s A A' ⟨r, nn, g, z1, z2⟩ h
    exact ⟨r, nn, g, z1, z2.below h⟩
  case h0 => exact ⟨false, 0, 0, fun _ => rfl, HI4.below (below_alloc (Below.refl _ _) _)⟩
  case hAx =>
    rintro x a' s W W' row ⟨b, e, h⟩ hg hrow
    exact ⟨b, e, blk_grown h hg (fun e' => by obtain ⟨o, ho, hc⟩ := (hrow b e'.symm).2; rw [h] at ho; cases ho; cases hc)⟩
  case assign =>
    rintro m l' pre rr W K ⟨r, nn, g, z1, z2⟩ hpre hK
    gi_wp2
    exact hK _ _ (keepsFrom_below (below_alloc (Below.refl _ _) _)) (KeepC.below (below_alloc (Below.refl _ _) _)) ⟨r, nn, g, z1, z2.below (below_alloc (Below.refl _ _) _)⟩ ⟨_, rfl, blk_new _ _⟩
  case done =>
    rintro D W hD ⟨r, nn, g, z1, z2⟩ hDm
    have hg := HG.out
    have z3 := z1 []
    rw [List.append_nil, hg] at z3
    obtain ⟨rfl, rfl, rfl⟩ : r1 = r ∧ r2 = nn ∧ r3 = g := by simpa [lookG] using z3
    have hWB := z2.1
    have hTri : Tri W n r1 r2 r3 := ⟨z2.2.1, z2.2.2.1, z2.2.2.2.1⟩
    have hc4 := hTri.2.2.cell
    have hf2 := hTri.1.frozen
    have hf3 := hTri.2.1.frozen
    have hf4 := hTri.2.2.frozen
    have hD2 : n + 1 + 1 < D := by simp only [World.size_alloc] at hD; omega
    clear HG hg z1 z3 HI4
    have ho := HO.out
    clear HO
    rcases ho with ⟨h0, rfl, rfl, rfl, rfl⟩ | ⟨h0, e1, e2, e3, e4⟩
    · subst h0
      have hc2 := hTri.1.cell
      have hc3 := hTri.2.1.cell
      go_wp2
      obtain ⟨W5, e5, q2, q3, q4⟩ := three_set hTri.1 hTri.2.1 hTri.2.2 (.bool false) (.int .i64 0) (.int .i64 0)
      rw [← e5]
      refine look_leaves (ev := 7) (by omega) ⟨q2, q3, q4⟩ ?_ ?_ rfl rfl rfl rfl
      · exact e5 ▸ ((hWB.setCell (p := ⟨n, 0, none⟩) (by simp; omega) _).setCell (p := ⟨n + 1, 0, none⟩) (by simp; omega) _).setCell (p := ⟨n + 1 + 1, 0, none⟩) (by simp; omega) _
      · rw [e5]
        exact (Below.heap_setCell _ _ _ D (by simp; omega)).trans ((Below.heap_setCell _ _ _ D (by simp; omega)).trans ((Below.heap_setCell _ _ _ D (by simp; omega)).trans hDm))
    · subst e1 e2 e3 e4
      have h0b : (o3 == 0) = false := beq_eq_false_iff_ne.mpr h0
      clear h0
      go_wp2_with (fail)
      have hc2 : W.drew.cell? ⟨n, 0, none⟩ = some (.bool o1) := hTri.1.cell
      have hc3 : W.drew.cell? ⟨n + 1, 0, none⟩ = some (.int .i64 o2) := hTri.2.1.cell
      have hc4d : W.drew.cell? ⟨n + 1 + 1, 0, none⟩ = some (.int .i64 o3) := hTri.2.2.cell
      refine start_ (n := 7) (S := fun w' => w'.cell? ⟨n, 0, none⟩ = some (.bool o1) ∧ w'.cell? ⟨n + 1, 0, none⟩ = some (.int .i64 o2) ∧ w'.cell? ⟨n + 1 + 1, 0, none⟩ = some (.int .i64 o3)) (ds := []) (bl 7 0) (by kernel_rfl) rfl rfl ⟨hc2, hc3, hc4d⟩ (fun hHeld => ?_)
      refine tS 0 84 (bl 7 1) hHeld ?_
      refine tS 1 85 (bl 7 3) hHeld ?_
      refine tS 2 86 (bl 7 7) hHeld ?_
      refine one_ (i := 3) (N := none) (bl 7 15) rfl rfl (by kernel_rfl) (by decide) (fun K hK => ?_)
      refine sS ?_
      have hT1 := hTri.set0 o1
      refine hK.out _ _ ⟨hT1.1.cell, hT1.2.1.cell, hT1.2.2.cell⟩ (fun hHeld => ?_)
      clear hK K
      refine one_ (i := 4) (N := none) (bl 7 31) rfl rfl (by kernel_rfl) (by decide) (fun K hK => ?_)
      refine sS ?_
      have hT2 := hT1.set1 o2
      refine hK.out _ _ ⟨hT2.1.cell, hT2.2.1.cell, hT2.2.2.cell⟩ (fun hHeld => ?_)
      clear hK K
      refine one_ (i := 5) (N := none) (bl 7 63) rfl rfl (by kernel_rfl) (by decide) (fun K hK => ?_)
      refine sS ?_
      have hT3 := hT2.set2 o3
      refine hK.out _ _ ⟨hT3.1.cell, hT3.2.1.cell, hT3.2.2.cell⟩ (fun hHeld => ?_)
      clear hK K
      refine pS 6 7 (bl 7 127) ?_
      refine done_ (by kernel_rfl) ?_
      go_wp2
      refine look_leaves (ev := 0) (by omega) hT3 ?_ ?_ rfl rfl rfl rfl
      · exact (((hWB.setCell (p := ⟨n, 0, none⟩) (by simp; omega) _).setCell (p := ⟨n + 1, 0, none⟩) (by simp; omega) _).setCell (p := ⟨n + 1 + 1, 0, none⟩) (by simp; omega) _).drew
      · exact (Below.heap_setCell _ _ _ D (by simp; omega)).trans ((Below.heap_setCell _ _ _ D (by simp; omega)).trans ((Below.heap_setCell _ _ _ D (by simp; omega)).trans hDm))
  case body =>
    rintro m l' pre x a' W hl' hr' ⟨r, nn, g, z1, z2⟩ ⟨b, rfl, hb⟩ hpre
    obtain ⟨suf, hsuf⟩ := hpre
    have hg := HG.out
    rw [← hsuf, List.append_assoc, z1, List.singleton_append] at hg
    unfold lookG at hg
    obtain ⟨m1, hm1, hg⟩ := Option.bind_eq_some_iff.mp hg
    obtain ⟨m2, hm2, hg⟩ := Option.bind_eq_some_iff.mp hg
    have Z1 := Aside0.mk z1
    have Z2 := Aside0.mk z2
    have KB := Aside0.mk hb
    have HS := Aside0.mk hsuf
    have M1 := Aside0.mk hm1
    have M2 := Aside0.mk hm2
    have HN := Aside0.mk hg
    clear z1 z2 hb hsuf hm1 hm2 hg HI4 hs0 hs1
    have hc9 : W.cell? ⟨b9, 0, none⟩ = some (.slice A2 t.length c2) := Z2.out.2.2.2.2.1.cell
    obtain ⟨A2', c2', e2, htc2, hC2⟩ := Z2.out.2.2.2.2.2.2.1.read
    cases e2
    have CL := Aside0.mk (CallsIn.inRound l' (callsIn_wide (n := m - 1).2 (guard_table_uint.calls A2 c2 t t W hC2 htc2 (by have := H64.out; simp [guard_table_uint.f]; omega))))
    gi_wp2_with (refine ⟨trivial, fun h => by simp [Fence.wide] at h, ?_⟩; gi_at_call 86; refine CL.out.mono ?_; rintro e w3 ⟨v12, rfl, ho3, hb3⟩; obtain ⟨A4, c4, rfl, hl4, _⟩ := Kd.R_reads ho3)
    have HO3 := Aside0.mk (show Kd.R (Kd.int .u64) 116 w3 W.heap.size (fun _ => True) (.slice A4 t.length c4) (moreP t su x 0) from by simpa [moreP] using ho3)
    have HB3 := Aside0.mk hb3
    clear ho3 hb3 hc9 CL hl4
    gi_loopg [36] t.length (fun kq v36 wr => ∃ j : Nat, v36 = .int .i64 (j : Int) ∧ Aside0 (j + kq = t.length) ∧ Aside0 (Kd.R (Kd.int .u64) 116 wr W.heap.size (fun _ => True) (.slice A4 t.length c4) (moreP t su x j)) ∧ Aside0 (Below W.heap.size W wr))
    case atStart => exact ⟨0, rfl, ⟨by omega⟩, HO3, HB3⟩
    case round =>
      clear HO3 HB3
      obtain ⟨j, rfl, HJ, HO, HB⟩ := hrel
      cases gk with
      | zero =>
        obtain rfl : j = t.length := by have := HJ.out; omega
        have hje : decide (t.length < t.length) = false := by simp
        have hlm := moreL_len t su x
        have hRm : Kd.R (Kd.int .u64) 116 wr W.heap.size (fun _ => True) (.slice A4 t.length c4) (moreL t su x) := moreP_done t su x ▸ HO.out
        obtain ⟨A4', c4', e4, hl4, hC4⟩ := Kd.R_reads hRm
        injection e4 with e41 e42 e43
        subst e41
        subst e43
        rw [hlm] at hl4 hC4
        have Z3 := Z2.out.below HB.out
        obtain ⟨A2', c2', e2, htc2, hC2⟩ := Z3.2.2.2.2.2.2.1.read
        cases e2
        have hTW := HT.out.go Z3.1
        have MR := Aside0.mk (fun W6 (hb : Below wr.heap.size wr W6) => (hlm ▸ guard_table_most.calls A4 c4 (moreL t su x) m1 W6 (hlm.symm ▸ Kd.C_below hC4 hb) (by rw [hlm]; exact hl4) (hTW.go hb) M1.out : Calls Tryd.prog 69 #[.slice A4 t.length c4] W6 _))
        have MT := Aside0.mk (fun W6 (hb : Below wr.heap.size wr W6) => guard_table_most.calls A2 c2 t m2 W6 (Kd.C_below hC2 hb) htc2 (hTW.go hb) M2.out)
        have hb9 : wr.drew.cell? ⟨b9, 0, none⟩ = some (.slice A2 t.length c2) := Z3.2.2.2.2.1.cell
        have hq0 : Below wr.heap.size wr wr.drew := below_drew (Below.refl _ _)
        have ZA := Aside0.mk Z3
        clear hRm hl4 hC4 hC2 hTW Z3 e42 hlm
        gi_wp2_with (fail)
        refine cutIn0 ?_
        refine startIn_ (n' := 6) (S := fun w' => w'.cell? ⟨b9, 0, none⟩ = some (.slice A2 t.length c2)) (ds := []) (bl 6 0) (by kernel_rfl) rfl rfl (by kernel_rfl) (onlyThen_lets _) (hb9) (fun hHeld => ?_)
        refine pS 0 69 (bl 6 1) ?_
        refine tS 2 71 (bl 6 5) hHeld ?_
        refine one_ (i := 1) (N := some 70) (bl 6 7) rfl rfl (by kernel_rfl) (by decide) (fun K hK => ?_)
        refine goes_ Tryd.func69 (by kernel_rfl) rfl #[.slice A4 t.length c4] (by rfl) rfl rfl (by simp only [List.map_toArray, List.map_cons, List.map_nil]; rfl) ?_
        with_reducible refine (MR.out _ hq0).mono ?_
        rintro e w5 ⟨rfl, hb5⟩
        refine ⟨_, rfl, ?_⟩
        have hq5 := below_step hq0 hb5
        refine hK.out _ _ (pw_cell_below hb5 hHeld) (fun hHeld => ?_)
        clear hK K
        refine nS 70 ?_
        refine one_ (i := 3) (N := some 72) (bl 6 15) rfl rfl (by kernel_rfl) (by decide) (fun K hK => ?_)
        refine goes_ Tryd.func69 (by kernel_rfl) rfl #[.slice A2 t.length c2] (by rfl) rfl rfl (by simp only [List.map_toArray, List.map_cons, List.map_nil]; rfl) ?_
        with_reducible refine (MT.out _ hq5).mono ?_
        rintro e w6 ⟨rfl, hb6⟩
        refine ⟨_, rfl, ?_⟩
        have hq6 := below_step hq5 hb6
        refine hK.out _ _ (pw_cell_below hb6 hHeld) (fun hHeld => ?_)
        clear hK K
        refine nS 72 ?_
        refine pS 4 73 (bl 6 31) ?_
        refine pS 5 14 (bl 6 63) ?_
        refine done_ (by kernel_rfl) ?_
        refine onlyThen_go ?_
        have hbW := below_step HB.out hq6
        have ZB := ZA.out.below hq6
        have hTri : Tri w6 n r nn g := ⟨ZB.2.1, ZB.2.2.1, ZB.2.2.2.1⟩
        have hg4 := hTri.2.2.cell
        have hst := lookG_step Z1.out M1.out M2.out
        obtain ⟨d, hd⟩ : ∃ d, wrap64 (m1 - m2) = d := ⟨_, rfl⟩
        rw [hd] at hst ⊢
        have HST := Aside0.mk hst
        have hKC : KeepC (fun k => k = n ∨ k = n + 1 ∨ k = n + 1 + 1) W w6 := KeepC.below hbW
        clear hst hd hb9 hHeld hq0 hq5 hb5 hb6 MR MT ZA
        by_cases hgt : d > g
        · have hgb : decide (g < d) = true := decide_eq_true hgt
          have HGT := Aside0.mk hgt
          have hp0 : w6.drew.cell? ⟨b, 0, none⟩ = some (.bool x.1) := (blk_cell (blk_below KB.out hbW) 0).trans rfl
          have hp1 : w6.drew.cell? ⟨b, 1, none⟩ = some (.int .i64 x.2) := (blk_cell (blk_below KB.out hbW) 1).trans rfl
          have hc2 : w6.cell? ⟨n, 0, none⟩ = some (.bool r) := hTri.1.cell
          have hc3 : w6.cell? ⟨n + 1, 0, none⟩ = some (.int .i64 nn) := hTri.2.1.cell
          have hf2 := hTri.1.frozen
          have hf3 := hTri.2.1.frozen
          have hf4 := hTri.2.2.frozen
          have hnb : n ≠ b ∧ n + 1 ≠ b ∧ n + 1 + 1 ≠ b := ⟨fun e => by have h1 := Z2.out.2.1; rw [e] at h1; exact absurd (h1.symm.trans KB.out) (by simp), fun e => by have h1 := Z2.out.2.2.1; rw [e] at h1; exact absurd (h1.symm.trans KB.out) (by simp), fun e => by have h1 := Z2.out.2.2.2.1; rw [e] at h1; exact absurd (h1.symm.trans KB.out) (by simp)⟩
          clear hgt
          gi_wp2_with (fail)
          refine cutIn0 ?_
          refine startIn_ (n' := 8) (S := fun w' => w'.cell? ⟨b, 0, none⟩ = some (.bool x.1) ∧ w'.cell? ⟨b, 1, none⟩ = some (.int .i64 (x.2 : Int))) (ds := []) (bl 8 0) (by kernel_rfl) rfl rfl (by kernel_rfl) (onlyThen_lets _) ⟨hp0, hp1⟩ (fun hHeld => ?_)
          refine pS 0 77 (bl 8 1) ?_
          refine pS 2 79 (bl 8 5) ?_
          refine pS 4 81 (bl 8 21) ?_
          refine tS 1 78 (bl 8 23) hHeld ?_
          refine tS 3 80 (bl 8 31) hHeld ?_
          refine one_ (i := 5) (N := none) (bl 8 63) rfl rfl (by kernel_rfl) (by decide) (fun K hK => ?_)
          refine sS ?_
          have hT1 := hTri.set0 x.1
          refine hK.out _ _ ⟨(World.cell?_of_block (a := ⟨b, 0, none⟩) (Below.heap_setCell _ _ _ b (by simpa using hnb.1.symm))).trans hHeld.1, (World.cell?_of_block (a := ⟨b, 1, none⟩) (Below.heap_setCell _ _ _ b (by simpa using hnb.1.symm))).trans hHeld.2⟩ (fun hHeld => ?_)
          clear hK K
          refine one_ (i := 6) (N := none) (bl 8 127) rfl rfl (by kernel_rfl) (by decide) (fun K hK => ?_)
          refine sS ?_
          have hT2 := hT1.set1 x.2
          refine hK.out _ _ ⟨(World.cell?_of_block (a := ⟨b, 0, none⟩) (Below.heap_setCell _ _ _ b (by simpa using hnb.2.1.symm))).trans hHeld.1, (World.cell?_of_block (a := ⟨b, 1, none⟩) (Below.heap_setCell _ _ _ b (by simpa using hnb.2.1.symm))).trans hHeld.2⟩ (fun hHeld => ?_)
          clear hK K
          refine one_ (i := 7) (N := none) (bl 8 255) rfl rfl (by kernel_rfl) (by decide) (fun K hK => ?_)
          refine sS ?_
          have hT3 := hT2.set2 d
          refine hK.out _ _ ⟨(World.cell?_of_block (a := ⟨b, 0, none⟩) (Below.heap_setCell _ _ _ b (by simpa using hnb.2.2.symm))).trans hHeld.1, (World.cell?_of_block (a := ⟨b, 1, none⟩) (Below.heap_setCell _ _ _ b (by simpa using hnb.2.2.symm))).trans hHeld.2⟩ (fun hHeld => ?_)
          clear hK K
          refine done_ (by kernel_rfl) ?_
          refine onlyThen_go ?_
          gi_wp2
          refine ⟨?_, ?_, x.1, x.2, d, fun rest => ?_, ZB.put3 (by omega) x.1 x.2 d⟩
          · exact ((keepsFrom_below hbW).trans ((((KeepsOthers.setCell _ _ _).trans (KeepsOthers.setCell _ _ _)).trans (KeepsOthers.setCell _ _ _)).from _)).trans (keepsFrom_below (below_drew (Below.refl _ _)))
          · exact hKC.trans (fun k o ho _ hk => (Below.heap_setCell _ _ _ k (fun e => hk (.inr (.inr e)))).trans ((Below.heap_setCell _ _ _ k (fun e => hk (.inr (.inl e)))).trans ((Below.heap_setCell _ _ _ k (fun e => hk (.inl e))).trans ho)))
          · rw [HST.out, if_pos HGT.out]
        · have hgb : decide (g < d) = false := decide_eq_false hgt
          have HGT := Aside0.mk hgt
          clear hgt
          gi_wp2_with (fail)
          refine ⟨keepsFrom_below hbW, hKC, r, nn, g, fun rest => ?_, ZB⟩
          rw [HST.out, if_neg (by have := HGT.out; omega)]
      | succ k1 =>
        have hjl : j < t.length := by have := HJ.out; omega
        have hje : decide (j < t.length) = true := decide_eq_true hjl
        have hwj := Aside0.mk (show wrap64 ((j : Int) + 1) = (j : Int) + 1 from by have := H64.out; rw [← i64_w, IntKind.wrap_i64]; omega)
        have hmp := moreP_len t su x j (by omega)
        obtain ⟨gm, cm, eM, hgm, _⟩ := Kd.R_form HO.out (by omega)
        injection eM with eM1 eM2 eM3
        subst eM1
        subst eM3
        obtain ⟨hq0, hqf⟩ := Kd.R_celln 0 HO.out (j : Int) (by omega) (by omega)
        rw [show rdOf 0 (moreP t su x j) (j : Int) = rd (moreP t su x j) (j : Int) from rfl, moreP_at t su x j hjl] at hq0
        simp only [Int.toNat_natCast] at hq0 hqf
        have HPU := Kd.R_putg HO.out (j : Int) (lookX t su x j)
        simp only [Int.toNat_natCast] at HPU
        rw [moreP_set t su x j hjl] at HPU
        have HR5 := Aside0.mk HPU.1
        have HG5 := Aside0.mk HPU.2
        have Z3 := Z2.out.below HB.out
        have KB3 := blk_below KB.out HB.out
        have hb0 : wr.cell? ⟨b, 0, none⟩ = some (.bool x.1) := (blk_cell KB3 0).trans rfl
        have hb1 : wr.cell? ⟨b, 1, none⟩ = some (.int .i64 x.2) := (blk_cell KB3 1).trans rfl
        have hc10 : wr.cell? ⟨b10, 0, none⟩ = some (.slice A3 su.length c3) := Z3.2.2.2.2.2.1.cell
        obtain ⟨A3', c3', e3, htc3, hC3⟩ := Z3.2.2.2.2.2.2.2.read
        cases e3
        obtain ⟨ad3, e3, hsu⟩ := Kd.at_int hC3 (j : Int) (by omega) (by have := HLS.out; omega)
        cases e3
        simp only [Int.toNat_natCast] at hsu
        have hsl : j < su.length := by have := HLS.out; omega
        have hslb : decide (j < su.length) = true := decide_eq_true hsl
        have HGM := Aside0.mk hgm
        clear HPU hmp Z3 KB3 eM2 hgm
        obtain ⟨xr, xn⟩ := x
        dsimp only at hb0 hb1
        cases xr with
        | true =>
          have HR6 := Aside0.mk (lookX_true t su xn j ▸ HR5.out)
          gi_wp2_with (fail)
          refine cutIn0 ?_
          refine startIn_ (n' := 15) (S := fun w' => w'.cell? ⟨gm, j, none⟩ = some (.int .u64 (rd t j)) ∧ w'.cell? ⟨b10, 0, none⟩ = some (.slice (some ad3) su.length c3) ∧ w'.cell? (ad3.add j) = some (.int .u64 (rd su j)) ∧ w'.cell? ⟨b, 1, none⟩ = some (.int .i64 (xn : Int))) (ds := [14]) (bl 15 0) (by kernel_rfl) rfl rfl (by kernel_rfl) (onlyThen_lets _) ⟨hq0, hc10, hsu, hb1⟩ (fun hHeld => ?_)
          refine pS 0 42 (bl 15 1) ?_
          refine pS 1 43 (bl 15 3) ?_
          refine pS 2 44 (bl 15 7) ?_
          refine pS 5 47 (bl 15 39) ?_
          refine pS 8 50 (bl 15 295) ?_
          refine tS 3 45 (bl 15 303) hHeld ?_
          refine tS 4 46 (bl 15 319) hHeld ?_
          refine pS 6 48 (bl 15 383) ?_
          refine tS 7 49 (bl 15 511) hHeld ?_
          refine tS 9 51 (bl 15 1023) hHeld ?_
          refine pS 10 52 (bl 15 2047) ?_
          refine pS 11 53 (bl 15 4095) ?_
          refine pS 12 54 (bl 15 8191) ?_
          refine pS 13 55 (bl 15 16383) ?_
          refine last_ (i := 14) (N := none) (bl 15 32767) rfl rfl (by kernel_rfl) (by decide) (fun K hK => ?_)
          refine sS ?_
          refine hK.out _ _ ?_
          clear hK K
          refine done_ (by kernel_rfl) ?_
          refine onlyThen_go ?_
          gi_wp2
          gi_roundg k1
          case measure => omega
          case rel => exact ⟨j + 1, (by first | rfl | (simp [hwj.out]; done)), ⟨by have := HJ.out; omega⟩, ⟨Kd.R_drew HR6.out⟩, ⟨(HB.out.setCell (p := ⟨gm, j, none⟩) HGM.out _).drew⟩⟩
        | false =>
          by_cases hjn : j = xn
          · subst hjn
            have hjb : ((j : Int) == (j : Int)) = true := by simp
            have HR6 := Aside0.mk (lookX_here t su j ▸ HR5.out)
            gi_wp2_with (fail)
            gi_roundg k1
            case measure => omega
            case rel => exact ⟨j + 1, (by first | rfl | (simp [hwj.out]; done)), ⟨by have := HJ.out; omega⟩, HR6, ⟨HB.out.setCell (p := ⟨gm, j, none⟩) HGM.out _⟩⟩
          · have hjb : ((j : Int) == (xn : Int)) = false := by simp; omega
            have HO6 := Aside0.mk (moreP_same t su (false, xn) j hjl (lookX_else t su xn j hjn) ▸ HO.out)
            gi_wp2_with (fail)
            gi_roundg k1
            case measure => omega
            case rel => exact ⟨j + 1, (by first | rfl | (simp [hwj.out]; done)), ⟨by have := HJ.out; omega⟩, HO6, HB⟩
theorem guard_Look.calls (A0 : Option Addr) (c0 : Nat) (l0 : List S24) (A1 : Option Addr) (c1 : Nat) (l1 : List S24) (g0 g1 g2 g3 : Int) (o1 : Bool) (o2 o3 o4 : Int) (w : World) (hr0 : Kd.C k24 w A0 l0.length l0) (hc0 : l0.length ≤ c0) (hr1 : Kd.C k24 w A1 l1.length l1) (hc1 : l1.length ≤ c1) (hT_ : TabOk w) (h : guard_Look.f l0 l1 g0 g1 g2 g3 = some (o1, o2, o3, o4)) :
    Calls Tryd.prog 44 #[.agg #[.slice A0 l0.length c0, .slice A1 l1.length c1], .agg #[.int .i64 g0, .int .i64 g1, .int .i64 g2, .int .i64 g3]] w fun e w' => e = .returned (.tuple #[.bool o1, .int .i64 o2, .int .i64 o3, .int .i64 o4]) ∧ Below w.heap.size w w' := by
  unfold guard_Look.f at h
  by_cases he : checkS l0 l1 g0 g1 g2 g3 = 0
  · rw [if_pos he] at h
    obtain ⟨t, ht, h⟩ := Option.bind_eq_some_iff.mp h
    obtain ⟨su, hs, h⟩ := Option.bind_eq_some_iff.mp h
    split at h
    case isFalse => simp at h
    rename_i hc
    obtain ⟨⟨r1, r2, r3⟩, hl, h⟩ := Option.bind_eq_some_iff.mp h
    refine look_some A0 c0 l0 A1 c1 l1 g0 g1 g2 g3 t su r1 r2 r3 w hr0 hc0 hr1 hc1 hT_ he ht hs hc.1 hc.2 hl o1 o2 o3 o4 ?_
    dsimp only at h
    by_cases h0 : r3 = 0
    · rw [if_pos h0] at h
      simp only [Option.some.injEq, Prod.mk.injEq] at h
      exact .inl ⟨h0, h.1.symm, h.2.1.symm, h.2.2.1.symm, h.2.2.2.symm⟩
    · rw [if_neg h0] at h
      simp only [Option.some.injEq, Prod.mk.injEq] at h
      exact .inr ⟨h0, h.1.symm, h.2.1.symm, h.2.2.1.symm, h.2.2.2.symm⟩
  · rw [if_neg he] at h
    simp only [Option.some.injEq, Prod.mk.injEq] at h
    obtain ⟨rfl, rfl, rfl, rfl⟩ := h
    exact look_none A0 c0 l0 A1 c1 l1 g0 g1 g2 g3 w hr0 hc0 hr1 hc1 hT_ he
end Go.Proofs.YtamibghbkjmmeaaDoor.G
end
