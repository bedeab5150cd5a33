/- A part of this claim's proof (H40, F18, F27); no condition. -/
import Derived.Laws.EntriesVeiled
import Derived.Test.YtamibghbkjmmeaaDoorAlk06
section
namespace Go.Proofs.YtamibghbkjmmeaaDoor.G
open Go.RowKit Go.Proofs.YtamibghbkjmmeaaDoorW.PrintWords Go.Proofs.YtamibghbkjmmeaaDoorW.PrintLast Go.Proofs.YtamibghbkjmmeaaDoorW.PrintMore
set_option linter.unusedVariables false
set_option linter.unusedSimpArgs false
attribute [local go_sem] Oper.semAt_some
def aliS (g0 g1 g2 g3 : Int) (x y : S24) : Option Bool := guard_gauge_alike.f 1000 g0 g1 g2 g3 x.f0 x.f1 y.f0 y.f1 2
def twM (g0 g1 g2 g3 : Int) (l1 : List S24) (k : Nat) : List Nat → Option (Option Nat)
  | [] => some none
  | m :: ms => if k < l1.length ∧ m < l1.length then (aliS g0 g1 g2 g3 (rd_T24 l1 k) (rd_T24 l1 m)).bind fun b => if b = true then some (some m) else twM g0 g1 g2 g3 l1 k ms else none
def bitT (x : Int) (k : Nat) : Int := Go.bits .and .u64 (x / 2 ^ min k 64) 1
def restT (x y : Int) (k : Nat) : Int := Go.bits .andNot .u64 (Go.bits .and .u64 x y) (IntKind.u64.wrap (2 ^ min k 64))
def twJ (g0 g1 g2 g3 : Int) (l0 l1 : List S24) (t : List Int) (i k : Nat) : Nat → Nat → Option (Option (Nat × Nat))
  | 0, _ => some none
  | n + 1, j => if bitT (rd t j) k = 0 then twJ g0 g1 g2 g3 l0 l1 t i k n (j + 1) else (aliS g0 g1 g2 g3 (rd_T24 l0 i) (rd_T24 l0 j)).bind fun b => if b = true then
      (twM g0 g1 g2 g3 l1 k (bitsL (restT (rd t i) (rd t j) k).toNat)).bind fun o => match o with
        | some m => some (some (j, m))
        | none => twJ g0 g1 g2 g3 l0 l1 t i k n (j + 1)
      else twJ g0 g1 g2 g3 l0 l1 t i k n (j + 1)
def twK (g0 g1 g2 g3 : Int) (l0 l1 : List S24) (t : List Int) (i : Nat) : List Nat → Option (Option (Nat × Nat × Nat))
  | [] => some none
  | k :: ks => if k < 64 then (twJ g0 g1 g2 g3 l0 l1 t i k (t.length - (i + 1)) (i + 1)).bind fun o => match o with
      | some p => some (some (k, p.1, p.2))
      | none => twK g0 g1 g2 g3 l0 l1 t i ks else none
def twI (g0 g1 g2 g3 : Int) (l0 l1 : List S24) (t : List Int) : Nat → Nat → Option (Option (Nat × Nat × Nat × Nat))
  | 0, _ => some none
  | n + 1, i => if 0 ≤ rd t i ∧ rd t i < 18446744073709551616 then (twK g0 g1 g2 g3 l0 l1 t i (bitsL (rd t i).toNat)).bind fun o => match o with
      | some p => some (some (i, p.1, p.2.1, p.2.2))
      | none => twI g0 g1 g2 g3 l0 l1 t n (i + 1) else none
def guard_Twins.f (l0 l1 : List S24) (g0 g1 g2 g3 : Int) : Option (List S85 × Int) :=
  if checkS l0 l1 g0 g1 g2 g3 = 0 then (guard_gauge_table.f 1000 g0 g1 g2 g3 l0 l1 2).bind fun t => if t.length = l0.length then (twI g0 g1 g2 g3 l0 l1 t t.length 0).bind fun o => match o with
    | some p => some ([⟨(p.1 : Int), (p.2.1 : Int)⟩, ⟨(p.2.2.1 : Int), (p.2.2.2 : Int)⟩], 0)
    | none => some ([], 7) else none
  else some ([], checkS l0 l1 g0 g1 g2 g3)
theorem goesv_ {P : Program} {ops : Array Oper} {Q : Exit → Act → World → Prop} {oi : Oper} {N : Option Tmp} {a : Act} {w : World} {K : Act → World → Prop} {f : FuncId} {fn : Func} {x : Operand} {asv : Array Operand} {ts : Array TypeId} {caps : Array Value} (hf : P.funcs[f]? = some fn) (hname : (fn.name == "runtime.NumGoroutine") = false) (hb : fn.body.isSome = true) (args : Array Value)
    (hw : Region.wanted oi (yielded ops a.tmps) = true) (hN : oi.dst = N) (hop : oi.op = .call { callee := .value x, args := asv, argTypes := ts }) (hx : a.eval x = .func (.func f) #[] caps) (hargs : asv.map a.eval ++ caps = args)
    (h : Calls P f args w fun e w' => ∃ v, e = .returned v ∧ K (a.put N v) w') : if Region.wanted oi (yielded ops a.tmps) = true then Oper.wp P oi a w K Q else K (a.put N undef) w := by
  refine call_ f args hw hN ?_ h
  have he := enters_ hf hname hb args w
  unfold execOp
  simp [hop, resolve, Deferred.ofValue, invoke, hx, hargs, he]
theorem twK_step {g0 g1 g2 g3 : Int} {l0 l1 : List S24} {t : List Int} {i k : Nat} {pre : List Nat} (z : ∀ rest, twK g0 g1 g2 g3 l0 l1 t i (pre ++ rest) = twK g0 g1 g2 g3 l0 l1 t i rest) (hk : k < 64) (hj : twJ g0 g1 g2 g3 l0 l1 t i k (t.length - (i + 1)) (i + 1) = some none) (rest : List Nat) : twK g0 g1 g2 g3 l0 l1 t i ((pre ++ [k]) ++ rest) = twK g0 g1 g2 g3 l0 l1 t i rest := by
  rw [List.append_assoc, z, List.singleton_append]
  show (if k < 64 then _ else _) = _
  rw [if_pos hk, hj]
  rfl
theorem bits_any (x : Int) (w : World) : Calls Tryd.prog 83 #[.int .u64 x] w fun e w' => e = .returned (.func (.func 102) #[] #[.pointer (some ⟨w.heap.size, 0, none⟩)]) ∧ Boxed w' w.heap.size 116 (.int .u64 x) ∧ Below w.heap.size w w' :=
  (guard_bitsOf.calls x w).mono fun e w' ⟨h1, h2⟩ => ⟨h1, h2 ▸ Boxed.new w 116 _, h2 ▸ below_alloc (Below.refl _ _) _⟩
theorem range_inF {α : Type} {P : Program} {ps : Array Tmp} {assign body : Code} {l₀ : Nat} {r₀ : Loop} {g : Operand} {Q : Exit → Act → World → Prop} {a : Act} {w : World} {n gf : Nat} {lb : Array Value} {encs : α → Array Value} {Kp St : World → World → Prop} {xs : List α} {FA : α → Act}
    (hl₀ : w.heap[l₀]? = some (.loop r₀)) (hg : a.eval g = .func (.func gf) #[] lb) (eg : ∀ args w, (callFunc gf args).run P w = .ok (.enter gf args) w) (hseq : Seq0 P gf lb encs Kp St xs w) (hps : ∀ x, (encs x).size = ps.size)
    (hKt : ∀ {A B C : World}, Kp A B → Kp B C → Kp A C) (hKr : ∀ A, Kp A A) (hKb : ∀ (W : World) (l : Nat) (r r' : Loop), w.heap.size ≤ l → W.heap[l]? = some (.loop r) → Kp W (W.putObj l (.loop r')))
    (hSt : ∀ A A', St A A' → KeepsFrom w.heap.size A A')
    (I : List α → World → Prop) (Ix : Code → List α → World → Prop) (hI : OwnFrom w.heap.size I) (hIx : ∀ c, OwnFrom w.heap.size (Ix c)) (hIs : ∀ s A A', I s A → St A A' → I s A') (hIxs : ∀ c s A A', Ix c s A → St A A' → Ix c s A') (h0 : I [] w)
    (hassign : ∀ (m l : Nat) (x : α) (W : World) (K : Act → World → Prop), (∀ a', a' = FA x → K a' W) →
      assign.wpIn (Fence.wide.inRound l) m P (Exit.then K (fun _ _ _ => False)) { tmps := (ps.zip (encs x)).foldl (fun t (p, v) => t.setIfInBounds p v) a.tmps, defers := [] } W)
    (hbody : ∀ (m l : Nat) (pre : List α) (x : α) (a' : Act) (W : World), w.heap.size ≤ l → (∃ r, W.heap[l]? = some (.loop r)) → I pre W → a' = FA x → (pre ++ [x]) <+: xs → body.wpIn (Fence.wide.inRound l) m P (ownPostG w.heap.size Kp I Ix (pre ++ [x]) W) a' W)
    (hdone : ∀ (W : World), I xs W → Q .normal a W) (hstop : ∀ (c : Code) (pre : List α) (W : World), pre <+: xs → Ix c pre W → c.wpIn (Fence.wide.inRound l₀) n P Q a W) :
    (Code.rangeFunc g ps assign body).wpIn (Fence.wide.inRound l₀) n P Q a w :=
  range_in hl₀ hg eg hseq hps hKt hKb hSt I Ix hI hIx hIs hIxs h0 (fun x a' _ => a' = FA x) (fun _ _ _ _ _ _ h _ _ => h) (fun m l pre x W K hi _ hK => hassign m l x W K (fun a' e => hK a' W (KeepsFrom.refl _ _) (hKr _) hi e)) hbody hdone hstop
theorem twM_step {g0 g1 g2 g3 : Int} {l1 : List S24} {k m : Nat} {pre : List Nat} (z : ∀ rest, twM g0 g1 g2 g3 l1 k (pre ++ rest) = twM g0 g1 g2 g3 l1 k rest) (hk : k < l1.length ∧ m < l1.length) (h : aliS g0 g1 g2 g3 (rd_T24 l1 k) (rd_T24 l1 m) = some false) (rest : List Nat) : twM g0 g1 g2 g3 l1 k ((pre ++ [m]) ++ rest) = twM g0 g1 g2 g3 l1 k rest := by
  rw [List.append_assoc, z, List.singleton_append]
  show (if _ then _ else _) = _
  rw [if_pos hk, h]
  rfl
theorem tw82 (g0 g1 g2 g3 : Int) (x y : S24) (A A' : Option Addr) (c c' Bg : Nat) (b : Bool) (w : World) (hG : w.heap[Bg]? = some (.cells #[.int .i64 g0, .int .i64 g1, .int .i64 g2, .int .i64 g3] 26)) (h1 : Kd.C (Kd.int .i64) w A x.f1.length x.f1) (l1 : x.f1.length ≤ c) (h2 : Kd.C (Kd.int .i64) w A' y.f1.length y.f1) (l2 : y.f1.length ≤ c') (h : aliS g0 g1 g2 g3 x y = some b) :
    Calls Tryd.prog 82 #[.agg #[.int .i64 x.f0, .slice A x.f1.length c], .agg #[.int .i64 y.f0, .slice A' y.f1.length c'], .pointer (some ⟨Bg, 0, none⟩)] w fun e w' => e = .returned (.bool b) ∧ Below w.heap.size w w' := by
  have HB := Aside0.mk (show Below w.heap.size w ((w.alloc (.cells #[.int .i64 x.f0, .slice A x.f1.length c] 24)).alloc (.cells #[.int .i64 y.f0, .slice A' y.f1.length c'] 24)) from below_alloc (below_alloc (Below.refl _ _) _) _)
  have KG := Aside0.mk (blk_below hG HB.out)
  have hg0 := (blk_cell KG.out 0).trans rfl
  have hg1 := (blk_cell KG.out 1).trans rfl
  have hg2 := (blk_cell KG.out 2).trans rfl
  have hg3 := (blk_cell KG.out 3).trans rfl
  have CA := Aside0.mk (guard_gauge_alike.calls 1000 g0 g1 g2 g3 x.f0 A c x.f1 y.f0 A' c' y.f1 2 b _ (Kd.C_below h1 HB.out) l1 (Kd.C_below h2 HB.out) l2 h)
  clear hG h1 h2 h
  go_enter Tryd.func82, Tryd.ntmps82
  go_wp2_with (fail)
  refine CA.out.mono ?_
  rintro e w1 ⟨rfl, hb⟩
  have HB1 := Aside0.mk (below_step HB.out hb)
  clear hb
  go_wp2
  go_ret
  exact ⟨rfl, HB1.out⟩
def Duo (W : World) (n : Nat) (v : Value) (e : Int) : Prop := Boxed W n 42 v ∧ Boxed W (n + 1) 30 (.int .i64 e)
theorem Duo.set0 {W : World} {n : Nat} {v : Value} {e : Int} (h : Duo W n v e) (v' : Value) : Duo (W.setCell ⟨n, 0, none⟩ v') n v' e := ⟨h.1.set _, boxed_far h.2 (by omega) _⟩
theorem Duo.set1 {W : World} {n : Nat} {v : Value} {e : Int} (h : Duo W n v e) (e' : Int) : Duo (W.setCell ⟨n + 1, 0, none⟩ (.int .i64 e')) n v e' := ⟨boxed_far h.1 (by omega) _, h.2.set _⟩
theorem duo_put {W w : World} {n : Nat} {v : Value} {e : Int} (h : Duo W n v e) (hB : Below w.heap.size w W) (hn : w.heap.size ≤ n) (v' : Value) (e' : Int) : ∃ W', W' = (W.setCell ⟨n, 0, none⟩ v').setCell ⟨n + 1, 0, none⟩ (.int .i64 e') ∧ Duo W' n v' e' ∧ Below w.heap.size w W' :=
  ⟨_, rfl, (h.set0 v').set1 e', (hB.setCell (p := ⟨n, 0, none⟩) hn _).setCell (p := ⟨n + 1, 0, none⟩) (by simp; omega) _⟩
set_option maxHeartbeats 8000000 in
set_option maxRecDepth 100000 in
theorem tw_none (A0 : Option Addr) (c0 : Nat) (l0 : List S24) (A1 : Option Addr) (c1 : Nat) (l1 : List S24) (g0 g1 g2 g3 : Int) (w : World) (hr0 : Kd.C k24 w A0 l0.length l0) (hc0 : l0.length ≤ c0) (hr1 : Kd.C k24 w A1 l1.length l1) (hc1 : l1.length ≤ c1) (hT_ : TabOk w) (he : checkS l0 l1 g0 g1 g2 g3 ≠ 0) :
    Calls Tryd.prog 40 #[.agg #[.slice A0 l0.length c0, .slice A1 l1.length c1], .agg #[.int .i64 g0, .int .i64 g1, .int .i64 g2, .int .i64 g3]] w fun e w' => e = .returned (.tuple #[.slice none 0 0, .int .i64 (checkS l0 l1 g0 g1 g2 g3)]) ∧ Below w.heap.size w w' := by
  have HL := Aside0.mk hr0
  have HR := Aside0.mk hr1
  have HB0 := Aside0.mk (show Below w.heap.size w ((w.alloc (.cells #[.slice A0 l0.length c0, .slice A1 l1.length c1] 38)).alloc (.cells #[.int .i64 g0, .int .i64 g1, .int .i64 g2, .int .i64 g3] 26)) from ((Below.refl _ w).alloc (Nat.le_refl _) _).alloc (by simp) _)
  have KS := Aside0.mk (show ((w.alloc (.cells #[.slice A0 l0.length c0, .slice A1 l1.length c1] 38)).alloc (.cells #[.int .i64 g0, .int .i64 g1, .int .i64 g2, .int .i64 g3] 26)).heap[w.heap.size]? = some (.cells #[.slice A0 l0.length c0, .slice A1 l1.length c1] 38) from blk_alloc (blk_new _ _) _)
  have KG := Aside0.mk (show ((w.alloc (.cells #[.slice A0 l0.length c0, .slice A1 l1.length c1] 38)).alloc (.cells #[.int .i64 g0, .int .i64 g1, .int .i64 g2, .int .i64 g3] 26)).heap[w.heap.size + 1]? = some (.cells #[.int .i64 g0, .int .i64 g1, .int .i64 g2, .int .i64 g3] 26) from by have h_ := blk_new (w.alloc (.cells #[.slice A0 l0.length c0, .slice A1 l1.length c1] 38)) (.cells #[.int .i64 g0, .int .i64 g1, .int .i64 g2, .int .i64 g3] 26); simpa using h_)
  have CK := Aside0.mk (fun W (hb : Below w.heap.size w W) => guard_Check.calls A0 c0 l0 A1 c1 l1 g0 g1 g2 g3 _ W (Kd.C_below hr0 hb) hc0 (Kd.C_below hr1 hb) hc1 rfl)
  have HT := Aside0.mk hT_
  have HB3 := Aside0.mk ((HB0.out.alloc (by simp; omega) (.cells #[.slice none 0 0] 42)).alloc (by simp; omega) (.cells #[.int .i64 0] 30))
  have K2 := Aside0.mk (show Boxed ((((w.alloc (.cells #[.slice A0 l0.length c0, .slice A1 l1.length c1] 38)).alloc (.cells #[.int .i64 g0, .int .i64 g1, .int .i64 g2, .int .i64 g3] 26)).alloc (.cells #[.slice none 0 0] 42)).alloc (.cells #[.int .i64 0] 30)) (w.heap.size + 1 + 1) 42 (.slice none 0 0) from (show Boxed (((w.alloc (.cells #[.slice A0 l0.length c0, .slice A1 l1.length c1] 38)).alloc (.cells #[.int .i64 g0, .int .i64 g1, .int .i64 g2, .int .i64 g3] 26)).alloc (.cells #[.slice none 0 0] 42)) (w.heap.size + 1 + 1) 42 (.slice none 0 0) from by have h := Boxed.new ((w.alloc (.cells #[.slice A0 l0.length c0, .slice A1 l1.length c1] 38)).alloc (.cells #[.int .i64 g0, .int .i64 g1, .int .i64 g2, .int .i64 g3] 26)) 42 (.slice none 0 0); simpa only [World.size_alloc] using h).alloc _)
  have K3 := Aside0.mk (show Boxed ((((w.alloc (.cells #[.slice A0 l0.length c0, .slice A1 l1.length c1] 38)).alloc (.cells #[.int .i64 g0, .int .i64 g1, .int .i64 g2, .int .i64 g3] 26)).alloc (.cells #[.slice none 0 0] 42)).alloc (.cells #[.int .i64 0] 30)) (w.heap.size + 1 + 1 + 1) 30 (.int .i64 0) from by have h := Boxed.new (((w.alloc (.cells #[.slice A0 l0.length c0, .slice A1 l1.length c1] 38)).alloc (.cells #[.int .i64 g0, .int .i64 g1, .int .i64 g2, .int .i64 g3] 26)).alloc (.cells #[.slice none 0 0] 42)) 30 (.int .i64 0); simpa only [World.size_alloc] using h)
  generalize checkS l0 l1 g0 g1 g2 g3 = e0 at he CK ⊢
  have hne : (e0 != 0) = true := bne_iff_ne.mpr he
  clear hr0 hr1 hT_ he
  go_enter Tryd.func40, Tryd.ntmps40
  go_wp2_with (fail)
  refine (CK.out _ HB3.out).mono ?_
  rintro e w1 ⟨rfl, hb1⟩
  have hD : Duo w1 (w.heap.size + 1 + 1) (.slice none 0 0) 0 := ⟨blk_below K2.out hb1, blk_below K3.out hb1⟩
  have hc2 := hD.1.cell
  have hf2 := hD.1.frozen
  have hc3 := hD.2.cell
  have hf3 := hD.2.frozen
  have hB1 := below_step HB3.out hb1
  clear hb1 HB3 K2 K3 CK HB0 KS KG
  go_wp2
  obtain ⟨W5, e5, hD5, hB5⟩ := duo_put hD hB1 (by omega) (.slice none 0 0) e0
  rw [← e5]
  have y2 := hD5.1.cell
  have y3 := hD5.2.cell
  refine bodyPost_ret (v := .tuple #[.slice none 0 0, .int .i64 e0]) (by simp [results, Tryd.results40, go_sem, y2, y3]) rfl ⟨rfl, hB5⟩
def TwIk (g0 g1 g2 g3 : Int) (l0 l1 : List S24) (t : List Int) (i : Nat) (W1 : World) (pre : List Nat) (W : World) : Prop :=
  (∀ rest, twK g0 g1 g2 g3 l0 l1 t i (pre ++ rest) = twK g0 g1 g2 g3 l0 l1 t i rest) ∧ Below W1.heap.size W1 W ∧ ∃ u, Boxed W W1.heap.size 116 u
def TwRet (w : World) (n : Nat) (r : List S85) (er : Int) (W : World) : Prop := Below w.heap.size w W ∧ ∃ v, Duo W n v er ∧ W.ownsRow w.heap.size 85 2 v r.length (encP r)
def TwXk (w : World) (n i : Nat) (o1 : Option (Nat × Nat × Nat)) (Ds : List Nat) (W1 : World) (c : Code) (_ : List Nat) (W : World) : Prop :=
  c = .ret ∧ ∃ p : Nat × Nat × Nat, o1 = some p ∧ TwRet w n [⟨(i : Int), (p.1 : Int)⟩, ⟨(p.2.1 : Int), (p.2.2 : Int)⟩] 0 W ∧ (∃ u, Boxed W W1.heap.size 116 u) ∧ MarksOk w.heap.size Ds W
theorem KeepsFrom.grownC {B : Nat} {W W1 W2 : World} {row : Option Nat} (h : KeepsFrom B W W1) (hg : W1.grownBy W2 row) (hr : ∀ q, row = some q → W.heap.size ≤ q) : KeepsFrom B W W2 :=
  ⟨Nat.le_trans h.size hg.size, fun k o hk ho hc => by
    have h1 := h.same k o hk ho hc
    exact (hg.block k (Array.getElem?_eq_some_iff.1 h1).1 (fun e => by have := hr k e.symm; have := (Array.getElem?_eq_some_iff.1 ho).1; omega)).trans h1⟩
def TwIm (g0 g1 g2 g3 : Int) (l1 : List S24) (k : Nat) (W5 : World) (pre : List Nat) (W : World) : Prop :=
  (∀ rest, twM g0 g1 g2 g3 l1 k (pre ++ rest) = twM g0 g1 g2 g3 l1 k rest) ∧ Below W5.heap.size W5 W ∧ ∃ u, Boxed W W5.heap.size 116 u
def TwXm (w : World) (n i k j B0 : Nat) (om : Option Nat) (Ds : List Nat) (W0 W1 W5 : World) (c : Code) (_ : List Nat) (W : World) : Prop :=
  c = .ret ∧ ∃ m : Nat, om = some m ∧ TwRet w n [⟨(i : Int), (k : Int)⟩, ⟨(j : Int), (m : Int)⟩] 0 W ∧ (∃ u, Boxed W W5.heap.size 116 u) ∧ (∃ u, Boxed W W1.heap.size 116 u) ∧ MarksOk w.heap.size Ds W ∧ KeepsFrom B0 W0 W
theorem TwRet.set {w W : World} {n B : Nat} {r : List S85} {er : Int} {u : Value} (h : TwRet w n r er W) (hu : Boxed W B 116 u) (hB : w.heap.size ≤ B) (z : Value) : TwRet w n r er (W.setCell ⟨B, 0, none⟩ z) := by
  obtain ⟨h0, v, ⟨h1, h2⟩, h3⟩ := h
  have ne : ∀ {k t : Nat} {x : Value}, Boxed W k t x → t ≠ 116 → k ≠ B := fun hk ht e => by subst e; have h1 := (show W.heap[_]? = _ from hk).symm.trans (show W.heap[_]? = _ from hu); simp at h1; exact ht h1.2
  exact ⟨h0.setCell (p := ⟨B, 0, none⟩) hB z, v, ⟨boxed_far h1 (ne h1 (by decide)) _, boxed_far h2 (ne h2 (by decide)) _⟩, h3.kept (grownBy_setCell' W B z) (.inr (hu.not_row (by decide) h3).symm)⟩
theorem TwRet.grown {w W W' : World} {n : Nat} {r : List S85} {er : Int} {row : Option Nat} (h : TwRet w n r er W) (hg : W.grownBy W' row) (hr : ∀ q, row = some q → w.heap.size ≤ q ∧ ∃ o : Obj, W.heap[q]? = some o ∧ o.isCells = false) : TwRet w n r er W' := by
  obtain ⟨h0, v, ⟨h1, h2⟩, h3⟩ := h
  have hr' := fun q e => (hr q e).2
  exact ⟨h0.grown hg h0.size (fun k e => (hr k e).1), v, ⟨boxed_keptC h1 hg hr', boxed_keptC h2 hg hr'⟩, ownsRow_keptC h3 hg hr'⟩
theorem tw_leaves {n m : Nat} {w W : World} {r : List S85} {er : Int} {tmps : Array Value} {Ds : List Nat} (hD : MarksOk w.heap.size Ds W) (h : TwRet w n r er W)
    (t4 : tmps[4]? = some (.pointer (some ⟨n, 0, none⟩))) (t5 : tmps[5]? = some (.pointer (some ⟨n + 1, 0, none⟩))) :
    LeavesInM Fence.wide m Tryd.prog Tryd.f40 tmps (fun e w' => ∃ v : Value, e = .returned (.tuple #[v, .int .i64 er]) ∧ Kd.R k85 85 w' w.heap.size (fun _ => True) v r ∧ Below w.heap.size w w') (marks Ds) .returning W := by
  refine leaves_marks (B := w.heap.size) (TwRet w n r er) ?_ ?_ Ds W hD h
  · rintro W D o z hD ho hc
    exact z.grown (grownBy_putObj' W D _) (fun q e => by cases e; exact ⟨hD, o, ho, hc⟩)
  · rintro W ⟨z0, v, ⟨z1, z2⟩, z3⟩
    have y2 := z1.cell
    have y3 := z2.cell
    refine ⟨_, ?_, v, rfl, R_encP z3 (fun _ _ => trivial), z0⟩
    simp [results, show (Tryd.f40).results = #[.cell 4 42, .cell 5 30] from rfl, go_sem, t4, t5, y2, y3]
theorem MarksOk.below {B : Nat} {Ds : List Nat} {W W' : World} (h : MarksOk B Ds W) (hb : Below W.heap.size W W') : MarksOk B Ds W' := h.keep (keepsFrom_below hb)
set_option maxHeartbeats 8000000 in
set_option maxRecDepth 100000 in
theorem tw_some (A0 : Option Addr) (c0 : Nat) (l0 : List S24) (A1 : Option Addr) (c1 : Nat) (l1 : List S24) (g0 g1 g2 g3 : Int) (t : List Int) (o : Option (Nat × Nat × Nat × Nat)) (w : World) (hr0 : Kd.C k24 w A0 l0.length l0) (hc0 : l0.length ≤ c0) (hr1 : Kd.C k24 w A1 l1.length l1) (hc1 : l1.length ≤ c1) (hT_ : TabOk w) (he : checkS l0 l1 g0 g1 g2 g3 = 0)
    (ht : guard_gauge_table.f 1000 g0 g1 g2 g3 l0 l1 2 = some t) (htl : t.length = l0.length) (ho : twI g0 g1 g2 g3 l0 l1 t t.length 0 = some o) (r : List S85) (er : Int) (hr : (o = none ∧ r = [] ∧ er = 7) ∨ ∃ i k j m, o = some (i, k, j, m) ∧ r = [⟨(i : Int), (k : Int)⟩, ⟨(j : Int), (m : Int)⟩] ∧ er = 0) :
    Calls Tryd.prog 40 #[.agg #[.slice A0 l0.length c0, .slice A1 l1.length c1], .agg #[.int .i64 g0, .int .i64 g1, .int .i64 g2, .int .i64 g3]] w fun e w' => ∃ v : Value, e = .returned (.tuple #[v, .int .i64 er]) ∧ Kd.R k85 85 w' w.heap.size (fun _ => True) v r ∧ Below w.heap.size w w' := by
  have HL := Aside0.mk hr0
  have HR := Aside0.mk hr1
  have HB0 := Aside0.mk (show Below w.heap.size w ((w.alloc (.cells #[.slice A0 l0.length c0, .slice A1 l1.length c1] 38)).alloc (.cells #[.int .i64 g0, .int .i64 g1, .int .i64 g2, .int .i64 g3] 26)) from ((Below.refl _ w).alloc (Nat.le_refl _) _).alloc (by simp) _)
  have KS := Aside0.mk (show ((w.alloc (.cells #[.slice A0 l0.length c0, .slice A1 l1.length c1] 38)).alloc (.cells #[.int .i64 g0, .int .i64 g1, .int .i64 g2, .int .i64 g3] 26)).heap[w.heap.size]? = some (.cells #[.slice A0 l0.length c0, .slice A1 l1.length c1] 38) from blk_alloc (blk_new _ _) _)
  have KG := Aside0.mk (show ((w.alloc (.cells #[.slice A0 l0.length c0, .slice A1 l1.length c1] 38)).alloc (.cells #[.int .i64 g0, .int .i64 g1, .int .i64 g2, .int .i64 g3] 26)).heap[w.heap.size + 1]? = some (.cells #[.int .i64 g0, .int .i64 g1, .int .i64 g2, .int .i64 g3] 26) from by have h_ := blk_new (w.alloc (.cells #[.slice A0 l0.length c0, .slice A1 l1.length c1] 38)) (.cells #[.int .i64 g0, .int .i64 g1, .int .i64 g2, .int .i64 g3] 26); simpa using h_)
  have CK := Aside0.mk (fun W (hb : Below w.heap.size w W) => guard_Check.calls A0 c0 l0 A1 c1 l1 g0 g1 g2 g3 _ W (Kd.C_below hr0 hb) hc0 (Kd.C_below hr1 hb) hc1 rfl)
  have HT := Aside0.mk hT_
  have HB3 := Aside0.mk ((HB0.out.alloc (by simp; omega) (.cells #[.slice none 0 0] 42)).alloc (by simp; omega) (.cells #[.int .i64 0] 30))
  have K2 := Aside0.mk (show Boxed ((((w.alloc (.cells #[.slice A0 l0.length c0, .slice A1 l1.length c1] 38)).alloc (.cells #[.int .i64 g0, .int .i64 g1, .int .i64 g2, .int .i64 g3] 26)).alloc (.cells #[.slice none 0 0] 42)).alloc (.cells #[.int .i64 0] 30)) (w.heap.size + 1 + 1) 42 (.slice none 0 0) from (show Boxed (((w.alloc (.cells #[.slice A0 l0.length c0, .slice A1 l1.length c1] 38)).alloc (.cells #[.int .i64 g0, .int .i64 g1, .int .i64 g2, .int .i64 g3] 26)).alloc (.cells #[.slice none 0 0] 42)) (w.heap.size + 1 + 1) 42 (.slice none 0 0) from by have h := Boxed.new ((w.alloc (.cells #[.slice A0 l0.length c0, .slice A1 l1.length c1] 38)).alloc (.cells #[.int .i64 g0, .int .i64 g1, .int .i64 g2, .int .i64 g3] 26)) 42 (.slice none 0 0); simpa only [World.size_alloc] using h).alloc _)
  have K3 := Aside0.mk (show Boxed ((((w.alloc (.cells #[.slice A0 l0.length c0, .slice A1 l1.length c1] 38)).alloc (.cells #[.int .i64 g0, .int .i64 g1, .int .i64 g2, .int .i64 g3] 26)).alloc (.cells #[.slice none 0 0] 42)).alloc (.cells #[.int .i64 0] 30)) (w.heap.size + 1 + 1 + 1) 30 (.int .i64 0) from by have h := Boxed.new (((w.alloc (.cells #[.slice A0 l0.length c0, .slice A1 l1.length c1] 38)).alloc (.cells #[.int .i64 g0, .int .i64 g1, .int .i64 g2, .int .i64 g3] 26)).alloc (.cells #[.slice none 0 0] 42)) 30 (.int .i64 0); simpa only [World.size_alloc] using h)
  have KS3 := Aside0.mk (blk_alloc (blk_alloc KS.out (.cells #[.slice none 0 0] 42)) (.cells #[.int .i64 0] 30))
  have KG3 := Aside0.mk (blk_alloc (blk_alloc KG.out (.cells #[.slice none 0 0] 42)) (.cells #[.int .i64 0] 30))
  have TB := Aside0.mk (fun W (hb : Below w.heap.size w W) => guard_gauge_table.calls 1000 g0 g1 g2 g3 A0 c0 l0 A1 c1 l1 2 t W (Kd.C_below hr0 hb) hc0 (Kd.C_below hr1 hb) hc1 ht)
  have LN := Aside0.mk (check_len he)
  have HO := Aside0.mk ho
  have HRR := Aside0.mk hr
  have HTL := Aside0.mk htl
  rw [he] at CK
  clear hr0 hr1 hT_ he ht htl ho hr HB0 KS KG
  refine calls_of_marks Tryd.func40 rfl ?_
  simp only [Tryd.ntmps40, List.size_toArray, List.length_cons, List.length_nil, Nat.reduceAdd, Nat.reduceSub, Array.replicate_succ, Array.replicate_zero, List.push_toArray, List.append_toArray, List.nil_append, List.cons_append]
  go_wp2_with (fail)
  refine (CK.out _ HB3.out).mono ?_
  rintro e w1 ⟨rfl, hb1⟩
  have HB1 := Aside0.mk (below_step HB3.out hb1)
  have KS1 := Aside0.mk (blk_below KS3.out hb1)
  have KG1 := Aside0.mk (blk_below KG3.out hb1)
  have HD1 := Aside0.mk (show Duo w1 (w.heap.size + 1 + 1) (.slice none 0 0) 0 from ⟨blk_below K2.out hb1, blk_below K3.out hb1⟩)
  clear hb1 HB3 K2 K3 CK KS3 KG3
  have hs0 : w1.cell? ⟨w.heap.size, 0, none⟩ = some (.slice A0 l0.length c0) := (blk_cell KS1.out 0).trans rfl
  have hs1 : w1.cell? ⟨w.heap.size, 1, none⟩ = some (.slice A1 l1.length c1) := (blk_cell KS1.out 1).trans rfl
  have hg0 : w1.cell? ⟨w.heap.size + 1, 0, none⟩ = some (.int .i64 g0) := (blk_cell KG1.out 0).trans rfl
  have hg1 : w1.cell? ⟨w.heap.size + 1, 1, none⟩ = some (.int .i64 g1) := (blk_cell KG1.out 1).trans rfl
  have hg2 : w1.cell? ⟨w.heap.size + 1, 2, none⟩ = some (.int .i64 g2) := (blk_cell KG1.out 2).trans rfl
  have hg3 : w1.cell? ⟨w.heap.size + 1, 3, none⟩ = some (.int .i64 g3) := (blk_cell KG1.out 3).trans rfl
  go_wp2_with (fail)
  refine (TB.out _ HB1.out).mono ?_
  rintro e w2 ⟨v2, rfl, ho2, hb2⟩
  obtain ⟨A2, c2, rfl, hl2, hC2⟩ := Kd.R_reads ho2
  have HB2 := Aside0.mk (below_step HB1.out hb2)
  have KS2 := Aside0.mk (blk_below KS1.out hb2)
  have KG2 := Aside0.mk (blk_below KG1.out hb2)
  have HD2 := Aside0.mk (show Duo w2 (w.heap.size + 1 + 1) (.slice none 0 0) 0 from ⟨blk_below HD1.out.1 hb2, blk_below HD1.out.2 hb2⟩)
  have HC2 := Aside0.mk hC2
  have HL2 := Aside0.mk hl2
  clear hb2 ho2 hl2 hC2 hs0 hs1 hg0 hg1 hg2 hg3 HB1 KS1 KG1 HD1 TB
  go_wp2_with (fail)
  obtain ⟨b7, hb7⟩ : ∃ b, w2.heap.size = b := ⟨_, rfl⟩
  obtain ⟨n, hn⟩ : ∃ n, w.heap.size + 1 + 1 = n := ⟨_, rfl⟩
  obtain ⟨W0, eW0⟩ : ∃ W, (w2.alloc (.cells #[.slice A2 t.length c2] 111)).alloc (.cells #[.func (.func 82) #[] #[.pointer (some ⟨w.heap.size + 1, 0, none⟩)]] 127) = W := ⟨_, rfl⟩
  have h20 : Below w2.heap.size w2 W0 := eW0 ▸ below_alloc (below_alloc (Below.refl _ _) _) _
  have KS0 := Aside0.mk (blk_below KS2.out h20)
  have KG0 := Aside0.mk (blk_below KG2.out h20)
  have HD0 := Aside0.mk (show Duo W0 n (.slice none 0 0) 0 from hn ▸ ⟨blk_below HD2.out.1 h20, blk_below HD2.out.2 h20⟩)
  have HB0 := Aside0.mk (below_step HB2.out h20)
  have HC0 := Aside0.mk (Kd.C_below HC2.out h20)
  have B7 := Aside0.mk (show Boxed W0 b7 111 (.slice A2 t.length c2) from eW0 ▸ hb7 ▸ (Boxed.new w2 111 _).alloc _)
  have B8 := Aside0.mk (show Boxed W0 (b7 + 1) 127 (.func (.func 82) #[] #[.pointer (some ⟨w.heap.size + 1, 0, none⟩)]) from by
    have h := Boxed.new (w2.alloc (.cells #[.slice A2 t.length c2] 111)) 127 (.func (.func 82) #[] #[.pointer (some ⟨w.heap.size + 1, 0, none⟩)])
    rw [eW0, World.size_alloc, hb7] at h
    exact h)
  have HN := Aside0.mk (show w.heap.size ≤ n from by omega)
  simp only [hb7, hn, eW0]
  clear h20 KS2 KG2 HD2 HB2 HC2 hb7 hn eW0
  refine wp_loop_ghost_k (fun k a' W => ∃ (i : Nat) (Ds : List Nat) (u : Nat → Value), Aside0 (i + k = t.length) ∧ Aside0 (twI g0 g1 g2 g3 l0 l1 t k i = some o) ∧ Aside0 (Below W0.heap.size W0 W) ∧ Aside0 (MarksOk w.heap.size Ds W) ∧ a' = { tmps := #[.agg #[.slice A0 l0.length c0, .slice A1 l1.length c1], .agg #[.int .i64 g0, .int .i64 g1, .int .i64 g2, .int .i64 g3], .pointer (some ⟨w.heap.size, 0, none⟩), .pointer (some ⟨w.heap.size + 1, 0, none⟩), .pointer (some ⟨n, 0, none⟩), .pointer (some ⟨n + 1, 0, none⟩), .int .i64 0, .pointer (some ⟨b7, 0, none⟩), .pointer (some ⟨b7 + 1, 0, none⟩), u 9, u 10, u 11, u 12, u 13, .agg #[.slice A0 l0.length c0, .slice A1 l1.length c1], .agg #[.int .i64 g0, .int .i64 g1, .int .i64 g2, .int .i64 g3], .int .i64 0, .int .i64 0, .bool false, undef, .agg #[.int .i64 g0, .int .i64 g1, .int .i64 g2, .int .i64 g3], .agg #[.int .i64 g0, .int .i64 g1, .int .i64 g2, .int .i64 g3], .agg #[.slice A0 l0.length c0, .slice A1 l1.length c1], .slice A2 t.length c2, .func (.func 82) #[] #[.pointer (some ⟨w.heap.size + 1, 0, none⟩)], .slice A2 t.length c2, .int .i64 (t.length : Int), .int .i64 (i : Int), u 28, u 29, u 30, u 31, u 32, u 33, u 34, u 35, u 36, u 37, u 38, u 39, u 40, u 41, u 42, u 43, u 44, u 45, u 46, u 47, u 48, u 49, u 50, u 51, u 52, u 53, u 54, u 55, u 56, u 57, u 58, u 59, u 60, u 61, u 62, u 63, u 64, u 65, u 66, u 67, u 68, u 69, u 70, u 71, u 72, u 73, u 74, u 75, u 76, u 77, u 78, u 79, u 80, u 81, u 82, u 83, u 84, u 85, u 86, u 87, u 88, u 89, u 90, u 91, u 92, u 93, u 94, u 95, u 96, u 97], defers := marks Ds }) t.length ?start ?round
  case start => exact ⟨0, [], fun _ => undef, ⟨by omega⟩, HO, ⟨Below.refl _ _⟩, ⟨MarksOk.nil _ _⟩, rfl⟩
  case round =>
    clear HO
    rintro gk a' wr ⟨i, Ds, u, HI, HG, HB, HM, rfl⟩ J K hJ hK
    have hd := HD0.out
    cases gk with
    | zero =>
      have hie : decide (i < t.length) = false := by have := HI.out; simp; omega
      have hd2 : Duo wr n (.slice none 0 0) 0 := ⟨blk_below HD0.out.1 HB.out, blk_below HD0.out.2 HB.out⟩
      have hc2 := hd2.1.cell
      have hf2 := hd2.1.frozen
      have hc3 := hd2.2.cell
      have hf3 := hd2.2.frozen
      have ho : o = none := (Option.some.inj HG.out).symm
      have hr := HRR.out
      rw [ho] at hr
      obtain ⟨rfl, rfl⟩ : r = [] ∧ er = 7 := by simpa using hr
      have hBw := below_step HB0.out HB.out
      have hMO := HM.out
      clear hr ho HG HM HRR hd
      go_wp2
      obtain ⟨W5, e5, hD5, hB5⟩ := duo_put hd2 hBw HN.out (.slice none 0 0) 7
      rw [← e5]
      refine tw_leaves ?_ ⟨hB5, _, hD5, own_nil _ _ _ _⟩ rfl rfl
      rw [e5]
      exact (hMO.keep ((KeepsOthers.setCell _ _ _).from _)).keep ((KeepsOthers.setCell _ _ _).from _)
    | succ k1 =>
      have hg := HG.out
      unfold twI at hg
      split at hg
      case isFalse => simp at hg
      rename_i hx01
      obtain ⟨h00, h01⟩ := hx01
      obtain ⟨o1, ho1, hg⟩ := Option.bind_eq_some_iff.mp hg
      obtain ⟨x, hx, hx64⟩ : ∃ x : Nat, rd t i = (x : Int) ∧ x < 18446744073709551616 := ⟨(rd t i).toNat, by omega, by omega⟩
      rw [hx, Int.toNat_natCast] at ho1
      have HO1 := Aside0.mk ho1
      have HNX := Aside0.mk hg
      clear ho1 hg HG h00 h01 hd
      have hil : i < t.length := by have := HI.out; omega
      have hie : decide (i < t.length) = true := decide_eq_true hil
      have hCw := Kd.C_below HC0.out HB.out
      obtain ⟨adr, e0, hx0⟩ := Kd.at_int hCw (i : Int) (by omega) (by omega)
      cases e0
      rw [hx] at hx0
      simp only [Int.toNat_natCast] at hx0
      have HX := Aside0.mk hx
      obtain ⟨W1, eW1⟩ : ∃ W, (wr.alloc (.cells #[.int .i64 (i : Int)] 3)).alloc (.cells #[.int .u64 (x : Int)] 116) = W := ⟨_, rfl⟩
      have hr1 : Below wr.heap.size wr W1 := eW1 ▸ below_alloc (below_alloc (Below.refl _ _) _) _
      have B9 : Boxed W1 wr.heap.size 3 (.int .i64 (i : Int)) := eW1 ▸ (Boxed.new wr 3 _).alloc _
      have B10 : Boxed W1 (wr.heap.size + 1) 116 (.int .u64 (x : Int)) := by
        have h := Boxed.new (wr.alloc (.cells #[.int .i64 (i : Int)] 3)) 116 (.int .u64 (x : Int))
        rw [eW1, World.size_alloc] at h
        exact h
      have hc10 := B10.cell
      clear hx hCw
      go_wp2_with (go_at_call 83; refine (guard_bitsOf.calls (x : Int) _).mono ?_; rintro e w1 ⟨rfl, hw1⟩; rw [hw1]; clear hw1)
      obtain ⟨b9, hb9⟩ : ∃ b, wr.heap.size = b := ⟨_, rfl⟩
      have HB1 := Aside0.mk (below_step HB.out hr1)
      have HM1 := Aside0.mk (HM.out.below hr1)
      have hwi := Aside0.mk (show wrap64 ((i : Int) + 1) = ((i + 1 : Nat) : Int) from by have := LN.out.1; have := HTL.out; rw [← i64_w, IntKind.wrap_i64]; omega)
      rw [hb9] at B9 B10
      simp only [hb9]
      clear hc10 hx0 hie eW1 hr1 HB HM hb9
      have h2w : 2 ≤ W1.heap.size := Nat.le_trans HT.out.two (Nat.le_trans HB0.out.size HB1.out.size)
      have hTW := HT.out.go (below_step HB0.out HB1.out)
      refine (wpIn_wide (n := 3)).1 ?_
      refine range_out (xs := bitsL x) rfl (enters_of Tryd.func102 (by kernel_rfl) rfl) (bits_seq x W1.heap.size hx64 _ (blk_new _ _) (hTW.go (below_alloc (Below.refl _ _) _))) (fun _ => rfl) (fun h k => h.trans k)
        (fun W l' r1 r2 hl' h => KeepB.put (by simp only [World.size_alloc] at hl'; omega) (by simp only [World.size_alloc] at hl'; omega)) (fun A A' ⟨v, e⟩ => by rw [e]; exact (KeepsOthers.setCell _ _ _).from _)
        (TwIk g0 g1 g2 g3 l0 l1 t i W1) (TwXk w n i o1 Ds W1) ?hI ?hIx ?hIs ?hIxs ?h0 (fun k a' W => ∃ b, a' = { tmps := #[.agg #[.slice A0 l0.length c0, .slice A1 l1.length c1], .agg #[.int .i64 g0, .int .i64 g1, .int .i64 g2, .int .i64 g3], .pointer (some ⟨w.heap.size, 0, none⟩), .pointer (some ⟨w.heap.size + 1, 0, none⟩), .pointer (some ⟨n, 0, none⟩), .pointer (some ⟨n + 1, 0, none⟩), .int .i64 0, .pointer (some ⟨b7, 0, none⟩), .pointer (some ⟨b7 + 1, 0, none⟩), .pointer (some ⟨b9, 0, none⟩), .pointer (some ⟨b9 + 1, 0, none⟩), .pointer (some ⟨b, 0, none⟩), u 12, u 13, .agg #[.slice A0 l0.length c0, .slice A1 l1.length c1], .agg #[.int .i64 g0, .int .i64 g1, .int .i64 g2, .int .i64 g3], .int .i64 0, .int .i64 0, .bool false, undef, .agg #[.int .i64 g0, .int .i64 g1, .int .i64 g2, .int .i64 g3], .agg #[.int .i64 g0, .int .i64 g1, .int .i64 g2, .int .i64 g3], .agg #[.slice A0 l0.length c0, .slice A1 l1.length c1], .slice (some adr) t.length c2, .func (.func 82) #[] #[.pointer (some ⟨w.heap.size + 1, 0, none⟩)], .slice (some adr) t.length c2, .int .i64 (t.length : Int), .int .i64 (i : Int), .bool true, .int .i64 (i : Int), .pointer (some (adr.add i)), .int .u64 (x : Int), .int .u64 (x : Int), .func (.func 102) #[] #[.pointer (some ⟨W1.heap.size, 0, none⟩)], .int .i64 (k : Int), u 35, u 36, u 37, u 38, u 39, u 40, u 41, u 42, u 43, u 44, u 45, u 46, u 47, u 48, u 49, u 50, u 51, u 52, u 53, u 54, u 55, u 56, u 57, u 58, u 59, u 60, u 61, u 62, u 63, u 64, u 65, u 66, u 67, u 68, u 69, u 70, u 71, u 72, u 73, u 74, u 75, u 76, u 77, u 78, u 79, u 80, u 81, u 82, u 83, u 84, u 85, u 86, u 87, u 88, u 89, u 90, u 91, u 92, u 93, u 94, u 95, u 96, u 97], defers := [] } ∧ Boxed W b 3 (.int .i64 (k : Int))) ?hAx ?assign ?body ?done ?stop
      case hI =>
        rintro s W W' row ⟨z1, z2, ⟨v, z3⟩⟩ hg hrow
        exact ⟨z1, z2.grown hg z2.size (fun q e => by have h1 := (hrow q e).1; simp only [World.size_alloc] at h1; omega), ⟨v, boxed_keptC z3 hg (fun q e => (hrow q e).2)⟩⟩
      case hIx =>
        rintro c s W W' row ⟨z0, p, z1, z2, ⟨v, z3⟩, z4⟩ hg hrow
        have hr' : ∀ q, row = some q → w.heap.size ≤ q ∧ ∃ o : Obj, W.heap[q]? = some o ∧ o.isCells = false := fun q e => ⟨by have h1 := (hrow q e).1; simp only [World.size_alloc] at h1; have := (below_step HB0.out HB1.out).size; omega, (hrow q e).2⟩
        exact ⟨z0, p, z1, z2.grown hg hr', ⟨v, boxed_keptC z3 hg (fun q e => (hrow q e).2)⟩, z4.grown (N := W1.heap.size + 1) (fun D hD => by have := HM1.out.lt D hD; omega) hg (fun q e => by have h1 := (hrow q e).1; simpa only [World.size_alloc] using h1)⟩
      case hIs =>
        rintro s A A' ⟨z1, z2, ⟨v, z3⟩⟩ ⟨z, rfl⟩
        exact ⟨z1, z2.setCell (p := ⟨W1.heap.size, 0, none⟩) (Nat.le_refl _) z, ⟨z, z3.set z⟩⟩
      case hIxs =>
        rintro c s A A' ⟨z0, p, z1, z2, ⟨v, z3⟩, z4⟩ ⟨z, rfl⟩
        exact ⟨z0, p, z1, z2.set z3 (below_step HB0.out HB1.out).size z, ⟨z, z3.set z⟩, z4.keep ((KeepsOthers.setCell _ _ _).from _)⟩
      case h0 => exact ⟨fun _ => rfl, below_alloc (Below.refl _ _) _, ⟨_, Boxed.new _ _ _⟩⟩
      case hAx =>
        rintro x a' s W W' row ⟨b, e, h⟩ hg hrow
        exact ⟨b, e, boxed_keptC h hg (fun q e => (hrow q e).2)⟩
      case assign =>
        rintro m l' pre k W K ⟨z1, z2, ⟨v, z3⟩⟩ hpre hK
        gi_wp2
        exact hK _ _ (keepsFrom_below (below_alloc (Below.refl _ _) _)) (KeepB.below (below_alloc (Below.refl _ _) _) z3.lt (by have := z2.size; omega)) ⟨z1, below_step z2 (below_alloc (Below.refl _ _) _), ⟨v, z3.alloc _⟩⟩ ⟨_, rfl, Boxed.new _ _ _⟩
      case done =>
        rintro D W hD ⟨z1, z2, z3⟩ hDm
        have h1 := z1 []
        rw [List.append_nil, HO1.out] at h1
        obtain rfl : o1 = none := Option.some.inj h1
        have HNX2 := Aside0.mk (show twI g0 g1 g2 g3 l0 l1 t k1 (i + 1) = some o from HNX.out)
        clear HNX HO1 h1 z1 z3
        go_wp2
        have hMO := HM1.out
        have hMl := hMO.lt
        simp only [World.size_alloc] at hD
        rw [hwi.out]
        refine Handed.intro k1 (Nat.lt_succ_self _) (hJ _ _ _ ⟨i + 1, D :: Ds, fun q => if q = 9 then .pointer (some ⟨b9, 0, none⟩) else if q = 10 then .pointer (some ⟨b9 + 1, 0, none⟩) else if q = 28 then .bool true else if q = 29 then .int .i64 (i : Int) else if q = 30 then .pointer (some (adr.add i)) else if q = 31 then .int .u64 (x : Int) else if q = 32 then .int .u64 (x : Int) else if q = 33 then .func (.func 102) #[] #[.pointer (some ⟨W1.heap.size, 0, none⟩)] else if q = 97 then .int .i64 ((i + 1 : Nat) : Int) else u q, ⟨by have := HI.out; omega⟩, HNX2, ⟨below_step HB1.out z2⟩, ⟨MarksOk.cons (hMO.below z2) (by have := (below_step HB0.out HB1.out).size; omega) hDm (fun hm => by have := hMl D hm; omega)⟩, rfl⟩)
      case stop =>
        rintro D c pre W hD hpre ⟨rfl, p, z1, z2, z3, z4⟩ hDm
        subst z1
        have ho : o = some (i, p.1, p.2.1, p.2.2) := (Option.some.inj HNX.out).symm
        have hr := HRR.out
        rw [ho] at hr
        obtain ⟨rfl, rfl⟩ : r = [⟨(i : Int), (p.1 : Int)⟩, ⟨(p.2.1 : Int), (p.2.2 : Int)⟩] ∧ er = 0 := by
          rcases hr with ⟨h, _⟩ | ⟨i', k', j', m', e1, e2, e3⟩
          · cases h
          · simp only [Option.some.injEq, Prod.mk.injEq] at e1
            obtain ⟨rfl, rfl, rfl, rfl⟩ := e1
            exact ⟨e2, e3⟩
        have hMl := HM1.out.lt
        simp only [World.size_alloc] at hD
        clear HNX HO1 HRR hr ho z3
        gi_wp2_with (fail)
        refine tw_leaves (Ds := D :: Ds) (MarksOk.cons z4 (by have := (below_step HB0.out HB1.out).size; omega) hDm (fun hm => by have := hMl D hm; omega)) z2 rfl rfl
      case body =>
        rintro m l' pre k a' W hl' ⟨rl, hrl⟩ ⟨z1, z2, ⟨vB, z3⟩⟩ ⟨b11, rfl, B11⟩ ⟨suf, hsuf⟩
        have hK1 := HO1.out
        rw [← hsuf, List.append_assoc, z1, List.singleton_append] at hK1
        unfold twK at hK1
        split at hK1
        case isFalse => simp at hK1
        rename_i hk64
        obtain ⟨oj, hj, hK1⟩ := Option.bind_eq_some_iff.mp hK1
        have Z1 := Aside0.mk z1
        have Z2 := Aside0.mk z2
        have Z3 := Aside0.mk z3
        have KB11 := Aside0.mk B11
        have KB9 := Aside0.mk (show Boxed W b9 3 (.int .i64 (i : Int)) from blk_below B9 z2)
        have KB10 := Aside0.mk (show Boxed W (b9 + 1) 116 (.int .u64 (x : Int)) from blk_below B10 z2)
        have HJG := Aside0.mk hj
        have HJ0 := Aside0.mk hj
        have HK1 := Aside0.mk hK1
        have HRL := Aside0.mk hrl
        have HBW := Aside0.mk (below_step HB1.out z2)
        have HK64 := Aside0.mk hk64
        have HIL := Aside0.mk hil
        have hc9 : W.cell? ⟨b9, 0, none⟩ = some (.int .i64 (i : Int)) := KB9.out.cell
        clear z1 z2 z3 B11 B9 B10 hj hK1 hrl hsuf hk64 hil
        have HB12 := Aside0.mk (show Boxed (W.alloc (.cells #[.int .i64 (wrap64 ((i : Int) + 1))] 3)) W.heap.size 3 (.int .i64 ((i + 1 : Nat) : Int)) from hwi.out ▸ Boxed.new W 3 _)
        have HBN := Aside0.mk (show Below W.heap.size W (W.alloc (.cells #[.int .i64 (wrap64 ((i : Int) + 1))] 3)) from below_alloc (Below.refl _ _) _)
        have HMW := Aside0.mk (HM1.out.below Z2.out)
        gi_wp2_with (fail)
        gi_loopg [12] (t.length - (i + 1)) (fun kq v12 wr => ∃ (j bj : Nat), v12 = .pointer (some ⟨bj, 0, none⟩) ∧ Aside0 (j + kq = t.length ∧ W.heap.size ≤ bj) ∧ Aside0 (twJ g0 g1 g2 g3 l0 l1 t i k kq j = some oj) ∧ Aside0 (Boxed wr bj 3 (.int .i64 (j : Int))) ∧ Aside0 (Below W.heap.size W wr))
        case atStart => exact ⟨i + 1, W.heap.size, rfl, ⟨by have := HIL.out; omega, Nat.le_refl _⟩, HJG, HB12, HBN⟩
        case round =>
          clear HJG HB12 HBN hc9
          obtain ⟨j, bj, rfl, HJ, HJG, HBJ, HBq⟩ := hrel
          have hcj : wr.cell? ⟨bj, 0, none⟩ = some (.int .i64 (j : Int)) := HBJ.out.cell
          have hb0q := below_step HBW.out HBq.out
          have hc7 : wr.cell? ⟨b7, 0, none⟩ = some (.slice (some adr) t.length c2) := (show Boxed wr b7 111 _ from blk_below B7.out hb0q).cell
          cases gk with
          | zero =>
            obtain rfl : j = t.length := by have := HJ.out.1; omega
            have hjb : decide (t.length < t.length) = false := by simp
            obtain rfl : oj = none := (Option.some.inj HJG.out).symm
            gi_wp2_with (fail)
            refine ⟨keepsFrom_below HBq.out, KeepB.below HBq.out Z3.out.lt (by have := Z2.out.size; omega), fun rest => ?_, below_step Z2.out HBq.out, ⟨vB, blk_below Z3.out HBq.out⟩⟩
            exact twK_step Z1.out HK64.out HJ0.out rest
          | succ k2 =>
            have hjl : j < t.length := by have := HJ.out.1; omega
            have hjb : decide (j < t.length) = true := decide_eq_true hjl
            have hwj := Aside0.mk (show wrap64 ((j : Int) + 1) = ((j + 1 : Nat) : Int) from by have := LN.out.1; have := HTL.out; rw [← i64_w, IntKind.wrap_i64]; omega)
            have hCq := Kd.C_below HC0.out hb0q
            obtain ⟨adr', e0, hxj⟩ := Kd.at_int hCq (j : Int) (by omega) (by omega)
            cases e0
            simp only [Int.toNat_natCast] at hxj
            have hck : wr.cell? ⟨b11, 0, none⟩ = some (.int .i64 (k : Int)) := (show Boxed wr b11 3 _ from blk_below KB11.out HBq.out).cell
            have hjs := HJG.out
            unfold twJ at hjs
            clear hCq HJG
            by_cases hbit : bitT (rd t j) k = 0
            · rw [if_pos hbit] at hjs
              have hbb : (Go.bits .and .u64 (rd t j / 2 ^ min k 64) 1 == 0) = true := beq_iff_eq.mpr hbit
              have HJG := Aside0.mk hjs
              clear hbit hjs
              gi_wp2_with (fail)
              refine cutIn0 ?_
              refine startIn_ (n' := 23) (S := fun w' => w'.cell? ⟨bj, 0, none⟩ = some (.int .i64 (j : Int)) ∧ w'.cell? ⟨b7, 0, none⟩ = some (.slice (some adr) t.length c2) ∧ w'.cell? (adr.add j) = some (.int .u64 (rd t j)) ∧ w'.cell? ⟨b11, 0, none⟩ = some (.int .i64 (k : Int))) (ds := []) (bl 23 0) (by kernel_rfl) rfl rfl (by kernel_rfl) (onlyThen_lets _) ⟨hcj, hc7, hxj, hck⟩ (fun hHeld => ?_)
              refine tS 0 43 (bl 23 1) hHeld ?_
              refine tS 1 44 (bl 23 3) hHeld ?_
              refine pS 2 45 (bl 23 7) ?_
              refine tS 3 46 (bl 23 15) hHeld ?_
              refine tS 4 47 (bl 23 31) hHeld ?_
              refine pS 5 48 (bl 23 63) ?_
              refine pS 6 49 (bl 23 127) ?_
              refine pS 7 50 (bl 23 255) ?_
              refine pS 8 51 (bl 23 511) ?_
              refine uS 9 52 (bl 23 1023) ?_
              refine uS 10 53 (bl 23 2047) ?_
              refine uS 11 54 (bl 23 4095) ?_
              refine uS 12 55 (bl 23 8191) ?_
              refine uS 13 56 (bl 23 16383) ?_
              refine uS 14 57 (bl 23 32767) ?_
              refine uS 15 58 (bl 23 65535) ?_
              refine uS 16 59 (bl 23 131071) ?_
              refine uS 17 60 (bl 23 262143) ?_
              refine uS 18 61 (bl 23 524287) ?_
              refine uS 19 62 (bl 23 1048575) ?_
              refine uS 20 63 (bl 23 2097151) ?_
              refine uS 21 64 (bl 23 4194303) ?_
              refine pS 22 65 (bl 23 8388607) ?_
              refine done_ (by kernel_rfl) ?_
              refine onlyThen_go ?_
              have HBd := Aside0.mk (below_step HBq.out (below_drew (Below.refl wr.heap.size wr)))
              have HBJd := Aside0.mk (show Boxed wr.drew bj 3 (.int .i64 (j : Int)) from HBJ.out)
              obtain ⟨wx, hwx⟩ : ∃ x, wr.drew = x := ⟨_, rfl⟩
              rw [hwx] at HBd HBJd ⊢
              clear hwx hHeld hcj hc7 hck hxj HBJ HBq hb0q
              have hcx : wx.cell? ⟨bj, 0, none⟩ = some (.int .i64 (j : Int)) := HBJd.out.cell
              have HBJn := Aside0.mk (Boxed.new wx 3 (.int .i64 (j : Int)))
              have hcy : (wx.alloc (.cells #[.int .i64 (j : Int)] 3)).cell? ⟨wx.heap.size, 0, none⟩ = some (.int .i64 (j : Int)) := HBJn.out.cell
              have hfy : (wx.alloc (.cells #[.int .i64 (j : Int)] 3)).frozen? ⟨wx.heap.size, 0, none⟩ = false := HBJn.out.frozen
              have HBn := Aside0.mk (below_step HBd.out (below_alloc (Below.refl wx.heap.size wx) (.cells #[.int .i64 (j : Int)] 3)))
              have HLn := Aside0.mk HBd.out.size
              gi_wp2
              rw [hwj.out]
              gi_roundg k2
              case measure => omega
              case rel => exact ⟨j + 1, wx.heap.size, rfl, ⟨by have := HJ.out.1; omega, HLn.out⟩, HJG, ⟨by first | exact HBJn.out.set _ | exact Boxed.new _ _ _⟩, ⟨by first | exact HBn.out.setCell (p := ⟨wx.heap.size, 0, none⟩) HLn.out _ | exact below_step HBd.out (below_alloc (Below.refl _ _) _)⟩⟩
            · rw [if_neg hbit] at hjs
              have hbb : (Go.bits .and .u64 (rd t j / 2 ^ min k 64) 1 == 0) = false := beq_eq_false_iff_ne.mpr hbit
              obtain ⟨bb, hbA, hjs⟩ := Option.bind_eq_some_iff.mp hjs
              have hbw := below_step HB0.out hb0q
              have hLw := Kd.C_below HL.out hbw
              obtain ⟨ad, Ax, cx, e0, hx0, hx1, hxl, hxC⟩ := at_T24 hLw (i : Int) (by omega) (by have := HIL.out; have := HTL.out; omega)
              cases e0
              obtain ⟨ad', Ay, cy, e0, hy0, hy1, hyl, hyC⟩ := at_T24 hLw (j : Int) (by omega) (by have := HTL.out; omega)
              cases e0
              obtain ⟨xi, hxi⟩ : ∃ x, rd_T24 l0 (i : Int) = x := ⟨_, rfl⟩
              obtain ⟨xj, hxj2⟩ : ∃ x, rd_T24 l0 (j : Int) = x := ⟨_, rfl⟩
              rw [hxi] at hx0 hx1 hxl hxC hbA
              rw [hxj2] at hy0 hy1 hyl hyC hbA
              simp only [Int.toNat_natCast] at hx0 hx1 hy0 hy1
              have hki : i < l0.length := by have := HIL.out; have := HTL.out; omega
              have hkj : j < l0.length := by have := HTL.out; omega
              have CT := Aside0.mk (fun W (hb : Below wr.heap.size wr W) => tw82 g0 g1 g2 g3 xi xj Ax Ay cx cy (w.heap.size + 1) bb W (blk_below (blk_below KG0.out hb0q) hb) (Kd.C_below hxC hb) hxl (Kd.C_below hyC hb) hyl hbA)
              have hc8 : wr.cell? ⟨b7 + 1, 0, none⟩ = some (.func (.func 82) #[] #[.pointer (some ⟨w.heap.size + 1, 0, none⟩)]) := (show Boxed wr (b7 + 1) 127 _ from blk_below B8.out hb0q).cell
              have hcs : wr.cell? ⟨w.heap.size, 0, none⟩ = some (.slice (some ad) l0.length c0) := (blk_cell (blk_below KS0.out hb0q) 0).trans rfl
              have hc9 : wr.cell? ⟨b9, 0, none⟩ = some (.int .i64 (i : Int)) := (show Boxed wr b9 3 _ from blk_below KB9.out HBq.out).cell
              have HJS := Aside0.mk hjs
              have hq0 : Below wr.heap.size wr wr.drew := below_drew (Below.refl _ _)
              clear hbw hLw hxi hxj2 hxl hxC hyl hyC hbA hjs hbit
              gi_wp2_with (fail)
              refine cutIn0 ?_
              refine startIn_ (n' := 23) (S := fun w' => w'.cell? ⟨bj, 0, none⟩ = some (.int .i64 (j : Int)) ∧ w'.cell? ⟨b7, 0, none⟩ = some (.slice (some adr) t.length c2) ∧ w'.cell? (adr.add j) = some (.int .u64 (rd t j)) ∧ w'.cell? ⟨b11, 0, none⟩ = some (.int .i64 (k : Int)) ∧ w'.cell? ⟨b7 + 1, 0, none⟩ = some (.func (.func 82) #[] #[.pointer (some ⟨w.heap.size + 1, 0, none⟩)]) ∧ w'.cell? ⟨w.heap.size, 0, none⟩ = some (.slice (some ad) l0.length c0) ∧ w'.cell? ⟨b9, 0, none⟩ = some (.int .i64 (i : Int)) ∧ w'.cell? (ad.add (i * 2)) = some (.int .i64 xi.f0) ∧ w'.cell? ⟨(ad.add (i * 2)).block, (ad.add (i * 2)).off + 1, none⟩ = some (.slice Ax xi.f1.length cx) ∧ w'.cell? (ad.add (j * 2)) = some (.int .i64 xj.f0) ∧ w'.cell? ⟨(ad.add (j * 2)).block, (ad.add (j * 2)).off + 1, none⟩ = some (.slice Ay xj.f1.length cy)) (ds := []) (bl 23 0) (by kernel_rfl) rfl rfl (by kernel_rfl) (onlyThen_lets _) ⟨hcj, hc7, hxj, hck, hc8, hcs, hc9, hx0, hx1, hy0, hy1⟩ (fun hHeld => ?_)
              refine tS 0 43 (bl 23 1) hHeld ?_
              refine tS 1 44 (bl 23 3) hHeld ?_
              refine pS 2 45 (bl 23 7) ?_
              refine tS 3 46 (bl 23 15) hHeld ?_
              refine tS 4 47 (bl 23 31) hHeld ?_
              refine pS 5 48 (bl 23 63) ?_
              refine pS 6 49 (bl 23 127) ?_
              refine pS 7 50 (bl 23 255) ?_
              refine pS 8 51 (bl 23 511) ?_
              refine pS 10 53 (bl 23 1535) ?_
              refine pS 15 58 (bl 23 34303) ?_
              refine tS 9 52 (bl 23 34815) hHeld ?_
              refine tS 11 54 (bl 23 36863) hHeld ?_
              refine tS 12 55 (bl 23 40959) hHeld ?_
              refine pS 13 56 (bl 23 49151) ?_
              refine tS 14 57 (bl 23 65535) hHeld ?_
              refine tS 16 59 (bl 23 131071) hHeld ?_
              refine tS 17 60 (bl 23 262143) hHeld ?_
              refine pS 18 61 (bl 23 524287) ?_
              refine tS 19 62 (bl 23 1048575) hHeld ?_
              refine one_ (i := 20) (N := some 63) (bl 23 2097151) rfl rfl (by kernel_rfl) (by decide) (fun K hK => ?_)
              refine goesv_ Tryd.func82 (by kernel_rfl) rfl #[.agg #[.int .i64 xi.f0, .slice Ax xi.f1.length cx], .agg #[.int .i64 xj.f0, .slice Ay xj.f1.length cy], .pointer (some ⟨w.heap.size + 1, 0, none⟩)] (by rfl) rfl rfl rfl (by simp only [List.map_toArray, List.map_cons, List.map_nil]; rfl) ?_
              with_reducible refine (CT.out _ hq0).mono ?_
              rintro e w5 ⟨rfl, hb5⟩
              refine ⟨_, rfl, ?_⟩
              refine hK.out _ _ ⟨pw_cell_below hb5 hHeld.1, pw_cell_below hb5 hHeld.2.1, pw_cell_below hb5 hHeld.2.2.1, pw_cell_below hb5 hHeld.2.2.2.1, pw_cell_below hb5 hHeld.2.2.2.2.1, pw_cell_below hb5 hHeld.2.2.2.2.2.1, pw_cell_below hb5 hHeld.2.2.2.2.2.2.1, pw_cell_below hb5 hHeld.2.2.2.2.2.2.2.1, pw_cell_below hb5 hHeld.2.2.2.2.2.2.2.2.1, pw_cell_below hb5 hHeld.2.2.2.2.2.2.2.2.2.1, pw_cell_below hb5 hHeld.2.2.2.2.2.2.2.2.2.2⟩ (fun hHeld => ?_)
              clear hK K
              refine nS 63 ?_
              refine pS 21 64 (bl 23 4194303) ?_
              refine pS 22 65 (bl 23 8388607) ?_
              refine done_ (by kernel_rfl) ?_
              refine onlyThen_go ?_
              have hq5 := below_step hq0 hb5
              have HBd := Aside0.mk (below_step HBq.out hq5)
              have HBJd := Aside0.mk (show Boxed w5 bj 3 (.int .i64 (j : Int)) from blk_below HBJ.out hq5)
              have hb05 := below_step hb0q hq5
              have hxj5 := pw_cell_below hq5 hxj
              clear hHeld hcj hc7 hck hxj HBJ HBq hb0q CT hc8 hcs hc9 hq0 hb5 hx0 hx1 hy0 hy1 hki hkj hbb hq5
              cases bb with
              | false =>
                have HJG := Aside0.mk (show twJ g0 g1 g2 g3 l0 l1 t i k k2 (j + 1) = some oj from HJS.out)
                obtain ⟨wx, hwx⟩ : ∃ x, w5 = x := ⟨_, rfl⟩
                rw [hwx] at HBd HBJd ⊢
                clear hwx hb05 hxj5 HJS
                have hcx : wx.cell? ⟨bj, 0, none⟩ = some (.int .i64 (j : Int)) := HBJd.out.cell
                have HBJn := Aside0.mk (Boxed.new wx 3 (.int .i64 (j : Int)))
                have hcy : (wx.alloc (.cells #[.int .i64 (j : Int)] 3)).cell? ⟨wx.heap.size, 0, none⟩ = some (.int .i64 (j : Int)) := HBJn.out.cell
                have hfy : (wx.alloc (.cells #[.int .i64 (j : Int)] 3)).frozen? ⟨wx.heap.size, 0, none⟩ = false := HBJn.out.frozen
                have HBn := Aside0.mk (below_step HBd.out (below_alloc (Below.refl wx.heap.size wx) (.cells #[.int .i64 (j : Int)] 3)))
                have HLn := Aside0.mk HBd.out.size
                gi_wp2
                rw [hwj.out]
                gi_roundg k2
                case measure => omega
                case rel => exact ⟨j + 1, wx.heap.size, rfl, ⟨by have := HJ.out.1; omega, HLn.out⟩, HJG, ⟨by first | exact HBJn.out.set _ | exact Boxed.new _ _ _⟩, ⟨by first | exact HBn.out.setCell (p := ⟨wx.heap.size, 0, none⟩) HLn.out _ | exact below_step HBd.out (below_alloc (Below.refl _ _) _)⟩⟩
              | true =>
                obtain ⟨om, hom, hjs⟩ := Option.bind_eq_some_iff.mp HJS.out
                have hc7 : w5.drew.cell? ⟨b7, 0, none⟩ = some (.slice (some adr) t.length c2) := (show Boxed w5 b7 111 _ from blk_below B7.out hb05).cell
                have hck : w5.drew.cell? ⟨b11, 0, none⟩ = some (.int .i64 (k : Int)) := (show Boxed w5 b11 3 _ from blk_below KB11.out HBd.out).cell
                have hcj : w5.drew.cell? ⟨bj, 0, none⟩ = some (.int .i64 (j : Int)) := HBJd.out.cell
                have hc10 : w5.drew.cell? ⟨b9 + 1, 0, none⟩ = some (.int .u64 (x : Int)) := (show Boxed w5 (b9 + 1) 116 _ from blk_below KB10.out HBd.out).cell
                have hxj : w5.drew.cell? (adr.add j) = some (.int .u64 (rd t j)) := hxj5
                obtain ⟨hy0, hy1⟩ := bits_u64 .andNot (Go.bits .and .u64 (x : Int) (rd t j)) (IntKind.u64.wrap (2 ^ min k 64)) (by simp)
                obtain ⟨y, hy, hy64⟩ : ∃ y : Nat, restT (rd t i) (rd t j) k = (y : Int) ∧ y < 18446744073709551616 := ⟨(restT (rd t i) (rd t j) k).toNat, by rw [HX.out]; unfold restT; omega, by rw [HX.out]; unfold restT; omega⟩
                rw [hy, Int.toNat_natCast] at hom
                have hye : Go.bits .andNot .u64 (Go.bits .and .u64 (x : Int) (rd t j)) (IntKind.u64.wrap (2 ^ min k 64)) = (y : Int) := by rw [HX.out] at hy; exact hy
                have HYE := Aside0.mk hye
                have HOM := Aside0.mk hom
                have HJT := Aside0.mk hjs
                clear hxj5 HJS hom hjs hy0 hy1 hy hye
                gi_wp2_with (fail)
                refine cutIn0 ?_
                refine startIn_ (n' := 10) (S := fun w' => w'.cell? ⟨b9 + 1, 0, none⟩ = some (.int .u64 (x : Int)) ∧ w'.cell? ⟨bj, 0, none⟩ = some (.int .i64 (j : Int)) ∧ w'.cell? ⟨b7, 0, none⟩ = some (.slice (some adr) t.length c2) ∧ w'.cell? (adr.add j) = some (.int .u64 (rd t j)) ∧ w'.cell? ⟨b11, 0, none⟩ = some (.int .i64 (k : Int))) (ds := []) (bl 10 0) (by kernel_rfl) rfl rfl (by kernel_rfl) (onlyThen_lets _) ⟨hc10, hcj, hc7, hxj, hck⟩ (fun hHeld => ?_)
                refine tS 0 66 (bl 10 1) hHeld ?_
                refine tS 1 67 (bl 10 3) hHeld ?_
                refine tS 2 68 (bl 10 7) hHeld ?_
                refine pS 3 69 (bl 10 15) ?_
                refine tS 4 70 (bl 10 31) hHeld ?_
                refine pS 5 71 (bl 10 63) ?_
                refine tS 6 72 (bl 10 127) hHeld ?_
                refine pS 7 73 (bl 10 255) ?_
                refine pS 8 74 (bl 10 511) ?_
                refine one_ (i := 9) (N := some 75) (bl 10 1023) rfl rfl (by kernel_rfl) (by decide) (fun K hK => ?_)
                refine goes_ Tryd.func83 (by kernel_rfl) rfl #[.int .u64 (Go.bits .andNot .u64 (Go.bits .and .u64 (x : Int) (rd t j)) (IntKind.u64.wrap (2 ^ min k 64)))] (by rfl) rfl rfl (by simp only [List.map_toArray, List.map_cons, List.map_nil]; rfl) ?_
                with_reducible refine (bits_any (Go.bits .andNot .u64 (Go.bits .and .u64 (x : Int) (rd t j)) (IntKind.u64.wrap (2 ^ min k 64))) _).mono ?_
                rintro e w6 ⟨rfl, hBC, hb6⟩
                refine ⟨_, rfl, ?_⟩
                refine hK.out _ _ ⟨pw_cell_below hb6 hHeld.1, pw_cell_below hb6 hHeld.2.1, pw_cell_below hb6 hHeld.2.2.1, pw_cell_below hb6 hHeld.2.2.2.1, pw_cell_below hb6 hHeld.2.2.2.2⟩ (fun hHeld => ?_)
                clear hK K
                refine nS 75 ?_
                refine done_ (by kernel_rfl) ?_
                refine onlyThen_go ?_
                have hb6' : Below w5.heap.size w5 w6 := below_step (below_drew (Below.refl _ _)) hb6
                have hBC' : Boxed w6 w5.heap.size 116 (.int .u64 (y : Int)) := HYE.out ▸ hBC
                have HB6 := Aside0.mk (below_step HBd.out hb6')
                have HBJ6 := Aside0.mk (show Boxed w6 bj 3 (.int .i64 (j : Int)) from blk_below HBJd.out hb6')
                have hsz5 := hBC'.lt
                have hwz : w.heap.size ≤ W.heap.size := (below_step HB0.out HBW.out).size
                have hW1 : W1.heap.size < W.heap.size := Z3.out.lt
                have h2z : 2 ≤ W1.heap.size := h2w
                have hdz := HBd.out.size
                have hTW6 := HT.out.go (below_step (below_step HB0.out HBW.out) HB6.out)
                have hDlt := HMW.out.lt
                have hBC6 := Aside0.mk hBC'
                clear hHeld hcj hc7 hck hxj hc10 hb6 hBC hb05 HYE hTW
                gi_wp2_with (fail)
                apply range_inF (xs := bitsL y) ((HB6.out.block l' (Array.getElem?_eq_some_iff.1 HRL.out).1).trans HRL.out) rfl (enters_of Tryd.func102 (by kernel_rfl) rfl) (bits_seq y w5.heap.size hy64 w6 hBC6.out hTW6) (fun _ => rfl) (fun h k => h.trans k) (KeepB.refl _)
                  (fun W l' r1 r2 hl' h => KeepB.put (by omega) (by omega)) (fun A A' ⟨v, e⟩ => by rw [e]; exact (KeepsOthers.setCell _ _ _).from _)
                  (TwIm g0 g1 g2 g3 l1 k w5) (TwXm w n i k j (W1.alloc (.cells #[.int .u64 (x : Int)] 116)).heap.size om Ds W W1 w5) ?hI ?hIx ?hIs ?hIxs ?h0 ?assign ?body ?done ?stop
                case assign =>
                  intro m2 l2 mm W6 KA hKA
                  have HKA := Aside0.mk hKA
                  clear hKA
                  gi_wp2
                  exact HKA.out _ rfl
                case hI =>
                  rintro s A A' row ⟨z1, z2, ⟨v, z3⟩⟩ hg hrow
                  exact ⟨z1, z2.grown hg z2.size (fun q e => by have h1 := (hrow q e).1; omega), ⟨v, boxed_keptC z3 hg (fun q e => (hrow q e).2)⟩⟩
                case hIx =>
                  rintro c s A A' row ⟨z0, mm, z1, z2, ⟨v, z3⟩, ⟨v', z4⟩, z5, z6⟩ hg hrow
                  have hr' : ∀ q, row = some q → w.heap.size ≤ q ∧ ∃ o : Obj, A.heap[q]? = some o ∧ o.isCells = false := fun q e => ⟨by have h1 := (hrow q e).1; omega, (hrow q e).2⟩
                  exact ⟨z0, mm, z1, z2.grown hg hr', ⟨v, boxed_keptC z3 hg (fun q e => (hrow q e).2)⟩, ⟨v', boxed_keptC z4 hg (fun q e => (hrow q e).2)⟩, z5.grown (N := W.heap.size) hDlt hg (fun q e => by have h1 := (hrow q e).1; omega), KeepsFrom.grownC z6 hg (fun q e => by have h1 := (hrow q e).1; omega)⟩
                case hIs =>
                  rintro s A A' ⟨z1, z2, ⟨v, z3⟩⟩ ⟨z, rfl⟩
                  exact ⟨z1, z2.setCell (p := ⟨w5.heap.size, 0, none⟩) (Nat.le_refl _) z, ⟨z, z3.set z⟩⟩
                case hIxs =>
                  rintro c s A A' ⟨z0, mm, z1, z2, ⟨v, z3⟩, ⟨v', z4⟩, z5, z6⟩ ⟨z, rfl⟩
                  exact ⟨z0, mm, z1, z2.set z3 (by omega) z, ⟨z, z3.set z⟩, ⟨v', boxed_far z4 (by omega) z⟩, z5.keep ((KeepsOthers.setCell _ _ _).from _), z6.trans ((KeepsOthers.setCell _ _ _).from _)⟩
                case h0 => exact ⟨fun _ => rfl, hb6', ⟨_, hBC6.out⟩⟩
                case done =>
                  rintro W8 ⟨z1, z2, z3⟩
                  have h1 := z1 []
                  rw [List.append_nil, HOM.out] at h1
                  obtain rfl : om = none := Option.some.inj h1
                  have HJG := Aside0.mk (show twJ g0 g1 g2 g3 l0 l1 t i k k2 (j + 1) = some oj from HJT.out)
                  have HBJx := Aside0.mk (show Boxed W8 bj 3 (.int .i64 (j : Int)) from blk_below HBJd.out z2)
                  have HBx := Aside0.mk (below_step HBd.out z2)
                  clear HBJd HBd
                  obtain ⟨wx, hwx⟩ : ∃ x, W8 = x := ⟨_, rfl⟩
                  have HBJd := Aside0.mk HBJx.out
                  have HBd := Aside0.mk HBx.out
                  rw [hwx] at HBd HBJd ⊢
                  clear hwx HOM HJT h1 z1 z2 z3 HBJx HBx
                  have hcx : wx.cell? ⟨bj, 0, none⟩ = some (.int .i64 (j : Int)) := HBJd.out.cell
                  have HBJn := Aside0.mk (Boxed.new wx 3 (.int .i64 (j : Int)))
                  have hcy : (wx.alloc (.cells #[.int .i64 (j : Int)] 3)).cell? ⟨wx.heap.size, 0, none⟩ = some (.int .i64 (j : Int)) := HBJn.out.cell
                  have hfy : (wx.alloc (.cells #[.int .i64 (j : Int)] 3)).frozen? ⟨wx.heap.size, 0, none⟩ = false := HBJn.out.frozen
                  have HBn := Aside0.mk (below_step HBd.out (below_alloc (Below.refl wx.heap.size wx) (.cells #[.int .i64 (j : Int)] 3)))
                  have HLn := Aside0.mk HBd.out.size
                  gi_wp2
                  rw [hwj.out]
                  gi_roundg k2
                  case measure => omega
                  case rel => exact ⟨j + 1, wx.heap.size, rfl, ⟨by have := HJ.out.1; omega, HLn.out⟩, HJG, ⟨by first | exact HBJn.out.set _ | exact Boxed.new _ _ _⟩, ⟨by first | exact HBn.out.setCell (p := ⟨wx.heap.size, 0, none⟩) HLn.out _ | exact below_step HBd.out (below_alloc (Below.refl _ _) _)⟩⟩
                case stop =>
                  rintro c pre' W8 hpre' ⟨rfl, mm, z1, z2, z3, z4, z5, z6⟩
                  subst z1
                  obtain rfl : oj = some (j, mm) := (Option.some.inj HJT.out).symm
                  have ho1 : o1 = some (k, j, mm) := (Option.some.inj HK1.out).symm
                  clear HJT HK1 HOM
                  gi_wp2_with (fail)
                  exact ⟨z6, rfl, (k, j, mm), ho1, z2, z4, z5⟩
                case body =>
                  rintro m2 l2 pre' mm a' W8 hl2 ⟨rl2, hrl2⟩ ⟨z1, z2, ⟨vC, z3⟩⟩ hF ⟨suf', hsuf'⟩
                  subst hF
                  have hM1 := HOM.out
                  rw [← hsuf', List.append_assoc, z1, List.singleton_append] at hM1
                  unfold twM at hM1
                  split at hM1
                  case isFalse => simp at hM1
                  rename_i hkm
                  obtain ⟨b2, hb2, hM1⟩ := Option.bind_eq_some_iff.mp hM1
                  have hWW := below_step HBW.out (below_step HBd.out z2)
                  have hbw := below_step HB0.out hWW
                  have hLw := Kd.C_below HR.out hbw
                  obtain ⟨ad1, Ak, ck, e0, hx0, hx1, hxl, hxC⟩ := at_T24 hLw (k : Int) (by omega) (by have := hkm.1; omega)
                  cases e0
                  obtain ⟨ad1', Am, cm, e0, hy0, hy1, hyl, hyC⟩ := at_T24 hLw (mm : Int) (by omega) (by have := hkm.2; omega)
                  cases e0
                  have HST := Aside0.mk (fun (e : b2 = false) => twM_step z1 hkm (e ▸ hb2))
                  obtain ⟨xk, hxk⟩ : ∃ x, rd_T24 l1 (k : Int) = x := ⟨_, rfl⟩
                  obtain ⟨xm, hxm⟩ : ∃ x, rd_T24 l1 (mm : Int) = x := ⟨_, rfl⟩
                  rw [hxk] at hx0 hx1 hxl hxC hb2
                  rw [hxm] at hy0 hy1 hyl hyC hb2
                  simp only [Int.toNat_natCast] at hx0 hx1 hy0 hy1
                  have hki := hkm.1
                  have hkj := hkm.2
                  have CT := Aside0.mk (fun W (hb : Below W8.heap.size W8 W) => tw82 g0 g1 g2 g3 xk xm Ak Am ck cm (w.heap.size + 1) b2 W (blk_below (blk_below KG0.out hWW) hb) (Kd.C_below hxC hb) hxl (Kd.C_below hyC hb) hyl hb2)
                  have hc8 : W8.cell? ⟨b7 + 1, 0, none⟩ = some (.func (.func 82) #[] #[.pointer (some ⟨w.heap.size + 1, 0, none⟩)]) := (show Boxed W8 (b7 + 1) 127 _ from blk_below B8.out hWW).cell
                  have hcs : W8.cell? ⟨w.heap.size, 1, none⟩ = some (.slice (some ad1) l1.length c1) := (blk_cell (blk_below KS0.out hWW) 1).trans rfl
                  have hck : W8.cell? ⟨b11, 0, none⟩ = some (.int .i64 (k : Int)) := (show Boxed W8 b11 3 _ from blk_below (blk_below KB11.out HBd.out) z2).cell
                  have hq0 : Below W8.heap.size W8 W8.drew := below_drew (Below.refl _ _)
                  have Z28 := Aside0.mk z2
                  have Z38 := Aside0.mk z3
                  have HMM := Aside0.mk hM1
                  have HBW8 := Aside0.mk hbw
                  have HWW8 := Aside0.mk hWW
                  clear hxk hxm hLw hxl hxC hyl hyC hb2 hM1 z1 z2 z3 hsuf' hbw hWW
                  gi_wp2_with (fail)
                  refine cutIn0 ?_
                  refine startIn_ (n' := 12) (S := fun w' => w'.cell? ⟨b7 + 1, 0, none⟩ = some (.func (.func 82) #[] #[.pointer (some ⟨w.heap.size + 1, 0, none⟩)]) ∧ w'.cell? ⟨w.heap.size, 1, none⟩ = some (.slice (some ad1) l1.length c1) ∧ w'.cell? ⟨b11, 0, none⟩ = some (.int .i64 (k : Int)) ∧ w'.cell? (ad1.add (k * 2)) = some (.int .i64 xk.f0) ∧ w'.cell? ⟨(ad1.add (k * 2)).block, (ad1.add (k * 2)).off + 1, none⟩ = some (.slice Ak xk.f1.length ck) ∧ w'.cell? (ad1.add (mm * 2)) = some (.int .i64 xm.f0) ∧ w'.cell? ⟨(ad1.add (mm * 2)).block, (ad1.add (mm * 2)).off + 1, none⟩ = some (.slice Am xm.f1.length cm)) (ds := []) (bl 12 0) (by kernel_rfl) rfl rfl (by kernel_rfl) (onlyThen_lets _) ⟨hc8, hcs, hck, hx0, hx1, hy0, hy1⟩ (fun hHeld => ?_)
                  refine pS 1 78 (bl 12 2) ?_
                  refine pS 6 83 (bl 12 66) ?_
                  refine pS 8 85 (bl 12 322) ?_
                  refine tS 0 77 (bl 12 323) hHeld ?_
                  refine tS 2 79 (bl 12 327) hHeld ?_
                  refine tS 3 80 (bl 12 335) hHeld ?_
                  refine pS 4 81 (bl 12 351) ?_
                  refine tS 5 82 (bl 12 383) hHeld ?_
                  refine tS 7 84 (bl 12 511) hHeld ?_
                  refine pS 9 86 (bl 12 1023) ?_
                  refine tS 10 87 (bl 12 2047) hHeld ?_
                  refine one_ (i := 11) (N := some 88) (bl 12 4095) rfl rfl (by kernel_rfl) (by decide) (fun K hK => ?_)
                  refine goesv_ Tryd.func82 (by kernel_rfl) rfl #[.agg #[.int .i64 xk.f0, .slice Ak xk.f1.length ck], .agg #[.int .i64 xm.f0, .slice Am xm.f1.length cm], .pointer (some ⟨w.heap.size + 1, 0, none⟩)] (by rfl) rfl rfl rfl (by simp only [List.map_toArray, List.map_cons, List.map_nil]; rfl) ?_
                  with_reducible refine (CT.out _ hq0).mono ?_
                  rintro e w9 ⟨rfl, hb9⟩
                  refine ⟨_, rfl, ?_⟩
                  refine hK.out _ _ ⟨pw_cell_below hb9 hHeld.1, pw_cell_below hb9 hHeld.2.1, pw_cell_below hb9 hHeld.2.2.1, pw_cell_below hb9 hHeld.2.2.2.1, pw_cell_below hb9 hHeld.2.2.2.2.1, pw_cell_below hb9 hHeld.2.2.2.2.2.1, pw_cell_below hb9 hHeld.2.2.2.2.2.2⟩ (fun hHeld => ?_)
                  clear hK K
                  refine nS 88 ?_
                  refine done_ (by kernel_rfl) ?_
                  refine onlyThen_go ?_
                  have hq9 := below_step hq0 hb9
                  have ZZ := below_step Z28.out hq9
                  have hI9 : w9.cell? ⟨b9, 0, none⟩ = some (.int .i64 (i : Int)) := (show Boxed w9 b9 3 _ from blk_below (blk_below KB9.out HBd.out) ZZ).cell
                  have hK9 : w9.cell? ⟨b11, 0, none⟩ = some (.int .i64 (k : Int)) := pw_cell_below hq9 hck
                  have hJ9 : w9.cell? ⟨bj, 0, none⟩ = some (.int .i64 (j : Int)) := (show Boxed w9 bj 3 _ from blk_below HBJd.out ZZ).cell
                  have hsz9 := hq9.size
                  have hlt9 := Z38.out.lt
                  clear hHeld hck hc8 hcs hb9 hq0 hx0 hx1 hy0 hy1 hki hkj CT
                  cases b2 with
                  | false =>
                    have HST2 := Aside0.mk (HST.out rfl)
                    clear HST
                    gi_wp2_with (fail)
                    exact ⟨keepsFrom_below hq9, KeepB.below hq9 hlt9 (by omega), fun rest => HST2.out rest, ZZ, ⟨vC, blk_below Z38.out hq9⟩⟩
                  | true =>
                    have hom : om = some mm := (Option.some.inj HMM.out).symm
                    have hDW : Duo w9 n (.slice none 0 0) 0 := ⟨blk_below (blk_below HD0.out.1 HWW8.out) hq9, blk_below (blk_below HD0.out.2 HWW8.out) hq9⟩
                    have hDX : Duo (w9.alloc (.cells #[.int .i64 (i : Int), .int .i64 (k : Int), .int .i64 (j : Int), .int .i64 (mm : Int)] 85)) n (.slice none 0 0) 0 := ⟨hDW.1.alloc _, hDW.2.alloc _⟩
                    have hD2 := hDX.set0 (.slice (some ⟨w9.heap.size, 0, none⟩) 2 2)
                    have hD3 := hD2.set1 0
                    have hgx := blk_new w9 (.cells #[.int .i64 (i : Int), .int .i64 (k : Int), .int .i64 (j : Int), .int .i64 (mm : Int)] 85)
                    have hnx := hDW.2.lt
                    have hf4 := hDX.1.frozen
                    have hc4 := hDX.1.cell
                    have hf5 := hD2.2.frozen
                    have hc5 := hD2.2.cell
                    clear HST HMM
                    gi_wp2_with (fail)
                    clear hf4 hc4 hf5 hc5 hI9 hK9 hJ9
                    have hKF : ∀ B W', KeepsFrom B W' w9 → KeepsFrom B W' (((w9.alloc (.cells #[.int .i64 (i : Int), .int .i64 (k : Int), .int .i64 (j : Int), .int .i64 (mm : Int)] 85)).setCell ⟨n, 0, none⟩ (.slice (some ⟨w9.heap.size, 0, none⟩) 2 2)).setCell ⟨n + 1, 0, none⟩ (.int .i64 0)) := fun B W' h =>
                      ((h.trans (keepsFrom_below (below_alloc (Below.refl _ _) _))).trans ((KeepsOthers.setCell _ _ _).from _)).trans ((KeepsOthers.setCell _ _ _).from _)
                    have hBx := (((below_step HBW8.out hq9).alloc (by have := HBW8.out.size; omega) (.cells #[.int .i64 (i : Int), .int .i64 (k : Int), .int .i64 (j : Int), .int .i64 (mm : Int)] 85)).setCell (p := ⟨n, 0, none⟩) HN.out (.slice (some ⟨w9.heap.size, 0, none⟩) 2 2)).setCell (p := ⟨n + 1, 0, none⟩) (by have := HN.out; simp; omega) (.int .i64 0)
                    have nx : ∀ {B t : Nat} {v : Value}, Boxed w9 B t v → t ≠ 42 → t ≠ 30 → Boxed (((w9.alloc (.cells #[.int .i64 (i : Int), .int .i64 (k : Int), .int .i64 (j : Int), .int .i64 (mm : Int)] 85)).setCell ⟨n, 0, none⟩ (.slice (some ⟨w9.heap.size, 0, none⟩) 2 2)).setCell ⟨n + 1, 0, none⟩ (.int .i64 0)) B t v := fun h h1 h2 =>
                      boxed_far (boxed_far (h.alloc _) (fun e => by subst e; have h3 := (show w9.heap[_]? = _ from h).symm.trans (show w9.heap[_]? = _ from hDW.1); simp at h3; exact h1 h3.2) _) (fun e => by subst e; have h3 := (show w9.heap[_]? = _ from h).symm.trans (show w9.heap[_]? = _ from hDW.2); simp at h3; exact h2 h3.2) _
                    refine ⟨hKF _ _ (keepsFrom_below hq9), rfl, mm, hom, ⟨hBx, _, hD3, rfl, .inr ⟨w9.heap.size, 2, _, rfl, by have := HBW8.out.size; omega, (Below.heap_setCell _ _ _ _ (by simp; omega)).trans ((Below.heap_setCell _ _ _ _ (by simp; omega)).trans hgx), Nat.le_refl _, by unfold maxLen; omega, rfl, by simp [encP]⟩⟩, ⟨vC, nx (blk_below Z38.out hq9) (by decide) (by decide)⟩, ⟨vB, nx (blk_below (blk_below (blk_below Z3.out HBd.out) Z28.out) hq9) (by decide) (by decide)⟩, ((HMW.out.below (below_step (below_step HBd.out Z28.out) hq9)).keep (hKF _ _ (KeepsFrom.refl _ _))), hKF _ _ (keepsFrom_below (below_step (below_step HBd.out Z28.out) hq9))⟩
theorem guard_Twins.calls (A0 : Option Addr) (c0 : Nat) (l0 : List S24) (A1 : Option Addr) (c1 : Nat) (l1 : List S24) (g0 g1 g2 g3 : Int) (r1 : List S85) (r2 : Int) (w : World) (hr0 : Kd.C k24 w A0 l0.length l0) (hc0 : l0.length ≤ c0) (hr1 : Kd.C k24 w A1 l1.length l1) (hc1 : l1.length ≤ c1) (hT_ : TabOk w) (h : guard_Twins.f l0 l1 g0 g1 g2 g3 = some (r1, r2)) :
    Calls Tryd.prog 40 #[.agg #[.slice A0 l0.length c0, .slice A1 l1.length c1], .agg #[.int .i64 g0, .int .i64 g1, .int .i64 g2, .int .i64 g3]] w fun e w' => ∃ v : Value, e = .returned (.tuple #[v, .int .i64 r2]) ∧ Kd.R k85 85 w' w.heap.size (fun _ => True) v r1 ∧ Below w.heap.size w w' := by
  unfold guard_Twins.f at h
  by_cases he : checkS l0 l1 g0 g1 g2 g3 = 0
  · rw [if_pos he] at h
    obtain ⟨t, ht, h⟩ := Option.bind_eq_some_iff.mp h
    split at h
    case isFalse => simp at h
    rename_i hc
    obtain ⟨o, ho, h⟩ := Option.bind_eq_some_iff.mp h
    refine tw_some A0 c0 l0 A1 c1 l1 g0 g1 g2 g3 t o w hr0 hc0 hr1 hc1 hT_ he ht hc ho r1 r2 ?_
    cases o with
    | none =>
      simp only [Option.some.injEq, Prod.mk.injEq] at h
      exact .inl ⟨rfl, h.1.symm, h.2.symm⟩
    | some p =>
      simp only [Option.some.injEq, Prod.mk.injEq] at h
      exact .inr ⟨p.1, p.2.1, p.2.2.1, p.2.2.2, rfl, h.1.symm, h.2.symm⟩
  · rw [if_neg he] at h
    simp only [Option.some.injEq, Prod.mk.injEq] at h
    obtain ⟨rfl, rfl⟩ := h
    exact (tw_none A0 c0 l0 A1 c1 l1 g0 g1 g2 g3 w hr0 hc0 hr1 hc1 hT_ he).mono fun e w' ⟨h1, h2⟩ => ⟨_, h1, Kd.R_nil _ _ _ _ _, h2⟩
end Go.Proofs.YtamibghbkjmmeaaDoor.G
end
section
namespace Go.Proofs.YtamibghbkjmmeaaDoor.G
open Go.RowKit Go.Proofs.YtamibghbkjmmeaaDoorW.PrintWords Go.Proofs.YtamibghbkjmmeaaDoorW.PrintLast Go.Proofs.YtamibghbkjmmeaaDoorW.PrintMore
attribute [local go_sem] max2_int min2_int max_two min_two max_three min_three max_four min_four
set_option linter.unusedVariables false
set_option linter.unusedSimpArgs false
def guard_Alike.f (k : Nat) (a0_0 : Int) (l0_1 : List Int) (a1_0 : Int) (l1_1 : List Int) (a2_0 : Int) (a2_1 : Int) (a2_2 : Int) (a2_3 : Int) : Option (Bool × Bool × Int) := (guard_checkAll.f a2_0 a2_1 a2_2 a2_3 (([(⟨a0_0, l0_1⟩ : S24), (⟨a1_0, l1_1⟩ : S24)] : List (S24)))).bind fun t114 => (if t114 = 0 then ((guard_gauge_alike.f k a2_0 a2_1 a2_2 a2_3 a0_0 l0_1 a1_0 l1_1 2).bind fun t115 => ((guard_gauge_alike.f k a2_0 a2_1 a2_2 a2_3 a0_0 l0_1 a1_0 l1_1 (-2)).bind fun t116 => (some (t115, t116, 0)))) else (some (false, false, t114)))
def guard_Alike.T4 : Bool × List (List Nat × List Nat) := (true, [([], []), ([0], [0]), ([], []), ([], []), ([1, 2, 3], [1, 2, 3]), ([], []), ([5], [5]), ([], []), ([], []), ([6, 7, 8, 4], [6, 7, 8]), ([4, 9, 0, 1, 2, 3, 4], [4]), ([9, 10, 0, 1, 2, 3, 4, 5, 6, 7, 8, 9, 10], [9]), ([11, 0, 1, 2, 3, 4, 5, 6, 7, 8, 9, 10, 11], [])])
def guard_Alike.B4 : List Nat := [0, 1, 0, 0, 15, 0, 32, 0, 0, 511, 1023, 2047, 4095]
theorem guard_Alike.tab4 : rtab .any (opsOf Tryd.f18 4) = guard_Alike.T4 := by kernel_rfl
theorem guard_Alike.bits4 : waitsOk guard_Alike.T4.2 guard_Alike.B4 = true := by kernel_rfl
set_option maxHeartbeats 8000000 in
set_option maxRecDepth 100000 in
theorem guard_Alike.calls (k : Nat) (a0_0 : Int) (P0_1_ : Nat → Prop) (A0_1 : Option Addr) (c0_1 : Nat) (l0_1 : List Int) (a1_0 : Int) (P1_1_ : Nat → Prop) (A1_1 : Option Addr) (c1_1 : Nat) (l1_1 : List Int) (a2_0 : Int) (a2_1 : Int) (a2_2 : Int) (a2_3 : Int) (r1 : Bool) (r2 : Bool) (r3 : Int) (w : World) (hs0_1 : Kd.V (Kd.int .i64) 3 w w.heap.size (fun k_ => P0_1_ k_) (.slice A0_1 l0_1.length c0_1) l0_1) (hs1_1 : Kd.V (Kd.int .i64) 3 w w.heap.size (fun k_ => P1_1_ k_) (.slice A1_1 l1_1.length c1_1) l1_1) (h : guard_Alike.f k a0_0 l0_1 a1_0 l1_1 a2_0 a2_1 a2_2 a2_3 = some (r1, r2, r3)) :
    Calls Tryd.prog 18 #[.agg #[.int .i64 a0_0, .slice A0_1 l0_1.length c0_1], .agg #[.int .i64 a1_0, .slice A1_1 l1_1.length c1_1], .agg #[.int .i64 a2_0, .int .i64 a2_1, .int .i64 a2_2, .int .i64 a2_3]] w fun e w' => e = .returned (.tuple #[.bool r1, .bool r2, .int .i64 r3]) ∧ Below w.heap.size w w' := by
  have hu24 := Tryd.underlying24
  have hu26 := Tryd.underlying26
  have hu104 := Tryd.underlying104
  have HO0_1 := Aside0.mk (show Kd.V (Kd.int .i64) 3 w w.heap.size (fun k_ => ((P0_1_ k_ ∨ P1_1_ k_) ∨ w.heap.size ≤ k_)) (.slice A0_1 l0_1.length c0_1) l0_1 from Kd.V_mono hs0_1 (fun k_ hk => .inl (.inl hk)))
  have HO1_1 := Aside0.mk (show Kd.V (Kd.int .i64) 3 w w.heap.size (fun k_ => ((P0_1_ k_ ∨ P1_1_ k_) ∨ w.heap.size ≤ k_)) (.slice A1_1 l1_1.length c1_1) l1_1 from Kd.V_mono hs1_1 (fun k_ hk => .inl (.inr hk)))
  have HB := Aside0.mk (Below.refl w.heap.size w)
  have H : ((guard_checkAll.f a2_0 a2_1 a2_2 a2_3 (([(⟨a0_0, l0_1⟩ : S24), (⟨a1_0, l1_1⟩ : S24)] : List (S24)))).bind fun t114 => (if t114 = 0 then ((guard_gauge_alike.f k a2_0 a2_1 a2_2 a2_3 a0_0 l0_1 a1_0 l1_1 2).bind fun t115 => ((guard_gauge_alike.f k a2_0 a2_1 a2_2 a2_3 a0_0 l0_1 a1_0 l1_1 (-2)).bind fun t116 => (some (t115, t116, 0)))) else (some (false, false, t114)))) = some (r1, r2, r3) := h
  clear h
  obtain ⟨y111, hy111⟩ : ∃ y_ : List (S24), y_ = (([(⟨a0_0, l0_1⟩ : S24), (⟨a1_0, l1_1⟩ : S24)] : List (S24))) := ⟨_, rfl⟩
  replace H : ((guard_checkAll.f a2_0 a2_1 a2_2 a2_3 y111).bind fun t114 => (if t114 = 0 then ((guard_gauge_alike.f k a2_0 a2_1 a2_2 a2_3 a0_0 l0_1 a1_0 l1_1 2).bind fun t115 => ((guard_gauge_alike.f k a2_0 a2_1 a2_2 a2_3 a0_0 l0_1 a1_0 l1_1 (-2)).bind fun t116 => (some (t115, t116, 0)))) else (some (false, false, t114)))) = some (r1, r2, r3) := by first | (rw [hy111]; with_reducible exact H) | (have H2_ := (Option.bind_some _ _).symm.trans H; rw [hy111]; with_reducible exact H2_) | (have H2_ := (Option.bind_some _ _).symm.trans H; with_reducible exact H2_) | with_reducible exact H | (rw [hy111]; exact H) | exact H
  have Ny111 := Aside0.mk hy111
  clear hy111
  replace H := Option.bind_eq_some_iff.mp H
  obtain ⟨t114, A40, H⟩ := H
  replace H : (if t114 = 0 then ((guard_gauge_alike.f k a2_0 a2_1 a2_2 a2_3 a0_0 l0_1 a1_0 l1_1 2).bind fun t115 => ((guard_gauge_alike.f k a2_0 a2_1 a2_2 a2_3 a0_0 l0_1 a1_0 l1_1 (-2)).bind fun t116 => (some (t115, t116, 0)))) else (some (false, false, t114))) = some (r1, r2, r3) := H
  have A4 := Aside0.mk A40
  clear A40
  by_cases c5 : t114 = 0
  · rw [if_pos c5] at H
    have c5b0 : (t114 == 0) = true := beq_iff_eq.mpr c5
    have c5b1 : (t114 != 0) = false := bne_eq_false_iff_eq.mpr c5
    clear c5
    replace H := Option.bind_eq_some_iff.mp H
    obtain ⟨t115, A60, H⟩ := H
    replace H : ((guard_gauge_alike.f k a2_0 a2_1 a2_2 a2_3 a0_0 l0_1 a1_0 l1_1 (-2)).bind fun t116 => (some (t115, t116, 0))) = some (r1, r2, r3) := H
    have A6 := Aside0.mk A60
    clear A60
    replace H := Option.bind_eq_some_iff.mp H
    obtain ⟨t116, A70, H⟩ := H
    replace H : (some (t115, t116, 0)) = some (r1, r2, r3) := H
    have A7 := Aside0.mk A70
    clear A70
    simp only [Option.some.injEq, Prod.mk.injEq] at H
    obtain ⟨rfl, rfl, rfl⟩ := H
    go_enter Tryd.func18, Tryd.ntmps18
    try go_wp2_with (first | ((with_reducible refine gate_dst (N := 3) rfl ?_); refine box_event ?hg (N := 3) ?hd (cs := #[.int .i64 a0_0, .slice A0_1 l0_1.length c0_1]) (t := 24) ?hr ?_; (case hd => rfl); (case hg => rfl); (case hr => first | (go_simp; done) | (go_simp; rfl)); intro gb108 hg w8 hbox hb; have n0_ := Aside0.mk (Kd.V_below (Kd.V_elderB (by (with_reducible repeat (first | apply Kd.V_alloc | apply Kd.V_drewN | apply Kd.V_drew)); exact HO0_1.out) gb108 (Nat.le_of_eq hg.symm)) hb); have n1_ := Aside0.mk (Kd.V_below (Kd.V_elderB (by (with_reducible repeat (first | apply Kd.V_alloc | apply Kd.V_drewN | apply Kd.V_drew)); exact HO1_1.out) gb108 (Nat.le_of_eq hg.symm)) hb); have n2_ := Aside0.mk (below_step (by repeat (first | (with_reducible first | exact HB.out | apply below_alloc | apply pw_below_drewN | apply below_drew1) | exact HB.out)) hb); have n3_ := Aside0.mk (hbox); have n4_ := Aside0.mk ((by rw [hg]; exact (below_size (by repeat (first | (with_reducible first | exact HB.out | apply below_alloc | apply pw_below_drewN | apply below_drew1) | exact HB.out))) : w.heap.size ≤ gb108)); have n5_ := Aside0.mk ((by rw [hg]; exact (below_size (by repeat (first | (with_reducible first | exact HB.out | apply below_alloc | apply pw_below_drewN | apply below_drew1) | exact HB.out))) : w.heap.size ≤ gb108)); clear HO0_1; clear HO1_1; clear HB; have HO0_1 := n0_; have HO1_1 := n1_; have HB := n2_; have BK108 := n3_; have GW108 := n4_; have GE108 := n5_; clear n0_ n1_ n2_ n3_ n4_ n5_; clear hb hbox hg) | ((with_reducible refine gate_dst (N := 4) rfl ?_); refine box_event ?hg (N := 4) ?hd (cs := #[.int .i64 a1_0, .slice A1_1 l1_1.length c1_1]) (t := 24) ?hr ?_; (case hd => rfl); (case hg => rfl); (case hr => first | (go_simp; done) | (go_simp; rfl)); intro gb109 hg w9 hbox hb; have n0_ := Aside0.mk (Kd.V_below (Kd.V_elderB (by (with_reducible repeat (first | apply Kd.V_alloc | apply Kd.V_drewN | apply Kd.V_drew)); exact HO0_1.out) gb109 (Nat.le_of_eq hg.symm)) hb); have n1_ := Aside0.mk (Kd.V_below (Kd.V_elderB (by (with_reducible repeat (first | apply Kd.V_alloc | apply Kd.V_drewN | apply Kd.V_drew)); exact HO1_1.out) gb109 (Nat.le_of_eq hg.symm)) hb); have n2_ := Aside0.mk (blk_below (g := gb108) (o := .cells #[.int .i64 a0_0, .slice A0_1 l0_1.length c0_1] 24 (0, 0)) (by (with_reducible repeat (first | refine blk_drewN ?_ _ | refine blk_drew ?_ | refine blk_alloc ?_ _)); exact BK108.out) hb); have n3_ := Aside0.mk (below_step (by repeat (first | (with_reducible first | exact HB.out | apply below_alloc | apply pw_below_drewN | apply below_drew1 | refine below_set ?_ GE108.out) | exact HB.out)) hb); have n4_ := Aside0.mk (hbox); have n5_ := Aside0.mk ((by rw [hg]; exact (below_size (by repeat (first | (with_reducible first | exact HB.out | apply below_alloc | apply pw_below_drewN | apply below_drew1 | refine below_set ?_ GE108.out) | exact HB.out))) : w.heap.size ≤ gb109)); have n6_ := Aside0.mk ((by rw [hg]; exact (below_size (by repeat (first | (with_reducible first | exact HB.out | apply below_alloc | apply pw_below_drewN | apply below_drew1 | refine below_set ?_ GE108.out) | exact HB.out))) : w.heap.size ≤ gb109)); have n7_ := Aside0.mk ((by rw [hg]; exact Nat.ne_of_lt (blk_lt (g := gb108) (o := .cells #[.int .i64 a0_0, .slice A0_1 l0_1.length c0_1] 24 (0, 0)) (by (with_reducible repeat (first | refine blk_drewN ?_ _ | refine blk_drew ?_ | refine blk_alloc ?_ _)); exact BK108.out)) : gb108 ≠ gb109)); have n8_ := Aside0.mk ((by rw [hg]; exact Nat.ne_of_gt (blk_lt (g := gb108) (o := .cells #[.int .i64 a0_0, .slice A0_1 l0_1.length c0_1] 24 (0, 0)) (by (with_reducible repeat (first | refine blk_drewN ?_ _ | refine blk_drew ?_ | refine blk_alloc ?_ _)); exact BK108.out)) : gb109 ≠ gb108)); clear HO0_1; clear HO1_1; clear BK108; clear HB; have HO0_1 := n0_; have HO1_1 := n1_; have BK108 := n2_; have HB := n3_; have BK109 := n4_; have GW109 := n5_; have GE109 := n6_; have NB108_109 := n7_; have NB109_108 := n8_; clear n0_ n1_ n2_ n3_ n4_ n5_ n6_ n7_ n8_; clear hb hbox hg) | ((with_reducible refine gate_dst (N := 5) rfl ?_); refine box_event ?hg (N := 5) ?hd (cs := #[.int .i64 a2_0, .int .i64 a2_1, .int .i64 a2_2, .int .i64 a2_3]) (t := 26) ?hr ?_; (case hd => rfl); (case hg => rfl); (case hr => first | (go_simp; done) | (go_simp; rfl)); intro gb110 hg w10 hbox hb; have n0_ := Aside0.mk (Kd.V_below (Kd.V_elderB (by (with_reducible repeat (first | apply Kd.V_alloc | apply Kd.V_drewN | apply Kd.V_drew)); exact HO0_1.out) gb110 (Nat.le_of_eq hg.symm)) hb); have n1_ := Aside0.mk (Kd.V_below (Kd.V_elderB (by (with_reducible repeat (first | apply Kd.V_alloc | apply Kd.V_drewN | apply Kd.V_drew)); exact HO1_1.out) gb110 (Nat.le_of_eq hg.symm)) hb); have n2_ := Aside0.mk (blk_below (g := gb108) (o := .cells #[.int .i64 a0_0, .slice A0_1 l0_1.length c0_1] 24 (0, 0)) (by (with_reducible repeat (first | refine blk_drewN ?_ _ | refine blk_drew ?_ | refine blk_alloc ?_ _)); exact BK108.out) hb); have n3_ := Aside0.mk (blk_below (g := gb109) (o := .cells #[.int .i64 a1_0, .slice A1_1 l1_1.length c1_1] 24 (0, 0)) (by (with_reducible repeat (first | refine blk_drewN ?_ _ | refine blk_drew ?_ | refine blk_alloc ?_ _)); exact BK109.out) hb); have n4_ := Aside0.mk (below_step (by repeat (first | (with_reducible first | exact HB.out | apply below_alloc | apply pw_below_drewN | apply below_drew1 | refine below_set ?_ GE108.out | refine below_set ?_ GE109.out) | exact HB.out)) hb); have n5_ := Aside0.mk (hbox); have n6_ := Aside0.mk ((by rw [hg]; exact (below_size (by repeat (first | (with_reducible first | exact HB.out | apply below_alloc | apply pw_below_drewN | apply below_drew1 | refine below_set ?_ GE108.out | refine below_set ?_ GE109.out) | exact HB.out))) : w.heap.size ≤ gb110)); have n7_ := Aside0.mk ((by rw [hg]; exact (below_size (by repeat (first | (with_reducible first | exact HB.out | apply below_alloc | apply pw_below_drewN | apply below_drew1 | refine below_set ?_ GE108.out | refine below_set ?_ GE109.out) | exact HB.out))) : w.heap.size ≤ gb110)); have n8_ := Aside0.mk ((by rw [hg]; exact Nat.ne_of_lt (blk_lt (g := gb108) (o := .cells #[.int .i64 a0_0, .slice A0_1 l0_1.length c0_1] 24 (0, 0)) (by (with_reducible repeat (first | refine blk_drewN ?_ _ | refine blk_drew ?_ | refine blk_alloc ?_ _)); exact BK108.out)) : gb108 ≠ gb110)); have n9_ := Aside0.mk ((by rw [hg]; exact Nat.ne_of_gt (blk_lt (g := gb108) (o := .cells #[.int .i64 a0_0, .slice A0_1 l0_1.length c0_1] 24 (0, 0)) (by (with_reducible repeat (first | refine blk_drewN ?_ _ | refine blk_drew ?_ | refine blk_alloc ?_ _)); exact BK108.out)) : gb110 ≠ gb108)); have n10_ := Aside0.mk ((by rw [hg]; exact Nat.ne_of_lt (blk_lt (g := gb109) (o := .cells #[.int .i64 a1_0, .slice A1_1 l1_1.length c1_1] 24 (0, 0)) (by (with_reducible repeat (first | refine blk_drewN ?_ _ | refine blk_drew ?_ | refine blk_alloc ?_ _)); exact BK109.out)) : gb109 ≠ gb110)); have n11_ := Aside0.mk ((by rw [hg]; exact Nat.ne_of_gt (blk_lt (g := gb109) (o := .cells #[.int .i64 a1_0, .slice A1_1 l1_1.length c1_1] 24 (0, 0)) (by (with_reducible repeat (first | refine blk_drewN ?_ _ | refine blk_drew ?_ | refine blk_alloc ?_ _)); exact BK109.out)) : gb110 ≠ gb109)); clear HO0_1; clear HO1_1; clear BK108; clear BK109; clear HB; have HO0_1 := n0_; have HO1_1 := n1_; have BK108 := n2_; have BK109 := n3_; have HB := n4_; have BK110 := n5_; have GW110 := n6_; have GE110 := n7_; have NB108_110 := n8_; have NB110_108 := n9_; have NB109_110 := n10_; have NB110_109 := n11_; clear n0_ n1_ n2_ n3_ n4_ n5_ n6_ n7_ n8_ n9_ n10_ n11_; clear hb hbox hg; have hnb11 := NB110_108.out; have hnc11 := NB108_110.out; have hnb12 := NB110_109.out; have hnc12 := NB109_110.out; have hcz13_0 : w10.cell? ⟨gb110, 0, none⟩ = some (.int .i64 a2_0) := (blk_cell BK110.out 0).trans rfl; have hcz13_1 : w10.cell? ⟨gb110, 1, none⟩ = some (.int .i64 a2_1) := (blk_cell BK110.out 1).trans rfl; have hcz13_2 : w10.cell? ⟨gb110, 2, none⟩ = some (.int .i64 a2_2) := (blk_cell BK110.out 2).trans rfl; have hcz13_3 : w10.cell? ⟨gb110, 3, none⟩ = some (.int .i64 a2_3) := (blk_cell BK110.out 3).trans rfl; have hfz13_0 := blk_frozen BK110.out 0; have hfz13_1 := blk_frozen BK110.out 1; have hfz13_2 := blk_frozen BK110.out 2; have hfz13_3 := blk_frozen BK110.out 3; have hnb14 := NB108_109.out; have hnc14 := NB109_108.out; have hcz15_0 : w10.cell? ⟨gb108, 0, none⟩ = some (.int .i64 a0_0) := (blk_cell BK108.out 0).trans rfl; have hcz15_1 : w10.cell? ⟨gb108, 1, none⟩ = some (.slice A0_1 l0_1.length c0_1) := (blk_cell BK108.out 1).trans rfl; have hfz15_0 := blk_frozen BK108.out 0; have hfz15_1 := blk_frozen BK108.out 1; have hcz16_0 : w10.cell? ⟨gb109, 0, none⟩ = some (.int .i64 a1_0) := (blk_cell BK109.out 0).trans rfl; have hcz16_1 : w10.cell? ⟨gb109, 1, none⟩ = some (.slice A1_1 l1_1.length c1_1) := (blk_cell BK109.out 1).trans rfl; have hfz16_0 := blk_frozen BK109.out 0; have hfz16_1 := blk_frozen BK109.out 1) | ((with_reducible refine gate_dst (N := 13) rfl ?_); refine Kd.N_lit k24 _ 24 ?hg (N' := 13) ?hd (xs := ([(⟨a0_0, l0_1⟩ : S24), (⟨a1_0, l1_1⟩ : S24)] : List (S24))) (inner := [.int .i64 a0_0, .slice A0_1 l0_1.length c0_1, .int .i64 a1_0, .slice A1_1 l1_1.length c1_1]) (ok := (fun k_ => ((P0_1_ k_ ∨ P1_1_ k_) ∨ w.heap.size ≤ k_) ∧ k_ ≠ gb108 ∧ k_ ≠ gb109 ∧ k_ ≠ gb110)) (okp := (fun k_ => ((P0_1_ k_ ∨ P1_1_ k_) ∨ w.heap.size ≤ k_) ∧ k_ ≠ gb108 ∧ k_ ≠ gb109 ∧ k_ ≠ gb110)) ?hr ?hp (fun _ hk => hk) ((show ∀ k_, w10.heap.size ≤ k_ → (fun k_ => ((P0_1_ k_ ∨ P1_1_ k_) ∨ w.heap.size ≤ k_) ∧ k_ ≠ gb108 ∧ k_ ≠ gb109 ∧ k_ ≠ gb110) k_ from fun k_ hk => ⟨(.inr (Nat.le_trans (below_size (by repeat (first | (with_reducible first | exact HB.out | apply below_alloc | apply pw_below_drewN | apply below_drew1 | refine below_set ?_ GE108.out | refine below_set ?_ GE109.out | refine below_set ?_ GE110.out) | exact HB.out))) hk)), Kd.freshB (g := gb108) (o := .cells #[.int .i64 a0_0, .slice A0_1 l0_1.length c0_1] 24 (0, 0)) (by (with_reducible repeat (first | refine blk_drewN ?_ _ | refine blk_drew ?_ | refine blk_alloc ?_ _)); exact BK108.out) k_ hk, Kd.freshB (g := gb109) (o := .cells #[.int .i64 a1_0, .slice A1_1 l1_1.length c1_1] 24 (0, 0)) (by (with_reducible repeat (first | refine blk_drewN ?_ _ | refine blk_drew ?_ | refine blk_alloc ?_ _)); exact BK109.out) k_ hk, Kd.freshB (g := gb110) (o := .cells #[.int .i64 a2_0, .int .i64 a2_1, .int .i64 a2_2, .int .i64 a2_3] 26 (0, 0)) (by (with_reducible repeat (first | refine blk_drewN ?_ _ | refine blk_drew ?_ | refine blk_alloc ?_ _)); exact BK110.out) k_ hk⟩) _ (Nat.le_refl _)) (Below.refl _ _) (Nat.le_refl _) (by simp) ?_; (case hd => rfl); (case hg => rfl); (case hr => first | (go_simp; done) | (go_simp; rfl)); (case hp => exact (Reps.c2 (show Kd.FK k24 _ _ (⟨a0_0, l0_1⟩ : S24) [.int .i64 a0_0, .slice A0_1 l0_1.length c0_1] from (k24_mkF _ _ (⟨a0_0, l0_1⟩ : S24) (Kd.V_reads' (Kd.V_mono (ok' := (fun k_ => ((P0_1_ k_ ∨ P1_1_ k_) ∨ w.heap.size ≤ k_) ∧ k_ ≠ gb108 ∧ k_ ≠ gb109 ∧ k_ ≠ gb110)) (HO0_1.out) (fun k_ hk => ⟨hk.1.1.1, ⟨hk.1.1.2, ⟨hk.1.2, hk.2⟩⟩⟩))).2.1 (Kd.V_F (Kd.V_mono (ok' := (fun k_ => ((P0_1_ k_ ∨ P1_1_ k_) ∨ w.heap.size ≤ k_) ∧ k_ ≠ gb108 ∧ k_ ≠ gb109 ∧ k_ ≠ gb110)) (HO0_1.out) (fun k_ hk => ⟨hk.1.1.1, ⟨hk.1.1.2, ⟨hk.1.2, hk.2⟩⟩⟩))))) (Reps.c2 (show Kd.FK k24 _ _ (⟨a1_0, l1_1⟩ : S24) [.int .i64 a1_0, .slice A1_1 l1_1.length c1_1] from (k24_mkF _ _ (⟨a1_0, l1_1⟩ : S24) (Kd.V_reads' (Kd.V_mono (ok' := (fun k_ => ((P0_1_ k_ ∨ P1_1_ k_) ∨ w.heap.size ≤ k_) ∧ k_ ≠ gb108 ∧ k_ ≠ gb109 ∧ k_ ≠ gb110)) (HO1_1.out) (fun k_ hk => ⟨hk.1.1.1, ⟨hk.1.1.2, ⟨hk.1.2, hk.2⟩⟩⟩))).2.1 (Kd.V_F (Kd.V_mono (ok' := (fun k_ => ((P0_1_ k_ ∨ P1_1_ k_) ∨ w.heap.size ≤ k_) ∧ k_ ≠ gb108 ∧ k_ ≠ gb109 ∧ k_ ≠ gb110)) (HO1_1.out) (fun k_ hk => ⟨hk.1.1.1, ⟨hk.1.1.2, ⟨hk.1.2, hk.2⟩⟩⟩))))) (Reps.none _ _)))); intro v112 w17 ho18 hb hg_ hnew_; clear hg_ hnew_; (first | rw [← Ny111.out] at ho18 | (simp only [Int.reduceToNat] at ho18; rw [← Ny111.out] at ho18)); have n0_ := Aside0.mk (Kd.V_elder' (by (with_reducible repeat (first | apply Kd.V_alloc | apply Kd.V_drewN | apply Kd.V_drew)); exact HO0_1.out) (Kd.N_base ho18) hb); have n1_ := Aside0.mk (Kd.V_elder' (by (with_reducible repeat (first | apply Kd.V_alloc | apply Kd.V_drewN | apply Kd.V_drew)); exact HO1_1.out) (Kd.N_base ho18) hb); have n2_ := Aside0.mk (Kd.N_lower ho18 (below_size (by repeat (first | (with_reducible first | exact HB.out | apply below_alloc | apply pw_below_drewN | apply below_drew1 | refine below_set ?_ GE108.out | refine below_set ?_ GE109.out | refine below_set ?_ GE110.out) | exact HB.out)))); have n3_ := Aside0.mk (blk_below (g := gb108) (o := .cells #[.int .i64 a0_0, .slice A0_1 l0_1.length c0_1] 24 (0, 0)) (by (with_reducible repeat (first | refine blk_drewN ?_ _ | refine blk_drew ?_ | refine blk_alloc ?_ _)); exact BK108.out) hb); have n4_ := Aside0.mk (blk_below (g := gb109) (o := .cells #[.int .i64 a1_0, .slice A1_1 l1_1.length c1_1] 24 (0, 0)) (by (with_reducible repeat (first | refine blk_drewN ?_ _ | refine blk_drew ?_ | refine blk_alloc ?_ _)); exact BK109.out) hb); have n5_ := Aside0.mk (blk_below (g := gb110) (o := .cells #[.int .i64 a2_0, .int .i64 a2_1, .int .i64 a2_2, .int .i64 a2_3] 26 (0, 0)) (by (with_reducible repeat (first | refine blk_drewN ?_ _ | refine blk_drew ?_ | refine blk_alloc ?_ _)); exact BK110.out) hb); have n6_ := Aside0.mk (below_step (by repeat (first | (with_reducible first | exact HB.out | apply below_alloc | apply pw_below_drewN | apply below_drew1 | refine below_set ?_ GE108.out | refine below_set ?_ GE109.out | refine below_set ?_ GE110.out) | exact HB.out)) hb); clear HO0_1; clear HO1_1; clear BK108; clear BK109; clear BK110; clear HB; have HO0_1 := n0_; have HO1_1 := n1_; have HO113 := n2_; have BK108 := n3_; have BK109 := n4_; have BK110 := n5_; have HB := n6_; clear n0_ n1_ n2_ n3_ n4_ n5_ n6_; clear hb ho18; obtain ⟨Ao19, co19, eo19⟩ := Kd.N_slice HO113.out; subst eo19) | ((with_reducible refine gate_callee (f := 62) rfl ?_); refine goesL_ (some 14) rfl rfl Tryd.func62 (by kernel_rfl) rfl #[.agg #[.int .i64 a2_0, .int .i64 a2_1, .int .i64 a2_2, .int .i64 a2_3], .slice Ao19 y111.length co19] rfl (by (try simp only [List.map_toArray, List.map_cons, List.map_nil]); first | done | rfl | (simp only [List.length_drop, List.length_take]; rfl)) ?_; (with_reducible refine (guard_checkAll.calls a2_0 a2_1 a2_2 a2_3 _ _ y111 t114 _ ?side1 ?side2 A4.out).mono ?_); (case side1 => repeat (first | exact (Kd.N_reads' HO113.out).2.2 | (with_reducible refine Kd.C_alloc ?_ _) | (with_reducible refine Kd.C_drewN ?_ _) | (with_reducible refine Kd.C_drew ?_))); (case side2 => exact (Kd.N_reads' HO113.out).2.1); rintro e w20 ⟨rfl, hb⟩; refine ⟨_, rfl, ?_⟩; have n0_ := Aside0.mk (Kd.V_below (by (with_reducible repeat (first | apply Kd.V_alloc | apply Kd.V_drewN | apply Kd.V_drew)); exact HO0_1.out) hb); have n1_ := Aside0.mk (Kd.V_below (by (with_reducible repeat (first | apply Kd.V_alloc | apply Kd.V_drewN | apply Kd.V_drew)); exact HO1_1.out) hb); have n2_ := Aside0.mk (Kd.N_below (by (with_reducible repeat (first | apply Kd.N_alloc | apply Kd.N_drewN | apply Kd.N_drew)); exact HO113.out) hb); have n3_ := Aside0.mk (blk_below (g := gb108) (o := .cells #[.int .i64 a0_0, .slice A0_1 l0_1.length c0_1] 24 (0, 0)) (by (with_reducible repeat (first | refine blk_drewN ?_ _ | refine blk_drew ?_ | refine blk_alloc ?_ _)); exact BK108.out) hb); have n4_ := Aside0.mk (blk_below (g := gb109) (o := .cells #[.int .i64 a1_0, .slice A1_1 l1_1.length c1_1] 24 (0, 0)) (by (with_reducible repeat (first | refine blk_drewN ?_ _ | refine blk_drew ?_ | refine blk_alloc ?_ _)); exact BK109.out) hb); have n5_ := Aside0.mk (blk_below (g := gb110) (o := .cells #[.int .i64 a2_0, .int .i64 a2_1, .int .i64 a2_2, .int .i64 a2_3] 26 (0, 0)) (by (with_reducible repeat (first | refine blk_drewN ?_ _ | refine blk_drew ?_ | refine blk_alloc ?_ _)); exact BK110.out) hb); have n6_ := Aside0.mk (below_step (by repeat (first | (with_reducible first | exact HB.out | apply below_alloc | apply pw_below_drewN | apply below_drew1 | refine below_set ?_ GE108.out | refine below_set ?_ GE109.out | refine below_set ?_ GE110.out) | exact HB.out)) hb); clear HO0_1; clear HO1_1; clear HO113; clear BK108; clear BK109; clear BK110; clear HB; have HO0_1 := n0_; have HO1_1 := n1_; have HO113 := n2_; have BK108 := n3_; have BK109 := n4_; have BK110 := n5_; have HB := n6_; clear n0_ n1_ n2_ n3_ n4_ n5_ n6_; (try clear hb); (try clear hb2); (try clear hk); (try clear hi)))
    have n0_ := Aside0.mk (Kd.V_drew HO0_1.out)
    have n1_ := Aside0.mk (Kd.V_drew HO1_1.out)
    have n2_ := Aside0.mk (Kd.N_drew HO113.out)
    have n3_ := Aside0.mk (blk_drew BK108.out)
    have n4_ := Aside0.mk (blk_drew BK109.out)
    have n5_ := Aside0.mk (blk_drew BK110.out)
    have n6_ := Aside0.mk (below_drew1 HB.out)
    clear HO0_1
    clear HO1_1
    clear HO113
    clear BK108
    clear BK109
    clear BK110
    clear HB
    have HO0_1 := n0_
    have HO1_1 := n1_
    have HO113 := n2_
    have BK108 := n3_
    have BK109 := n4_
    have BK110 := n5_
    have HB := n6_
    clear n0_ n1_ n2_ n3_ n4_ n5_ n6_
    refine start_ (n := 13) (S := fun w' => w'.cell? ⟨gb110, 0, none⟩ = some (.int .i64 a2_0) ∧ w'.cell? ⟨gb110, 1, none⟩ = some (.int .i64 a2_1) ∧ w'.cell? ⟨gb110, 2, none⟩ = some (.int .i64 a2_2) ∧ w'.cell? ⟨gb110, 3, none⟩ = some (.int .i64 a2_3) ∧ w'.cell? ⟨gb108, 0, none⟩ = some (.int .i64 a0_0) ∧ w'.cell? ⟨gb108, 1, none⟩ = some (.slice A0_1 l0_1.length c0_1) ∧ w'.cell? ⟨gb109, 0, none⟩ = some (.int .i64 a1_0) ∧ w'.cell? ⟨gb109, 1, none⟩ = some (.slice A1_1 l1_1.length c1_1)) (ds := []) (bl 13 0) (by kernel_rfl) rfl rfl ⟨(blk_cell BK110.out 0).trans rfl, (blk_cell BK110.out 1).trans rfl, (blk_cell BK110.out 2).trans rfl, (blk_cell BK110.out 3).trans rfl, (blk_cell BK108.out 0).trans rfl, (blk_cell BK108.out 1).trans rfl, (blk_cell BK109.out 0).trans rfl, (blk_cell BK109.out 1).trans rfl⟩ (fun hHeld => ?_); refine with_tabW guard_Alike.tab4 guard_Alike.bits4 (fun HT_ HW_ => ?_)
    generalize w20.drew = w21 at HO0_1 HO1_1 HO113 BK108 BK109 BK110 HB hHeld ⊢
    refine take_ (i := 0) (N := some 18) (v := ?_) (a' := ?_) (bl 13 1) rfl rfl (take_ofW HT_.out HW_.out (by kernel_rfl)) (fun _ _ _ h => h) (Or.inl ⟨by rfl, ?_⟩) hHeld ?_ ?_
    rotate_left
    · rintro w' ⟨s0, s1, s2, s3, s4, s5, s6, s7⟩
      go_simp
      with_reducible rfl
    rotate_left
    · simp only [Act.put, List.setIfInBounds_toArray, List.set_cons_zero, List.set_cons_succ, i64_w, i32_w]
      rfl
    refine pure_ (i := 1) (N := some 19) (v := ?_) (a' := ?_) (bl 13 3) rfl rfl (any_of HT_.out (by kernel_rfl)) (fun _ _ _ h => h) (Or.inl ⟨by rfl, ?_⟩) ?_ ?_
    rotate_left
    · intro w'
      go_simp
      with_reducible rfl
    rotate_left
    · simp only [Act.put, List.setIfInBounds_toArray, List.set_cons_zero, List.set_cons_succ, i64_w, i32_w]
      rfl
    refine take_ (i := 2) (N := some 20) (v := ?_) (a' := ?_) (bl 13 7) rfl rfl (take_ofW HT_.out HW_.out (by kernel_rfl)) (fun _ _ _ h => h) (Or.inl ⟨by rfl, ?_⟩) hHeld ?_ ?_
    rotate_left
    · rintro w' ⟨s0, s1, s2, s3, s4, s5, s6, s7⟩
      go_simp
      with_reducible rfl
    rotate_left
    · simp only [Act.put, List.setIfInBounds_toArray, List.set_cons_zero, List.set_cons_succ, i64_w, i32_w]
      rfl
    refine take_ (i := 3) (N := some 21) (v := ?_) (a' := ?_) (bl 13 15) rfl rfl (take_ofW HT_.out HW_.out (by kernel_rfl)) (fun _ _ _ h => h) (Or.inl ⟨by rfl, ?_⟩) hHeld ?_ ?_
    rotate_left
    · rintro w' ⟨s0, s1, s2, s3, s4, s5, s6, s7⟩
      go_simp
      with_reducible rfl
    rotate_left
    · simp only [Act.put, List.setIfInBounds_toArray, List.set_cons_zero, List.set_cons_succ, i64_w, i32_w]
      rfl
    refine take_ (i := 5) (N := some 23) (v := ?_) (a' := ?_) (bl 13 47) rfl rfl (take_ofW HT_.out HW_.out (by kernel_rfl)) (fun _ _ _ h => h) (Or.inl ⟨by rfl, ?_⟩) hHeld ?_ ?_
    rotate_left
    · rintro w' ⟨s0, s1, s2, s3, s4, s5, s6, s7⟩
      go_simp
      with_reducible rfl
    rotate_left
    · simp only [Act.put, List.setIfInBounds_toArray, List.set_cons_zero, List.set_cons_succ, i64_w, i32_w]
      rfl
    refine pure_ (i := 6) (N := some 24) (v := ?_) (a' := ?_) (bl 13 111) rfl rfl (any_of HT_.out (by kernel_rfl)) (fun _ _ _ h => h) (Or.inl ⟨by rfl, ?_⟩) ?_ ?_
    rotate_left
    · intro w'
      go_simp
      with_reducible rfl
    rotate_left
    · simp only [Act.put, List.setIfInBounds_toArray, List.set_cons_zero, List.set_cons_succ, i64_w, i32_w]
      rfl
    refine take_ (i := 7) (N := some 25) (v := ?_) (a' := ?_) (bl 13 239) rfl rfl (take_ofW HT_.out HW_.out (by kernel_rfl)) (fun _ _ _ h => h) (Or.inl ⟨by rfl, ?_⟩) hHeld ?_ ?_
    rotate_left
    · rintro w' ⟨s0, s1, s2, s3, s4, s5, s6, s7⟩
      go_simp
      with_reducible rfl
    rotate_left
    · simp only [Act.put, List.setIfInBounds_toArray, List.set_cons_zero, List.set_cons_succ, i64_w, i32_w]
      rfl
    refine take_ (i := 8) (N := some 26) (v := ?_) (a' := ?_) (bl 13 495) rfl rfl (take_ofW HT_.out HW_.out (by kernel_rfl)) (fun _ _ _ h => h) (Or.inl ⟨by rfl, ?_⟩) hHeld ?_ ?_
    rotate_left
    · rintro w' ⟨s0, s1, s2, s3, s4, s5, s6, s7⟩
      go_simp
      with_reducible rfl
    rotate_left
    · simp only [Act.put, List.setIfInBounds_toArray, List.set_cons_zero, List.set_cons_succ, i64_w, i32_w]
      rfl
    refine one_ (i := 4) (N := some 22) (bl 13 511) rfl rfl (one_of HT_.out (by kernel_rfl)) (by decide) (fun K hK => ?_)
    refine goes_ Tryd.func63 (by kernel_rfl) rfl #[.agg #[.int .i64 a2_0, .int .i64 a2_1, .int .i64 a2_2, .int .i64 a2_3], .agg #[.int .i64 a0_0, .slice A0_1 l0_1.length c0_1], .agg #[.int .i64 a1_0, .slice A1_1 l1_1.length c1_1], .int .i64 2] (by rfl) rfl rfl (by (try simp only [List.map_toArray, List.map_cons, List.map_nil]); first | done | rfl | (simp only [List.length_drop, List.length_take]; rfl)) ?_
    with_reducible refine (guard_gauge_alike.calls k a2_0 a2_1 a2_2 a2_3 a0_0 _ _ l0_1 a1_0 _ _ l1_1 2 t115 _ ?side1 ?side2 ?side3 ?side4 A6.out).mono ?_
    (case side1 => repeat (first | exact (Kd.V_reads' HO0_1.out).2.2 | (with_reducible refine Kd.C_alloc ?_ _) | (with_reducible refine Kd.C_drewN ?_ _) | (with_reducible refine Kd.C_drew ?_)))
    (case side2 => exact (Kd.V_reads' HO0_1.out).2.1)
    (case side3 => repeat (first | exact (Kd.V_reads' HO1_1.out).2.2 | (with_reducible refine Kd.C_alloc ?_ _) | (with_reducible refine Kd.C_drewN ?_ _) | (with_reducible refine Kd.C_drew ?_)))
    (case side4 => exact (Kd.V_reads' HO1_1.out).2.1)
    rintro e w22 ⟨rfl, hb⟩
    refine ⟨_, rfl, ?_⟩
    have n0_ := Aside0.mk (Kd.V_below (by (with_reducible repeat (first | apply Kd.V_alloc | apply Kd.V_drewN | apply Kd.V_drew)); exact HO0_1.out) hb)
    have n1_ := Aside0.mk (Kd.V_below (by (with_reducible repeat (first | apply Kd.V_alloc | apply Kd.V_drewN | apply Kd.V_drew)); exact HO1_1.out) hb)
    have n2_ := Aside0.mk (Kd.N_below (by (with_reducible repeat (first | apply Kd.N_alloc | apply Kd.N_drewN | apply Kd.N_drew)); exact HO113.out) hb)
    have n3_ := Aside0.mk (blk_below (g := gb108) (o := .cells #[.int .i64 a0_0, .slice A0_1 l0_1.length c0_1] 24 (0, 0)) (by (with_reducible repeat (first | refine blk_drewN ?_ _ | refine blk_drew ?_ | refine blk_alloc ?_ _)); exact BK108.out) hb)
    have n4_ := Aside0.mk (blk_below (g := gb109) (o := .cells #[.int .i64 a1_0, .slice A1_1 l1_1.length c1_1] 24 (0, 0)) (by (with_reducible repeat (first | refine blk_drewN ?_ _ | refine blk_drew ?_ | refine blk_alloc ?_ _)); exact BK109.out) hb)
    have n5_ := Aside0.mk (blk_below (g := gb110) (o := .cells #[.int .i64 a2_0, .int .i64 a2_1, .int .i64 a2_2, .int .i64 a2_3] 26 (0, 0)) (by (with_reducible repeat (first | refine blk_drewN ?_ _ | refine blk_drew ?_ | refine blk_alloc ?_ _)); exact BK110.out) hb)
    have n6_ := Aside0.mk (below_step (by repeat (first | (with_reducible first | exact HB.out | apply below_alloc | apply pw_below_drewN | apply below_drew1 | refine below_set ?_ GE108.out | refine below_set ?_ GE109.out | refine below_set ?_ GE110.out) | exact HB.out)) hb)
    clear HO0_1
    clear HO1_1
    clear HO113
    clear BK108
    clear BK109
    clear BK110
    clear HB
    have HO0_1 := n0_
    have HO1_1 := n1_
    have HO113 := n2_
    have BK108 := n3_
    have BK109 := n4_
    have BK110 := n5_
    have HB := n6_
    clear n0_ n1_ n2_ n3_ n4_ n5_ n6_
    (try clear hb)
    (try clear hb2)
    (try clear hk)
    (try clear hi)
    refine hK.out _ _ ⟨(blk_cell BK110.out 0).trans rfl, (blk_cell BK110.out 1).trans rfl, (blk_cell BK110.out 2).trans rfl, (blk_cell BK110.out 3).trans rfl, (blk_cell BK108.out 0).trans rfl, (blk_cell BK108.out 1).trans rfl, (blk_cell BK109.out 0).trans rfl, (blk_cell BK109.out 1).trans rfl⟩ (fun hHeld => ?_)
    clear hK K
    refine nS 22 ?_
    refine one_ (i := 9) (N := some 27) (bl 13 1023) rfl rfl (one_of HT_.out (by kernel_rfl)) (by decide) (fun K hK => ?_)
    refine goes_ Tryd.func63 (by kernel_rfl) rfl #[.agg #[.int .i64 a2_0, .int .i64 a2_1, .int .i64 a2_2, .int .i64 a2_3], .agg #[.int .i64 a0_0, .slice A0_1 l0_1.length c0_1], .agg #[.int .i64 a1_0, .slice A1_1 l1_1.length c1_1], .int .i64 (-2)] (by rfl) rfl rfl (by (try simp only [List.map_toArray, List.map_cons, List.map_nil]); first | done | rfl | (simp only [List.length_drop, List.length_take]; rfl)) ?_
    with_reducible refine (guard_gauge_alike.calls k a2_0 a2_1 a2_2 a2_3 a0_0 _ _ l0_1 a1_0 _ _ l1_1 (-2) t116 _ ?side1 ?side2 ?side3 ?side4 A7.out).mono ?_
    (case side1 => repeat (first | exact (Kd.V_reads' HO0_1.out).2.2 | (with_reducible refine Kd.C_alloc ?_ _) | (with_reducible refine Kd.C_drewN ?_ _) | (with_reducible refine Kd.C_drew ?_)))
    (case side2 => exact (Kd.V_reads' HO0_1.out).2.1)
    (case side3 => repeat (first | exact (Kd.V_reads' HO1_1.out).2.2 | (with_reducible refine Kd.C_alloc ?_ _) | (with_reducible refine Kd.C_drewN ?_ _) | (with_reducible refine Kd.C_drew ?_)))
    (case side4 => exact (Kd.V_reads' HO1_1.out).2.1)
    rintro e w23 ⟨rfl, hb⟩
    refine ⟨_, rfl, ?_⟩
    have n0_ := Aside0.mk (Kd.V_below (by (with_reducible repeat (first | apply Kd.V_alloc | apply Kd.V_drewN | apply Kd.V_drew)); exact HO0_1.out) hb)
    have n1_ := Aside0.mk (Kd.V_below (by (with_reducible repeat (first | apply Kd.V_alloc | apply Kd.V_drewN | apply Kd.V_drew)); exact HO1_1.out) hb)
    have n2_ := Aside0.mk (Kd.N_below (by (with_reducible repeat (first | apply Kd.N_alloc | apply Kd.N_drewN | apply Kd.N_drew)); exact HO113.out) hb)
    have n3_ := Aside0.mk (blk_below (g := gb108) (o := .cells #[.int .i64 a0_0, .slice A0_1 l0_1.length c0_1] 24 (0, 0)) (by (with_reducible repeat (first | refine blk_drewN ?_ _ | refine blk_drew ?_ | refine blk_alloc ?_ _)); exact BK108.out) hb)
    have n4_ := Aside0.mk (blk_below (g := gb109) (o := .cells #[.int .i64 a1_0, .slice A1_1 l1_1.length c1_1] 24 (0, 0)) (by (with_reducible repeat (first | refine blk_drewN ?_ _ | refine blk_drew ?_ | refine blk_alloc ?_ _)); exact BK109.out) hb)
    have n5_ := Aside0.mk (blk_below (g := gb110) (o := .cells #[.int .i64 a2_0, .int .i64 a2_1, .int .i64 a2_2, .int .i64 a2_3] 26 (0, 0)) (by (with_reducible repeat (first | refine blk_drewN ?_ _ | refine blk_drew ?_ | refine blk_alloc ?_ _)); exact BK110.out) hb)
    have n6_ := Aside0.mk (below_step (by repeat (first | (with_reducible first | exact HB.out | apply below_alloc | apply pw_below_drewN | apply below_drew1 | refine below_set ?_ GE108.out | refine below_set ?_ GE109.out | refine below_set ?_ GE110.out) | exact HB.out)) hb)
    clear HO0_1
    clear HO1_1
    clear HO113
    clear BK108
    clear BK109
    clear BK110
    clear HB
    have HO0_1 := n0_
    have HO1_1 := n1_
    have HO113 := n2_
    have BK108 := n3_
    have BK109 := n4_
    have BK110 := n5_
    have HB := n6_
    clear n0_ n1_ n2_ n3_ n4_ n5_ n6_
    (try clear hb)
    (try clear hb2)
    (try clear hk)
    (try clear hi)
    refine hK.out _ _ ⟨(blk_cell BK110.out 0).trans rfl, (blk_cell BK110.out 1).trans rfl, (blk_cell BK110.out 2).trans rfl, (blk_cell BK110.out 3).trans rfl, (blk_cell BK108.out 0).trans rfl, (blk_cell BK108.out 1).trans rfl, (blk_cell BK109.out 0).trans rfl, (blk_cell BK109.out 1).trans rfl⟩ (fun hHeld => ?_)
    clear hK K
    refine nS 27 ?_
    refine pure_ (i := 10) (N := some 6) (v := ?_) (a' := ?_) (bl 13 2047) rfl rfl (any_of HT_.out (by kernel_rfl)) (fun _ _ _ h => h) (Or.inl ⟨by rfl, ?_⟩) ?_ ?_
    rotate_left
    · intro w'
      go_simp
      with_reducible rfl
    rotate_left
    · simp only [Act.put, List.setIfInBounds_toArray, List.set_cons_zero, List.set_cons_succ, i64_w, i32_w]
      rfl
    refine pure_ (i := 11) (N := some 7) (v := ?_) (a' := ?_) (bl 13 4095) rfl rfl (any_of HT_.out (by kernel_rfl)) (fun _ _ _ h => h) (Or.inl ⟨by rfl, ?_⟩) ?_ ?_
    rotate_left
    · intro w'
      go_simp
      with_reducible rfl
    rotate_left
    · simp only [Act.put, List.setIfInBounds_toArray, List.set_cons_zero, List.set_cons_succ, i64_w, i32_w]
      rfl
    refine pure_ (i := 12) (N := some 8) (v := ?_) (a' := ?_) (bl 13 8191) rfl rfl (any_of HT_.out (by kernel_rfl)) (fun _ _ _ h => h) (Or.inl ⟨by rfl, ?_⟩) ?_ ?_
    rotate_left
    · intro w'
      go_simp
      with_reducible rfl
    rotate_left
    · simp only [Act.put, List.setIfInBounds_toArray, List.set_cons_zero, List.set_cons_succ, i64_w, i32_w]
      rfl
    refine done_ (done_of HT_.out (by kernel_rfl)) ?_
    try go_wp2
    go_ret3
    exact ⟨by first | rfl | (simp [errW_none, errW_some] <;> rfl) | (simp [*, errW_none, errW_some] <;> rfl), by repeat (first | (with_reducible first | exact HB.out | apply below_alloc | apply pw_below_drewN | apply below_drew1 | refine below_set ?_ GE108.out | refine below_set ?_ GE109.out | refine below_set ?_ GE110.out) | exact HB.out)⟩
  · rw [if_neg c5] at H
    have c5b0 : (t114 == 0) = false := beq_eq_false_iff_ne.mpr c5
    have c5b1 : (t114 != 0) = true := bne_iff_ne.mpr c5
    simp only [Option.some.injEq, Prod.mk.injEq] at H
    obtain ⟨rfl, rfl, rfl⟩ := H
    go_enter Tryd.func18, Tryd.ntmps18
    go_wp2_with (first | ((with_reducible refine gate_dst (N := 3) rfl ?_); refine box_event ?hg (N := 3) ?hd (cs := #[.int .i64 a0_0, .slice A0_1 l0_1.length c0_1]) (t := 24) ?hr ?_; (case hd => rfl); (case hg => rfl); (case hr => first | (go_simp; done) | (go_simp; rfl)); intro gb108 hg w24 hbox hb; have n0_ := Aside0.mk (Kd.V_below (Kd.V_elderB (by (with_reducible repeat (first | apply Kd.V_alloc | apply Kd.V_drewN | apply Kd.V_drew)); exact HO0_1.out) gb108 (Nat.le_of_eq hg.symm)) hb); have n1_ := Aside0.mk (Kd.V_below (Kd.V_elderB (by (with_reducible repeat (first | apply Kd.V_alloc | apply Kd.V_drewN | apply Kd.V_drew)); exact HO1_1.out) gb108 (Nat.le_of_eq hg.symm)) hb); have n2_ := Aside0.mk (below_step (by repeat (first | (with_reducible first | exact HB.out | apply below_alloc | apply pw_below_drewN | apply below_drew1) | exact HB.out)) hb); have n3_ := Aside0.mk (hbox); have n4_ := Aside0.mk ((by rw [hg]; exact (below_size (by repeat (first | (with_reducible first | exact HB.out | apply below_alloc | apply pw_below_drewN | apply below_drew1) | exact HB.out))) : w.heap.size ≤ gb108)); have n5_ := Aside0.mk ((by rw [hg]; exact (below_size (by repeat (first | (with_reducible first | exact HB.out | apply below_alloc | apply pw_below_drewN | apply below_drew1) | exact HB.out))) : w.heap.size ≤ gb108)); clear HO0_1; clear HO1_1; clear HB; have HO0_1 := n0_; have HO1_1 := n1_; have HB := n2_; have BK108 := n3_; have GW108 := n4_; have GE108 := n5_; clear n0_ n1_ n2_ n3_ n4_ n5_; clear hb hbox hg) | ((with_reducible refine gate_dst (N := 4) rfl ?_); refine box_event ?hg (N := 4) ?hd (cs := #[.int .i64 a1_0, .slice A1_1 l1_1.length c1_1]) (t := 24) ?hr ?_; (case hd => rfl); (case hg => rfl); (case hr => first | (go_simp; done) | (go_simp; rfl)); intro gb109 hg w25 hbox hb; have n0_ := Aside0.mk (Kd.V_below (Kd.V_elderB (by (with_reducible repeat (first | apply Kd.V_alloc | apply Kd.V_drewN | apply Kd.V_drew)); exact HO0_1.out) gb109 (Nat.le_of_eq hg.symm)) hb); have n1_ := Aside0.mk (Kd.V_below (Kd.V_elderB (by (with_reducible repeat (first | apply Kd.V_alloc | apply Kd.V_drewN | apply Kd.V_drew)); exact HO1_1.out) gb109 (Nat.le_of_eq hg.symm)) hb); have n2_ := Aside0.mk (blk_below (g := gb108) (o := .cells #[.int .i64 a0_0, .slice A0_1 l0_1.length c0_1] 24 (0, 0)) (by (with_reducible repeat (first | refine blk_drewN ?_ _ | refine blk_drew ?_ | refine blk_alloc ?_ _)); exact BK108.out) hb); have n3_ := Aside0.mk (below_step (by repeat (first | (with_reducible first | exact HB.out | apply below_alloc | apply pw_below_drewN | apply below_drew1 | refine below_set ?_ GE108.out) | exact HB.out)) hb); have n4_ := Aside0.mk (hbox); have n5_ := Aside0.mk ((by rw [hg]; exact (below_size (by repeat (first | (with_reducible first | exact HB.out | apply below_alloc | apply pw_below_drewN | apply below_drew1 | refine below_set ?_ GE108.out) | exact HB.out))) : w.heap.size ≤ gb109)); have n6_ := Aside0.mk ((by rw [hg]; exact (below_size (by repeat (first | (with_reducible first | exact HB.out | apply below_alloc | apply pw_below_drewN | apply below_drew1 | refine below_set ?_ GE108.out) | exact HB.out))) : w.heap.size ≤ gb109)); have n7_ := Aside0.mk ((by rw [hg]; exact Nat.ne_of_lt (blk_lt (g := gb108) (o := .cells #[.int .i64 a0_0, .slice A0_1 l0_1.length c0_1] 24 (0, 0)) (by (with_reducible repeat (first | refine blk_drewN ?_ _ | refine blk_drew ?_ | refine blk_alloc ?_ _)); exact BK108.out)) : gb108 ≠ gb109)); have n8_ := Aside0.mk ((by rw [hg]; exact Nat.ne_of_gt (blk_lt (g := gb108) (o := .cells #[.int .i64 a0_0, .slice A0_1 l0_1.length c0_1] 24 (0, 0)) (by (with_reducible repeat (first | refine blk_drewN ?_ _ | refine blk_drew ?_ | refine blk_alloc ?_ _)); exact BK108.out)) : gb109 ≠ gb108)); clear HO0_1; clear HO1_1; clear BK108; clear HB; have HO0_1 := n0_; have HO1_1 := n1_; have BK108 := n2_; have HB := n3_; have BK109 := n4_; have GW109 := n5_; have GE109 := n6_; have NB108_109 := n7_; have NB109_108 := n8_; clear n0_ n1_ n2_ n3_ n4_ n5_ n6_ n7_ n8_; clear hb hbox hg) | ((with_reducible refine gate_dst (N := 5) rfl ?_); refine box_event ?hg (N := 5) ?hd (cs := #[.int .i64 a2_0, .int .i64 a2_1, .int .i64 a2_2, .int .i64 a2_3]) (t := 26) ?hr ?_; (case hd => rfl); (case hg => rfl); (case hr => first | (go_simp; done) | (go_simp; rfl)); intro gb110 hg w26 hbox hb; have n0_ := Aside0.mk (Kd.V_below (Kd.V_elderB (by (with_reducible repeat (first | apply Kd.V_alloc | apply Kd.V_drewN | apply Kd.V_drew)); exact HO0_1.out) gb110 (Nat.le_of_eq hg.symm)) hb); have n1_ := Aside0.mk (Kd.V_below (Kd.V_elderB (by (with_reducible repeat (first | apply Kd.V_alloc | apply Kd.V_drewN | apply Kd.V_drew)); exact HO1_1.out) gb110 (Nat.le_of_eq hg.symm)) hb); have n2_ := Aside0.mk (blk_below (g := gb108) (o := .cells #[.int .i64 a0_0, .slice A0_1 l0_1.length c0_1] 24 (0, 0)) (by (with_reducible repeat (first | refine blk_drewN ?_ _ | refine blk_drew ?_ | refine blk_alloc ?_ _)); exact BK108.out) hb); have n3_ := Aside0.mk (blk_below (g := gb109) (o := .cells #[.int .i64 a1_0, .slice A1_1 l1_1.length c1_1] 24 (0, 0)) (by (with_reducible repeat (first | refine blk_drewN ?_ _ | refine blk_drew ?_ | refine blk_alloc ?_ _)); exact BK109.out) hb); have n4_ := Aside0.mk (below_step (by repeat (first | (with_reducible first | exact HB.out | apply below_alloc | apply pw_below_drewN | apply below_drew1 | refine below_set ?_ GE108.out | refine below_set ?_ GE109.out) | exact HB.out)) hb); have n5_ := Aside0.mk (hbox); have n6_ := Aside0.mk ((by rw [hg]; exact (below_size (by repeat (first | (with_reducible first | exact HB.out | apply below_alloc | apply pw_below_drewN | apply below_drew1 | refine below_set ?_ GE108.out | refine below_set ?_ GE109.out) | exact HB.out))) : w.heap.size ≤ gb110)); have n7_ := Aside0.mk ((by rw [hg]; exact (below_size (by repeat (first | (with_reducible first | exact HB.out | apply below_alloc | apply pw_below_drewN | apply below_drew1 | refine below_set ?_ GE108.out | refine below_set ?_ GE109.out) | exact HB.out))) : w.heap.size ≤ gb110)); have n8_ := Aside0.mk ((by rw [hg]; exact Nat.ne_of_lt (blk_lt (g := gb108) (o := .cells #[.int .i64 a0_0, .slice A0_1 l0_1.length c0_1] 24 (0, 0)) (by (with_reducible repeat (first | refine blk_drewN ?_ _ | refine blk_drew ?_ | refine blk_alloc ?_ _)); exact BK108.out)) : gb108 ≠ gb110)); have n9_ := Aside0.mk ((by rw [hg]; exact Nat.ne_of_gt (blk_lt (g := gb108) (o := .cells #[.int .i64 a0_0, .slice A0_1 l0_1.length c0_1] 24 (0, 0)) (by (with_reducible repeat (first | refine blk_drewN ?_ _ | refine blk_drew ?_ | refine blk_alloc ?_ _)); exact BK108.out)) : gb110 ≠ gb108)); have n10_ := Aside0.mk ((by rw [hg]; exact Nat.ne_of_lt (blk_lt (g := gb109) (o := .cells #[.int .i64 a1_0, .slice A1_1 l1_1.length c1_1] 24 (0, 0)) (by (with_reducible repeat (first | refine blk_drewN ?_ _ | refine blk_drew ?_ | refine blk_alloc ?_ _)); exact BK109.out)) : gb109 ≠ gb110)); have n11_ := Aside0.mk ((by rw [hg]; exact Nat.ne_of_gt (blk_lt (g := gb109) (o := .cells #[.int .i64 a1_0, .slice A1_1 l1_1.length c1_1] 24 (0, 0)) (by (with_reducible repeat (first | refine blk_drewN ?_ _ | refine blk_drew ?_ | refine blk_alloc ?_ _)); exact BK109.out)) : gb110 ≠ gb109)); clear HO0_1; clear HO1_1; clear BK108; clear BK109; clear HB; have HO0_1 := n0_; have HO1_1 := n1_; have BK108 := n2_; have BK109 := n3_; have HB := n4_; have BK110 := n5_; have GW110 := n6_; have GE110 := n7_; have NB108_110 := n8_; have NB110_108 := n9_; have NB109_110 := n10_; have NB110_109 := n11_; clear n0_ n1_ n2_ n3_ n4_ n5_ n6_ n7_ n8_ n9_ n10_ n11_; clear hb hbox hg; have hnb27 := NB110_108.out; have hnc27 := NB108_110.out; have hnb28 := NB110_109.out; have hnc28 := NB109_110.out; have hcz29_0 : w26.cell? ⟨gb110, 0, none⟩ = some (.int .i64 a2_0) := (blk_cell BK110.out 0).trans rfl; have hcz29_1 : w26.cell? ⟨gb110, 1, none⟩ = some (.int .i64 a2_1) := (blk_cell BK110.out 1).trans rfl; have hcz29_2 : w26.cell? ⟨gb110, 2, none⟩ = some (.int .i64 a2_2) := (blk_cell BK110.out 2).trans rfl; have hcz29_3 : w26.cell? ⟨gb110, 3, none⟩ = some (.int .i64 a2_3) := (blk_cell BK110.out 3).trans rfl; have hfz29_0 := blk_frozen BK110.out 0; have hfz29_1 := blk_frozen BK110.out 1; have hfz29_2 := blk_frozen BK110.out 2; have hfz29_3 := blk_frozen BK110.out 3; have hnb30 := NB108_109.out; have hnc30 := NB109_108.out; have hcz31_0 : w26.cell? ⟨gb108, 0, none⟩ = some (.int .i64 a0_0) := (blk_cell BK108.out 0).trans rfl; have hcz31_1 : w26.cell? ⟨gb108, 1, none⟩ = some (.slice A0_1 l0_1.length c0_1) := (blk_cell BK108.out 1).trans rfl; have hfz31_0 := blk_frozen BK108.out 0; have hfz31_1 := blk_frozen BK108.out 1; have hcz32_0 : w26.cell? ⟨gb109, 0, none⟩ = some (.int .i64 a1_0) := (blk_cell BK109.out 0).trans rfl; have hcz32_1 : w26.cell? ⟨gb109, 1, none⟩ = some (.slice A1_1 l1_1.length c1_1) := (blk_cell BK109.out 1).trans rfl; have hfz32_0 := blk_frozen BK109.out 0; have hfz32_1 := blk_frozen BK109.out 1) | ((with_reducible refine gate_dst (N := 13) rfl ?_); refine Kd.N_lit k24 _ 24 ?hg (N' := 13) ?hd (xs := ([(⟨a0_0, l0_1⟩ : S24), (⟨a1_0, l1_1⟩ : S24)] : List (S24))) (inner := [.int .i64 a0_0, .slice A0_1 l0_1.length c0_1, .int .i64 a1_0, .slice A1_1 l1_1.length c1_1]) (ok := (fun k_ => ((P0_1_ k_ ∨ P1_1_ k_) ∨ w.heap.size ≤ k_) ∧ k_ ≠ gb108 ∧ k_ ≠ gb109 ∧ k_ ≠ gb110)) (okp := (fun k_ => ((P0_1_ k_ ∨ P1_1_ k_) ∨ w.heap.size ≤ k_) ∧ k_ ≠ gb108 ∧ k_ ≠ gb109 ∧ k_ ≠ gb110)) ?hr ?hp (fun _ hk => hk) ((show ∀ k_, w26.heap.size ≤ k_ → (fun k_ => ((P0_1_ k_ ∨ P1_1_ k_) ∨ w.heap.size ≤ k_) ∧ k_ ≠ gb108 ∧ k_ ≠ gb109 ∧ k_ ≠ gb110) k_ from fun k_ hk => ⟨(.inr (Nat.le_trans (below_size (by repeat (first | (with_reducible first | exact HB.out | apply below_alloc | apply pw_below_drewN | apply below_drew1 | refine below_set ?_ GE108.out | refine below_set ?_ GE109.out | refine below_set ?_ GE110.out) | exact HB.out))) hk)), Kd.freshB (g := gb108) (o := .cells #[.int .i64 a0_0, .slice A0_1 l0_1.length c0_1] 24 (0, 0)) (by (with_reducible repeat (first | refine blk_drewN ?_ _ | refine blk_drew ?_ | refine blk_alloc ?_ _)); exact BK108.out) k_ hk, Kd.freshB (g := gb109) (o := .cells #[.int .i64 a1_0, .slice A1_1 l1_1.length c1_1] 24 (0, 0)) (by (with_reducible repeat (first | refine blk_drewN ?_ _ | refine blk_drew ?_ | refine blk_alloc ?_ _)); exact BK109.out) k_ hk, Kd.freshB (g := gb110) (o := .cells #[.int .i64 a2_0, .int .i64 a2_1, .int .i64 a2_2, .int .i64 a2_3] 26 (0, 0)) (by (with_reducible repeat (first | refine blk_drewN ?_ _ | refine blk_drew ?_ | refine blk_alloc ?_ _)); exact BK110.out) k_ hk⟩) _ (Nat.le_refl _)) (Below.refl _ _) (Nat.le_refl _) (by simp) ?_; (case hd => rfl); (case hg => rfl); (case hr => first | (go_simp; done) | (go_simp; rfl)); (case hp => exact (Reps.c2 (show Kd.FK k24 _ _ (⟨a0_0, l0_1⟩ : S24) [.int .i64 a0_0, .slice A0_1 l0_1.length c0_1] from (k24_mkF _ _ (⟨a0_0, l0_1⟩ : S24) (Kd.V_reads' (Kd.V_mono (ok' := (fun k_ => ((P0_1_ k_ ∨ P1_1_ k_) ∨ w.heap.size ≤ k_) ∧ k_ ≠ gb108 ∧ k_ ≠ gb109 ∧ k_ ≠ gb110)) (HO0_1.out) (fun k_ hk => ⟨hk.1.1.1, ⟨hk.1.1.2, ⟨hk.1.2, hk.2⟩⟩⟩))).2.1 (Kd.V_F (Kd.V_mono (ok' := (fun k_ => ((P0_1_ k_ ∨ P1_1_ k_) ∨ w.heap.size ≤ k_) ∧ k_ ≠ gb108 ∧ k_ ≠ gb109 ∧ k_ ≠ gb110)) (HO0_1.out) (fun k_ hk => ⟨hk.1.1.1, ⟨hk.1.1.2, ⟨hk.1.2, hk.2⟩⟩⟩))))) (Reps.c2 (show Kd.FK k24 _ _ (⟨a1_0, l1_1⟩ : S24) [.int .i64 a1_0, .slice A1_1 l1_1.length c1_1] from (k24_mkF _ _ (⟨a1_0, l1_1⟩ : S24) (Kd.V_reads' (Kd.V_mono (ok' := (fun k_ => ((P0_1_ k_ ∨ P1_1_ k_) ∨ w.heap.size ≤ k_) ∧ k_ ≠ gb108 ∧ k_ ≠ gb109 ∧ k_ ≠ gb110)) (HO1_1.out) (fun k_ hk => ⟨hk.1.1.1, ⟨hk.1.1.2, ⟨hk.1.2, hk.2⟩⟩⟩))).2.1 (Kd.V_F (Kd.V_mono (ok' := (fun k_ => ((P0_1_ k_ ∨ P1_1_ k_) ∨ w.heap.size ≤ k_) ∧ k_ ≠ gb108 ∧ k_ ≠ gb109 ∧ k_ ≠ gb110)) (HO1_1.out) (fun k_ hk => ⟨hk.1.1.1, ⟨hk.1.1.2, ⟨hk.1.2, hk.2⟩⟩⟩))))) (Reps.none _ _)))); intro v112 w33 ho34 hb hg_ hnew_; clear hg_ hnew_; (first | rw [← Ny111.out] at ho34 | (simp only [Int.reduceToNat] at ho34; rw [← Ny111.out] at ho34)); have n0_ := Aside0.mk (Kd.V_elder' (by (with_reducible repeat (first | apply Kd.V_alloc | apply Kd.V_drewN | apply Kd.V_drew)); exact HO0_1.out) (Kd.N_base ho34) hb); have n1_ := Aside0.mk (Kd.V_elder' (by (with_reducible repeat (first | apply Kd.V_alloc | apply Kd.V_drewN | apply Kd.V_drew)); exact HO1_1.out) (Kd.N_base ho34) hb); have n2_ := Aside0.mk (Kd.N_lower ho34 (below_size (by repeat (first | (with_reducible first | exact HB.out | apply below_alloc | apply pw_below_drewN | apply below_drew1 | refine below_set ?_ GE108.out | refine below_set ?_ GE109.out | refine below_set ?_ GE110.out) | exact HB.out)))); have n3_ := Aside0.mk (blk_below (g := gb108) (o := .cells #[.int .i64 a0_0, .slice A0_1 l0_1.length c0_1] 24 (0, 0)) (by (with_reducible repeat (first | refine blk_drewN ?_ _ | refine blk_drew ?_ | refine blk_alloc ?_ _)); exact BK108.out) hb); have n4_ := Aside0.mk (blk_below (g := gb109) (o := .cells #[.int .i64 a1_0, .slice A1_1 l1_1.length c1_1] 24 (0, 0)) (by (with_reducible repeat (first | refine blk_drewN ?_ _ | refine blk_drew ?_ | refine blk_alloc ?_ _)); exact BK109.out) hb); have n5_ := Aside0.mk (blk_below (g := gb110) (o := .cells #[.int .i64 a2_0, .int .i64 a2_1, .int .i64 a2_2, .int .i64 a2_3] 26 (0, 0)) (by (with_reducible repeat (first | refine blk_drewN ?_ _ | refine blk_drew ?_ | refine blk_alloc ?_ _)); exact BK110.out) hb); have n6_ := Aside0.mk (below_step (by repeat (first | (with_reducible first | exact HB.out | apply below_alloc | apply pw_below_drewN | apply below_drew1 | refine below_set ?_ GE108.out | refine below_set ?_ GE109.out | refine below_set ?_ GE110.out) | exact HB.out)) hb); clear HO0_1; clear HO1_1; clear BK108; clear BK109; clear BK110; clear HB; have HO0_1 := n0_; have HO1_1 := n1_; have HO113 := n2_; have BK108 := n3_; have BK109 := n4_; have BK110 := n5_; have HB := n6_; clear n0_ n1_ n2_ n3_ n4_ n5_ n6_; clear hb ho34; obtain ⟨Ao35, co35, eo35⟩ := Kd.N_slice HO113.out; subst eo35) | ((with_reducible refine gate_callee (f := 62) rfl ?_); refine goesL_ (some 14) rfl rfl Tryd.func62 (by kernel_rfl) rfl #[.agg #[.int .i64 a2_0, .int .i64 a2_1, .int .i64 a2_2, .int .i64 a2_3], .slice Ao35 y111.length co35] rfl (by (try simp only [List.map_toArray, List.map_cons, List.map_nil]); first | done | rfl | (simp only [List.length_drop, List.length_take]; rfl)) ?_; (with_reducible refine (guard_checkAll.calls a2_0 a2_1 a2_2 a2_3 _ _ y111 t114 _ ?side1 ?side2 A4.out).mono ?_); (case side1 => repeat (first | exact (Kd.N_reads' HO113.out).2.2 | (with_reducible refine Kd.C_alloc ?_ _) | (with_reducible refine Kd.C_drewN ?_ _) | (with_reducible refine Kd.C_drew ?_))); (case side2 => exact (Kd.N_reads' HO113.out).2.1); rintro e w36 ⟨rfl, hb⟩; refine ⟨_, rfl, ?_⟩; have n0_ := Aside0.mk (Kd.V_below (by (with_reducible repeat (first | apply Kd.V_alloc | apply Kd.V_drewN | apply Kd.V_drew)); exact HO0_1.out) hb); have n1_ := Aside0.mk (Kd.V_below (by (with_reducible repeat (first | apply Kd.V_alloc | apply Kd.V_drewN | apply Kd.V_drew)); exact HO1_1.out) hb); have n2_ := Aside0.mk (Kd.N_below (by (with_reducible repeat (first | apply Kd.N_alloc | apply Kd.N_drewN | apply Kd.N_drew)); exact HO113.out) hb); have n3_ := Aside0.mk (blk_below (g := gb108) (o := .cells #[.int .i64 a0_0, .slice A0_1 l0_1.length c0_1] 24 (0, 0)) (by (with_reducible repeat (first | refine blk_drewN ?_ _ | refine blk_drew ?_ | refine blk_alloc ?_ _)); exact BK108.out) hb); have n4_ := Aside0.mk (blk_below (g := gb109) (o := .cells #[.int .i64 a1_0, .slice A1_1 l1_1.length c1_1] 24 (0, 0)) (by (with_reducible repeat (first | refine blk_drewN ?_ _ | refine blk_drew ?_ | refine blk_alloc ?_ _)); exact BK109.out) hb); have n5_ := Aside0.mk (blk_below (g := gb110) (o := .cells #[.int .i64 a2_0, .int .i64 a2_1, .int .i64 a2_2, .int .i64 a2_3] 26 (0, 0)) (by (with_reducible repeat (first | refine blk_drewN ?_ _ | refine blk_drew ?_ | refine blk_alloc ?_ _)); exact BK110.out) hb); have n6_ := Aside0.mk (below_step (by repeat (first | (with_reducible first | exact HB.out | apply below_alloc | apply pw_below_drewN | apply below_drew1 | refine below_set ?_ GE108.out | refine below_set ?_ GE109.out | refine below_set ?_ GE110.out) | exact HB.out)) hb); clear HO0_1; clear HO1_1; clear HO113; clear BK108; clear BK109; clear BK110; clear HB; have HO0_1 := n0_; have HO1_1 := n1_; have HO113 := n2_; have BK108 := n3_; have BK109 := n4_; have BK110 := n5_; have HB := n6_; clear n0_ n1_ n2_ n3_ n4_ n5_ n6_; (try clear hb); (try clear hb2); (try clear hk); (try clear hi)))
    go_ret3
    exact ⟨by first | rfl | (simp [errW_none, errW_some] <;> rfl) | (simp [*, errW_none, errW_some] <;> rfl), by repeat (first | (with_reducible first | exact HB.out | apply below_alloc | apply pw_below_drewN | apply below_drew1 | refine below_set ?_ GE108.out | refine below_set ?_ GE109.out | refine below_set ?_ GE110.out) | exact HB.out)⟩
end Go.Proofs.YtamibghbkjmmeaaDoor.G
end
section
namespace Go.Proofs.YtamibghbkjmmeaaDoor.G
open Go.RowKit Go.Proofs.YtamibghbkjmmeaaDoorW.PrintWords Go.Proofs.YtamibghbkjmmeaaDoorW.PrintLast Go.Proofs.YtamibghbkjmmeaaDoorW.PrintMore
attribute [local go_sem] max2_int min2_int max_two min_two max_three min_three max_four min_four
set_option linter.unusedVariables false
set_option linter.unusedSimpArgs false
def guard_Pairs.f (k : Nat) (l0_0 : List (S24)) (l0_1 : List (S24)) (a1_0 : Int) (a1_1 : Int) (a1_2 : Int) (a1_3 : Int) : Option ((List (S85)) × Int) := (guard_Check.f l0_0 l0_1 a1_0 a1_1 a1_2 a1_3).bind fun t138 => (if t138 = 0 then ((guard_gauge_table.f k a1_0 a1_1 a1_2 a1_3 l0_0 l0_1 2).bind fun t139 => ((guard_table_pairs.f t139).bind fun t142 => (some (t142, 0)))) else (some (([] : List (S85)), t138)))
set_option maxHeartbeats 8000000 in
set_option maxRecDepth 100000 in
theorem guard_Pairs.calls (k : Nat) (A0_0 : Option Addr) (c0_0 : Nat) (l0_0 : List (S24)) (A0_1 : Option Addr) (c0_1 : Nat) (l0_1 : List (S24)) (a1_0 : Int) (a1_1 : Int) (a1_2 : Int) (a1_3 : Int) (r1 : List (S85)) (r2 : Int) (w : World) (hr0_0 : Kd.C k24 w A0_0 l0_0.length l0_0) (hc0_0 : l0_0.length ≤ c0_0) (hr0_1 : Kd.C k24 w A0_1 l0_1.length l0_1) (hc0_1 : l0_1.length ≤ c0_1) (hT_ : TabOk w) (h : guard_Pairs.f k l0_0 l0_1 a1_0 a1_1 a1_2 a1_3 = some (r1, r2)) :
    Calls Tryd.prog 27 #[.agg #[.slice A0_0 l0_0.length c0_0, .slice A0_1 l0_1.length c0_1], .agg #[.int .i64 a1_0, .int .i64 a1_1, .int .i64 a1_2, .int .i64 a1_3]] w fun e w' => ∃ v0_ : Value, e = .returned (.tuple #[v0_, .int .i64 r2]) ∧ Kd.R k85 85 w' w.heap.size (fun _ => True) v0_ r1 ∧ Below w.heap.size w w' := by
  have hu38 := Tryd.underlying38
  have hu26 := Tryd.underlying26
  have hu104 := Tryd.underlying104
  have HR0_0 := Aside0.mk hr0_0
  have HC0_0 := Aside0.mk hc0_0
  clear hr0_0 hc0_0
  have HR0_1 := Aside0.mk hr0_1
  have HC0_1 := Aside0.mk hc0_1
  clear hr0_1 hc0_1
  have HB := Aside0.mk (Below.refl w.heap.size w)
  have HT_ := Aside0.mk hT_; clear hT_
  have H : ((guard_Check.f l0_0 l0_1 a1_0 a1_1 a1_2 a1_3).bind fun t138 => (if t138 = 0 then ((guard_gauge_table.f k a1_0 a1_1 a1_2 a1_3 l0_0 l0_1 2).bind fun t139 => ((guard_table_pairs.f t139).bind fun t142 => (some (t142, 0)))) else (some (([] : List (S85)), t138)))) = some (r1, r2) := h
  clear h
  replace H := Option.bind_eq_some_iff.mp H
  obtain ⟨t138, A30, H⟩ := H
  replace H : (if t138 = 0 then ((guard_gauge_table.f k a1_0 a1_1 a1_2 a1_3 l0_0 l0_1 2).bind fun t139 => ((guard_table_pairs.f t139).bind fun t142 => (some (t142, 0)))) else (some (([] : List (S85)), t138))) = some (r1, r2) := H
  have A3 := Aside0.mk A30
  clear A30
  by_cases c4 : t138 = 0
  · rw [if_pos c4] at H
    have c4b0 : (t138 == 0) = true := beq_iff_eq.mpr c4
    have c4b1 : (t138 != 0) = false := bne_eq_false_iff_eq.mpr c4
    clear c4
    replace H := Option.bind_eq_some_iff.mp H
    obtain ⟨t139, A50, H⟩ := H
    replace H : ((guard_table_pairs.f t139).bind fun t142 => (some (t142, 0))) = some (r1, r2) := H
    have A5 := Aside0.mk A50
    clear A50
    replace H := Option.bind_eq_some_iff.mp H
    obtain ⟨t142, A60, H⟩ := H
    replace H : (some (t142, 0)) = some (r1, r2) := H
    have A6 := Aside0.mk A60
    clear A60
    simp only [Option.some.injEq, Prod.mk.injEq] at H
    obtain ⟨rfl, rfl⟩ := H
    go_enter Tryd.func27, Tryd.ntmps27
    go_wp2_with (first | ((with_reducible refine gate_dst (N := 2) rfl ?_); refine box_event ?hg (N := 2) ?hd (cs := #[.slice A0_0 l0_0.length c0_0, .slice A0_1 l0_1.length c0_1]) (t := 38) ?hr ?_; (case hd => rfl); (case hg => rfl); (case hr => first | (go_simp; done) | (go_simp; rfl)); intro gb136 hg w7 hbox hb; have n0_ := Aside0.mk (below_step (by repeat (first | (with_reducible first | exact HB.out | apply below_alloc | apply pw_below_drewN | apply below_drew1) | exact HB.out)) hb); have n1_ := Aside0.mk (hbox); have n2_ := Aside0.mk ((by rw [hg]; exact (below_size (by repeat (first | (with_reducible first | exact HB.out | apply below_alloc | apply pw_below_drewN | apply below_drew1) | exact HB.out))) : w.heap.size ≤ gb136)); have n3_ := Aside0.mk ((by rw [hg]; exact (below_size (by repeat (first | (with_reducible first | exact HB.out | apply below_alloc | apply pw_below_drewN | apply below_drew1) | exact HB.out))) : w.heap.size ≤ gb136)); clear HB; have HB := n0_; have BK136 := n1_; have GW136 := n2_; have GE136 := n3_; clear n0_ n1_ n2_ n3_; clear hb hbox hg) | ((with_reducible refine gate_dst (N := 3) rfl ?_); refine box_event ?hg (N := 3) ?hd (cs := #[.int .i64 a1_0, .int .i64 a1_1, .int .i64 a1_2, .int .i64 a1_3]) (t := 26) ?hr ?_; (case hd => rfl); (case hg => rfl); (case hr => first | (go_simp; done) | (go_simp; rfl)); intro gb137 hg w8 hbox hb; have n0_ := Aside0.mk (blk_below (g := gb136) (o := .cells #[.slice A0_0 l0_0.length c0_0, .slice A0_1 l0_1.length c0_1] 38 (0, 0)) (by (with_reducible repeat (first | refine blk_drewN ?_ _ | refine blk_drew ?_ | refine blk_alloc ?_ _)); exact BK136.out) hb); have n1_ := Aside0.mk (below_step (by repeat (first | (with_reducible first | exact HB.out | apply below_alloc | apply pw_below_drewN | apply below_drew1 | refine below_set ?_ GE136.out) | exact HB.out)) hb); have n2_ := Aside0.mk (hbox); have n3_ := Aside0.mk ((by rw [hg]; exact (below_size (by repeat (first | (with_reducible first | exact HB.out | apply below_alloc | apply pw_below_drewN | apply below_drew1 | refine below_set ?_ GE136.out) | exact HB.out))) : w.heap.size ≤ gb137)); have n4_ := Aside0.mk ((by rw [hg]; exact (below_size (by repeat (first | (with_reducible first | exact HB.out | apply below_alloc | apply pw_below_drewN | apply below_drew1 | refine below_set ?_ GE136.out) | exact HB.out))) : w.heap.size ≤ gb137)); have n5_ := Aside0.mk ((by rw [hg]; exact Nat.ne_of_lt (blk_lt (g := gb136) (o := .cells #[.slice A0_0 l0_0.length c0_0, .slice A0_1 l0_1.length c0_1] 38 (0, 0)) (by (with_reducible repeat (first | refine blk_drewN ?_ _ | refine blk_drew ?_ | refine blk_alloc ?_ _)); exact BK136.out)) : gb136 ≠ gb137)); have n6_ := Aside0.mk ((by rw [hg]; exact Nat.ne_of_gt (blk_lt (g := gb136) (o := .cells #[.slice A0_0 l0_0.length c0_0, .slice A0_1 l0_1.length c0_1] 38 (0, 0)) (by (with_reducible repeat (first | refine blk_drewN ?_ _ | refine blk_drew ?_ | refine blk_alloc ?_ _)); exact BK136.out)) : gb137 ≠ gb136)); clear BK136; clear HB; have BK136 := n0_; have HB := n1_; have BK137 := n2_; have GW137 := n3_; have GE137 := n4_; have NB136_137 := n5_; have NB137_136 := n6_; clear n0_ n1_ n2_ n3_ n4_ n5_ n6_; clear hb hbox hg; have hnb9 := NB136_137.out; have hnc9 := NB137_136.out; have hcz10_0 : w8.cell? ⟨gb136, 0, none⟩ = some (.slice A0_0 l0_0.length c0_0) := (blk_cell BK136.out 0).trans rfl; have hcz10_1 : w8.cell? ⟨gb136, 1, none⟩ = some (.slice A0_1 l0_1.length c0_1) := (blk_cell BK136.out 1).trans rfl; have hfz10_0 := blk_frozen BK136.out 0; have hfz10_1 := blk_frozen BK136.out 1; have hcz11_0 : w8.cell? ⟨gb137, 0, none⟩ = some (.int .i64 a1_0) := (blk_cell BK137.out 0).trans rfl; have hcz11_1 : w8.cell? ⟨gb137, 1, none⟩ = some (.int .i64 a1_1) := (blk_cell BK137.out 1).trans rfl; have hcz11_2 : w8.cell? ⟨gb137, 2, none⟩ = some (.int .i64 a1_2) := (blk_cell BK137.out 2).trans rfl; have hcz11_3 : w8.cell? ⟨gb137, 3, none⟩ = some (.int .i64 a1_3) := (blk_cell BK137.out 3).trans rfl; have hfz11_0 := blk_frozen BK137.out 0; have hfz11_1 := blk_frozen BK137.out 1; have hfz11_2 := blk_frozen BK137.out 2; have hfz11_3 := blk_frozen BK137.out 3) | ((with_reducible refine gate_callee (f := 26) rfl ?_); refine goesL_ (some 9) rfl rfl Tryd.func26 (by kernel_rfl) rfl #[.agg #[.slice A0_0 l0_0.length c0_0, .slice A0_1 l0_1.length c0_1], .agg #[.int .i64 a1_0, .int .i64 a1_1, .int .i64 a1_2, .int .i64 a1_3]] rfl (by (try simp only [List.map_toArray, List.map_cons, List.map_nil]); first | done | rfl | (simp only [List.length_drop, List.length_take]; rfl)) ?_; (with_reducible refine (guard_Check.calls _ _ l0_0 _ _ l0_1 a1_0 a1_1 a1_2 a1_3 t138 _ ?side1 ?side2 ?side3 ?side4 A3.out).mono ?_); (case side1 => repeat (first | exact (Kd.C_below HR0_0.out HB.out) | (with_reducible refine Kd.C_alloc ?_ _) | (with_reducible refine Kd.C_drewN ?_ _) | (with_reducible refine Kd.C_drew ?_))); (case side2 => exact HC0_0.out); (case side3 => repeat (first | exact (Kd.C_below HR0_1.out HB.out) | (with_reducible refine Kd.C_alloc ?_ _) | (with_reducible refine Kd.C_drewN ?_ _) | (with_reducible refine Kd.C_drew ?_))); (case side4 => exact HC0_1.out); rintro e w12 ⟨rfl, hb⟩; refine ⟨_, rfl, ?_⟩; have n0_ := Aside0.mk (blk_below (g := gb136) (o := .cells #[.slice A0_0 l0_0.length c0_0, .slice A0_1 l0_1.length c0_1] 38 (0, 0)) (by (with_reducible repeat (first | refine blk_drewN ?_ _ | refine blk_drew ?_ | refine blk_alloc ?_ _)); exact BK136.out) hb); have n1_ := Aside0.mk (blk_below (g := gb137) (o := .cells #[.int .i64 a1_0, .int .i64 a1_1, .int .i64 a1_2, .int .i64 a1_3] 26 (0, 0)) (by (with_reducible repeat (first | refine blk_drewN ?_ _ | refine blk_drew ?_ | refine blk_alloc ?_ _)); exact BK137.out) hb); have n2_ := Aside0.mk (below_step (by repeat (first | (with_reducible first | exact HB.out | apply below_alloc | apply pw_below_drewN | apply below_drew1 | refine below_set ?_ GE136.out | refine below_set ?_ GE137.out) | exact HB.out)) hb); clear BK136; clear BK137; clear HB; have BK136 := n0_; have BK137 := n1_; have HB := n2_; clear n0_ n1_ n2_; (try clear hb); (try clear hb2); (try clear hk); (try clear hi); have hcz13_0 : w12.cell? ⟨gb137, 0, none⟩ = some (.int .i64 a1_0) := (blk_cell BK137.out 0).trans rfl; have hcz13_1 : w12.cell? ⟨gb137, 1, none⟩ = some (.int .i64 a1_1) := (blk_cell BK137.out 1).trans rfl; have hcz13_2 : w12.cell? ⟨gb137, 2, none⟩ = some (.int .i64 a1_2) := (blk_cell BK137.out 2).trans rfl; have hcz13_3 : w12.cell? ⟨gb137, 3, none⟩ = some (.int .i64 a1_3) := (blk_cell BK137.out 3).trans rfl; have hfz13_0 := blk_frozen BK137.out 0; have hfz13_1 := blk_frozen BK137.out 1; have hfz13_2 := blk_frozen BK137.out 2; have hfz13_3 := blk_frozen BK137.out 3; have hcz14_0 : w12.cell? ⟨gb136, 0, none⟩ = some (.slice A0_0 l0_0.length c0_0) := (blk_cell BK136.out 0).trans rfl; have hcz14_1 : w12.cell? ⟨gb136, 1, none⟩ = some (.slice A0_1 l0_1.length c0_1) := (blk_cell BK136.out 1).trans rfl; have hfz14_0 := blk_frozen BK136.out 0; have hfz14_1 := blk_frozen BK136.out 1) | ((with_reducible refine gate_callee (f := 67) rfl ?_); refine goesL_ (some 16) rfl rfl Tryd.func67 (by kernel_rfl) rfl #[.agg #[.int .i64 a1_0, .int .i64 a1_1, .int .i64 a1_2, .int .i64 a1_3], .agg #[.slice A0_0 l0_0.length c0_0, .slice A0_1 l0_1.length c0_1], .int .i64 2] rfl (by (try simp only [List.map_toArray, List.map_cons, List.map_nil]); first | done | rfl | (simp only [List.length_drop, List.length_take]; rfl)) ?_; (with_reducible refine (guard_gauge_table.calls k a1_0 a1_1 a1_2 a1_3 _ _ l0_0 _ _ l0_1 2 t139 _ ?side1 ?side2 ?side3 ?side4 A5.out).mono ?_); (case side1 => repeat (first | exact (Kd.C_below HR0_0.out HB.out) | (with_reducible refine Kd.C_alloc ?_ _) | (with_reducible refine Kd.C_drewN ?_ _) | (with_reducible refine Kd.C_drew ?_))); (case side2 => exact HC0_0.out); (case side3 => repeat (first | exact (Kd.C_below HR0_1.out HB.out) | (with_reducible refine Kd.C_alloc ?_ _) | (with_reducible refine Kd.C_drewN ?_ _) | (with_reducible refine Kd.C_drew ?_))); (case side4 => exact HC0_1.out); rintro e w15 ⟨v140, rfl, ho0, hb⟩; refine ⟨_, rfl, ?_⟩; have n0_ := Aside0.mk (Kd.R_lower ho0 (below_size (by repeat (first | (with_reducible first | exact HB.out | apply below_alloc | apply pw_below_drewN | apply below_drew1 | refine below_set ?_ GE136.out | refine below_set ?_ GE137.out) | exact HB.out)))); have n1_ := Aside0.mk (blk_below (g := gb136) (o := .cells #[.slice A0_0 l0_0.length c0_0, .slice A0_1 l0_1.length c0_1] 38 (0, 0)) (by (with_reducible repeat (first | refine blk_drewN ?_ _ | refine blk_drew ?_ | refine blk_alloc ?_ _)); exact BK136.out) hb); have n2_ := Aside0.mk (blk_below (g := gb137) (o := .cells #[.int .i64 a1_0, .int .i64 a1_1, .int .i64 a1_2, .int .i64 a1_3] 26 (0, 0)) (by (with_reducible repeat (first | refine blk_drewN ?_ _ | refine blk_drew ?_ | refine blk_alloc ?_ _)); exact BK137.out) hb); have n3_ := Aside0.mk (below_step (by repeat (first | (with_reducible first | exact HB.out | apply below_alloc | apply pw_below_drewN | apply below_drew1 | refine below_set ?_ GE136.out | refine below_set ?_ GE137.out) | exact HB.out)) hb); clear BK136; clear BK137; clear HB; have HO141 := n0_; have BK136 := n1_; have BK137 := n2_; have HB := n3_; clear n0_ n1_ n2_ n3_; (try clear hb); (try clear hb2); (try clear hk); (try clear hi); (try clear ho0); obtain ⟨Ao16, co16, eo16⟩ := Kd.R_slice HO141.out; subst eo16) | ((with_reducible refine gate_callee (f := 68) rfl ?_); refine goesL_ (some 17) rfl rfl Tryd.func68 (by kernel_rfl) rfl #[.slice Ao16 t139.length co16] rfl (by (try simp only [List.map_toArray, List.map_cons, List.map_nil]); first | done | rfl | (simp only [List.length_drop, List.length_take]; rfl)) ?_; (with_reducible refine (guard_table_pairs.calls _ _ t139 t142 _ ?side1 ?side2 ?side3 A6.out).mono ?_); (case side1 => repeat (first | exact (Kd.R_reads' HO141.out).2.2 | (with_reducible refine Kd.C_alloc ?_ _) | (with_reducible refine Kd.C_drewN ?_ _) | (with_reducible refine Kd.C_drew ?_))); (case side2 => exact (Kd.R_reads' HO141.out).2.1); (case side3 => exact TabOk.go HT_.out (by repeat (first | (with_reducible first | exact HB.out | apply below_alloc | apply pw_below_drewN | apply below_drew1 | refine below_set ?_ GE136.out | refine below_set ?_ GE137.out) | exact HB.out))); rintro e w17 ⟨v143, rfl, ho0, hb⟩; refine ⟨_, rfl, ?_⟩; have n0_ := Aside0.mk (Kd.R_below (by (with_reducible repeat (first | apply Kd.R_alloc | apply Kd.R_drewN | apply Kd.R_drew)); exact HO141.out) hb); have n1_ := Aside0.mk (Kd.R_lower ho0 (below_size (by repeat (first | (with_reducible first | exact HB.out | apply below_alloc | apply pw_below_drewN | apply below_drew1 | refine below_set ?_ GE136.out | refine below_set ?_ GE137.out) | exact HB.out)))); have n2_ := Aside0.mk (blk_below (g := gb136) (o := .cells #[.slice A0_0 l0_0.length c0_0, .slice A0_1 l0_1.length c0_1] 38 (0, 0)) (by (with_reducible repeat (first | refine blk_drewN ?_ _ | refine blk_drew ?_ | refine blk_alloc ?_ _)); exact BK136.out) hb); have n3_ := Aside0.mk (blk_below (g := gb137) (o := .cells #[.int .i64 a1_0, .int .i64 a1_1, .int .i64 a1_2, .int .i64 a1_3] 26 (0, 0)) (by (with_reducible repeat (first | refine blk_drewN ?_ _ | refine blk_drew ?_ | refine blk_alloc ?_ _)); exact BK137.out) hb); have n4_ := Aside0.mk (below_step (by repeat (first | (with_reducible first | exact HB.out | apply below_alloc | apply pw_below_drewN | apply below_drew1 | refine below_set ?_ GE136.out | refine below_set ?_ GE137.out) | exact HB.out)) hb); clear HO141; clear BK136; clear BK137; clear HB; have HO141 := n0_; have HO144 := n1_; have BK136 := n2_; have BK137 := n3_; have HB := n4_; clear n0_ n1_ n2_ n3_ n4_; (try clear hb); (try clear hb2); (try clear hk); (try clear hi); (try clear ho0)))
    go_ret2
    exact ⟨_, by first | rfl | (simp [errW_none, errW_some] <;> rfl) | (simp [*, errW_none, errW_some] <;> rfl), by (with_reducible repeat (first | apply Kd.R_alloc | apply Kd.R_drewN | apply Kd.R_drew)); exact HO144.out, by repeat (first | (with_reducible first | exact HB.out | apply below_alloc | apply pw_below_drewN | apply below_drew1 | refine below_set ?_ GE136.out | refine below_set ?_ GE137.out) | exact HB.out)⟩
  · rw [if_neg c4] at H
    have c4b0 : (t138 == 0) = false := beq_eq_false_iff_ne.mpr c4
    have c4b1 : (t138 != 0) = true := bne_iff_ne.mpr c4
    simp only [Option.some.injEq, Prod.mk.injEq] at H
    obtain ⟨rfl, rfl⟩ := H
    go_enter Tryd.func27, Tryd.ntmps27
    go_wp2_with (first | ((with_reducible refine gate_dst (N := 2) rfl ?_); refine box_event ?hg (N := 2) ?hd (cs := #[.slice A0_0 l0_0.length c0_0, .slice A0_1 l0_1.length c0_1]) (t := 38) ?hr ?_; (case hd => rfl); (case hg => rfl); (case hr => first | (go_simp; done) | (go_simp; rfl)); intro gb136 hg w18 hbox hb; have n0_ := Aside0.mk (below_step (by repeat (first | (with_reducible first | exact HB.out | apply below_alloc | apply pw_below_drewN | apply below_drew1) | exact HB.out)) hb); have n1_ := Aside0.mk (hbox); have n2_ := Aside0.mk ((by rw [hg]; exact (below_size (by repeat (first | (with_reducible first | exact HB.out | apply below_alloc | apply pw_below_drewN | apply below_drew1) | exact HB.out))) : w.heap.size ≤ gb136)); have n3_ := Aside0.mk ((by rw [hg]; exact (below_size (by repeat (first | (with_reducible first | exact HB.out | apply below_alloc | apply pw_below_drewN | apply below_drew1) | exact HB.out))) : w.heap.size ≤ gb136)); clear HB; have HB := n0_; have BK136 := n1_; have GW136 := n2_; have GE136 := n3_; clear n0_ n1_ n2_ n3_; clear hb hbox hg) | ((with_reducible refine gate_dst (N := 3) rfl ?_); refine box_event ?hg (N := 3) ?hd (cs := #[.int .i64 a1_0, .int .i64 a1_1, .int .i64 a1_2, .int .i64 a1_3]) (t := 26) ?hr ?_; (case hd => rfl); (case hg => rfl); (case hr => first | (go_simp; done) | (go_simp; rfl)); intro gb137 hg w19 hbox hb; have n0_ := Aside0.mk (blk_below (g := gb136) (o := .cells #[.slice A0_0 l0_0.length c0_0, .slice A0_1 l0_1.length c0_1] 38 (0, 0)) (by (with_reducible repeat (first | refine blk_drewN ?_ _ | refine blk_drew ?_ | refine blk_alloc ?_ _)); exact BK136.out) hb); have n1_ := Aside0.mk (below_step (by repeat (first | (with_reducible first | exact HB.out | apply below_alloc | apply pw_below_drewN | apply below_drew1 | refine below_set ?_ GE136.out) | exact HB.out)) hb); have n2_ := Aside0.mk (hbox); have n3_ := Aside0.mk ((by rw [hg]; exact (below_size (by repeat (first | (with_reducible first | exact HB.out | apply below_alloc | apply pw_below_drewN | apply below_drew1 | refine below_set ?_ GE136.out) | exact HB.out))) : w.heap.size ≤ gb137)); have n4_ := Aside0.mk ((by rw [hg]; exact (below_size (by repeat (first | (with_reducible first | exact HB.out | apply below_alloc | apply pw_below_drewN | apply below_drew1 | refine below_set ?_ GE136.out) | exact HB.out))) : w.heap.size ≤ gb137)); have n5_ := Aside0.mk ((by rw [hg]; exact Nat.ne_of_lt (blk_lt (g := gb136) (o := .cells #[.slice A0_0 l0_0.length c0_0, .slice A0_1 l0_1.length c0_1] 38 (0, 0)) (by (with_reducible repeat (first | refine blk_drewN ?_ _ | refine blk_drew ?_ | refine blk_alloc ?_ _)); exact BK136.out)) : gb136 ≠ gb137)); have n6_ := Aside0.mk ((by rw [hg]; exact Nat.ne_of_gt (blk_lt (g := gb136) (o := .cells #[.slice A0_0 l0_0.length c0_0, .slice A0_1 l0_1.length c0_1] 38 (0, 0)) (by (with_reducible repeat (first | refine blk_drewN ?_ _ | refine blk_drew ?_ | refine blk_alloc ?_ _)); exact BK136.out)) : gb137 ≠ gb136)); clear BK136; clear HB; have BK136 := n0_; have HB := n1_; have BK137 := n2_; have GW137 := n3_; have GE137 := n4_; have NB136_137 := n5_; have NB137_136 := n6_; clear n0_ n1_ n2_ n3_ n4_ n5_ n6_; clear hb hbox hg; have hnb20 := NB136_137.out; have hnc20 := NB137_136.out; have hcz21_0 : w19.cell? ⟨gb136, 0, none⟩ = some (.slice A0_0 l0_0.length c0_0) := (blk_cell BK136.out 0).trans rfl; have hcz21_1 : w19.cell? ⟨gb136, 1, none⟩ = some (.slice A0_1 l0_1.length c0_1) := (blk_cell BK136.out 1).trans rfl; have hfz21_0 := blk_frozen BK136.out 0; have hfz21_1 := blk_frozen BK136.out 1; have hcz22_0 : w19.cell? ⟨gb137, 0, none⟩ = some (.int .i64 a1_0) := (blk_cell BK137.out 0).trans rfl; have hcz22_1 : w19.cell? ⟨gb137, 1, none⟩ = some (.int .i64 a1_1) := (blk_cell BK137.out 1).trans rfl; have hcz22_2 : w19.cell? ⟨gb137, 2, none⟩ = some (.int .i64 a1_2) := (blk_cell BK137.out 2).trans rfl; have hcz22_3 : w19.cell? ⟨gb137, 3, none⟩ = some (.int .i64 a1_3) := (blk_cell BK137.out 3).trans rfl; have hfz22_0 := blk_frozen BK137.out 0; have hfz22_1 := blk_frozen BK137.out 1; have hfz22_2 := blk_frozen BK137.out 2; have hfz22_3 := blk_frozen BK137.out 3) | ((with_reducible refine gate_callee (f := 26) rfl ?_); refine goesL_ (some 9) rfl rfl Tryd.func26 (by kernel_rfl) rfl #[.agg #[.slice A0_0 l0_0.length c0_0, .slice A0_1 l0_1.length c0_1], .agg #[.int .i64 a1_0, .int .i64 a1_1, .int .i64 a1_2, .int .i64 a1_3]] rfl (by (try simp only [List.map_toArray, List.map_cons, List.map_nil]); first | done | rfl | (simp only [List.length_drop, List.length_take]; rfl)) ?_; (with_reducible refine (guard_Check.calls _ _ l0_0 _ _ l0_1 a1_0 a1_1 a1_2 a1_3 t138 _ ?side1 ?side2 ?side3 ?side4 A3.out).mono ?_); (case side1 => repeat (first | exact (Kd.C_below HR0_0.out HB.out) | (with_reducible refine Kd.C_alloc ?_ _) | (with_reducible refine Kd.C_drewN ?_ _) | (with_reducible refine Kd.C_drew ?_))); (case side2 => exact HC0_0.out); (case side3 => repeat (first | exact (Kd.C_below HR0_1.out HB.out) | (with_reducible refine Kd.C_alloc ?_ _) | (with_reducible refine Kd.C_drewN ?_ _) | (with_reducible refine Kd.C_drew ?_))); (case side4 => exact HC0_1.out); rintro e w23 ⟨rfl, hb⟩; refine ⟨_, rfl, ?_⟩; have n0_ := Aside0.mk (blk_below (g := gb136) (o := .cells #[.slice A0_0 l0_0.length c0_0, .slice A0_1 l0_1.length c0_1] 38 (0, 0)) (by (with_reducible repeat (first | refine blk_drewN ?_ _ | refine blk_drew ?_ | refine blk_alloc ?_ _)); exact BK136.out) hb); have n1_ := Aside0.mk (blk_below (g := gb137) (o := .cells #[.int .i64 a1_0, .int .i64 a1_1, .int .i64 a1_2, .int .i64 a1_3] 26 (0, 0)) (by (with_reducible repeat (first | refine blk_drewN ?_ _ | refine blk_drew ?_ | refine blk_alloc ?_ _)); exact BK137.out) hb); have n2_ := Aside0.mk (below_step (by repeat (first | (with_reducible first | exact HB.out | apply below_alloc | apply pw_below_drewN | apply below_drew1 | refine below_set ?_ GE136.out | refine below_set ?_ GE137.out) | exact HB.out)) hb); clear BK136; clear BK137; clear HB; have BK136 := n0_; have BK137 := n1_; have HB := n2_; clear n0_ n1_ n2_; (try clear hb); (try clear hb2); (try clear hk); (try clear hi)))
    go_ret2
    exact ⟨_, by first | rfl | (simp [errW_none, errW_some] <;> rfl) | (simp [*, errW_none, errW_some] <;> rfl), by first | exact Kd.R_nil _ _ _ _ _ | exact Kd.N_nil _ _ _ _ _ | exact Kd.V_nil _ _ _ _ _ | exact Kd.Q_nil _ _ _ _ _ | exact Kd.S_nil _ _ _ _ _, by repeat (first | (with_reducible first | exact HB.out | apply below_alloc | apply pw_below_drewN | apply below_drew1 | refine below_set ?_ GE136.out | refine below_set ?_ GE137.out) | exact HB.out)⟩
end Go.Proofs.YtamibghbkjmmeaaDoor.G
end
