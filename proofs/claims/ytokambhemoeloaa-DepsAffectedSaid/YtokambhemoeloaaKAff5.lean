/- Parts of a proof about the given program: lemmas and walks, packed by wip/tools/pack.py out of this repo's texts. -/
import Derived.Test.YtokambhemoeloaaKAff4
import Derived.IntWalk
section
namespace Go.Proofs.Ytokambhemoeloaa.PA
open Go.RowKit Go.Proofs.YtokambhemoeloaaW.PrintWords Go.Proofs.YtokambhemoeloaaW.PrintLast Go.Proofs.YtokambhemoeloaaW.PrintMore
attribute [local go_sem] max2_int min2_int max_two min_two max_three min_three max_four min_four   -- for this text's walks alone
set_option linter.unusedVariables false
set_option linter.unusedSimpArgs false
mutual
def skymosaicref32_Changes.l0 : Nat → List Int → Int → List (S37) → Int → Option ((List (S37)))
  | 0, _, _, _, _ => none
  | k + 1, x0, x1, x5, x6 => if (wrap64 (x6 + 1)) < (x0.length : Int) then (skymosaicref32_Changes.j1 k x0 x1 x5 x6 (decide ((x5.length : Int) < x1))) else (skymosaicref32_Changes.j1 k x0 x1 x5 x6 false)
def skymosaicref32_Changes.j1 : Nat → List Int → Int → List (S37) → Int → Bool → Option ((List (S37)))
  | 0, _, _, _, _, _ => none
  | k + 1, x0, x1, x5, x6, x20 => if x20 = true then (if 0 ≤ x6 then (if x6 < (x0.length : Int) then ((skymosaicref01_Around.f (rd x0 x6) 1000000).bind fun t113 => ((skymosaicref32_Key.f t113).bind fun bt114 => (skymosaicref32_Changes.l1 k x0 x1 x5 x6 t113 0 bt114.1 bt114.2.1 bt114.2.2 ([] : List (S56))))) else (none)) else (none)) else (some x5)
def skymosaicref32_Changes.l1 : Nat → List Int → Int → List (S37) → Int → Int → Int → Int → Int → Int → List (S56) → Option ((List (S37)))
  | 0, _, _, _, _, _, _, _, _, _, _ => none
  | k + 1, x0, x1, x5, x6, x7, x9, x118000, x118001, x118002, x118003 => if x9 < (Int.tmod (wrap64 (Int.tdiv x7 40)) 5) then (if 0 ≤ (wrap64 (x6 + 1)) then (if (wrap64 (x6 + 1)) < (x0.length : Int) then (if (wrap64 (x9 + 1)) = 0 then (none) else ((skymosaicref32_Of.f x118000 x118001 x118002 (wrap64 ((wrap64 (Int.tdiv (rd x0 (wrap64 (x6 + 1))) (wrap64 (x9 + 1)))) + (wrap64 (7 * x9))))).bind fun bt119 => (if x118003.length < 3518437208883 then (skymosaicref32_Changes.l1 k x0 x1 x5 x6 x7 (wrap64 (x9 + 1)) x118000 x118001 x118002 (x118003 ++ [(⟨bt119.1, bt119.2.1, (⟨bt119.2.2.1, bt119.2.2.2.1, bt119.2.2.2.2⟩ : S34)⟩ : S56)])) else (none)))) else (none)) else (none)) else (if (Int.tmod x7 61) = 7 then ((skymosaicref32_Of.f x118000 x118001 x118002 x7).bind fun bt127 => ((skymosaicref32_Spoilt.f bt127.1 bt127.2.1 bt127.2.2.1 bt127.2.2.2.1 bt127.2.2.2.2 (wrap64 (Int.tdiv x7 61)) (Int.tmod x7 9000)).bind fun bt132 => (if x118003.length < 3518437208883 then ((some (x118003 ++ [(⟨bt132.1, bt132.2.1, (⟨bt132.2.2.1, bt132.2.2.2.1, bt132.2.2.2.2⟩ : S34)⟩ : S56)] : List (S56))).bind fun y137 => (if (Int.tmod x7 67) = 8 then (if x5.length < 2932031007402 then (skymosaicref32_Changes.l0 k x0 x1 (x5 ++ [(⟨(⟨x118000, 131072, x118002⟩ : S34), y137⟩ : S37)]) (wrap64 (x6 + 2))) else (none)) else (if x5.length < 2932031007402 then (skymosaicref32_Changes.l0 k x0 x1 (x5 ++ [(⟨(⟨x118000, x118001, x118002⟩ : S34), y137⟩ : S37)]) (wrap64 (x6 + 2))) else (none)))) else (none)))) else (if (Int.tmod x7 67) = 8 then (if x5.length < 2932031007402 then (skymosaicref32_Changes.l0 k x0 x1 (x5 ++ [(⟨(⟨x118000, 131072, x118002⟩ : S34), x118003⟩ : S37)]) (wrap64 (x6 + 2))) else (none)) else (if x5.length < 2932031007402 then (skymosaicref32_Changes.l0 k x0 x1 (x5 ++ [(⟨(⟨x118000, x118001, x118002⟩ : S34), x118003⟩ : S37)]) (wrap64 (x6 + 2))) else (none))))
end
def skymosaicref32_Changes.f (k : Nat) (l0 : List Int) (a1 : Int) : Option ((List (S37))) := skymosaicref32_Changes.l0 k l0 a1 ([] : List (S37)) 0
theorem skymosaicref32_Changes.mono_l : ∀ k, (∀ y0 y1 y2 y3, LeO (skymosaicref32_Changes.l0 k y0 y1 y2 y3) (skymosaicref32_Changes.l0 (k + 1) y0 y1 y2 y3)) ∧ (∀ y0 y1 y2 y3 y4, LeO (skymosaicref32_Changes.j1 k y0 y1 y2 y3 y4) (skymosaicref32_Changes.j1 (k + 1) y0 y1 y2 y3 y4)) ∧ (∀ y0 y1 y2 y3 y4 y5 y6 y7 y8 y9, LeO (skymosaicref32_Changes.l1 k y0 y1 y2 y3 y4 y5 y6 y7 y8 y9) (skymosaicref32_Changes.l1 (k + 1) y0 y1 y2 y3 y4 y5 y6 y7 y8 y9))
  | 0 => ⟨fun _ _ _ _ r h => by simp [skymosaicref32_Changes.l0] at h, fun _ _ _ _ _ r h => by simp [skymosaicref32_Changes.j1] at h, fun _ _ _ _ _ _ _ _ _ _ r h => by simp [skymosaicref32_Changes.l1] at h⟩
  | k + 1 => by
    obtain ⟨ih0, ih1, ih2⟩ := skymosaicref32_Changes.mono_l k
    refine ⟨?_, ?_, ?_⟩
    · intro y0 y1 y2 y3
      unfold skymosaicref32_Changes.l0
      repeat' first
      | (with_reducible exact ih0 _ _ _ _)
      | (with_reducible exact ih1 _ _ _ _ _)
      | (with_reducible exact ih2 _ _ _ _ _ _ _ _ _ _)
      | (with_reducible exact LeO.refl _)
      | (with_reducible exact LeO.none _)
      | (with_reducible refine LeO.ite ?_ ?_)
      | (with_reducible refine LeO.bind ?_ (fun _ => ?_))
      | exact ih0 _ _ _ _
      | exact ih1 _ _ _ _ _
      | exact ih2 _ _ _ _ _ _ _ _ _ _
      | exact LeO.none _
      | refine LeO.ite ?_ ?_
      | refine LeO.bind ?_ (fun _ => ?_)
    · intro y0 y1 y2 y3 y4
      unfold skymosaicref32_Changes.j1
      repeat' first
      | (with_reducible exact ih0 _ _ _ _)
      | (with_reducible exact ih1 _ _ _ _ _)
      | (with_reducible exact ih2 _ _ _ _ _ _ _ _ _ _)
      | (with_reducible exact LeO.refl _)
      | (with_reducible exact LeO.none _)
      | (with_reducible refine LeO.ite ?_ ?_)
      | (with_reducible refine LeO.bind ?_ (fun _ => ?_))
      | exact ih0 _ _ _ _
      | exact ih1 _ _ _ _ _
      | exact ih2 _ _ _ _ _ _ _ _ _ _
      | exact LeO.none _
      | refine LeO.ite ?_ ?_
      | refine LeO.bind ?_ (fun _ => ?_)
    · intro y0 y1 y2 y3 y4 y5 y6 y7 y8 y9
      unfold skymosaicref32_Changes.l1
      repeat' first
      | (with_reducible exact ih0 _ _ _ _)
      | (with_reducible exact ih1 _ _ _ _ _)
      | (with_reducible exact ih2 _ _ _ _ _ _ _ _ _ _)
      | (with_reducible exact LeO.refl _)
      | (with_reducible exact LeO.none _)
      | (with_reducible refine LeO.ite ?_ ?_)
      | (with_reducible refine LeO.bind ?_ (fun _ => ?_))
      | exact ih0 _ _ _ _
      | exact ih1 _ _ _ _ _
      | exact ih2 _ _ _ _ _ _ _ _ _ _
      | exact LeO.none _
      | refine LeO.ite ?_ ?_
      | refine LeO.bind ?_ (fun _ => ?_)
theorem skymosaicref32_Changes.mono : ∀ a0 a1 k, LeO (skymosaicref32_Changes.f k a0 a1) (skymosaicref32_Changes.f (k + 1) a0 a1) := by
  intro a0 a1 k
  obtain ⟨ih0, ih1, ih2⟩ := skymosaicref32_Changes.mono_l k
  unfold skymosaicref32_Changes.f
  repeat' first
      | (with_reducible exact ih0 _ _ _ _)
      | (with_reducible exact ih1 _ _ _ _ _)
      | (with_reducible exact ih2 _ _ _ _ _ _ _ _ _ _)
      | (with_reducible exact LeO.refl _)
      | (with_reducible exact LeO.none _)
      | (with_reducible refine LeO.ite ?_ ?_)
      | (with_reducible refine LeO.bind ?_ (fun _ => ?_))
      | exact ih0 _ _ _ _
      | exact ih1 _ _ _ _ _
      | exact ih2 _ _ _ _ _ _ _ _ _ _
      | exact LeO.none _
      | refine LeO.ite ?_ ?_
      | refine LeO.bind ?_ (fun _ => ?_)
def skymosaicref32_Changes.T10 : Bool × List (List Nat × List Nat) := (true, [([], []), ([0], [0]), ([], []), ([2], [2]), ([], []), ([], []), ([5], [5]), ([4, 6], [4, 6]), ([7], [7]), ([], []), ([9], [9]), ([8, 10], [8, 10]), ([], []), ([12], [12]), ([11, 13], [11, 13]), ([3, 14], [3, 14]), ([15], [15]), ([1, 16, 15], [1, 16]), ([0, 1, 2, 3, 4, 5, 6, 7, 8, 9, 10, 11, 12, 13, 14, 15, 16, 17], []), ([18, 17, 17, 0, 1, 2, 3, 4, 5, 6, 7, 8, 9, 10, 11, 12, 13, 14, 15, 16, 17], [17, 18])])
def skymosaicref32_Changes.B10 : List Nat := [0, 1, 0, 4, 0, 0, 32, 112, 240, 0, 512, 2032, 0, 4096, 16368, 32764, 65532, 131071, 262143, 524287]
theorem skymosaicref32_Changes.tab10 : rtab .any (opsOf Try.f8 10) = skymosaicref32_Changes.T10 := by kernel_rfl
theorem skymosaicref32_Changes.bits10 : waitsOk skymosaicref32_Changes.T10.2 skymosaicref32_Changes.B10 = true := by kernel_rfl
def skymosaicref32_Changes.T12 : Bool × List (List Nat × List Nat) := (true, [([], []), ([0], [0]), ([], []), ([2], [2]), ([], []), ([3, 4], [3, 4]), ([], []), ([6], [6]), ([], []), ([8], [8]), ([5, 7, 9, 5], [5, 7, 9]), ([10], [10]), ([1, 11, 10], [1, 11]), ([0, 1, 2, 3, 4, 5, 6, 7, 8, 9, 10, 11, 12], []), ([13, 12, 12, 0, 1, 2, 3, 4, 5, 6, 7, 8, 9, 10, 11, 12], [12, 13])])
def skymosaicref32_Changes.B12 : List Nat := [0, 1, 0, 4, 0, 28, 0, 64, 0, 256, 1020, 2044, 4095, 8191, 16383]
theorem skymosaicref32_Changes.tab12 : rtab .any (opsOf Try.f8 12) = skymosaicref32_Changes.T12 := by kernel_rfl
theorem skymosaicref32_Changes.bits12 : waitsOk skymosaicref32_Changes.T12.2 skymosaicref32_Changes.B12 = true := by kernel_rfl
set_option maxHeartbeats 8000000 in
set_option maxRecDepth 100000 in
theorem skymosaicref32_Changes.calls (k : Nat) (A0 : Option Addr) (c0 : Nat) (l0 : List Int) (a1 : Int) (r : List (S37)) (w : World) (hr0 : Kd.C (Kd.int .i64) w A0 l0.length l0) (hc0 : l0.length ≤ c0) (h : skymosaicref32_Changes.f k l0 a1 = some r) :
    Calls Try.prog 8 #[.slice A0 l0.length c0, .int .i64 a1] w fun e w' => ∃ v0_ : Value, e = .returned (v0_) ∧ Kd.S k37 37 w' w.heap.size (fun _ => True) v0_ r ∧ Below w.heap.size w w' := by
  have hu37 := Try.underlying37
  have hu34 := Try.underlying34
  have HR0 := Aside0.mk hr0
  have HC0 := Aside0.mk hc0
  clear hr0 hc0
  have HB := Aside0.mk (Below.refl w.heap.size w)
  have H : (skymosaicref32_Changes.l0 k l0 a1 ([] : List (S37)) 0) = some r := h
  clear h
  have H' := Aside0.mk H
  clear H
  go_enter Try.func8, Try.ntmps8
  go_wp2
  go_loopg [5, 6] k (fun kq v5 v6 w' => ∃ (x5_1 : List (S37)) (x6_1 : Int), v6 = .int .i64 x6_1 ∧ Aside0 (skymosaicref32_Changes.l0 kq l0 a1 x5_1 x6_1 = some r) ∧ Aside0 (kq ≤ k) ∧ Aside0 (Kd.S k37 37 w' w.heap.size (fun _ => True) v5 x5_1) ∧ Aside0 (Below w.heap.size w w'))
  case atStart => exact ⟨(([] : List (S37))), (0), (by first | rfl | (simp; done) | (simp [*]; done)), H', ⟨Nat.le_refl _⟩, ⟨by first | exact Kd.S_nil _ _ _ _ _ | exact Kd.N_nil _ _ _ _ _ | exact Kd.V_nil _ _ _ _ _ | exact Kd.Q_nil _ _ _ _ _ | exact Kd.R_nil _ _ _ _ _⟩, ⟨by repeat (first | (with_reducible first | exact HB.out | apply below_alloc | apply pw_below_drewN | apply below_drew1) | exact HB.out)⟩⟩
  case round =>
    clear H'
    try clear p2
    obtain ⟨x5_1, x6_1, rfl, HA, HK1, HO_5, HB⟩ := hrel
    cases gk with
    | zero => exact absurd HA.out (by simp [skymosaicref32_Changes.l0])
    | succ k1 =>
      have H := HA.out
      clear HA
      simp only [skymosaicref32_Changes.l0] at H
      have HC3 := Aside0.mk H
      clear H
      go_upto_region 3 with (fail)
      go_cut [20] (fun v20 wc => ∃ (kq : Nat) (x20_2 : Bool), v20 = .bool x20_2 ∧ Aside0 (skymosaicref32_Changes.j1 kq l0 a1 x5_1 x6_1 x20_2 = some r) ∧ Aside0 (kq ≤ k1) ∧ Aside0 (Kd.S k37 37 wc w.heap.size (fun _ => True) u5 x5_1) ∧ Aside0 (Below w.heap.size w wc))
      case first =>
        have H := HC3.out
        clear HC3
        by_cases c4 : (wrap64 (x6_1 + 1)) < (l0.length : Int)
        · rw [if_pos c4] at H
          have c4b0 : decide ((wrap64 (x6_1 + 1)) < (l0.length : Int)) = true := decide_eq_true c4
          clear c4
          (first | rw [c4b0] | (simp only [i64_w, i32_w]; rw [c4b0]) | skip)
          have H' := Aside0.mk H
          clear H
          obtain ⟨Ao5, co5, eo5⟩ := Kd.S_slice HO_5.out
          subst eo5
          go_wp2
          go_meet
          case rel => exact ⟨_, (decide ((x5_1.length : Int) < a1)), (by first | rfl | (simp; done) | (simp [*]; done)), H', ⟨by have := HK1.out; first | omega | exact Nat.le_refl _⟩, ⟨by (with_reducible repeat (first | apply Kd.S_alloc | apply Kd.S_drewN | apply Kd.S_drew)); exact HO_5.out⟩, ⟨by repeat (first | (with_reducible first | exact HB.out | apply below_alloc | apply pw_below_drewN | apply below_drew1) | exact HB.out)⟩⟩
        · rw [if_neg c4] at H
          have c4b0 : decide ((wrap64 (x6_1 + 1)) < (l0.length : Int)) = false := decide_eq_false c4
          clear c4
          (first | rw [c4b0] | (simp only [i64_w, i32_w]; rw [c4b0]) | skip)
          have H' := Aside0.mk H
          clear H
          go_wp2
          go_meet
          case rel => exact ⟨_, (false), (by first | rfl | (simp; done) | (simp [*]; done)), H', ⟨by have := HK1.out; first | omega | exact Nat.le_refl _⟩, ⟨by (with_reducible repeat (first | apply Kd.S_alloc | apply Kd.S_drewN | apply Kd.S_drew)); exact HO_5.out⟩, ⟨by repeat (first | (with_reducible first | exact HB.out | apply below_alloc | apply pw_below_drewN | apply below_drew1) | exact HB.out)⟩⟩
      case rest =>
        clear HC3
        try clear p2
        try clear c4
        try clear c4b0
        try clear p2
        obtain ⟨kq, x20_2, rfl, HA, HJ2, HO_5, HB⟩ := hcut
        cases kq with
        | zero => exact absurd HA.out (by simp [skymosaicref32_Changes.j1])
        | succ kj2 =>
          have H := HA.out
          clear HA
          simp only [skymosaicref32_Changes.j1] at H
          by_cases c6 : x20_2 = true
          · subst c6
            have H1 : (if 0 ≤ x6_1 then (if x6_1 < (l0.length : Int) then ((skymosaicref01_Around.f (rd l0 x6_1) 1000000).bind fun t113 => ((skymosaicref32_Key.f t113).bind fun bt114 => (skymosaicref32_Changes.l1 kj2 l0 a1 x5_1 x6_1 t113 0 bt114.1 bt114.2.1 bt114.2.2 ([] : List (S56))))) else (none)) else (none)) = some r := by rw [if_pos rfl] at H; exact H
            clear H
            have H := H1
            clear H1
            by_cases c7 : 0 ≤ x6_1
            · rw [if_pos c7] at H
              have c7b0 : decide (0 ≤ x6_1) = true := decide_eq_true c7
              clear c7
              by_cases c8 : x6_1 < (l0.length : Int)
              · rw [if_pos c8] at H
                have c8b0 : decide (x6_1 < (l0.length : Int)) = true := decide_eq_true c8
                clear c8
                replace H := Option.bind_eq_some_iff.mp H
                obtain ⟨t113, A90, H⟩ := H
                replace H : ((skymosaicref32_Key.f t113).bind fun bt114 => (skymosaicref32_Changes.l1 kj2 l0 a1 x5_1 x6_1 t113 0 bt114.1 bt114.2.1 bt114.2.2 ([] : List (S56)))) = some r := H
                have A9 := Aside0.mk A90
                clear A90
                replace H := Option.bind_eq_some_iff.mp H
                obtain ⟨⟨t114, t115, t116⟩, A100, H⟩ := H
                replace H : (skymosaicref32_Changes.l1 kj2 l0 a1 x5_1 x6_1 t113 0 t114 t115 t116 ([] : List (S56))) = some r := H
                have A10 := Aside0.mk A100
                clear A100
                have H' := Aside0.mk H
                clear H
                have p112 : 0 ≤ (x6_1 : Int) := of_decide_eq_true (by first | (with_reducible assumption) | assumption)
                have q112 : x6_1 < (l0.length : Int) := of_decide_eq_true (by first | (with_reducible assumption) | assumption)
                obtain ⟨ad112, e112, hx112_0⟩ := Kd.at_int HR0.out x6_1 p112 q112
                cases e112
                replace hx112_0 := (HB.out.cell (World.block_lt_of_cell? w _ hx112_0)).trans hx112_0
                replace p112 := eq_true p112
                replace q112 := eq_true q112
                go_wp2_with (first | ((with_reducible refine gate_callee (f := 30) rfl ?_); refine goesL_ (some 27) rfl rfl Try.func30 (by kernel_rfl) rfl #[.int .i64 (rd l0 x6_1), .int .i64 1000000] rfl (by (try simp only [List.map_toArray, List.map_cons, List.map_nil]); first | done | rfl | (simp only [List.length_drop, List.length_take]; rfl)) ?_; (with_reducible refine (skymosaicref01_Around.calls (rd l0 x6_1) 1000000 t113 _ A9.out).mono ?_); rintro e w' ⟨rfl, ⟨nd, rfl⟩⟩; refine ⟨_, rfl, ?_⟩; (try (rw [drewN_self wc]; generalize hq_ : World.drewN wc _ = wc; have n0_ : Aside0 (Kd.S k37 37 wc w.heap.size (fun _ => True) u5 x5_1) := ⟨by rw [← hq_]; exact (by (with_reducible repeat (first | apply Kd.S_alloc | apply Kd.S_drewN | apply Kd.S_drew)); exact HO_5.out)⟩; have n1_ : Aside0 (Below w.heap.size w wc) := ⟨by rw [← hq_]; exact (by repeat (first | (with_reducible first | exact HB.out | apply below_alloc | apply pw_below_drewN | apply below_drew1) | exact HB.out))⟩; clear HO_5 HB hq_; have HO_5 := n0_; have HB := n1_; clear n0_ n1_))) | ((with_reducible refine gate_callee (f := 18) rfl ?_); refine goesL_ (some 29) rfl rfl Try.func18 (by kernel_rfl) rfl #[.int .i64 t113] rfl (by (try simp only [List.map_toArray, List.map_cons, List.map_nil]); first | done | rfl | (simp only [List.length_drop, List.length_take]; rfl)) ?_; (with_reducible refine (skymosaicref32_Key.calls t113 t114 t115 t116 _ A10.out).mono ?_); rintro e w11 ⟨rfl, hb⟩; refine ⟨_, rfl, ?_⟩; have n0_ := Aside0.mk (Kd.S_below (by (with_reducible repeat (first | apply Kd.S_alloc | apply Kd.S_drewN | apply Kd.S_drew)); exact HO_5.out) hb); have n1_ := Aside0.mk (below_step (by repeat (first | (with_reducible first | exact HB.out | apply below_alloc | apply pw_below_drewN | apply below_drew1) | exact HB.out)) hb); clear HO_5; clear HB; have HO_5 := n0_; have HB := n1_; clear n0_ n1_; (try clear hb); (try clear hb2); (try clear hk); (try clear hi)) | ((with_reducible refine gate_dst (N := 8) rfl ?_); (try (refine gate_guard (by rfl) ?_; dsimp only)); refine box_event ?hg (N := 8) ?hd (cs := #[.int .i64 0, .int .i64 0, .int .i64 0, .slice none 0 0]) (t := 37) ?hr ?_; (case hd => rfl); (case hg => rfl); (case hr => first | (go_simp; done) | (go_simp; rfl)); intro gb117 hg w12 hbox hb; have n0_ := Aside0.mk (Kd.S_below (Kd.S_elderB (by (with_reducible repeat (first | apply Kd.S_alloc | apply Kd.S_drewN | apply Kd.S_drew)); exact HO_5.out) gb117 (Nat.le_of_eq hg.symm)) hb); have n1_ := Aside0.mk (below_step (by repeat (first | (with_reducible first | exact HB.out | apply below_alloc | apply pw_below_drewN | apply below_drew1) | exact HB.out)) hb); have n2_ := Aside0.mk (hbox); have n3_ := Aside0.mk ((by rw [hg]; exact (below_size (by repeat (first | (with_reducible first | exact HB.out | apply below_alloc | apply pw_below_drewN | apply below_drew1) | exact HB.out))) : w.heap.size ≤ gb117)); have n4_ := Aside0.mk ((by rw [hg]; exact (below_size (by repeat (first | (with_reducible first | exact HB.out | apply below_alloc | apply pw_below_drewN | apply below_drew1) | exact HB.out))) : w.heap.size ≤ gb117)); clear HO_5; clear HB; have HO_5 := n0_; have HB := n1_; have BK117 := n2_; have GW117 := n3_; have GE117 := n4_; clear n0_ n1_ n2_ n3_ n4_; clear hb hbox hg; have hcz13_0 : w12.cell? ⟨gb117, 0, none⟩ = some (.int .i64 0) := (blk_cell BK117.out 0).trans rfl; have hcz13_1 : w12.cell? ⟨gb117, 1, none⟩ = some (.int .i64 0) := (blk_cell BK117.out 1).trans rfl; have hcz13_2 : w12.cell? ⟨gb117, 2, none⟩ = some (.int .i64 0) := (blk_cell BK117.out 2).trans rfl; have hcz13_3 : w12.cell? ⟨gb117, 3, none⟩ = some (.slice none 0 0) := (blk_cell BK117.out 3).trans rfl; have hfz13_0 := blk_frozen BK117.out 0; have hfz13_1 := blk_frozen BK117.out 1; have hfz13_2 := blk_frozen BK117.out 2; have hfz13_3 := blk_frozen BK117.out 3))
                go_loopg [9] kj2 (fun kq v9 w' => ∃ (x9_3 : Int) (x118003_3 : List (S56)) (u118003 : Value), v9 = .int .i64 x9_3 ∧ Aside0 (skymosaicref32_Changes.l1 kq l0 a1 x5_1 x6_1 t113 x9_3 t114 t115 t116 x118003_3 = some r) ∧ Aside0 (kq ≤ kj2) ∧ Aside0 (Kd.S k37 37 w' w.heap.size (fun k_ => some k_ ≠ (u118003 : Value).ownBlock ∧ k_ ≠ gb117) u5 x5_1) ∧ Aside0 (Kd.R k56 56 w' w.heap.size (fun _ => True) u118003 x118003_3) ∧ Aside0 (w'.heap[gb117]? = some (.cells #[.int .i64 t114, .int .i64 t115, .int .i64 t116, u118003] 37 (0, 0))) ∧ Aside0 (Below w.heap.size w w'))
                case atStart => exact ⟨(0), (([] : List (S56))), (.slice none 0 0), (by first | rfl | (simp; done) | (simp [*]; done)), H', ⟨Nat.le_refl _⟩, ⟨by (with_reducible repeat (first | apply Kd.S_alloc | apply Kd.S_drewN | apply Kd.S_drew)); exact Kd.S_mono (Kd.S_far (p := ⟨gb117, 3, none⟩) (Kd.S_far (p := ⟨gb117, 2, none⟩) (Kd.S_far (p := ⟨gb117, 1, none⟩) (Kd.S_far (p := ⟨gb117, 0, none⟩) (Kd.S_mono HO_5.out (fun k_ hk => (⟨hk, hk.2⟩ : _ ∧ k_ ≠ gb117))) (fun _ hk => hk.2) (.int .i64 t114)) (fun _ hk => hk.2) (.int .i64 t115)) (fun _ hk => hk.2) (.int .i64 t116)) (fun _ hk => hk.2) (.slice none 0 0)) (fun _ hk => ⟨(by simp [Value.ownBlock]), hk.1.2⟩)⟩, ⟨by first | exact Kd.R_nil _ _ _ _ _ | exact Kd.N_nil _ _ _ _ _ | exact Kd.V_nil _ _ _ _ _ | exact Kd.Q_nil _ _ _ _ _ | exact Kd.S_nil _ _ _ _ _⟩, ⟨by (with_reducible repeat (first | refine blk_drewN ?_ _ | refine blk_drew ?_ | refine blk_alloc ?_ _)); refine blk_put (cs := #[.int .i64 t114, .int .i64 t115, .int .i64 t116, .slice none 0 0]) ?_ 3 _ rfl; (with_reducible repeat (first | refine blk_drewN ?_ _ | refine blk_drew ?_ | refine blk_alloc ?_ _)); refine blk_put (cs := #[.int .i64 t114, .int .i64 t115, .int .i64 0, .slice none 0 0]) ?_ 2 _ rfl; (with_reducible repeat (first | refine blk_drewN ?_ _ | refine blk_drew ?_ | refine blk_alloc ?_ _)); refine blk_put (cs := #[.int .i64 t114, .int .i64 0, .int .i64 0, .slice none 0 0]) ?_ 1 _ rfl; (with_reducible repeat (first | refine blk_drewN ?_ _ | refine blk_drew ?_ | refine blk_alloc ?_ _)); refine blk_put (cs := #[.int .i64 0, .int .i64 0, .int .i64 0, .slice none 0 0]) ?_ 0 _ rfl; (with_reducible repeat (first | refine blk_drewN ?_ _ | refine blk_drew ?_ | refine blk_alloc ?_ _)); exact BK117.out⟩, ⟨by repeat (first | (with_reducible first | exact HB.out | apply below_alloc | apply pw_below_drewN | apply below_drew1 | refine below_set ?_ GE117.out) | exact HB.out)⟩⟩
                case round =>
                  clear H'
                  try clear c1
                  try clear p1
                  try clear q1
                  try clear hx1
                  try clear p2
                  try clear c3
                  try clear c4
                  try clear c4b0
                  try clear c6
                  try clear p6
                  try clear c7
                  try clear c7b0
                  try clear c8
                  try clear c8b0
                  try clear p11
                  try clear q11
                  try clear hx11
                  try clear hcz13_0
                  try clear hcz13_1
                  try clear hcz13_2
                  try clear hcz13_3
                  try clear hfz13_0
                  try clear hfz13_1
                  try clear hfz13_2
                  try clear hfz13_3
                  try clear hx112_0
                  try clear p112
                  try clear p2
                  try clear q112
                  obtain ⟨x9_3, x118003_3, u118003, rfl, HA, HK3, HO_5, HO_118003, BK117, HB⟩ := hrel
                  cases gk with
                  | zero => exact absurd HA.out (by simp [skymosaicref32_Changes.l1])
                  | succ k3 =>
                    have H := HA.out
                    clear HA
                    simp only [skymosaicref32_Changes.l1] at H
                    by_cases c14 : x9_3 < (Int.tmod (wrap64 (Int.tdiv t113 40)) 5)
                    · rw [if_pos c14] at H
                      have c14b0 : decide (x9_3 < (Int.tmod (wrap64 (Int.tdiv t113 40)) 5)) = true := decide_eq_true c14
                      clear c14
                      obtain ⟨ji15, hji15⟩ : ∃ j_ : Int, (wrap64 (x6_1 + 1)) = j_ := ⟨_, rfl⟩
                      replace H : (if 0 ≤ (ji15) then (if (ji15) < (l0.length : Int) then (if (wrap64 (x9_3 + 1)) = 0 then (none) else ((skymosaicref32_Of.f t114 t115 t116 (wrap64 ((wrap64 (Int.tdiv (rd l0 (ji15)) (wrap64 (x9_3 + 1)))) + (wrap64 (7 * x9_3))))).bind fun bt119 => (if x118003_3.length < 3518437208883 then (skymosaicref32_Changes.l1 k3 l0 a1 x5_1 x6_1 t113 (wrap64 (x9_3 + 1)) t114 t115 t116 (x118003_3 ++ [(⟨bt119.1, bt119.2.1, (⟨bt119.2.2.1, bt119.2.2.2.1, bt119.2.2.2.2⟩ : S34)⟩ : S56)])) else (none)))) else (none)) else (none)) = some r := by first | (rw [hji15] at H; exact H) | (simp only [hji15] at H ⊢; exact H)
                      have hji15w : (IntKind.i64.wrap (x6_1 + 1)) = ji15 := (i64_w _).trans hji15
                      by_cases c16 : 0 ≤ (ji15)
                      · rw [if_pos c16] at H
                        have c16b0 : decide (0 ≤ (ji15)) = true := decide_eq_true c16
                        clear c16
                        by_cases c17 : (ji15) < (l0.length : Int)
                        · rw [if_pos c17] at H
                          have c17b0 : decide ((ji15) < (l0.length : Int)) = true := decide_eq_true c17
                          clear c17
                          by_cases c18 : (wrap64 (x9_3 + 1)) = 0
                          · rw [if_pos c18] at H
                            exact absurd H (by simp)
                          · rw [if_neg c18] at H
                            have c18b0 : ((wrap64 (x9_3 + 1)) == 0) = false := beq_eq_false_iff_ne.mpr c18
                            have c18b1 : ((wrap64 (x9_3 + 1)) != 0) = true := bne_iff_ne.mpr c18
                            replace H := Option.bind_eq_some_iff.mp H
                            obtain ⟨⟨t119, t120, t121, t122, t123⟩, A190, H⟩ := H
                            replace H : (if x118003_3.length < 3518437208883 then (skymosaicref32_Changes.l1 k3 l0 a1 x5_1 x6_1 t113 (wrap64 (x9_3 + 1)) t114 t115 t116 (x118003_3 ++ [(⟨t119, t120, (⟨t121, t122, t123⟩ : S34)⟩ : S56)])) else (none)) = some r := H
                            have A19 := Aside0.mk A190
                            clear A190
                            by_cases c20 : x118003_3.length < 3518437208883
                            · rw [if_pos c20] at H
                              have LMc20 := Aside0.mk c20
                              clear c20
                              obtain ⟨y124, hy124⟩ : ∃ y_ : List (S56), y_ = (x118003_3 ++ [(⟨t119, t120, (⟨t121, t122, t123⟩ : S34)⟩ : S56)]) := ⟨_, rfl⟩
                              replace H : (skymosaicref32_Changes.l1 k3 l0 a1 x5_1 x6_1 t113 (wrap64 (x9_3 + 1)) t114 t115 t116 y124) = some r := by first | (rw [hy124]; with_reducible exact H) | (have H2_ := (Option.bind_some _ _).symm.trans H; rw [hy124]; with_reducible exact H2_) | (have H2_ := (Option.bind_some _ _).symm.trans H; with_reducible exact H2_) | with_reducible exact H | (rw [hy124]; exact H) | exact H
                              have Ny124 := Aside0.mk hy124
                              clear hy124
                              have H' := Aside0.mk H
                              clear H
                              try go_wp2
                              have n0_ := Aside0.mk (Kd.S_drew HO_5.out)
                              have n1_ := Aside0.mk (Kd.R_drew HO_118003.out)
                              have n2_ := Aside0.mk (blk_drew BK117.out)
                              have n3_ := Aside0.mk (below_drew1 HB.out)
                              clear HO_5
                              clear HO_118003
                              clear BK117
                              clear HB
                              have HO_5 := n0_
                              have HO_118003 := n1_
                              have BK117 := n2_
                              have HB := n3_
                              clear n0_ n1_ n2_ n3_
                              have p118 : 0 ≤ ((ji15) : Int) := of_decide_eq_true (by first | (with_reducible assumption) | assumption)
                              have q118 : (ji15) < (l0.length : Int) := of_decide_eq_true (by first | (with_reducible assumption) | assumption)
                              obtain ⟨ad118, e118, hx118_0⟩ := Kd.at_int HR0.out (ji15) p118 q118
                              have hw118_0 := hx118_0
                              obtain rfl : ad112 = ad118 := (by injection e118)
                              replace hx118_0 := (HB.out.cell (World.block_lt_of_cell? w _ hx118_0)).trans hx118_0
                              replace p118 := eq_true p118
                              replace q118 := eq_true q118
                              refine start_ (n := 20) (S := fun w' => w'.cell? ⟨gb117, 0, none⟩ = some (.int .i64 t114) ∧ w'.cell? ⟨gb117, 1, none⟩ = some (.int .i64 t115) ∧ w'.cell? ⟨gb117, 2, none⟩ = some (.int .i64 t116) ∧ w'.cell? ⟨gb117, 3, none⟩ = some (u118003) ∧ w'.cell? (ad112.add ((ji15)).toNat) = some (.int .i64 (rd l0 (ji15)))) (ds := [19]) #[false, false, false, false, false, false, false, false, false, false, false, false, false, false, false, false, false, false, false, false] (by kernel_rfl) rfl rfl ⟨(blk_cell BK117.out 0).trans rfl, (blk_cell BK117.out 1).trans rfl, (blk_cell BK117.out 2).trans rfl, (blk_cell BK117.out 3).trans rfl, ((HB.out.cell (World.block_lt_of_cell? w _ hw118_0)).trans hw118_0)⟩ (fun hHeld => ?_); refine with_tabW skymosaicref32_Changes.tab10 skymosaicref32_Changes.bits10 (fun HT_ HW_ => ?_)
                              generalize wr.drew = w21 at HO_5 HO_118003 BK117 HB hx118_0 hHeld ⊢
                              refine pure_ (i := 0) (N := some 38) (v := ?_) (a' := ?_) #[true, false, false, false, false, false, false, false, false, false, false, false, false, false, false, false, false, false, false, false] rfl rfl (any_of HT_.out (by kernel_rfl)) (fun _ _ _ h => h) (Or.inl ⟨by rfl, ?_⟩) ?_ ?_
                              rotate_left
                              · intro w'
                                go_simp
                                with_reducible rfl
                              rotate_left
                              · simp only [Act.put, List.setIfInBounds_toArray, List.set_cons_zero, List.set_cons_succ, i64_w, i32_w]
                                rfl
                              refine pure_ (i := 2) (N := some 40) (v := ?_) (a' := ?_) #[true, false, true, false, false, false, false, false, false, false, false, false, false, false, false, false, false, false, false, false] rfl rfl (any_of HT_.out (by kernel_rfl)) (fun _ _ _ h => h) (Or.inl ⟨by rfl, ?_⟩) ?_ ?_
                              rotate_left
                              · intro w'
                                go_simp
                                with_reducible rfl
                              rotate_left
                              · simp only [Act.put, List.setIfInBounds_toArray, List.set_cons_zero, List.set_cons_succ, i64_w, i32_w]
                                rfl
                              refine pure_ (i := 4) (N := some 42) (v := ?_) (a' := ?_) #[true, false, true, false, true, false, false, false, false, false, false, false, false, false, false, false, false, false, false, false] rfl rfl (any_of HT_.out (by kernel_rfl)) (fun _ _ _ h => h) (Or.inl ⟨by rfl, ?_⟩) ?_ ?_
                              rotate_left
                              · intro w'
                                go_simp
                                with_reducible rfl
                              rotate_left
                              · simp only [Act.put, List.setIfInBounds_toArray, List.set_cons_zero, List.set_cons_succ, i64_w, i32_w]
                                rfl
                              refine pure_ (i := 5) (N := some 43) (v := ?_) (a' := ?_) #[true, false, true, false, true, true, false, false, false, false, false, false, false, false, false, false, false, false, false, false] rfl rfl (any_of HT_.out (by kernel_rfl)) (fun _ _ _ h => h) (Or.inl ⟨by rfl, ?_⟩) ?_ ?_
                              rotate_left
                              · intro w'
                                go_simp
                                with_reducible rfl
                              rotate_left
                              · simp only [Act.put, List.setIfInBounds_toArray, List.set_cons_zero, List.set_cons_succ, i64_w, i32_w]
                                rfl
                              refine pure_ (i := 6) (N := some 44) (v := ?_) (a' := ?_) #[true, false, true, false, true, true, true, false, false, false, false, false, false, false, false, false, false, false, false, false] rfl rfl (any_of HT_.out (by kernel_rfl)) (fun _ _ _ h => h) (Or.inl ⟨by rfl, ?_⟩) ?_ ?_
                              rotate_left
                              · intro w'
                                go_simp
                                with_reducible rfl
                              rotate_left
                              · simp only [Act.put, List.setIfInBounds_toArray, List.set_cons_zero, List.set_cons_succ, i64_w, i32_w]
                                rfl
                              refine pure_ (i := 7) (N := some 45) (v := ?_) (a' := ?_) #[true, false, true, false, true, true, true, true, false, false, false, false, false, false, false, false, false, false, false, false] rfl rfl (any_of HT_.out (by kernel_rfl)) (fun _ _ _ h => h) (Or.inl ⟨by rfl, ?_⟩) ?_ ?_
                              rotate_left
                              · intro w'
                                go_simp
                                with_reducible rfl
                              rotate_left
                              · simp only [Act.put, List.setIfInBounds_toArray, List.set_cons_zero, List.set_cons_succ, i64_w, i32_w]
                                rfl
                              refine pure_ (i := 9) (N := some 47) (v := ?_) (a' := ?_) #[true, false, true, false, true, true, true, true, false, true, false, false, false, false, false, false, false, false, false, false] rfl rfl (any_of HT_.out (by kernel_rfl)) (fun _ _ _ h => h) (Or.inl ⟨by rfl, ?_⟩) ?_ ?_
                              rotate_left
                              · intro w'
                                go_simp
                                with_reducible rfl
                              rotate_left
                              · simp only [Act.put, List.setIfInBounds_toArray, List.set_cons_zero, List.set_cons_succ, i64_w, i32_w]
                                rfl
                              refine pure_ (i := 10) (N := some 48) (v := ?_) (a' := ?_) #[true, false, true, false, true, true, true, true, false, true, true, false, false, false, false, false, false, false, false, false] rfl rfl (any_of HT_.out (by kernel_rfl)) (fun _ _ _ h => h) (Or.inl ⟨by rfl, ?_⟩) ?_ ?_
                              rotate_left
                              · intro w'
                                go_simp
                                with_reducible rfl
                              rotate_left
                              · simp only [Act.put, List.setIfInBounds_toArray, List.set_cons_zero, List.set_cons_succ, i64_w, i32_w]
                                rfl
                              refine pure_ (i := 12) (N := some 50) (v := ?_) (a' := ?_) #[true, false, true, false, true, true, true, true, false, true, true, false, true, false, false, false, false, false, false, false] rfl rfl (any_of HT_.out (by kernel_rfl)) (fun _ _ _ h => h) (Or.inl ⟨by rfl, ?_⟩) ?_ ?_
                              rotate_left
                              · intro w'
                                go_simp
                                with_reducible rfl
                              rotate_left
                              · simp only [Act.put, List.setIfInBounds_toArray, List.set_cons_zero, List.set_cons_succ, i64_w, i32_w]
                                rfl
                              refine pure_ (i := 13) (N := some 51) (v := ?_) (a' := ?_) #[true, false, true, false, true, true, true, true, false, true, true, false, true, true, false, false, false, false, false, false] rfl rfl (any_of HT_.out (by kernel_rfl)) (fun _ _ _ h => h) (Or.inl ⟨by rfl, ?_⟩) ?_ ?_
                              rotate_left
                              · intro w'
                                go_simp
                                with_reducible rfl
                              rotate_left
                              · simp only [Act.put, List.setIfInBounds_toArray, List.set_cons_zero, List.set_cons_succ, i64_w, i32_w]
                                rfl
                              refine take_ (i := 1) (N := some 39) (v := ?_) (a' := ?_) #[true, true, true, false, true, true, true, true, false, true, true, false, true, true, false, false, false, false, false, false] rfl rfl (take_ofW HT_.out HW_.out (by kernel_rfl)) (fun _ _ _ h => h) (Or.inl ⟨by rfl, ?_⟩) hHeld ?_ ?_
                              rotate_left
                              · rintro w' ⟨s0, s1, s2, s3, s4⟩
                                go_simp
                                with_reducible rfl
                              rotate_left
                              · simp only [Act.put, List.setIfInBounds_toArray, List.set_cons_zero, List.set_cons_succ, i64_w, i32_w]
                                rfl
                              refine take_ (i := 3) (N := some 41) (v := ?_) (a' := ?_) #[true, true, true, true, true, true, true, true, false, true, true, false, true, true, false, false, false, false, false, false] rfl rfl (take_ofW HT_.out HW_.out (by kernel_rfl)) (fun _ _ _ h => h) (Or.inl ⟨by rfl, ?_⟩) hHeld ?_ ?_
                              rotate_left
                              · rintro w' ⟨s0, s1, s2, s3, s4⟩
                                go_simp
                                with_reducible rfl
                              rotate_left
                              · simp only [Act.put, List.setIfInBounds_toArray, List.set_cons_zero, List.set_cons_succ, i64_w, i32_w]
                                rfl
                              refine take_ (i := 8) (N := some 46) (v := ?_) (a' := ?_) #[true, true, true, true, true, true, true, true, true, true, true, false, true, true, false, false, false, false, false, false] rfl rfl (take_ofW HT_.out HW_.out (by kernel_rfl)) (fun _ _ _ h => h) (Or.inl ⟨by rfl, ?_⟩) hHeld ?_ ?_
                              rotate_left
                              · rintro w' ⟨s0, s1, s2, s3, s4⟩
                                go_simp
                                with_reducible rfl
                              rotate_left
                              · simp only [Act.put, List.setIfInBounds_toArray, List.set_cons_zero, List.set_cons_succ, i64_w, i32_w]
                                rfl
                              refine pure_ (i := 11) (N := some 49) (v := ?_) (a' := ?_) #[true, true, true, true, true, true, true, true, true, true, true, true, true, true, false, false, false, false, false, false] rfl rfl (any_of HT_.out (by kernel_rfl)) (fun _ _ _ h => h) (Or.inl ⟨by rfl, ?_⟩) ?_ ?_
                              rotate_left
                              · intro w'
                                go_simp
                                with_reducible rfl
                              rotate_left
                              · simp only [Act.put, List.setIfInBounds_toArray, List.set_cons_zero, List.set_cons_succ, i64_w, i32_w]
                                rfl
                              refine pure_ (i := 14) (N := some 52) (v := ?_) (a' := ?_) #[true, true, true, true, true, true, true, true, true, true, true, true, true, true, true, false, false, false, false, false] rfl rfl (any_of HT_.out (by kernel_rfl)) (fun _ _ _ h => h) (Or.inl ⟨by rfl, ?_⟩) ?_ ?_
                              rotate_left
                              · intro w'
                                go_simp
                                with_reducible rfl
                              rotate_left
                              · simp only [Act.put, List.setIfInBounds_toArray, List.set_cons_zero, List.set_cons_succ, i64_w, i32_w]
                                rfl
                              refine one_ (i := 15) (N := some 53) #[true, true, true, true, true, true, true, true, true, true, true, true, true, true, true, true, false, false, false, false] rfl rfl (one_of HT_.out (by kernel_rfl)) (by decide) (fun K hK => ?_)
                              refine goes_ Try.func23 (by kernel_rfl) rfl #[.agg #[.int .i64 t114, .int .i64 t115, .int .i64 t116], .int .i64 (wrap64 ((wrap64 (Int.tdiv (rd l0 (ji15)) (wrap64 (x9_3 + 1)))) + (wrap64 (7 * x9_3))))] (by rfl) rfl rfl (by (try simp only [List.map_toArray, List.map_cons, List.map_nil]); first | done | (simp only [hji15]; rfl) | rfl | (simp only [List.length_drop, List.length_take]; rfl)) ?_
                              with_reducible refine (skymosaicref32_Of.calls t114 t115 t116 (wrap64 ((wrap64 (Int.tdiv (rd l0 (ji15)) (wrap64 (x9_3 + 1)))) + (wrap64 (7 * x9_3)))) t119 t120 t121 t122 t123 _ A19.out).mono ?_
                              rintro e w22 ⟨rfl, hb⟩
                              refine ⟨_, rfl, ?_⟩
                              have n0_ := Aside0.mk (Kd.S_below (by (with_reducible repeat (first | apply Kd.S_alloc | apply Kd.S_drewN | apply Kd.S_drew)); exact HO_5.out) hb)
                              have n1_ := Aside0.mk (Kd.R_below (by (with_reducible repeat (first | apply Kd.R_alloc | apply Kd.R_drewN | apply Kd.R_drew)); exact HO_118003.out) hb)
                              have n2_ := Aside0.mk (blk_below (g := gb117) (o := .cells #[.int .i64 t114, .int .i64 t115, .int .i64 t116, u118003] 37 (0, 0)) (by (with_reducible repeat (first | refine blk_drewN ?_ _ | refine blk_drew ?_ | refine blk_alloc ?_ _)); exact BK117.out) hb)
                              have n3_ := Aside0.mk (below_step (by repeat (first | (with_reducible first | exact HB.out | apply below_alloc | apply pw_below_drewN | apply below_drew1 | refine below_set ?_ GE117.out) | exact HB.out)) hb)
                              clear HO_5
                              clear HO_118003
                              clear BK117
                              clear HB
                              have HO_5 := n0_
                              have HO_118003 := n1_
                              have BK117 := n2_
                              have HB := n3_
                              clear n0_ n1_ n2_ n3_
                              (try clear hb)
                              (try clear hb2)
                              (try clear hk)
                              (try clear hi)
                              refine hK.out _ _ ⟨(blk_cell BK117.out 0).trans rfl, (blk_cell BK117.out 1).trans rfl, (blk_cell BK117.out 2).trans rfl, (blk_cell BK117.out 3).trans rfl, ((HB.out.cell (World.block_lt_of_cell? w _ hw118_0)).trans hw118_0)⟩ (fun hHeld => ?_)
                              clear hK K
                              refine norm_ (a' := ?_) ?_ ?_
                              rotate_left
                              · show Act.put _ (some 53) _ = _
                                simp only [Act.put, List.setIfInBounds_toArray, List.set_cons_zero, List.set_cons_succ, i64_w, i32_w]
                                rfl
                              refine one_ (i := 16) (N := some 54) #[true, true, true, true, true, true, true, true, true, true, true, true, true, true, true, true, true, false, false, false] rfl rfl (one_of HT_.out (by kernel_rfl)) (by decide) (fun K hK => ?_)
                              refine value_ (w1 := ?_) (v := ?_) (by rfl) rfl ?_ ?_
                              rotate_left 2
                              · go_simp
                                constructor
                                · rfl
                                · rfl
                              refine hK.out _ _ ⟨(blk_cell (blk_alloc BK117.out _) 0).trans rfl, (blk_cell (blk_alloc BK117.out _) 1).trans rfl, (blk_cell (blk_alloc BK117.out _) 2).trans rfl, (blk_cell (blk_alloc BK117.out _) 3).trans rfl, (World.cell?_alloc_lt _ _ _ (World.block_lt_of_cell? _ _ (((HB.out.cell (World.block_lt_of_cell? w _ hw118_0)).trans hw118_0)))).trans (((HB.out.cell (World.block_lt_of_cell? w _ hw118_0)).trans hw118_0))⟩ (fun hHeld => ?_)
                              clear hK K
                              refine norm_ (a' := ?_) ?_ ?_
                              rotate_left
                              · show Act.put _ (some 54) _ = _
                                simp only [Act.put, List.setIfInBounds_toArray, List.set_cons_zero, List.set_cons_succ, i64_w, i32_w]
                                rfl
                              refine one_ (i := 17) (N := some 55) #[true, true, true, true, true, true, true, true, true, true, true, true, true, true, true, true, true, true, false, false] rfl rfl (one_of HT_.out (by kernel_rfl)) (by decide) (fun K hK => ?_)
                              refine Kd.R_append_step k56 (w0 := w) w.heap.size (by rfl) (.tmp 39) (.tmp 54) 35 56 (.agg #[(.int .i64 0), (.int .i64 0), (.int .i64 0), (.int .i64 0), (.int .i64 0)]) 40 rfl Try.underlying35 info56 rfl (by decide) (by omega) u118003 x118003_3 (⟨t119, t120, (⟨t121, t122, t123⟩ : S34)⟩ : S56) [.int .i64 t119, .int .i64 t120, .int .i64 t121, .int .i64 t122, .int .i64 t123] (fun _ => True) (fun _ => False) rfl rfl ?aP (fun _ hk => hk.elim) ?aF ?aO ?aB ?aS ?aL ?_
                              (case aP => exact k56_mkM _ _ _ (⟨t119, t120, (⟨t121, t122, t123⟩ : S34)⟩ : S56))
                              (case aB => exact (by repeat (first | (with_reducible first | exact HB.out | apply below_alloc | apply pw_below_drewN | apply below_drew1 | refine below_set ?_ GE117.out) | exact HB.out)))
                              (case aF => exact (fun _ _ => trivial))
                              (case aO => exact (by (with_reducible repeat (first | apply Kd.R_alloc | apply Kd.R_drewN | apply Kd.R_drew)); exact HO_118003.out))
                              (case aS => exact (below_size (by repeat (first | (with_reducible first | exact HB.out | apply below_alloc | apply pw_below_drewN | apply below_drew1 | refine below_set ?_ GE117.out) | exact HB.out))))
                              (case aL => have := LMc20.out; omega)
                              intro v125 w23 ho hb hg hat
                              rw [← Ny124.out] at ho
                              have n0_ := Aside0.mk (Kd.S_after (ok := (fun k_ => k_ ≠ gb117)) (by (with_reducible repeat (first | apply Kd.S_alloc | apply Kd.S_drewN | apply Kd.S_drew)); exact Kd.S_mono HO_5.out (fun _ hk => ⟨hk.2, hk.1⟩)) hg hat)
                              have n1_ := Aside0.mk (blk_grown (g := gb117) (o := .cells #[.int .i64 t114, .int .i64 t115, .int .i64 t116, u118003] 37 (0, 0)) (by (with_reducible repeat (first | refine blk_drewN ?_ _ | refine blk_drew ?_ | refine blk_alloc ?_ _)); exact BK117.out) hg (Kd.R_ne HO_118003.out BK117.out (by decide)))
                              have n2_ := Aside0.mk (hb)
                              have n3_ := Aside0.mk (ho)
                              clear HO_5
                              clear BK117
                              clear HB
                              clear HO_118003
                              have HO_5 := n0_
                              have BK117 := n1_
                              have HB := n2_
                              have HO126 := n3_
                              clear n0_ n1_ n2_ n3_
                              clear ho hb hg hat
                              obtain ⟨Ao24, co24, eo24⟩ := Kd.R_slice HO126.out
                              (first | subst eo24 | (injection eo24 with f1_ f2_ f3_; have f4_ := f1_.symm; have f5_ := f3_.symm; clear f1_ f2_ f3_; subst f4_; subst f5_))
                              refine hK.out _ _ ⟨(blk_cell BK117.out 0).trans rfl, (blk_cell BK117.out 1).trans rfl, (blk_cell BK117.out 2).trans rfl, (blk_cell BK117.out 3).trans rfl, ((HB.out.cell (World.block_lt_of_cell? w _ hw118_0)).trans hw118_0)⟩ (fun hHeld => ?_)
                              clear hK K
                              refine norm_ (a' := ?_) ?_ ?_
                              rotate_left
                              · show Act.put _ (some 55) _ = _
                                simp only [Act.put, List.setIfInBounds_toArray, List.set_cons_zero, List.set_cons_succ, i64_w, i32_w]
                                rfl
                              refine pure_ (i := 18) (N := some 56) (v := ?_) (a' := ?_) #[true, true, true, true, true, true, true, true, true, true, true, true, true, true, true, true, true, true, true, false] rfl rfl (any_of HT_.out (by kernel_rfl)) (fun _ _ _ h => h) (Or.inl ⟨by rfl, ?_⟩) ?_ ?_
                              rotate_left
                              · intro w'
                                go_simp
                                with_reducible rfl
                              rotate_left
                              · simp only [Act.put, List.setIfInBounds_toArray, List.set_cons_zero, List.set_cons_succ, i64_w, i32_w]
                                rfl
                              refine last_ (i := 19) (N := none) #[true, true, true, true, true, true, true, true, true, true, true, true, true, true, true, true, true, true, true, true] rfl rfl (one_of HT_.out (by kernel_rfl)) (by decide) (fun K hK => ?_)
                              have hs25 : w23.cell? ⟨gb117, 3, none⟩ = some (u118003) := (blk_cell BK117.out 3).trans rfl
                              have hfs25 := blk_frozen BK117.out 3
                              refine skip_ (w1 := ?_) (by rfl) rfl ?_ ?_
                              rotate_left
                              · go_simp
                                rfl
                              refine hK.out _ _ ?_
                              clear hK K
                              refine done_ (done_of HT_.out (by kernel_rfl)) ?_
                              try go_wp2
                              go_roundg k3
                              case measure => have := HK1.out; have := HJ2.out; have := HK3.out; omega
                              case rel => exact ⟨(wrap64 (x9_3 + 1)), (y124), (.slice Ao24 y124.length co24), (by first | rfl | (simp; done) | (simp [*]; done)), H', ⟨by have := HK1.out; have := HJ2.out; have := HK3.out; omega⟩, ⟨by (with_reducible repeat (first | apply Kd.S_alloc | apply Kd.S_drewN | apply Kd.S_drew)); exact Kd.S_mono (Kd.S_far (p := ⟨gb117, 3, none⟩) (Kd.S_mono HO_5.out (fun k_ hk => (⟨hk, hk.1⟩ : _ ∧ k_ ≠ gb117))) (fun _ hk => hk.2) (.slice Ao24 y124.length co24)) (fun _ hk => ⟨hk.1.2, hk.1.1⟩)⟩, ⟨by (with_reducible repeat (first | apply Kd.R_alloc | apply Kd.R_drewN | apply Kd.R_drew)); exact Kd.R_mono (Kd.R_far (p := ⟨gb117, 3, none⟩) (Kd.R_types HO126.out BK117.out (by decide)) (fun _ hk => hk.2) (.slice Ao24 y124.length co24)) (fun _ hk => trivial)⟩, ⟨by (with_reducible repeat (first | refine blk_drewN ?_ _ | refine blk_drew ?_ | refine blk_alloc ?_ _)); refine blk_put (cs := #[.int .i64 t114, .int .i64 t115, .int .i64 t116, u118003]) ?_ 3 _ rfl; (with_reducible repeat (first | refine blk_drewN ?_ _ | refine blk_drew ?_ | refine blk_alloc ?_ _)); exact BK117.out⟩, ⟨by repeat (first | (with_reducible first | exact HB.out | apply below_alloc | apply pw_below_drewN | apply below_drew1 | refine below_set ?_ GE117.out) | exact HB.out)⟩⟩
                            · rw [if_neg c20] at H
                              exact absurd H (by simp)
                        · rw [if_neg c17] at H
                          exact absurd H (by simp)
                      · rw [if_neg c16] at H
                        exact absurd H (by simp)
                    · rw [if_neg c14] at H
                      have c14b0 : decide (x9_3 < (Int.tmod (wrap64 (Int.tdiv t113 40)) 5)) = false := decide_eq_false c14
                      clear c14
                      by_cases c26 : (Int.tmod t113 61) = 7
                      · rw [if_pos c26] at H
                        have c26b0 : ((Int.tmod t113 61) == 7) = true := beq_iff_eq.mpr c26
                        have c26b1 : ((Int.tmod t113 61) != 7) = false := bne_eq_false_iff_eq.mpr c26
                        clear c26
                        replace H := Option.bind_eq_some_iff.mp H
                        obtain ⟨⟨t127, t128, t129, t130, t131⟩, A270, H⟩ := H
                        replace H : ((skymosaicref32_Spoilt.f t127 t128 t129 t130 t131 (wrap64 (Int.tdiv t113 61)) (Int.tmod t113 9000)).bind fun bt132 => (if x118003_3.length < 3518437208883 then ((some (x118003_3 ++ [(⟨bt132.1, bt132.2.1, (⟨bt132.2.2.1, bt132.2.2.2.1, bt132.2.2.2.2⟩ : S34)⟩ : S56)] : List (S56))).bind fun y137 => (if (Int.tmod t113 67) = 8 then (if x5_1.length < 2932031007402 then (skymosaicref32_Changes.l0 k3 l0 a1 (x5_1 ++ [(⟨(⟨t114, 131072, t116⟩ : S34), y137⟩ : S37)]) (wrap64 (x6_1 + 2))) else (none)) else (if x5_1.length < 2932031007402 then (skymosaicref32_Changes.l0 k3 l0 a1 (x5_1 ++ [(⟨(⟨t114, t115, t116⟩ : S34), y137⟩ : S37)]) (wrap64 (x6_1 + 2))) else (none)))) else (none))) = some r := H
                        have A27 := Aside0.mk A270
                        clear A270
                        replace H := Option.bind_eq_some_iff.mp H
                        obtain ⟨⟨t132, t133, t134, t135, t136⟩, A280, H⟩ := H
                        replace H : (if x118003_3.length < 3518437208883 then ((some (x118003_3 ++ [(⟨t132, t133, (⟨t134, t135, t136⟩ : S34)⟩ : S56)] : List (S56))).bind fun y137 => (if (Int.tmod t113 67) = 8 then (if x5_1.length < 2932031007402 then (skymosaicref32_Changes.l0 k3 l0 a1 (x5_1 ++ [(⟨(⟨t114, 131072, t116⟩ : S34), y137⟩ : S37)]) (wrap64 (x6_1 + 2))) else (none)) else (if x5_1.length < 2932031007402 then (skymosaicref32_Changes.l0 k3 l0 a1 (x5_1 ++ [(⟨(⟨t114, t115, t116⟩ : S34), y137⟩ : S37)]) (wrap64 (x6_1 + 2))) else (none)))) else (none)) = some r := H
                        have A28 := Aside0.mk A280
                        clear A280
                        by_cases c29 : x118003_3.length < 3518437208883
                        · rw [if_pos c29] at H
                          have LMc29 := Aside0.mk c29
                          clear c29
                          obtain ⟨y137, hy137⟩ : ∃ y_ : List (S56), y_ = (x118003_3 ++ [(⟨t132, t133, (⟨t134, t135, t136⟩ : S34)⟩ : S56)]) := ⟨_, rfl⟩
                          replace H : (if (Int.tmod t113 67) = 8 then (if x5_1.length < 2932031007402 then (skymosaicref32_Changes.l0 k3 l0 a1 (x5_1 ++ [(⟨(⟨t114, 131072, t116⟩ : S34), y137⟩ : S37)]) (wrap64 (x6_1 + 2))) else (none)) else (if x5_1.length < 2932031007402 then (skymosaicref32_Changes.l0 k3 l0 a1 (x5_1 ++ [(⟨(⟨t114, t115, t116⟩ : S34), y137⟩ : S37)]) (wrap64 (x6_1 + 2))) else (none))) = some r := by first | (rw [hy137]; with_reducible exact H) | (have H2_ := (Option.bind_some _ _).symm.trans H; rw [hy137]; with_reducible exact H2_) | (have H2_ := (Option.bind_some _ _).symm.trans H; with_reducible exact H2_) | with_reducible exact H | (rw [hy137]; exact H) | exact H
                          have Ny137 := Aside0.mk hy137
                          clear hy137
                          by_cases c30 : (Int.tmod t113 67) = 8
                          · rw [if_pos c30] at H
                            have c30b0 : ((Int.tmod t113 67) == 8) = true := beq_iff_eq.mpr c30
                            have c30b1 : ((Int.tmod t113 67) != 8) = false := bne_eq_false_iff_eq.mpr c30
                            clear c30
                            by_cases c31 : x5_1.length < 2932031007402
                            · rw [if_pos c31] at H
                              have LMc31 := Aside0.mk c31
                              clear c31
                              obtain ⟨y140, hy140⟩ : ∃ y_ : List (S37), y_ = (x5_1 ++ [(⟨(⟨t114, 131072, t116⟩ : S34), y137⟩ : S37)]) := ⟨_, rfl⟩
                              replace H : (skymosaicref32_Changes.l0 k3 l0 a1 y140 (wrap64 (x6_1 + 2))) = some r := by first | (rw [hy140]; with_reducible exact H) | (have H2_ := (Option.bind_some _ _).symm.trans H; rw [hy140]; with_reducible exact H2_) | (have H2_ := (Option.bind_some _ _).symm.trans H; with_reducible exact H2_) | with_reducible exact H | (rw [hy140]; exact H) | exact H
                              have Ny140 := Aside0.mk hy140
                              clear hy140
                              have H' := Aside0.mk H
                              clear H
                              try go_wp2
                              have n0_ := Aside0.mk (Kd.S_drew HO_5.out)
                              have n1_ := Aside0.mk (Kd.R_drew HO_118003.out)
                              have n2_ := Aside0.mk (blk_drew BK117.out)
                              have n3_ := Aside0.mk (below_drew1 HB.out)
                              clear HO_5
                              clear HO_118003
                              clear BK117
                              clear HB
                              have HO_5 := n0_
                              have HO_118003 := n1_
                              have BK117 := n2_
                              have HB := n3_
                              clear n0_ n1_ n2_ n3_
                              refine start_ (n := 15) (S := fun w' => w'.cell? ⟨gb117, 0, none⟩ = some (.int .i64 t114) ∧ w'.cell? ⟨gb117, 1, none⟩ = some (.int .i64 t115) ∧ w'.cell? ⟨gb117, 2, none⟩ = some (.int .i64 t116) ∧ w'.cell? ⟨gb117, 3, none⟩ = some (u118003)) (ds := [14]) #[false, false, false, false, false, false, false, false, false, false, false, false, false, false, false] (by kernel_rfl) rfl rfl ⟨(blk_cell BK117.out 0).trans rfl, (blk_cell BK117.out 1).trans rfl, (blk_cell BK117.out 2).trans rfl, (blk_cell BK117.out 3).trans rfl⟩ (fun hHeld => ?_); refine with_tabW skymosaicref32_Changes.tab12 skymosaicref32_Changes.bits12 (fun HT_ HW_ => ?_)
                              generalize wr.drew = w32 at HO_5 HO_118003 BK117 HB hHeld ⊢
                              refine pure_ (i := 0) (N := some 60) (v := ?_) (a' := ?_) #[true, false, false, false, false, false, false, false, false, false, false, false, false, false, false] rfl rfl (any_of HT_.out (by kernel_rfl)) (fun _ _ _ h => h) (Or.inl ⟨by rfl, ?_⟩) ?_ ?_
                              rotate_left
                              · intro w'
                                go_simp
                                with_reducible rfl
                              rotate_left
                              · simp only [Act.put, List.setIfInBounds_toArray, List.set_cons_zero, List.set_cons_succ, i64_w, i32_w]
                                rfl
                              refine pure_ (i := 2) (N := some 62) (v := ?_) (a' := ?_) #[true, false, true, false, false, false, false, false, false, false, false, false, false, false, false] rfl rfl (any_of HT_.out (by kernel_rfl)) (fun _ _ _ h => h) (Or.inl ⟨by rfl, ?_⟩) ?_ ?_
                              rotate_left
                              · intro w'
                                go_simp
                                with_reducible rfl
                              rotate_left
                              · simp only [Act.put, List.setIfInBounds_toArray, List.set_cons_zero, List.set_cons_succ, i64_w, i32_w]
                                rfl
                              refine pure_ (i := 4) (N := some 64) (v := ?_) (a' := ?_) #[true, false, true, false, true, false, false, false, false, false, false, false, false, false, false] rfl rfl (any_of HT_.out (by kernel_rfl)) (fun _ _ _ h => h) (Or.inl ⟨by rfl, ?_⟩) ?_ ?_
                              rotate_left
                              · intro w'
                                go_simp
                                with_reducible rfl
                              rotate_left
                              · simp only [Act.put, List.setIfInBounds_toArray, List.set_cons_zero, List.set_cons_succ, i64_w, i32_w]
                                rfl
                              refine pure_ (i := 6) (N := some 66) (v := ?_) (a' := ?_) #[true, false, true, false, true, false, true, false, false, false, false, false, false, false, false] rfl rfl (any_of HT_.out (by kernel_rfl)) (fun _ _ _ h => h) (Or.inl ⟨by rfl, ?_⟩) ?_ ?_
                              rotate_left
                              · intro w'
                                go_simp
                                with_reducible rfl
                              rotate_left
                              · simp only [Act.put, List.setIfInBounds_toArray, List.set_cons_zero, List.set_cons_succ, i64_w, i32_w]
                                rfl
                              refine pure_ (i := 7) (N := some 67) (v := ?_) (a' := ?_) #[true, false, true, false, true, false, true, true, false, false, false, false, false, false, false] rfl rfl (any_of HT_.out (by kernel_rfl)) (fun _ _ _ h => h) (Or.inl ⟨by rfl, ?_⟩) ?_ ?_
                              rotate_left
                              · intro w'
                                go_simp
                                with_reducible rfl
                              rotate_left
                              · simp only [Act.put, List.setIfInBounds_toArray, List.set_cons_zero, List.set_cons_succ, i64_w, i32_w]
                                rfl
                              refine pure_ (i := 8) (N := some 68) (v := ?_) (a' := ?_) #[true, false, true, false, true, false, true, true, true, false, false, false, false, false, false] rfl rfl (any_of HT_.out (by kernel_rfl)) (fun _ _ _ h => h) (Or.inl ⟨by rfl, ?_⟩) ?_ ?_
                              rotate_left
                              · intro w'
                                go_simp
                                with_reducible rfl
                              rotate_left
                              · simp only [Act.put, List.setIfInBounds_toArray, List.set_cons_zero, List.set_cons_succ, i64_w, i32_w]
                                rfl
                              refine pure_ (i := 9) (N := some 69) (v := ?_) (a' := ?_) #[true, false, true, false, true, false, true, true, true, true, false, false, false, false, false] rfl rfl (any_of HT_.out (by kernel_rfl)) (fun _ _ _ h => h) (Or.inl ⟨by rfl, ?_⟩) ?_ ?_
                              rotate_left
                              · intro w'
                                go_simp
                                with_reducible rfl
                              rotate_left
                              · simp only [Act.put, List.setIfInBounds_toArray, List.set_cons_zero, List.set_cons_succ, i64_w, i32_w]
                                rfl
                              refine take_ (i := 1) (N := some 61) (v := ?_) (a' := ?_) #[true, true, true, false, true, false, true, true, true, true, false, false, false, false, false] rfl rfl (take_ofW HT_.out HW_.out (by kernel_rfl)) (fun _ _ _ h => h) (Or.inl ⟨by rfl, ?_⟩) hHeld ?_ ?_
                              rotate_left
                              · rintro w' ⟨s0, s1, s2, s3⟩
                                go_simp
                                with_reducible rfl
                              rotate_left
                              · simp only [Act.put, List.setIfInBounds_toArray, List.set_cons_zero, List.set_cons_succ, i64_w, i32_w]
                                rfl
                              refine take_ (i := 3) (N := some 63) (v := ?_) (a' := ?_) #[true, true, true, true, true, false, true, true, true, true, false, false, false, false, false] rfl rfl (take_ofW HT_.out HW_.out (by kernel_rfl)) (fun _ _ _ h => h) (Or.inl ⟨by rfl, ?_⟩) hHeld ?_ ?_
                              rotate_left
                              · rintro w' ⟨s0, s1, s2, s3⟩
                                go_simp
                                with_reducible rfl
                              rotate_left
                              · simp only [Act.put, List.setIfInBounds_toArray, List.set_cons_zero, List.set_cons_succ, i64_w, i32_w]
                                rfl
                              refine one_ (i := 5) (N := some 65) #[true, true, true, true, true, true, true, true, true, true, false, false, false, false, false] rfl rfl (one_of HT_.out (by kernel_rfl)) (by decide) (fun K hK => ?_)
                              refine goes_ Try.func23 (by kernel_rfl) rfl #[.agg #[.int .i64 t114, .int .i64 t115, .int .i64 t116], .int .i64 t113] (by rfl) rfl rfl (by (try simp only [List.map_toArray, List.map_cons, List.map_nil]); first | done | rfl | (simp only [List.length_drop, List.length_take]; rfl)) ?_
                              with_reducible refine (skymosaicref32_Of.calls t114 t115 t116 t113 t127 t128 t129 t130 t131 _ A27.out).mono ?_
                              rintro e w33 ⟨rfl, hb⟩
                              refine ⟨_, rfl, ?_⟩
                              have n0_ := Aside0.mk (Kd.S_below (by (with_reducible repeat (first | apply Kd.S_alloc | apply Kd.S_drewN | apply Kd.S_drew)); exact HO_5.out) hb)
                              have n1_ := Aside0.mk (Kd.R_below (by (with_reducible repeat (first | apply Kd.R_alloc | apply Kd.R_drewN | apply Kd.R_drew)); exact HO_118003.out) hb)
                              have n2_ := Aside0.mk (blk_below (g := gb117) (o := .cells #[.int .i64 t114, .int .i64 t115, .int .i64 t116, u118003] 37 (0, 0)) (by (with_reducible repeat (first | refine blk_drewN ?_ _ | refine blk_drew ?_ | refine blk_alloc ?_ _)); exact BK117.out) hb)
                              have n3_ := Aside0.mk (below_step (by repeat (first | (with_reducible first | exact HB.out | apply below_alloc | apply pw_below_drewN | apply below_drew1 | refine below_set ?_ GE117.out) | exact HB.out)) hb)
                              clear HO_5
                              clear HO_118003
                              clear BK117
                              clear HB
                              have HO_5 := n0_
                              have HO_118003 := n1_
                              have BK117 := n2_
                              have HB := n3_
                              clear n0_ n1_ n2_ n3_
                              (try clear hb)
                              (try clear hb2)
                              (try clear hk)
                              (try clear hi)
                              refine hK.out _ _ ⟨(blk_cell BK117.out 0).trans rfl, (blk_cell BK117.out 1).trans rfl, (blk_cell BK117.out 2).trans rfl, (blk_cell BK117.out 3).trans rfl⟩ (fun hHeld => ?_)
                              clear hK K
                              refine norm_ (a' := ?_) ?_ ?_
                              rotate_left
                              · show Act.put _ (some 65) _ = _
                                simp only [Act.put, List.setIfInBounds_toArray, List.set_cons_zero, List.set_cons_succ, i64_w, i32_w]
                                rfl
                              refine one_ (i := 10) (N := some 70) #[true, true, true, true, true, true, true, true, true, true, true, false, false, false, false] rfl rfl (one_of HT_.out (by kernel_rfl)) (by decide) (fun K hK => ?_)
                              refine goes_ Try.func24 (by kernel_rfl) rfl #[.agg #[.int .i64 t127, .int .i64 t128, .int .i64 t129, .int .i64 t130, .int .i64 t131], .int .i64 (wrap64 (Int.tdiv t113 61)), .int .i64 (Int.tmod t113 9000)] (by rfl) rfl rfl (by (try simp only [List.map_toArray, List.map_cons, List.map_nil]); first | done | rfl | (simp only [List.length_drop, List.length_take]; rfl)) ?_
                              with_reducible refine (skymosaicref32_Spoilt.calls t127 t128 t129 t130 t131 (wrap64 (Int.tdiv t113 61)) (Int.tmod t113 9000) t132 t133 t134 t135 t136 _ A28.out).mono ?_
                              rintro e w34 ⟨rfl, hb⟩
                              refine ⟨_, rfl, ?_⟩
                              have n0_ := Aside0.mk (Kd.S_below (by (with_reducible repeat (first | apply Kd.S_alloc | apply Kd.S_drewN | apply Kd.S_drew)); exact HO_5.out) hb)
                              have n1_ := Aside0.mk (Kd.R_below (by (with_reducible repeat (first | apply Kd.R_alloc | apply Kd.R_drewN | apply Kd.R_drew)); exact HO_118003.out) hb)
                              have n2_ := Aside0.mk (blk_below (g := gb117) (o := .cells #[.int .i64 t114, .int .i64 t115, .int .i64 t116, u118003] 37 (0, 0)) (by (with_reducible repeat (first | refine blk_drewN ?_ _ | refine blk_drew ?_ | refine blk_alloc ?_ _)); exact BK117.out) hb)
                              have n3_ := Aside0.mk (below_step (by repeat (first | (with_reducible first | exact HB.out | apply below_alloc | apply pw_below_drewN | apply below_drew1 | refine below_set ?_ GE117.out) | exact HB.out)) hb)
                              clear HO_5
                              clear HO_118003
                              clear BK117
                              clear HB
                              have HO_5 := n0_
                              have HO_118003 := n1_
                              have BK117 := n2_
                              have HB := n3_
                              clear n0_ n1_ n2_ n3_
                              (try clear hb)
                              (try clear hb2)
                              (try clear hk)
                              (try clear hi)
                              refine hK.out _ _ ⟨(blk_cell BK117.out 0).trans rfl, (blk_cell BK117.out 1).trans rfl, (blk_cell BK117.out 2).trans rfl, (blk_cell BK117.out 3).trans rfl⟩ (fun hHeld => ?_)
                              clear hK K
                              refine norm_ (a' := ?_) ?_ ?_
                              rotate_left
                              · show Act.put _ (some 70) _ = _
                                simp only [Act.put, List.setIfInBounds_toArray, List.set_cons_zero, List.set_cons_succ, i64_w, i32_w]
                                rfl
                              refine one_ (i := 11) (N := some 71) #[true, true, true, true, true, true, true, true, true, true, true, true, false, false, false] rfl rfl (one_of HT_.out (by kernel_rfl)) (by decide) (fun K hK => ?_)
                              refine value_ (w1 := ?_) (v := ?_) (by rfl) rfl ?_ ?_
                              rotate_left 2
                              · go_simp
                                constructor
                                · rfl
                                · rfl
                              refine hK.out _ _ ⟨(blk_cell (blk_alloc BK117.out _) 0).trans rfl, (blk_cell (blk_alloc BK117.out _) 1).trans rfl, (blk_cell (blk_alloc BK117.out _) 2).trans rfl, (blk_cell (blk_alloc BK117.out _) 3).trans rfl⟩ (fun hHeld => ?_)
                              clear hK K
                              refine norm_ (a' := ?_) ?_ ?_
                              rotate_left
                              · show Act.put _ (some 71) _ = _
                                simp only [Act.put, List.setIfInBounds_toArray, List.set_cons_zero, List.set_cons_succ, i64_w, i32_w]
                                rfl
                              refine one_ (i := 12) (N := some 72) #[true, true, true, true, true, true, true, true, true, true, true, true, true, false, false] rfl rfl (one_of HT_.out (by kernel_rfl)) (by decide) (fun K hK => ?_)
                              refine Kd.R_append_step k56 (w0 := w) w.heap.size (by rfl) (.tmp 61) (.tmp 71) 35 56 (.agg #[(.int .i64 0), (.int .i64 0), (.int .i64 0), (.int .i64 0), (.int .i64 0)]) 40 rfl Try.underlying35 info56 rfl (by decide) (by omega) u118003 x118003_3 (⟨t132, t133, (⟨t134, t135, t136⟩ : S34)⟩ : S56) [.int .i64 t132, .int .i64 t133, .int .i64 t134, .int .i64 t135, .int .i64 t136] (fun _ => True) (fun _ => False) rfl rfl ?aP (fun _ hk => hk.elim) ?aF ?aO ?aB ?aS ?aL ?_
                              (case aP => exact k56_mkM _ _ _ (⟨t132, t133, (⟨t134, t135, t136⟩ : S34)⟩ : S56))
                              (case aB => exact (by repeat (first | (with_reducible first | exact HB.out | apply below_alloc | apply pw_below_drewN | apply below_drew1 | refine below_set ?_ GE117.out) | exact HB.out)))
                              (case aF => exact (fun _ _ => trivial))
                              (case aO => exact (by (with_reducible repeat (first | apply Kd.R_alloc | apply Kd.R_drewN | apply Kd.R_drew)); exact HO_118003.out))
                              (case aS => exact (below_size (by repeat (first | (with_reducible first | exact HB.out | apply below_alloc | apply pw_below_drewN | apply below_drew1 | refine below_set ?_ GE117.out) | exact HB.out))))
                              (case aL => have := LMc29.out; omega)
                              intro v138 w35 ho hb hg hat
                              rw [← Ny137.out] at ho
                              have n0_ := Aside0.mk (Kd.S_after (ok := (fun k_ => k_ ≠ gb117)) (by (with_reducible repeat (first | apply Kd.S_alloc | apply Kd.S_drewN | apply Kd.S_drew)); exact Kd.S_mono HO_5.out (fun _ hk => ⟨hk.2, hk.1⟩)) hg hat)
                              have n1_ := Aside0.mk (blk_grown (g := gb117) (o := .cells #[.int .i64 t114, .int .i64 t115, .int .i64 t116, u118003] 37 (0, 0)) (by (with_reducible repeat (first | refine blk_drewN ?_ _ | refine blk_drew ?_ | refine blk_alloc ?_ _)); exact BK117.out) hg (Kd.R_ne HO_118003.out BK117.out (by decide)))
                              have n2_ := Aside0.mk (hb)
                              have n3_ := Aside0.mk (ho)
                              clear HO_5
                              clear BK117
                              clear HB
                              clear HO_118003
                              have HO_5 := n0_
                              have BK117 := n1_
                              have HB := n2_
                              have HO139 := n3_
                              clear n0_ n1_ n2_ n3_
                              clear ho hb hg hat
                              obtain ⟨Ao36, co36, eo36⟩ := Kd.R_slice HO139.out
                              (first | subst eo36 | (injection eo36 with f1_ f2_ f3_; have f4_ := f1_.symm; have f5_ := f3_.symm; clear f1_ f2_ f3_; subst f4_; subst f5_))
                              refine hK.out _ _ ⟨(blk_cell BK117.out 0).trans rfl, (blk_cell BK117.out 1).trans rfl, (blk_cell BK117.out 2).trans rfl, (blk_cell BK117.out 3).trans rfl⟩ (fun hHeld => ?_)
                              clear hK K
                              refine norm_ (a' := ?_) ?_ ?_
                              rotate_left
                              · show Act.put _ (some 72) _ = _
                                simp only [Act.put, List.setIfInBounds_toArray, List.set_cons_zero, List.set_cons_succ, i64_w, i32_w]
                                rfl
                              refine pure_ (i := 13) (N := some 73) (v := ?_) (a' := ?_) #[true, true, true, true, true, true, true, true, true, true, true, true, true, true, false] rfl rfl (any_of HT_.out (by kernel_rfl)) (fun _ _ _ h => h) (Or.inl ⟨by rfl, ?_⟩) ?_ ?_
                              rotate_left
                              · intro w'
                                go_simp
                                with_reducible rfl
                              rotate_left
                              · simp only [Act.put, List.setIfInBounds_toArray, List.set_cons_zero, List.set_cons_succ, i64_w, i32_w]
                                rfl
                              refine last_ (i := 14) (N := none) #[true, true, true, true, true, true, true, true, true, true, true, true, true, true, true] rfl rfl (one_of HT_.out (by kernel_rfl)) (by decide) (fun K hK => ?_)
                              have hs37 : w35.cell? ⟨gb117, 3, none⟩ = some (u118003) := (blk_cell BK117.out 3).trans rfl
                              have hfs37 := blk_frozen BK117.out 3
                              refine skip_ (w1 := ?_) (by rfl) rfl ?_ ?_
                              rotate_left
                              · go_simp
                                rfl
                              refine hK.out _ _ ?_
                              clear hK K
                              refine done_ (done_of HT_.out (by kernel_rfl)) ?_
                              have n0_ : Aside0 (Kd.S k37 37 (w35.setCell ⟨gb117, 3, none⟩ (.slice Ao36 y137.length co36)) w.heap.size (fun k_ => some k_ ≠ (.slice Ao36 y137.length co36 : Value).ownBlock ∧ k_ ≠ gb117) u5 x5_1) := ⟨by (with_reducible repeat (first | apply Kd.S_alloc | apply Kd.S_drewN | apply Kd.S_drew)); exact Kd.S_mono (Kd.S_far (p := ⟨gb117, 3, none⟩) (Kd.S_mono HO_5.out (fun k_ hk => (⟨hk, hk.1⟩ : _ ∧ k_ ≠ gb117))) (fun _ hk => hk.2) (.slice Ao36 y137.length co36)) (fun _ hk => ⟨hk.1.2, hk.1.1⟩)⟩
                              have n1_ : Aside0 (Kd.R k56 56 (w35.setCell ⟨gb117, 3, none⟩ (.slice Ao36 y137.length co36)) w.heap.size (fun _ => True) (.slice Ao36 y137.length co36) y137) := ⟨by (with_reducible repeat (first | apply Kd.R_alloc | apply Kd.R_drewN | apply Kd.R_drew)); exact Kd.R_mono (Kd.R_far (p := ⟨gb117, 3, none⟩) (Kd.R_types HO139.out BK117.out (by decide)) (fun _ hk => hk.2) (.slice Ao36 y137.length co36)) (fun _ hk => trivial)⟩
                              have n2_ : Aside0 ((w35.setCell ⟨gb117, 3, none⟩ (.slice Ao36 y137.length co36)).heap[gb117]? = some (.cells #[.int .i64 t114, .int .i64 t115, .int .i64 t116, .slice Ao36 y137.length co36] 37 (0, 0))) := ⟨by (with_reducible repeat (first | refine blk_drewN ?_ _ | refine blk_drew ?_ | refine blk_alloc ?_ _)); refine blk_put (cs := #[.int .i64 t114, .int .i64 t115, .int .i64 t116, u118003]) ?_ 3 _ rfl; (with_reducible repeat (first | refine blk_drewN ?_ _ | refine blk_drew ?_ | refine blk_alloc ?_ _)); exact BK117.out⟩
                              have n3_ : Aside0 (Below w.heap.size w (w35.setCell ⟨gb117, 3, none⟩ (.slice Ao36 y137.length co36))) := ⟨by repeat (first | (with_reducible first | exact HB.out | apply below_alloc | apply pw_below_drewN | apply below_drew1 | refine below_set ?_ GE117.out) | exact HB.out)⟩
                              (try clear HO_5)
                              (try clear HO139)
                              (try clear BK117)
                              (try clear HB)
                              generalize (w35.setCell ⟨gb117, 3, none⟩ (.slice Ao36 y137.length co36)) = w38 at n0_ n1_ n2_ n3_ ⊢
                              have HO_5 := n0_
                              have HO139 := n1_
                              have BK117 := n2_
                              have HB := n3_
                              clear n0_ n1_ n2_ n3_
                              have hcz39_0 : w38.cell? ⟨gb117, 0, none⟩ = some (.int .i64 t114) := (blk_cell BK117.out 0).trans rfl
                              have hcz39_1 : w38.cell? ⟨gb117, 1, none⟩ = some (.int .i64 t115) := (blk_cell BK117.out 1).trans rfl
                              have hcz39_2 : w38.cell? ⟨gb117, 2, none⟩ = some (.int .i64 t116) := (blk_cell BK117.out 2).trans rfl
                              have hcz39_3 : w38.cell? ⟨gb117, 3, none⟩ = some (.slice Ao36 y137.length co36) := (blk_cell BK117.out 3).trans rfl
                              have hfz39_0 := blk_frozen BK117.out 0
                              have hfz39_1 := blk_frozen BK117.out 1
                              have hfz39_2 := blk_frozen BK117.out 2
                              have hfz39_3 := blk_frozen BK117.out 3
                              try go_wp2_with (first | ((with_reducible refine gate_store (t := 3) (p := 78) rfl ?_); refine store_event (t := 3) (p := 78) (v := ?vo_w40) (w1 := (w38.setCell ⟨gb117, 1, none⟩ (.int .i64 131072))) ?hg ?ho ?hn ?hr ?_; (case ho => rfl); (case hg => rfl); (case hn => rfl); (case hr => first | (go_simp; done) | (go_simp; rfl)); intro w40 hw; have n0_ : Aside0 (Kd.S k37 37 w40 w.heap.size (fun k_ => some k_ ≠ (.slice Ao36 y137.length co36 : Value).ownBlock ∧ k_ ≠ gb117) u5 x5_1) := ⟨(by rw [hw]; exact (by (with_reducible repeat (first | apply Kd.S_alloc | apply Kd.S_drewN | apply Kd.S_drew)); exact Kd.S_mono (Kd.S_far (p := ⟨gb117, 1, none⟩) (Kd.S_mono HO_5.out (fun k_ hk => (⟨hk, hk.2⟩ : _ ∧ k_ ≠ gb117))) (fun _ hk => hk.2) (.int .i64 131072)) (fun _ hk => ⟨hk.1.1, hk.1.2⟩)))⟩; have n1_ : Aside0 (Kd.R k56 56 w40 w.heap.size (fun _ => True) (.slice Ao36 y137.length co36) y137) := ⟨(by rw [hw]; exact (by (with_reducible repeat (first | apply Kd.R_alloc | apply Kd.R_drewN | apply Kd.R_drew)); exact Kd.R_mono (Kd.R_far (p := ⟨gb117, 1, none⟩) (Kd.R_types HO139.out BK117.out (by decide)) (fun _ hk => hk.2) (.int .i64 131072)) (fun _ hk => trivial)))⟩; have n2_ : Aside0 (w40.heap[gb117]? = some (.cells #[.int .i64 t114, .int .i64 131072, .int .i64 t116, .slice Ao36 y137.length co36] 37 (0, 0))) := ⟨(by rw [hw]; exact (by (with_reducible repeat (first | refine blk_drewN ?_ _ | refine blk_drew ?_ | refine blk_alloc ?_ _)); refine blk_put (cs := #[.int .i64 t114, .int .i64 t115, .int .i64 t116, .slice Ao36 y137.length co36]) ?_ 1 _ rfl; (with_reducible repeat (first | refine blk_drewN ?_ _ | refine blk_drew ?_ | refine blk_alloc ?_ _)); exact BK117.out))⟩; have n3_ : Aside0 (Below w.heap.size w w40) := ⟨(by rw [hw]; exact (by repeat (first | (with_reducible first | exact HB.out | apply below_alloc | apply pw_below_drewN | apply below_drew1 | refine below_set ?_ GE117.out) | exact HB.out)))⟩; clear hw; clear HO_5; clear HO139; clear BK117; clear HB; have HO_5 := n0_; have HO139 := n1_; have BK117 := n2_; have HB := n3_; clear n0_ n1_ n2_ n3_; have hcz41_0 : w40.cell? ⟨gb117, 0, none⟩ = some (.int .i64 t114) := (blk_cell BK117.out 0).trans rfl; have hcz41_1 : w40.cell? ⟨gb117, 1, none⟩ = some (.int .i64 131072) := (blk_cell BK117.out 1).trans rfl; have hcz41_2 : w40.cell? ⟨gb117, 2, none⟩ = some (.int .i64 t116) := (blk_cell BK117.out 2).trans rfl; have hcz41_3 : w40.cell? ⟨gb117, 3, none⟩ = some (.slice Ao36 y137.length co36) := (blk_cell BK117.out 3).trans rfl; have hfz41_0 := blk_frozen BK117.out 0; have hfz41_1 := blk_frozen BK117.out 1; have hfz41_2 := blk_frozen BK117.out 2; have hfz41_3 := blk_frozen BK117.out 3) | ((with_reducible refine gate_builtin (b := .append) (xs := #[.tmp 79, .tmp 81]) rfl ?_); (try (refine gate_guard (by rfl) ?_; dsimp only)); at_builtin; refine Kd.S_append k37 (w0 := w) w.heap.size rfl (.tmp 79) (.tmp 81) 29 37 (.agg #[(.int .i64 0), (.int .i64 0), (.int .i64 0), (.slice none 0 0)]) 48 rfl Try.underlying29 info37 rfl (by decide) (by omega) u5 x5_1 (⟨(⟨t114, 131072, t116⟩ : S34), y137⟩ : S37) [.int .i64 t114, .int .i64 131072, .int .i64 t116, .slice Ao36 y137.length co36] (fun k_ => k_ ≠ gb117) (fun k_ => some k_ = (.slice Ao36 y137.length co36 : Value).ownBlock) rfl rfl ?aP (fun k_ hk_ => ((Kd.R_mono (ok' := fun k_ => ((fun k_ => k_ ≠ gb117)) k_ ∧ some k_ ≠ (u5 : Value).ownBlock) (Kd.R_types (Kd.R_apart' (HO139.out) (Kd.S_typed HO_5.out) (by decide)) BK117.out (by decide)) (fun k_ hk => ⟨hk.2, hk.1.2⟩))).1 k_ hk_.symm) ?aF ?aO ?aB ?aS ?aL ?_; (case aP => exact k37_mkM _ _ _ (⟨(⟨t114, 131072, t116⟩ : S34), y137⟩ : S37) (Kd.R_mono (Kd.R_tight rfl (Kd.R_mono (ok' := fun k_ => ((fun k_ => k_ ≠ gb117)) k_ ∧ some k_ ≠ (u5 : Value).ownBlock) (Kd.R_types (Kd.R_apart' (HO139.out) (Kd.S_typed HO_5.out) (by decide)) BK117.out (by decide)) (fun k_ hk => ⟨hk.2, hk.1.2⟩))) (fun _ h_ => h_))); (case aB => exact (by repeat (first | (with_reducible first | exact HB.out | apply below_alloc | apply pw_below_drewN | apply below_drew1 | refine below_set ?_ GE117.out) | exact HB.out))); (case aF => exact (fun k_ hk => Kd.freshB (g := gb117) (o := .cells #[.int .i64 t114, .int .i64 131072, .int .i64 t116, .slice Ao36 y137.length co36] 37 (0, 0)) (by (with_reducible repeat (first | refine blk_drewN ?_ _ | refine blk_drew ?_ | refine blk_alloc ?_ _)); exact BK117.out) k_ hk)); (case aO => exact (by (with_reducible repeat (first | apply Kd.S_alloc | apply Kd.S_drewN | apply Kd.S_drew)); exact Kd.S_mono HO_5.out (fun k_ hk => ⟨hk.2, fun e_ => hk.1 e_⟩))); (case aS => exact (below_size (by repeat (first | (with_reducible first | exact HB.out | apply below_alloc | apply pw_below_drewN | apply below_drew1 | refine below_set ?_ GE117.out) | exact HB.out)))); (case aL => have := LMc31.out; omega); intro v141 w42 ho hb hg hat; rw [← Ny140.out] at ho; have n0_ := Aside0.mk (blk_grown (g := gb117) (o := .cells #[.int .i64 t114, .int .i64 131072, .int .i64 t116, .slice Ao36 y137.length co36] 37 (0, 0)) (by (with_reducible repeat (first | refine blk_drewN ?_ _ | refine blk_drew ?_ | refine blk_alloc ?_ _)); exact BK117.out) hg (Kd.S_away HO_5.out (fun _ hk => hk.2))); have n1_ := Aside0.mk (hb); have n2_ := Aside0.mk (ho); clear BK117; clear HB; clear HO_5; clear HO139; have BK117 := n0_; have HB := n1_; have HO142 := n2_; clear n0_ n1_ n2_; clear ho hb hg hat))
                              go_roundg k3
                              case measure => have := HK1.out; have := HJ2.out; have := HK3.out; omega
                              case rel => exact ⟨(y140), (wrap64 (x6_1 + 2)), (by first | rfl | (simp; done) | (simp [*]; done)), H', ⟨by have := HK1.out; have := HJ2.out; have := HK3.out; omega⟩, ⟨by (with_reducible repeat (first | apply Kd.S_alloc | apply Kd.S_drewN | apply Kd.S_drew)); exact Kd.S_mono HO142.out (fun _ hk => trivial)⟩, ⟨by repeat (first | (with_reducible first | exact HB.out | apply below_alloc | apply pw_below_drewN | apply below_drew1 | refine below_set ?_ GE117.out) | exact HB.out)⟩⟩
                            · rw [if_neg c31] at H
                              exact absurd H (by simp)
                          · rw [if_neg c30] at H
                            have c30b0 : ((Int.tmod t113 67) == 8) = false := beq_eq_false_iff_ne.mpr c30
                            have c30b1 : ((Int.tmod t113 67) != 8) = true := bne_iff_ne.mpr c30
                            by_cases c43 : x5_1.length < 2932031007402
                            · rw [if_pos c43] at H
                              have LMc43 := Aside0.mk c43
                              clear c43
                              obtain ⟨y143, hy143⟩ : ∃ y_ : List (S37), y_ = (x5_1 ++ [(⟨(⟨t114, t115, t116⟩ : S34), y137⟩ : S37)]) := ⟨_, rfl⟩
                              replace H : (skymosaicref32_Changes.l0 k3 l0 a1 y143 (wrap64 (x6_1 + 2))) = some r := by first | (rw [hy143]; with_reducible exact H) | (have H2_ := (Option.bind_some _ _).symm.trans H; rw [hy143]; with_reducible exact H2_) | (have H2_ := (Option.bind_some _ _).symm.trans H; with_reducible exact H2_) | with_reducible exact H | (rw [hy143]; exact H) | exact H
                              have Ny143 := Aside0.mk hy143
                              clear hy143
                              have H' := Aside0.mk H
                              clear H
                              try go_wp2
                              have n0_ := Aside0.mk (Kd.S_drew HO_5.out)
                              have n1_ := Aside0.mk (Kd.R_drew HO_118003.out)
                              have n2_ := Aside0.mk (blk_drew BK117.out)
                              have n3_ := Aside0.mk (below_drew1 HB.out)
                              clear HO_5
                              clear HO_118003
                              clear BK117
                              clear HB
                              have HO_5 := n0_
                              have HO_118003 := n1_
                              have BK117 := n2_
                              have HB := n3_
                              clear n0_ n1_ n2_ n3_
                              refine start_ (n := 15) (S := fun w' => w'.cell? ⟨gb117, 0, none⟩ = some (.int .i64 t114) ∧ w'.cell? ⟨gb117, 1, none⟩ = some (.int .i64 t115) ∧ w'.cell? ⟨gb117, 2, none⟩ = some (.int .i64 t116) ∧ w'.cell? ⟨gb117, 3, none⟩ = some (u118003)) (ds := [14]) #[false, false, false, false, false, false, false, false, false, false, false, false, false, false, false] (by kernel_rfl) rfl rfl ⟨(blk_cell BK117.out 0).trans rfl, (blk_cell BK117.out 1).trans rfl, (blk_cell BK117.out 2).trans rfl, (blk_cell BK117.out 3).trans rfl⟩ (fun hHeld => ?_); refine with_tabW skymosaicref32_Changes.tab12 skymosaicref32_Changes.bits12 (fun HT_ HW_ => ?_)
                              generalize wr.drew = w44 at HO_5 HO_118003 BK117 HB hHeld ⊢
                              refine pure_ (i := 0) (N := some 60) (v := ?_) (a' := ?_) #[true, false, false, false, false, false, false, false, false, false, false, false, false, false, false] rfl rfl (any_of HT_.out (by kernel_rfl)) (fun _ _ _ h => h) (Or.inl ⟨by rfl, ?_⟩) ?_ ?_
                              rotate_left
                              · intro w'
                                go_simp
                                with_reducible rfl
                              rotate_left
                              · simp only [Act.put, List.setIfInBounds_toArray, List.set_cons_zero, List.set_cons_succ, i64_w, i32_w]
                                rfl
                              refine pure_ (i := 2) (N := some 62) (v := ?_) (a' := ?_) #[true, false, true, false, false, false, false, false, false, false, false, false, false, false, false] rfl rfl (any_of HT_.out (by kernel_rfl)) (fun _ _ _ h => h) (Or.inl ⟨by rfl, ?_⟩) ?_ ?_
                              rotate_left
                              · intro w'
                                go_simp
                                with_reducible rfl
                              rotate_left
                              · simp only [Act.put, List.setIfInBounds_toArray, List.set_cons_zero, List.set_cons_succ, i64_w, i32_w]
                                rfl
                              refine pure_ (i := 4) (N := some 64) (v := ?_) (a' := ?_) #[true, false, true, false, true, false, false, false, false, false, false, false, false, false, false] rfl rfl (any_of HT_.out (by kernel_rfl)) (fun _ _ _ h => h) (Or.inl ⟨by rfl, ?_⟩) ?_ ?_
                              rotate_left
                              · intro w'
                                go_simp
                                with_reducible rfl
                              rotate_left
                              · simp only [Act.put, List.setIfInBounds_toArray, List.set_cons_zero, List.set_cons_succ, i64_w, i32_w]
                                rfl
                              refine pure_ (i := 6) (N := some 66) (v := ?_) (a' := ?_) #[true, false, true, false, true, false, true, false, false, false, false, false, false, false, false] rfl rfl (any_of HT_.out (by kernel_rfl)) (fun _ _ _ h => h) (Or.inl ⟨by rfl, ?_⟩) ?_ ?_
                              rotate_left
                              · intro w'
                                go_simp
                                with_reducible rfl
                              rotate_left
                              · simp only [Act.put, List.setIfInBounds_toArray, List.set_cons_zero, List.set_cons_succ, i64_w, i32_w]
                                rfl
                              refine pure_ (i := 7) (N := some 67) (v := ?_) (a' := ?_) #[true, false, true, false, true, false, true, true, false, false, false, false, false, false, false] rfl rfl (any_of HT_.out (by kernel_rfl)) (fun _ _ _ h => h) (Or.inl ⟨by rfl, ?_⟩) ?_ ?_
                              rotate_left
                              · intro w'
                                go_simp
                                with_reducible rfl
                              rotate_left
                              · simp only [Act.put, List.setIfInBounds_toArray, List.set_cons_zero, List.set_cons_succ, i64_w, i32_w]
                                rfl
                              refine pure_ (i := 8) (N := some 68) (v := ?_) (a' := ?_) #[true, false, true, false, true, false, true, true, true, false, false, false, false, false, false] rfl rfl (any_of HT_.out (by kernel_rfl)) (fun _ _ _ h => h) (Or.inl ⟨by rfl, ?_⟩) ?_ ?_
                              rotate_left
                              · intro w'
                                go_simp
                                with_reducible rfl
                              rotate_left
                              · simp only [Act.put, List.setIfInBounds_toArray, List.set_cons_zero, List.set_cons_succ, i64_w, i32_w]
                                rfl
                              refine pure_ (i := 9) (N := some 69) (v := ?_) (a' := ?_) #[true, false, true, false, true, false, true, true, true, true, false, false, false, false, false] rfl rfl (any_of HT_.out (by kernel_rfl)) (fun _ _ _ h => h) (Or.inl ⟨by rfl, ?_⟩) ?_ ?_
                              rotate_left
                              · intro w'
                                go_simp
                                with_reducible rfl
                              rotate_left
                              · simp only [Act.put, List.setIfInBounds_toArray, List.set_cons_zero, List.set_cons_succ, i64_w, i32_w]
                                rfl
                              refine take_ (i := 1) (N := some 61) (v := ?_) (a' := ?_) #[true, true, true, false, true, false, true, true, true, true, false, false, false, false, false] rfl rfl (take_ofW HT_.out HW_.out (by kernel_rfl)) (fun _ _ _ h => h) (Or.inl ⟨by rfl, ?_⟩) hHeld ?_ ?_
                              rotate_left
                              · rintro w' ⟨s0, s1, s2, s3⟩
                                go_simp
                                with_reducible rfl
                              rotate_left
                              · simp only [Act.put, List.setIfInBounds_toArray, List.set_cons_zero, List.set_cons_succ, i64_w, i32_w]
                                rfl
                              refine take_ (i := 3) (N := some 63) (v := ?_) (a' := ?_) #[true, true, true, true, true, false, true, true, true, true, false, false, false, false, false] rfl rfl (take_ofW HT_.out HW_.out (by kernel_rfl)) (fun _ _ _ h => h) (Or.inl ⟨by rfl, ?_⟩) hHeld ?_ ?_
                              rotate_left
                              · rintro w' ⟨s0, s1, s2, s3⟩
                                go_simp
                                with_reducible rfl
                              rotate_left
                              · simp only [Act.put, List.setIfInBounds_toArray, List.set_cons_zero, List.set_cons_succ, i64_w, i32_w]
                                rfl
                              refine one_ (i := 5) (N := some 65) #[true, true, true, true, true, true, true, true, true, true, false, false, false, false, false] rfl rfl (one_of HT_.out (by kernel_rfl)) (by decide) (fun K hK => ?_)
                              refine goes_ Try.func23 (by kernel_rfl) rfl #[.agg #[.int .i64 t114, .int .i64 t115, .int .i64 t116], .int .i64 t113] (by rfl) rfl rfl (by (try simp only [List.map_toArray, List.map_cons, List.map_nil]); first | done | rfl | (simp only [List.length_drop, List.length_take]; rfl)) ?_
                              with_reducible refine (skymosaicref32_Of.calls t114 t115 t116 t113 t127 t128 t129 t130 t131 _ A27.out).mono ?_
                              rintro e w45 ⟨rfl, hb⟩
                              refine ⟨_, rfl, ?_⟩
                              have n0_ := Aside0.mk (Kd.S_below (by (with_reducible repeat (first | apply Kd.S_alloc | apply Kd.S_drewN | apply Kd.S_drew)); exact HO_5.out) hb)
                              have n1_ := Aside0.mk (Kd.R_below (by (with_reducible repeat (first | apply Kd.R_alloc | apply Kd.R_drewN | apply Kd.R_drew)); exact HO_118003.out) hb)
                              have n2_ := Aside0.mk (blk_below (g := gb117) (o := .cells #[.int .i64 t114, .int .i64 t115, .int .i64 t116, u118003] 37 (0, 0)) (by (with_reducible repeat (first | refine blk_drewN ?_ _ | refine blk_drew ?_ | refine blk_alloc ?_ _)); exact BK117.out) hb)
                              have n3_ := Aside0.mk (below_step (by repeat (first | (with_reducible first | exact HB.out | apply below_alloc | apply pw_below_drewN | apply below_drew1 | refine below_set ?_ GE117.out) | exact HB.out)) hb)
                              clear HO_5
                              clear HO_118003
                              clear BK117
                              clear HB
                              have HO_5 := n0_
                              have HO_118003 := n1_
                              have BK117 := n2_
                              have HB := n3_
                              clear n0_ n1_ n2_ n3_
                              (try clear hb)
                              (try clear hb2)
                              (try clear hk)
                              (try clear hi)
                              refine hK.out _ _ ⟨(blk_cell BK117.out 0).trans rfl, (blk_cell BK117.out 1).trans rfl, (blk_cell BK117.out 2).trans rfl, (blk_cell BK117.out 3).trans rfl⟩ (fun hHeld => ?_)
                              clear hK K
                              refine norm_ (a' := ?_) ?_ ?_
                              rotate_left
                              · show Act.put _ (some 65) _ = _
                                simp only [Act.put, List.setIfInBounds_toArray, List.set_cons_zero, List.set_cons_succ, i64_w, i32_w]
                                rfl
                              refine one_ (i := 10) (N := some 70) #[true, true, true, true, true, true, true, true, true, true, true, false, false, false, false] rfl rfl (one_of HT_.out (by kernel_rfl)) (by decide) (fun K hK => ?_)
                              refine goes_ Try.func24 (by kernel_rfl) rfl #[.agg #[.int .i64 t127, .int .i64 t128, .int .i64 t129, .int .i64 t130, .int .i64 t131], .int .i64 (wrap64 (Int.tdiv t113 61)), .int .i64 (Int.tmod t113 9000)] (by rfl) rfl rfl (by (try simp only [List.map_toArray, List.map_cons, List.map_nil]); first | done | rfl | (simp only [List.length_drop, List.length_take]; rfl)) ?_
                              with_reducible refine (skymosaicref32_Spoilt.calls t127 t128 t129 t130 t131 (wrap64 (Int.tdiv t113 61)) (Int.tmod t113 9000) t132 t133 t134 t135 t136 _ A28.out).mono ?_
                              rintro e w46 ⟨rfl, hb⟩
                              refine ⟨_, rfl, ?_⟩
                              have n0_ := Aside0.mk (Kd.S_below (by (with_reducible repeat (first | apply Kd.S_alloc | apply Kd.S_drewN | apply Kd.S_drew)); exact HO_5.out) hb)
                              have n1_ := Aside0.mk (Kd.R_below (by (with_reducible repeat (first | apply Kd.R_alloc | apply Kd.R_drewN | apply Kd.R_drew)); exact HO_118003.out) hb)
                              have n2_ := Aside0.mk (blk_below (g := gb117) (o := .cells #[.int .i64 t114, .int .i64 t115, .int .i64 t116, u118003] 37 (0, 0)) (by (with_reducible repeat (first | refine blk_drewN ?_ _ | refine blk_drew ?_ | refine blk_alloc ?_ _)); exact BK117.out) hb)
                              have n3_ := Aside0.mk (below_step (by repeat (first | (with_reducible first | exact HB.out | apply below_alloc | apply pw_below_drewN | apply below_drew1 | refine below_set ?_ GE117.out) | exact HB.out)) hb)
                              clear HO_5
                              clear HO_118003
                              clear BK117
                              clear HB
                              have HO_5 := n0_
                              have HO_118003 := n1_
                              have BK117 := n2_
                              have HB := n3_
                              clear n0_ n1_ n2_ n3_
                              (try clear hb)
                              (try clear hb2)
                              (try clear hk)
                              (try clear hi)
                              refine hK.out _ _ ⟨(blk_cell BK117.out 0).trans rfl, (blk_cell BK117.out 1).trans rfl, (blk_cell BK117.out 2).trans rfl, (blk_cell BK117.out 3).trans rfl⟩ (fun hHeld => ?_)
                              clear hK K
                              refine norm_ (a' := ?_) ?_ ?_
                              rotate_left
                              · show Act.put _ (some 70) _ = _
                                simp only [Act.put, List.setIfInBounds_toArray, List.set_cons_zero, List.set_cons_succ, i64_w, i32_w]
                                rfl
                              refine one_ (i := 11) (N := some 71) #[true, true, true, true, true, true, true, true, true, true, true, true, false, false, false] rfl rfl (one_of HT_.out (by kernel_rfl)) (by decide) (fun K hK => ?_)
                              refine value_ (w1 := ?_) (v := ?_) (by rfl) rfl ?_ ?_
                              rotate_left 2
                              · go_simp
                                constructor
                                · rfl
                                · rfl
                              refine hK.out _ _ ⟨(blk_cell (blk_alloc BK117.out _) 0).trans rfl, (blk_cell (blk_alloc BK117.out _) 1).trans rfl, (blk_cell (blk_alloc BK117.out _) 2).trans rfl, (blk_cell (blk_alloc BK117.out _) 3).trans rfl⟩ (fun hHeld => ?_)
                              clear hK K
                              refine norm_ (a' := ?_) ?_ ?_
                              rotate_left
                              · show Act.put _ (some 71) _ = _
                                simp only [Act.put, List.setIfInBounds_toArray, List.set_cons_zero, List.set_cons_succ, i64_w, i32_w]
                                rfl
                              refine one_ (i := 12) (N := some 72) #[true, true, true, true, true, true, true, true, true, true, true, true, true, false, false] rfl rfl (one_of HT_.out (by kernel_rfl)) (by decide) (fun K hK => ?_)
                              refine Kd.R_append_step k56 (w0 := w) w.heap.size (by rfl) (.tmp 61) (.tmp 71) 35 56 (.agg #[(.int .i64 0), (.int .i64 0), (.int .i64 0), (.int .i64 0), (.int .i64 0)]) 40 rfl Try.underlying35 info56 rfl (by decide) (by omega) u118003 x118003_3 (⟨t132, t133, (⟨t134, t135, t136⟩ : S34)⟩ : S56) [.int .i64 t132, .int .i64 t133, .int .i64 t134, .int .i64 t135, .int .i64 t136] (fun _ => True) (fun _ => False) rfl rfl ?aP (fun _ hk => hk.elim) ?aF ?aO ?aB ?aS ?aL ?_
                              (case aP => exact k56_mkM _ _ _ (⟨t132, t133, (⟨t134, t135, t136⟩ : S34)⟩ : S56))
                              (case aB => exact (by repeat (first | (with_reducible first | exact HB.out | apply below_alloc | apply pw_below_drewN | apply below_drew1 | refine below_set ?_ GE117.out) | exact HB.out)))
                              (case aF => exact (fun _ _ => trivial))
                              (case aO => exact (by (with_reducible repeat (first | apply Kd.R_alloc | apply Kd.R_drewN | apply Kd.R_drew)); exact HO_118003.out))
                              (case aS => exact (below_size (by repeat (first | (with_reducible first | exact HB.out | apply below_alloc | apply pw_below_drewN | apply below_drew1 | refine below_set ?_ GE117.out) | exact HB.out))))
                              (case aL => have := LMc29.out; omega)
                              intro v138 w47 ho hb hg hat
                              rw [← Ny137.out] at ho
                              have n0_ := Aside0.mk (Kd.S_after (ok := (fun k_ => k_ ≠ gb117)) (by (with_reducible repeat (first | apply Kd.S_alloc | apply Kd.S_drewN | apply Kd.S_drew)); exact Kd.S_mono HO_5.out (fun _ hk => ⟨hk.2, hk.1⟩)) hg hat)
                              have n1_ := Aside0.mk (blk_grown (g := gb117) (o := .cells #[.int .i64 t114, .int .i64 t115, .int .i64 t116, u118003] 37 (0, 0)) (by (with_reducible repeat (first | refine blk_drewN ?_ _ | refine blk_drew ?_ | refine blk_alloc ?_ _)); exact BK117.out) hg (Kd.R_ne HO_118003.out BK117.out (by decide)))
                              have n2_ := Aside0.mk (hb)
                              have n3_ := Aside0.mk (ho)
                              clear HO_5
                              clear BK117
                              clear HB
                              clear HO_118003
                              have HO_5 := n0_
                              have BK117 := n1_
                              have HB := n2_
                              have HO139 := n3_
                              clear n0_ n1_ n2_ n3_
                              clear ho hb hg hat
                              obtain ⟨Ao48, co48, eo48⟩ := Kd.R_slice HO139.out
                              (first | subst eo48 | (injection eo48 with f1_ f2_ f3_; have f4_ := f1_.symm; have f5_ := f3_.symm; clear f1_ f2_ f3_; subst f4_; subst f5_))
                              refine hK.out _ _ ⟨(blk_cell BK117.out 0).trans rfl, (blk_cell BK117.out 1).trans rfl, (blk_cell BK117.out 2).trans rfl, (blk_cell BK117.out 3).trans rfl⟩ (fun hHeld => ?_)
                              clear hK K
                              refine norm_ (a' := ?_) ?_ ?_
                              rotate_left
                              · show Act.put _ (some 72) _ = _
                                simp only [Act.put, List.setIfInBounds_toArray, List.set_cons_zero, List.set_cons_succ, i64_w, i32_w]
                                rfl
                              refine pure_ (i := 13) (N := some 73) (v := ?_) (a' := ?_) #[true, true, true, true, true, true, true, true, true, true, true, true, true, true, false] rfl rfl (any_of HT_.out (by kernel_rfl)) (fun _ _ _ h => h) (Or.inl ⟨by rfl, ?_⟩) ?_ ?_
                              rotate_left
                              · intro w'
                                go_simp
                                with_reducible rfl
                              rotate_left
                              · simp only [Act.put, List.setIfInBounds_toArray, List.set_cons_zero, List.set_cons_succ, i64_w, i32_w]
                                rfl
                              refine last_ (i := 14) (N := none) #[true, true, true, true, true, true, true, true, true, true, true, true, true, true, true] rfl rfl (one_of HT_.out (by kernel_rfl)) (by decide) (fun K hK => ?_)
                              have hs49 : w47.cell? ⟨gb117, 3, none⟩ = some (u118003) := (blk_cell BK117.out 3).trans rfl
                              have hfs49 := blk_frozen BK117.out 3
                              refine skip_ (w1 := ?_) (by rfl) rfl ?_ ?_
                              rotate_left
                              · go_simp
                                rfl
                              refine hK.out _ _ ?_
                              clear hK K
                              refine done_ (done_of HT_.out (by kernel_rfl)) ?_
                              have n0_ : Aside0 (Kd.S k37 37 (w47.setCell ⟨gb117, 3, none⟩ (.slice Ao48 y137.length co48)) w.heap.size (fun k_ => some k_ ≠ (.slice Ao48 y137.length co48 : Value).ownBlock ∧ k_ ≠ gb117) u5 x5_1) := ⟨by (with_reducible repeat (first | apply Kd.S_alloc | apply Kd.S_drewN | apply Kd.S_drew)); exact Kd.S_mono (Kd.S_far (p := ⟨gb117, 3, none⟩) (Kd.S_mono HO_5.out (fun k_ hk => (⟨hk, hk.1⟩ : _ ∧ k_ ≠ gb117))) (fun _ hk => hk.2) (.slice Ao48 y137.length co48)) (fun _ hk => ⟨hk.1.2, hk.1.1⟩)⟩
                              have n1_ : Aside0 (Kd.R k56 56 (w47.setCell ⟨gb117, 3, none⟩ (.slice Ao48 y137.length co48)) w.heap.size (fun _ => True) (.slice Ao48 y137.length co48) y137) := ⟨by (with_reducible repeat (first | apply Kd.R_alloc | apply Kd.R_drewN | apply Kd.R_drew)); exact Kd.R_mono (Kd.R_far (p := ⟨gb117, 3, none⟩) (Kd.R_types HO139.out BK117.out (by decide)) (fun _ hk => hk.2) (.slice Ao48 y137.length co48)) (fun _ hk => trivial)⟩
                              have n2_ : Aside0 ((w47.setCell ⟨gb117, 3, none⟩ (.slice Ao48 y137.length co48)).heap[gb117]? = some (.cells #[.int .i64 t114, .int .i64 t115, .int .i64 t116, .slice Ao48 y137.length co48] 37 (0, 0))) := ⟨by (with_reducible repeat (first | refine blk_drewN ?_ _ | refine blk_drew ?_ | refine blk_alloc ?_ _)); refine blk_put (cs := #[.int .i64 t114, .int .i64 t115, .int .i64 t116, u118003]) ?_ 3 _ rfl; (with_reducible repeat (first | refine blk_drewN ?_ _ | refine blk_drew ?_ | refine blk_alloc ?_ _)); exact BK117.out⟩
                              have n3_ : Aside0 (Below w.heap.size w (w47.setCell ⟨gb117, 3, none⟩ (.slice Ao48 y137.length co48))) := ⟨by repeat (first | (with_reducible first | exact HB.out | apply below_alloc | apply pw_below_drewN | apply below_drew1 | refine below_set ?_ GE117.out) | exact HB.out)⟩
                              (try clear HO_5)
                              (try clear HO139)
                              (try clear BK117)
                              (try clear HB)
                              generalize (w47.setCell ⟨gb117, 3, none⟩ (.slice Ao48 y137.length co48)) = w50 at n0_ n1_ n2_ n3_ ⊢
                              have HO_5 := n0_
                              have HO139 := n1_
                              have BK117 := n2_
                              have HB := n3_
                              clear n0_ n1_ n2_ n3_
                              have hcz51_0 : w50.cell? ⟨gb117, 0, none⟩ = some (.int .i64 t114) := (blk_cell BK117.out 0).trans rfl
                              have hcz51_1 : w50.cell? ⟨gb117, 1, none⟩ = some (.int .i64 t115) := (blk_cell BK117.out 1).trans rfl
                              have hcz51_2 : w50.cell? ⟨gb117, 2, none⟩ = some (.int .i64 t116) := (blk_cell BK117.out 2).trans rfl
                              have hcz51_3 : w50.cell? ⟨gb117, 3, none⟩ = some (.slice Ao48 y137.length co48) := (blk_cell BK117.out 3).trans rfl
                              have hfz51_0 := blk_frozen BK117.out 0
                              have hfz51_1 := blk_frozen BK117.out 1
                              have hfz51_2 := blk_frozen BK117.out 2
                              have hfz51_3 := blk_frozen BK117.out 3
                              try go_wp2_with (first | ((with_reducible refine gate_builtin (b := .append) (xs := #[.tmp 79, .tmp 81]) rfl ?_); (try (refine gate_guard (by rfl) ?_; dsimp only)); at_builtin; refine Kd.S_append k37 (w0 := w) w.heap.size rfl (.tmp 79) (.tmp 81) 29 37 (.agg #[(.int .i64 0), (.int .i64 0), (.int .i64 0), (.slice none 0 0)]) 48 rfl Try.underlying29 info37 rfl (by decide) (by omega) u5 x5_1 (⟨(⟨t114, t115, t116⟩ : S34), y137⟩ : S37) [.int .i64 t114, .int .i64 t115, .int .i64 t116, .slice Ao48 y137.length co48] (fun k_ => k_ ≠ gb117) (fun k_ => some k_ = (.slice Ao48 y137.length co48 : Value).ownBlock) rfl rfl ?aP (fun k_ hk_ => ((Kd.R_mono (ok' := fun k_ => ((fun k_ => k_ ≠ gb117)) k_ ∧ some k_ ≠ (u5 : Value).ownBlock) (Kd.R_types (Kd.R_apart' (HO139.out) (Kd.S_typed HO_5.out) (by decide)) BK117.out (by decide)) (fun k_ hk => ⟨hk.2, hk.1.2⟩))).1 k_ hk_.symm) ?aF ?aO ?aB ?aS ?aL ?_; (case aP => exact k37_mkM _ _ _ (⟨(⟨t114, t115, t116⟩ : S34), y137⟩ : S37) (Kd.R_mono (Kd.R_tight rfl (Kd.R_mono (ok' := fun k_ => ((fun k_ => k_ ≠ gb117)) k_ ∧ some k_ ≠ (u5 : Value).ownBlock) (Kd.R_types (Kd.R_apart' (HO139.out) (Kd.S_typed HO_5.out) (by decide)) BK117.out (by decide)) (fun k_ hk => ⟨hk.2, hk.1.2⟩))) (fun _ h_ => h_))); (case aB => exact (by repeat (first | (with_reducible first | exact HB.out | apply below_alloc | apply pw_below_drewN | apply below_drew1 | refine below_set ?_ GE117.out) | exact HB.out))); (case aF => exact (fun k_ hk => Kd.freshB (g := gb117) (o := .cells #[.int .i64 t114, .int .i64 t115, .int .i64 t116, .slice Ao48 y137.length co48] 37 (0, 0)) (by (with_reducible repeat (first | refine blk_drewN ?_ _ | refine blk_drew ?_ | refine blk_alloc ?_ _)); exact BK117.out) k_ hk)); (case aO => exact (by (with_reducible repeat (first | apply Kd.S_alloc | apply Kd.S_drewN | apply Kd.S_drew)); exact Kd.S_mono HO_5.out (fun k_ hk => ⟨hk.2, fun e_ => hk.1 e_⟩))); (case aS => exact (below_size (by repeat (first | (with_reducible first | exact HB.out | apply below_alloc | apply pw_below_drewN | apply below_drew1 | refine below_set ?_ GE117.out) | exact HB.out)))); (case aL => have := LMc43.out; omega); intro v144 w52 ho hb hg hat; rw [← Ny143.out] at ho; have n0_ := Aside0.mk (blk_grown (g := gb117) (o := .cells #[.int .i64 t114, .int .i64 t115, .int .i64 t116, .slice Ao48 y137.length co48] 37 (0, 0)) (by (with_reducible repeat (first | refine blk_drewN ?_ _ | refine blk_drew ?_ | refine blk_alloc ?_ _)); exact BK117.out) hg (Kd.S_away HO_5.out (fun _ hk => hk.2))); have n1_ := Aside0.mk (hb); have n2_ := Aside0.mk (ho); clear BK117; clear HB; clear HO_5; clear HO139; have BK117 := n0_; have HB := n1_; have HO145 := n2_; clear n0_ n1_ n2_; clear ho hb hg hat))
                              go_roundg k3
                              case measure => have := HK1.out; have := HJ2.out; have := HK3.out; omega
                              case rel => exact ⟨(y143), (wrap64 (x6_1 + 2)), (by first | rfl | (simp; done) | (simp [*]; done)), H', ⟨by have := HK1.out; have := HJ2.out; have := HK3.out; omega⟩, ⟨by (with_reducible repeat (first | apply Kd.S_alloc | apply Kd.S_drewN | apply Kd.S_drew)); exact Kd.S_mono HO145.out (fun _ hk => trivial)⟩, ⟨by repeat (first | (with_reducible first | exact HB.out | apply below_alloc | apply pw_below_drewN | apply below_drew1 | refine below_set ?_ GE117.out) | exact HB.out)⟩⟩
                            · rw [if_neg c43] at H
                              exact absurd H (by simp)
                        · rw [if_neg c29] at H
                          exact absurd H (by simp)
                      · rw [if_neg c26] at H
                        have c26b0 : ((Int.tmod t113 61) == 7) = false := beq_eq_false_iff_ne.mpr c26
                        have c26b1 : ((Int.tmod t113 61) != 7) = true := bne_iff_ne.mpr c26
                        by_cases c53 : (Int.tmod t113 67) = 8
                        · rw [if_pos c53] at H
                          have c53b0 : ((Int.tmod t113 67) == 8) = true := beq_iff_eq.mpr c53
                          have c53b1 : ((Int.tmod t113 67) != 8) = false := bne_eq_false_iff_eq.mpr c53
                          clear c53
                          by_cases c54 : x5_1.length < 2932031007402
                          · rw [if_pos c54] at H
                            have LMc54 := Aside0.mk c54
                            clear c54
                            obtain ⟨y146, hy146⟩ : ∃ y_ : List (S37), y_ = (x5_1 ++ [(⟨(⟨t114, 131072, t116⟩ : S34), x118003_3⟩ : S37)]) := ⟨_, rfl⟩
                            replace H : (skymosaicref32_Changes.l0 k3 l0 a1 y146 (wrap64 (x6_1 + 2))) = some r := by first | (rw [hy146]; with_reducible exact H) | (have H2_ := (Option.bind_some _ _).symm.trans H; rw [hy146]; with_reducible exact H2_) | (have H2_ := (Option.bind_some _ _).symm.trans H; with_reducible exact H2_) | with_reducible exact H | (rw [hy146]; exact H) | exact H
                            have Ny146 := Aside0.mk hy146
                            clear hy146
                            have H' := Aside0.mk H
                            clear H
                            have hcz55_0 : wr.cell? ⟨gb117, 0, none⟩ = some (.int .i64 t114) := (blk_cell BK117.out 0).trans rfl
                            have hcz55_1 : wr.cell? ⟨gb117, 1, none⟩ = some (.int .i64 t115) := (blk_cell BK117.out 1).trans rfl
                            have hcz55_2 : wr.cell? ⟨gb117, 2, none⟩ = some (.int .i64 t116) := (blk_cell BK117.out 2).trans rfl
                            have hcz55_3 : wr.cell? ⟨gb117, 3, none⟩ = some (u118003) := (blk_cell BK117.out 3).trans rfl
                            have hfz55_0 := blk_frozen BK117.out 0
                            have hfz55_1 := blk_frozen BK117.out 1
                            have hfz55_2 := blk_frozen BK117.out 2
                            have hfz55_3 := blk_frozen BK117.out 3
                            go_wp2_with (first | ((with_reducible refine gate_store (t := 3) (p := 78) rfl ?_); refine store_event (t := 3) (p := 78) (v := ?vo_w56) (w1 := (wr.setCell ⟨gb117, 1, none⟩ (.int .i64 131072))) ?hg ?ho ?hn ?hr ?_; (case ho => rfl); (case hg => rfl); (case hn => rfl); (case hr => first | (go_simp; done) | (go_simp; rfl)); intro w56 hw; have n0_ : Aside0 (Kd.S k37 37 w56 w.heap.size (fun k_ => some k_ ≠ (u118003 : Value).ownBlock ∧ k_ ≠ gb117) u5 x5_1) := ⟨(by rw [hw]; exact (by (with_reducible repeat (first | apply Kd.S_alloc | apply Kd.S_drewN | apply Kd.S_drew)); exact Kd.S_mono (Kd.S_far (p := ⟨gb117, 1, none⟩) (Kd.S_mono HO_5.out (fun k_ hk => (⟨hk, hk.2⟩ : _ ∧ k_ ≠ gb117))) (fun _ hk => hk.2) (.int .i64 131072)) (fun _ hk => ⟨hk.1.1, hk.1.2⟩)))⟩; have n1_ : Aside0 (Kd.R k56 56 w56 w.heap.size (fun _ => True) u118003 x118003_3) := ⟨(by rw [hw]; exact (by (with_reducible repeat (first | apply Kd.R_alloc | apply Kd.R_drewN | apply Kd.R_drew)); exact Kd.R_mono (Kd.R_far (p := ⟨gb117, 1, none⟩) (Kd.R_types HO_118003.out BK117.out (by decide)) (fun _ hk => hk.2) (.int .i64 131072)) (fun _ hk => trivial)))⟩; have n2_ : Aside0 (w56.heap[gb117]? = some (.cells #[.int .i64 t114, .int .i64 131072, .int .i64 t116, u118003] 37 (0, 0))) := ⟨(by rw [hw]; exact (by (with_reducible repeat (first | refine blk_drewN ?_ _ | refine blk_drew ?_ | refine blk_alloc ?_ _)); refine blk_put (cs := #[.int .i64 t114, .int .i64 t115, .int .i64 t116, u118003]) ?_ 1 _ rfl; (with_reducible repeat (first | refine blk_drewN ?_ _ | refine blk_drew ?_ | refine blk_alloc ?_ _)); exact BK117.out))⟩; have n3_ : Aside0 (Below w.heap.size w w56) := ⟨(by rw [hw]; exact (by repeat (first | (with_reducible first | exact HB.out | apply below_alloc | apply pw_below_drewN | apply below_drew1 | refine below_set ?_ GE117.out) | exact HB.out)))⟩; clear hw; clear HO_5; clear HO_118003; clear BK117; clear HB; have HO_5 := n0_; have HO_118003 := n1_; have BK117 := n2_; have HB := n3_; clear n0_ n1_ n2_ n3_; have hcz57_0 : w56.cell? ⟨gb117, 0, none⟩ = some (.int .i64 t114) := (blk_cell BK117.out 0).trans rfl; have hcz57_1 : w56.cell? ⟨gb117, 1, none⟩ = some (.int .i64 131072) := (blk_cell BK117.out 1).trans rfl; have hcz57_2 : w56.cell? ⟨gb117, 2, none⟩ = some (.int .i64 t116) := (blk_cell BK117.out 2).trans rfl; have hcz57_3 : w56.cell? ⟨gb117, 3, none⟩ = some (u118003) := (blk_cell BK117.out 3).trans rfl; have hfz57_0 := blk_frozen BK117.out 0; have hfz57_1 := blk_frozen BK117.out 1; have hfz57_2 := blk_frozen BK117.out 2; have hfz57_3 := blk_frozen BK117.out 3; obtain ⟨Ao59, co59, eo59⟩ := Kd.R_slice HO_118003.out; subst eo59) | ((with_reducible refine gate_builtin (b := .append) (xs := #[.tmp 79, .tmp 81]) rfl ?_); (try (refine gate_guard (by rfl) ?_; dsimp only)); at_builtin; refine Kd.S_append k37 (w0 := w) w.heap.size rfl (.tmp 79) (.tmp 81) 29 37 (.agg #[(.int .i64 0), (.int .i64 0), (.int .i64 0), (.slice none 0 0)]) 48 rfl Try.underlying29 info37 rfl (by decide) (by omega) u5 x5_1 (⟨(⟨t114, 131072, t116⟩ : S34), x118003_3⟩ : S37) [.int .i64 t114, .int .i64 131072, .int .i64 t116, .slice Ao59 x118003_3.length co59] (fun k_ => k_ ≠ gb117) (fun k_ => some k_ = (.slice Ao59 x118003_3.length co59 : Value).ownBlock) rfl rfl ?aP (fun k_ hk_ => ((Kd.R_mono (ok' := fun k_ => ((fun k_ => k_ ≠ gb117)) k_ ∧ some k_ ≠ (u5 : Value).ownBlock) (Kd.R_types (Kd.R_apart' (HO_118003.out) (Kd.S_typed HO_5.out) (by decide)) BK117.out (by decide)) (fun k_ hk => ⟨hk.2, hk.1.2⟩))).1 k_ hk_.symm) ?aF ?aO ?aB ?aS ?aL ?_; (case aP => exact k37_mkM _ _ _ (⟨(⟨t114, 131072, t116⟩ : S34), x118003_3⟩ : S37) (Kd.R_mono (Kd.R_tight rfl (Kd.R_mono (ok' := fun k_ => ((fun k_ => k_ ≠ gb117)) k_ ∧ some k_ ≠ (u5 : Value).ownBlock) (Kd.R_types (Kd.R_apart' (HO_118003.out) (Kd.S_typed HO_5.out) (by decide)) BK117.out (by decide)) (fun k_ hk => ⟨hk.2, hk.1.2⟩))) (fun _ h_ => h_))); (case aB => exact (by repeat (first | (with_reducible first | exact HB.out | apply below_alloc | apply pw_below_drewN | apply below_drew1 | refine below_set ?_ GE117.out) | exact HB.out))); (case aF => exact (fun k_ hk => Kd.freshB (g := gb117) (o := .cells #[.int .i64 t114, .int .i64 131072, .int .i64 t116, .slice Ao59 x118003_3.length co59] 37 (0, 0)) (by (with_reducible repeat (first | refine blk_drewN ?_ _ | refine blk_drew ?_ | refine blk_alloc ?_ _)); exact BK117.out) k_ hk)); (case aO => exact (by (with_reducible repeat (first | apply Kd.S_alloc | apply Kd.S_drewN | apply Kd.S_drew)); exact Kd.S_mono HO_5.out (fun k_ hk => ⟨hk.2, fun e_ => hk.1 e_⟩))); (case aS => exact (below_size (by repeat (first | (with_reducible first | exact HB.out | apply below_alloc | apply pw_below_drewN | apply below_drew1 | refine below_set ?_ GE117.out) | exact HB.out)))); (case aL => have := LMc54.out; omega); intro v147 w58 ho hb hg hat; rw [← Ny146.out] at ho; have n0_ := Aside0.mk (blk_grown (g := gb117) (o := .cells #[.int .i64 t114, .int .i64 131072, .int .i64 t116, .slice Ao59 x118003_3.length co59] 37 (0, 0)) (by (with_reducible repeat (first | refine blk_drewN ?_ _ | refine blk_drew ?_ | refine blk_alloc ?_ _)); exact BK117.out) hg (Kd.S_away HO_5.out (fun _ hk => hk.2))); have n1_ := Aside0.mk (hb); have n2_ := Aside0.mk (ho); clear BK117; clear HB; clear HO_5; clear HO_118003; have BK117 := n0_; have HB := n1_; have HO148 := n2_; clear n0_ n1_ n2_; clear ho hb hg hat))
                            go_roundg k3
                            case measure => have := HK1.out; have := HJ2.out; have := HK3.out; omega
                            case rel => exact ⟨(y146), (wrap64 (x6_1 + 2)), (by first | rfl | (simp; done) | (simp [*]; done)), H', ⟨by have := HK1.out; have := HJ2.out; have := HK3.out; omega⟩, ⟨by (with_reducible repeat (first | apply Kd.S_alloc | apply Kd.S_drewN | apply Kd.S_drew)); exact Kd.S_mono HO148.out (fun _ hk => trivial)⟩, ⟨by repeat (first | (with_reducible first | exact HB.out | apply below_alloc | apply pw_below_drewN | apply below_drew1 | refine below_set ?_ GE117.out) | exact HB.out)⟩⟩
                          · rw [if_neg c54] at H
                            exact absurd H (by simp)
                        · rw [if_neg c53] at H
                          have c53b0 : ((Int.tmod t113 67) == 8) = false := beq_eq_false_iff_ne.mpr c53
                          have c53b1 : ((Int.tmod t113 67) != 8) = true := bne_iff_ne.mpr c53
                          by_cases c60 : x5_1.length < 2932031007402
                          · rw [if_pos c60] at H
                            have LMc60 := Aside0.mk c60
                            clear c60
                            obtain ⟨y149, hy149⟩ : ∃ y_ : List (S37), y_ = (x5_1 ++ [(⟨(⟨t114, t115, t116⟩ : S34), x118003_3⟩ : S37)]) := ⟨_, rfl⟩
                            replace H : (skymosaicref32_Changes.l0 k3 l0 a1 y149 (wrap64 (x6_1 + 2))) = some r := by first | (rw [hy149]; with_reducible exact H) | (have H2_ := (Option.bind_some _ _).symm.trans H; rw [hy149]; with_reducible exact H2_) | (have H2_ := (Option.bind_some _ _).symm.trans H; with_reducible exact H2_) | with_reducible exact H | (rw [hy149]; exact H) | exact H
                            have Ny149 := Aside0.mk hy149
                            clear hy149
                            have H' := Aside0.mk H
                            clear H
                            have hcz61_0 : wr.cell? ⟨gb117, 0, none⟩ = some (.int .i64 t114) := (blk_cell BK117.out 0).trans rfl
                            have hcz61_1 : wr.cell? ⟨gb117, 1, none⟩ = some (.int .i64 t115) := (blk_cell BK117.out 1).trans rfl
                            have hcz61_2 : wr.cell? ⟨gb117, 2, none⟩ = some (.int .i64 t116) := (blk_cell BK117.out 2).trans rfl
                            have hcz61_3 : wr.cell? ⟨gb117, 3, none⟩ = some (u118003) := (blk_cell BK117.out 3).trans rfl
                            have hfz61_0 := blk_frozen BK117.out 0
                            have hfz61_1 := blk_frozen BK117.out 1
                            have hfz61_2 := blk_frozen BK117.out 2
                            have hfz61_3 := blk_frozen BK117.out 3
                            obtain ⟨Ao63, co63, eo63⟩ := Kd.R_slice HO_118003.out
                            subst eo63
                            go_wp2_with (first | ((with_reducible refine gate_builtin (b := .append) (xs := #[.tmp 79, .tmp 81]) rfl ?_); (try (refine gate_guard (by rfl) ?_; dsimp only)); at_builtin; refine Kd.S_append k37 (w0 := w) w.heap.size rfl (.tmp 79) (.tmp 81) 29 37 (.agg #[(.int .i64 0), (.int .i64 0), (.int .i64 0), (.slice none 0 0)]) 48 rfl Try.underlying29 info37 rfl (by decide) (by omega) u5 x5_1 (⟨(⟨t114, t115, t116⟩ : S34), x118003_3⟩ : S37) [.int .i64 t114, .int .i64 t115, .int .i64 t116, .slice Ao63 x118003_3.length co63] (fun k_ => k_ ≠ gb117) (fun k_ => some k_ = (.slice Ao63 x118003_3.length co63 : Value).ownBlock) rfl rfl ?aP (fun k_ hk_ => ((Kd.R_mono (ok' := fun k_ => ((fun k_ => k_ ≠ gb117)) k_ ∧ some k_ ≠ (u5 : Value).ownBlock) (Kd.R_types (Kd.R_apart' (HO_118003.out) (Kd.S_typed HO_5.out) (by decide)) BK117.out (by decide)) (fun k_ hk => ⟨hk.2, hk.1.2⟩))).1 k_ hk_.symm) ?aF ?aO ?aB ?aS ?aL ?_; (case aP => exact k37_mkM _ _ _ (⟨(⟨t114, t115, t116⟩ : S34), x118003_3⟩ : S37) (Kd.R_mono (Kd.R_tight rfl (Kd.R_mono (ok' := fun k_ => ((fun k_ => k_ ≠ gb117)) k_ ∧ some k_ ≠ (u5 : Value).ownBlock) (Kd.R_types (Kd.R_apart' (HO_118003.out) (Kd.S_typed HO_5.out) (by decide)) BK117.out (by decide)) (fun k_ hk => ⟨hk.2, hk.1.2⟩))) (fun _ h_ => h_))); (case aB => exact (by repeat (first | (with_reducible first | exact HB.out | apply below_alloc | apply pw_below_drewN | apply below_drew1 | refine below_set ?_ GE117.out) | exact HB.out))); (case aF => exact (fun k_ hk => Kd.freshB (g := gb117) (o := .cells #[.int .i64 t114, .int .i64 t115, .int .i64 t116, .slice Ao63 x118003_3.length co63] 37 (0, 0)) (by (with_reducible repeat (first | refine blk_drewN ?_ _ | refine blk_drew ?_ | refine blk_alloc ?_ _)); exact BK117.out) k_ hk)); (case aO => exact (by (with_reducible repeat (first | apply Kd.S_alloc | apply Kd.S_drewN | apply Kd.S_drew)); exact Kd.S_mono HO_5.out (fun k_ hk => ⟨hk.2, fun e_ => hk.1 e_⟩))); (case aS => exact (below_size (by repeat (first | (with_reducible first | exact HB.out | apply below_alloc | apply pw_below_drewN | apply below_drew1 | refine below_set ?_ GE117.out) | exact HB.out)))); (case aL => have := LMc60.out; omega); intro v150 w62 ho hb hg hat; rw [← Ny149.out] at ho; have n0_ := Aside0.mk (blk_grown (g := gb117) (o := .cells #[.int .i64 t114, .int .i64 t115, .int .i64 t116, .slice Ao63 x118003_3.length co63] 37 (0, 0)) (by (with_reducible repeat (first | refine blk_drewN ?_ _ | refine blk_drew ?_ | refine blk_alloc ?_ _)); exact BK117.out) hg (Kd.S_away HO_5.out (fun _ hk => hk.2))); have n1_ := Aside0.mk (hb); have n2_ := Aside0.mk (ho); clear BK117; clear HB; clear HO_5; clear HO_118003; have BK117 := n0_; have HB := n1_; have HO151 := n2_; clear n0_ n1_ n2_; clear ho hb hg hat))
                            go_roundg k3
                            case measure => have := HK1.out; have := HJ2.out; have := HK3.out; omega
                            case rel => exact ⟨(y149), (wrap64 (x6_1 + 2)), (by first | rfl | (simp; done) | (simp [*]; done)), H', ⟨by have := HK1.out; have := HJ2.out; have := HK3.out; omega⟩, ⟨by (with_reducible repeat (first | apply Kd.S_alloc | apply Kd.S_drewN | apply Kd.S_drew)); exact Kd.S_mono HO151.out (fun _ hk => trivial)⟩, ⟨by repeat (first | (with_reducible first | exact HB.out | apply below_alloc | apply pw_below_drewN | apply below_drew1 | refine below_set ?_ GE117.out) | exact HB.out)⟩⟩
                          · rw [if_neg c60] at H
                            exact absurd H (by simp)
              · rw [if_neg c8] at H
                exact absurd H (by simp)
            · rw [if_neg c7] at H
              exact absurd H (by simp)
          · replace c6 := Bool.eq_false_iff.mpr c6
            subst c6
            have H1 : (some x5_1) = some r := by rw [if_neg (show ¬ (false = true) by decide)] at H; exact H
            clear H
            have H := H1
            clear H1
            obtain rfl := Option.some.inj H
            go_wp2
            go_ret
            exact ⟨_, by first | rfl | (simp [errW_none, errW_some] <;> rfl) | (simp [*, errW_none, errW_some] <;> rfl), by (with_reducible repeat (first | apply Kd.S_alloc | apply Kd.S_drewN | apply Kd.S_drew)); exact HO_5.out, by repeat (first | (with_reducible first | exact HB.out | apply below_alloc | apply pw_below_drewN | apply below_drew1) | exact HB.out)⟩
end Go.Proofs.Ytokambhemoeloaa.PA
end
section
namespace Go.Proofs.Ytokambhemoeloaa.G
open Go.RowKit Go.Proofs.YtokambhemoeloaaW.PrintWords Go.Proofs.YtokambhemoeloaaW.PrintLast Go.Proofs.YtokambhemoeloaaW.PrintMore Go.Proofs.Ytokambhemoeloaa.PA
set_option linter.unusedVariables false
set_option linter.unusedSimpArgs false
theorem tmod_bd (a m : Int) (hm : 0 < m) : -m < Int.tmod a m ∧ Int.tmod a m < m := by
  have h1 := Int.tmod_lt_of_pos a hm
  refine ⟨?_, h1⟩
  have h2 := Int.tmod_lt_of_pos (-a) hm
  rw [Int.neg_tmod] at h2
  omega
theorem around_some (a m : Int) (hm : 0 < m) : ∃ t, skymosaicref01_Around.f a m = some t ∧ -m < t ∧ t < m := by
  unfold skymosaicref01_Around.f
  by_cases h : a < 0
  · rw [if_pos h, if_neg (by omega)]; exact ⟨_, rfl, tmod_bd _ m hm⟩
  · rw [if_neg h, if_neg (by omega)]; exact ⟨_, rfl, tmod_bd _ m hm⟩
theorem key_some (n : Int) : ∃ k : S34, skymosaicref32_Key.f n = some (k.f0, k.f1, k.f2) := by
  unfold skymosaicref32_Key.f
  obtain ⟨t, ht, _⟩ := around_some n 40 (by omega)
  rw [ht]
  exact ⟨⟨_, _, _⟩, rfl⟩
theorem of_some (a b c n : Int) : ∃ d : S56, skymosaicref32_Of.f a b c n = some (d.f0, d.f1, d.f2.f0, d.f2.f1, d.f2.f2) := by
  unfold skymosaicref32_Of.f
  obtain ⟨t, ht, _⟩ := around_some n 1000000 (by omega)
  obtain ⟨k, hk⟩ := key_some (wrap64 (Int.tdiv t 150))
  rw [ht, Option.bind_some, hk]
  simp only [Option.bind_some]
  repeat' split
  all_goals exact ⟨⟨_, _, ⟨_, _, _⟩⟩, rfl⟩
theorem spoilt_some (a b c d e p q : Int) : ∃ x : S56, skymosaicref32_Spoilt.f a b c d e p q = some (x.f0, x.f1, x.f2.f0, x.f2.f1, x.f2.f2) := by
  unfold skymosaicref32_Spoilt.f
  obtain ⟨t, ht, _⟩ := around_some p 5 (by omega)
  rw [ht]
  simp only [Option.bind_some]
  repeat' split
  all_goals exact ⟨⟨_, _, ⟨_, _, _⟩⟩, rfl⟩
def EvS {α : Type} (f : Nat → Option α) (P : α → Prop) : Prop := ∃ K r, (∀ k, K ≤ k → f k = some r) ∧ P r
theorem EvS.step {α : Type} {f g : Nat → Option α} {P : α → Prop} (h : EvS g P) (hs : ∀ k, f (k + 1) = g k) : EvS f P := by
  obtain ⟨K, r, h1, h2⟩ := h
  refine ⟨K + 1, r, fun k hk => ?_, h2⟩
  obtain ⟨k, rfl⟩ : ∃ j, k = j + 1 := ⟨k - 1, by omega⟩
  rw [hs]; exact h1 k (by omega)
theorem EvS.now {α : Type} {f : Nat → Option α} {P : α → Prop} {r : α} (hs : ∀ k, f (k + 1) = some r) (h : P r) : EvS f P :=
  ⟨1, r, fun k hk => by obtain ⟨k, rfl⟩ : ∃ j, k = j + 1 := ⟨k - 1, by omega⟩; exact hs k, h⟩
theorem changes_l1 (P : List S37 → Prop) (x0 : List Int) (x1 : Int) (x5 : List S37) (x6 x7 a b c : Int) (h6 : 0 ≤ wrap64 (x6 + 1)) (h6' : wrap64 (x6 + 1) < (x0.length : Int)) (h5 : x5.length < 2932031007402)
    (hc : ∀ ch : S37, ch.f1.length ≤ 5 → EvS (fun k => skymosaicref32_Changes.l0 k x0 x1 (x5 ++ [ch]) (wrap64 (x6 + 2))) P) :
    ∀ (m j : Nat) (D : List S56), j + m = 4 → D.length = j → EvS (fun k => skymosaicref32_Changes.l1 k x0 x1 x5 x6 x7 j a b c D) P := by
  have hend : ∀ (j : Nat) (D : List S56), D.length ≤ 4 → ¬ (j : Int) < (Int.tmod (wrap64 (Int.tdiv x7 40)) 5) → EvS (fun k => skymosaicref32_Changes.l1 k x0 x1 x5 x6 x7 j a b c D) P := by
    intro j D hD hj
    by_cases h61 : Int.tmod x7 61 = 7
    · obtain ⟨d, hd⟩ := of_some a b c x7
      obtain ⟨y, hy⟩ := spoilt_some d.f0 d.f1 d.f2.f0 d.f2.f1 d.f2.f2 (wrap64 (Int.tdiv x7 61)) (Int.tmod x7 9000)
      by_cases h67 : Int.tmod x7 67 = 8
      · refine (hc ⟨⟨a, 131072, c⟩, D ++ [⟨y.f0, y.f1, ⟨y.f2.f0, y.f2.f1, y.f2.f2⟩⟩]⟩ (by simp; omega)).step (fun k => ?_)
        rw [skymosaicref32_Changes.l1, if_neg hj, if_pos h61, hd]
        simp only [Option.bind_some]
        rw [hy]
        simp only [Option.bind_some]
        rw [if_pos (by omega), if_pos h67, if_pos h5]
      · refine (hc ⟨⟨a, b, c⟩, D ++ [⟨y.f0, y.f1, ⟨y.f2.f0, y.f2.f1, y.f2.f2⟩⟩]⟩ (by simp; omega)).step (fun k => ?_)
        rw [skymosaicref32_Changes.l1, if_neg hj, if_pos h61, hd]
        simp only [Option.bind_some]
        rw [hy]
        simp only [Option.bind_some]
        rw [if_pos (by omega), if_neg h67, if_pos h5]
    · by_cases h67 : Int.tmod x7 67 = 8
      · refine (hc ⟨⟨a, 131072, c⟩, D⟩ (by simp; omega)).step (fun k => ?_)
        rw [skymosaicref32_Changes.l1, if_neg hj, if_neg h61, if_pos h67, if_pos h5]
      · refine (hc ⟨⟨a, b, c⟩, D⟩ (by simp; omega)).step (fun k => ?_)
        rw [skymosaicref32_Changes.l1, if_neg hj, if_neg h61, if_neg h67, if_pos h5]
  have hbd := (tmod_bd (wrap64 (Int.tdiv x7 40)) 5 (by omega)).2
  intro m
  induction m with
  | zero => intro j D hj hD; exact hend j D (by omega) (by omega)
  | succ m ih =>
    intro j D hj hD
    by_cases hlt : (j : Int) < (Int.tmod (wrap64 (Int.tdiv x7 40)) 5)
    · have hw : wrap64 ((j : Int) + 1) = ((j + 1 : Nat) : Int) := by unfold wrap64; omega
      obtain ⟨d, hd⟩ := of_some a b c (wrap64 ((wrap64 (Int.tdiv (rd x0 (wrap64 (x6 + 1))) ((j + 1 : Nat) : Int))) + (wrap64 (7 * (j : Int)))))
      refine (ih (j + 1) (D ++ [⟨d.f0, d.f1, ⟨d.f2.f0, d.f2.f1, d.f2.f2⟩⟩]) (by omega) (by simp; omega)).step (fun k => ?_)
      rw [skymosaicref32_Changes.l1, if_pos hlt, if_pos h6, if_pos h6', hw, if_neg (by omega), hd]
      simp only [Option.bind_some]
      rw [if_pos (by omega)]
    · exact hend j D (by omega) hlt
def smallCh (n : Nat) (r : List S37) : Prop := r.length ≤ n ∧ ∀ ch ∈ r, ch.f1.length ≤ 5
theorem changes_l0 (x0 : List Int) (hx0 : x0.length < 1000000000000000) (most : Nat) (hm : most < 1000000) : ∀ (m i : Nat) (x5 : List S37), x0.length ≤ 2 * i + m → smallCh most x5 → 2 * i ≤ x0.length + 1 → EvS (fun k => skymosaicref32_Changes.l0 k x0 most x5 ((2 * i : Nat) : Int)) (smallCh most) := by
  have hend : ∀ (i : Nat) (x5 : List S37), smallCh most x5 → ¬ (wrap64 (((2 * i : Nat) : Int) + 1) < (x0.length : Int) ∧ (x5.length : Int) < most) → EvS (fun k => skymosaicref32_Changes.l0 k x0 most x5 ((2 * i : Nat) : Int)) (smallCh most) := by
    intro i x5 h5 hn
    refine EvS.step (g := fun k => skymosaicref32_Changes.j1 k x0 most x5 ((2 * i : Nat) : Int) false) (EvS.now (r := x5) (fun k => ?_) h5) (fun k => ?_)
    · rw [skymosaicref32_Changes.j1, if_neg (by simp)]
    · rw [skymosaicref32_Changes.l0]
      by_cases h1 : wrap64 (((2 * i : Nat) : Int) + 1) < (x0.length : Int)
      · rw [if_pos h1]
        have : ¬ (x5.length : Int) < most := fun h => hn ⟨h1, h⟩
        simp [this]
      · rw [if_neg h1]
  intro m
  induction m using Nat.strongRecOn with
  | _ m ih =>
    intro i x5 hi h5 hi2
    have hw : wrap64 (((2 * i : Nat) : Int) + 1) = ((2 * i + 1 : Nat) : Int) := by unfold wrap64; omega
    have hw2 : wrap64 (((2 * i : Nat) : Int) + 2) = ((2 * (i + 1) : Nat) : Int) := by unfold wrap64; omega
    by_cases hlt : wrap64 (((2 * i : Nat) : Int) + 1) < (x0.length : Int) ∧ (x5.length : Int) < most
    · obtain ⟨h1, h2⟩ := hlt
      have h1' := h1
      rw [hw] at h1'
      obtain ⟨t, ht, _⟩ := around_some (rd x0 ((2 * i : Nat) : Int)) 1000000 (by omega)
      obtain ⟨kk, hkk⟩ := key_some t
      have := changes_l1 (smallCh most) x0 most x5 ((2 * i : Nat) : Int) t kk.f0 kk.f1 kk.f2 (by omega) h1 (by have := h5.1; omega) (fun ch hch => by
        rw [hw2]
        refine ih (m - 2) (by omega) (i + 1) (x5 ++ [ch]) (by omega) ⟨by simp; omega, fun c hc => ?_⟩ (by omega)
        rcases List.mem_append.1 hc with hc | hc
        · exact h5.2 c hc
        · simp at hc; subst hc; exact hch) 4 0 [] (by omega) rfl
      refine EvS.step (g := fun k => skymosaicref32_Changes.j1 k x0 most x5 ((2 * i : Nat) : Int) true) (this.step (fun k => ?_)) (fun k => ?_)
      · rw [skymosaicref32_Changes.j1, if_pos rfl, if_pos (by omega), if_pos (by omega), ht]
        simp only [Option.bind_some]
        rw [hkk]
        rfl
      · rw [skymosaicref32_Changes.l0, if_pos h1]
        simp [h2]
    · exact hend i x5 h5 hlt
theorem changes_some (l : List Int) (hl : l.length < 1000000000000000) (most : Nat) (hm : most < 1000000) : ∃ k r, skymosaicref32_Changes.f k l most = some r ∧ smallCh most r := by
  obtain ⟨K, r, h1, h2⟩ := changes_l0 l hl most hm l.length 0 [] (by omega) ⟨by simp, by simp⟩ (by omega)
  exact ⟨K, r, h1 K (Nat.le_refl _), h2⟩
end Go.Proofs.Ytokambhemoeloaa.G
end
section
namespace Go.Proofs.Ytokambhemoeloaa.G
open Go.RowKit Go.Proofs.YtokambhemoeloaaW.PrintWords Go.Proofs.YtokambhemoeloaaW.PrintLast Go.Proofs.YtokambhemoeloaaW.PrintMore Go.Proofs.Ytokambhemoeloaa.PA
open Go.Proofs.Ytokambhemoeloaa.Mp Go.Proofs.Ytokambhemoeloaa.Reg
set_option linter.unusedVariables false
set_option linter.unusedSimpArgs false
def filGo (chs : List S37) (G : GL) : GL := chs.foldl (fun G c => setG c.f0 (c.f1.map toD) G) G
def filRo (chs : List S37) (L : RL) : RL := chs.foldl (fun L c => refSetL c.f0 c.f1 L) L
def filG (chs : List S37) : GL := filGo chs []
def filR (chs : List S37) : RL := filRo chs []
theorem fil_rel : ∀ (chs : List S37) (G : GL) (L : RL), Rel G L → Rel (filGo chs G) (filRo chs L)
  | [], G, L, h => h
  | c :: chs, G, L, h => fil_rel chs _ _ (h.set c.f0 c.f1)
theorem fil_len : ∀ (chs : List S37) (G : GL), (filGo chs G).length ≤ G.length + chs.length
  | [], G => by simp [filGo]
  | c :: chs, G => by
    have h1 := fil_len chs (setG c.f0 (c.f1.map toD) G)
    have h2 := setG_length c.f0 (c.f1.map toD) G
    simp only [filGo, List.foldl_cons, List.length_cons] at h1 ⊢
    omega
theorem fil_snoc (chs : List S37) (j : Nat) (hj : j < chs.length) : filG (chs.take (j + 1)) = setG chs[j].f0 (chs[j].f1.map toD) (filG (chs.take j)) := by
  unfold filG filGo
  rw [List.take_succ_eq_append_getElem hj, List.foldl_append]; rfl
theorem fil_snocR (chs : List S37) (j : Nat) (hj : j < chs.length) : filR (chs.take (j + 1)) = refSetL chs[j].f0 chs[j].f1 (filR (chs.take j)) := by
  unfold filR filRo
  rw [List.take_succ_eq_append_getElem hj, List.foldl_append]; rfl
theorem Rel.ok {G : GL} {L : RL} (h : Rel G L) (hf : G.length < 100000) : GOk G := ⟨h.nodup, h.small, hf⟩
theorem rd37 {l : List S37} {k : Nat} (hk : k < l.length) : rd_T37 l k = l[k] := by simp [rd_T37, hk]
set_option maxHeartbeats 8000000 in
set_option maxRecDepth 100000 in
theorem filled_calls (w : World) (A : Option Addr) (c : Nat) (chs : List S37) (hC : Kd.C k37 w A chs.length chs) (hs : ∀ ch ∈ chs, ch.f1.length ≤ 5) (hl : chs.length < 1000000) :
    Calls Try.prog 21 #[.slice A chs.length c] w fun e w' => e = .returned (.pointer (some ⟨w.heap.size + 1, 0, none⟩)) ∧ GAt w' (w.heap.size + 1) w.heap.size (filG chs) ∧ Below w.heap.size w w' := by
  go_enter Try.func21, Try.ntmps21
  go_wp2_with fail
  refine (New_calls _).mono ?_
  rintro e w1 ⟨rfl, hw1⟩
  have hG1 := GAt.made w
  rw [← hw1] at hG1
  have hB1 : Below w.heap.size w w1 := by rw [hw1]; exact (by repeat (first | exact Below.refl _ _ | assumption | with_reducible apply below_alloc | with_reducible apply pw_below_drewN | with_reducible apply below_drew))
  clear hw1
  go_wp2
  go_loopg [4] chs.length (fun g s4 wr => ∃ i : Nat, s4 = .int .i64 i ∧ i ≤ chs.length ∧ chs.length - i ≤ g ∧ GAt wr (w.heap.size + 1) w.heap.size (filG (chs.take i)) ∧ Below w.heap.size w wr)
  case atStart => exact ⟨0, rfl, Nat.zero_le _, by omega, hG1, hB1⟩
  case round =>
    clear hG1 hB1
    obtain ⟨i, rfl, hi, hg, hG, hB⟩ := hrel
    have hlt' := hG.lt
    by_cases hil : i < chs.length
    · obtain ⟨ad, A3, c3, rfl, c0, c1, c2, c4, hc3, hC3⟩ := at_T37 (Kd.C_below hC hB) i (by omega) (by omega)
      simp only [Int.toNat_natCast] at c0 c1 c2 c4 hc3 hC3
      rw [rd37 hil] at c0 c1 c2 c4 hc3 hC3
      have hsn := Lib.hid (fil_snoc chs i hil)
      have h5 := hs _ (List.getElem_mem hil)
      generalize chs[i] = ch at *
      have hli : (i : Int) < (chs.length : Int) := by omega
      have hGh := Lib.hid hG
      have hreal := real_calls A3 c3 ch.f1 _ (Kd.C_drew hC3) hc3 (by omega)
      clear hG
      go_wp2_with fail
      go_region_with (first | (go_at_call 10; refine hreal.mono ?_; rintro e w5 ⟨v5, rfl, hR5, hB5⟩; have hB5 : Below wr.heap.size wr w5 := below_then (below_drew (Below.refl wr.heap.size wr)) (Nat.le_refl _) hB5; have e0 := pw_cell_below hB5 c0; have e1 := pw_cell_below hB5 c1; have e2 := pw_cell_below hB5 c2; have hcs := Set_calls w5 _ _ _ ch.f0 v5 (ch.f1.map toD) (hGh.out.below hB5) (by omega) (Row.of_R hR5); unfold encK at hcs; clear hR5) | (go_at_call 9; refine hcs.mono ?_; rintro e w6 ⟨rfl, hg6, hG6⟩))
      all_goals
        have hBz : Below w.heap.size w w6 := (below_then hB hB.size hB5).grown hg6 (below_then hB hB.size hB5).size (fun q hq => by injection hq with hq; omega)
        clear hcs e0 e1 e2 c0 c1 c2 c4
        go_wp2
        go_roundg (chs.length - (i + 1))
        case measure => omega
        case rel => exact ⟨i + 1, by go_num, by omega, Nat.le_refl _, by rw [hsn.out]; exact hG6, hBz⟩
    · have hil2 : i = chs.length := by omega
      subst hil2
      rw [List.take_length] at hG
      have hz := Lib.hid hG
      clear hG
      go_wp2
      go_ret
      exact ⟨rfl, hz.out, hB⟩
theorem RefAt.made (w : World) : RefAt (w.alloc (.cells #[.slice none 0 0] 28)) w.heap.size [] :=
  ⟨none, 0, [], blk_new _ _, Nat.le_refl _, rfl, fun W' _ => ⟨Kd.C_nil _ _, fun j x cs h _ => by simp at h⟩⟩
theorem filR_len : ∀ (chs : List S37) (L : RL), (filRo chs L).length ≤ L.length + chs.length
  | [], L => by simp [filRo]
  | c :: chs, L => by
    have h1 := filR_len chs (refSetL c.f0 c.f1 L)
    have h2 := refSetL_length c.f0 c.f1 L
    simp only [filRo, List.foldl_cons, List.length_cons] at h1 ⊢
    omega
set_option maxHeartbeats 8000000 in
set_option maxRecDepth 100000 in
theorem Filled_calls (w : World) (A : Option Addr) (c : Nat) (chs : List S37) (hC : Kd.C k37 w A chs.length chs) (hl : chs.length < 100000) :
    Calls Try.prog 22 #[.slice A chs.length c] w fun e w' => e = .returned (.pointer (some ⟨w.heap.size, 0, none⟩)) ∧ RefAt w' w.heap.size (filR chs) ∧ Below w.heap.size w w' := by
  go_enter Try.func22, Try.ntmps22
  go_wp2
  obtain ⟨w1, hw1⟩ : ∃ w1, w1 = w.alloc (.cells #[.slice none 0 0] 28) := ⟨_, rfl⟩
  have hG1 := RefAt.made w
  rw [← hw1] at hG1 ⊢
  have hB1 : Below w.heap.size w w1 := by rw [hw1]; exact (by repeat (first | exact Below.refl _ _ | assumption | with_reducible apply below_alloc | with_reducible apply pw_below_drewN | with_reducible apply below_drew))
  clear hw1
  go_loopg [4] chs.length (fun g s4 wr => ∃ i : Nat, s4 = .int .i64 i ∧ i ≤ chs.length ∧ chs.length - i ≤ g ∧ RefAt wr w.heap.size (filR (chs.take i)) ∧ Below w.heap.size w wr)
  case atStart => exact ⟨0, rfl, Nat.zero_le _, by omega, hG1, hB1⟩
  case round =>
    clear hG1 hB1
    obtain ⟨i, rfl, hi, hg, hG, hB⟩ := hrel
    by_cases hil : i < chs.length
    · obtain ⟨ad, A3, c3, rfl, c0, c1, c2, c4, hc3, hC3⟩ := at_T37 (Kd.C_below hC hB) i (by omega) (by omega)
      simp only [Int.toNat_natCast] at c0 c1 c2 c4 hc3 hC3
      rw [rd37 hil] at c0 c1 c2 c4 hc3 hC3
      have hsn := Lib.hid (fil_snocR chs i hil)
      generalize chs[i] = ch at *
      have hli : (i : Int) < (chs.length : Int) := by omega
      have hfl := filR_len (chs.take i) []
      have hcs := refSet_calls wr.drew w.heap.size (filR (chs.take i)) ch.f0 _ ch.f1 (hG.below (below_drew (Below.refl _ _))) ⟨A3, c3, rfl, hc3, Kd.C_drew hC3⟩ (by simp only [List.length_take, List.length_nil] at hfl; unfold filR; omega)
      unfold encK at hcs
      clear hG hfl hC3
      go_wp2_with fail
      go_region_with (go_at_call 11; refine hcs.mono ?_; rintro e w6 ⟨rfl, hg6, hG6⟩)
      all_goals
        have hBa : Below w.heap.size w wr.drew := below_drew hB
        have hBz : Below w.heap.size w w6 := hBa.grown hg6 hBa.size (fun q hq => by injection hq with hq; omega)
        clear hcs c0 c1 c2 c4
        go_wp2
        go_roundg (chs.length - (i + 1))
        case measure => omega
        case rel => exact ⟨i + 1, by go_num, by omega, Nat.le_refl _, by rw [hsn.out]; exact hG6, hBz⟩
    · have hil2 : i = chs.length := by omega
      subst hil2
      rw [List.take_length] at hG
      have hz := Lib.hid hG
      clear hG
      go_wp2
      go_ret
      exact ⟨rfl, hz.out, hB⟩
end Go.Proofs.Ytokambhemoeloaa.G
end
section
namespace Go.Proofs.Ytokambhemoeloaa.G
open Go.RowKit Go.Proofs.YtokambhemoeloaaW.PrintWords Go.Proofs.YtokambhemoeloaaW.PrintLast Go.Proofs.YtokambhemoeloaaW.PrintMore Go.Proofs.Ytokambhemoeloaa.PA
open Go.Proofs.Ytokambhemoeloaa.Mp Go.Proofs.Ytokambhemoeloaa.Reg
set_option linter.unusedVariables false
set_option linter.unusedSimpArgs false
theorem Row.far {w w1 : World} {v : Value} {xs : List S51} {rb n c t : Nat} {A : Option Addr} {ad : Nat × Nat} (h : Row w v xs) (hb : w.heap[rb]? = some (.cells #[.slice A n c] t ad)) (hg : w.grownBy w1 (some rb)) : Row w1 v xs := by
  obtain ⟨Ar, cr, h1, h2, h3⟩ := h
  refine ⟨Ar, cr, h1, h2, h3.1, h3.2.1, fun hn => ?_⟩
  obtain ⟨a, e, hc⟩ := h3.2.2 hn
  refine ⟨a, e, fun j p hj => ?_⟩
  obtain ⟨cs, hs, hK, hcell⟩ := hc j p hj
  refine ⟨cs, hs, k51_any _ _ hK, fun i u hu => ?_⟩
  have h0 := hcell i u hu
  rw [k51_open hK] at hu
  have hne : (a.add (j * k51.sz + i)).block ≠ rb := by
    intro he
    have hint : ∃ z, u = .int .i64 z := by
      have hi := (List.getElem?_eq_some_iff.1 hu).1
      simp only [List.length_cons, List.length_nil] at hi
      match i, hi, hu with
      | 0, _, hu => exact ⟨_, by simpa using hu.symm⟩
      | 1, _, hu => exact ⟨_, by simpa using hu.symm⟩
      | 2, _, hu => exact ⟨_, by simpa using hu.symm⟩
      | 3, _, hu => exact ⟨_, by simpa using hu.symm⟩
      | 4, _, hu => exact ⟨_, by simpa using hu.symm⟩
    obtain ⟨z, rfl⟩ := hint
    rw [World.cell?, he, hb] at h0
    simp only at h0
    split at h0
    · cases h0
    · cases ho : (a.add (j * k51.sz + i)).off with
      | zero => rw [ho] at h0; simp at h0
      | succ o => rw [ho] at h0; simp at h0
  have hlt := World.block_lt_of_cell? w _ h0
  have := hg.block _ hlt (fun e => hne (by injection e))
  simpa [World.cell?, this] using h0
theorem GAt.far {w w1 : World} {gb mb rb n c t : Nat} {G : GL} {A : Option Addr} {ad : Nat × Nat} (h : GAt w gb mb G) (hb : w.heap[rb]? = some (.cells #[.slice A n c] t ad)) (hg : w.grownBy w1 (some rb)) (h1 : gb ≠ rb) (h2 : mb ≠ rb) : GAt w1 gb mb G := by
  obtain ⟨gs, g1, g2, g3⟩ := h.rows
  exact ⟨(hg.block gb h.lt.1 (fun e => h1 (by injection e))).trans h.blk, gs, g1, g2.move (hg.block mb h.lt.2 (fun e => h2 (by injection e))), fun t ht => (g3 t ht).far hb hg⟩
theorem RefAt.far {w w1 : World} {rb mb : Nat} {L : RL} {es : Array MapEntry} {clock : Nat} (h : RefAt w rb L) (hb : w.heap[mb]? = some (.map es clock)) (hg : w.grownBy w1 (some mb)) (hne : rb ≠ mb) : RefAt w1 rb L :=
  h.keep (hg.block rb h.lt (fun e => hne (by injection e))) (SameBut.of_cells (SameCells.of_kept hb ⟨hg.size, fun i hi hn => hg.block i hi (fun e => hn (by injection e))⟩))
structure Cur (w : World) (gb mb rb cb : Nat) (G : GL) (L : RL) (v : Value) (chs : List S37) : Prop where
  g : GAt w gb mb G
  r : RefAt w rb L
  c : Kd.S k37 37 w cb (fun _ => True) v chs
  ne : gb ≠ mb ∧ gb ≠ rb ∧ rb ≠ mb
  lt : gb < cb ∧ mb < cb ∧ rb < cb
variable {w w1 : World} {gb mb rb cb : Nat} {G G' : GL} {L L' : RL} {v : Value} {chs : List S37}
theorem Cur.below (h : Cur w gb mb rb cb G L v chs) (hb : Below w.heap.size w w1) : Cur w1 gb mb rb cb G L v chs :=
  ⟨h.g.below hb, h.r.below hb, Kd.S_below h.c hb, h.ne, h.lt⟩
theorem S_far {b : Nat} (h : Kd.S k37 37 w cb (fun _ => True) v chs) (hg : w.grownBy w1 (some b)) (hb : b < cb) : Kd.S k37 37 w1 cb (fun _ => True) v chs :=
  Kd.S_mono (Kd.S_grown (Kd.S_bound h) hg (fun k hk e => by injection e with e; have := hk.2.1; omega)) (fun _ _ => trivial)
theorem Cur.set (h : Cur w gb mb rb cb G L v chs) (hg : w.grownBy w1 (some mb)) (hG : GAt w1 gb mb G') : Cur w1 gb mb rb cb G' L v chs := by
  obtain ⟨es, cl, hm⟩ := h.g.map
  exact ⟨hG, h.r.far hm hg h.ne.2.2, S_far h.c hg h.lt.2.1, h.ne, h.lt⟩
theorem Cur.rset (h : Cur w gb mb rb cb G L v chs) (hg : w.grownBy w1 (some rb)) (hR : RefAt w1 rb L') : Cur w1 gb mb rb cb G L' v chs := by
  obtain ⟨A, c, rows, hb, _⟩ := h.r.raws
  exact ⟨h.g.far hb hg h.ne.2.1 (fun e => h.ne.2.2 e.symm), hR, S_far h.c hg h.lt.2.2, h.ne, h.lt⟩
theorem add_block (ad : Addr) (t : Nat) : (ad.add t).block = ad.block := by unfold Addr.add; split <;> rfl
end Go.Proofs.Ytokambhemoeloaa.G
end
section
namespace Go.Proofs.Ytokambhemoeloaa.G
open Go.RowKit Go.Proofs.YtokambhemoeloaaW.PrintWords Go.Proofs.YtokambhemoeloaaW.PrintLast Go.Proofs.YtokambhemoeloaaW.PrintMore Go.Proofs.Ytokambhemoeloaa.PA
set_option linter.unusedVariables false
set_option linter.unusedSimpArgs false
theorem cont_map (l : List S56) (d : S56) : (l.map toD).contains (toD d) = l.contains d := by
  simp only [List.contains_eq_mem]
  rw [Bool.eq_iff_iff, decide_eq_true_eq, decide_eq_true_eq, List.mem_map]
  constructor
  · rintro ⟨x, hx, e⟩
    rw [← toD_inj e]; exact hx
  · intro h; exact ⟨d, h, rfl⟩
theorem conc_eq {G : GL} {L : RL} (h : Rel G L) (l : List S56) (out : List S34) (k : S34) : ((gget k G).getD []).any (pdc (l.map toD).contains out.contains) = rConc L l out k := by
  rw [h.of, List.any_map]
  unfold rConc
  congr 1
  funext d
  simp only [Function.comp_def, pdc, dconc, cont_map]
  rfl
theorem affL_eq {G : GL} {L : RL} (h : Rel G L) (l : List S56) : ∀ (ord out : List S34), pAffL G (l.map toD) ord out = rAffL L l ord out
  | [], out => rfl
  | k :: ord, out => by
    unfold pAffL rAffL
    rw [List.foldl_cons, List.foldl_cons, conc_eq h]
    exact affL_eq h l ord _
theorem aff_eq {G : GL} {L : RL} (h : Rel G L) (l : List S56) : rAff L l = pAff G (l.map toD) := by
  unfold rAff pAff
  have hv : (l.map toD).all validD = l.all (fun d => validD (toD d)) := by rw [List.all_map]; rfl
  rw [hv]
  split
  · rw [rOrd_eq h]
    unfold ordE ordL
    by_cases hlt : (ordG G).length < G.length
    · simp [hlt, rAffO]
    · simp [hlt, rAffO, affL_eq h]
  · rfl
theorem refAff_calls (w : World) (rb : Nat) (G : GL) (L : RL) (v : Value) (l : List S56) (h : RefAt w rb L) (hrel : Rel G L) (hr : RowE w v l) (hL : L.length < 1000000) :
    Calls Try.prog 26 #[.pointer (some ⟨rb, 0, none⟩), v] w (PAffPost w (pAff G (l.map toD))) := by
  rw [← aff_eq hrel]
  exact refAffected_calls w rb L v l h hr hL
theorem pAffL_len (G : GL) (l : List S51) : ∀ (ord out : List S34), (pAffL G l ord out).length ≤ out.length + ord.length
  | [], out => by simp [pAffL]
  | k :: ord, out => by
    have := pAffL_len G l ord (if ((gget k G).getD []).any (pdc l.contains out.contains) then out ++ [k] else out)
    unfold pAffL at this ⊢
    rw [List.foldl_cons]
    split at this
    · rename_i hc; rw [if_pos hc]; simp at this ⊢; omega
    · rename_i hc; rw [if_neg hc]; simp at this ⊢; omega
theorem pAff_len {G : GL} (hn : (G.map (·.1)).Nodup) (l : List S51) : (pAff G l).1.length ≤ G.length := by
  unfold pAff
  split
  · split
    · have h1 := pAffL_len G l (ordL G) []
      have h2 := ordL_length hn
      simp at h1 ⊢; omega
    · simp
  · simp
end Go.Proofs.Ytokambhemoeloaa.G
end
section
namespace Go.Proofs.Ytokambhemoeloaa.G
open Go.RowKit Go.Proofs.YtokambhemoeloaaW.PrintWords Go.Proofs.YtokambhemoeloaaW.PrintLast Go.Proofs.YtokambhemoeloaaW.PrintMore Go.Proofs.Ytokambhemoeloaa.PA
open Go.Proofs.Ytokambhemoeloaa.Mp Go.Proofs.Ytokambhemoeloaa.Reg
set_option linter.unusedVariables false
set_option linter.unusedSimpArgs false
theorem RowE.of_R {w : World} {base : Nat} {ok : Nat → Prop} {v : Value} {xs : List S56} (h : Kd.R k56 56 w base ok v xs) : RowE w v xs := by
  obtain ⟨A, c, h1, h2, h3⟩ := Kd.R_reads h
  exact ⟨A, c, h1, h2, h3⟩
def cel56 (x : S56) : List Value := [.int .i64 x.f0, .int .i64 x.f1, .int .i64 x.f2.f0, .int .i64 x.f2.f1, .int .i64 x.f2.f2]
theorem RowE_of_blk {w : World} {g t : Nat} (x : S56) (h : w.heap[g]? = some (.cells (cel56 x).toArray t (0, 0))) : RowE w (.slice (some ⟨g, 0, none⟩) 1 1) [x] := by
  refine ⟨_, _, rfl, Nat.le_refl _, rfl, by simp, fun _ => ⟨_, rfl, fun j p hj => ?_⟩⟩
  match j, hj with
  | 0, hj =>
    simp at hj; subst hj
    refine ⟨cel56 x, rfl, k56_mk _ _, fun i u hu => ?_⟩
    rw [show Addr.add ⟨g, 0, none⟩ (0 * k56.sz + i) = ⟨g, i, none⟩ from by rw [add_plain]; simp, blk_cell h i]
    simpa using hu
  | j + 1, hj => simp at hj
theorem k56_M {w : World} {base : Nat} {ok : Nat → Prop} {x : S56} {cs : List Value} (h : k56.K w x cs) : k56.M w base ok x cs := by
  rw [k56_open h]; exact k56_mkM _ _ _ _
set_option maxHeartbeats 16000000 in
set_option maxRecDepth 100000 in
theorem DepsAffected_calls (A : Option Addr) (c : Nat) (l : List Int) (A1 : Option Addr) (c1 : Nat) (m : List Int) (at_ by_ : Int) (w : World)
    (hC : Kd.C (Kd.int .i64) w A l.length l) (hc : l.length ≤ c) (hl : l.length * 8 ≤ 140737488355328) (hC1 : Kd.C (Kd.int .i64) w A1 m.length m) (hc1 : m.length ≤ c1) (hl1 : m.length * 8 ≤ 140737488355328)
    (ha0 : -9223372036854775808 ≤ at_) (ha1 : at_ < 9223372036854775808) (hb0 : -9223372036854775808 ≤ by_) (hb1 : by_ < 9223372036854775808) :
    Calls Try.prog 4 #[.slice A l.length c, .slice A1 m.length c1, .int .i64 at_, .int .i64 by_] w fun e w' => e = .returned (.bool true) ∧ Below w.heap.size w w' := by
  obtain ⟨kch, chs, hch, hsm⟩ := changes_some l (by omega) 25 (by omega)
  have hchl := hsm.1
  have hchf := Lib.hid hch
  have hsmh := Lib.hid hsm
  clear hch hsm
  have hm9 : m.length ≤ 9223372036854775807 := by omega
  go_enter Try.func4, Try.ntmps4
  go_wp2_with fail
  refine (skymosaicref32_Changes.calls kch A c l 25 chs w hC hc hchf.out).mono ?_
  rintro e w1 ⟨vch, rfl, hS1, hB1⟩
  obtain ⟨Av, cv, rfl, hcv, hCv⟩ := Kd.S_reads hS1
  go_wp2_with fail
  refine (filled_calls w1 Av cv chs hCv hsmh.out.2 (by omega)).mono ?_
  rintro e w2 ⟨rfl, hG2, hB2⟩
  have hlt2 := hG2.lt
  obtain ⟨gb, hgb⟩ : ∃ gb, gb = w1.heap.size + 1 := ⟨_, rfl⟩
  rw [← hgb] at hG2 ⊢
  have hgbh := Lib.hid hgb
  clear hgb
  have hrel := fil_rel chs [] [] Rel.empty
  have hGl := fil_len chs []
  have hLl := filR_len chs []
  simp only [List.length_nil] at hGl hLl
  have hrel : Rel (filG chs) (filR chs) := hrel
  have hGl : (filG chs).length < 100000 := by unfold filG; omega
  have hLl : (filR chs).length < 1000000 := by unfold filR; omega
  have hok := hrel.ok hGl
  have hrelh := Lib.hid hrel
  clear hrel
  have hfl := Filled_calls w2 Av cv chs (Kd.C_below hCv hB2) (by omega)
  generalize filG chs = G at *
  generalize filR chs = L at *
  have hB3 := below_then hB1 hB1.size hB2
  go_wp2_with fail
  refine hfl.mono ?_
  rintro e w3 ⟨rfl, hR3, hB4⟩
  have hG3 := hG2.below hB4
  have hB5 := below_then hB3 hB3.size hB4
  clear hS1 hCv hB1 hB2 hG2 hB3 hfl hB4
  have hG3h := Lib.hid hG3
  have hlt3 := hG3.lt
  have hR3h := Lib.hid hR3
  clear hG3 hR3
  obtain ⟨rb, hrb⟩ : ∃ rb, rb = w2.heap.size := ⟨_, rfl⟩
  rw [← hrb] at hR3h ⊢
  have hrbh := Lib.hid hrb
  clear hrb
  go_wp2
  obtain ⟨wo, hwo⟩ : ∃ wo, wo = w3 := ⟨_, rfl⟩
  subst hwo
  go_loopg [12, 13] 4 (fun g s12 s13 wr => ∃ (v : Value) (i : Nat) (xs : List S56), v = s12 ∧ s13 = .int .i64 i ∧ i ≤ 4 ∧ 4 - i ≤ g ∧ xs.length ≤ i ∧ Below wo.heap.size wo wr ∧ Kd.R k56 56 wr wo.heap.size (fun _ => True) v xs)
  case atStart => exact ⟨_, 0, [], rfl, rfl, by omega, by omega, by simp, Below.refl _ _, Kd.R_nil _ _ _ _ _⟩
  case round =>
    obtain ⟨v, i, xs, rfl, rfl, hi, hg, hxs, hB, hR⟩ := hrel
    by_cases hgo : i < m.length ∧ i < 4
    · obtain ⟨him, hi4⟩ := hgo
      have hBw := below_then hB5 hB5.size hB
      obtain ⟨ad, rfl, a0⟩ := Kd.at_int (Kd.C_below hC1 hB5) i (by omega) (by omega)
      simp only [Int.toNat_natCast] at a0
      obtain ⟨kk, hkk⟩ := key_some ((i : Int) * 13)
      have hKy := fun W => (skymosaicref32_Key.calls _ _ _ _ W hkk)
      obtain ⟨d, hd⟩ := of_some kk.f0 kk.f1 kk.f2 (rd m i)
      have hO := fun W => (skymosaicref32_Of.calls _ _ _ _ _ _ _ _ _ W hd)
      have m0 : wr.cell? (ad.add i) = some (.int .i64 (rd m i)) := pw_cell_below hB a0
      have him2 : (i : Int) < (m.length : Int) := by omega
      have hi42 : (i : Int) < 4 := by omega
      have hRh := Lib.hid hR
      have hkh := Lib.hid (And.intro hkk hd)
      clear hkk hd hR
      generalize rd m i = mi at *
      have hw13 : IntKind.i64.wrap ((i : Int) * 13) = (i : Int) * 13 := IntWalk.i64_in _ (by omega)
      go_wp2_with fail
      have hBx := below_drew hB
      have hRx := Kd.R_drew hRh.out
      go_region_held3 (fun w' => w'.cell? (ad.add i) = some (.int .i64 mi)) (first | exact pw_cell_below hBx a0 | exact pw_cell_below (below_alloc hBx _) a0 | go_keep)
        (first | (go_at_call 18; refine (hKy _).mono ?_; rintro e w5 ⟨rfl, hB7⟩; replace hBx := below_then hBx hBx.size hB7; replace hRx := Kd.R_below hRx hB7) | (go_at_call 23; refine (hO _).mono ?_; rintro e w6 ⟨rfl, hB8⟩; replace hBx := below_then hBx hBx.size hB8; replace hRx := Kd.R_below hRx hB8) | (refine Kd.R_append_step k56 (w0 := wo) wo.heap.size (by rfl) (.tmp 40) (.tmp 49) 35 56 (.agg #[(.int .i64 0), (.int .i64 0), (.int .i64 0), (.int .i64 0), (.int .i64 0)]) 40 rfl Try.underlying35 info56 rfl (by decide) (by omega) v xs d [.int .i64 d.f0, .int .i64 d.f1, .int .i64 d.f2.f0, .int .i64 d.f2.f1, .int .i64 d.f2.f2] (fun _ => True) (fun _ => False) (by rfl) (by rfl) (k56_mkM _ _ _ d) (fun _ hk => hk.elim) (fun _ _ => trivial) hRx hBx hBx.size (by omega) ?_; intro v1 w2 ho hb hgg hat; replace hBx := hb))
      clear hw13 hKy hO
      go_wp2
      have hB6 : Below wo.heap.size wo w2 := hb
      go_roundg (4 - (i + 1))
      case measure => omega
      case rel => exact ⟨v1, i + 1, xs ++ [d], rfl, by go_num, by omega, Nat.le_refl _, by simp; omega, hB6, ho⟩
    · have hBw := below_then hB5 hB5.size hB
      obtain ⟨Ax, cx, rfl, hcx, hCx⟩ := Kd.R_reads hR
      have hexit : ¬ (i : Int) < (m.length : Int) ∨ ((i : Int) < (m.length : Int) ∧ ¬ (i : Int) < 4) := by
        by_cases h1 : i < m.length
        · right; exact ⟨by omega, by omega⟩
        · left; omega
      have hRh := Lib.hid hR
      obtain ⟨kk, hkk⟩ := key_some at_
      have hKy := fun W => (skymosaicref32_Key.calls _ _ _ _ W hkk)
      obtain ⟨d, hd⟩ := spoilt_some (Int.tmod at_ 5) 0 0 0 0 (Int.tdiv at_ 5) by_
      have hO := fun W => (skymosaicref32_Spoilt.calls _ _ _ _ _ _ _ _ _ _ _ _ W hd)
      have hkh := Lib.hid (And.intro hkk hd)
      clear hkk hd hR hgo
      have hall : True := trivial
      rcases hexit with h1 | ⟨h1, h2⟩
      all_goals
        go_wp2_with fail
        refine (hKy _).mono ?_
        rintro e w4 ⟨rfl, hB6⟩
        have hBw4 := below_then hBw hBw.size hB6
        have hC4 := Kd.C_below hCx hB6
        have hwz : wo.heap.size ≤ w4.heap.size := Nat.le_trans hB.size hB6.size
        have hBo4 := below_then hB hB.size hB6
        have hsx := Kd.C_max hC4
        have hBk6 : Below w4.heap.size w4 (w4.alloc (.cells #[.int .i64 3, .int .i64 0, .int .i64 kk.f0, .int .i64 kk.f1, .int .i64 kk.f2] 56)) := (by repeat (first | exact Below.refl _ _ | assumption | with_reducible apply below_alloc | with_reducible apply pw_below_drewN | with_reducible apply below_drew))
        have htile := blk_new w4 (.cells #[.int .i64 3, .int .i64 0, .int .i64 kk.f0, .int .i64 kk.f1, .int .i64 kk.f2] 56)
        have hemp : Kd.R k56 56 ((w4.alloc (.cells #[.int .i64 3, .int .i64 0, .int .i64 kk.f0, .int .i64 kk.f1, .int .i64 kk.f2] 56)).alloc (.cells #[] 56)) w4.heap.size (fun q => q ≠ w4.heap.size) (.slice (some ⟨w4.heap.size + 1, 0, none⟩) 0 0) [] := by
          have := R_empty k56 56 (w4.alloc (.cells #[.int .i64 3, .int .i64 0, .int .i64 kk.f0, .int .i64 kk.f1, .int .i64 kk.f2] 56)) w4.heap.size (by simp only [World.size_alloc]; omega) (fun q => q ≠ w4.heap.size) (by simp only [World.size_alloc]; omega)
          simpa using this
        have hBk7 : Below w4.heap.size w4 ((w4.alloc (.cells #[.int .i64 3, .int .i64 0, .int .i64 kk.f0, .int .i64 kk.f1, .int .i64 kk.f2] 56)).alloc (.cells #[] 56)) := (by repeat (first | exact Below.refl _ _ | assumption | with_reducible apply below_alloc | with_reducible apply pw_below_drewN | with_reducible apply below_drew))
        have hC7 := Kd.C_below hC4 hBk7
        have hxl : (([] : List S56).length + xs.length) * 40 ≤ 140737488355328 := by simp; omega
        have hfr7 : ∀ q, ((w4.alloc (.cells #[.int .i64 3, .int .i64 0, .int .i64 kk.f0, .int .i64 kk.f1, .int .i64 kk.f2] 56)).alloc (.cells #[] 56)).heap.size ≤ q → q ≠ w4.heap.size := fun q hq => by simp at hq; omega
        have hz7 : w4.heap.size ≤ ((w4.alloc (.cells #[.int .i64 3, .int .i64 0, .int .i64 kk.f0, .int .i64 kk.f1, .int .i64 kk.f2] 56)).alloc (.cells #[] 56)).heap.size := by simp only [World.size_alloc]; omega
        go_wp2_with (at_builtin; go_must (refine Kd.R_append_rows k56 (Rr := k56.K ((w4.alloc (.cells #[.int .i64 3, .int .i64 0, .int .i64 kk.f0, .int .i64 kk.f1, .int .i64 kk.f2] 56)).alloc (.cells #[] 56))) (w0 := w4) w4.heap.size rfl (.tmp 55) (.tmp 56) 35 56 (.agg #[(.int .i64 0), (.int .i64 0), (.int .i64 0), (.int .i64 0), (.int .i64 0)]) 40 rfl Try.underlying35 info56 rfl (by decide) (by omega) (.slice (some ⟨w4.heap.size + 1, 0, none⟩) 0 0) [] xs Ax xs.length cx (fun q => q ≠ w4.heap.size) (fun _ => False) rfl rfl hemp hC7 (fun _ _ h => k56_M h) (fun _ h => h.elim) hfr7 hBk7 hz7 hxl ?_); intro v1 w5 ho hb hg hat)
        have htile5 := (hg.block w4.heap.size (by simp; omega) (by simp [Value.ownBlock])).trans (blk_alloc htile (.cells #[] 56))
        clear hemp hC7 hxl hfr7 hz7 hBk6 hBk7 htile hg hat
        refine (hO _).mono ?_
        rintro e w6 ⟨rfl, hB7⟩
        have ho6 := Kd.R_below ho hB7
        have htile6 := blk_below htile5 hB7
        have hb6 : Below w4.heap.size w4 w6 := below_then hb hb.size hB7
        have hsz6 := blk_lt htile6
        obtain ⟨ys, hys⟩ : ∃ ys, ys = [] ++ xs ++ [d] := ⟨_, rfl⟩
        have hysl : ys.length ≤ 5 := by rw [hys]; simp; omega
        have hysh := Lib.hid hys
        clear hys
        clear ho htile5 hb hO hKy
        go_wp2_with (at_builtin; go_must (refine Kd.R_append k56 (w0 := w4) w4.heap.size rfl (.tmp 57) (.tmp 65) 35 56 (.agg #[(.int .i64 0), (.int .i64 0), (.int .i64 0), (.int .i64 0), (.int .i64 0)]) 40 rfl Try.underlying35 info56 rfl (by decide) (by omega) v1 ([] ++ xs) d [.int .i64 d.f0, .int .i64 d.f1, .int .i64 d.f2.f0, .int .i64 d.f2.f1, .int .i64 d.f2.f2] (fun q => q ≠ w4.heap.size) (fun _ => False) rfl (by go_simp) (k56_mkM _ _ _ d) (fun _ hk => hk.elim) (fun q hq => by omega) ho6 hb6 hb6.size (by simp; omega) ?_); intro v2 w7 ho7 hb7 hg7 hat7; rw [← hysh.out] at ho7; obtain ⟨A2, c2, rfl, hc2, hC2⟩ := Kd.R_reads ho7)
        have htile7 := (hg7.block w4.heap.size hsz6 (fun e => ho6.1 _ e.symm rfl)).trans htile6
        have hrow0 : RowE w7 (.slice Ax xs.length cx) xs := ⟨_, _, rfl, hcx, Kd.C_below hC4 hb7⟩
        have hrow1 : RowE w7 (.slice (some ⟨w4.heap.size, 0, none⟩) 1 1) [⟨3, 0, kk⟩] := RowE_of_blk _ htile7
        have hrow2 : RowE w7 (.slice A2 ys.length c2) ys := ⟨_, _, rfl, hc2, hC2⟩
        obtain ⟨w8, hw8⟩ : ∃ w8, w8 = (w7.alloc (.cells #[.int .i64 4, .int .i64 0, .int .i64 0, .int .i64 0, .int .i64 0] 56)) := ⟨_, rfl⟩
        have hB8 : Below w7.heap.size w7 w8 := by rw [hw8]; exact (by repeat (first | exact Below.refl _ _ | assumption | with_reducible apply below_alloc | with_reducible apply pw_below_drewN | with_reducible apply below_drew))
        have hrow3 : RowE w8 (.slice (some ⟨w7.heap.size, 0, none⟩) 1 1) [⟨4, 0, ⟨0, 0, 0⟩⟩] := RowE_of_blk _ (by rw [hw8]; exact blk_new _ _)
        obtain ⟨w9, hw9⟩ : ∃ w9, w9 = w8.alloc (.cells #[.slice Ax xs.length cx, .slice (some ⟨w4.heap.size, 0, none⟩) 1 1, .slice A2 ys.length c2, .slice (some ⟨w7.heap.size, 0, none⟩) 1 1, .slice none 0 0] 35) := ⟨_, rfl⟩
        have hB9 : Below w8.heap.size w8 w9 := by rw [hw9]; exact (by repeat (first | exact Below.refl _ _ | assumption | with_reducible apply below_alloc | with_reducible apply pw_below_drewN | with_reducible apply below_drew))
        have hlists : w9.heap[w8.heap.size]? = some (.cells #[.slice Ax xs.length cx, .slice (some ⟨w4.heap.size, 0, none⟩) 1 1, .slice A2 ys.length c2, .slice (some ⟨w7.heap.size, 0, none⟩) 1 1, .slice none 0 0] 35 (0, 0)) := by rw [hw9]; exact blk_new _ _
        have hs8 : w8.heap.size = w7.heap.size + 1 := by rw [hw8]; simp
        have hB89 := below_then hB8 hB8.size hB9
        have hB79 := below_then (below_then (below_then hBw4 hBw4.size hb7) (Nat.le_trans hBw4.size hb7.size) hB8) (Nat.le_trans (Nat.le_trans hBw4.size hb7.size) hB8.size) hB9
        have hBo9 := below_then (below_then (below_then hBo4 hBo4.size hb7) (Nat.le_trans hBo4.size hb7.size) hB8) (Nat.le_trans (Nat.le_trans hBo4.size hb7.size) hB8.size) hB9
        have hrows : ∀ W, Below w9.heap.size w9 W → ∀ j : Nat, j < 5 → ∃ (Aj : Option Addr) (cj : Nat) (l5 : List S56), W.cell? ⟨w8.heap.size, j, none⟩ = some (.slice Aj l5.length cj) ∧ RowE W (.slice Aj l5.length cj) l5 ∧ l5.length ≤ 5 := by
          intro W hW j hj
          have hb := blk_below hlists hW
          match j, hj with
          | 0, _ => exact ⟨_, _, xs, (blk_cell hb 0).trans rfl, (hrow0.below hB89).below hW, by omega⟩
          | 1, _ => exact ⟨_, _, [⟨3, 0, kk⟩], (blk_cell hb 1).trans rfl, (hrow1.below hB89).below hW, by simp⟩
          | 2, _ => exact ⟨_, _, ys, (blk_cell hb 2).trans rfl, (hrow2.below hB89).below hW, by omega⟩
          | 3, _ => exact ⟨_, _, [⟨4, 0, ⟨0, 0, 0⟩⟩], (blk_cell hb 3).trans rfl, (hrow3.below hB9).below hW, by simp⟩
          | 4, _ => exact ⟨_, _, [], (blk_cell hb 4).trans rfl, ⟨none, 0, rfl, Nat.le_refl _, Kd.C_nil _ _⟩, by simp⟩
        rw [hs8] at hrows
        have hG9 := hG3h.out.below hBo9
        have hR9 := hR3h.out.below hBo9
        rw [hw8] at hw9
        rw [← hw9]
        have hGR := Lib.hid (And.intro hG9 hR9)
        clear htile7 hrow0 hrow1 hrow2 hrow3 hw8 hB8 hlists hs8 hB89 hw9 hBo9 hG9 hR9 hg7 hat7 hb7 ho7 hC2 hC4 hb6 ho6 htile6 hB7 hB6 hBo4 hBw4 hB9
        obtain ⟨wp, hwp⟩ : ∃ wp, wp = wr := ⟨_, rfl⟩
        subst hwp
        go_loopg [17] 5 (fun g s17 wr => ∃ j : Nat, s17 = .int .i64 j ∧ j ≤ 5 ∧ 5 - j ≤ g ∧ Below w9.heap.size w9 wr)
        case atStart => exact ⟨0, rfl, by omega, by omega, Below.refl _ _⟩
        case round =>
          obtain ⟨j, rfl, hj, hg5, hBL⟩ := hrel
          by_cases hj5 : j < 5
          · obtain ⟨Aj, cj, l5, hcell, hrow, hl5⟩ := hrows wr hBL j hj5
            have hj5i : (j : Int) < 5 := by omega
            obtain ⟨Ar, cr, hve, hcr, hCr⟩ := id hrow
            injection hve with h1 h2 h3
            subst h1 h3
            clear h2
            have hreal := real_calls Aj cj l5 wr hCr hcr (by omega)
            clear hrows
            go_wp2_with fail
            refine hreal.mono ?_
            rintro e w10 ⟨v10, rfl, hR10, hB10⟩
            have hBLa := below_then hBL hBL.size hB10
            have hAf := Affected_calls w10 gb w1.heap.size G v10 (l5.map toD) (hGR.out.1.below hBLa) hok (Row.of_R hR10)
            have hpl := pAff_len hok.nodup (l5.map toD)
            have hcell10 := pw_cell_below hB10 hcell
            have hrow10 := hrow.below hB10
            clear hreal hCr hcell
            generalize hres : pAff G (l5.map toD) = res at *
            have hresh := Lib.hid hres
            clear hres
            obtain ⟨rl, re⟩ := res
            go_wp2_with fail
            refine hAf.mono ?_
            rintro e w11 ⟨v11, rfl, hR11, hB11⟩
            have hBLb := below_then hBLa hBLa.size hB11
            have hrAf := refAff_calls w11 rb G L _ l5 (hGR.out.2.below hBLb) hrelh.out (hrow10.below hB11) (by omega)
            rw [hresh.out] at hrAf
            have hcell11 := pw_cell_below hB11 hcell10
            clear hAf hcell10 hR10
            simp only at hR11 hpl
            go_wp2_with fail
            refine hrAf.mono ?_
            rintro e w12 ⟨v12, rfl, hR12, hB12⟩
            have hBLc := below_then hBLb hBLb.size hB12
            obtain ⟨Aa, ca, rfl, hca, hCa⟩ := Kd.R_reads (Kd.R_below hR11 hB12)
            obtain ⟨Ab, cb, rfl, hcb, hCb⟩ := Kd.R_reads hR12
            simp only at hca hcb hCa hCb
            have hsk := sameKeys_calls Aa Ab ca cb rl w12 hCa hca hCb hcb (by omega)
            clear hrAf hcell11 hR11 hR12 hCa hCb
            go_wp2_with fail
            refine hsk.mono ?_
            rintro e w13 ⟨rfl, hB13⟩
            have hBLd := below_then hBLc hBLc.size hB13
            clear hsk
            go_wp2
            go_roundg (5 - (j + 1))
            case measure => omega
            case rel => exact ⟨j + 1, by go_num, by omega, Nat.le_refl _, hBLd⟩
          · have hj2 : j = 5 := by omega
            subst hj2
            have hBz := below_then hB79 hB79.size hBL
            clear hrows
            go_wp2_with fail
            refine (lives_calls _).mono ?_
            rintro e w14 ⟨rfl, hB14⟩
            have hB15 := below_then hBz hBz.size hB14
            go_wp2
            go_ret
            exact ⟨rfl, hB15⟩
end Go.Proofs.Ytokambhemoeloaa.G
end
