/- Parts of a proof about the given program: lemmas and walks, packed by wip/tools/pack.py out of this repo's texts. -/
import Derived.Test.YtokambhemoeloaaKAff2
import Derived.OneCell
section
namespace Go.Proofs.Ytokambhemoeloaa.PA
open Go.RowKit Go.Proofs.YtokambhemoeloaaW.PrintWords Go.Proofs.YtokambhemoeloaaW.PrintLast Go.Proofs.YtokambhemoeloaaW.PrintMore
attribute [local go_sem] max2_int min2_int max_two min_two max_three min_three max_four min_four   -- for this text's walks alone
set_option linter.unusedVariables false
set_option linter.unusedSimpArgs false
attribute [local go_sem high] eqA56
def skymosaicref32_put.l0 : Nat → List (S56) → Int → Int → Int → Int → Int → Int → Option ((List (S56)))
  | 0, _, _, _, _, _, _, _ => none
  | k + 1, x0, x5, x208000, x208001, x208002, x208003, x208004 => if x5 < (x0.length : Int) then (if 0 ≤ x5 then ((skymosaicref32_Less.f ((rd_T56 x0 x5).f0) ((rd_T56 x0 x5).f1) ((rd_T56 x0 x5).f2.f0) ((rd_T56 x0 x5).f2.f1) ((rd_T56 x0 x5).f2.f2) x208000 x208001 x208002 x208003 x208004).bind fun t209 => (if t209 = true then (skymosaicref32_put.l0 k x0 (wrap64 (x5 + 1)) x208000 x208001 x208002 x208003 x208004) else (if (((rd_T56 x0 x5).f0) == x208000 && (((rd_T56 x0 x5).f1) == x208001 && ((((rd_T56 x0 x5).f2.f0) == x208002 && (((rd_T56 x0 x5).f2.f1) == x208003 && (((rd_T56 x0 x5).f2.f2) == x208004)))))) = true then (some x0) else (if x5 ≤ (x0.length : Int) then ((some (x0.take (x5 : Int).toNat : List (S56))).bind fun y211 => (if ([] : List (S56)).length + y211.length < 3518437208883 then ((some (([] : List (S56)) ++ y211 : List (S56))).bind fun y215 => ((some (([(⟨x208000, x208001, (⟨x208002, x208003, x208004⟩ : S34)⟩ : S56)] : List (S56)) : List (S56))).bind fun y218 => (if y215.length + y218.length < 3518437208883 then ((some (y215 ++ y218 : List (S56))).bind fun y221 => ((some (x0.drop (x5 : Int).toNat : List (S56))).bind fun y224 => (if y221.length + y224.length < 3518437208883 then (some (y221 ++ y224)) else (none)))) else (none)))) else (none))) else (none))))) else (none)) else (if 0 ≤ x5 then (if x5 ≤ (x0.length : Int) then ((some (x0.take (x5 : Int).toNat : List (S56))).bind fun y231 => (if ([] : List (S56)).length + y231.length < 3518437208883 then ((some (([] : List (S56)) ++ y231 : List (S56))).bind fun y235 => ((some (([(⟨x208000, x208001, (⟨x208002, x208003, x208004⟩ : S34)⟩ : S56)] : List (S56)) : List (S56))).bind fun y238 => (if y235.length + y238.length < 3518437208883 then ((some (y235 ++ y238 : List (S56))).bind fun y241 => ((some (x0.drop (x5 : Int).toNat : List (S56))).bind fun y244 => (if y241.length + y244.length < 3518437208883 then (some (y241 ++ y244)) else (none)))) else (none)))) else (none))) else (none)) else (none))
def skymosaicref32_put.f (k : Nat) (l0 : List (S56)) (a1_0 : Int) (a1_1 : Int) (a1_2 : Int) (a1_3 : Int) (a1_4 : Int) : Option ((List (S56))) := skymosaicref32_put.l0 k l0 0 a1_0 a1_1 a1_2 a1_3 a1_4
theorem skymosaicref32_put.mono_l : ∀ k, (∀ y0 y1 y2 y3 y4 y5 y6, LeO (skymosaicref32_put.l0 k y0 y1 y2 y3 y4 y5 y6) (skymosaicref32_put.l0 (k + 1) y0 y1 y2 y3 y4 y5 y6))
  | 0 => fun _ _ _ _ _ _ _ r h => by simp [skymosaicref32_put.l0] at h
  | k + 1 => by
    have ih0 := skymosaicref32_put.mono_l k
    · intro y0 y1 y2 y3 y4 y5 y6
      unfold skymosaicref32_put.l0
      repeat' first
      | (with_reducible exact ih0 _ _ _ _ _ _ _)
      | (with_reducible exact LeO.refl _)
      | (with_reducible exact LeO.none _)
      | (with_reducible refine LeO.ite ?_ ?_)
      | (with_reducible refine LeO.bind ?_ (fun _ => ?_))
      | exact ih0 _ _ _ _ _ _ _
      | exact LeO.none _
      | refine LeO.ite ?_ ?_
      | refine LeO.bind ?_ (fun _ => ?_)
theorem skymosaicref32_put.mono : ∀ a0 a1 a2 a3 a4 a5 k, LeO (skymosaicref32_put.f k a0 a1 a2 a3 a4 a5) (skymosaicref32_put.f (k + 1) a0 a1 a2 a3 a4 a5) := by
  intro a0 a1 a2 a3 a4 a5 k
  have ih0 := skymosaicref32_put.mono_l k
  unfold skymosaicref32_put.f
  repeat' first
      | (with_reducible exact ih0 _ _ _ _ _ _ _)
      | (with_reducible exact LeO.refl _)
      | (with_reducible exact LeO.none _)
      | (with_reducible refine LeO.ite ?_ ?_)
      | (with_reducible refine LeO.bind ?_ (fun _ => ?_))
      | exact ih0 _ _ _ _ _ _ _
      | exact LeO.none _
      | refine LeO.ite ?_ ?_
      | refine LeO.bind ?_ (fun _ => ?_)
def skymosaicref32_put.T6 : Bool × List (List Nat × List Nat) := (true, [([], []), ([], []), ([1], [1]), ([0, 2], [0, 2]), ([3], [3]), ([4], [4]), ([4], [4]), ([5, 6, 4], [4, 5, 6]), ([7, 4], [4, 7]), ([4], [4]), ([8, 9, 4], [4, 8, 9]), ([4, 10], [4, 10])])
def skymosaicref32_put.B6 : List Nat := [0, 0, 2, 7, 15, 31, 31, 127, 255, 31, 1023, 2047]
theorem skymosaicref32_put.tab6 : rtab .any (opsOf Try.f41 6) = skymosaicref32_put.T6 := by kernel_rfl
theorem skymosaicref32_put.bits6 : waitsOk skymosaicref32_put.T6.2 skymosaicref32_put.B6 = true := by kernel_rfl
def skymosaicref32_put.T9 : Bool × List (List Nat × List Nat) := (true, [([], []), ([], []), ([], []), ([1, 2], [1, 2]), ([0, 3], [0, 3]), ([], []), ([5], [5]), ([4, 6, 4], [4, 6]), ([7, 7, 0, 1, 2, 3, 4, 5, 6, 7], [0, 7])])
def skymosaicref32_put.B9 : List Nat := [0, 0, 0, 6, 15, 0, 32, 127, 255]
theorem skymosaicref32_put.tab9 : rtab .any (opsOf Try.f41 9) = skymosaicref32_put.T9 := by kernel_rfl
theorem skymosaicref32_put.bits9 : waitsOk skymosaicref32_put.T9.2 skymosaicref32_put.B9 = true := by kernel_rfl
set_option maxHeartbeats 8000000 in
set_option maxRecDepth 100000 in
theorem skymosaicref32_put.calls (k : Nat) (P0_ : Nat → Prop) (u9000_ : Value) (l0 : List (S56)) (a1_0 : Int) (a1_1 : Int) (a1_2 : Int) (a1_3 : Int) (a1_4 : Int) (r : List (S56)) (w0 w : World) (hB : Below w0.heap.size w0 w) (ho0 : Kd.R k56 56 w w0.heap.size P0_ u9000_ l0) (h : skymosaicref32_put.f k l0 a1_0 a1_1 a1_2 a1_3 a1_4 = some r) :
    Calls Try.prog 41 #[u9000_, .agg #[.int .i64 a1_0, .int .i64 a1_1, .int .i64 a1_2, .int .i64 a1_3, .int .i64 a1_4]] w fun e w' => ∃ v0_ : Value, e = .returned (v0_) ∧ Kd.R k56 56 w' w0.heap.size (fun k_ => (P0_ k_ ∨ w.heap.size ≤ k_)) v0_ r ∧ Below w0.heap.size w0 w' ∧ Kept w w' (fun k_ => P0_ k_) := by
  have hu56 := Try.underlying56
  have HO0 := Aside0.mk (show Kd.R k56 56 w w0.heap.size (fun k_ => (P0_ k_ ∨ w.heap.size ≤ k_)) u9000_ l0 from Kd.R_mono ho0 (fun k_ hk => (.inl hk)))
  have HK := Aside0.mk (Kept.refl w (fun k_ => P0_ k_))
  have HW0 := Aside0.mk hB.size
  have HB := Aside0.mk hB
  clear hB
  have H : (skymosaicref32_put.l0 k l0 0 a1_0 a1_1 a1_2 a1_3 a1_4) = some r := h
  clear h
  have H' := Aside0.mk H
  clear H
  go_enter Try.func41, Try.ntmps41
  go_wp2_with (first | ((with_reducible refine gate_dst (N := 3) rfl ?_); refine box_event ?hg (N := 3) ?hd (cs := #[.int .i64 a1_0, .int .i64 a1_1, .int .i64 a1_2, .int .i64 a1_3, .int .i64 a1_4]) (t := 56) ?hr ?_; (case hd => rfl); (case hg => rfl); (case hr => first | (go_simp; done) | (go_simp; rfl)); intro gb207 hg w3 hbox hb; have n0_ := Aside0.mk (Kd.R_below (Kd.R_elderB (by (with_reducible repeat (first | apply Kd.R_alloc | apply Kd.R_drewN | apply Kd.R_drew)); exact HO0.out) gb207 (Nat.le_of_eq hg.symm)) hb); have n1_ := Aside0.mk (Kept.below (S := (fun k_ => P0_ k_)) (by repeat (first | (with_reducible first | exact HK.out | apply Kept.alloc | apply Kept.drewN | apply Kept.drew) | exact HK.out)) hb); have n2_ := Aside0.mk (below_step (by repeat (first | (with_reducible first | exact HB.out | apply below_alloc | apply pw_below_drewN | apply below_drew1) | exact HB.out)) hb); have n3_ := Aside0.mk (hbox); have n4_ := Aside0.mk ((by rw [hg]; exact (by first | exact HK.out.1 | exact (show Kept w _ (fun k_ => P0_ k_) from by repeat (first | (with_reducible first | exact HK.out | apply Kept.alloc | apply Kept.drewN | apply Kept.drew) | exact HK.out)).1) : w.heap.size ≤ gb207)); have n5_ := Aside0.mk ((by rw [hg]; exact (below_size (by repeat (first | (with_reducible first | exact HB.out | apply below_alloc | apply pw_below_drewN | apply below_drew1) | exact HB.out))) : w0.heap.size ≤ gb207)); clear HO0; clear HK; clear HB; have HO0 := n0_; have HK := n1_; have HB := n2_; have BK207 := n3_; have GW207 := n4_; have GE207 := n5_; clear n0_ n1_ n2_ n3_ n4_ n5_; clear hb hbox hg))
  go_loopg [5] k (fun kq v5 w' => ∃ (x5_1 : Int), v5 = .int .i64 x5_1 ∧ Aside0 (skymosaicref32_put.l0 kq l0 x5_1 a1_0 a1_1 a1_2 a1_3 a1_4 = some r) ∧ Aside0 (kq ≤ k) ∧ Aside0 (Kd.R k56 56 w' w0.heap.size (fun k_ => (P0_ k_ ∨ w.heap.size ≤ k_) ∧ k_ ≠ gb207) u9000_ l0) ∧ Aside0 (w'.heap[gb207]? = some (.cells #[.int .i64 a1_0, .int .i64 a1_1, .int .i64 a1_2, .int .i64 a1_3, .int .i64 a1_4] 56 (0, 0))) ∧ Aside0 (Kept w w' (fun k_ => P0_ k_)) ∧ Aside0 (Below w0.heap.size w0 w'))
  case atStart => exact ⟨(0), (by first | rfl | (simp; done) | (simp [*]; done)), H', ⟨Nat.le_refl _⟩, ⟨by (with_reducible repeat (first | apply Kd.R_alloc | apply Kd.R_drewN | apply Kd.R_drew)); exact HO0.out⟩, ⟨by (with_reducible repeat (first | refine blk_drewN ?_ _ | refine blk_drew ?_ | refine blk_alloc ?_ _)); exact BK207.out⟩, ⟨by repeat (first | (with_reducible first | exact HK.out | apply Kept.alloc | apply Kept.drewN | apply Kept.drew | refine Kept.setCell ?_ (.inr GW207.out) _) | exact HK.out)⟩, ⟨by repeat (first | (with_reducible first | exact HB.out | apply below_alloc | apply pw_below_drewN | apply below_drew1 | refine below_set ?_ GE207.out) | exact HB.out)⟩⟩
  case round =>
    clear H'
    try clear p2
    obtain ⟨x5_1, rfl, HA, HK1, HO_0, BK207, HK, HB⟩ := hrel
    cases gk with
    | zero => exact absurd HA.out (by simp [skymosaicref32_put.l0])
    | succ k1 =>
      have H := HA.out
      clear HA
      simp only [skymosaicref32_put.l0] at H
      by_cases c4 : x5_1 < (l0.length : Int)
      · rw [if_pos c4] at H
        have c4b0 : decide (x5_1 < (l0.length : Int)) = true := decide_eq_true c4
        clear c4
        by_cases c5 : 0 ≤ x5_1
        · rw [if_pos c5] at H
          have c5b0 : decide (0 ≤ x5_1) = true := decide_eq_true c5
          clear c5
          replace H := Option.bind_eq_some_iff.mp H
          obtain ⟨t209, A60, H⟩ := H
          replace H : (if t209 = true then (skymosaicref32_put.l0 k1 l0 (wrap64 (x5_1 + 1)) a1_0 a1_1 a1_2 a1_3 a1_4) else (if (((rd_T56 l0 x5_1).f0) == a1_0 && (((rd_T56 l0 x5_1).f1) == a1_1 && ((((rd_T56 l0 x5_1).f2.f0) == a1_2 && (((rd_T56 l0 x5_1).f2.f1) == a1_3 && (((rd_T56 l0 x5_1).f2.f2) == a1_4)))))) = true then (some l0) else (if x5_1 ≤ (l0.length : Int) then ((some (l0.take (x5_1 : Int).toNat : List (S56))).bind fun y211 => (if ([] : List (S56)).length + y211.length < 3518437208883 then ((some (([] : List (S56)) ++ y211 : List (S56))).bind fun y215 => ((some (([(⟨a1_0, a1_1, (⟨a1_2, a1_3, a1_4⟩ : S34)⟩ : S56)] : List (S56)) : List (S56))).bind fun y218 => (if y215.length + y218.length < 3518437208883 then ((some (y215 ++ y218 : List (S56))).bind fun y221 => ((some (l0.drop (x5_1 : Int).toNat : List (S56))).bind fun y224 => (if y221.length + y224.length < 3518437208883 then (some (y221 ++ y224)) else (none)))) else (none)))) else (none))) else (none)))) = some r := H
          have A6 := Aside0.mk A60
          clear A60
          by_cases c7 : t209 = true
          · subst c7
            have H1 : (skymosaicref32_put.l0 k1 l0 (wrap64 (x5_1 + 1)) a1_0 a1_1 a1_2 a1_3 a1_4) = some r := by rw [if_pos rfl] at H; exact H
            clear H
            have H := H1
            clear H1
            have H' := Aside0.mk H
            clear H
            obtain ⟨Ao8, co8, eo8⟩ := Kd.R_slice HO_0.out
            subst eo8
            try go_wp2
            have n0_ := Aside0.mk (Kd.R_drew HO_0.out)
            have n1_ := Aside0.mk (blk_drew BK207.out)
            have n2_ := Aside0.mk (Kept.drew HK.out)
            have n3_ := Aside0.mk (below_drew1 HB.out)
            clear HO_0
            clear BK207
            clear HK
            clear HB
            have HO_0 := n0_
            have BK207 := n1_
            have HK := n2_
            have HB := n3_
            clear n0_ n1_ n2_ n3_
            have p208 : 0 ≤ (x5_1 : Int) := of_decide_eq_true (by first | (with_reducible assumption) | assumption)
            have q208 : x5_1 < (l0.length : Int) := of_decide_eq_true (by first | (with_reducible assumption) | assumption)
            obtain ⟨ad208, e208, hx208_0, hx208_1, hx208_2, hx208_3, hx208_4⟩ := at_T56 (Kd.R_reads' HO_0.out).2.2 x5_1 p208 q208
            cases e208
            replace p208 := eq_true p208
            replace q208 := eq_true q208
            refine start_ (n := 7) (S := fun w' => w'.cell? ⟨gb207, 0, none⟩ = some (.int .i64 a1_0) ∧ w'.cell? ⟨gb207, 1, none⟩ = some (.int .i64 a1_1) ∧ w'.cell? ⟨gb207, 2, none⟩ = some (.int .i64 a1_2) ∧ w'.cell? ⟨gb207, 3, none⟩ = some (.int .i64 a1_3) ∧ w'.cell? ⟨gb207, 4, none⟩ = some (.int .i64 a1_4) ∧ w'.cell? (ad208.add ((x5_1).toNat * 5)) = some (.int .i64 ((rd_T56 l0 x5_1).f0)) ∧ w'.cell? ⟨(ad208.add ((x5_1).toNat * 5)).block, (ad208.add ((x5_1).toNat * 5)).off + 1, none⟩ = some (.int .i64 ((rd_T56 l0 x5_1).f1)) ∧ w'.cell? ⟨(ad208.add ((x5_1).toNat * 5)).block, (ad208.add ((x5_1).toNat * 5)).off + 2, none⟩ = some (.int .i64 ((rd_T56 l0 x5_1).f2.f0)) ∧ w'.cell? ⟨(ad208.add ((x5_1).toNat * 5)).block, (ad208.add ((x5_1).toNat * 5)).off + 3, none⟩ = some (.int .i64 ((rd_T56 l0 x5_1).f2.f1)) ∧ w'.cell? ⟨(ad208.add ((x5_1).toNat * 5)).block, (ad208.add ((x5_1).toNat * 5)).off + 4, none⟩ = some (.int .i64 ((rd_T56 l0 x5_1).f2.f2))) (ds := []) #[false, false, false, false, false, false, false] (by kernel_rfl) rfl rfl ⟨(blk_cell BK207.out 0).trans rfl, (blk_cell BK207.out 1).trans rfl, (blk_cell BK207.out 2).trans rfl, (blk_cell BK207.out 3).trans rfl, (blk_cell BK207.out 4).trans rfl, hx208_0, hx208_1, hx208_2, hx208_3, hx208_4⟩ (fun hHeld => ?_)
            generalize wr.drew = w9 at HO_0 BK207 HK HB hx208_0 hx208_1 hx208_2 hx208_3 hx208_4 hHeld ⊢
            refine pure_ (i := 0) (N := some 12) (v := ?_) (a' := ?_) #[true, false, false, false, false, false, false] rfl rfl (by kernel_rfl) (fun _ _ _ h => h) (Or.inl ⟨by rfl, ?_⟩) ?_ ?_
            rotate_left
            · intro w'
              go_simp
              with_reducible rfl
            rotate_left
            · simp only [Act.put, List.setIfInBounds_toArray, List.set_cons_zero, List.set_cons_succ, i64_w, i32_w]
              rfl
            refine pure_ (i := 1) (N := some 13) (v := ?_) (a' := ?_) #[true, true, false, false, false, false, false] rfl rfl (by kernel_rfl) (fun _ _ _ h => h) (Or.inl ⟨by rfl, ?_⟩) ?_ ?_
            rotate_left
            · intro w'
              go_simp
              with_reducible rfl
            rotate_left
            · simp only [Act.put, List.setIfInBounds_toArray, List.set_cons_zero, List.set_cons_succ, i64_w, i32_w]
              rfl
            refine pure_ (i := 2) (N := some 14) (v := ?_) (a' := ?_) #[true, true, true, false, false, false, false] rfl rfl (by kernel_rfl) (fun _ _ _ h => h) (Or.inl ⟨by rfl, ?_⟩) ?_ ?_
            rotate_left
            · intro w'
              go_simp
              with_reducible rfl
            rotate_left
            · simp only [Act.put, List.setIfInBounds_toArray, List.set_cons_zero, List.set_cons_succ, i64_w, i32_w]
              rfl
            refine take_ (i := 3) (N := some 15) (v := ?_) (a' := ?_) #[true, true, true, true, false, false, false] rfl rfl (by kernel_rfl) (fun _ _ _ h => h) (Or.inl ⟨by rfl, ?_⟩) hHeld ?_ ?_
            rotate_left
            · rintro w' ⟨s0, s1, s2, s3, s4, s5, s6, s7, s8, s9⟩
              go_simp
              with_reducible rfl
            rotate_left
            · simp only [Act.put, List.setIfInBounds_toArray, List.set_cons_zero, List.set_cons_succ, i64_w, i32_w]
              rfl
            refine take_ (i := 4) (N := some 16) (v := ?_) (a' := ?_) #[true, true, true, true, true, false, false] rfl rfl (by kernel_rfl) (fun _ _ _ h => h) (Or.inl ⟨by rfl, ?_⟩) hHeld ?_ ?_
            rotate_left
            · rintro w' ⟨s0, s1, s2, s3, s4, s5, s6, s7, s8, s9⟩
              go_simp
              with_reducible rfl
            rotate_left
            · simp only [Act.put, List.setIfInBounds_toArray, List.set_cons_zero, List.set_cons_succ, i64_w, i32_w]
              rfl
            refine one_ (i := 5) (N := some 17) #[true, true, true, true, true, true, false] rfl rfl (by kernel_rfl) (by decide) (fun K hK => ?_)
            refine goes_ Try.func57 (by kernel_rfl) rfl #[.agg #[.int .i64 ((rd_T56 l0 x5_1).f0), .int .i64 ((rd_T56 l0 x5_1).f1), .int .i64 ((rd_T56 l0 x5_1).f2.f0), .int .i64 ((rd_T56 l0 x5_1).f2.f1), .int .i64 ((rd_T56 l0 x5_1).f2.f2)], .agg #[.int .i64 a1_0, .int .i64 a1_1, .int .i64 a1_2, .int .i64 a1_3, .int .i64 a1_4]] (by rfl) rfl rfl (by (try simp only [List.map_toArray, List.map_cons, List.map_nil]); first | done | rfl | (simp only [List.length_drop, List.length_take]; rfl)) ?_
            with_reducible refine (skymosaicref32_Less.calls ((rd_T56 l0 x5_1).f0) ((rd_T56 l0 x5_1).f1) ((rd_T56 l0 x5_1).f2.f0) ((rd_T56 l0 x5_1).f2.f1) ((rd_T56 l0 x5_1).f2.f2) a1_0 a1_1 a1_2 a1_3 a1_4 true _ A6.out).mono ?_
            rintro e w10 ⟨rfl, hb⟩
            have HS5_ := (hb.cell (World.block_lt_of_cell? _ _ (hHeld.2.2.2.2.2.1))).trans (hHeld.2.2.2.2.2.1)
            have HS6_ := (hb.cell (World.block_lt_of_cell? _ _ (hHeld.2.2.2.2.2.2.1))).trans (hHeld.2.2.2.2.2.2.1)
            have HS7_ := (hb.cell (World.block_lt_of_cell? _ _ (hHeld.2.2.2.2.2.2.2.1))).trans (hHeld.2.2.2.2.2.2.2.1)
            have HS8_ := (hb.cell (World.block_lt_of_cell? _ _ (hHeld.2.2.2.2.2.2.2.2.1))).trans (hHeld.2.2.2.2.2.2.2.2.1)
            have HS9_ := (hb.cell (World.block_lt_of_cell? _ _ (hHeld.2.2.2.2.2.2.2.2.2))).trans (hHeld.2.2.2.2.2.2.2.2.2)
            refine ⟨_, rfl, ?_⟩
            have n0_ := Aside0.mk (Kd.R_below (by (with_reducible repeat (first | apply Kd.R_alloc | apply Kd.R_drewN | apply Kd.R_drew)); exact HO_0.out) hb)
            have n1_ := Aside0.mk (blk_below (g := gb207) (o := .cells #[.int .i64 a1_0, .int .i64 a1_1, .int .i64 a1_2, .int .i64 a1_3, .int .i64 a1_4] 56 (0, 0)) (by (with_reducible repeat (first | refine blk_drewN ?_ _ | refine blk_drew ?_ | refine blk_alloc ?_ _)); exact BK207.out) hb)
            have n2_ := Aside0.mk (Kept.below (S := (fun k_ => P0_ k_)) (by repeat (first | (with_reducible first | exact HK.out | apply Kept.alloc | apply Kept.drewN | apply Kept.drew | refine Kept.setCell ?_ (.inr GW207.out) _) | exact HK.out)) hb)
            have n3_ := Aside0.mk (below_step (by repeat (first | (with_reducible first | exact HB.out | apply below_alloc | apply pw_below_drewN | apply below_drew1 | refine below_set ?_ GE207.out) | exact HB.out)) hb)
            clear HO_0
            clear BK207
            clear HK
            clear HB
            have HO_0 := n0_
            have BK207 := n1_
            have HK := n2_
            have HB := n3_
            clear n0_ n1_ n2_ n3_
            (try clear hb)
            (try clear hb2)
            (try clear hk)
            (try clear hi)
            refine hK.out _ _ ⟨(blk_cell BK207.out 0).trans rfl, (blk_cell BK207.out 1).trans rfl, (blk_cell BK207.out 2).trans rfl, (blk_cell BK207.out 3).trans rfl, (blk_cell BK207.out 4).trans rfl, HS5_, HS6_, HS7_, HS8_, HS9_⟩ (fun hHeld => ?_)
            clear hK K
            refine norm_ (a' := ?_) ?_ ?_
            rotate_left
            · show Act.put _ (some 17) _ = _
              simp only [Act.put, List.setIfInBounds_toArray, List.set_cons_zero, List.set_cons_succ, i64_w, i32_w]
              rfl
            refine pure_ (i := 6) (N := some 6) (v := ?_) (a' := ?_) #[true, true, true, true, true, true, true] rfl rfl (by kernel_rfl) (fun _ _ _ h => h) (Or.inl ⟨by rfl, ?_⟩) ?_ ?_
            rotate_left
            · intro w'
              go_simp
              with_reducible rfl
            rotate_left
            · simp only [Act.put, List.setIfInBounds_toArray, List.set_cons_zero, List.set_cons_succ, i64_w, i32_w]
              rfl
            refine done_ (by kernel_rfl) ?_
            try go_wp2
            go_roundg k1
            case measure => have := HK1.out; omega
            case rel => exact ⟨(wrap64 (x5_1 + 1)), (by first | rfl | (simp; done) | (simp [*]; done)), H', ⟨by have := HK1.out; omega⟩, ⟨by (with_reducible repeat (first | apply Kd.R_alloc | apply Kd.R_drewN | apply Kd.R_drew)); exact HO_0.out⟩, ⟨by (with_reducible repeat (first | refine blk_drewN ?_ _ | refine blk_drew ?_ | refine blk_alloc ?_ _)); exact BK207.out⟩, ⟨by repeat (first | (with_reducible first | exact HK.out | apply Kept.alloc | apply Kept.drewN | apply Kept.drew | refine Kept.setCell ?_ (.inr GW207.out) _) | exact HK.out)⟩, ⟨by repeat (first | (with_reducible first | exact HB.out | apply below_alloc | apply pw_below_drewN | apply below_drew1 | refine below_set ?_ GE207.out) | exact HB.out)⟩⟩
          · replace c7 := Bool.eq_false_iff.mpr c7
            subst c7
            have H1 : (if (((rd_T56 l0 x5_1).f0) == a1_0 && (((rd_T56 l0 x5_1).f1) == a1_1 && ((((rd_T56 l0 x5_1).f2.f0) == a1_2 && (((rd_T56 l0 x5_1).f2.f1) == a1_3 && (((rd_T56 l0 x5_1).f2.f2) == a1_4)))))) = true then (some l0) else (if x5_1 ≤ (l0.length : Int) then ((some (l0.take (x5_1 : Int).toNat : List (S56))).bind fun y211 => (if ([] : List (S56)).length + y211.length < 3518437208883 then ((some (([] : List (S56)) ++ y211 : List (S56))).bind fun y215 => ((some (([(⟨a1_0, a1_1, (⟨a1_2, a1_3, a1_4⟩ : S34)⟩ : S56)] : List (S56)) : List (S56))).bind fun y218 => (if y215.length + y218.length < 3518437208883 then ((some (y215 ++ y218 : List (S56))).bind fun y221 => ((some (l0.drop (x5_1 : Int).toNat : List (S56))).bind fun y224 => (if y221.length + y224.length < 3518437208883 then (some (y221 ++ y224)) else (none)))) else (none)))) else (none))) else (none))) = some r := by rw [if_neg (show ¬ (false = true) by decide)] at H; exact H
            clear H
            have H := H1
            clear H1
            by_cases c11 : (((rd_T56 l0 x5_1).f0) == a1_0 && (((rd_T56 l0 x5_1).f1) == a1_1 && ((((rd_T56 l0 x5_1).f2.f0) == a1_2 && (((rd_T56 l0 x5_1).f2.f1) == a1_3 && (((rd_T56 l0 x5_1).f2.f2) == a1_4)))))) = true
            · rw [if_pos c11] at H
              have c11b0 : (((rd_T56 l0 x5_1).f0) == a1_0 && (((rd_T56 l0 x5_1).f1) == a1_1 && ((((rd_T56 l0 x5_1).f2.f0) == a1_2 && (((rd_T56 l0 x5_1).f2.f1) == a1_3 && (((rd_T56 l0 x5_1).f2.f2) == a1_4)))))) = true := c11
              (try (have c11b1 : decide (((rd_T56 l0 x5_1).f0) = a1_0 && (((rd_T56 l0 x5_1).f1) == a1_1 && ((((rd_T56 l0 x5_1).f2.f0) == a1_2 && (((rd_T56 l0 x5_1).f2.f1) == a1_3 && (((rd_T56 l0 x5_1).f2.f2) == a1_4)))))) = true := by simpa using c11))
              (try (have c11b2 : (((rd_T56 l0 x5_1).f0) == a1_0 && (((rd_T56 l0 x5_1).f1) == a1_1 && ((((rd_T56 l0 x5_1).f2.f0) == a1_2 && (((rd_T56 l0 x5_1).f2.f1) == a1_3 && (((rd_T56 l0 x5_1).f2.f2) == a1_4)))))) = true := by simpa using c11))
              clear c11
              obtain rfl := Option.some.inj H
              obtain ⟨Ao12, co12, eo12⟩ := Kd.R_slice HO_0.out
              subst eo12
              try go_wp2
              have n0_ := Aside0.mk (Kd.R_drew HO_0.out)
              have n1_ := Aside0.mk (blk_drew BK207.out)
              have n2_ := Aside0.mk (Kept.drew HK.out)
              have n3_ := Aside0.mk (below_drew1 HB.out)
              clear HO_0
              clear BK207
              clear HK
              clear HB
              have HO_0 := n0_
              have BK207 := n1_
              have HK := n2_
              have HB := n3_
              clear n0_ n1_ n2_ n3_
              have p208 : 0 ≤ (x5_1 : Int) := of_decide_eq_true (by first | (with_reducible assumption) | assumption)
              have q208 : x5_1 < (l0.length : Int) := of_decide_eq_true (by first | (with_reducible assumption) | assumption)
              obtain ⟨ad208, e208, hx208_0, hx208_1, hx208_2, hx208_3, hx208_4⟩ := at_T56 (Kd.R_reads' HO_0.out).2.2 x5_1 p208 q208
              cases e208
              replace p208 := eq_true p208
              replace q208 := eq_true q208
              refine start_ (n := 7) (S := fun w' => w'.cell? ⟨gb207, 0, none⟩ = some (.int .i64 a1_0) ∧ w'.cell? ⟨gb207, 1, none⟩ = some (.int .i64 a1_1) ∧ w'.cell? ⟨gb207, 2, none⟩ = some (.int .i64 a1_2) ∧ w'.cell? ⟨gb207, 3, none⟩ = some (.int .i64 a1_3) ∧ w'.cell? ⟨gb207, 4, none⟩ = some (.int .i64 a1_4) ∧ w'.cell? (ad208.add ((x5_1).toNat * 5)) = some (.int .i64 ((rd_T56 l0 x5_1).f0)) ∧ w'.cell? ⟨(ad208.add ((x5_1).toNat * 5)).block, (ad208.add ((x5_1).toNat * 5)).off + 1, none⟩ = some (.int .i64 ((rd_T56 l0 x5_1).f1)) ∧ w'.cell? ⟨(ad208.add ((x5_1).toNat * 5)).block, (ad208.add ((x5_1).toNat * 5)).off + 2, none⟩ = some (.int .i64 ((rd_T56 l0 x5_1).f2.f0)) ∧ w'.cell? ⟨(ad208.add ((x5_1).toNat * 5)).block, (ad208.add ((x5_1).toNat * 5)).off + 3, none⟩ = some (.int .i64 ((rd_T56 l0 x5_1).f2.f1)) ∧ w'.cell? ⟨(ad208.add ((x5_1).toNat * 5)).block, (ad208.add ((x5_1).toNat * 5)).off + 4, none⟩ = some (.int .i64 ((rd_T56 l0 x5_1).f2.f2))) (ds := []) #[false, false, false, false, false, false, false] (by kernel_rfl) rfl rfl ⟨(blk_cell BK207.out 0).trans rfl, (blk_cell BK207.out 1).trans rfl, (blk_cell BK207.out 2).trans rfl, (blk_cell BK207.out 3).trans rfl, (blk_cell BK207.out 4).trans rfl, hx208_0, hx208_1, hx208_2, hx208_3, hx208_4⟩ (fun hHeld => ?_)
              generalize wr.drew = w13 at HO_0 BK207 HK HB hx208_0 hx208_1 hx208_2 hx208_3 hx208_4 hHeld ⊢
              refine pure_ (i := 0) (N := some 12) (v := ?_) (a' := ?_) #[true, false, false, false, false, false, false] rfl rfl (by kernel_rfl) (fun _ _ _ h => h) (Or.inl ⟨by rfl, ?_⟩) ?_ ?_
              rotate_left
              · intro w'
                go_simp
                with_reducible rfl
              rotate_left
              · simp only [Act.put, List.setIfInBounds_toArray, List.set_cons_zero, List.set_cons_succ, i64_w, i32_w]
                rfl
              refine pure_ (i := 1) (N := some 13) (v := ?_) (a' := ?_) #[true, true, false, false, false, false, false] rfl rfl (by kernel_rfl) (fun _ _ _ h => h) (Or.inl ⟨by rfl, ?_⟩) ?_ ?_
              rotate_left
              · intro w'
                go_simp
                with_reducible rfl
              rotate_left
              · simp only [Act.put, List.setIfInBounds_toArray, List.set_cons_zero, List.set_cons_succ, i64_w, i32_w]
                rfl
              refine pure_ (i := 2) (N := some 14) (v := ?_) (a' := ?_) #[true, true, true, false, false, false, false] rfl rfl (by kernel_rfl) (fun _ _ _ h => h) (Or.inl ⟨by rfl, ?_⟩) ?_ ?_
              rotate_left
              · intro w'
                go_simp
                with_reducible rfl
              rotate_left
              · simp only [Act.put, List.setIfInBounds_toArray, List.set_cons_zero, List.set_cons_succ, i64_w, i32_w]
                rfl
              refine take_ (i := 3) (N := some 15) (v := ?_) (a' := ?_) #[true, true, true, true, false, false, false] rfl rfl (by kernel_rfl) (fun _ _ _ h => h) (Or.inl ⟨by rfl, ?_⟩) hHeld ?_ ?_
              rotate_left
              · rintro w' ⟨s0, s1, s2, s3, s4, s5, s6, s7, s8, s9⟩
                go_simp
                with_reducible rfl
              rotate_left
              · simp only [Act.put, List.setIfInBounds_toArray, List.set_cons_zero, List.set_cons_succ, i64_w, i32_w]
                rfl
              refine take_ (i := 4) (N := some 16) (v := ?_) (a' := ?_) #[true, true, true, true, true, false, false] rfl rfl (by kernel_rfl) (fun _ _ _ h => h) (Or.inl ⟨by rfl, ?_⟩) hHeld ?_ ?_
              rotate_left
              · rintro w' ⟨s0, s1, s2, s3, s4, s5, s6, s7, s8, s9⟩
                go_simp
                with_reducible rfl
              rotate_left
              · simp only [Act.put, List.setIfInBounds_toArray, List.set_cons_zero, List.set_cons_succ, i64_w, i32_w]
                rfl
              refine one_ (i := 5) (N := some 17) #[true, true, true, true, true, true, false] rfl rfl (by kernel_rfl) (by decide) (fun K hK => ?_)
              refine goes_ Try.func57 (by kernel_rfl) rfl #[.agg #[.int .i64 ((rd_T56 l0 x5_1).f0), .int .i64 ((rd_T56 l0 x5_1).f1), .int .i64 ((rd_T56 l0 x5_1).f2.f0), .int .i64 ((rd_T56 l0 x5_1).f2.f1), .int .i64 ((rd_T56 l0 x5_1).f2.f2)], .agg #[.int .i64 a1_0, .int .i64 a1_1, .int .i64 a1_2, .int .i64 a1_3, .int .i64 a1_4]] (by rfl) rfl rfl (by (try simp only [List.map_toArray, List.map_cons, List.map_nil]); first | done | rfl | (simp only [List.length_drop, List.length_take]; rfl)) ?_
              with_reducible refine (skymosaicref32_Less.calls ((rd_T56 l0 x5_1).f0) ((rd_T56 l0 x5_1).f1) ((rd_T56 l0 x5_1).f2.f0) ((rd_T56 l0 x5_1).f2.f1) ((rd_T56 l0 x5_1).f2.f2) a1_0 a1_1 a1_2 a1_3 a1_4 false _ A6.out).mono ?_
              rintro e w14 ⟨rfl, hb⟩
              have HS5_ := (hb.cell (World.block_lt_of_cell? _ _ (hHeld.2.2.2.2.2.1))).trans (hHeld.2.2.2.2.2.1)
              have HS6_ := (hb.cell (World.block_lt_of_cell? _ _ (hHeld.2.2.2.2.2.2.1))).trans (hHeld.2.2.2.2.2.2.1)
              have HS7_ := (hb.cell (World.block_lt_of_cell? _ _ (hHeld.2.2.2.2.2.2.2.1))).trans (hHeld.2.2.2.2.2.2.2.1)
              have HS8_ := (hb.cell (World.block_lt_of_cell? _ _ (hHeld.2.2.2.2.2.2.2.2.1))).trans (hHeld.2.2.2.2.2.2.2.2.1)
              have HS9_ := (hb.cell (World.block_lt_of_cell? _ _ (hHeld.2.2.2.2.2.2.2.2.2))).trans (hHeld.2.2.2.2.2.2.2.2.2)
              refine ⟨_, rfl, ?_⟩
              have n0_ := Aside0.mk (Kd.R_below (by (with_reducible repeat (first | apply Kd.R_alloc | apply Kd.R_drewN | apply Kd.R_drew)); exact HO_0.out) hb)
              have n1_ := Aside0.mk (blk_below (g := gb207) (o := .cells #[.int .i64 a1_0, .int .i64 a1_1, .int .i64 a1_2, .int .i64 a1_3, .int .i64 a1_4] 56 (0, 0)) (by (with_reducible repeat (first | refine blk_drewN ?_ _ | refine blk_drew ?_ | refine blk_alloc ?_ _)); exact BK207.out) hb)
              have n2_ := Aside0.mk (Kept.below (S := (fun k_ => P0_ k_)) (by repeat (first | (with_reducible first | exact HK.out | apply Kept.alloc | apply Kept.drewN | apply Kept.drew | refine Kept.setCell ?_ (.inr GW207.out) _) | exact HK.out)) hb)
              have n3_ := Aside0.mk (below_step (by repeat (first | (with_reducible first | exact HB.out | apply below_alloc | apply pw_below_drewN | apply below_drew1 | refine below_set ?_ GE207.out) | exact HB.out)) hb)
              clear HO_0
              clear BK207
              clear HK
              clear HB
              have HO_0 := n0_
              have BK207 := n1_
              have HK := n2_
              have HB := n3_
              clear n0_ n1_ n2_ n3_
              (try clear hb)
              (try clear hb2)
              (try clear hk)
              (try clear hi)
              refine hK.out _ _ ⟨(blk_cell BK207.out 0).trans rfl, (blk_cell BK207.out 1).trans rfl, (blk_cell BK207.out 2).trans rfl, (blk_cell BK207.out 3).trans rfl, (blk_cell BK207.out 4).trans rfl, HS5_, HS6_, HS7_, HS8_, HS9_⟩ (fun hHeld => ?_)
              clear hK K
              refine norm_ (a' := ?_) ?_ ?_
              rotate_left
              · show Act.put _ (some 17) _ = _
                simp only [Act.put, List.setIfInBounds_toArray, List.set_cons_zero, List.set_cons_succ, i64_w, i32_w]
                rfl
              refine pure_ (i := 6) (N := some 6) (v := ?_) (a' := ?_) #[true, true, true, true, true, true, true] rfl rfl (by kernel_rfl) (fun _ _ _ h => h) (Or.inl ⟨by rfl, ?_⟩) ?_ ?_
              rotate_left
              · intro w'
                go_simp
                with_reducible rfl
              rotate_left
              · simp only [Act.put, List.setIfInBounds_toArray, List.set_cons_zero, List.set_cons_succ, i64_w, i32_w]
                rfl
              refine done_ (by kernel_rfl) ?_
              try go_wp2
              have n0_ := Aside0.mk (Kd.R_drew HO_0.out)
              have n1_ := Aside0.mk (blk_drew BK207.out)
              have n2_ := Aside0.mk (Kept.drew HK.out)
              have n3_ := Aside0.mk (below_drew1 HB.out)
              clear HO_0
              clear BK207
              clear HK
              clear HB
              have HO_0 := n0_
              have BK207 := n1_
              have HK := n2_
              have HB := n3_
              clear n0_ n1_ n2_ n3_
              have p210 : 0 ≤ (x5_1 : Int) := of_decide_eq_true (by first | (with_reducible assumption) | assumption)
              have q210 : x5_1 < (l0.length : Int) := of_decide_eq_true (by first | (with_reducible assumption) | assumption)
              obtain ⟨ad210, e210, hx210_0, hx210_1, hx210_2, hx210_3, hx210_4⟩ := at_T56 (Kd.R_reads' HO_0.out).2.2 x5_1 p210 q210
              obtain rfl : ad208 = ad210 := (by injection e210)
              replace p210 := eq_true p210
              replace q210 := eq_true q210
              refine start_ (n := 12) (S := fun w' => w'.cell? ⟨gb207, 0, none⟩ = some (.int .i64 a1_0) ∧ w'.cell? ⟨gb207, 1, none⟩ = some (.int .i64 a1_1) ∧ w'.cell? ⟨gb207, 2, none⟩ = some (.int .i64 a1_2) ∧ w'.cell? ⟨gb207, 3, none⟩ = some (.int .i64 a1_3) ∧ w'.cell? ⟨gb207, 4, none⟩ = some (.int .i64 a1_4) ∧ w'.cell? (ad208.add ((x5_1).toNat * 5)) = some (.int .i64 ((rd_T56 l0 x5_1).f0)) ∧ w'.cell? ⟨(ad208.add ((x5_1).toNat * 5)).block, (ad208.add ((x5_1).toNat * 5)).off + 1, none⟩ = some (.int .i64 ((rd_T56 l0 x5_1).f1)) ∧ w'.cell? ⟨(ad208.add ((x5_1).toNat * 5)).block, (ad208.add ((x5_1).toNat * 5)).off + 2, none⟩ = some (.int .i64 ((rd_T56 l0 x5_1).f2.f0)) ∧ w'.cell? ⟨(ad208.add ((x5_1).toNat * 5)).block, (ad208.add ((x5_1).toNat * 5)).off + 3, none⟩ = some (.int .i64 ((rd_T56 l0 x5_1).f2.f1)) ∧ w'.cell? ⟨(ad208.add ((x5_1).toNat * 5)).block, (ad208.add ((x5_1).toNat * 5)).off + 4, none⟩ = some (.int .i64 ((rd_T56 l0 x5_1).f2.f2))) (ds := []) #[false, false, false, false, false, false, false, false, false, false, false, false] (by kernel_rfl) rfl rfl ⟨(blk_cell BK207.out 0).trans rfl, (blk_cell BK207.out 1).trans rfl, (blk_cell BK207.out 2).trans rfl, (blk_cell BK207.out 3).trans rfl, (blk_cell BK207.out 4).trans rfl, hx210_0, hx210_1, hx210_2, hx210_3, hx210_4⟩ (fun hHeld => ?_); refine with_tabW skymosaicref32_put.tab6 skymosaicref32_put.bits6 (fun HT_ HW_ => ?_)
              generalize w14.drew = w15 at HO_0 BK207 HK HB hx210_0 hx210_1 hx210_2 hx210_3 hx210_4 hHeld ⊢
              refine pure_ (i := 0) (N := some 22) (v := ?_) (a' := ?_) #[true, false, false, false, false, false, false, false, false, false, false, false] rfl rfl (any_of HT_.out (by kernel_rfl)) (fun _ _ _ h => h) (Or.inl ⟨by rfl, ?_⟩) ?_ ?_
              rotate_left
              · intro w'
                go_simp
                with_reducible rfl
              rotate_left
              · simp only [Act.put, List.setIfInBounds_toArray, List.set_cons_zero, List.set_cons_succ, i64_w, i32_w]
                rfl
              refine pure_ (i := 1) (N := some 23) (v := ?_) (a' := ?_) #[true, true, false, false, false, false, false, false, false, false, false, false] rfl rfl (any_of HT_.out (by kernel_rfl)) (fun _ _ _ h => h) (Or.inl ⟨by rfl, ?_⟩) ?_ ?_
              rotate_left
              · intro w'
                go_simp
                with_reducible rfl
              rotate_left
              · simp only [Act.put, List.setIfInBounds_toArray, List.set_cons_zero, List.set_cons_succ, i64_w, i32_w]
                rfl
              refine pure_ (i := 2) (N := some 24) (v := ?_) (a' := ?_) #[true, true, true, false, false, false, false, false, false, false, false, false] rfl rfl (any_of HT_.out (by kernel_rfl)) (fun _ _ _ h => h) (Or.inl ⟨by rfl, ?_⟩) ?_ ?_
              rotate_left
              · intro w'
                go_simp
                with_reducible rfl
              rotate_left
              · simp only [Act.put, List.setIfInBounds_toArray, List.set_cons_zero, List.set_cons_succ, i64_w, i32_w]
                rfl
              refine pure_ (i := 3) (N := some 25) (v := ?_) (a' := ?_) #[true, true, true, true, false, false, false, false, false, false, false, false] rfl rfl (any_of HT_.out (by kernel_rfl)) (fun _ _ _ h => h) (Or.inl ⟨by rfl, ?_⟩) ?_ ?_
              rotate_left
              · intro w'
                go_simp
                with_reducible rfl
              rotate_left
              · simp only [Act.put, List.setIfInBounds_toArray, List.set_cons_zero, List.set_cons_succ, i64_w, i32_w]
                rfl
              refine pure_ (i := 4) (N := some 26) (v := ?_) (a' := ?_) #[true, true, true, true, true, false, false, false, false, false, false, false] rfl rfl (any_of HT_.out (by kernel_rfl)) (fun _ _ _ h => h) (Or.inl ⟨by rfl, ?_⟩) ?_ ?_
              rotate_left
              · intro w'
                go_simp
                with_reducible rfl
              rotate_left
              · simp only [Act.put, List.setIfInBounds_toArray, List.set_cons_zero, List.set_cons_succ, i64_w, i32_w]
                rfl
              refine pure_ (i := 5) (N := some 27) (v := ?_) (a' := ?_) #[true, true, true, true, true, true, false, false, false, false, false, false] rfl rfl (any_of HT_.out (by kernel_rfl)) (fun _ _ _ h => h) (Or.inl ⟨by rfl, ?_⟩) ?_ ?_
              rotate_left
              · intro w'
                go_simp
                with_reducible rfl
              rotate_left
              · simp only [Act.put, List.setIfInBounds_toArray, List.set_cons_zero, List.set_cons_succ, i64_w, i32_w]
                rfl
              refine pure_ (i := 6) (N := some 28) (v := ?_) (a' := ?_) #[true, true, true, true, true, true, true, false, false, false, false, false] rfl rfl (any_of HT_.out (by kernel_rfl)) (fun _ _ _ h => h) (Or.inl ⟨by rfl, ?_⟩) ?_ ?_
              rotate_left
              · intro w'
                go_simp
                with_reducible rfl
              rotate_left
              · simp only [Act.put, List.setIfInBounds_toArray, List.set_cons_zero, List.set_cons_succ, i64_w, i32_w]
                rfl
              refine pure_ (i := 7) (N := some 29) (v := ?_) (a' := ?_) #[true, true, true, true, true, true, true, true, false, false, false, false] rfl rfl (any_of HT_.out (by kernel_rfl)) (fun _ _ _ h => h) (Or.inl ⟨by rfl, ?_⟩) ?_ ?_
              rotate_left
              · intro w'
                go_simp
                with_reducible rfl
              rotate_left
              · simp only [Act.put, List.setIfInBounds_toArray, List.set_cons_zero, List.set_cons_succ, i64_w, i32_w]
                rfl
              refine take_ (i := 8) (N := some 30) (v := ?_) (a' := ?_) #[true, true, true, true, true, true, true, true, true, false, false, false] rfl rfl (take_ofW HT_.out HW_.out (by kernel_rfl)) (fun _ _ _ h => h) (Or.inl ⟨by rfl, ?_⟩) hHeld ?_ ?_
              rotate_left
              · rintro w' ⟨s0, s1, s2, s3, s4, s5, s6, s7, s8, s9⟩
                go_simp
                with_reducible rfl
              rotate_left
              · simp only [Act.put, List.setIfInBounds_toArray, List.set_cons_zero, List.set_cons_succ, i64_w, i32_w]
                rfl
              refine take_ (i := 9) (N := some 31) (v := ?_) (a' := ?_) #[true, true, true, true, true, true, true, true, true, true, false, false] rfl rfl (take_ofW HT_.out HW_.out (by kernel_rfl)) (fun _ _ _ h => h) (Or.inl ⟨by rfl, ?_⟩) hHeld ?_ ?_
              rotate_left
              · rintro w' ⟨s0, s1, s2, s3, s4, s5, s6, s7, s8, s9⟩
                go_simp
                with_reducible rfl
              rotate_left
              · simp only [Act.put, List.setIfInBounds_toArray, List.set_cons_zero, List.set_cons_succ, i64_w, i32_w]
                rfl
              refine pure_ (i := 10) (N := some 32) (v := ?_) (a' := ?_) #[true, true, true, true, true, true, true, true, true, true, true, false] rfl rfl (any_of HT_.out (by kernel_rfl)) (fun _ _ _ h => h) (Or.inl ⟨by rfl, ?_⟩) ?_ ?_
              rotate_left
              · intro w'
                go_simp
                with_reducible rfl
              rotate_left
              · simp only [Act.put, List.setIfInBounds_toArray, List.set_cons_zero, List.set_cons_succ, i64_w, i32_w]
                rfl
              refine pure_ (i := 11) (N := some 33) (v := ?_) (a' := ?_) #[true, true, true, true, true, true, true, true, true, true, true, true] rfl rfl (any_of HT_.out (by kernel_rfl)) (fun _ _ _ h => h) (Or.inl ⟨by rfl, ?_⟩) ?_ ?_
              rotate_left
              · intro w'
                go_simp
                with_reducible rfl
              rotate_left
              · simp only [Act.put, List.setIfInBounds_toArray, List.set_cons_zero, List.set_cons_succ, i64_w, i32_w]
                rfl
              refine done_ (done_of HT_.out (by kernel_rfl)) ?_
              try go_wp2
              go_ret
              exact ⟨_, by first | rfl | (simp [errW_none, errW_some] <;> rfl) | (simp [*, errW_none, errW_some] <;> rfl), by (with_reducible repeat (first | apply Kd.R_alloc | apply Kd.R_drewN | apply Kd.R_drew)); exact Kd.R_mono HO_0.out (fun _ hk => hk.1), by repeat (first | (with_reducible first | exact HB.out | apply below_alloc | apply pw_below_drewN | apply below_drew1 | refine below_set ?_ GE207.out) | exact HB.out), by repeat (first | (with_reducible first | exact HK.out | apply Kept.alloc | apply Kept.drewN | apply Kept.drew | refine Kept.setCell ?_ (.inr GW207.out) _) | exact HK.out)⟩
            · rw [if_neg c11] at H
              have c11b0 : (((rd_T56 l0 x5_1).f0) == a1_0 && (((rd_T56 l0 x5_1).f1) == a1_1 && ((((rd_T56 l0 x5_1).f2.f0) == a1_2 && (((rd_T56 l0 x5_1).f2.f1) == a1_3 && (((rd_T56 l0 x5_1).f2.f2) == a1_4)))))) = false := by simpa using c11
              (try (have c11b1 : decide (((rd_T56 l0 x5_1).f0) = a1_0 && (((rd_T56 l0 x5_1).f1) == a1_1 && ((((rd_T56 l0 x5_1).f2.f0) == a1_2 && (((rd_T56 l0 x5_1).f2.f1) == a1_3 && (((rd_T56 l0 x5_1).f2.f2) == a1_4)))))) = false := by simpa using c11))
              (try (have c11b2 : (((rd_T56 l0 x5_1).f0) == a1_0 && (((rd_T56 l0 x5_1).f1) == a1_1 && ((((rd_T56 l0 x5_1).f2.f0) == a1_2 && (((rd_T56 l0 x5_1).f2.f1) == a1_3 && (((rd_T56 l0 x5_1).f2.f2) == a1_4)))))) = false := by simpa using c11))
              (try (have c11b3 : ¬ (((rd_T56 l0 x5_1).f0) = a1_0 && (((rd_T56 l0 x5_1).f1) == a1_1 && ((((rd_T56 l0 x5_1).f2.f0) == a1_2 && (((rd_T56 l0 x5_1).f2.f1) == a1_3 && (((rd_T56 l0 x5_1).f2.f2) == a1_4)))))) := by simpa using c11))
              clear c11
              have c16b0 := eq_true (of_decide_eq_true (by first | (with_reducible assumption) | assumption) : 0 ≤ x5_1)
              by_cases c17 : x5_1 ≤ (l0.length : Int)
              · rw [if_pos c17] at H
                have c17b0 := eq_true c17
                have c17b1 : decide (x5_1 ≤ (l0.length : Int)) = true := decide_eq_true c17
                clear c17
                obtain ⟨y211, hy211⟩ : ∃ y_ : List (S56), y_ = (l0.take (x5_1 : Int).toNat) := ⟨_, rfl⟩
                replace H : (if ([] : List (S56)).length + y211.length < 3518437208883 then ((some (([] : List (S56)) ++ y211 : List (S56))).bind fun y215 => ((some (([(⟨a1_0, a1_1, (⟨a1_2, a1_3, a1_4⟩ : S34)⟩ : S56)] : List (S56)) : List (S56))).bind fun y218 => (if y215.length + y218.length < 3518437208883 then ((some (y215 ++ y218 : List (S56))).bind fun y221 => ((some (l0.drop (x5_1 : Int).toNat : List (S56))).bind fun y224 => (if y221.length + y224.length < 3518437208883 then (some (y221 ++ y224)) else (none)))) else (none)))) else (none)) = some r := by first | (rw [hy211]; with_reducible exact H) | (have H2_ := (Option.bind_some _ _).symm.trans H; rw [hy211]; with_reducible exact H2_) | (have H2_ := (Option.bind_some _ _).symm.trans H; with_reducible exact H2_) | with_reducible exact H | (rw [hy211]; exact H) | exact H
                have Ny211 := Aside0.mk hy211
                clear hy211
                by_cases c18 : ([] : List (S56)).length + y211.length < 3518437208883
                · rw [if_pos c18] at H
                  have LMc18 := Aside0.mk c18
                  clear c18
                  obtain ⟨y215, hy215⟩ : ∃ y_ : List (S56), y_ = (([] : List (S56)) ++ y211) := ⟨_, rfl⟩
                  replace H : ((some (([(⟨a1_0, a1_1, (⟨a1_2, a1_3, a1_4⟩ : S34)⟩ : S56)] : List (S56)) : List (S56))).bind fun y218 => (if y215.length + y218.length < 3518437208883 then ((some (y215 ++ y218 : List (S56))).bind fun y221 => ((some (l0.drop (x5_1 : Int).toNat : List (S56))).bind fun y224 => (if y221.length + y224.length < 3518437208883 then (some (y221 ++ y224)) else (none)))) else (none))) = some r := by first | (rw [hy215]; with_reducible exact H) | (have H2_ := (Option.bind_some _ _).symm.trans H; rw [hy215]; with_reducible exact H2_) | (have H2_ := (Option.bind_some _ _).symm.trans H; with_reducible exact H2_) | with_reducible exact H | (rw [hy215]; exact H) | exact H
                  have Ny215 := Aside0.mk hy215
                  clear hy215
                  obtain ⟨y218, hy218⟩ : ∃ y_ : List (S56), y_ = (([(⟨a1_0, a1_1, (⟨a1_2, a1_3, a1_4⟩ : S34)⟩ : S56)] : List (S56))) := ⟨_, rfl⟩
                  replace H : (if y215.length + y218.length < 3518437208883 then ((some (y215 ++ y218 : List (S56))).bind fun y221 => ((some (l0.drop (x5_1 : Int).toNat : List (S56))).bind fun y224 => (if y221.length + y224.length < 3518437208883 then (some (y221 ++ y224)) else (none)))) else (none)) = some r := by first | (rw [hy218]; with_reducible exact H) | (have H2_ := (Option.bind_some _ _).symm.trans H; rw [hy218]; with_reducible exact H2_) | (have H2_ := (Option.bind_some _ _).symm.trans H; with_reducible exact H2_) | with_reducible exact H | (rw [hy218]; exact H) | exact H
                  have Ny218 := Aside0.mk hy218
                  clear hy218
                  by_cases c19 : y215.length + y218.length < 3518437208883
                  · rw [if_pos c19] at H
                    have LMc19 := Aside0.mk c19
                    clear c19
                    obtain ⟨y221, hy221⟩ : ∃ y_ : List (S56), y_ = (y215 ++ y218) := ⟨_, rfl⟩
                    replace H : ((some (l0.drop (x5_1 : Int).toNat : List (S56))).bind fun y224 => (if y221.length + y224.length < 3518437208883 then (some (y221 ++ y224)) else (none))) = some r := by first | (rw [hy221]; with_reducible exact H) | (have H2_ := (Option.bind_some _ _).symm.trans H; rw [hy221]; with_reducible exact H2_) | (have H2_ := (Option.bind_some _ _).symm.trans H; with_reducible exact H2_) | with_reducible exact H | (rw [hy221]; exact H) | exact H
                    have Ny221 := Aside0.mk hy221
                    clear hy221
                    have c20b0 := eq_true (of_decide_eq_true (by first | (with_reducible assumption) | assumption) : 0 ≤ x5_1)
                    have c21b0 := eq_true (of_decide_eq_true (by first | (with_reducible assumption) | assumption) : x5_1 ≤ (l0.length : Int))
                    obtain ⟨y224, hy224⟩ : ∃ y_ : List (S56), y_ = (l0.drop (x5_1 : Int).toNat) := ⟨_, rfl⟩
                    replace H : (if y221.length + y224.length < 3518437208883 then (some (y221 ++ y224)) else (none)) = some r := by first | (rw [hy224]; with_reducible exact H) | (have H2_ := (Option.bind_some _ _).symm.trans H; rw [hy224]; with_reducible exact H2_) | (have H2_ := (Option.bind_some _ _).symm.trans H; with_reducible exact H2_) | with_reducible exact H | (rw [hy224]; exact H) | exact H
                    have Ny224 := Aside0.mk hy224
                    clear hy224
                    by_cases c22 : y221.length + y224.length < 3518437208883
                    · rw [if_pos c22] at H
                      have LMc22 := Aside0.mk c22
                      clear c22
                      obtain ⟨y228, hy228⟩ : ∃ y_ : List (S56), y_ = (y221 ++ y224) := ⟨_, rfl⟩
                      replace H : (some y228) = some r := by first | (rw [hy228]; with_reducible exact H) | (have H2_ := (Option.bind_some _ _).symm.trans H; rw [hy228]; with_reducible exact H2_) | (have H2_ := (Option.bind_some _ _).symm.trans H; with_reducible exact H2_) | with_reducible exact H | (rw [hy228]; exact H) | exact H
                      have Ny228 := Aside0.mk hy228
                      clear hy228
                      obtain rfl := Option.some.inj H
                      obtain ⟨Ao23, co23, eo23⟩ := Kd.R_slice HO_0.out
                      subst eo23
                      try go_wp2
                      have n0_ := Aside0.mk (Kd.R_drew HO_0.out)
                      have n1_ := Aside0.mk (blk_drew BK207.out)
                      have n2_ := Aside0.mk (Kept.drew HK.out)
                      have n3_ := Aside0.mk (below_drew1 HB.out)
                      clear HO_0
                      clear BK207
                      clear HK
                      clear HB
                      have HO_0 := n0_
                      have BK207 := n1_
                      have HK := n2_
                      have HB := n3_
                      clear n0_ n1_ n2_ n3_
                      have p208 : 0 ≤ (x5_1 : Int) := of_decide_eq_true (by first | (with_reducible assumption) | assumption)
                      have q208 : x5_1 < (l0.length : Int) := of_decide_eq_true (by first | (with_reducible assumption) | assumption)
                      obtain ⟨ad208, e208, hx208_0, hx208_1, hx208_2, hx208_3, hx208_4⟩ := at_T56 (Kd.R_reads' HO_0.out).2.2 x5_1 p208 q208
                      cases e208
                      replace p208 := eq_true p208
                      replace q208 := eq_true q208
                      refine start_ (n := 7) (S := fun w' => w'.cell? ⟨gb207, 0, none⟩ = some (.int .i64 a1_0) ∧ w'.cell? ⟨gb207, 1, none⟩ = some (.int .i64 a1_1) ∧ w'.cell? ⟨gb207, 2, none⟩ = some (.int .i64 a1_2) ∧ w'.cell? ⟨gb207, 3, none⟩ = some (.int .i64 a1_3) ∧ w'.cell? ⟨gb207, 4, none⟩ = some (.int .i64 a1_4) ∧ w'.cell? (ad208.add ((x5_1).toNat * 5)) = some (.int .i64 ((rd_T56 l0 x5_1).f0)) ∧ w'.cell? ⟨(ad208.add ((x5_1).toNat * 5)).block, (ad208.add ((x5_1).toNat * 5)).off + 1, none⟩ = some (.int .i64 ((rd_T56 l0 x5_1).f1)) ∧ w'.cell? ⟨(ad208.add ((x5_1).toNat * 5)).block, (ad208.add ((x5_1).toNat * 5)).off + 2, none⟩ = some (.int .i64 ((rd_T56 l0 x5_1).f2.f0)) ∧ w'.cell? ⟨(ad208.add ((x5_1).toNat * 5)).block, (ad208.add ((x5_1).toNat * 5)).off + 3, none⟩ = some (.int .i64 ((rd_T56 l0 x5_1).f2.f1)) ∧ w'.cell? ⟨(ad208.add ((x5_1).toNat * 5)).block, (ad208.add ((x5_1).toNat * 5)).off + 4, none⟩ = some (.int .i64 ((rd_T56 l0 x5_1).f2.f2))) (ds := []) #[false, false, false, false, false, false, false] (by kernel_rfl) rfl rfl ⟨(blk_cell BK207.out 0).trans rfl, (blk_cell BK207.out 1).trans rfl, (blk_cell BK207.out 2).trans rfl, (blk_cell BK207.out 3).trans rfl, (blk_cell BK207.out 4).trans rfl, hx208_0, hx208_1, hx208_2, hx208_3, hx208_4⟩ (fun hHeld => ?_)
                      generalize wr.drew = w24 at HO_0 BK207 HK HB hx208_0 hx208_1 hx208_2 hx208_3 hx208_4 hHeld ⊢
                      refine pure_ (i := 0) (N := some 12) (v := ?_) (a' := ?_) #[true, false, false, false, false, false, false] rfl rfl (by kernel_rfl) (fun _ _ _ h => h) (Or.inl ⟨by rfl, ?_⟩) ?_ ?_
                      rotate_left
                      · intro w'
                        go_simp
                        with_reducible rfl
                      rotate_left
                      · simp only [Act.put, List.setIfInBounds_toArray, List.set_cons_zero, List.set_cons_succ, i64_w, i32_w]
                        rfl
                      refine pure_ (i := 1) (N := some 13) (v := ?_) (a' := ?_) #[true, true, false, false, false, false, false] rfl rfl (by kernel_rfl) (fun _ _ _ h => h) (Or.inl ⟨by rfl, ?_⟩) ?_ ?_
                      rotate_left
                      · intro w'
                        go_simp
                        with_reducible rfl
                      rotate_left
                      · simp only [Act.put, List.setIfInBounds_toArray, List.set_cons_zero, List.set_cons_succ, i64_w, i32_w]
                        rfl
                      refine pure_ (i := 2) (N := some 14) (v := ?_) (a' := ?_) #[true, true, true, false, false, false, false] rfl rfl (by kernel_rfl) (fun _ _ _ h => h) (Or.inl ⟨by rfl, ?_⟩) ?_ ?_
                      rotate_left
                      · intro w'
                        go_simp
                        with_reducible rfl
                      rotate_left
                      · simp only [Act.put, List.setIfInBounds_toArray, List.set_cons_zero, List.set_cons_succ, i64_w, i32_w]
                        rfl
                      refine take_ (i := 3) (N := some 15) (v := ?_) (a' := ?_) #[true, true, true, true, false, false, false] rfl rfl (by kernel_rfl) (fun _ _ _ h => h) (Or.inl ⟨by rfl, ?_⟩) hHeld ?_ ?_
                      rotate_left
                      · rintro w' ⟨s0, s1, s2, s3, s4, s5, s6, s7, s8, s9⟩
                        go_simp
                        with_reducible rfl
                      rotate_left
                      · simp only [Act.put, List.setIfInBounds_toArray, List.set_cons_zero, List.set_cons_succ, i64_w, i32_w]
                        rfl
                      refine take_ (i := 4) (N := some 16) (v := ?_) (a' := ?_) #[true, true, true, true, true, false, false] rfl rfl (by kernel_rfl) (fun _ _ _ h => h) (Or.inl ⟨by rfl, ?_⟩) hHeld ?_ ?_
                      rotate_left
                      · rintro w' ⟨s0, s1, s2, s3, s4, s5, s6, s7, s8, s9⟩
                        go_simp
                        with_reducible rfl
                      rotate_left
                      · simp only [Act.put, List.setIfInBounds_toArray, List.set_cons_zero, List.set_cons_succ, i64_w, i32_w]
                        rfl
                      refine one_ (i := 5) (N := some 17) #[true, true, true, true, true, true, false] rfl rfl (by kernel_rfl) (by decide) (fun K hK => ?_)
                      refine goes_ Try.func57 (by kernel_rfl) rfl #[.agg #[.int .i64 ((rd_T56 l0 x5_1).f0), .int .i64 ((rd_T56 l0 x5_1).f1), .int .i64 ((rd_T56 l0 x5_1).f2.f0), .int .i64 ((rd_T56 l0 x5_1).f2.f1), .int .i64 ((rd_T56 l0 x5_1).f2.f2)], .agg #[.int .i64 a1_0, .int .i64 a1_1, .int .i64 a1_2, .int .i64 a1_3, .int .i64 a1_4]] (by rfl) rfl rfl (by (try simp only [List.map_toArray, List.map_cons, List.map_nil]); first | done | rfl | (simp only [List.length_drop, List.length_take]; rfl)) ?_
                      with_reducible refine (skymosaicref32_Less.calls ((rd_T56 l0 x5_1).f0) ((rd_T56 l0 x5_1).f1) ((rd_T56 l0 x5_1).f2.f0) ((rd_T56 l0 x5_1).f2.f1) ((rd_T56 l0 x5_1).f2.f2) a1_0 a1_1 a1_2 a1_3 a1_4 false _ A6.out).mono ?_
                      rintro e w25 ⟨rfl, hb⟩
                      have HS5_ := (hb.cell (World.block_lt_of_cell? _ _ (hHeld.2.2.2.2.2.1))).trans (hHeld.2.2.2.2.2.1)
                      have HS6_ := (hb.cell (World.block_lt_of_cell? _ _ (hHeld.2.2.2.2.2.2.1))).trans (hHeld.2.2.2.2.2.2.1)
                      have HS7_ := (hb.cell (World.block_lt_of_cell? _ _ (hHeld.2.2.2.2.2.2.2.1))).trans (hHeld.2.2.2.2.2.2.2.1)
                      have HS8_ := (hb.cell (World.block_lt_of_cell? _ _ (hHeld.2.2.2.2.2.2.2.2.1))).trans (hHeld.2.2.2.2.2.2.2.2.1)
                      have HS9_ := (hb.cell (World.block_lt_of_cell? _ _ (hHeld.2.2.2.2.2.2.2.2.2))).trans (hHeld.2.2.2.2.2.2.2.2.2)
                      refine ⟨_, rfl, ?_⟩
                      have n0_ := Aside0.mk (Kd.R_below (by (with_reducible repeat (first | apply Kd.R_alloc | apply Kd.R_drewN | apply Kd.R_drew)); exact HO_0.out) hb)
                      have n1_ := Aside0.mk (blk_below (g := gb207) (o := .cells #[.int .i64 a1_0, .int .i64 a1_1, .int .i64 a1_2, .int .i64 a1_3, .int .i64 a1_4] 56 (0, 0)) (by (with_reducible repeat (first | refine blk_drewN ?_ _ | refine blk_drew ?_ | refine blk_alloc ?_ _)); exact BK207.out) hb)
                      have n2_ := Aside0.mk (Kept.below (S := (fun k_ => P0_ k_)) (by repeat (first | (with_reducible first | exact HK.out | apply Kept.alloc | apply Kept.drewN | apply Kept.drew | refine Kept.setCell ?_ (.inr GW207.out) _) | exact HK.out)) hb)
                      have n3_ := Aside0.mk (below_step (by repeat (first | (with_reducible first | exact HB.out | apply below_alloc | apply pw_below_drewN | apply below_drew1 | refine below_set ?_ GE207.out) | exact HB.out)) hb)
                      clear HO_0
                      clear BK207
                      clear HK
                      clear HB
                      have HO_0 := n0_
                      have BK207 := n1_
                      have HK := n2_
                      have HB := n3_
                      clear n0_ n1_ n2_ n3_
                      (try clear hb)
                      (try clear hb2)
                      (try clear hk)
                      (try clear hi)
                      refine hK.out _ _ ⟨(blk_cell BK207.out 0).trans rfl, (blk_cell BK207.out 1).trans rfl, (blk_cell BK207.out 2).trans rfl, (blk_cell BK207.out 3).trans rfl, (blk_cell BK207.out 4).trans rfl, HS5_, HS6_, HS7_, HS8_, HS9_⟩ (fun hHeld => ?_)
                      clear hK K
                      refine norm_ (a' := ?_) ?_ ?_
                      rotate_left
                      · show Act.put _ (some 17) _ = _
                        simp only [Act.put, List.setIfInBounds_toArray, List.set_cons_zero, List.set_cons_succ, i64_w, i32_w]
                        rfl
                      refine pure_ (i := 6) (N := some 6) (v := ?_) (a' := ?_) #[true, true, true, true, true, true, true] rfl rfl (by kernel_rfl) (fun _ _ _ h => h) (Or.inl ⟨by rfl, ?_⟩) ?_ ?_
                      rotate_left
                      · intro w'
                        go_simp
                        with_reducible rfl
                      rotate_left
                      · simp only [Act.put, List.setIfInBounds_toArray, List.set_cons_zero, List.set_cons_succ, i64_w, i32_w]
                        rfl
                      refine done_ (by kernel_rfl) ?_
                      try go_wp2
                      have n0_ := Aside0.mk (Kd.R_drew HO_0.out)
                      have n1_ := Aside0.mk (blk_drew BK207.out)
                      have n2_ := Aside0.mk (Kept.drew HK.out)
                      have n3_ := Aside0.mk (below_drew1 HB.out)
                      clear HO_0
                      clear BK207
                      clear HK
                      clear HB
                      have HO_0 := n0_
                      have BK207 := n1_
                      have HK := n2_
                      have HB := n3_
                      clear n0_ n1_ n2_ n3_
                      have p210 : 0 ≤ (x5_1 : Int) := of_decide_eq_true (by first | (with_reducible assumption) | assumption)
                      have q210 : x5_1 < (l0.length : Int) := of_decide_eq_true (by first | (with_reducible assumption) | assumption)
                      obtain ⟨ad210, e210, hx210_0, hx210_1, hx210_2, hx210_3, hx210_4⟩ := at_T56 (Kd.R_reads' HO_0.out).2.2 x5_1 p210 q210
                      obtain rfl : ad208 = ad210 := (by injection e210)
                      replace p210 := eq_true p210
                      replace q210 := eq_true q210
                      refine start_ (n := 12) (S := fun w' => w'.cell? ⟨gb207, 0, none⟩ = some (.int .i64 a1_0) ∧ w'.cell? ⟨gb207, 1, none⟩ = some (.int .i64 a1_1) ∧ w'.cell? ⟨gb207, 2, none⟩ = some (.int .i64 a1_2) ∧ w'.cell? ⟨gb207, 3, none⟩ = some (.int .i64 a1_3) ∧ w'.cell? ⟨gb207, 4, none⟩ = some (.int .i64 a1_4) ∧ w'.cell? (ad208.add ((x5_1).toNat * 5)) = some (.int .i64 ((rd_T56 l0 x5_1).f0)) ∧ w'.cell? ⟨(ad208.add ((x5_1).toNat * 5)).block, (ad208.add ((x5_1).toNat * 5)).off + 1, none⟩ = some (.int .i64 ((rd_T56 l0 x5_1).f1)) ∧ w'.cell? ⟨(ad208.add ((x5_1).toNat * 5)).block, (ad208.add ((x5_1).toNat * 5)).off + 2, none⟩ = some (.int .i64 ((rd_T56 l0 x5_1).f2.f0)) ∧ w'.cell? ⟨(ad208.add ((x5_1).toNat * 5)).block, (ad208.add ((x5_1).toNat * 5)).off + 3, none⟩ = some (.int .i64 ((rd_T56 l0 x5_1).f2.f1)) ∧ w'.cell? ⟨(ad208.add ((x5_1).toNat * 5)).block, (ad208.add ((x5_1).toNat * 5)).off + 4, none⟩ = some (.int .i64 ((rd_T56 l0 x5_1).f2.f2))) (ds := []) #[false, false, false, false, false, false, false, false, false, false, false, false] (by kernel_rfl) rfl rfl ⟨(blk_cell BK207.out 0).trans rfl, (blk_cell BK207.out 1).trans rfl, (blk_cell BK207.out 2).trans rfl, (blk_cell BK207.out 3).trans rfl, (blk_cell BK207.out 4).trans rfl, hx210_0, hx210_1, hx210_2, hx210_3, hx210_4⟩ (fun hHeld => ?_); refine with_tabW skymosaicref32_put.tab6 skymosaicref32_put.bits6 (fun HT_ HW_ => ?_)
                      generalize w25.drew = w26 at HO_0 BK207 HK HB hx210_0 hx210_1 hx210_2 hx210_3 hx210_4 hHeld ⊢
                      refine pure_ (i := 0) (N := some 22) (v := ?_) (a' := ?_) #[true, false, false, false, false, false, false, false, false, false, false, false] rfl rfl (any_of HT_.out (by kernel_rfl)) (fun _ _ _ h => h) (Or.inl ⟨by rfl, ?_⟩) ?_ ?_
                      rotate_left
                      · intro w'
                        go_simp
                        with_reducible rfl
                      rotate_left
                      · simp only [Act.put, List.setIfInBounds_toArray, List.set_cons_zero, List.set_cons_succ, i64_w, i32_w]
                        rfl
                      refine pure_ (i := 1) (N := some 23) (v := ?_) (a' := ?_) #[true, true, false, false, false, false, false, false, false, false, false, false] rfl rfl (any_of HT_.out (by kernel_rfl)) (fun _ _ _ h => h) (Or.inl ⟨by rfl, ?_⟩) ?_ ?_
                      rotate_left
                      · intro w'
                        go_simp
                        with_reducible rfl
                      rotate_left
                      · simp only [Act.put, List.setIfInBounds_toArray, List.set_cons_zero, List.set_cons_succ, i64_w, i32_w]
                        rfl
                      refine pure_ (i := 2) (N := some 24) (v := ?_) (a' := ?_) #[true, true, true, false, false, false, false, false, false, false, false, false] rfl rfl (any_of HT_.out (by kernel_rfl)) (fun _ _ _ h => h) (Or.inl ⟨by rfl, ?_⟩) ?_ ?_
                      rotate_left
                      · intro w'
                        go_simp
                        with_reducible rfl
                      rotate_left
                      · simp only [Act.put, List.setIfInBounds_toArray, List.set_cons_zero, List.set_cons_succ, i64_w, i32_w]
                        rfl
                      refine pure_ (i := 3) (N := some 25) (v := ?_) (a' := ?_) #[true, true, true, true, false, false, false, false, false, false, false, false] rfl rfl (any_of HT_.out (by kernel_rfl)) (fun _ _ _ h => h) (Or.inl ⟨by rfl, ?_⟩) ?_ ?_
                      rotate_left
                      · intro w'
                        go_simp
                        with_reducible rfl
                      rotate_left
                      · simp only [Act.put, List.setIfInBounds_toArray, List.set_cons_zero, List.set_cons_succ, i64_w, i32_w]
                        rfl
                      refine pure_ (i := 4) (N := some 26) (v := ?_) (a' := ?_) #[true, true, true, true, true, false, false, false, false, false, false, false] rfl rfl (any_of HT_.out (by kernel_rfl)) (fun _ _ _ h => h) (Or.inl ⟨by rfl, ?_⟩) ?_ ?_
                      rotate_left
                      · intro w'
                        go_simp
                        with_reducible rfl
                      rotate_left
                      · simp only [Act.put, List.setIfInBounds_toArray, List.set_cons_zero, List.set_cons_succ, i64_w, i32_w]
                        rfl
                      refine pure_ (i := 5) (N := some 27) (v := ?_) (a' := ?_) #[true, true, true, true, true, true, false, false, false, false, false, false] rfl rfl (any_of HT_.out (by kernel_rfl)) (fun _ _ _ h => h) (Or.inl ⟨by rfl, ?_⟩) ?_ ?_
                      rotate_left
                      · intro w'
                        go_simp
                        with_reducible rfl
                      rotate_left
                      · simp only [Act.put, List.setIfInBounds_toArray, List.set_cons_zero, List.set_cons_succ, i64_w, i32_w]
                        rfl
                      refine pure_ (i := 6) (N := some 28) (v := ?_) (a' := ?_) #[true, true, true, true, true, true, true, false, false, false, false, false] rfl rfl (any_of HT_.out (by kernel_rfl)) (fun _ _ _ h => h) (Or.inl ⟨by rfl, ?_⟩) ?_ ?_
                      rotate_left
                      · intro w'
                        go_simp
                        with_reducible rfl
                      rotate_left
                      · simp only [Act.put, List.setIfInBounds_toArray, List.set_cons_zero, List.set_cons_succ, i64_w, i32_w]
                        rfl
                      refine pure_ (i := 7) (N := some 29) (v := ?_) (a' := ?_) #[true, true, true, true, true, true, true, true, false, false, false, false] rfl rfl (any_of HT_.out (by kernel_rfl)) (fun _ _ _ h => h) (Or.inl ⟨by rfl, ?_⟩) ?_ ?_
                      rotate_left
                      · intro w'
                        go_simp
                        with_reducible rfl
                      rotate_left
                      · simp only [Act.put, List.setIfInBounds_toArray, List.set_cons_zero, List.set_cons_succ, i64_w, i32_w]
                        rfl
                      refine take_ (i := 8) (N := some 30) (v := ?_) (a' := ?_) #[true, true, true, true, true, true, true, true, true, false, false, false] rfl rfl (take_ofW HT_.out HW_.out (by kernel_rfl)) (fun _ _ _ h => h) (Or.inl ⟨by rfl, ?_⟩) hHeld ?_ ?_
                      rotate_left
                      · rintro w' ⟨s0, s1, s2, s3, s4, s5, s6, s7, s8, s9⟩
                        go_simp
                        with_reducible rfl
                      rotate_left
                      · simp only [Act.put, List.setIfInBounds_toArray, List.set_cons_zero, List.set_cons_succ, i64_w, i32_w]
                        rfl
                      refine take_ (i := 9) (N := some 31) (v := ?_) (a' := ?_) #[true, true, true, true, true, true, true, true, true, true, false, false] rfl rfl (take_ofW HT_.out HW_.out (by kernel_rfl)) (fun _ _ _ h => h) (Or.inl ⟨by rfl, ?_⟩) hHeld ?_ ?_
                      rotate_left
                      · rintro w' ⟨s0, s1, s2, s3, s4, s5, s6, s7, s8, s9⟩
                        go_simp
                        with_reducible rfl
                      rotate_left
                      · simp only [Act.put, List.setIfInBounds_toArray, List.set_cons_zero, List.set_cons_succ, i64_w, i32_w]
                        rfl
                      refine pure_ (i := 10) (N := some 32) (v := ?_) (a' := ?_) #[true, true, true, true, true, true, true, true, true, true, true, false] rfl rfl (any_of HT_.out (by kernel_rfl)) (fun _ _ _ h => h) (Or.inl ⟨by rfl, ?_⟩) ?_ ?_
                      rotate_left
                      · intro w'
                        go_simp
                        with_reducible rfl
                      rotate_left
                      · simp only [Act.put, List.setIfInBounds_toArray, List.set_cons_zero, List.set_cons_succ, i64_w, i32_w]
                        rfl
                      refine pure_ (i := 11) (N := some 33) (v := ?_) (a' := ?_) #[true, true, true, true, true, true, true, true, true, true, true, true] rfl rfl (any_of HT_.out (by kernel_rfl)) (fun _ _ _ h => h) (Or.inl ⟨by rfl, ?_⟩) ?_ ?_
                      rotate_left
                      · intro w'
                        go_simp
                        with_reducible rfl
                      rotate_left
                      · simp only [Act.put, List.setIfInBounds_toArray, List.set_cons_zero, List.set_cons_succ, i64_w, i32_w]
                        rfl
                      refine done_ (done_of HT_.out (by kernel_rfl)) ?_
                      try go_wp2
                      have n0_ := Aside0.mk (Kd.R_drew HO_0.out)
                      have n1_ := Aside0.mk (blk_drew BK207.out)
                      have n2_ := Aside0.mk (Kept.drew HK.out)
                      have n3_ := Aside0.mk (below_drew1 HB.out)
                      clear HO_0
                      clear BK207
                      clear HK
                      clear HB
                      have HO_0 := n0_
                      have BK207 := n1_
                      have HK := n2_
                      have HB := n3_
                      clear n0_ n1_ n2_ n3_
                      have q28 : (x5_1 : Int) ≤ ((l0.length : Int) : Int) := of_decide_eq_true (by first | (with_reducible assumption) | assumption)
                      obtain ⟨i028, hi028, _, hsz28, _⟩ := info_parts info56
                      have hroom28 : l0.length ≤ co23 := (Kd.R_reads' HO_0.out).2.1
                      have hC28 : Kd.C k56 _ (some ad208) l0.length l0 := (Kd.R_reads' HO_0.out).2.2
                      have hcut28 := cut_to (P := Try.prog) 35 56 .i64 Try.underlying35 hi028 (some ad208) l0.length co23 x5_1 (of_decide_eq_true (by first | (with_reducible assumption) | assumption)) q28 hroom28
                      have hr28 := Kd.C_take (m := (x5_1 : Int).toNat) hC28 (by omega)
                      have hy28 : y211.length = (x5_1 : Int).toNat := (by rw [Ny211.out, List.length_take]; omega)
                      rw [← Ny211.out] at hr28
                      rw [← hy28] at hcut28
                      have HR214 := Aside0.mk hr28
                      have HC214 := Aside0.mk (show y211.length ≤ co23 from by omega)
                      clear hr28 hC28 hroom28 hi028 hsz28
                      have KY28 := Aside0.mk hy28
                      clear hy28
                      have KL28 := Aside0.mk (show (x5_1 : Int).toNat ≤ l0.length from by omega)
                      replace q28 := eq_true q28
                      refine start_ (n := 9) (S := fun w' => w'.cell? ⟨gb207, 0, none⟩ = some (.int .i64 a1_0) ∧ w'.cell? ⟨gb207, 1, none⟩ = some (.int .i64 a1_1) ∧ w'.cell? ⟨gb207, 2, none⟩ = some (.int .i64 a1_2) ∧ w'.cell? ⟨gb207, 3, none⟩ = some (.int .i64 a1_3) ∧ w'.cell? ⟨gb207, 4, none⟩ = some (.int .i64 a1_4)) (ds := []) #[false, false, false, false, false, false, false, false, false] (by kernel_rfl) rfl rfl ⟨(blk_cell BK207.out 0).trans rfl, (blk_cell BK207.out 1).trans rfl, (blk_cell BK207.out 2).trans rfl, (blk_cell BK207.out 3).trans rfl, (blk_cell BK207.out 4).trans rfl⟩ (fun hHeld => ?_); refine with_tabW skymosaicref32_put.tab9 skymosaicref32_put.bits9 (fun HT_ HW_ => ?_)
                      generalize w26.drew = w27 at HO_0 BK207 HK HB HR214 hHeld ⊢
                      refine pure_ (i := 0) (N := some 35) (v := ?_) (a' := ?_) #[true, false, false, false, false, false, false, false, false] rfl rfl (any_of HT_.out (by kernel_rfl)) (fun _ _ _ h => h) (Or.inl ⟨by rfl, ?_⟩) ?_ ?_
                      rotate_left
                      · intro w'
                        go_simp
                        with_reducible rfl
                      rotate_left
                      · simp only [Act.put, List.setIfInBounds_toArray, List.set_cons_zero, List.set_cons_succ, i64_w, i32_w]
                        rfl
                      refine pure_ (i := 1) (N := some 36) (v := ?_) (a' := ?_) #[true, true, false, false, false, false, false, false, false] rfl rfl (any_of HT_.out (by kernel_rfl)) (fun _ _ _ h => h) (Or.inl ⟨by rfl, ?_⟩) ?_ ?_
                      rotate_left
                      · intro w'
                        go_simp
                        with_reducible rfl
                      rotate_left
                      · simp only [Act.put, List.setIfInBounds_toArray, List.set_cons_zero, List.set_cons_succ, i64_w, i32_w]
                        rfl
                      refine pure_ (i := 2) (N := some 37) (v := ?_) (a' := ?_) #[true, true, true, false, false, false, false, false, false] rfl rfl (any_of HT_.out (by kernel_rfl)) (fun _ _ _ h => h) (Or.inl ⟨by rfl, ?_⟩) ?_ ?_
                      rotate_left
                      · intro w'
                        go_simp
                        with_reducible rfl
                      rotate_left
                      · simp only [Act.put, List.setIfInBounds_toArray, List.set_cons_zero, List.set_cons_succ, i64_w, i32_w]
                        rfl
                      refine pure_ (i := 3) (N := some 38) (v := ?_) (a' := ?_) #[true, true, true, true, false, false, false, false, false] rfl rfl (any_of HT_.out (by kernel_rfl)) (fun _ _ _ h => h) (Or.inl ⟨by rfl, ?_⟩) ?_ ?_
                      rotate_left
                      · intro w'
                        go_simp
                        with_reducible rfl
                      rotate_left
                      · simp only [Act.put, List.setIfInBounds_toArray, List.set_cons_zero, List.set_cons_succ, i64_w, i32_w]
                        rfl
                      refine take_ (i := 5) (N := some 40) (v := ?_) (a' := ?_) #[true, true, true, true, false, true, false, false, false] rfl rfl (take_ofW HT_.out HW_.out (by kernel_rfl)) (fun _ _ _ h => h) (Or.inl ⟨by rfl, ?_⟩) hHeld ?_ ?_
                      rotate_left
                      · rintro w' ⟨s0, s1, s2, s3, s4⟩
                        go_simp
                        with_reducible rfl
                      rotate_left
                      · simp only [Act.put, List.setIfInBounds_toArray, List.set_cons_zero, List.set_cons_succ, i64_w, i32_w]
                        rfl
                      refine join_ (σ := Value × Value) 2 #[true, true, true, true, true, true, true, false, false] (fun s_ => [(39, s_.1), (41, s_.2)]) (fun s_ w' => (w'.cell? ⟨gb207, 0, none⟩ = some (.int .i64 a1_0) ∧ w'.cell? ⟨gb207, 1, none⟩ = some (.int .i64 a1_1) ∧ w'.cell? ⟨gb207, 2, none⟩ = some (.int .i64 a1_2) ∧ w'.cell? ⟨gb207, 3, none⟩ = some (.int .i64 a1_3) ∧ w'.cell? ⟨gb207, 4, none⟩ = some (.int .i64 a1_4)) ∧ (Kd.R k56 56 w' w0.heap.size (fun k_ => (P0_ k_ ∨ w.heap.size ≤ k_) ∧ some k_ ≠ (s_.2 : Value).ownBlock ∧ some k_ ≠ (.slice (some ad208) l0.length co23 : Value).ownBlock ∧ k_ ≠ gb207) s_.1 y215) ∧ (Kd.R k56 56 w' w0.heap.size (fun k_ => (P0_ k_ ∨ w.heap.size ≤ k_) ∧ some k_ ≠ (s_.1 : Value).ownBlock ∧ some k_ ≠ (.slice (some ad208) l0.length co23 : Value).ownBlock ∧ k_ ≠ gb207) s_.2 y218) ∧ (Kd.R k56 56 w' w0.heap.size (fun k_ => (P0_ k_ ∨ w.heap.size ≤ k_) ∧ some k_ ≠ (s_.1 : Value).ownBlock ∧ some k_ ≠ (s_.2 : Value).ownBlock ∧ k_ ≠ gb207) (.slice (some ad208) l0.length co23) l0) ∧ (w'.heap[gb207]? = some (.cells #[.int .i64 a1_0, .int .i64 a1_1, .int .i64 a1_2, .int .i64 a1_3, .int .i64 a1_4] 56 (0, 0))) ∧ (Kept w w' (fun k_ => P0_ k_)) ∧ (Below w0.heap.size w0 w')) ?_ ?_
                      rotate_left
                      · intro hCont
                        refine two_ (i := 4) (j := 6) (Ni := some 39) (Nj := some 41) #[true, true, true, true, true, true, false, false, false] #[true, true, true, true, false, true, true, false, false] rfl rfl rfl rfl (two_of HT_.out (by kernel_rfl)) (by decide) (by decide) (fun K hK => ?_) (fun K hK => ?_)
                        · skip
                          refine Kd.R_append_rows_step k56 (w0 := w0) w0.heap.size (by rfl) (.tmp 35) (.tmp 38) 35 56 (.agg #[(.int .i64 0), (.int .i64 0), (.int .i64 0), (.int .i64 0), (.int .i64 0)]) 40 rfl Try.underlying35 info56 rfl (by decide) (by omega) (.slice none 0 0) ([] : List (S56)) y211 _ _ _ (fun k_ => (P0_ k_ ∨ w.heap.size ≤ k_) ∧ some k_ ≠ (.slice (some ad208) l0.length co23 : Value).ownBlock ∧ k_ ≠ gb207) (fun _ => False) rfl rfl ?aO ?aR (fun _ _ h => h) (fun _ h => h.elim) ?aF ?aB ?aS ?aL ?_
                          (case aR => repeat (first | exact (by repeat (first | (with_reducible exact HR214.out) | (with_reducible refine Kd.C_alloc ?_ _) | (with_reducible refine Kd.C_drewN ?_ _) | (with_reducible refine Kd.C_drew ?_) | exact HR214.out)) | (with_reducible refine Kd.C_alloc ?_ _) | (with_reducible refine Kd.C_drewN ?_ _) | (with_reducible refine Kd.C_drew ?_)))
                          (case aB => exact (by repeat (first | (with_reducible first | exact HB.out | apply below_alloc | apply pw_below_drewN | apply below_drew1 | refine below_set ?_ GE207.out) | exact HB.out)))
                          (case aF => exact (fun k_ hk => ⟨(.inr (Nat.le_trans (by first | exact HK.out.1 | exact (show Kept w _ (fun k_ => P0_ k_) from by repeat (first | (with_reducible first | exact HK.out | apply Kept.alloc | apply Kept.drewN | apply Kept.drew | refine Kept.setCell ?_ (.inr GW207.out) _) | exact HK.out)).1) hk)), Kd.fresh' (Kd.R_lt (by (with_reducible repeat (first | apply Kd.R_alloc | apply Kd.R_drewN | apply Kd.R_drew)); exact HO_0.out)) k_ hk, Kd.freshB (g := gb207) (o := .cells #[.int .i64 a1_0, .int .i64 a1_1, .int .i64 a1_2, .int .i64 a1_3, .int .i64 a1_4] 56 (0, 0)) (by (with_reducible repeat (first | refine blk_drewN ?_ _ | refine blk_drew ?_ | refine blk_alloc ?_ _)); exact BK207.out) k_ hk⟩))
                          (case aO => exact ((Kd.R_nil _ _ _ _ (fun k_ => (P0_ k_ ∨ w.heap.size ≤ k_) ∧ some k_ ≠ (.slice (some ad208) l0.length co23 : Value).ownBlock ∧ k_ ≠ gb207))))
                          (case aS => exact (below_size (by repeat (first | (with_reducible first | exact HB.out | apply below_alloc | apply pw_below_drewN | apply below_drew1 | refine below_set ?_ GE207.out) | exact HB.out))))
                          (case aL => have := LMc18.out; omega)
                          intro v216 w29 ho hb hg hat
                          rw [← Ny215.out] at ho
                          have n0_ := Aside0.mk (Kd.R_after (Kd.R_apart_nil (by (with_reducible repeat (first | apply Kd.R_alloc | apply Kd.R_drewN | apply Kd.R_drew)); exact HO_0.out)) hg hat)
                          have n1_ := Aside0.mk (blk_grown (g := gb207) (o := .cells #[.int .i64 a1_0, .int .i64 a1_1, .int .i64 a1_2, .int .i64 a1_3, .int .i64 a1_4] 56 (0, 0)) (by (with_reducible repeat (first | refine blk_drewN ?_ _ | refine blk_drew ?_ | refine blk_alloc ?_ _)); exact BK207.out) hg (by simp [Value.ownBlock]))
                          have n2_ := Aside0.mk (hb)
                          have n3_ := Aside0.mk (Kept.of_grown (S := (fun k_ => P0_ k_)) hg (by repeat (first | (with_reducible first | exact HK.out | apply Kept.alloc | apply Kept.drewN | apply Kept.drew | refine Kept.setCell ?_ (.inr GW207.out) _) | exact HK.out)) (fun k_ e_ => by simp [Value.ownBlock] at e_))
                          have n4_ := Aside0.mk ((show Kd.C k56 w29 (some ad208) y211.length y211 from by rw [Ny211.out]; exact Kd.C_take (m := (x5_1 : Int).toNat) ((Kd.R_reads' (Kd.R_after (Kd.R_apart_nil (by (with_reducible repeat (first | apply Kd.R_alloc | apply Kd.R_drewN | apply Kd.R_drew)); exact HO_0.out)) hg hat)).2.2) KL28.out))
                          have n5_ := Aside0.mk (ho)
                          clear HO_0
                          clear BK207
                          clear HB
                          clear HK
                          clear HR214
                          have HO_0 := n0_
                          have BK207 := n1_
                          have HB := n2_
                          have HK := n3_
                          have HR214 := n4_
                          have HO217 := n5_
                          clear n0_ n1_ n2_ n3_ n4_ n5_
                          clear ho hb hg hat
                          refine hK.out _ _ ⟨(blk_cell BK207.out 0).trans rfl, (blk_cell BK207.out 1).trans rfl, (blk_cell BK207.out 2).trans rfl, (blk_cell BK207.out 3).trans rfl, (blk_cell BK207.out 4).trans rfl⟩ (fun hHeld => ?_)
                          clear hK K
                          refine norm_ (a' := ?_) ?_ ?_
                          rotate_left
                          · show Act.put _ (some 39) _ = _
                            simp only [Act.put, List.setIfInBounds_toArray, List.set_cons_zero, List.set_cons_succ, i64_w, i32_w]
                            rfl
                          refine one_ (i := 6) (N := some 41) #[true, true, true, true, true, true, true, false, false] rfl rfl (one_of HT_.out (by kernel_rfl)) (by decide) (fun K hK => ?_)
                          refine Kd.R_lit_step k56 _ 56 ?hg (N := 41) ?hd (xs := ([(⟨a1_0, a1_1, (⟨a1_2, a1_3, a1_4⟩ : S34)⟩ : S56)] : List (S56))) (inner := [.int .i64 a1_0, .int .i64 a1_1, .int .i64 a1_2, .int .i64 a1_3, .int .i64 a1_4]) (ok := fun _ => True) (okp := fun _ => True) ?hr ?hp (fun _ hk => hk) trivial (Below.refl _ _) (Nat.le_refl _) (by simp) ?_; (case hd => rfl); (case hg => rfl); (case hr => first | (go_simp; done) | (go_simp; rfl)); (case hp => exact (Reps.c5 (show Kd.M k56 _ _ _ (⟨a1_0, a1_1, (⟨a1_2, a1_3, a1_4⟩ : S34)⟩ : S56) [.int .i64 a1_0, .int .i64 a1_1, .int .i64 a1_2, .int .i64 a1_3, .int .i64 a1_4] from (k56_mkM _ _ _ (⟨a1_0, a1_1, (⟨a1_2, a1_3, a1_4⟩ : S34)⟩ : S56) )) (Reps.none _ _)))
                          intro v219 w30 ho31 hb hg_ hnew_
                          clear hg_ hnew_
                          (first | rw [← Ny218.out] at ho31 | (simp only [Int.reduceToNat] at ho31; rw [← Ny218.out] at ho31))
                          have n0_ := Aside0.mk (Kd.R_elder' (by (with_reducible repeat (first | apply Kd.R_alloc | apply Kd.R_drewN | apply Kd.R_drew)); exact HO_0.out) (Kd.R_base ho31) hb)
                          have n1_ := Aside0.mk (Kd.R_elder' (by (with_reducible repeat (first | apply Kd.R_alloc | apply Kd.R_drewN | apply Kd.R_drew)); exact HO217.out) (Kd.R_base ho31) hb)
                          have n2_ := Aside0.mk (Kd.R_lower (Kd.R_newB (Kd.R_new' (Kd.R_new' (Kd.R_newM (M := fun k_ => (P0_ k_ ∨ w.heap.size ≤ k_)) ho31 (by first | exact HK.out.1 | exact (show Kept w _ (fun k_ => P0_ k_) from by repeat (first | (with_reducible first | exact HK.out | apply Kept.alloc | apply Kept.drewN | apply Kept.drew | refine Kept.setCell ?_ (.inr GW207.out) _) | exact HK.out)).1) (fun k_ h_ => .inr h_)) (Kd.R_lt (by (with_reducible repeat (first | apply Kd.R_alloc | apply Kd.R_drewN | apply Kd.R_drew)); exact HO_0.out))) (Kd.R_lt (by (with_reducible repeat (first | apply Kd.R_alloc | apply Kd.R_drewN | apply Kd.R_drew)); exact HO217.out))) (g := gb207) (o := .cells #[.int .i64 a1_0, .int .i64 a1_1, .int .i64 a1_2, .int .i64 a1_3, .int .i64 a1_4] 56 (0, 0)) (by (with_reducible repeat (first | refine blk_drewN ?_ _ | refine blk_drew ?_ | refine blk_alloc ?_ _)); exact BK207.out)) (below_size (by repeat (first | (with_reducible first | exact HB.out | apply below_alloc | apply pw_below_drewN | apply below_drew1 | refine below_set ?_ GE207.out) | exact HB.out))))
                          have n3_ := Aside0.mk (blk_below (g := gb207) (o := .cells #[.int .i64 a1_0, .int .i64 a1_1, .int .i64 a1_2, .int .i64 a1_3, .int .i64 a1_4] 56 (0, 0)) (by (with_reducible repeat (first | refine blk_drewN ?_ _ | refine blk_drew ?_ | refine blk_alloc ?_ _)); exact BK207.out) hb)
                          have n4_ := Aside0.mk (Kd.C_below (by repeat (first | (with_reducible exact HR214.out) | (with_reducible refine Kd.C_alloc ?_ _) | (with_reducible refine Kd.C_drewN ?_ _) | (with_reducible refine Kd.C_drew ?_) | exact HR214.out)) hb)
                          have n5_ := Aside0.mk (Kept.below (S := (fun k_ => P0_ k_)) (by repeat (first | (with_reducible first | exact HK.out | apply Kept.alloc | apply Kept.drewN | apply Kept.drew | refine Kept.setCell ?_ (.inr GW207.out) _) | exact HK.out)) hb)
                          have n6_ := Aside0.mk (below_step (by repeat (first | (with_reducible first | exact HB.out | apply below_alloc | apply pw_below_drewN | apply below_drew1 | refine below_set ?_ GE207.out) | exact HB.out)) hb)
                          clear HO_0
                          clear HO217
                          clear BK207
                          clear HR214
                          clear HK
                          clear HB
                          have HO_0 := n0_
                          have HO217 := n1_
                          have HO220 := n2_
                          have BK207 := n3_
                          have HR214 := n4_
                          have HK := n5_
                          have HB := n6_
                          clear n0_ n1_ n2_ n3_ n4_ n5_ n6_
                          clear hb ho31
                          refine hK.out _ _ ⟨(blk_cell BK207.out 0).trans rfl, (blk_cell BK207.out 1).trans rfl, (blk_cell BK207.out 2).trans rfl, (blk_cell BK207.out 3).trans rfl, (blk_cell BK207.out 4).trans rfl⟩ (fun hHeld => ?_)
                          clear hK K
                          refine norm_ (a' := ?_) ?_ ?_
                          rotate_left
                          · show Act.put _ (some 41) _ = _
                            simp only [Act.put, List.setIfInBounds_toArray, List.set_cons_zero, List.set_cons_succ, i64_w, i32_w]
                            rfl
                          exact norm_ (by simp only [putAll, Act.put, List.setIfInBounds_toArray, List.set_cons_zero, List.set_cons_succ]) (hCont (v216, v219) _ ⟨hHeld, (by (with_reducible repeat (first | apply Kd.R_alloc | apply Kd.R_drewN | apply Kd.R_drew)); exact Kd.R_mono HO217.out (fun _ hk => ⟨hk.1.1, ⟨hk.2, ⟨hk.1.2.1, hk.1.2.2⟩⟩⟩)), (by (with_reducible repeat (first | apply Kd.R_alloc | apply Kd.R_drewN | apply Kd.R_drew)); exact Kd.R_mono HO220.out (fun _ hk => ⟨hk.1.1.1.1, ⟨hk.1.2, ⟨hk.1.1.2, hk.2⟩⟩⟩)), (by (with_reducible repeat (first | apply Kd.R_alloc | apply Kd.R_drewN | apply Kd.R_drew)); exact Kd.R_mono HO_0.out (fun _ hk => ⟨hk.1.1.1, ⟨hk.1.2, ⟨hk.2, hk.1.1.2⟩⟩⟩)), (by (with_reducible repeat (first | refine blk_drewN ?_ _ | refine blk_drew ?_ | refine blk_alloc ?_ _)); exact BK207.out), (by repeat (first | (with_reducible first | exact HK.out | apply Kept.alloc | apply Kept.drewN | apply Kept.drew | refine Kept.setCell ?_ (.inr GW207.out) _) | exact HK.out)), (by repeat (first | (with_reducible first | exact HB.out | apply below_alloc | apply pw_below_drewN | apply below_drew1 | refine below_set ?_ GE207.out) | exact HB.out))⟩)
                        · skip
                          refine Kd.R_lit_step k56 _ 56 ?hg (N := 41) ?hd (xs := ([(⟨a1_0, a1_1, (⟨a1_2, a1_3, a1_4⟩ : S34)⟩ : S56)] : List (S56))) (inner := [.int .i64 a1_0, .int .i64 a1_1, .int .i64 a1_2, .int .i64 a1_3, .int .i64 a1_4]) (ok := fun _ => True) (okp := fun _ => True) ?hr ?hp (fun _ hk => hk) trivial (Below.refl _ _) (Nat.le_refl _) (by simp) ?_; (case hd => rfl); (case hg => rfl); (case hr => first | (go_simp; done) | (go_simp; rfl)); (case hp => exact (Reps.c5 (show Kd.M k56 _ _ _ (⟨a1_0, a1_1, (⟨a1_2, a1_3, a1_4⟩ : S34)⟩ : S56) [.int .i64 a1_0, .int .i64 a1_1, .int .i64 a1_2, .int .i64 a1_3, .int .i64 a1_4] from (k56_mkM _ _ _ (⟨a1_0, a1_1, (⟨a1_2, a1_3, a1_4⟩ : S34)⟩ : S56) )) (Reps.none _ _)))
                          intro v219 w29 ho30 hb hg_ hnew_
                          clear hg_ hnew_
                          (first | rw [← Ny218.out] at ho30 | (simp only [Int.reduceToNat] at ho30; rw [← Ny218.out] at ho30))
                          have n0_ := Aside0.mk (Kd.R_elder' (by (with_reducible repeat (first | apply Kd.R_alloc | apply Kd.R_drewN | apply Kd.R_drew)); exact HO_0.out) (Kd.R_base ho30) hb)
                          have n1_ := Aside0.mk (Kd.R_lower (Kd.R_newB (Kd.R_new' (Kd.R_newM (M := fun k_ => (P0_ k_ ∨ w.heap.size ≤ k_)) ho30 (by first | exact HK.out.1 | exact (show Kept w _ (fun k_ => P0_ k_) from by repeat (first | (with_reducible first | exact HK.out | apply Kept.alloc | apply Kept.drewN | apply Kept.drew | refine Kept.setCell ?_ (.inr GW207.out) _) | exact HK.out)).1) (fun k_ h_ => .inr h_)) (Kd.R_lt (by (with_reducible repeat (first | apply Kd.R_alloc | apply Kd.R_drewN | apply Kd.R_drew)); exact HO_0.out))) (g := gb207) (o := .cells #[.int .i64 a1_0, .int .i64 a1_1, .int .i64 a1_2, .int .i64 a1_3, .int .i64 a1_4] 56 (0, 0)) (by (with_reducible repeat (first | refine blk_drewN ?_ _ | refine blk_drew ?_ | refine blk_alloc ?_ _)); exact BK207.out)) (below_size (by repeat (first | (with_reducible first | exact HB.out | apply below_alloc | apply pw_below_drewN | apply below_drew1 | refine below_set ?_ GE207.out) | exact HB.out))))
                          have n2_ := Aside0.mk (blk_below (g := gb207) (o := .cells #[.int .i64 a1_0, .int .i64 a1_1, .int .i64 a1_2, .int .i64 a1_3, .int .i64 a1_4] 56 (0, 0)) (by (with_reducible repeat (first | refine blk_drewN ?_ _ | refine blk_drew ?_ | refine blk_alloc ?_ _)); exact BK207.out) hb)
                          have n3_ := Aside0.mk (Kd.C_below (by repeat (first | (with_reducible exact HR214.out) | (with_reducible refine Kd.C_alloc ?_ _) | (with_reducible refine Kd.C_drewN ?_ _) | (with_reducible refine Kd.C_drew ?_) | exact HR214.out)) hb)
                          have n4_ := Aside0.mk (Kept.below (S := (fun k_ => P0_ k_)) (by repeat (first | (with_reducible first | exact HK.out | apply Kept.alloc | apply Kept.drewN | apply Kept.drew | refine Kept.setCell ?_ (.inr GW207.out) _) | exact HK.out)) hb)
                          have n5_ := Aside0.mk (below_step (by repeat (first | (with_reducible first | exact HB.out | apply below_alloc | apply pw_below_drewN | apply below_drew1 | refine below_set ?_ GE207.out) | exact HB.out)) hb)
                          clear HO_0
                          clear BK207
                          clear HR214
                          clear HK
                          clear HB
                          have HO_0 := n0_
                          have HO220 := n1_
                          have BK207 := n2_
                          have HR214 := n3_
                          have HK := n4_
                          have HB := n5_
                          clear n0_ n1_ n2_ n3_ n4_ n5_
                          clear hb ho30
                          refine hK.out _ _ ⟨(blk_cell BK207.out 0).trans rfl, (blk_cell BK207.out 1).trans rfl, (blk_cell BK207.out 2).trans rfl, (blk_cell BK207.out 3).trans rfl, (blk_cell BK207.out 4).trans rfl⟩ (fun hHeld => ?_)
                          clear hK K
                          refine norm_ (a' := ?_) ?_ ?_
                          rotate_left
                          · show Act.put _ (some 41) _ = _
                            simp only [Act.put, List.setIfInBounds_toArray, List.set_cons_zero, List.set_cons_succ, i64_w, i32_w]
                            rfl
                          refine one_ (i := 4) (N := some 39) #[true, true, true, true, true, true, true, false, false] rfl rfl (one_of HT_.out (by kernel_rfl)) (by decide) (fun K hK => ?_)
                          refine Kd.R_append_rows_step k56 (w0 := w0) w0.heap.size (by rfl) (.tmp 35) (.tmp 38) 35 56 (.agg #[(.int .i64 0), (.int .i64 0), (.int .i64 0), (.int .i64 0), (.int .i64 0)]) 40 rfl Try.underlying35 info56 rfl (by decide) (by omega) (.slice none 0 0) ([] : List (S56)) y211 _ _ _ (fun k_ => (P0_ k_ ∨ w.heap.size ≤ k_) ∧ some k_ ≠ (.slice (some ad208) l0.length co23 : Value).ownBlock ∧ some k_ ≠ (v219 : Value).ownBlock ∧ k_ ≠ gb207) (fun _ => False) rfl rfl ?aO ?aR (fun _ _ h => h) (fun _ h => h.elim) ?aF ?aB ?aS ?aL ?_
                          (case aR => repeat (first | exact (by repeat (first | (with_reducible exact HR214.out) | (with_reducible refine Kd.C_alloc ?_ _) | (with_reducible refine Kd.C_drewN ?_ _) | (with_reducible refine Kd.C_drew ?_) | exact HR214.out)) | (with_reducible refine Kd.C_alloc ?_ _) | (with_reducible refine Kd.C_drewN ?_ _) | (with_reducible refine Kd.C_drew ?_)))
                          (case aB => exact (by repeat (first | (with_reducible first | exact HB.out | apply below_alloc | apply pw_below_drewN | apply below_drew1 | refine below_set ?_ GE207.out) | exact HB.out)))
                          (case aF => exact (fun k_ hk => ⟨(.inr (Nat.le_trans (by first | exact HK.out.1 | exact (show Kept w _ (fun k_ => P0_ k_) from by repeat (first | (with_reducible first | exact HK.out | apply Kept.alloc | apply Kept.drewN | apply Kept.drew | refine Kept.setCell ?_ (.inr GW207.out) _) | exact HK.out)).1) hk)), Kd.fresh' (Kd.R_lt (by (with_reducible repeat (first | apply Kd.R_alloc | apply Kd.R_drewN | apply Kd.R_drew)); exact HO_0.out)) k_ hk, Kd.fresh' (Kd.R_lt (by (with_reducible repeat (first | apply Kd.R_alloc | apply Kd.R_drewN | apply Kd.R_drew)); exact HO220.out)) k_ hk, Kd.freshB (g := gb207) (o := .cells #[.int .i64 a1_0, .int .i64 a1_1, .int .i64 a1_2, .int .i64 a1_3, .int .i64 a1_4] 56 (0, 0)) (by (with_reducible repeat (first | refine blk_drewN ?_ _ | refine blk_drew ?_ | refine blk_alloc ?_ _)); exact BK207.out) k_ hk⟩))
                          (case aO => exact ((Kd.R_nil _ _ _ _ (fun k_ => (P0_ k_ ∨ w.heap.size ≤ k_) ∧ some k_ ≠ (.slice (some ad208) l0.length co23 : Value).ownBlock ∧ some k_ ≠ (v219 : Value).ownBlock ∧ k_ ≠ gb207))))
                          (case aS => exact (below_size (by repeat (first | (with_reducible first | exact HB.out | apply below_alloc | apply pw_below_drewN | apply below_drew1 | refine below_set ?_ GE207.out) | exact HB.out))))
                          (case aL => have := LMc18.out; omega)
                          intro v216 w31 ho hb hg hat
                          rw [← Ny215.out] at ho
                          have n0_ := Aside0.mk (Kd.R_after (Kd.R_apart_nil (by (with_reducible repeat (first | apply Kd.R_alloc | apply Kd.R_drewN | apply Kd.R_drew)); exact HO_0.out)) hg hat)
                          have n1_ := Aside0.mk (blk_grown (g := gb207) (o := .cells #[.int .i64 a1_0, .int .i64 a1_1, .int .i64 a1_2, .int .i64 a1_3, .int .i64 a1_4] 56 (0, 0)) (by (with_reducible repeat (first | refine blk_drewN ?_ _ | refine blk_drew ?_ | refine blk_alloc ?_ _)); exact BK207.out) hg (by simp [Value.ownBlock]))
                          have n2_ := Aside0.mk (Kd.R_after (Kd.R_apart_nil (by (with_reducible repeat (first | apply Kd.R_alloc | apply Kd.R_drewN | apply Kd.R_drew)); exact HO220.out)) hg hat)
                          have n3_ := Aside0.mk (hb)
                          have n4_ := Aside0.mk (Kept.of_grown (S := (fun k_ => P0_ k_)) hg (by repeat (first | (with_reducible first | exact HK.out | apply Kept.alloc | apply Kept.drewN | apply Kept.drew | refine Kept.setCell ?_ (.inr GW207.out) _) | exact HK.out)) (fun k_ e_ => by simp [Value.ownBlock] at e_))
                          have n5_ := Aside0.mk ((show Kd.C k56 w31 (some ad208) y211.length y211 from by rw [Ny211.out]; exact Kd.C_take (m := (x5_1 : Int).toNat) ((Kd.R_reads' (Kd.R_after (Kd.R_apart_nil (by (with_reducible repeat (first | apply Kd.R_alloc | apply Kd.R_drewN | apply Kd.R_drew)); exact HO_0.out)) hg hat)).2.2) KL28.out))
                          have n6_ := Aside0.mk (ho)
                          clear HO_0
                          clear BK207
                          clear HO220
                          clear HB
                          clear HK
                          clear HR214
                          have HO_0 := n0_
                          have BK207 := n1_
                          have HO220 := n2_
                          have HB := n3_
                          have HK := n4_
                          have HR214 := n5_
                          have HO217 := n6_
                          clear n0_ n1_ n2_ n3_ n4_ n5_ n6_
                          clear ho hb hg hat
                          refine hK.out _ _ ⟨(blk_cell BK207.out 0).trans rfl, (blk_cell BK207.out 1).trans rfl, (blk_cell BK207.out 2).trans rfl, (blk_cell BK207.out 3).trans rfl, (blk_cell BK207.out 4).trans rfl⟩ (fun hHeld => ?_)
                          clear hK K
                          refine norm_ (a' := ?_) ?_ ?_
                          rotate_left
                          · show Act.put _ (some 39) _ = _
                            simp only [Act.put, List.setIfInBounds_toArray, List.set_cons_zero, List.set_cons_succ, i64_w, i32_w]
                            rfl
                          exact norm_ (by simp only [putAll, Act.put, List.setIfInBounds_toArray, List.set_cons_zero, List.set_cons_succ]) (hCont (v216, v219) _ ⟨hHeld, (by (with_reducible repeat (first | apply Kd.R_alloc | apply Kd.R_drewN | apply Kd.R_drew)); exact Kd.R_mono HO217.out (fun _ hk => ⟨hk.1, ⟨hk.2.2.1, ⟨hk.2.1, hk.2.2.2⟩⟩⟩)), (by (with_reducible repeat (first | apply Kd.R_alloc | apply Kd.R_drewN | apply Kd.R_drew)); exact Kd.R_mono HO220.out (fun _ hk => ⟨hk.1.1.1.1, ⟨hk.2, ⟨hk.1.1.2, hk.1.2⟩⟩⟩)), (by (with_reducible repeat (first | apply Kd.R_alloc | apply Kd.R_drewN | apply Kd.R_drew)); exact Kd.R_mono HO_0.out (fun _ hk => ⟨hk.1.1.1, ⟨hk.2, ⟨hk.1.2, hk.1.1.2⟩⟩⟩)), (by (with_reducible repeat (first | refine blk_drewN ?_ _ | refine blk_drew ?_ | refine blk_alloc ?_ _)); exact BK207.out), (by repeat (first | (with_reducible first | exact HK.out | apply Kept.alloc | apply Kept.drewN | apply Kept.drew | refine Kept.setCell ?_ (.inr GW207.out) _) | exact HK.out)), (by repeat (first | (with_reducible first | exact HB.out | apply below_alloc | apply pw_below_drewN | apply below_drew1 | refine below_set ?_ GE207.out) | exact HB.out))⟩)
                      rintro ⟨v216, v219⟩ w32 ⟨hS_, h0_, h1_, h2_, h3_, h4_, h5_⟩
                      have n0_ : Aside0 (Kd.R k56 56 w32 w0.heap.size (fun k_ => (P0_ k_ ∨ w.heap.size ≤ k_) ∧ some k_ ≠ (v219 : Value).ownBlock ∧ some k_ ≠ (.slice (some ad208) l0.length co23 : Value).ownBlock ∧ k_ ≠ gb207) v216 y215) := ⟨h0_⟩
                      have n1_ : Aside0 (Kd.R k56 56 w32 w0.heap.size (fun k_ => (P0_ k_ ∨ w.heap.size ≤ k_) ∧ some k_ ≠ (v216 : Value).ownBlock ∧ some k_ ≠ (.slice (some ad208) l0.length co23 : Value).ownBlock ∧ k_ ≠ gb207) v219 y218) := ⟨h1_⟩
                      have n2_ : Aside0 (Kd.R k56 56 w32 w0.heap.size (fun k_ => (P0_ k_ ∨ w.heap.size ≤ k_) ∧ some k_ ≠ (v216 : Value).ownBlock ∧ some k_ ≠ (v219 : Value).ownBlock ∧ k_ ≠ gb207) (.slice (some ad208) l0.length co23) l0) := ⟨h2_⟩
                      have n3_ : Aside0 (w32.heap[gb207]? = some (.cells #[.int .i64 a1_0, .int .i64 a1_1, .int .i64 a1_2, .int .i64 a1_3, .int .i64 a1_4] 56 (0, 0))) := ⟨h3_⟩
                      have n4_ : Aside0 (Kept w w32 (fun k_ => P0_ k_)) := ⟨h4_⟩
                      have n5_ : Aside0 (Below w0.heap.size w0 w32) := ⟨h5_⟩
                      clear HO_0
                      clear BK207
                      clear HK
                      clear HB
                      clear h0_ h1_ h2_ h3_ h4_ h5_
                      have HO217 := n0_
                      have HO220 := n1_
                      have HO_0 := n2_
                      have BK207 := n3_
                      have HK := n4_
                      have HB := n5_
                      clear n0_ n1_ n2_ n3_ n4_ n5_
                      have hHeld : w32.cell? ⟨gb207, 0, none⟩ = some (.int .i64 a1_0) ∧ w32.cell? ⟨gb207, 1, none⟩ = some (.int .i64 a1_1) ∧ w32.cell? ⟨gb207, 2, none⟩ = some (.int .i64 a1_2) ∧ w32.cell? ⟨gb207, 3, none⟩ = some (.int .i64 a1_3) ∧ w32.cell? ⟨gb207, 4, none⟩ = some (.int .i64 a1_4) := hS_
                      obtain ⟨Ao34, co34, eo34⟩ := Kd.R_slice HO220.out
                      (first | subst eo34 | (injection eo34 with f1_ f2_ f3_; have f4_ := f1_.symm; have f5_ := f3_.symm; clear f1_ f2_ f3_; subst f4_; subst f5_))
                      refine norm_ (a' := ?_) ?_ ?_
                      rotate_left
                      · simp only [putAll, Act.put, List.setIfInBounds_toArray, List.set_cons_zero, List.set_cons_succ]
                        rfl
                      refine one_ (i := 7) (N := some 42) #[true, true, true, true, true, true, true, true, false] rfl rfl (one_of HT_.out (by kernel_rfl)) (by decide) (fun K hK => ?_)
                      refine Kd.R_append_rows_step k56 (w0 := w0) w0.heap.size (by rfl) (.tmp 39) (.tmp 41) 35 56 (.agg #[(.int .i64 0), (.int .i64 0), (.int .i64 0), (.int .i64 0), (.int .i64 0)]) 40 rfl Try.underlying35 info56 rfl (by decide) (by omega) v216 y215 y218 _ _ _ (fun k_ => (P0_ k_ ∨ w.heap.size ≤ k_) ∧ some k_ ≠ (.slice (some ad208) l0.length co23 : Value).ownBlock ∧ some k_ ≠ (.slice Ao34 y218.length co34 : Value).ownBlock ∧ k_ ≠ gb207) (fun _ => False) rfl rfl ?aO ?aR (fun _ _ h => h) (fun _ h => h.elim) ?aF ?aB ?aS ?aL ?_
                      (case aR => repeat (first | exact (Kd.R_reads' HO220.out).2.2 | (with_reducible refine Kd.C_alloc ?_ _) | (with_reducible refine Kd.C_drewN ?_ _) | (with_reducible refine Kd.C_drew ?_)))
                      (case aB => exact (by repeat (first | (with_reducible first | exact HB.out | apply below_alloc | apply pw_below_drewN | apply below_drew1 | refine below_set ?_ GE207.out) | exact HB.out)))
                      (case aF => exact (fun k_ hk => ⟨(.inr (Nat.le_trans (by first | exact HK.out.1 | exact (show Kept w _ (fun k_ => P0_ k_) from by repeat (first | (with_reducible first | exact HK.out | apply Kept.alloc | apply Kept.drewN | apply Kept.drew | refine Kept.setCell ?_ (.inr GW207.out) _) | exact HK.out)).1) hk)), Kd.fresh' (Kd.R_lt (by (with_reducible repeat (first | apply Kd.R_alloc | apply Kd.R_drewN | apply Kd.R_drew)); exact HO_0.out)) k_ hk, Kd.fresh' (Kd.R_lt (by (with_reducible repeat (first | apply Kd.R_alloc | apply Kd.R_drewN | apply Kd.R_drew)); exact HO220.out)) k_ hk, Kd.freshB (g := gb207) (o := .cells #[.int .i64 a1_0, .int .i64 a1_1, .int .i64 a1_2, .int .i64 a1_3, .int .i64 a1_4] 56 (0, 0)) (by (with_reducible repeat (first | refine blk_drewN ?_ _ | refine blk_drew ?_ | refine blk_alloc ?_ _)); exact BK207.out) k_ hk⟩))
                      (case aO => exact (by (with_reducible repeat (first | apply Kd.R_alloc | apply Kd.R_drewN | apply Kd.R_drew)); exact Kd.R_mono HO217.out (fun _ hk => ⟨hk.1, ⟨hk.2.2.1, ⟨hk.2.1, hk.2.2.2⟩⟩⟩)))
                      (case aS => exact (below_size (by repeat (first | (with_reducible first | exact HB.out | apply below_alloc | apply pw_below_drewN | apply below_drew1 | refine below_set ?_ GE207.out) | exact HB.out))))
                      (case aL => have := LMc19.out; omega)
                      intro v222 w33 ho hb hg hat
                      rw [← Ny221.out] at ho
                      have n0_ := Aside0.mk (Kd.R_after (ok := (fun k_ => (P0_ k_ ∨ w.heap.size ≤ k_) ∧ some k_ ≠ (.slice Ao34 y218.length co34 : Value).ownBlock ∧ k_ ≠ gb207)) (by (with_reducible repeat (first | apply Kd.R_alloc | apply Kd.R_drewN | apply Kd.R_drew)); exact Kd.R_mono HO_0.out (fun _ hk => ⟨⟨hk.1, ⟨hk.2.2.1, hk.2.2.2⟩⟩, hk.2.1⟩)) hg hat)
                      have n1_ := Aside0.mk (blk_grown (g := gb207) (o := .cells #[.int .i64 a1_0, .int .i64 a1_1, .int .i64 a1_2, .int .i64 a1_3, .int .i64 a1_4] 56 (0, 0)) (by (with_reducible repeat (first | refine blk_drewN ?_ _ | refine blk_drew ?_ | refine blk_alloc ?_ _)); exact BK207.out) hg (Kd.R_away HO217.out (fun _ hk => hk.2.2.2)))
                      have n2_ := Aside0.mk (Kd.R_after (ok := (fun k_ => (P0_ k_ ∨ w.heap.size ≤ k_) ∧ some k_ ≠ (.slice (some ad208) l0.length co23 : Value).ownBlock ∧ k_ ≠ gb207)) (by (with_reducible repeat (first | apply Kd.R_alloc | apply Kd.R_drewN | apply Kd.R_drew)); exact Kd.R_mono HO220.out (fun _ hk => ⟨⟨hk.1, ⟨hk.2.2.1, hk.2.2.2⟩⟩, hk.2.1⟩)) hg hat)
                      have n3_ := Aside0.mk (hb)
                      have n4_ := Aside0.mk (Kept.of_grown (S := (fun k_ => P0_ k_)) hg (by repeat (first | (with_reducible first | exact HK.out | apply Kept.alloc | apply Kept.drewN | apply Kept.drew | refine Kept.setCell ?_ (.inr GW207.out) _) | exact HK.out)) (fun k_ e_ => (HO217.out.1 k_ e_).1))
                      have n5_ := Aside0.mk (ho)
                      clear HO_0
                      clear BK207
                      clear HO220
                      clear HB
                      clear HK
                      clear HO217
                      have HO_0 := n0_
                      have BK207 := n1_
                      have HO220 := n2_
                      have HB := n3_
                      have HK := n4_
                      have HO223 := n5_
                      clear n0_ n1_ n2_ n3_ n4_ n5_
                      clear ho hb hg hat
                      refine hK.out _ _ ⟨(blk_cell BK207.out 0).trans rfl, (blk_cell BK207.out 1).trans rfl, (blk_cell BK207.out 2).trans rfl, (blk_cell BK207.out 3).trans rfl, (blk_cell BK207.out 4).trans rfl⟩ (fun hHeld => ?_)
                      clear hK K
                      refine norm_ (a' := ?_) ?_ ?_
                      rotate_left
                      · show Act.put _ (some 42) _ = _
                        simp only [Act.put, List.setIfInBounds_toArray, List.set_cons_zero, List.set_cons_succ, i64_w, i32_w]
                        rfl
                      refine pure_ (i := 8) (N := some 7) (v := ?_) (a' := ?_) #[true, true, true, true, true, true, true, true, true] rfl rfl (any_of HT_.out (by kernel_rfl)) (fun _ _ _ h => h) (Or.inl ⟨by rfl, ?_⟩) ?_ ?_
                      rotate_left
                      · intro w'
                        go_simp
                        with_reducible rfl
                      rotate_left
                      · simp only [Act.put, List.setIfInBounds_toArray, List.set_cons_zero, List.set_cons_succ, i64_w, i32_w]
                        rfl
                      refine done_ (done_of HT_.out (by kernel_rfl)) ?_
                      have q35 : (x5_1 : Int) ≤ ((l0.length : Int) : Int) := of_decide_eq_true (by first | (with_reducible assumption) | assumption)
                      obtain ⟨i035, hi035, _, hsz35, _⟩ := info_parts info56
                      have hroom35 : l0.length ≤ co23 := (Kd.R_reads' HO_0.out).2.1
                      have hC35 : Kd.C k56 _ (some ad208) l0.length l0 := (Kd.R_reads' HO_0.out).2.2
                      have q035 : (0 : Int) ≤ (x5_1 : Int) := of_decide_eq_true (by first | (with_reducible assumption) | assumption)
                      have hcut35 := cut_from (P := Try.prog) 35 56 .i64 Try.underlying35 hi035 5 hsz35 (some ad208) l0.length co23 x5_1 q035 q35
                      have hr35 := Kd.C_drop (m := (x5_1 : Int).toNat) (c := co23) hC35 (by omega) hroom35
                      obtain ⟨A35, hA35⟩ : ∃ A1, A1 = (if co23 = (x5_1 : Int).toNat then (some ad208) else ((some ad208) : Option Addr).map (·.add ((x5_1 : Int).toNat * 5))) := ⟨_, rfl⟩
                      obtain ⟨c35, hc35⟩ : ∃ c1, c1 = co23 - (x5_1 : Int).toNat := ⟨_, rfl⟩
                      have hy35 : y224.length = l0.length - (x5_1 : Int).toNat := (by rw [Ny224.out, List.length_drop] <;> omega)
                      rw [show (l0).drop (x5_1 : Int).toNat = y224 from Ny224.out.symm] at hr35
                      replace hr35 : Kd.C k56 _ A35 y224.length y224 := (by rw [hA35]; exact hr35)
                      rw [← hy35, ← hA35, ← hc35] at hcut35
                      have HR227 := Aside0.mk hr35
                      have HC227 := Aside0.mk (show y224.length ≤ c35 from by rw [hy35, hc35]; exact Nat.sub_le_sub_right hroom35 _)
                      clear hr35 hC35 hroom35 hi035 hsz35 hc35
                      have KY35 := Aside0.mk hy35
                      have KA35 := Aside0.mk hA35
                      clear hy35 hA35
                      have KL35 := Aside0.mk (show (x5_1 : Int).toNat ≤ l0.length from by omega)
                      replace q35 := eq_true q35
                      try go_wp2_with (first | ((with_reducible refine gate_builtin (b := .append) (xs := #[.tmp 43, .tmp 46]) rfl ?_); at_builtin; refine Kd.R_append_rows k56 (w0 := w0) w0.heap.size rfl (.tmp 43) (.tmp 46) 35 56 (.agg #[(.int .i64 0), (.int .i64 0), (.int .i64 0), (.int .i64 0), (.int .i64 0)]) 40 rfl Try.underlying35 info56 rfl (by decide) (by omega) v222 y221 y224 _ _ _ (fun k_ => (P0_ k_ ∨ w.heap.size ≤ k_) ∧ some k_ ≠ (.slice (some ad208) l0.length co23 : Value).ownBlock ∧ some k_ ≠ (.slice Ao34 y218.length co34 : Value).ownBlock ∧ k_ ≠ gb207) (fun _ => False) rfl rfl ?aO ?aR (fun _ _ h => h) (fun _ h => h.elim) ?aF ?aB ?aS ?aL ?_; (case aR => repeat (first | exact (by repeat (first | (with_reducible exact HR227.out) | (with_reducible refine Kd.C_alloc ?_ _) | (with_reducible refine Kd.C_drewN ?_ _) | (with_reducible refine Kd.C_drew ?_) | exact HR227.out)) | (with_reducible refine Kd.C_alloc ?_ _) | (with_reducible refine Kd.C_drewN ?_ _) | (with_reducible refine Kd.C_drew ?_))); (case aB => exact (by repeat (first | (with_reducible first | exact HB.out | apply below_alloc | apply pw_below_drewN | apply below_drew1 | refine below_set ?_ GE207.out) | exact HB.out))); (case aF => exact (fun k_ hk => ⟨(.inr (Nat.le_trans (by first | exact HK.out.1 | exact (show Kept w _ (fun k_ => P0_ k_) from by repeat (first | (with_reducible first | exact HK.out | apply Kept.alloc | apply Kept.drewN | apply Kept.drew | refine Kept.setCell ?_ (.inr GW207.out) _) | exact HK.out)).1) hk)), Kd.fresh' (Kd.R_lt (by (with_reducible repeat (first | apply Kd.R_alloc | apply Kd.R_drewN | apply Kd.R_drew)); exact HO_0.out)) k_ hk, Kd.fresh' (Kd.R_lt (by (with_reducible repeat (first | apply Kd.R_alloc | apply Kd.R_drewN | apply Kd.R_drew)); exact HO220.out)) k_ hk, Kd.freshB (g := gb207) (o := .cells #[.int .i64 a1_0, .int .i64 a1_1, .int .i64 a1_2, .int .i64 a1_3, .int .i64 a1_4] 56 (0, 0)) (by (with_reducible repeat (first | refine blk_drewN ?_ _ | refine blk_drew ?_ | refine blk_alloc ?_ _)); exact BK207.out) k_ hk⟩)); (case aO => exact (by (with_reducible repeat (first | apply Kd.R_alloc | apply Kd.R_drewN | apply Kd.R_drew)); exact HO223.out)); (case aS => exact (below_size (by repeat (first | (with_reducible first | exact HB.out | apply below_alloc | apply pw_below_drewN | apply below_drew1 | refine below_set ?_ GE207.out) | exact HB.out)))); (case aL => have := LMc22.out; omega); intro v229 w36 ho hb hg hat; rw [← Ny228.out] at ho; have n0_ := Aside0.mk (Kd.R_after (ok := (fun k_ => (P0_ k_ ∨ w.heap.size ≤ k_) ∧ some k_ ≠ (.slice Ao34 y218.length co34 : Value).ownBlock ∧ k_ ≠ gb207)) (by (with_reducible repeat (first | apply Kd.R_alloc | apply Kd.R_drewN | apply Kd.R_drew)); exact HO_0.out) hg hat); have n1_ := Aside0.mk (blk_grown (g := gb207) (o := .cells #[.int .i64 a1_0, .int .i64 a1_1, .int .i64 a1_2, .int .i64 a1_3, .int .i64 a1_4] 56 (0, 0)) (by (with_reducible repeat (first | refine blk_drewN ?_ _ | refine blk_drew ?_ | refine blk_alloc ?_ _)); exact BK207.out) hg (Kd.R_away HO223.out (fun _ hk => hk.2.2.2))); have n2_ := Aside0.mk (Kd.R_after (ok := (fun k_ => (P0_ k_ ∨ w.heap.size ≤ k_) ∧ some k_ ≠ (.slice (some ad208) l0.length co23 : Value).ownBlock ∧ k_ ≠ gb207)) (by (with_reducible repeat (first | apply Kd.R_alloc | apply Kd.R_drewN | apply Kd.R_drew)); exact HO220.out) hg hat); have n3_ := Aside0.mk (hb); have n4_ := Aside0.mk (Kept.of_grown (S := (fun k_ => P0_ k_)) hg (by repeat (first | (with_reducible first | exact HK.out | apply Kept.alloc | apply Kept.drewN | apply Kept.drew | refine Kept.setCell ?_ (.inr GW207.out) _) | exact HK.out)) (fun k_ e_ => (HO223.out.1 k_ e_).1)); have n5_ := Aside0.mk ((show Kd.C k56 w36 A35 y224.length y224 from by rw [Ny224.out, KA35.out]; exact Kd.C_drop (m := (x5_1 : Int).toNat) (c := co23) ((Kd.R_reads' (Kd.R_after (ok := (fun k_ => (P0_ k_ ∨ w.heap.size ≤ k_) ∧ some k_ ≠ (.slice Ao34 y218.length co34 : Value).ownBlock ∧ k_ ≠ gb207)) (by (with_reducible repeat (first | apply Kd.R_alloc | apply Kd.R_drewN | apply Kd.R_drew)); exact HO_0.out) hg hat)).2.2) KL35.out ((Kd.R_reads' (Kd.R_after (ok := (fun k_ => (P0_ k_ ∨ w.heap.size ≤ k_) ∧ some k_ ≠ (.slice Ao34 y218.length co34 : Value).ownBlock ∧ k_ ≠ gb207)) (by (with_reducible repeat (first | apply Kd.R_alloc | apply Kd.R_drewN | apply Kd.R_drew)); exact HO_0.out) hg hat)).2.1))); have n6_ := Aside0.mk (ho); clear HO_0; clear BK207; clear HO220; clear HB; clear HK; clear HR227; clear HO223; have HO_0 := n0_; have BK207 := n1_; have HO220 := n2_; have HB := n3_; have HK := n4_; have HR227 := n5_; have HO230 := n6_; clear n0_ n1_ n2_ n3_ n4_ n5_ n6_; clear ho hb hg hat))
                      go_ret
                      exact ⟨_, by first | rfl | (simp [errW_none, errW_some] <;> rfl) | (simp [*, errW_none, errW_some] <;> rfl), by (with_reducible repeat (first | apply Kd.R_alloc | apply Kd.R_drewN | apply Kd.R_drew)); exact Kd.R_mono HO230.out (fun _ hk => hk.1), by repeat (first | (with_reducible first | exact HB.out | apply below_alloc | apply pw_below_drewN | apply below_drew1 | refine below_set ?_ GE207.out) | exact HB.out), by repeat (first | (with_reducible first | exact HK.out | apply Kept.alloc | apply Kept.drewN | apply Kept.drew | refine Kept.setCell ?_ (.inr GW207.out) _) | exact HK.out)⟩
                    · rw [if_neg c22] at H
                      exact absurd H (by simp)
                  · rw [if_neg c19] at H
                    exact absurd H (by simp)
                · rw [if_neg c18] at H
                  exact absurd H (by simp)
              · rw [if_neg c17] at H
                exact absurd H (by simp)
        · rw [if_neg c5] at H
          exact absurd H (by simp)
      · rw [if_neg c4] at H
        have c4b0 : decide (x5_1 < (l0.length : Int)) = false := decide_eq_false c4
        clear c4
        by_cases c37 : 0 ≤ x5_1
        · rw [if_pos c37] at H
          have c37b0 := eq_true c37
          have c37b1 : decide (0 ≤ x5_1) = true := decide_eq_true c37
          clear c37
          by_cases c38 : x5_1 ≤ (l0.length : Int)
          · rw [if_pos c38] at H
            have c38b0 := eq_true c38
            have c38b1 : decide (x5_1 ≤ (l0.length : Int)) = true := decide_eq_true c38
            clear c38
            obtain ⟨y231, hy231⟩ : ∃ y_ : List (S56), y_ = (l0.take (x5_1 : Int).toNat) := ⟨_, rfl⟩
            replace H : (if ([] : List (S56)).length + y231.length < 3518437208883 then ((some (([] : List (S56)) ++ y231 : List (S56))).bind fun y235 => ((some (([(⟨a1_0, a1_1, (⟨a1_2, a1_3, a1_4⟩ : S34)⟩ : S56)] : List (S56)) : List (S56))).bind fun y238 => (if y235.length + y238.length < 3518437208883 then ((some (y235 ++ y238 : List (S56))).bind fun y241 => ((some (l0.drop (x5_1 : Int).toNat : List (S56))).bind fun y244 => (if y241.length + y244.length < 3518437208883 then (some (y241 ++ y244)) else (none)))) else (none)))) else (none)) = some r := by first | (rw [hy231]; with_reducible exact H) | (have H2_ := (Option.bind_some _ _).symm.trans H; rw [hy231]; with_reducible exact H2_) | (have H2_ := (Option.bind_some _ _).symm.trans H; with_reducible exact H2_) | with_reducible exact H | (rw [hy231]; exact H) | exact H
            have Ny231 := Aside0.mk hy231
            clear hy231
            by_cases c39 : ([] : List (S56)).length + y231.length < 3518437208883
            · rw [if_pos c39] at H
              have LMc39 := Aside0.mk c39
              clear c39
              obtain ⟨y235, hy235⟩ : ∃ y_ : List (S56), y_ = (([] : List (S56)) ++ y231) := ⟨_, rfl⟩
              replace H : ((some (([(⟨a1_0, a1_1, (⟨a1_2, a1_3, a1_4⟩ : S34)⟩ : S56)] : List (S56)) : List (S56))).bind fun y238 => (if y235.length + y238.length < 3518437208883 then ((some (y235 ++ y238 : List (S56))).bind fun y241 => ((some (l0.drop (x5_1 : Int).toNat : List (S56))).bind fun y244 => (if y241.length + y244.length < 3518437208883 then (some (y241 ++ y244)) else (none)))) else (none))) = some r := by first | (rw [hy235]; with_reducible exact H) | (have H2_ := (Option.bind_some _ _).symm.trans H; rw [hy235]; with_reducible exact H2_) | (have H2_ := (Option.bind_some _ _).symm.trans H; with_reducible exact H2_) | with_reducible exact H | (rw [hy235]; exact H) | exact H
              have Ny235 := Aside0.mk hy235
              clear hy235
              obtain ⟨y238, hy238⟩ : ∃ y_ : List (S56), y_ = (([(⟨a1_0, a1_1, (⟨a1_2, a1_3, a1_4⟩ : S34)⟩ : S56)] : List (S56))) := ⟨_, rfl⟩
              replace H : (if y235.length + y238.length < 3518437208883 then ((some (y235 ++ y238 : List (S56))).bind fun y241 => ((some (l0.drop (x5_1 : Int).toNat : List (S56))).bind fun y244 => (if y241.length + y244.length < 3518437208883 then (some (y241 ++ y244)) else (none)))) else (none)) = some r := by first | (rw [hy238]; with_reducible exact H) | (have H2_ := (Option.bind_some _ _).symm.trans H; rw [hy238]; with_reducible exact H2_) | (have H2_ := (Option.bind_some _ _).symm.trans H; with_reducible exact H2_) | with_reducible exact H | (rw [hy238]; exact H) | exact H
              have Ny238 := Aside0.mk hy238
              clear hy238
              by_cases c40 : y235.length + y238.length < 3518437208883
              · rw [if_pos c40] at H
                have LMc40 := Aside0.mk c40
                clear c40
                obtain ⟨y241, hy241⟩ : ∃ y_ : List (S56), y_ = (y235 ++ y238) := ⟨_, rfl⟩
                replace H : ((some (l0.drop (x5_1 : Int).toNat : List (S56))).bind fun y244 => (if y241.length + y244.length < 3518437208883 then (some (y241 ++ y244)) else (none))) = some r := by first | (rw [hy241]; with_reducible exact H) | (have H2_ := (Option.bind_some _ _).symm.trans H; rw [hy241]; with_reducible exact H2_) | (have H2_ := (Option.bind_some _ _).symm.trans H; with_reducible exact H2_) | with_reducible exact H | (rw [hy241]; exact H) | exact H
                have Ny241 := Aside0.mk hy241
                clear hy241
                have c41b0 := eq_true (of_decide_eq_true (by first | (with_reducible assumption) | assumption) : 0 ≤ x5_1)
                have c42b0 := eq_true (of_decide_eq_true (by first | (with_reducible assumption) | assumption) : x5_1 ≤ (l0.length : Int))
                obtain ⟨y244, hy244⟩ : ∃ y_ : List (S56), y_ = (l0.drop (x5_1 : Int).toNat) := ⟨_, rfl⟩
                replace H : (if y241.length + y244.length < 3518437208883 then (some (y241 ++ y244)) else (none)) = some r := by first | (rw [hy244]; with_reducible exact H) | (have H2_ := (Option.bind_some _ _).symm.trans H; rw [hy244]; with_reducible exact H2_) | (have H2_ := (Option.bind_some _ _).symm.trans H; with_reducible exact H2_) | with_reducible exact H | (rw [hy244]; exact H) | exact H
                have Ny244 := Aside0.mk hy244
                clear hy244
                by_cases c43 : y241.length + y244.length < 3518437208883
                · rw [if_pos c43] at H
                  have LMc43 := Aside0.mk c43
                  clear c43
                  obtain ⟨y248, hy248⟩ : ∃ y_ : List (S56), y_ = (y241 ++ y244) := ⟨_, rfl⟩
                  replace H : (some y248) = some r := by first | (rw [hy248]; with_reducible exact H) | (have H2_ := (Option.bind_some _ _).symm.trans H; rw [hy248]; with_reducible exact H2_) | (have H2_ := (Option.bind_some _ _).symm.trans H; with_reducible exact H2_) | with_reducible exact H | (rw [hy248]; exact H) | exact H
                  have Ny248 := Aside0.mk hy248
                  clear hy248
                  obtain rfl := Option.some.inj H
                  obtain ⟨Ao44, co44, eo44⟩ := Kd.R_slice HO_0.out
                  subst eo44
                  try go_wp2
                  have n0_ := Aside0.mk (Kd.R_drew HO_0.out)
                  have n1_ := Aside0.mk (blk_drew BK207.out)
                  have n2_ := Aside0.mk (Kept.drew HK.out)
                  have n3_ := Aside0.mk (below_drew1 HB.out)
                  clear HO_0
                  clear BK207
                  clear HK
                  clear HB
                  have HO_0 := n0_
                  have BK207 := n1_
                  have HK := n2_
                  have HB := n3_
                  clear n0_ n1_ n2_ n3_
                  refine start_ (n := 12) (S := fun w' => True) (ds := []) #[false, false, false, false, false, false, false, false, false, false, false, false] (by kernel_rfl) rfl rfl trivial (fun hHeld => ?_); refine with_tabW skymosaicref32_put.tab6 skymosaicref32_put.bits6 (fun HT_ HW_ => ?_)
                  generalize wr.drew = w45 at HO_0 BK207 HK HB hHeld ⊢
                  refine pure_ (i := 0) (N := some 22) (v := ?_) (a' := ?_) #[true, false, false, false, false, false, false, false, false, false, false, false] rfl rfl (any_of HT_.out (by kernel_rfl)) (fun _ _ _ h => h) (Or.inl ⟨by rfl, ?_⟩) ?_ ?_
                  rotate_left
                  · intro w'
                    go_simp
                    with_reducible rfl
                  rotate_left
                  · simp only [Act.put, List.setIfInBounds_toArray, List.set_cons_zero, List.set_cons_succ, i64_w, i32_w]
                    rfl
                  refine pure_ (i := 1) (N := some 23) (v := ?_) (a' := ?_) #[true, true, false, false, false, false, false, false, false, false, false, false] rfl rfl (any_of HT_.out (by kernel_rfl)) (fun _ _ _ h => h) (Or.inl ⟨by rfl, ?_⟩) ?_ ?_
                  rotate_left
                  · intro w'
                    go_simp
                    with_reducible rfl
                  rotate_left
                  · simp only [Act.put, List.setIfInBounds_toArray, List.set_cons_zero, List.set_cons_succ, i64_w, i32_w]
                    rfl
                  refine pure_ (i := 2) (N := some 24) (v := ?_) (a' := ?_) #[true, true, true, false, false, false, false, false, false, false, false, false] rfl rfl (any_of HT_.out (by kernel_rfl)) (fun _ _ _ h => h) (Or.inl ⟨by rfl, ?_⟩) ?_ ?_
                  rotate_left
                  · intro w'
                    go_simp
                    with_reducible rfl
                  rotate_left
                  · simp only [Act.put, List.setIfInBounds_toArray, List.set_cons_zero, List.set_cons_succ, i64_w, i32_w]
                    rfl
                  refine pure_ (i := 3) (N := some 25) (v := ?_) (a' := ?_) #[true, true, true, true, false, false, false, false, false, false, false, false] rfl rfl (any_of HT_.out (by kernel_rfl)) (fun _ _ _ h => h) (Or.inl ⟨by rfl, ?_⟩) ?_ ?_
                  rotate_left
                  · intro w'
                    go_simp
                    with_reducible rfl
                  rotate_left
                  · simp only [Act.put, List.setIfInBounds_toArray, List.set_cons_zero, List.set_cons_succ, i64_w, i32_w]
                    rfl
                  refine pure_ (i := 4) (N := some 26) (v := ?_) (a' := ?_) #[true, true, true, true, true, false, false, false, false, false, false, false] rfl rfl (any_of HT_.out (by kernel_rfl)) (fun _ _ _ h => h) (Or.inl ⟨by rfl, ?_⟩) ?_ ?_
                  rotate_left
                  · intro w'
                    go_simp
                    with_reducible rfl
                  rotate_left
                  · simp only [Act.put, List.setIfInBounds_toArray, List.set_cons_zero, List.set_cons_succ, i64_w, i32_w]
                    rfl
                  refine pure_ (i := 5) (N := some 27) (v := undef) (a' := ?_) #[true, true, true, true, true, true, false, false, false, false, false, false] rfl rfl (any_of HT_.out (by kernel_rfl)) (fun _ _ _ h => h) (Or.inr ⟨by rfl, rfl⟩) ?_ ?_
                  rotate_left
                  · simp only [Act.put, List.setIfInBounds_toArray, List.set_cons_zero, List.set_cons_succ, i64_w, i32_w]
                    rfl
                  refine pure_ (i := 6) (N := some 28) (v := undef) (a' := ?_) #[true, true, true, true, true, true, true, false, false, false, false, false] rfl rfl (any_of HT_.out (by kernel_rfl)) (fun _ _ _ h => h) (Or.inr ⟨by rfl, rfl⟩) ?_ ?_
                  rotate_left
                  · simp only [Act.put, List.setIfInBounds_toArray, List.set_cons_zero, List.set_cons_succ, i64_w, i32_w]
                    rfl
                  refine pure_ (i := 7) (N := some 29) (v := undef) (a' := ?_) #[true, true, true, true, true, true, true, true, false, false, false, false] rfl rfl (any_of HT_.out (by kernel_rfl)) (fun _ _ _ h => h) (Or.inr ⟨by rfl, rfl⟩) ?_ ?_
                  rotate_left
                  · simp only [Act.put, List.setIfInBounds_toArray, List.set_cons_zero, List.set_cons_succ, i64_w, i32_w]
                    rfl
                  refine pure_ (i := 8) (N := some 30) (v := undef) (a' := ?_) #[true, true, true, true, true, true, true, true, true, false, false, false] rfl rfl (any_of HT_.out (by kernel_rfl)) (fun _ _ _ h => h) (Or.inr ⟨by rfl, rfl⟩) ?_ ?_
                  rotate_left
                  · simp only [Act.put, List.setIfInBounds_toArray, List.set_cons_zero, List.set_cons_succ, i64_w, i32_w]
                    rfl
                  refine pure_ (i := 9) (N := some 31) (v := undef) (a' := ?_) #[true, true, true, true, true, true, true, true, true, true, false, false] rfl rfl (any_of HT_.out (by kernel_rfl)) (fun _ _ _ h => h) (Or.inr ⟨by rfl, rfl⟩) ?_ ?_
                  rotate_left
                  · simp only [Act.put, List.setIfInBounds_toArray, List.set_cons_zero, List.set_cons_succ, i64_w, i32_w]
                    rfl
                  refine pure_ (i := 10) (N := some 32) (v := undef) (a' := ?_) #[true, true, true, true, true, true, true, true, true, true, true, false] rfl rfl (any_of HT_.out (by kernel_rfl)) (fun _ _ _ h => h) (Or.inr ⟨by rfl, rfl⟩) ?_ ?_
                  rotate_left
                  · simp only [Act.put, List.setIfInBounds_toArray, List.set_cons_zero, List.set_cons_succ, i64_w, i32_w]
                    rfl
                  refine pure_ (i := 11) (N := some 33) (v := ?_) (a' := ?_) #[true, true, true, true, true, true, true, true, true, true, true, true] rfl rfl (any_of HT_.out (by kernel_rfl)) (fun _ _ _ h => h) (Or.inl ⟨by rfl, ?_⟩) ?_ ?_
                  rotate_left
                  · intro w'
                    go_simp
                    with_reducible rfl
                  rotate_left
                  · simp only [Act.put, List.setIfInBounds_toArray, List.set_cons_zero, List.set_cons_succ, i64_w, i32_w]
                    rfl
                  refine done_ (done_of HT_.out (by kernel_rfl)) ?_
                  try go_wp2
                  have n0_ := Aside0.mk (Kd.R_drew HO_0.out)
                  have n1_ := Aside0.mk (blk_drew BK207.out)
                  have n2_ := Aside0.mk (Kept.drew HK.out)
                  have n3_ := Aside0.mk (below_drew1 HB.out)
                  clear HO_0
                  clear BK207
                  clear HK
                  clear HB
                  have HO_0 := n0_
                  have BK207 := n1_
                  have HK := n2_
                  have HB := n3_
                  clear n0_ n1_ n2_ n3_
                  have q47 : (x5_1 : Int) ≤ ((l0.length : Int) : Int) := of_decide_eq_true (by first | (with_reducible assumption) | assumption)
                  obtain ⟨i047, hi047, _, hsz47, _⟩ := info_parts info56
                  have hroom47 : l0.length ≤ co44 := (Kd.R_reads' HO_0.out).2.1
                  have hC47 : Kd.C k56 _ Ao44 l0.length l0 := (Kd.R_reads' HO_0.out).2.2
                  have hcut47 := cut_to (P := Try.prog) 35 56 .i64 Try.underlying35 hi047 Ao44 l0.length co44 x5_1 (of_decide_eq_true (by first | (with_reducible assumption) | assumption)) q47 hroom47
                  have hr47 := Kd.C_take (m := (x5_1 : Int).toNat) hC47 (by omega)
                  have hy47 : y231.length = (x5_1 : Int).toNat := (by rw [Ny231.out, List.length_take]; omega)
                  rw [← Ny231.out] at hr47
                  rw [← hy47] at hcut47
                  have HR234 := Aside0.mk hr47
                  have HC234 := Aside0.mk (show y231.length ≤ co44 from by omega)
                  clear hr47 hC47 hroom47 hi047 hsz47
                  have KY47 := Aside0.mk hy47
                  clear hy47
                  have KL47 := Aside0.mk (show (x5_1 : Int).toNat ≤ l0.length from by omega)
                  replace q47 := eq_true q47
                  refine start_ (n := 9) (S := fun w' => w'.cell? ⟨gb207, 0, none⟩ = some (.int .i64 a1_0) ∧ w'.cell? ⟨gb207, 1, none⟩ = some (.int .i64 a1_1) ∧ w'.cell? ⟨gb207, 2, none⟩ = some (.int .i64 a1_2) ∧ w'.cell? ⟨gb207, 3, none⟩ = some (.int .i64 a1_3) ∧ w'.cell? ⟨gb207, 4, none⟩ = some (.int .i64 a1_4)) (ds := []) #[false, false, false, false, false, false, false, false, false] (by kernel_rfl) rfl rfl ⟨(blk_cell BK207.out 0).trans rfl, (blk_cell BK207.out 1).trans rfl, (blk_cell BK207.out 2).trans rfl, (blk_cell BK207.out 3).trans rfl, (blk_cell BK207.out 4).trans rfl⟩ (fun hHeld => ?_); refine with_tabW skymosaicref32_put.tab9 skymosaicref32_put.bits9 (fun HT_ HW_ => ?_)
                  generalize w45.drew = w46 at HO_0 BK207 HK HB HR234 hHeld ⊢
                  refine pure_ (i := 0) (N := some 35) (v := ?_) (a' := ?_) #[true, false, false, false, false, false, false, false, false] rfl rfl (any_of HT_.out (by kernel_rfl)) (fun _ _ _ h => h) (Or.inl ⟨by rfl, ?_⟩) ?_ ?_
                  rotate_left
                  · intro w'
                    go_simp
                    with_reducible rfl
                  rotate_left
                  · simp only [Act.put, List.setIfInBounds_toArray, List.set_cons_zero, List.set_cons_succ, i64_w, i32_w]
                    rfl
                  refine pure_ (i := 1) (N := some 36) (v := ?_) (a' := ?_) #[true, true, false, false, false, false, false, false, false] rfl rfl (any_of HT_.out (by kernel_rfl)) (fun _ _ _ h => h) (Or.inl ⟨by rfl, ?_⟩) ?_ ?_
                  rotate_left
                  · intro w'
                    go_simp
                    with_reducible rfl
                  rotate_left
                  · simp only [Act.put, List.setIfInBounds_toArray, List.set_cons_zero, List.set_cons_succ, i64_w, i32_w]
                    rfl
                  refine pure_ (i := 2) (N := some 37) (v := ?_) (a' := ?_) #[true, true, true, false, false, false, false, false, false] rfl rfl (any_of HT_.out (by kernel_rfl)) (fun _ _ _ h => h) (Or.inl ⟨by rfl, ?_⟩) ?_ ?_
                  rotate_left
                  · intro w'
                    go_simp
                    with_reducible rfl
                  rotate_left
                  · simp only [Act.put, List.setIfInBounds_toArray, List.set_cons_zero, List.set_cons_succ, i64_w, i32_w]
                    rfl
                  refine pure_ (i := 3) (N := some 38) (v := ?_) (a' := ?_) #[true, true, true, true, false, false, false, false, false] rfl rfl (any_of HT_.out (by kernel_rfl)) (fun _ _ _ h => h) (Or.inl ⟨by rfl, ?_⟩) ?_ ?_
                  rotate_left
                  · intro w'
                    go_simp
                    with_reducible rfl
                  rotate_left
                  · simp only [Act.put, List.setIfInBounds_toArray, List.set_cons_zero, List.set_cons_succ, i64_w, i32_w]
                    rfl
                  refine take_ (i := 5) (N := some 40) (v := ?_) (a' := ?_) #[true, true, true, true, false, true, false, false, false] rfl rfl (take_ofW HT_.out HW_.out (by kernel_rfl)) (fun _ _ _ h => h) (Or.inl ⟨by rfl, ?_⟩) hHeld ?_ ?_
                  rotate_left
                  · rintro w' ⟨s0, s1, s2, s3, s4⟩
                    go_simp
                    with_reducible rfl
                  rotate_left
                  · simp only [Act.put, List.setIfInBounds_toArray, List.set_cons_zero, List.set_cons_succ, i64_w, i32_w]
                    rfl
                  refine join_ (σ := Value × Value) 2 #[true, true, true, true, true, true, true, false, false] (fun s_ => [(39, s_.1), (41, s_.2)]) (fun s_ w' => (w'.cell? ⟨gb207, 0, none⟩ = some (.int .i64 a1_0) ∧ w'.cell? ⟨gb207, 1, none⟩ = some (.int .i64 a1_1) ∧ w'.cell? ⟨gb207, 2, none⟩ = some (.int .i64 a1_2) ∧ w'.cell? ⟨gb207, 3, none⟩ = some (.int .i64 a1_3) ∧ w'.cell? ⟨gb207, 4, none⟩ = some (.int .i64 a1_4)) ∧ (Kd.R k56 56 w' w0.heap.size (fun k_ => (P0_ k_ ∨ w.heap.size ≤ k_) ∧ some k_ ≠ (s_.2 : Value).ownBlock ∧ some k_ ≠ (.slice Ao44 l0.length co44 : Value).ownBlock ∧ k_ ≠ gb207) s_.1 y235) ∧ (Kd.R k56 56 w' w0.heap.size (fun k_ => (P0_ k_ ∨ w.heap.size ≤ k_) ∧ some k_ ≠ (s_.1 : Value).ownBlock ∧ some k_ ≠ (.slice Ao44 l0.length co44 : Value).ownBlock ∧ k_ ≠ gb207) s_.2 y238) ∧ (Kd.R k56 56 w' w0.heap.size (fun k_ => (P0_ k_ ∨ w.heap.size ≤ k_) ∧ some k_ ≠ (s_.1 : Value).ownBlock ∧ some k_ ≠ (s_.2 : Value).ownBlock ∧ k_ ≠ gb207) (.slice Ao44 l0.length co44) l0) ∧ (w'.heap[gb207]? = some (.cells #[.int .i64 a1_0, .int .i64 a1_1, .int .i64 a1_2, .int .i64 a1_3, .int .i64 a1_4] 56 (0, 0))) ∧ (Kept w w' (fun k_ => P0_ k_)) ∧ (Below w0.heap.size w0 w')) ?_ ?_
                  rotate_left
                  · intro hCont
                    refine two_ (i := 4) (j := 6) (Ni := some 39) (Nj := some 41) #[true, true, true, true, true, true, false, false, false] #[true, true, true, true, false, true, true, false, false] rfl rfl rfl rfl (two_of HT_.out (by kernel_rfl)) (by decide) (by decide) (fun K hK => ?_) (fun K hK => ?_)
                    · skip
                      refine Kd.R_append_rows_step k56 (w0 := w0) w0.heap.size (by rfl) (.tmp 35) (.tmp 38) 35 56 (.agg #[(.int .i64 0), (.int .i64 0), (.int .i64 0), (.int .i64 0), (.int .i64 0)]) 40 rfl Try.underlying35 info56 rfl (by decide) (by omega) (.slice none 0 0) ([] : List (S56)) y231 _ _ _ (fun k_ => (P0_ k_ ∨ w.heap.size ≤ k_) ∧ some k_ ≠ (.slice Ao44 l0.length co44 : Value).ownBlock ∧ k_ ≠ gb207) (fun _ => False) rfl rfl ?aO ?aR (fun _ _ h => h) (fun _ h => h.elim) ?aF ?aB ?aS ?aL ?_
                      (case aR => repeat (first | exact (by repeat (first | (with_reducible exact HR234.out) | (with_reducible refine Kd.C_alloc ?_ _) | (with_reducible refine Kd.C_drewN ?_ _) | (with_reducible refine Kd.C_drew ?_) | exact HR234.out)) | (with_reducible refine Kd.C_alloc ?_ _) | (with_reducible refine Kd.C_drewN ?_ _) | (with_reducible refine Kd.C_drew ?_)))
                      (case aB => exact (by repeat (first | (with_reducible first | exact HB.out | apply below_alloc | apply pw_below_drewN | apply below_drew1 | refine below_set ?_ GE207.out) | exact HB.out)))
                      (case aF => exact (fun k_ hk => ⟨(.inr (Nat.le_trans (by first | exact HK.out.1 | exact (show Kept w _ (fun k_ => P0_ k_) from by repeat (first | (with_reducible first | exact HK.out | apply Kept.alloc | apply Kept.drewN | apply Kept.drew | refine Kept.setCell ?_ (.inr GW207.out) _) | exact HK.out)).1) hk)), Kd.fresh' (Kd.R_lt (by (with_reducible repeat (first | apply Kd.R_alloc | apply Kd.R_drewN | apply Kd.R_drew)); exact HO_0.out)) k_ hk, Kd.freshB (g := gb207) (o := .cells #[.int .i64 a1_0, .int .i64 a1_1, .int .i64 a1_2, .int .i64 a1_3, .int .i64 a1_4] 56 (0, 0)) (by (with_reducible repeat (first | refine blk_drewN ?_ _ | refine blk_drew ?_ | refine blk_alloc ?_ _)); exact BK207.out) k_ hk⟩))
                      (case aO => exact ((Kd.R_nil _ _ _ _ (fun k_ => (P0_ k_ ∨ w.heap.size ≤ k_) ∧ some k_ ≠ (.slice Ao44 l0.length co44 : Value).ownBlock ∧ k_ ≠ gb207))))
                      (case aS => exact (below_size (by repeat (first | (with_reducible first | exact HB.out | apply below_alloc | apply pw_below_drewN | apply below_drew1 | refine below_set ?_ GE207.out) | exact HB.out))))
                      (case aL => have := LMc39.out; omega)
                      intro v236 w48 ho hb hg hat
                      rw [← Ny235.out] at ho
                      have n0_ := Aside0.mk (Kd.R_after (Kd.R_apart_nil (by (with_reducible repeat (first | apply Kd.R_alloc | apply Kd.R_drewN | apply Kd.R_drew)); exact HO_0.out)) hg hat)
                      have n1_ := Aside0.mk (blk_grown (g := gb207) (o := .cells #[.int .i64 a1_0, .int .i64 a1_1, .int .i64 a1_2, .int .i64 a1_3, .int .i64 a1_4] 56 (0, 0)) (by (with_reducible repeat (first | refine blk_drewN ?_ _ | refine blk_drew ?_ | refine blk_alloc ?_ _)); exact BK207.out) hg (by simp [Value.ownBlock]))
                      have n2_ := Aside0.mk (hb)
                      have n3_ := Aside0.mk (Kept.of_grown (S := (fun k_ => P0_ k_)) hg (by repeat (first | (with_reducible first | exact HK.out | apply Kept.alloc | apply Kept.drewN | apply Kept.drew | refine Kept.setCell ?_ (.inr GW207.out) _) | exact HK.out)) (fun k_ e_ => by simp [Value.ownBlock] at e_))
                      have n4_ := Aside0.mk ((show Kd.C k56 w48 Ao44 y231.length y231 from by rw [Ny231.out]; exact Kd.C_take (m := (x5_1 : Int).toNat) ((Kd.R_reads' (Kd.R_after (Kd.R_apart_nil (by (with_reducible repeat (first | apply Kd.R_alloc | apply Kd.R_drewN | apply Kd.R_drew)); exact HO_0.out)) hg hat)).2.2) KL47.out))
                      have n5_ := Aside0.mk (ho)
                      clear HO_0
                      clear BK207
                      clear HB
                      clear HK
                      clear HR234
                      have HO_0 := n0_
                      have BK207 := n1_
                      have HB := n2_
                      have HK := n3_
                      have HR234 := n4_
                      have HO237 := n5_
                      clear n0_ n1_ n2_ n3_ n4_ n5_
                      clear ho hb hg hat
                      refine hK.out _ _ ⟨(blk_cell BK207.out 0).trans rfl, (blk_cell BK207.out 1).trans rfl, (blk_cell BK207.out 2).trans rfl, (blk_cell BK207.out 3).trans rfl, (blk_cell BK207.out 4).trans rfl⟩ (fun hHeld => ?_)
                      clear hK K
                      refine norm_ (a' := ?_) ?_ ?_
                      rotate_left
                      · show Act.put _ (some 39) _ = _
                        simp only [Act.put, List.setIfInBounds_toArray, List.set_cons_zero, List.set_cons_succ, i64_w, i32_w]
                        rfl
                      refine one_ (i := 6) (N := some 41) #[true, true, true, true, true, true, true, false, false] rfl rfl (one_of HT_.out (by kernel_rfl)) (by decide) (fun K hK => ?_)
                      refine Kd.R_lit_step k56 _ 56 ?hg (N := 41) ?hd (xs := ([(⟨a1_0, a1_1, (⟨a1_2, a1_3, a1_4⟩ : S34)⟩ : S56)] : List (S56))) (inner := [.int .i64 a1_0, .int .i64 a1_1, .int .i64 a1_2, .int .i64 a1_3, .int .i64 a1_4]) (ok := fun _ => True) (okp := fun _ => True) ?hr ?hp (fun _ hk => hk) trivial (Below.refl _ _) (Nat.le_refl _) (by simp) ?_; (case hd => rfl); (case hg => rfl); (case hr => first | (go_simp; done) | (go_simp; rfl)); (case hp => exact (Reps.c5 (show Kd.M k56 _ _ _ (⟨a1_0, a1_1, (⟨a1_2, a1_3, a1_4⟩ : S34)⟩ : S56) [.int .i64 a1_0, .int .i64 a1_1, .int .i64 a1_2, .int .i64 a1_3, .int .i64 a1_4] from (k56_mkM _ _ _ (⟨a1_0, a1_1, (⟨a1_2, a1_3, a1_4⟩ : S34)⟩ : S56) )) (Reps.none _ _)))
                      intro v239 w49 ho50 hb hg_ hnew_
                      clear hg_ hnew_
                      (first | rw [← Ny238.out] at ho50 | (simp only [Int.reduceToNat] at ho50; rw [← Ny238.out] at ho50))
                      have n0_ := Aside0.mk (Kd.R_elder' (by (with_reducible repeat (first | apply Kd.R_alloc | apply Kd.R_drewN | apply Kd.R_drew)); exact HO_0.out) (Kd.R_base ho50) hb)
                      have n1_ := Aside0.mk (Kd.R_elder' (by (with_reducible repeat (first | apply Kd.R_alloc | apply Kd.R_drewN | apply Kd.R_drew)); exact HO237.out) (Kd.R_base ho50) hb)
                      have n2_ := Aside0.mk (Kd.R_lower (Kd.R_newB (Kd.R_new' (Kd.R_new' (Kd.R_newM (M := fun k_ => (P0_ k_ ∨ w.heap.size ≤ k_)) ho50 (by first | exact HK.out.1 | exact (show Kept w _ (fun k_ => P0_ k_) from by repeat (first | (with_reducible first | exact HK.out | apply Kept.alloc | apply Kept.drewN | apply Kept.drew | refine Kept.setCell ?_ (.inr GW207.out) _) | exact HK.out)).1) (fun k_ h_ => .inr h_)) (Kd.R_lt (by (with_reducible repeat (first | apply Kd.R_alloc | apply Kd.R_drewN | apply Kd.R_drew)); exact HO_0.out))) (Kd.R_lt (by (with_reducible repeat (first | apply Kd.R_alloc | apply Kd.R_drewN | apply Kd.R_drew)); exact HO237.out))) (g := gb207) (o := .cells #[.int .i64 a1_0, .int .i64 a1_1, .int .i64 a1_2, .int .i64 a1_3, .int .i64 a1_4] 56 (0, 0)) (by (with_reducible repeat (first | refine blk_drewN ?_ _ | refine blk_drew ?_ | refine blk_alloc ?_ _)); exact BK207.out)) (below_size (by repeat (first | (with_reducible first | exact HB.out | apply below_alloc | apply pw_below_drewN | apply below_drew1 | refine below_set ?_ GE207.out) | exact HB.out))))
                      have n3_ := Aside0.mk (blk_below (g := gb207) (o := .cells #[.int .i64 a1_0, .int .i64 a1_1, .int .i64 a1_2, .int .i64 a1_3, .int .i64 a1_4] 56 (0, 0)) (by (with_reducible repeat (first | refine blk_drewN ?_ _ | refine blk_drew ?_ | refine blk_alloc ?_ _)); exact BK207.out) hb)
                      have n4_ := Aside0.mk (Kd.C_below (by repeat (first | (with_reducible exact HR234.out) | (with_reducible refine Kd.C_alloc ?_ _) | (with_reducible refine Kd.C_drewN ?_ _) | (with_reducible refine Kd.C_drew ?_) | exact HR234.out)) hb)
                      have n5_ := Aside0.mk (Kept.below (S := (fun k_ => P0_ k_)) (by repeat (first | (with_reducible first | exact HK.out | apply Kept.alloc | apply Kept.drewN | apply Kept.drew | refine Kept.setCell ?_ (.inr GW207.out) _) | exact HK.out)) hb)
                      have n6_ := Aside0.mk (below_step (by repeat (first | (with_reducible first | exact HB.out | apply below_alloc | apply pw_below_drewN | apply below_drew1 | refine below_set ?_ GE207.out) | exact HB.out)) hb)
                      clear HO_0
                      clear HO237
                      clear BK207
                      clear HR234
                      clear HK
                      clear HB
                      have HO_0 := n0_
                      have HO237 := n1_
                      have HO240 := n2_
                      have BK207 := n3_
                      have HR234 := n4_
                      have HK := n5_
                      have HB := n6_
                      clear n0_ n1_ n2_ n3_ n4_ n5_ n6_
                      clear hb ho50
                      refine hK.out _ _ ⟨(blk_cell BK207.out 0).trans rfl, (blk_cell BK207.out 1).trans rfl, (blk_cell BK207.out 2).trans rfl, (blk_cell BK207.out 3).trans rfl, (blk_cell BK207.out 4).trans rfl⟩ (fun hHeld => ?_)
                      clear hK K
                      refine norm_ (a' := ?_) ?_ ?_
                      rotate_left
                      · show Act.put _ (some 41) _ = _
                        simp only [Act.put, List.setIfInBounds_toArray, List.set_cons_zero, List.set_cons_succ, i64_w, i32_w]
                        rfl
                      exact norm_ (by simp only [putAll, Act.put, List.setIfInBounds_toArray, List.set_cons_zero, List.set_cons_succ]) (hCont (v236, v239) _ ⟨hHeld, (by (with_reducible repeat (first | apply Kd.R_alloc | apply Kd.R_drewN | apply Kd.R_drew)); exact Kd.R_mono HO237.out (fun _ hk => ⟨hk.1.1, ⟨hk.2, ⟨hk.1.2.1, hk.1.2.2⟩⟩⟩)), (by (with_reducible repeat (first | apply Kd.R_alloc | apply Kd.R_drewN | apply Kd.R_drew)); exact Kd.R_mono HO240.out (fun _ hk => ⟨hk.1.1.1.1, ⟨hk.1.2, ⟨hk.1.1.2, hk.2⟩⟩⟩)), (by (with_reducible repeat (first | apply Kd.R_alloc | apply Kd.R_drewN | apply Kd.R_drew)); exact Kd.R_mono HO_0.out (fun _ hk => ⟨hk.1.1.1, ⟨hk.1.2, ⟨hk.2, hk.1.1.2⟩⟩⟩)), (by (with_reducible repeat (first | refine blk_drewN ?_ _ | refine blk_drew ?_ | refine blk_alloc ?_ _)); exact BK207.out), (by repeat (first | (with_reducible first | exact HK.out | apply Kept.alloc | apply Kept.drewN | apply Kept.drew | refine Kept.setCell ?_ (.inr GW207.out) _) | exact HK.out)), (by repeat (first | (with_reducible first | exact HB.out | apply below_alloc | apply pw_below_drewN | apply below_drew1 | refine below_set ?_ GE207.out) | exact HB.out))⟩)
                    · skip
                      refine Kd.R_lit_step k56 _ 56 ?hg (N := 41) ?hd (xs := ([(⟨a1_0, a1_1, (⟨a1_2, a1_3, a1_4⟩ : S34)⟩ : S56)] : List (S56))) (inner := [.int .i64 a1_0, .int .i64 a1_1, .int .i64 a1_2, .int .i64 a1_3, .int .i64 a1_4]) (ok := fun _ => True) (okp := fun _ => True) ?hr ?hp (fun _ hk => hk) trivial (Below.refl _ _) (Nat.le_refl _) (by simp) ?_; (case hd => rfl); (case hg => rfl); (case hr => first | (go_simp; done) | (go_simp; rfl)); (case hp => exact (Reps.c5 (show Kd.M k56 _ _ _ (⟨a1_0, a1_1, (⟨a1_2, a1_3, a1_4⟩ : S34)⟩ : S56) [.int .i64 a1_0, .int .i64 a1_1, .int .i64 a1_2, .int .i64 a1_3, .int .i64 a1_4] from (k56_mkM _ _ _ (⟨a1_0, a1_1, (⟨a1_2, a1_3, a1_4⟩ : S34)⟩ : S56) )) (Reps.none _ _)))
                      intro v239 w48 ho49 hb hg_ hnew_
                      clear hg_ hnew_
                      (first | rw [← Ny238.out] at ho49 | (simp only [Int.reduceToNat] at ho49; rw [← Ny238.out] at ho49))
                      have n0_ := Aside0.mk (Kd.R_elder' (by (with_reducible repeat (first | apply Kd.R_alloc | apply Kd.R_drewN | apply Kd.R_drew)); exact HO_0.out) (Kd.R_base ho49) hb)
                      have n1_ := Aside0.mk (Kd.R_lower (Kd.R_newB (Kd.R_new' (Kd.R_newM (M := fun k_ => (P0_ k_ ∨ w.heap.size ≤ k_)) ho49 (by first | exact HK.out.1 | exact (show Kept w _ (fun k_ => P0_ k_) from by repeat (first | (with_reducible first | exact HK.out | apply Kept.alloc | apply Kept.drewN | apply Kept.drew | refine Kept.setCell ?_ (.inr GW207.out) _) | exact HK.out)).1) (fun k_ h_ => .inr h_)) (Kd.R_lt (by (with_reducible repeat (first | apply Kd.R_alloc | apply Kd.R_drewN | apply Kd.R_drew)); exact HO_0.out))) (g := gb207) (o := .cells #[.int .i64 a1_0, .int .i64 a1_1, .int .i64 a1_2, .int .i64 a1_3, .int .i64 a1_4] 56 (0, 0)) (by (with_reducible repeat (first | refine blk_drewN ?_ _ | refine blk_drew ?_ | refine blk_alloc ?_ _)); exact BK207.out)) (below_size (by repeat (first | (with_reducible first | exact HB.out | apply below_alloc | apply pw_below_drewN | apply below_drew1 | refine below_set ?_ GE207.out) | exact HB.out))))
                      have n2_ := Aside0.mk (blk_below (g := gb207) (o := .cells #[.int .i64 a1_0, .int .i64 a1_1, .int .i64 a1_2, .int .i64 a1_3, .int .i64 a1_4] 56 (0, 0)) (by (with_reducible repeat (first | refine blk_drewN ?_ _ | refine blk_drew ?_ | refine blk_alloc ?_ _)); exact BK207.out) hb)
                      have n3_ := Aside0.mk (Kd.C_below (by repeat (first | (with_reducible exact HR234.out) | (with_reducible refine Kd.C_alloc ?_ _) | (with_reducible refine Kd.C_drewN ?_ _) | (with_reducible refine Kd.C_drew ?_) | exact HR234.out)) hb)
                      have n4_ := Aside0.mk (Kept.below (S := (fun k_ => P0_ k_)) (by repeat (first | (with_reducible first | exact HK.out | apply Kept.alloc | apply Kept.drewN | apply Kept.drew | refine Kept.setCell ?_ (.inr GW207.out) _) | exact HK.out)) hb)
                      have n5_ := Aside0.mk (below_step (by repeat (first | (with_reducible first | exact HB.out | apply below_alloc | apply pw_below_drewN | apply below_drew1 | refine below_set ?_ GE207.out) | exact HB.out)) hb)
                      clear HO_0
                      clear BK207
                      clear HR234
                      clear HK
                      clear HB
                      have HO_0 := n0_
                      have HO240 := n1_
                      have BK207 := n2_
                      have HR234 := n3_
                      have HK := n4_
                      have HB := n5_
                      clear n0_ n1_ n2_ n3_ n4_ n5_
                      clear hb ho49
                      refine hK.out _ _ ⟨(blk_cell BK207.out 0).trans rfl, (blk_cell BK207.out 1).trans rfl, (blk_cell BK207.out 2).trans rfl, (blk_cell BK207.out 3).trans rfl, (blk_cell BK207.out 4).trans rfl⟩ (fun hHeld => ?_)
                      clear hK K
                      refine norm_ (a' := ?_) ?_ ?_
                      rotate_left
                      · show Act.put _ (some 41) _ = _
                        simp only [Act.put, List.setIfInBounds_toArray, List.set_cons_zero, List.set_cons_succ, i64_w, i32_w]
                        rfl
                      refine one_ (i := 4) (N := some 39) #[true, true, true, true, true, true, true, false, false] rfl rfl (one_of HT_.out (by kernel_rfl)) (by decide) (fun K hK => ?_)
                      refine Kd.R_append_rows_step k56 (w0 := w0) w0.heap.size (by rfl) (.tmp 35) (.tmp 38) 35 56 (.agg #[(.int .i64 0), (.int .i64 0), (.int .i64 0), (.int .i64 0), (.int .i64 0)]) 40 rfl Try.underlying35 info56 rfl (by decide) (by omega) (.slice none 0 0) ([] : List (S56)) y231 _ _ _ (fun k_ => (P0_ k_ ∨ w.heap.size ≤ k_) ∧ some k_ ≠ (.slice Ao44 l0.length co44 : Value).ownBlock ∧ some k_ ≠ (v239 : Value).ownBlock ∧ k_ ≠ gb207) (fun _ => False) rfl rfl ?aO ?aR (fun _ _ h => h) (fun _ h => h.elim) ?aF ?aB ?aS ?aL ?_
                      (case aR => repeat (first | exact (by repeat (first | (with_reducible exact HR234.out) | (with_reducible refine Kd.C_alloc ?_ _) | (with_reducible refine Kd.C_drewN ?_ _) | (with_reducible refine Kd.C_drew ?_) | exact HR234.out)) | (with_reducible refine Kd.C_alloc ?_ _) | (with_reducible refine Kd.C_drewN ?_ _) | (with_reducible refine Kd.C_drew ?_)))
                      (case aB => exact (by repeat (first | (with_reducible first | exact HB.out | apply below_alloc | apply pw_below_drewN | apply below_drew1 | refine below_set ?_ GE207.out) | exact HB.out)))
                      (case aF => exact (fun k_ hk => ⟨(.inr (Nat.le_trans (by first | exact HK.out.1 | exact (show Kept w _ (fun k_ => P0_ k_) from by repeat (first | (with_reducible first | exact HK.out | apply Kept.alloc | apply Kept.drewN | apply Kept.drew | refine Kept.setCell ?_ (.inr GW207.out) _) | exact HK.out)).1) hk)), Kd.fresh' (Kd.R_lt (by (with_reducible repeat (first | apply Kd.R_alloc | apply Kd.R_drewN | apply Kd.R_drew)); exact HO_0.out)) k_ hk, Kd.fresh' (Kd.R_lt (by (with_reducible repeat (first | apply Kd.R_alloc | apply Kd.R_drewN | apply Kd.R_drew)); exact HO240.out)) k_ hk, Kd.freshB (g := gb207) (o := .cells #[.int .i64 a1_0, .int .i64 a1_1, .int .i64 a1_2, .int .i64 a1_3, .int .i64 a1_4] 56 (0, 0)) (by (with_reducible repeat (first | refine blk_drewN ?_ _ | refine blk_drew ?_ | refine blk_alloc ?_ _)); exact BK207.out) k_ hk⟩))
                      (case aO => exact ((Kd.R_nil _ _ _ _ (fun k_ => (P0_ k_ ∨ w.heap.size ≤ k_) ∧ some k_ ≠ (.slice Ao44 l0.length co44 : Value).ownBlock ∧ some k_ ≠ (v239 : Value).ownBlock ∧ k_ ≠ gb207))))
                      (case aS => exact (below_size (by repeat (first | (with_reducible first | exact HB.out | apply below_alloc | apply pw_below_drewN | apply below_drew1 | refine below_set ?_ GE207.out) | exact HB.out))))
                      (case aL => have := LMc39.out; omega)
                      intro v236 w50 ho hb hg hat
                      rw [← Ny235.out] at ho
                      have n0_ := Aside0.mk (Kd.R_after (Kd.R_apart_nil (by (with_reducible repeat (first | apply Kd.R_alloc | apply Kd.R_drewN | apply Kd.R_drew)); exact HO_0.out)) hg hat)
                      have n1_ := Aside0.mk (blk_grown (g := gb207) (o := .cells #[.int .i64 a1_0, .int .i64 a1_1, .int .i64 a1_2, .int .i64 a1_3, .int .i64 a1_4] 56 (0, 0)) (by (with_reducible repeat (first | refine blk_drewN ?_ _ | refine blk_drew ?_ | refine blk_alloc ?_ _)); exact BK207.out) hg (by simp [Value.ownBlock]))
                      have n2_ := Aside0.mk (Kd.R_after (Kd.R_apart_nil (by (with_reducible repeat (first | apply Kd.R_alloc | apply Kd.R_drewN | apply Kd.R_drew)); exact HO240.out)) hg hat)
                      have n3_ := Aside0.mk (hb)
                      have n4_ := Aside0.mk (Kept.of_grown (S := (fun k_ => P0_ k_)) hg (by repeat (first | (with_reducible first | exact HK.out | apply Kept.alloc | apply Kept.drewN | apply Kept.drew | refine Kept.setCell ?_ (.inr GW207.out) _) | exact HK.out)) (fun k_ e_ => by simp [Value.ownBlock] at e_))
                      have n5_ := Aside0.mk ((show Kd.C k56 w50 Ao44 y231.length y231 from by rw [Ny231.out]; exact Kd.C_take (m := (x5_1 : Int).toNat) ((Kd.R_reads' (Kd.R_after (Kd.R_apart_nil (by (with_reducible repeat (first | apply Kd.R_alloc | apply Kd.R_drewN | apply Kd.R_drew)); exact HO_0.out)) hg hat)).2.2) KL47.out))
                      have n6_ := Aside0.mk (ho)
                      clear HO_0
                      clear BK207
                      clear HO240
                      clear HB
                      clear HK
                      clear HR234
                      have HO_0 := n0_
                      have BK207 := n1_
                      have HO240 := n2_
                      have HB := n3_
                      have HK := n4_
                      have HR234 := n5_
                      have HO237 := n6_
                      clear n0_ n1_ n2_ n3_ n4_ n5_ n6_
                      clear ho hb hg hat
                      refine hK.out _ _ ⟨(blk_cell BK207.out 0).trans rfl, (blk_cell BK207.out 1).trans rfl, (blk_cell BK207.out 2).trans rfl, (blk_cell BK207.out 3).trans rfl, (blk_cell BK207.out 4).trans rfl⟩ (fun hHeld => ?_)
                      clear hK K
                      refine norm_ (a' := ?_) ?_ ?_
                      rotate_left
                      · show Act.put _ (some 39) _ = _
                        simp only [Act.put, List.setIfInBounds_toArray, List.set_cons_zero, List.set_cons_succ, i64_w, i32_w]
                        rfl
                      exact norm_ (by simp only [putAll, Act.put, List.setIfInBounds_toArray, List.set_cons_zero, List.set_cons_succ]) (hCont (v236, v239) _ ⟨hHeld, (by (with_reducible repeat (first | apply Kd.R_alloc | apply Kd.R_drewN | apply Kd.R_drew)); exact Kd.R_mono HO237.out (fun _ hk => ⟨hk.1, ⟨hk.2.2.1, ⟨hk.2.1, hk.2.2.2⟩⟩⟩)), (by (with_reducible repeat (first | apply Kd.R_alloc | apply Kd.R_drewN | apply Kd.R_drew)); exact Kd.R_mono HO240.out (fun _ hk => ⟨hk.1.1.1.1, ⟨hk.2, ⟨hk.1.1.2, hk.1.2⟩⟩⟩)), (by (with_reducible repeat (first | apply Kd.R_alloc | apply Kd.R_drewN | apply Kd.R_drew)); exact Kd.R_mono HO_0.out (fun _ hk => ⟨hk.1.1.1, ⟨hk.2, ⟨hk.1.2, hk.1.1.2⟩⟩⟩)), (by (with_reducible repeat (first | refine blk_drewN ?_ _ | refine blk_drew ?_ | refine blk_alloc ?_ _)); exact BK207.out), (by repeat (first | (with_reducible first | exact HK.out | apply Kept.alloc | apply Kept.drewN | apply Kept.drew | refine Kept.setCell ?_ (.inr GW207.out) _) | exact HK.out)), (by repeat (first | (with_reducible first | exact HB.out | apply below_alloc | apply pw_below_drewN | apply below_drew1 | refine below_set ?_ GE207.out) | exact HB.out))⟩)
                  rintro ⟨v236, v239⟩ w51 ⟨hS_, h0_, h1_, h2_, h3_, h4_, h5_⟩
                  have n0_ : Aside0 (Kd.R k56 56 w51 w0.heap.size (fun k_ => (P0_ k_ ∨ w.heap.size ≤ k_) ∧ some k_ ≠ (v239 : Value).ownBlock ∧ some k_ ≠ (.slice Ao44 l0.length co44 : Value).ownBlock ∧ k_ ≠ gb207) v236 y235) := ⟨h0_⟩
                  have n1_ : Aside0 (Kd.R k56 56 w51 w0.heap.size (fun k_ => (P0_ k_ ∨ w.heap.size ≤ k_) ∧ some k_ ≠ (v236 : Value).ownBlock ∧ some k_ ≠ (.slice Ao44 l0.length co44 : Value).ownBlock ∧ k_ ≠ gb207) v239 y238) := ⟨h1_⟩
                  have n2_ : Aside0 (Kd.R k56 56 w51 w0.heap.size (fun k_ => (P0_ k_ ∨ w.heap.size ≤ k_) ∧ some k_ ≠ (v236 : Value).ownBlock ∧ some k_ ≠ (v239 : Value).ownBlock ∧ k_ ≠ gb207) (.slice Ao44 l0.length co44) l0) := ⟨h2_⟩
                  have n3_ : Aside0 (w51.heap[gb207]? = some (.cells #[.int .i64 a1_0, .int .i64 a1_1, .int .i64 a1_2, .int .i64 a1_3, .int .i64 a1_4] 56 (0, 0))) := ⟨h3_⟩
                  have n4_ : Aside0 (Kept w w51 (fun k_ => P0_ k_)) := ⟨h4_⟩
                  have n5_ : Aside0 (Below w0.heap.size w0 w51) := ⟨h5_⟩
                  clear HO_0
                  clear BK207
                  clear HK
                  clear HB
                  clear h0_ h1_ h2_ h3_ h4_ h5_
                  have HO237 := n0_
                  have HO240 := n1_
                  have HO_0 := n2_
                  have BK207 := n3_
                  have HK := n4_
                  have HB := n5_
                  clear n0_ n1_ n2_ n3_ n4_ n5_
                  have hHeld : w51.cell? ⟨gb207, 0, none⟩ = some (.int .i64 a1_0) ∧ w51.cell? ⟨gb207, 1, none⟩ = some (.int .i64 a1_1) ∧ w51.cell? ⟨gb207, 2, none⟩ = some (.int .i64 a1_2) ∧ w51.cell? ⟨gb207, 3, none⟩ = some (.int .i64 a1_3) ∧ w51.cell? ⟨gb207, 4, none⟩ = some (.int .i64 a1_4) := hS_
                  obtain ⟨Ao53, co53, eo53⟩ := Kd.R_slice HO240.out
                  (first | subst eo53 | (injection eo53 with f1_ f2_ f3_; have f4_ := f1_.symm; have f5_ := f3_.symm; clear f1_ f2_ f3_; subst f4_; subst f5_))
                  refine norm_ (a' := ?_) ?_ ?_
                  rotate_left
                  · simp only [putAll, Act.put, List.setIfInBounds_toArray, List.set_cons_zero, List.set_cons_succ]
                    rfl
                  refine one_ (i := 7) (N := some 42) #[true, true, true, true, true, true, true, true, false] rfl rfl (one_of HT_.out (by kernel_rfl)) (by decide) (fun K hK => ?_)
                  refine Kd.R_append_rows_step k56 (w0 := w0) w0.heap.size (by rfl) (.tmp 39) (.tmp 41) 35 56 (.agg #[(.int .i64 0), (.int .i64 0), (.int .i64 0), (.int .i64 0), (.int .i64 0)]) 40 rfl Try.underlying35 info56 rfl (by decide) (by omega) v236 y235 y238 _ _ _ (fun k_ => (P0_ k_ ∨ w.heap.size ≤ k_) ∧ some k_ ≠ (.slice Ao44 l0.length co44 : Value).ownBlock ∧ some k_ ≠ (.slice Ao53 y238.length co53 : Value).ownBlock ∧ k_ ≠ gb207) (fun _ => False) rfl rfl ?aO ?aR (fun _ _ h => h) (fun _ h => h.elim) ?aF ?aB ?aS ?aL ?_
                  (case aR => repeat (first | exact (Kd.R_reads' HO240.out).2.2 | (with_reducible refine Kd.C_alloc ?_ _) | (with_reducible refine Kd.C_drewN ?_ _) | (with_reducible refine Kd.C_drew ?_)))
                  (case aB => exact (by repeat (first | (with_reducible first | exact HB.out | apply below_alloc | apply pw_below_drewN | apply below_drew1 | refine below_set ?_ GE207.out) | exact HB.out)))
                  (case aF => exact (fun k_ hk => ⟨(.inr (Nat.le_trans (by first | exact HK.out.1 | exact (show Kept w _ (fun k_ => P0_ k_) from by repeat (first | (with_reducible first | exact HK.out | apply Kept.alloc | apply Kept.drewN | apply Kept.drew | refine Kept.setCell ?_ (.inr GW207.out) _) | exact HK.out)).1) hk)), Kd.fresh' (Kd.R_lt (by (with_reducible repeat (first | apply Kd.R_alloc | apply Kd.R_drewN | apply Kd.R_drew)); exact HO_0.out)) k_ hk, Kd.fresh' (Kd.R_lt (by (with_reducible repeat (first | apply Kd.R_alloc | apply Kd.R_drewN | apply Kd.R_drew)); exact HO240.out)) k_ hk, Kd.freshB (g := gb207) (o := .cells #[.int .i64 a1_0, .int .i64 a1_1, .int .i64 a1_2, .int .i64 a1_3, .int .i64 a1_4] 56 (0, 0)) (by (with_reducible repeat (first | refine blk_drewN ?_ _ | refine blk_drew ?_ | refine blk_alloc ?_ _)); exact BK207.out) k_ hk⟩))
                  (case aO => exact (by (with_reducible repeat (first | apply Kd.R_alloc | apply Kd.R_drewN | apply Kd.R_drew)); exact Kd.R_mono HO237.out (fun _ hk => ⟨hk.1, ⟨hk.2.2.1, ⟨hk.2.1, hk.2.2.2⟩⟩⟩)))
                  (case aS => exact (below_size (by repeat (first | (with_reducible first | exact HB.out | apply below_alloc | apply pw_below_drewN | apply below_drew1 | refine below_set ?_ GE207.out) | exact HB.out))))
                  (case aL => have := LMc40.out; omega)
                  intro v242 w52 ho hb hg hat
                  rw [← Ny241.out] at ho
                  have n0_ := Aside0.mk (Kd.R_after (ok := (fun k_ => (P0_ k_ ∨ w.heap.size ≤ k_) ∧ some k_ ≠ (.slice Ao53 y238.length co53 : Value).ownBlock ∧ k_ ≠ gb207)) (by (with_reducible repeat (first | apply Kd.R_alloc | apply Kd.R_drewN | apply Kd.R_drew)); exact Kd.R_mono HO_0.out (fun _ hk => ⟨⟨hk.1, ⟨hk.2.2.1, hk.2.2.2⟩⟩, hk.2.1⟩)) hg hat)
                  have n1_ := Aside0.mk (blk_grown (g := gb207) (o := .cells #[.int .i64 a1_0, .int .i64 a1_1, .int .i64 a1_2, .int .i64 a1_3, .int .i64 a1_4] 56 (0, 0)) (by (with_reducible repeat (first | refine blk_drewN ?_ _ | refine blk_drew ?_ | refine blk_alloc ?_ _)); exact BK207.out) hg (Kd.R_away HO237.out (fun _ hk => hk.2.2.2)))
                  have n2_ := Aside0.mk (Kd.R_after (ok := (fun k_ => (P0_ k_ ∨ w.heap.size ≤ k_) ∧ some k_ ≠ (.slice Ao44 l0.length co44 : Value).ownBlock ∧ k_ ≠ gb207)) (by (with_reducible repeat (first | apply Kd.R_alloc | apply Kd.R_drewN | apply Kd.R_drew)); exact Kd.R_mono HO240.out (fun _ hk => ⟨⟨hk.1, ⟨hk.2.2.1, hk.2.2.2⟩⟩, hk.2.1⟩)) hg hat)
                  have n3_ := Aside0.mk (hb)
                  have n4_ := Aside0.mk (Kept.of_grown (S := (fun k_ => P0_ k_)) hg (by repeat (first | (with_reducible first | exact HK.out | apply Kept.alloc | apply Kept.drewN | apply Kept.drew | refine Kept.setCell ?_ (.inr GW207.out) _) | exact HK.out)) (fun k_ e_ => (HO237.out.1 k_ e_).1))
                  have n5_ := Aside0.mk (ho)
                  clear HO_0
                  clear BK207
                  clear HO240
                  clear HB
                  clear HK
                  clear HO237
                  have HO_0 := n0_
                  have BK207 := n1_
                  have HO240 := n2_
                  have HB := n3_
                  have HK := n4_
                  have HO243 := n5_
                  clear n0_ n1_ n2_ n3_ n4_ n5_
                  clear ho hb hg hat
                  refine hK.out _ _ ⟨(blk_cell BK207.out 0).trans rfl, (blk_cell BK207.out 1).trans rfl, (blk_cell BK207.out 2).trans rfl, (blk_cell BK207.out 3).trans rfl, (blk_cell BK207.out 4).trans rfl⟩ (fun hHeld => ?_)
                  clear hK K
                  refine norm_ (a' := ?_) ?_ ?_
                  rotate_left
                  · show Act.put _ (some 42) _ = _
                    simp only [Act.put, List.setIfInBounds_toArray, List.set_cons_zero, List.set_cons_succ, i64_w, i32_w]
                    rfl
                  refine pure_ (i := 8) (N := some 7) (v := ?_) (a' := ?_) #[true, true, true, true, true, true, true, true, true] rfl rfl (any_of HT_.out (by kernel_rfl)) (fun _ _ _ h => h) (Or.inl ⟨by rfl, ?_⟩) ?_ ?_
                  rotate_left
                  · intro w'
                    go_simp
                    with_reducible rfl
                  rotate_left
                  · simp only [Act.put, List.setIfInBounds_toArray, List.set_cons_zero, List.set_cons_succ, i64_w, i32_w]
                    rfl
                  refine done_ (done_of HT_.out (by kernel_rfl)) ?_
                  have q54 : (x5_1 : Int) ≤ ((l0.length : Int) : Int) := of_decide_eq_true (by first | (with_reducible assumption) | assumption)
                  obtain ⟨i054, hi054, _, hsz54, _⟩ := info_parts info56
                  have hroom54 : l0.length ≤ co44 := (Kd.R_reads' HO_0.out).2.1
                  have hC54 : Kd.C k56 _ Ao44 l0.length l0 := (Kd.R_reads' HO_0.out).2.2
                  have q054 : (0 : Int) ≤ (x5_1 : Int) := of_decide_eq_true (by first | (with_reducible assumption) | assumption)
                  have hcut54 := cut_from (P := Try.prog) 35 56 .i64 Try.underlying35 hi054 5 hsz54 Ao44 l0.length co44 x5_1 q054 q54
                  have hr54 := Kd.C_drop (m := (x5_1 : Int).toNat) (c := co44) hC54 (by omega) hroom54
                  obtain ⟨A54, hA54⟩ : ∃ A1, A1 = (if co44 = (x5_1 : Int).toNat then Ao44 else (Ao44 : Option Addr).map (·.add ((x5_1 : Int).toNat * 5))) := ⟨_, rfl⟩
                  obtain ⟨c54, hc54⟩ : ∃ c1, c1 = co44 - (x5_1 : Int).toNat := ⟨_, rfl⟩
                  have hy54 : y244.length = l0.length - (x5_1 : Int).toNat := (by rw [Ny244.out, List.length_drop] <;> omega)
                  rw [show (l0).drop (x5_1 : Int).toNat = y244 from Ny244.out.symm] at hr54
                  replace hr54 : Kd.C k56 _ A54 y244.length y244 := (by rw [hA54]; exact hr54)
                  rw [← hy54, ← hA54, ← hc54] at hcut54
                  have HR247 := Aside0.mk hr54
                  have HC247 := Aside0.mk (show y244.length ≤ c54 from by rw [hy54, hc54]; exact Nat.sub_le_sub_right hroom54 _)
                  clear hr54 hC54 hroom54 hi054 hsz54 hc54
                  have KY54 := Aside0.mk hy54
                  have KA54 := Aside0.mk hA54
                  clear hy54 hA54
                  have KL54 := Aside0.mk (show (x5_1 : Int).toNat ≤ l0.length from by omega)
                  replace q54 := eq_true q54
                  try go_wp2_with (first | ((with_reducible refine gate_builtin (b := .append) (xs := #[.tmp 43, .tmp 46]) rfl ?_); at_builtin; refine Kd.R_append_rows k56 (w0 := w0) w0.heap.size rfl (.tmp 43) (.tmp 46) 35 56 (.agg #[(.int .i64 0), (.int .i64 0), (.int .i64 0), (.int .i64 0), (.int .i64 0)]) 40 rfl Try.underlying35 info56 rfl (by decide) (by omega) v242 y241 y244 _ _ _ (fun k_ => (P0_ k_ ∨ w.heap.size ≤ k_) ∧ some k_ ≠ (.slice Ao44 l0.length co44 : Value).ownBlock ∧ some k_ ≠ (.slice Ao53 y238.length co53 : Value).ownBlock ∧ k_ ≠ gb207) (fun _ => False) rfl rfl ?aO ?aR (fun _ _ h => h) (fun _ h => h.elim) ?aF ?aB ?aS ?aL ?_; (case aR => repeat (first | exact (by repeat (first | (with_reducible exact HR247.out) | (with_reducible refine Kd.C_alloc ?_ _) | (with_reducible refine Kd.C_drewN ?_ _) | (with_reducible refine Kd.C_drew ?_) | exact HR247.out)) | (with_reducible refine Kd.C_alloc ?_ _) | (with_reducible refine Kd.C_drewN ?_ _) | (with_reducible refine Kd.C_drew ?_))); (case aB => exact (by repeat (first | (with_reducible first | exact HB.out | apply below_alloc | apply pw_below_drewN | apply below_drew1 | refine below_set ?_ GE207.out) | exact HB.out))); (case aF => exact (fun k_ hk => ⟨(.inr (Nat.le_trans (by first | exact HK.out.1 | exact (show Kept w _ (fun k_ => P0_ k_) from by repeat (first | (with_reducible first | exact HK.out | apply Kept.alloc | apply Kept.drewN | apply Kept.drew | refine Kept.setCell ?_ (.inr GW207.out) _) | exact HK.out)).1) hk)), Kd.fresh' (Kd.R_lt (by (with_reducible repeat (first | apply Kd.R_alloc | apply Kd.R_drewN | apply Kd.R_drew)); exact HO_0.out)) k_ hk, Kd.fresh' (Kd.R_lt (by (with_reducible repeat (first | apply Kd.R_alloc | apply Kd.R_drewN | apply Kd.R_drew)); exact HO240.out)) k_ hk, Kd.freshB (g := gb207) (o := .cells #[.int .i64 a1_0, .int .i64 a1_1, .int .i64 a1_2, .int .i64 a1_3, .int .i64 a1_4] 56 (0, 0)) (by (with_reducible repeat (first | refine blk_drewN ?_ _ | refine blk_drew ?_ | refine blk_alloc ?_ _)); exact BK207.out) k_ hk⟩)); (case aO => exact (by (with_reducible repeat (first | apply Kd.R_alloc | apply Kd.R_drewN | apply Kd.R_drew)); exact HO243.out)); (case aS => exact (below_size (by repeat (first | (with_reducible first | exact HB.out | apply below_alloc | apply pw_below_drewN | apply below_drew1 | refine below_set ?_ GE207.out) | exact HB.out)))); (case aL => have := LMc43.out; omega); intro v249 w55 ho hb hg hat; rw [← Ny248.out] at ho; have n0_ := Aside0.mk (Kd.R_after (ok := (fun k_ => (P0_ k_ ∨ w.heap.size ≤ k_) ∧ some k_ ≠ (.slice Ao53 y238.length co53 : Value).ownBlock ∧ k_ ≠ gb207)) (by (with_reducible repeat (first | apply Kd.R_alloc | apply Kd.R_drewN | apply Kd.R_drew)); exact HO_0.out) hg hat); have n1_ := Aside0.mk (blk_grown (g := gb207) (o := .cells #[.int .i64 a1_0, .int .i64 a1_1, .int .i64 a1_2, .int .i64 a1_3, .int .i64 a1_4] 56 (0, 0)) (by (with_reducible repeat (first | refine blk_drewN ?_ _ | refine blk_drew ?_ | refine blk_alloc ?_ _)); exact BK207.out) hg (Kd.R_away HO243.out (fun _ hk => hk.2.2.2))); have n2_ := Aside0.mk (Kd.R_after (ok := (fun k_ => (P0_ k_ ∨ w.heap.size ≤ k_) ∧ some k_ ≠ (.slice Ao44 l0.length co44 : Value).ownBlock ∧ k_ ≠ gb207)) (by (with_reducible repeat (first | apply Kd.R_alloc | apply Kd.R_drewN | apply Kd.R_drew)); exact HO240.out) hg hat); have n3_ := Aside0.mk (hb); have n4_ := Aside0.mk (Kept.of_grown (S := (fun k_ => P0_ k_)) hg (by repeat (first | (with_reducible first | exact HK.out | apply Kept.alloc | apply Kept.drewN | apply Kept.drew | refine Kept.setCell ?_ (.inr GW207.out) _) | exact HK.out)) (fun k_ e_ => (HO243.out.1 k_ e_).1)); have n5_ := Aside0.mk ((show Kd.C k56 w55 A54 y244.length y244 from by rw [Ny244.out, KA54.out]; exact Kd.C_drop (m := (x5_1 : Int).toNat) (c := co44) ((Kd.R_reads' (Kd.R_after (ok := (fun k_ => (P0_ k_ ∨ w.heap.size ≤ k_) ∧ some k_ ≠ (.slice Ao53 y238.length co53 : Value).ownBlock ∧ k_ ≠ gb207)) (by (with_reducible repeat (first | apply Kd.R_alloc | apply Kd.R_drewN | apply Kd.R_drew)); exact HO_0.out) hg hat)).2.2) KL54.out ((Kd.R_reads' (Kd.R_after (ok := (fun k_ => (P0_ k_ ∨ w.heap.size ≤ k_) ∧ some k_ ≠ (.slice Ao53 y238.length co53 : Value).ownBlock ∧ k_ ≠ gb207)) (by (with_reducible repeat (first | apply Kd.R_alloc | apply Kd.R_drewN | apply Kd.R_drew)); exact HO_0.out) hg hat)).2.1))); have n6_ := Aside0.mk (ho); clear HO_0; clear BK207; clear HO240; clear HB; clear HK; clear HR247; clear HO243; have HO_0 := n0_; have BK207 := n1_; have HO240 := n2_; have HB := n3_; have HK := n4_; have HR247 := n5_; have HO250 := n6_; clear n0_ n1_ n2_ n3_ n4_ n5_ n6_; clear ho hb hg hat))
                  go_ret
                  exact ⟨_, by first | rfl | (simp [errW_none, errW_some] <;> rfl) | (simp [*, errW_none, errW_some] <;> rfl), by (with_reducible repeat (first | apply Kd.R_alloc | apply Kd.R_drewN | apply Kd.R_drew)); exact Kd.R_mono HO250.out (fun _ hk => hk.1), by repeat (first | (with_reducible first | exact HB.out | apply below_alloc | apply pw_below_drewN | apply below_drew1 | refine below_set ?_ GE207.out) | exact HB.out), by repeat (first | (with_reducible first | exact HK.out | apply Kept.alloc | apply Kept.drewN | apply Kept.drew | refine Kept.setCell ?_ (.inr GW207.out) _) | exact HK.out)⟩
                · rw [if_neg c43] at H
                  exact absurd H (by simp)
              · rw [if_neg c40] at H
                exact absurd H (by simp)
            · rw [if_neg c39] at H
              exact absurd H (by simp)
          · rw [if_neg c38] at H
            exact absurd H (by simp)
        · rw [if_neg c37] at H
          exact absurd H (by simp)
end Go.Proofs.Ytokambhemoeloaa.PA
end
section
namespace Go.Proofs.Ytokambhemoeloaa.G
open Go.RowKit Go.Proofs.YtokambhemoeloaaW.PrintWords Go.Proofs.YtokambhemoeloaaW.PrintLast Go.Proofs.YtokambhemoeloaaW.PrintMore Go.Proofs.Ytokambhemoeloaa.PA
set_option linter.unusedVariables false
set_option linter.unusedSimpArgs false
def putE : List S56 → S56 → List S56
  | [], d => [d]
  | x :: l, d => if ltD (toD x) (toD d) then x :: putE l d else if x = d then x :: l else d :: x :: l
theorem toD_inj {x y : S56} (h : toD x = toD y) : x = y := by
  have := congrArg toE h; simpa using this
theorem putE_map (l : List S56) (d : S56) : (putE l d).map toD = putD (l.map toD) (toD d) := by
  induction l with
  | nil => rfl
  | cons x l ih =>
    simp only [List.map_cons, putE, putD]
    split
    · simp [ih]
    · by_cases h : x = d
      · subst h; simp
      · rw [if_neg h, if_neg (fun e => h (toD_inj e))]; simp
theorem map_toD_toE (l : List S51) : (l.map toE).map toD = l := by simp [List.map_map, Function.comp_def]
theorem foldE_map (l : List S56) : ∀ a : List S56, (l.foldl putE a).map toD = (l.map toD).foldl putD (a.map toD) := by
  induction l with
  | nil => intro a; rfl
  | cons x l ih => intro a; rw [List.foldl_cons, ih, putE_map]; rfl
def canonE (l : List S56) : List S56 := l.foldl putE []
theorem canonE_map (l : List S56) : (canonE l).map toD = canon (l.map toD) := foldE_map l []
theorem canonE_take (l : List S56) (i : Nat) (hi : i < l.length) : canonE (l.take (i + 1)) = putE (canonE (l.take i)) l[i] := by
  unfold canonE
  rw [List.take_succ_eq_append_getElem hi, List.foldl_append]; rfl
theorem putE_length (l : List S56) (d : S56) : (putE l d).length ≤ l.length + 1 := by
  induction l with
  | nil => simp [putE]
  | cons x l ih =>
    unfold putE
    by_cases h1 : ltD (toD x) (toD d)
    · rw [if_pos h1]; simp; omega
    · rw [if_neg h1]; by_cases h2 : x = d
      · rw [if_pos h2]; simp
      · rw [if_neg h2]; simp
theorem canonE_length (l : List S56) : (canonE l).length ≤ l.length := by
  have key : ∀ (l a : List S56), (l.foldl putE a).length ≤ a.length + l.length := by
    intro l
    induction l with
    | nil => intro a; simp
    | cons x l ih => intro a; have := ih (putE a x); have := putE_length a x; simp only [List.foldl_cons, List.length_cons]; omega
  unfold canonE; simpa using key l []
theorem less_f (x y : S56) : skymosaicref32_Less.f x.f0 x.f1 x.f2.f0 x.f2.f1 x.f2.f2 y.f0 y.f1 y.f2.f0 y.f2.f1 y.f2.f2 = some (decide (ltD (toD x) (toD y))) := by
  unfold skymosaicref32_Less.f ltD toD
  by_cases h0 : x.f0 = y.f0
  · rw [if_pos h0]
    by_cases h1 : x.f1 = y.f1
    · rw [if_pos h1, before_f]; simp [h0, h1]
    · rw [if_neg h1]; simp [h0, h1]
  · rw [if_neg h0]; simp [h0]
theorem eqE (x y : S56) : (x.f0 == y.f0 && (x.f1 == y.f1 && (x.f2.f0 == y.f2.f0 && (x.f2.f1 == y.f2.f1 && x.f2.f2 == y.f2.f2)))) = decide (x = y) := by
  obtain ⟨a, b, ⟨c, d, e⟩⟩ := x
  obtain ⟨a', b', ⟨c', d', e'⟩⟩ := y
  simp only [S56.mk.injEq, S34.mk.injEq, Bool.decide_and]
  rfl
theorem put_l0 (l : List S56) (d : S56) (hl : l.length < 1000000) (f : Nat) : ∀ (m i : Nat), i + m = l.length →
    skymosaicref32_put.l0 (f + m + 1) l i d.f0 d.f1 d.f2.f0 d.f2.f1 d.f2.f2 = some (l.take i ++ putE (l.drop i) d) := by
  intro m
  induction m with
  | zero =>
    intro i hi
    have hi : i = l.length := by omega
    subst hi
    rw [skymosaicref32_put.l0, if_neg (by omega), if_pos (by omega), if_pos (by omega)]
    simp only [Int.toNat_natCast, Option.bind_some, List.take_length, List.drop_length, List.nil_append, List.length_nil, putE]
    rw [if_pos (by omega), if_pos (by simp; omega), if_pos (by simp; omega)]
    simp
  | succ m ih =>
    intro i hi
    have hil : i < l.length := by omega
    have hr : rd_T56 l i = l[i] := by simp [rd_T56, hil]
    have hd : l.drop i = l[i] :: l.drop (i + 1) := List.drop_eq_getElem_cons hil
    rw [show f + (m + 1) + 1 = (f + m + 1) + 1 from rfl, skymosaicref32_put.l0, if_pos (by omega), if_pos (by omega), hr, less_f, Option.bind_some, eqE]
    by_cases h1 : ltD (toD l[i]) (toD d)
    · rw [if_pos (by simpa using h1), show wrap64 ((i : Int) + 1) = ((i + 1 : Nat) : Int) from by unfold wrap64; omega, ih (i + 1) (by omega), hd, putE, if_pos h1]
      rw [List.take_succ_eq_append_getElem hil, List.append_assoc]; rfl
    · rw [if_neg (by simpa using h1)]
      by_cases h2 : l[i] = d
      · rw [if_pos (by simpa using h2), hd, putE, if_neg h1, if_pos h2, ← hd, List.take_append_drop]
      · rw [if_neg (by simpa using h2), if_pos (by omega)]
        simp only [Int.toNat_natCast, Option.bind_some, List.nil_append, List.length_nil]
        rw [if_pos (by simp; omega), if_pos (by simp; omega), if_pos (by simp; omega), hd, putE, if_neg h1, if_neg h2, ← hd]
        simp
theorem put_f (l : List S56) (d : S56) (hl : l.length < 1000000) : skymosaicref32_put.f (l.length + 1) l d.f0 d.f1 d.f2.f0 d.f2.f1 d.f2.f2 = some (putE l d) := by
  have := put_l0 l d hl 0 l.length 0 (by omega)
  simpa [skymosaicref32_put.f] using this
theorem put_calls (w : World) (W : World) (b : Nat) (hb : b < W.heap.size) (v : Value) (l : List S56) (d : S56) (hl : l.length < 1000000) (hB : Below w.heap.size w W) (hR : Kd.R k56 56 W w.heap.size (fun k => k ≠ b) v l) :
    Calls Try.prog 41 #[v, encE d] W fun e w' => ∃ v1 : Value, e = .returned v1 ∧ Kd.R k56 56 w' w.heap.size (fun k => k ≠ b) v1 (putE l d) ∧ Below w.heap.size w w' ∧ w'.heap[b]? = W.heap[b]? := by
  refine (skymosaicref32_put.calls (l.length + 1) (fun k => k ≠ b) v l _ _ _ _ _ _ w W hB hR (put_f l d hl)).mono ?_
  rintro e w' ⟨v1, rfl, h1, h2, h3⟩
  exact ⟨v1, rfl, Kd.R_mono h1 (fun k hk => by
    rcases hk with hk | hk
    · exact hk
    · omega), h2, h3.2 b hb (fun h => h rfl)⟩
end Go.Proofs.Ytokambhemoeloaa.G
end
section
namespace Go.Proofs.Ytokambhemoeloaa.G
open Go.RowKit Go.Proofs.YtokambhemoeloaaW.PrintWords Go.Proofs.YtokambhemoeloaaW.PrintLast Go.Proofs.YtokambhemoeloaaW.PrintMore Go.Proofs.Ytokambhemoeloaa.PA
open Go.Proofs.Ytokambhemoeloaa.Reg Go.Sort
set_option linter.unusedVariables false
set_option linter.unusedSimpArgs false
def rget (k : S34) (L : RL) : List S56 := if findB k L then (rd_T81 L (findN k L)).f1 else []
def RowE (w : World) (v : Value) (xs : List S56) : Prop := ∃ A c, v = .slice A xs.length c ∧ xs.length ≤ c ∧ Kd.C k56 w A xs.length xs
theorem RowE.below {w w1 : World} {v : Value} {xs : List S56} (h : RowE w v xs) (hb : Below w.heap.size w w1) : RowE w1 v xs := by
  obtain ⟨A, c, h1, h2, h3⟩ := h
  exact ⟨A, c, h1, h2, Kd.C_below h3 hb⟩
theorem findB_lt {k : S34} {L : RL} (h : findB k L = true) : findN k L < L.length := by
  unfold findB at h
  rcases Nat.lt_or_ge (findN k L) L.length with h1 | h1
  · exact h1
  · rw [List.getElem?_eq_none h1] at h; cases h
set_option maxHeartbeats 8000000 in
set_option maxRecDepth 100000 in
theorem refOf_calls (w : World) (rb : Nat) (L : RL) (k : S34) (h : RefAt w rb L) :
    Calls Try.prog 19 #[.pointer (some ⟨rb, 0, none⟩), encK k] w fun e w' => ∃ v, e = .returned v ∧ RowE w' v (rget k L) ∧ Below w.heap.size w w' := by
  have hF := fun W hW => find_calls W rb L k hW
  have hlt := @findB_lt k L
  unfold rget
  generalize findN k L = n at *
  show Calls Try.prog 19 #[.pointer (some ⟨rb, 0, none⟩), .agg #[.int .i64 k.f0, .int .i64 k.f1, .int .i64 k.f2]] w _
  unfold encK at hF
  cases hb : findB k L
  · rw [hb] at hF
    go_enter Try.func19, Try.ntmps19
    go_wp2_with (go_at_call 42; refine (hF _ (h.below (by repeat (first | exact Below.refl _ _ | assumption | with_reducible apply below_alloc | with_reducible apply pw_below_drewN | with_reducible apply below_drew)))).mono ?_; rintro e w1 ⟨rfl, hB⟩)
    go_ret
    exact ⟨_, rfl, ⟨none, 0, rfl, Nat.le_refl _, Kd.C_nil _ _⟩, below_then (w := w) (by repeat (first | exact Below.refl _ _ | assumption | with_reducible apply below_alloc | with_reducible apply pw_below_drewN | with_reducible apply below_drew)) (below_size (w := w) (by repeat (first | exact Below.refl _ _ | assumption | with_reducible apply below_alloc | with_reducible apply pw_below_drewN | with_reducible apply below_drew))) hB⟩
  · rw [hb] at hF
    have hn := hlt hb
    clear hlt
    obtain ⟨A, c, hblk, hc, hC⟩ := h.rows
    have hC0 := hC w (SameBut.refl _ _)
    have hmax := hC0.2.1
    have hcell : w.cell? ⟨rb, 0, none⟩ = some (.slice A L.length c) := (blk_cell hblk 0).trans rfl
    have hh := Lib.hid h
    clear hblk hC h
    go_enter Try.func19, Try.ntmps19
    go_wp2_with fail
    refine (hF _ (hh.out.below (by repeat (first | exact Below.refl _ _ | assumption | with_reducible apply below_alloc | with_reducible apply pw_below_drewN | with_reducible apply below_drew)))).mono ?_
    rintro e w1 ⟨rfl, hB⟩
    have hB2 : Below w.heap.size w w1 := below_then (w := w) (by repeat (first | exact Below.refl _ _ | assumption | with_reducible apply below_alloc | with_reducible apply pw_below_drewN | with_reducible apply below_drew)) (below_size (w := w) (by repeat (first | exact Below.refl _ _ | assumption | with_reducible apply below_alloc | with_reducible apply pw_below_drewN | with_reducible apply below_drew))) hB
    have hcw : w1.cell? ⟨rb, 0, none⟩ = some (.slice A L.length c) := pw_cell_below hB2 hcell
    obtain ⟨ad, A3, c3, rfl, _, _, _, c3', hc3, hC3⟩ := at_T81 (Kd.C_below hC0 hB2) n (by omega) (by omega)
    simp only [Int.toNat_natCast] at c3'
    clear hcell hC0 hB
    go_wp2
    go_ret
    exact ⟨_, rfl, ⟨A3, c3, rfl, hc3, hC3⟩, hB2⟩
end Go.Proofs.Ytokambhemoeloaa.G
end
section
namespace Go.Proofs.Ytokambhemoeloaa.G
open Go.RowKit Go.Proofs.YtokambhemoeloaaW.PrintWords Go.Proofs.YtokambhemoeloaaW.PrintLast Go.Proofs.YtokambhemoeloaaW.PrintMore Go.Proofs.Ytokambhemoeloaa.PA
open Go.Proofs.Ytokambhemoeloaa.Reg Go.Sort
set_option linter.unusedVariables false
set_option linter.unusedSimpArgs false
def refSetL (k : S34) (l : List S56) (L : RL) : RL :=
  if setE k (l.map toD) = 0 then L.take (findN k L) ++ (if canonE l = [] then [] else [⟨k, canonE l⟩]) ++ L.drop (findN k L + if findB k L then 1 else 0) else L
theorem lt_of_lt_of_le' {a b c : Nat} (h : a < b) (k : b ≤ c) : a < c := Nat.lt_of_lt_of_le h k
theorem info81 : (Try.prog.info? 81).map (fun i => (i.zero, i.size, i.bytes)) = some (some (.agg #[(.int .i64 0), (.int .i64 0), (.int .i64 0), (.slice none 0 0)]), 4, 48) := by kernel_rfl
theorem setE_valid (k : S34) (l : List S56) (h1 : vkey k.f0 k.f1 k.f2 = true) (h2 : ¬ l.length > 1024) : setE k (l.map toD) = if l.any (fun d => !validD (toD d)) then 1 else 0 := by
  unfold setE
  rw [if_pos h1, if_neg (by simpa using h2)]
  simp [List.any_map, Function.comp_def]
theorem R_robust {α : Type} {d : Kd α} {e base n c : Nat} {ok : Nat → Prop} {w W' : World} {A : Option Addr} {rb : Nat} {xs : List α} (hd : ∀ x cs, d.K w x cs → d.K W' x cs) (h : d.R e w base ok (.slice A n c) xs) (hrb : rb < base) (hs : SameBut rb w W') : d.C W' A n xs := by
  obtain ⟨rfl, _, hC⟩ := Kd.R_reads' h
  refine ⟨hC.1, hC.2.1, fun hn => ?_⟩
  obtain ⟨ad, rfl, hc⟩ := hC.2.2 hn
  obtain ⟨g, rfl⟩ := Kd.R_head h
  have hg := Kd.R_base h g rfl
  refine ⟨_, rfl, fun j p hj => ?_⟩
  obtain ⟨cs, h1, h2, h3⟩ := hc j p hj
  refine ⟨cs, h1, hd _ _ h2, fun i u hu => hs _ _ ?_ (h3 i u hu)⟩
  have : ∀ t, (Addr.add ⟨g, 0, none⟩ t).block = g := fun t => by unfold Addr.add; split <;> rfl
  rw [this]; omega
def AllK (W : World) (L : RL) (rows : List (List Value)) : Prop := rows.length = L.length ∧ ∀ (j : Nat) (x : S81) (cs : List Value), L[j]? = some x → rows[j]? = some cs → k81.K W x cs
theorem AllK.append {W : World} {L1 L2 : RL} {r1 r2 : List (List Value)} (h : AllK W L1 r1) (k : AllK W L2 r2) : AllK W (L1 ++ L2) (r1 ++ r2) := by
  refine ⟨by simp [h.1, k.1], fun j x cs h1 h2 => ?_⟩
  rw [List.getElem?_append] at h1 h2
  rw [h.1] at h2
  split at h1
  · rename_i hl; rw [if_pos hl] at h2; exact h.2 j x cs h1 h2
  · rename_i hl; rw [if_neg hl] at h2; exact k.2 _ x cs h1 h2
theorem AllK.take {W : World} {L : RL} {r : List (List Value)} (h : AllK W L r) (n : Nat) : AllK W (L.take n) (r.take n) := by
  refine ⟨by simp [h.1], fun j x cs h1 h2 => ?_⟩
  rw [List.getElem?_take] at h1 h2
  split at h1
  · rename_i hl; rw [if_pos hl] at h2; exact h.2 j x cs h1 h2
  · cases h1
theorem AllK.drop {W : World} {L : RL} {r : List (List Value)} (h : AllK W L r) (n : Nat) : AllK W (L.drop n) (r.drop n) := by
  refine ⟨by simp [h.1], fun j x cs h1 h2 => ?_⟩
  rw [List.getElem?_drop] at h1 h2
  exact h.2 _ x cs h1 h2
theorem refDone {w w5 w8 : World} {rb : Nat} {ok : Nat → Prop} {v0 v15 : Value} {rows' : List (List Value)} {L' : RL} (hB6 : Below w.heap.size w w5) (hrb : rb < w.heap.size) (hblk : w5.heap[rb]? = some (.cells #[v0] 28 (0, 0))) (hb8 : Below w5.heap.size w5 w8)
    (ho8 : (Kd.raw 4).R 81 w8 w5.heap.size ok v15 rows') (hK : ∀ W', SameBut rb w8 W' → AllK W' L' rows') : w.grownBy (w8.setCell ⟨rb, 0, none⟩ v15) (some rb) ∧ RefAt (w8.setCell ⟨rb, 0, none⟩ v15) rb L' := by
  have hg : w8.grownBy (w8.setCell ⟨rb, 0, none⟩ v15) (some rb) := ⟨by rfl, by rfl, by rfl, by simp [World.size_setCell], fun t ht hne => Below.heap_setCell w8 _ v15 t (fun e => hne (by rw [e]))⟩
  have hB8 := below_then hB6 hB6.size hb8
  refine ⟨(grown_of_below' hB8 _).trans hg, ?_⟩
  obtain ⟨A, c, rfl, hc, _⟩ := Kd.R_reads ho8
  have hl := (hK w8 (SameBut.refl _ _)).1
  have hb8' : w8.heap[rb]? = some (.cells #[v0] 28 (0, 0)) := (hb8.block rb (blk_lt hblk)).trans hblk
  refine ⟨A, c, rows', ?_, by omega, hl, fun W' hW => ?_⟩
  · rw [← hl]
    exact one_setCell hb8'
  · have hs : SameBut rb w8 W' := (SameBut.of_grown hg).trans hW
    exact ⟨R_robust (w := w8) (fun x cs h => h) ho8 (Nat.lt_of_lt_of_le hrb hB6.size) hs, (hK W' hs).2⟩
set_option maxHeartbeats 8000000 in
set_option maxRecDepth 100000 in
theorem refSet_calls (w : World) (rb : Nat) (L : RL) (k : S34) (v : Value) (l : List S56) (h : RefAt w rb L) (hr : RowE w v l) (hL : L.length < 1000000) :
    Calls Try.prog 11 #[.pointer (some ⟨rb, 0, none⟩), encK k, v] w fun e w' => e = .returned (.int .i64 (setE k (l.map toD))) ∧ w.grownBy w' (some rb) ∧ RefAt w' rb (refSetL k l L) := by
  show Calls Try.prog 11 #[.pointer (some ⟨rb, 0, none⟩), .agg #[.int .i64 k.f0, .int .i64 k.f1, .int .i64 k.f2], v] w _
  obtain ⟨A, c, rfl, hc, hC⟩ := hr
  have hmax := hC.2.1
  have hVK := fun W => refVK_calls k W
  unfold vkeyE encK at hVK
  have hE : Hid (setE k (l.map toD) = if vkey k.f0 k.f1 k.f2 then (if l.length > 1024 then 4 else if (l.map toD).any (fun d => !validD d) then 1 else 0) else 5) := by
    show _ = _; unfold setE; simp
  cases hk : vkey k.f0 k.f1 k.f2
  · rw [hk] at hE hVK
    simp only [Bool.false_eq_true, if_false] at hE hVK
    go_enter Try.func11, Try.ntmps11
    go_wp2_with (go_at_call 39; refine (hVK _).mono ?_; rintro e w1 ⟨rfl, hB⟩)
    go_ret
    have hB2 : Below w.heap.size w w1 := below_then (w := w) (by repeat (first | exact Below.refl _ _ | assumption | with_reducible apply below_alloc | with_reducible apply pw_below_drewN | with_reducible apply below_drew)) (below_size (w := w) (by repeat (first | exact Below.refl _ _ | assumption | with_reducible apply below_alloc | with_reducible apply pw_below_drewN | with_reducible apply below_drew))) hB
    exact ⟨by rw [hE.out]; rfl, grown_of_below' hB2 _, by unfold refSetL; rw [hE.out]; exact h.below hB2⟩
  rw [hk] at hE hVK
  simp only [if_true] at hE hVK
  by_cases hl : l.length > 1024
  · rw [if_pos hl] at hE
    go_enter Try.func11, Try.ntmps11
    go_wp2_with (go_at_call 39; refine (hVK _).mono ?_; rintro e w1 ⟨rfl, hB⟩)
    go_ret
    have hB2 : Below w.heap.size w w1 := below_then (w := w) (by repeat (first | exact Below.refl _ _ | assumption | with_reducible apply below_alloc | with_reducible apply pw_below_drewN | with_reducible apply below_drew)) (below_size (w := w) (by repeat (first | exact Below.refl _ _ | assumption | with_reducible apply below_alloc | with_reducible apply pw_below_drewN | with_reducible apply below_drew))) hB
    exact ⟨by rw [hE.out]; rfl, grown_of_below' hB2 _, by unfold refSetL; rw [hE.out]; exact h.below hB2⟩
  clear hE
  have hE : Hid (setE k (l.map toD) = if l.any (fun d => !validD (toD d)) then 1 else 0) := setE_valid k l hk hl
  have hh := Lib.hid h
  clear h
  go_enter Try.func11, Try.ntmps11
  go_wp2_with fail
  refine (hVK _).mono ?_
  rintro e w1 ⟨rfl, hB⟩
  have hB2 : Below w.heap.size w w1 := below_then (w := w) (by repeat (first | exact Below.refl _ _ | assumption | with_reducible apply below_alloc | with_reducible apply pw_below_drewN | with_reducible apply below_drew)) (below_size (w := w) (by repeat (first | exact Below.refl _ _ | assumption | with_reducible apply below_alloc | with_reducible apply pw_below_drewN | with_reducible apply below_drew))) hB
  have hbox : w1.heap[w.heap.size]? = some (.cells #[.int .i64 k.f0, .int .i64 k.f1, .int .i64 k.f2] 34 (0, 0)) := by
    rw [hB.block w.heap.size (by simp)]
    show (w.heap.push _)[w.heap.size]? = _; simp
  have hb1 := blk_lt hbox
  clear hB hVK
  go_wp2
  go_loopw [8, 9, 10] (fun v8 i _ wr => ∃ (v0 : Value) (j : Nat), v0 = v8 ∧ j ≤ l.length ∧ i = .int .i64 j ∧ Hid (∀ t (ht : t < j) (hl : t < l.length), validD (toD l[t]) = true) ∧ Below w.heap.size w wr ∧ Kd.R k56 56 wr w.heap.size (fun t => t ≠ w.heap.size) v0 (canonE (l.take j)) ∧ w.heap.size < wr.heap.size ∧ wr.heap[w.heap.size]? = some (.cells #[.int .i64 k.f0, .int .i64 k.f1, .int .i64 k.f2] 34 (0, 0))) (fun _ i _ wr => l.length - (intOf i).toNat)
  case atStart => exact ⟨_, 0, rfl, Nat.zero_le _, rfl, fun t ht => by omega, hB2, Kd.R_nil _ _ _ _ _, hb1, hbox⟩
  case round =>
    obtain ⟨v0, j, rfl, hj, rfl, hval, hB, hR, hlt, hbx⟩ := hrel
    by_cases hjl : j < l.length
    · obtain ⟨ad, rfl, c0, c1, c2, c3, c4⟩ := at_T56 (Kd.C_below hC hB) j (by omega) (by omega)
      have hx : rd_T56 l j = l[j] := by simp [rd_T56, hjl]
      have hct := Lib.hid (canonE_take l j hjl)
      simp only [Int.toNat_natCast] at c0 c1 c2 c3 c4
      rw [hx] at c0 c1 c2 c3 c4
      clear hx
      have hcl : (canonE (l.take j)).length < 1000000 := by have := canonE_length (l.take j); simp at this; omega
      generalize hxe : l[j] = x at *
      have hxh := Lib.hid hxe
      clear hxe
      have hV := fun W => refValid_calls x W
      unfold encE at hV
      go_wp2_with fail
      refine (hV _).mono ?_
      rintro e w3 ⟨rfl, hB3⟩
      cases hv : validD (toD x)
      · have hany := Lib.hid (show l.any (fun d => !validD (toD d)) = true from List.any_eq_true.2 ⟨l[j], List.getElem_mem _, by rw [hxh.out, hv]; rfl⟩)
        clear c0 c1 c2 c3 c4
        go_wp2
        go_ret
        have hB5 := below_then hB hB.size hB3
        exact ⟨by rw [hE.out, hany.out]; rfl, grown_of_below' hB5 _, by unfold refSetL; rw [hE.out, hany.out]; exact hh.out.below hB5⟩
      · have hB5 := below_then hB hB.size hB3
        have hR3 := Kd.R_below hR hB3
        have hbx3 := (hB3.block w.heap.size hlt).trans hbx
        have hP := put_calls w w3 w.heap.size (blk_lt hbx3) v0 _ x hcl hB5 hR3
        unfold encE at hP
        have d0 := pw_cell_below hB3 c0
        have d1 := pw_cell_below hB3 c1
        have d2 := pw_cell_below hB3 c2
        have d3 := pw_cell_below hB3 c3
        have d4 := pw_cell_below hB3 c4
        clear c0 c1 c2 c3 c4
        go_wp2_with fail
        refine hP.mono ?_
        rintro e w4 ⟨v4, rfl, hR4, hB4, hbx4⟩
        clear d0 d1 d2 d3 d4 hP hV
        go_wp2
        go_roundw
        case rel =>
          refine ⟨v4, j + 1, rfl, by omega, by go_num, ?_, hB4, by rw [hct.out]; exact hR4, by have := blk_lt (hbx4.trans hbx3); exact this, hbx4.trans hbx3⟩
          intro t ht htl
          by_cases e : t = j
          · subst e; rw [hxh.out]; exact hv
          · exact hval.out t (by omega) htl
        case measure => simp [intOf]; omega
    · have hjl : j = l.length := by omega
      subst hjl
      rw [List.take_length] at hR
      have hany := Lib.hid (show l.any (fun d => !validD (toD d)) = false from by
        rw [List.any_eq_false]
        intro x hx
        obtain ⟨t, ht, rfl⟩ := List.mem_iff_getElem.1 hx
        simp [hval.out t ht ht])
      have k0 : wr.cell? ⟨w.heap.size, 0, none⟩ = some (.int .i64 k.f0) := (blk_cell hbx 0).trans rfl
      have k1 : wr.cell? ⟨w.heap.size, 1, none⟩ = some (.int .i64 k.f1) := (blk_cell hbx 1).trans rfl
      have k2 : wr.cell? ⟨w.heap.size, 2, none⟩ = some (.int .i64 k.f2) := (blk_cell hbx 2).trans rfl
      have hF := find_calls wr rb L k (hh.out.below hB)
      unfold encK at hF
      have hnle := findN_le k L
      have hnlt := @findB_lt k L
      have hRL : Hid (refSetL k l L = L.take (findN k L) ++ (if canonE l = [] then [] else [⟨k, canonE l⟩]) ++ L.drop (findN k L + if findB k L then 1 else 0)) := by
        show _ = _; unfold refSetL; rw [hE.out, hany.out]; rfl
      generalize findN k L = n at *
      clear hbox hb1 hB2 hC hmax hval
      obtain ⟨A8, c8, rfl, hc8, hC8⟩ := Kd.R_reads hR
      generalize canonE l = own at *
      go_wp2_with fail
      refine hF.mono ?_
      rintro e w5 ⟨rfl, hB5⟩
      have hB6 := below_then hB hB.size hB5
      obtain ⟨Ar, cr, rows, hblk, hcr, hrl, hrd⟩ := (hh.out.below hB6).raws
      have hr5 := (hrd w5 (SameBut.refl _ _)).1
      have hcw : w5.cell? ⟨rb, 0, none⟩ = some (.slice Ar L.length cr) := (blk_cell hblk 0).trans rfl
      have k50 := pw_cell_below hB5 k0
      have k51 := pw_cell_below hB5 k1
      have k52 := pw_cell_below hB5 k2
      have hrmax := hr5.2.1
      have hct := Kd.C_take hr5 (m := n) (by omega)
      rw [show (rows.take n).length = n from by simp; omega] at hct
      clear k0 k1 k2 hF
      obtain ⟨j, hj, hjn, hjv⟩ : ∃ j : Nat, j ≤ L.length ∧ n + (if findB k L then 1 else 0) = j ∧ (if findB k L then Value.int .i64 ((n : Int) + 1) else .int .i64 n) = .int .i64 (j : Int) := by
        cases hf : findB k L
        · exact ⟨n, by omega, by simp, by simp⟩
        · have := hnlt hf
          exact ⟨n + 1, by omega, by simp, by simp⟩
      obtain ⟨i0, hi0, _, hsz0, _⟩ := info_parts info81
      have hcut := cut_from (P := Try.prog) 26 81 .i64 Try.underlying26 hi0 4 hsz0 Ar L.length cr (j : Int) (by omega) (by omega)
      have hcd := Kd.C_drop hr5 (m := j) (c := cr) (by omega) (by omega)
      simp only [Int.toNat_natCast] at hcut
      obtain ⟨A2, hA2⟩ : ∃ A1, A1 = (if cr = j then Ar else Ar.map (·.add (j * 4))) := ⟨_, rfl⟩
      rw [← hA2] at hcut
      have hcd : Kd.C (Kd.raw 4) w5 A2 (rows.drop j).length (rows.drop j) := by rw [hA2]; exact hcd
      rw [show (rows.drop j).length = L.length - j from by simp; omega] at hcd
      rw [hjn] at hRL
      have hwo : ∀ k, k < w5.heap.size → some k ≠ (Value.slice none 0 0).ownBlock := fun k hk => by simp [Value.ownBlock]
      have hrb5 := blk_lt hblk
      have hC85 := Kd.C_below hC8 hB5
      have hbx5 := lt_of_lt_of_le' hlt hB5.size
      clear hA2 hi0 hsz0 hC8
      by_cases hown : own = []
      · have hlo : own.length = 0 := by simp [hown]
        cases hf : findB k L
        · rw [hf] at hjv
          simp only [Bool.false_eq_true, if_false, if_true] at hjv
          rw [← hjv] at hcut
          have hjnh := Lib.hid hjn
          clear hjv hjn
          go_wp2_with (first | (at_builtin; refine Kd.R_append_rows (Kd.raw 4) (Rr := (Kd.raw 4).K w5) (w0 := w5) w5.heap.size rfl (.tmp 47) (.tmp 53) 26 81 (.agg #[(.int .i64 0), (.int .i64 0), (.int .i64 0), (.slice none 0 0)]) 48 rfl Try.underlying26 info81 rfl ?hs0 ?hb0 (.slice none 0 0) [] (rows.take n) Ar n cr (fun _ => True) (fun _ => False) rfl rfl ?h0 ?h1 (fun _ _ h => h) (fun _ h => h.elim) (fun _ _ => trivial) ?h4 ?h5 ?h6 ?_; rotate_right; intro v13 w6 ho6 hb6 hg6 hat6; have hcw6 := pw_cell_below hb6 hcw; have k60 := pw_cell_below hb6 k50; have k61 := pw_cell_below hb6 k51; have k62 := pw_cell_below hb6 k52) | (at_builtin; go_must (refine Kd.R_append_rows (Kd.raw 4) (Rr := (Kd.raw 4).K w6) (w0 := w5) w5.heap.size rfl (.tmp 68) (.tmp 74) 26 81 (.agg #[(.int .i64 0), (.int .i64 0), (.int .i64 0), (.slice none 0 0)]) 48 rfl Try.underlying26 info81 rfl ?xs0 ?xb0 v13 (rows.take n) (rows.drop j) A2 (L.length - j) (cr - j) (fun _ => True) (fun _ => False) rfl rfl ?x0 ?x1 (fun _ _ h => h) (fun _ h => h.elim) (fun _ _ => trivial) ?x4 ?x5 ?x6 ?_); rotate_right; intro v15 w8 ho8 hb8 hg8 hat8; have hcw8 := pw_cell_below hb8 hcw; obtain ⟨A15, c15, rfl, hc15, hC15⟩ := Kd.R_reads ho8; have hfr8 := blk_frozen ((hb8.block rb hrb5).trans hblk) 0))
          go_wp2
          go_ret
          have hrbw := hh.out.lt
          have hd := refDone (L' := refSetL k l L) hB6 hrbw hblk hb8 ho8 (fun W' hW => by
            have hS5 : SameBut rb w5 W' := (SameBut.of_cells (SameCells.of_below hb8)).trans hW
            have hA : AllK W' L rows := ⟨hrl, (hrd W' hS5).2⟩
            rw [hRL.out]
            rw [if_pos hown]
            simp only [List.append_nil]
            exact (hA.take n).append (hA.drop j))
          rw [show (rows.take n ++ rows.drop j).length = n + (L.length - j) from by simp; omega] at hd
          exact ⟨by rw [hE.out, hany.out]; rfl, hd.1, hd.2⟩
          case hs0 => decide
          case hb0 => omega
          case h0 => exact Kd.R_nil _ _ _ _ _
          case h1 => exact hct
          case h4 => exact Below.refl _ _
          case h5 => exact Nat.le_refl _
          case h6 => simp; omega
          case xs0 => decide
          case xb0 => omega
          case x0 => simpa using ho6
          case x1 => exact Kd.C_below hcd hb6
          case x4 => exact hb6
          case x5 => exact hb6.size
          case x6 => simp; omega
        · rw [hf] at hjv
          simp only [Bool.false_eq_true, if_false, if_true] at hjv
          rw [← hjv] at hcut
          have hjnh := Lib.hid hjn
          clear hjv hjn
          go_wp2_with (first | (at_builtin; refine Kd.R_append_rows (Kd.raw 4) (Rr := (Kd.raw 4).K w5) (w0 := w5) w5.heap.size rfl (.tmp 47) (.tmp 53) 26 81 (.agg #[(.int .i64 0), (.int .i64 0), (.int .i64 0), (.slice none 0 0)]) 48 rfl Try.underlying26 info81 rfl ?hs0 ?hb0 (.slice none 0 0) [] (rows.take n) Ar n cr (fun _ => True) (fun _ => False) rfl rfl ?h0 ?h1 (fun _ _ h => h) (fun _ h => h.elim) (fun _ _ => trivial) ?h4 ?h5 ?h6 ?_; rotate_right; intro v13 w6 ho6 hb6 hg6 hat6; have hcw6 := pw_cell_below hb6 hcw; have k60 := pw_cell_below hb6 k50; have k61 := pw_cell_below hb6 k51; have k62 := pw_cell_below hb6 k52) | (at_builtin; go_must (refine Kd.R_append_rows (Kd.raw 4) (Rr := (Kd.raw 4).K w6) (w0 := w5) w5.heap.size rfl (.tmp 68) (.tmp 74) 26 81 (.agg #[(.int .i64 0), (.int .i64 0), (.int .i64 0), (.slice none 0 0)]) 48 rfl Try.underlying26 info81 rfl ?xs0 ?xb0 v13 (rows.take n) (rows.drop j) A2 (L.length - j) (cr - j) (fun _ => True) (fun _ => False) rfl rfl ?x0 ?x1 (fun _ _ h => h) (fun _ h => h.elim) (fun _ _ => trivial) ?x4 ?x5 ?x6 ?_); rotate_right; intro v15 w8 ho8 hb8 hg8 hat8; have hcw8 := pw_cell_below hb8 hcw; obtain ⟨A15, c15, rfl, hc15, hC15⟩ := Kd.R_reads ho8; have hfr8 := blk_frozen ((hb8.block rb hrb5).trans hblk) 0))
          go_wp2
          go_ret
          have hrbw := hh.out.lt
          have hd := refDone (L' := refSetL k l L) hB6 hrbw hblk hb8 ho8 (fun W' hW => by
            have hS5 : SameBut rb w5 W' := (SameBut.of_cells (SameCells.of_below hb8)).trans hW
            have hA : AllK W' L rows := ⟨hrl, (hrd W' hS5).2⟩
            rw [hRL.out]
            rw [if_pos hown]
            simp only [List.append_nil]
            exact (hA.take n).append (hA.drop j))
          rw [show (rows.take n ++ rows.drop j).length = n + (L.length - j) from by simp; omega] at hd
          exact ⟨by rw [hE.out, hany.out]; rfl, hd.1, hd.2⟩
          case hs0 => decide
          case hb0 => omega
          case h0 => exact Kd.R_nil _ _ _ _ _
          case h1 => exact hct
          case h4 => exact Below.refl _ _
          case h5 => exact Nat.le_refl _
          case h6 => simp; omega
          case xs0 => decide
          case xb0 => omega
          case x0 => simpa using ho6
          case x1 => exact Kd.C_below hcd hb6
          case x4 => exact hb6
          case x5 => exact hb6.size
          case x6 => simp; omega
      · have hlo : own.length ≠ 0 := by simpa using hown
        cases hf : findB k L
        · rw [hf] at hjv
          simp only [Bool.false_eq_true, if_false, if_true] at hjv
          rw [← hjv] at hcut
          have hjnh := Lib.hid hjn
          clear hjv hjn
          go_wp2_with (first | (at_builtin; refine Kd.R_append_rows (Kd.raw 4) (Rr := (Kd.raw 4).K w5) (w0 := w5) w5.heap.size rfl (.tmp 47) (.tmp 53) 26 81 (.agg #[(.int .i64 0), (.int .i64 0), (.int .i64 0), (.slice none 0 0)]) 48 rfl Try.underlying26 info81 rfl ?hs0 ?hb0 (.slice none 0 0) [] (rows.take n) Ar n cr (fun _ => True) (fun _ => False) rfl rfl ?h0 ?h1 (fun _ _ h => h) (fun _ h => h.elim) (fun _ _ => trivial) ?h4 ?h5 ?h6 ?_; rotate_right; intro v13 w6 ho6 hb6 hg6 hat6; have hcw6 := pw_cell_below hb6 hcw; have k60 := pw_cell_below hb6 k50; have k61 := pw_cell_below hb6 k51; have k62 := pw_cell_below hb6 k52) | (at_builtin; refine Kd.R_append (Kd.raw 4) (w0 := w5) w5.heap.size rfl (.tmp 58) (.tmp 62) 26 81 (.agg #[(.int .i64 0), (.int .i64 0), (.int .i64 0), (.slice none 0 0)]) 48 rfl Try.underlying26 info81 rfl ?ss0 ?sb0 v13 (rows.take n) [.int .i64 k.f0, .int .i64 k.f1, .int .i64 k.f2, .slice A8 own.length c8] [.int .i64 k.f0, .int .i64 k.f1, .int .i64 k.f2, .slice A8 own.length c8] (fun _ => True) (fun _ => False) rfl ?sx ?s1 (fun _ hk => hk.elim) (fun _ _ => trivial) ?s4 ?s5 ?s6 ?s7 ?_; rotate_right; intro v14 w7 ho7 hb7 hg7 hat7; have hcw7 := pw_cell_below hb7 hcw) | (at_builtin; go_must (refine Kd.R_append_rows (Kd.raw 4) (Rr := (Kd.raw 4).K w7) (w0 := w5) w5.heap.size rfl (.tmp 68) (.tmp 74) 26 81 (.agg #[(.int .i64 0), (.int .i64 0), (.int .i64 0), (.slice none 0 0)]) 48 rfl Try.underlying26 info81 rfl ?xs0 ?xb0 v14 (rows.take n ++ [[.int .i64 k.f0, .int .i64 k.f1, .int .i64 k.f2, .slice A8 own.length c8]]) (rows.drop j) A2 (L.length - j) (cr - j) (fun _ => True) (fun _ => False) rfl rfl ?x0 ?x1 (fun _ _ h => h) (fun _ h => h.elim) (fun _ _ => trivial) ?x4 ?x5 ?x6 ?_); rotate_right; intro v15 w8 ho8 hb8 hg8 hat8; have hcw8 := pw_cell_below hb8 hcw; obtain ⟨A15, c15, rfl, hc15, hC15⟩ := Kd.R_reads ho8; have hfr8 := blk_frozen ((hb8.block rb hrb5).trans hblk) 0))
          go_wp2
          go_ret
          have hrbw := hh.out.lt
          have hd := refDone (L' := refSetL k l L) hB6 hrbw hblk hb8 ho8 (fun W' hW => by
            have hS5 : SameBut rb w5 W' := (SameBut.of_cells (SameCells.of_below hb8)).trans hW
            have hA : AllK W' L rows := ⟨hrl, (hrd W' hS5).2⟩
            rw [hRL.out]
            rw [if_neg hown]
            refine ((hA.take n).append ⟨rfl, fun t x cs h1 h2 => ?_⟩).append (hA.drop j)
            match t with
            | 0 =>
              simp at h1 h2; subst h1 h2
              exact k81_mk W' _ hc8 (R_robust k56_any hR hrbw ((SameBut.of_cells (SameCells.of_below hB5)).trans hS5))
            | t + 1 => simp at h1)
          rw [show (rows.take n ++ [[Value.int .i64 k.f0, .int .i64 k.f1, .int .i64 k.f2, .slice A8 own.length c8]] ++ rows.drop j).length = n + (L.length - j + 1) from by simp; omega] at hd
          exact ⟨by rw [hE.out, hany.out]; rfl, hd.1, hd.2⟩
          case hs0 => decide
          case hb0 => omega
          case h0 => exact Kd.R_nil _ _ _ _ _
          case h1 => exact hct
          case h4 => exact Below.refl _ _
          case h5 => exact Nat.le_refl _
          case h6 => simp; omega
          case xs0 => decide
          case xb0 => omega
          case ss0 => decide
          case sb0 => omega
          case sx => go_simp
          case s1 => exact ⟨rfl, rfl, by simp; refine ⟨rfl, rfl, rfl, rfl⟩⟩
          case s4 => simpa using ho6
          case s5 => exact hb6
          case s6 => exact hb6.size
          case s7 => simp; omega
          case x0 => exact ho7
          case x1 => exact Kd.C_below hcd hb7
          case x4 => exact hb7
          case x5 => exact hb7.size
          case x6 => simp; omega
        · rw [hf] at hjv
          simp only [Bool.false_eq_true, if_false, if_true] at hjv
          rw [← hjv] at hcut
          have hjnh := Lib.hid hjn
          clear hjv hjn
          go_wp2_with (first | (at_builtin; refine Kd.R_append_rows (Kd.raw 4) (Rr := (Kd.raw 4).K w5) (w0 := w5) w5.heap.size rfl (.tmp 47) (.tmp 53) 26 81 (.agg #[(.int .i64 0), (.int .i64 0), (.int .i64 0), (.slice none 0 0)]) 48 rfl Try.underlying26 info81 rfl ?hs0 ?hb0 (.slice none 0 0) [] (rows.take n) Ar n cr (fun _ => True) (fun _ => False) rfl rfl ?h0 ?h1 (fun _ _ h => h) (fun _ h => h.elim) (fun _ _ => trivial) ?h4 ?h5 ?h6 ?_; rotate_right; intro v13 w6 ho6 hb6 hg6 hat6; have hcw6 := pw_cell_below hb6 hcw; have k60 := pw_cell_below hb6 k50; have k61 := pw_cell_below hb6 k51; have k62 := pw_cell_below hb6 k52) | (at_builtin; refine Kd.R_append (Kd.raw 4) (w0 := w5) w5.heap.size rfl (.tmp 58) (.tmp 62) 26 81 (.agg #[(.int .i64 0), (.int .i64 0), (.int .i64 0), (.slice none 0 0)]) 48 rfl Try.underlying26 info81 rfl ?ss0 ?sb0 v13 (rows.take n) [.int .i64 k.f0, .int .i64 k.f1, .int .i64 k.f2, .slice A8 own.length c8] [.int .i64 k.f0, .int .i64 k.f1, .int .i64 k.f2, .slice A8 own.length c8] (fun _ => True) (fun _ => False) rfl ?sx ?s1 (fun _ hk => hk.elim) (fun _ _ => trivial) ?s4 ?s5 ?s6 ?s7 ?_; rotate_right; intro v14 w7 ho7 hb7 hg7 hat7; have hcw7 := pw_cell_below hb7 hcw) | (at_builtin; go_must (refine Kd.R_append_rows (Kd.raw 4) (Rr := (Kd.raw 4).K w7) (w0 := w5) w5.heap.size rfl (.tmp 68) (.tmp 74) 26 81 (.agg #[(.int .i64 0), (.int .i64 0), (.int .i64 0), (.slice none 0 0)]) 48 rfl Try.underlying26 info81 rfl ?xs0 ?xb0 v14 (rows.take n ++ [[.int .i64 k.f0, .int .i64 k.f1, .int .i64 k.f2, .slice A8 own.length c8]]) (rows.drop j) A2 (L.length - j) (cr - j) (fun _ => True) (fun _ => False) rfl rfl ?x0 ?x1 (fun _ _ h => h) (fun _ h => h.elim) (fun _ _ => trivial) ?x4 ?x5 ?x6 ?_); rotate_right; intro v15 w8 ho8 hb8 hg8 hat8; have hcw8 := pw_cell_below hb8 hcw; obtain ⟨A15, c15, rfl, hc15, hC15⟩ := Kd.R_reads ho8; have hfr8 := blk_frozen ((hb8.block rb hrb5).trans hblk) 0))
          go_wp2
          go_ret
          have hrbw := hh.out.lt
          have hd := refDone (L' := refSetL k l L) hB6 hrbw hblk hb8 ho8 (fun W' hW => by
            have hS5 : SameBut rb w5 W' := (SameBut.of_cells (SameCells.of_below hb8)).trans hW
            have hA : AllK W' L rows := ⟨hrl, (hrd W' hS5).2⟩
            rw [hRL.out]
            rw [if_neg hown]
            refine ((hA.take n).append ⟨rfl, fun t x cs h1 h2 => ?_⟩).append (hA.drop j)
            match t with
            | 0 =>
              simp at h1 h2; subst h1 h2
              exact k81_mk W' _ hc8 (R_robust k56_any hR hrbw ((SameBut.of_cells (SameCells.of_below hB5)).trans hS5))
            | t + 1 => simp at h1)
          rw [show (rows.take n ++ [[Value.int .i64 k.f0, .int .i64 k.f1, .int .i64 k.f2, .slice A8 own.length c8]] ++ rows.drop j).length = n + (L.length - j + 1) from by simp; omega] at hd
          exact ⟨by rw [hE.out, hany.out]; rfl, hd.1, hd.2⟩
          case hs0 => decide
          case hb0 => omega
          case h0 => exact Kd.R_nil _ _ _ _ _
          case h1 => exact hct
          case h4 => exact Below.refl _ _
          case h5 => exact Nat.le_refl _
          case h6 => simp; omega
          case xs0 => decide
          case xb0 => omega
          case ss0 => decide
          case sb0 => omega
          case sx => go_simp
          case s1 => exact ⟨rfl, rfl, by simp; refine ⟨rfl, rfl, rfl, rfl⟩⟩
          case s4 => simpa using ho6
          case s5 => exact hb6
          case s6 => exact hb6.size
          case s7 => simp; omega
          case x0 => exact ho7
          case x1 => exact Kd.C_below hcd hb7
          case x4 => exact hb7
          case x5 => exact hb7.size
          case x6 => simp; omega
end Go.Proofs.Ytokambhemoeloaa.G
end
section
namespace Go.Proofs.Ytokambhemoeloaa.G
open Go.RowKit Go.Proofs.YtokambhemoeloaaW.PrintWords Go.Proofs.YtokambhemoeloaaW.PrintLast Go.Proofs.YtokambhemoeloaaW.PrintMore Go.Proofs.Ytokambhemoeloaa.PA
set_option linter.unusedVariables false
set_option linter.unusedSimpArgs false
theorem gget_gput (x y : S34) (v : List S51) : ∀ G : GL, gget y (gput x v G) = if y = x then some v else gget y G
  | [] => by by_cases h : y = x <;> simp [gget, gput, h]
  | p :: G => by
    unfold gput
    by_cases h1 : x = p.1
    · rw [if_pos h1]
      unfold gget
      by_cases h : y = x
      · simp [h]
      · rw [if_neg h, if_neg h, if_neg (fun e => h (e.trans h1.symm))]
    · rw [if_neg h1]
      unfold gget
      rw [gget_gput x y v G]
      by_cases h : y = x
      · subst h; rw [if_neg h1]; simp
      · simp [h]
theorem gput_keys (x : S34) (v : List S51) : ∀ G : GL, (gput x v G).map (·.1) = if x ∈ G.map (·.1) then G.map (·.1) else G.map (·.1) ++ [x]
  | [] => by simp [gput]
  | p :: G => by
    unfold gput
    by_cases h1 : x = p.1
    · subst h1; simp
    · rw [if_neg h1, List.map_cons, gput_keys x v G, List.map_cons]
      by_cases h2 : x ∈ G.map (·.1)
      · rw [if_pos h2, if_pos (List.mem_cons.2 (.inr h2))]
      · rw [if_neg h2, if_neg (fun h => by
          rcases List.mem_cons.1 h with h | h
          · exact h1 h
          · exact h2 h)]
        rfl
theorem gdel_sub (x : S34) : ∀ G : GL, ((gdel x G).map (·.1)).Sublist (G.map (·.1))
  | [] => by simp [gdel]
  | p :: G => by
    unfold gdel
    split
    · simp
    · simp only [List.map_cons]; exact (gdel_sub x G).cons_cons _
theorem gget_gdel (x y : S34) : ∀ G : GL, (G.map (·.1)).Nodup → gget y (gdel x G) = if y = x then none else gget y G
  | [], _ => by simp [gget, gdel]
  | p :: G, hn => by
    rw [List.map_cons, List.nodup_cons] at hn
    unfold gdel
    by_cases h1 : x = p.1
    · rw [if_pos h1]
      by_cases h : y = x
      · subst h
        rw [if_pos rfl]
        cases hg : gget y G with
        | none => rfl
        | some v => exact absurd ((gget_mem y G).1 (by rw [hg]; rfl)) (by rw [h1]; exact hn.1)
      · rw [if_neg h]
        unfold gget
        rw [if_neg (fun e => h (e.trans h1.symm))]
        cases G <;> rfl
    · rw [if_neg h1]
      unfold gget
      rw [gget_gdel x y G hn.2]
      by_cases h : y = x
      · subst h; rw [if_neg h1]; simp
      · simp [h]
def rlk (k : S34) : RL → Option (List S56)
  | [] => none
  | e :: l => if e.f0 = k then some e.f1 else rlk k l
def RSorted (L : RL) : Prop := (L.map (·.f0)).Pairwise ltK
theorem rlk_above {k : S34} : ∀ {l : RL}, (∀ x ∈ l.map (·.f0), ltK k x) → rlk k l = none
  | [], _ => rfl
  | e :: l, h => by
    unfold rlk
    rw [if_neg (fun he => ltK_irrefl k (by have := h e.f0 (by simp); rwa [he] at this)), rlk_above (fun x hx => h x (by simp only [List.map_cons, List.mem_cons]; exact .inr hx))]
theorem rlk_of (k : S34) : ∀ L : RL, RSorted L → rlk k L = if findB k L then some (rget k L) else none
  | [], _ => rfl
  | e :: l, h => by
    have h2 := h
    unfold RSorted at h2
    rw [List.map_cons, List.pairwise_cons] at h2
    have ih := rlk_of k l h2.2
    by_cases hlt : ltK e.f0 k
    · have hne : ¬ e.f0 = k := fun he => ltK_irrefl k (by rwa [he] at hlt)
      have h3 : findN k (e :: l) = findN k l + 1 := by rw [findN, if_pos hlt]
      have hB : findB k (e :: l) = findB k l := by unfold findB; rw [h3]; simp
      have hR : rget k (e :: l) = rget k l := by
        unfold rget; rw [hB, h3]
        split
        · rename_i hb
          have := findB_lt hb
          rw [rd81 this, show ((findN k l + 1 : Nat) : Int) = ((findN k l + 1 : Nat) : Int) from rfl, rd81 (by simp; omega)]; simp
        · rfl
      rw [rlk, if_neg hne, ih, hB, hR]
    · have h3 : findN k (e :: l) = 0 := by rw [findN, if_neg hlt]
      by_cases he : e.f0 = k
      · have hB : findB k (e :: l) = true := by unfold findB; rw [h3]; simp [he]
        rw [rlk, if_pos he, hB, if_pos rfl]
        unfold rget; rw [hB, if_pos rfl, h3]
        have := rd81 (L := e :: l) (k := 0) (by simp)
        rw [this]; rfl
      · have hB : findB k (e :: l) = false := by unfold findB; rw [h3]; simp [he]
        have hk : ltK k e.f0 := by
          rcases ltK_total e.f0 k with q | q | q
          · exact absurd q hlt
          · exact absurd q he
          · exact q
        rw [rlk, if_neg he, hB, rlk_above (fun x hx => ltK_trans hk (h2.1 x hx))]
        rfl
def rset (k : S34) (own : List S56) : RL → RL
  | [] => if own = [] then [] else [⟨k, own⟩]
  | e :: l => if ltK e.f0 k then e :: rset k own l else (if own = [] then [] else [⟨k, own⟩]) ++ (if e.f0 = k then l else e :: l)
theorem rset_of (k : S34) (own : List S56) : ∀ L : RL, L.take (findN k L) ++ (if own = [] then [] else [⟨k, own⟩]) ++ L.drop (findN k L + if findB k L then 1 else 0) = rset k own L
  | [] => by unfold rset; simp [findN, findB]
  | e :: l => by
    by_cases hlt : ltK e.f0 k
    · have h3 : findN k (e :: l) = findN k l + 1 := by rw [findN, if_pos hlt]
      have hB : findB k (e :: l) = findB k l := by unfold findB; rw [h3]; simp
      rw [rset, if_pos hlt, h3, hB, ← rset_of k own l, show findN k l + 1 + (if findB k l then 1 else 0) = (findN k l + if findB k l then 1 else 0) + 1 by omega]
      simp
    · have h3 : findN k (e :: l) = 0 := by rw [findN, if_neg hlt]
      have hB : findB k (e :: l) = decide (e.f0 = k) := by unfold findB; rw [h3]; simp
      rw [rset, if_neg hlt, h3, hB]
      by_cases he : e.f0 = k <;> simp [he]
theorem rset_keys (k : S34) (own : List S56) (x : S34) : ∀ L : RL, x ∈ (rset k own L).map (·.f0) → x = k ∨ x ∈ L.map (·.f0)
  | [], h => by unfold rset at h; split at h <;> simp at h; exact .inl h
  | e :: l, h => by
    unfold rset at h
    split at h
    · rw [List.map_cons, List.mem_cons] at h
      rcases h with h | h
      · right; simp [h]
      · rcases rset_keys k own x l h with h | h
        · exact .inl h
        · right; simp only [List.map_cons, List.mem_cons]; exact .inr h
    · rw [List.map_append, List.mem_append] at h
      rcases h with h | h
      · left; split at h <;> simp at h; exact h
      · right; split at h
        · simp only [List.map_cons, List.mem_cons]; exact .inr h
        · exact h
theorem rset_sorted (k : S34) (own : List S56) : ∀ L : RL, RSorted L → RSorted (rset k own L)
  | [], _ => by unfold RSorted rset; split <;> simp
  | e :: l, h => by
    unfold RSorted at h
    rw [List.map_cons, List.pairwise_cons] at h
    unfold rset
    split
    · rename_i hlt
      unfold RSorted
      rw [List.map_cons, List.pairwise_cons]
      refine ⟨fun x hx => ?_, rset_sorted k own l h.2⟩
      rcases rset_keys k own x l hx with rfl | hx
      · exact hlt
      · exact h.1 x hx
    · rename_i hlt
      have hrest : ∀ x, x ∈ (if e.f0 = k then l else e :: l).map (·.f0) → ltK k x := fun x hx => by
        split at hx
        · rename_i he; rw [← he]; exact h.1 x hx
        · rename_i he
          have hk : ltK k e.f0 := by
            rcases ltK_total e.f0 k with q | q | q
            · exact absurd q hlt
            · exact absurd q he
            · exact q
          rw [List.map_cons, List.mem_cons] at hx
          rcases hx with rfl | hx
          · exact hk
          · exact ltK_trans hk (h.1 x hx)
      have hso : RSorted (if e.f0 = k then l else e :: l) := by
        split
        · exact h.2
        · unfold RSorted; rw [List.map_cons, List.pairwise_cons]; exact h
      unfold RSorted at hso ⊢
      split
      · simpa using hso
      · rw [List.map_append, List.map_cons, List.map_nil, List.singleton_append, List.pairwise_cons]
        exact ⟨hrest, hso⟩
theorem rlk_rset (k : S34) (own : List S56) (x : S34) : ∀ L : RL, RSorted L → rlk x (rset k own L) = if x = k then (if own = [] then none else some own) else rlk x L
  | [], _ => by
    unfold rset
    by_cases ho : own = []
    · simp [ho, rlk]
    · by_cases hx : x = k
      · subst hx; simp [ho, rlk]
      · have hxk : ¬ k = x := fun e => hx e.symm
        rw [if_neg ho, if_neg hx]; simp [rlk, hxk]
  | e :: l, h => by
    have h2 := h
    unfold RSorted at h2
    rw [List.map_cons, List.pairwise_cons] at h2
    unfold rset
    by_cases hlt : ltK e.f0 k
    · rw [if_pos hlt]
      have hne : ¬ e.f0 = k := fun he => ltK_irrefl k (by rwa [he] at hlt)
      simp only [rlk]
      rw [rlk_rset k own x l h2.2]
      by_cases hx : x = k
      · subst hx; rw [if_neg hne, if_pos rfl, if_pos rfl]
      · by_cases hxe : e.f0 = x
        · rw [if_pos hxe, if_neg hx, if_pos hxe]
        · rw [if_neg hxe, if_neg hx, if_neg hx, if_neg hxe]
    · rw [if_neg hlt]
      have hrest : rlk x (if e.f0 = k then l else e :: l) = if x = k then none else rlk x (e :: l) := by
        by_cases he : e.f0 = k
        · rw [if_pos he]
          by_cases hx : x = k
          · rw [if_pos hx, rlk_above (fun y hy => by rw [hx, ← he]; exact h2.1 y hy)]
          · rw [if_neg hx, rlk, if_neg (fun e1 => hx (e1.symm.trans he))]
        · rw [if_neg he]
          by_cases hx : x = k
          · have hk : ltK k e.f0 := by
              rcases ltK_total e.f0 k with q | q | q
              · exact absurd q hlt
              · exact absurd q he
              · exact q
            rw [if_pos hx, hx]
            exact rlk_above (fun y hy => by
              rw [List.map_cons, List.mem_cons] at hy
              rcases hy with rfl | hy
              · exact hk
              · exact ltK_trans hk (h2.1 y hy))
          · rw [if_neg hx]
      by_cases ho : own = []
      · rw [if_pos ho, List.nil_append, hrest, if_pos ho]
      · rw [if_neg ho, List.singleton_append, rlk]
        by_cases hx : x = k
        · simp [hx, ho]
        · rw [if_neg (fun e => hx e.symm), hrest, if_neg hx, if_neg hx]
theorem rlk_mem (k : S34) : ∀ L : RL, (rlk k L).isSome = true ↔ k ∈ L.map (·.f0)
  | [] => by simp [rlk]
  | e :: l => by
    unfold rlk
    by_cases h : e.f0 = k
    · simp [h]
    · rw [if_neg h, rlk_mem k l]; simp; exact fun e1 => absurd e1.symm h
structure Rel (G : GL) (L : RL) : Prop where
  nodup : (G.map (·.1)).Nodup
  sorted : RSorted L
  look : ∀ k, gget k G = (rlk k L).map (·.map toD)
  full : ∀ k own, rlk k L = some own → own ≠ [] ∧ own.length ≤ 1024
theorem Rel.empty : Rel [] [] := ⟨List.nodup_nil, List.Pairwise.nil, fun _ => rfl, fun _ _ h => by cases h⟩
theorem canonE_nil {l : List S56} : canonE l = [] ↔ l = [] := by
  constructor
  · intro h
    cases l with
    | nil => rfl
    | cons x l =>
      have h1 : toD x ∈ canon ((x :: l).map toD) := (canon_mem _ _).2 (by simp)
      rw [← canonE_map, h] at h1
      cases h1
  · rintro rfl; rfl
theorem setE_len {k : S34} {l : List S51} (h : setE k l = 0) : l.length ≤ 1024 := by
  unfold setE at h
  split at h
  · split at h
    · cases h
    · omega
  · cases h
theorem Rel.set {G : GL} {L : RL} (h : Rel G L) (k : S34) (l : List S56) : Rel (setG k (l.map toD) G) (refSetL k l L) := by
  unfold setG refSetL
  by_cases he : setE k (l.map toD) = 0
  · rw [if_pos he, if_pos he, rset_of]
    have hlen := setE_len he
    refine ⟨?_, rset_sorted _ _ _ h.sorted, fun x => ?_, fun x own hx => ?_⟩
    · split
      · exact h.nodup.sublist (gdel_sub _ _)
      · rw [gput_keys]
        split
        · exact h.nodup
        · rename_i hk
          rw [List.nodup_append]
          refine ⟨h.nodup, by simp, fun a ha b hb => ?_⟩
          simp at hb; subst hb
          exact fun e => hk (e ▸ ha)
    · rw [rlk_rset _ _ _ _ h.sorted]
      by_cases hl : l = []
      · subst hl
        have hc : canonE [] = [] := rfl
        rw [List.map_nil, if_pos rfl, gget_gdel _ _ _ h.nodup, hc, if_pos rfl, h.look x]
        split <;> rfl
      · have hc : canonE l ≠ [] := fun e => hl (canonE_nil.1 e)
        rw [if_neg (by simpa using hl), gget_gput, if_neg hc, h.look x]
        split
        · simp [canonE_map]
        · rfl
    · rw [rlk_rset _ _ _ _ h.sorted] at hx
      split at hx
      · split at hx
        · cases hx
        · rename_i hne
          injection hx with hx
          subst hx
          refine ⟨hne, ?_⟩
          have := canonE_length l
          simp at hlen
          omega
      · exact h.full x own hx
  · rw [if_neg he, if_neg he]; exact h
theorem rset_length (k : S34) (own : List S56) : ∀ L : RL, (rset k own L).length ≤ L.length + 1
  | [] => by unfold rset; split <;> simp
  | e :: l => by
    unfold rset
    split
    · have := rset_length k own l; simp; omega
    · rw [List.length_append]
      split <;> split <;> simp <;> omega
theorem refSetL_length (k : S34) (l : List S56) (L : RL) : (refSetL k l L).length ≤ L.length + 1 := by
  unfold refSetL
  split
  · rw [rset_of]; exact rset_length _ _ _
  · omega
theorem Rel.keys {G : GL} {L : RL} (h : Rel G L) : L.map (·.f0) = sk G := by
  refine strK_unique h.sorted (skL_str _) (fun x => ?_)
  rw [sk_mem, ← gget_mem, h.look, ← rlk_mem]
  simp
theorem Rel.length {G : GL} {L : RL} (h : Rel G L) : L.length = G.length := by
  have := congrArg List.length h.keys
  rw [sk_length h.nodup] at this
  simpa using this
theorem Rel.find {G : GL} {L : RL} (h : Rel G L) (k : S34) : (gget k G).isSome = findB k L := by
  rw [h.look, rlk_of k L h.sorted]
  cases findB k L <;> rfl
theorem Rel.of {G : GL} {L : RL} (h : Rel G L) (k : S34) : (gget k G).getD [] = (rget k L).map toD := by
  rw [h.look, rlk_of k L h.sorted]
  cases hb : findB k L with
  | true => rfl
  | false => simp [rget, hb]
theorem Rel.at {G : GL} {L : RL} (h : Rel G L) (e : S81) (he : e ∈ L) : gget e.f0 G = some (e.f1.map toD) := by
  rw [h.look]
  have hs := h.sorted
  clear h
  induction L with
  | nil => cases he
  | cons x l ih =>
    unfold RSorted at hs
    rw [List.map_cons, List.pairwise_cons] at hs
    rcases List.mem_cons.1 he with rfl | he
    · simp [rlk]
    · rw [rlk, if_neg, ih he hs.2]
      intro e1
      have := hs.1 e.f0 (List.mem_map.2 ⟨e, he, rfl⟩)
      rw [e1] at this
      exact ltK_irrefl _ this
theorem Rel.small {G : GL} {L : RL} (h : Rel G L) (k : S34) : ((gget k G).getD []).length ≤ 1024 := by
  rw [h.look]
  cases hl : rlk k L with
  | none => simp
  | some own => simpa using (h.full k own hl).2
def rFree (L : RL) (out : List S34) (own : List S56) : Bool := own.all fun d => !(decide (d.f0 = 3) && findB d.f2 L && !out.contains d.f2)
def rStep (L : RL) (out : List S34) : Option S81 := L.find? fun e => !out.contains e.f0 && rFree L out e.f1
def rOrd (L : RL) : Nat → List S34 → Option (List S34)
  | 0, _ => none
  | f + 1, out => if out.length < L.length then (rStep L out).bind fun e => rOrd L f (out ++ [e.f0]) else some out
theorem need_zero {G : GL} {L : RL} (h : Rel G L) (out : List S34) (e : S81) (he : e ∈ L) : decide (need G out e.f0 = 0) = rFree L out e.f1 := by
  rw [Bool.eq_iff_iff, decide_eq_true_eq]
  unfold need rFree eds
  rw [h.at e he, Option.getD_some, List.length_eq_zero_iff, List.filter_eq_nil_iff, List.all_eq_true]
  constructor
  · intro h1 d hd
    have := h1 d.f2
    simp only [List.mem_map, List.mem_filter, isE, Bool.and_eq_true, decide_eq_true_eq, forall_exists_index, and_imp] at this
    have h2 := fun a b => this (toD d) d hd rfl a b rfl
    rw [h.find] at h2
    simp only [toD, decide_not, Bool.not_eq_eq_eq_not, Bool.not_true, Bool.not_false, decide_eq_false_iff_not, Bool.and_eq_false_iff] at h2 ⊢
    by_cases hb : findB d.f2 L = true
    · by_cases h3 : d.f0 = 3
      · have := h2 hb h3
        right
        simpa using this
      · left; left; exact h3
    · left; right; simpa using hb
  · intro h1 x hx
    simp only [List.mem_map, List.mem_filter, isE, Bool.and_eq_true, decide_eq_true_eq] at hx
    obtain ⟨d', ⟨⟨d, hd, rfl⟩, h4, h5⟩, rfl⟩ := hx
    have h2 := h1 d hd
    rw [h.find] at h4
    simp only [toD] at h4 h5 ⊢
    simp [h4, h5] at h2
    simp [h2]
theorem find_map {α β : Type} (f : α → β) (p : β → Bool) : ∀ l : List α, (l.map f).find? p = (l.find? (fun a => p (f a))).map f
  | [] => rfl
  | a :: l => by
    rw [List.map_cons]
    cases h : p (f a) with
    | true => rw [List.find?_cons_of_pos h, List.find?_cons_of_pos (by simpa using h)]; rfl
    | false => rw [List.find?_cons_of_neg (by simp [h]), List.find?_cons_of_neg (by simp [h]), find_map f p l]
theorem find_congr {α : Type} {p q : α → Bool} : ∀ {l : List α}, (∀ a ∈ l, p a = q a) → l.find? p = l.find? q
  | [], _ => rfl
  | a :: l, h => by
    have h1 := h a (by simp)
    have ih := find_congr (l := l) (fun b hb => h b (by simp [hb]))
    rw [List.find?_cons, List.find?_cons, h1, ih]
theorem step_eq {G : GL} {L : RL} (h : Rel G L) (out : List S34) : gStep G (sk G) out = (rStep L out).map (·.f0) := by
  unfold gStep rStep
  rw [← h.keys, find_map]
  congr 1
  refine find_congr (fun e he => ?_)
  rw [need_zero h out e he]
  by_cases hm : e.f0 ∈ out <;> simp [hm]
theorem rStep_some {L : RL} {out : List S34} {e : S81} (h : rStep L out = some e) : e ∈ L ∧ e.f0 ∉ out := by
  unfold rStep at h
  have h1 := List.mem_of_find?_eq_some h
  have h2 := List.find?_some h
  simp only [Bool.and_eq_true, Bool.not_eq_true', List.contains_eq_mem, decide_eq_false_iff_not] at h2
  exact ⟨h1, h2.1⟩
theorem ord_eq {G : GL} {L : RL} (h : Rel G L) : ∀ (f : Nat) (out : List S34), out.length + f = G.length + 1 → out.Nodup → (∀ x ∈ out, x ∈ sk G) →
    rOrd L f out = if (gOrd G (sk G) f out).length < G.length then none else some (gOrd G (sk G) f out) := by
  have hll := h.length
  have hsk := sk_length h.nodup
  intro f
  induction f with
  | zero => intro out h1 h2 h3; have := nodup_le h2 h3; omega
  | succ f ih =>
    intro out h1 h2 h3
    have hle := nodup_le h2 h3
    unfold rOrd gOrd
    rw [step_eq h]
    cases hs : rStep L out with
    | none =>
      simp only [Option.map_none, Option.bind_none]
      rw [hll]
    | some e =>
      simp only [Option.map_some, Option.bind_some]
      obtain ⟨e1, e2⟩ := rStep_some hs
      have hek : e.f0 ∈ sk G := by rw [← h.keys]; exact List.mem_map.2 ⟨e, e1, rfl⟩
      have hn2 : (out ++ [e.f0]).Nodup := by
        rw [List.nodup_append]
        exact ⟨h2, by simp, fun a ha b hb => by simp at hb; subst hb; exact fun q => e2 (by rw [← q]; exact ha)⟩
      have hs2 : ∀ x ∈ out ++ [e.f0], x ∈ sk G := fun x hx => by
        rcases List.mem_append.1 hx with hx | hx
        · exact h3 x hx
        · simp at hx; subst hx; exact hek
      have := nodup_le hn2 hs2
      simp at this
      rw [if_pos (by omega)]
      exact ih (out ++ [e.f0]) (by simp; omega) hn2 hs2
theorem rOrd_eq {G : GL} {L : RL} (h : Rel G L) : rOrd L (L.length + 1) [] = if (ordG G).length < G.length then none else some (ordG G) := by
  rw [h.length]; exact ord_eq h _ _ (by simp) List.nodup_nil (by simp)
end Go.Proofs.Ytokambhemoeloaa.G
end
section
namespace Go.Proofs.Ytokambhemoeloaa.G
open Go.RowKit Go.Proofs.YtokambhemoeloaaW.PrintWords Go.Proofs.YtokambhemoeloaaW.PrintLast Go.Proofs.YtokambhemoeloaaW.PrintMore Go.Proofs.Ytokambhemoeloaa.PA
set_option linter.unusedVariables false
set_option linter.unusedSimpArgs false
structure GOk (G : GL) : Prop where
  nodup : (G.map (·.1)).Nodup
  small : ∀ k, ((gget k G).getD []).length ≤ 1024
  few : G.length < 100000
def ordE (G : GL) : Int := if (ordG G).length < G.length then 25 else 0
def ordL (G : GL) : List S34 := if (ordG G).length < G.length then [] else ordG G
theorem OrderG_calls (w : World) (gb mb : Nat) (G : GL) (h : GAt w gb mb G) (hk : GOk G) :
    Calls Try.prog 12 #[.pointer (some ⟨gb, 0, none⟩)] w fun e w' => ∃ v, e = .returned (.tuple #[v, .int .i64 (ordE G)]) ∧ Kd.R k34 34 w' w.heap.size (fun _ => True) v (ordL G) ∧ Below w.heap.size w w' :=
  Order_calls w gb mb G h (by have := hk.few; omega) (G.length + 1) (ordG G) (fun ks h1 h2 => ordP_some hk.nodup 1024 hk.small hk.few (by omega) (by have := hk.few; omega) ks h1 h2)
theorem gOrd_sub (G : GL) (ks : List S34) : ∀ (f : Nat) (out : List S34), out.Nodup → (∀ x ∈ out, x ∈ ks) → (gOrd G ks f out).Nodup ∧ ∀ x ∈ gOrd G ks f out, x ∈ ks
  | 0, out, h1, h2 => ⟨h1, h2⟩
  | f + 1, out, h1, h2 => by
    rw [gOrd]
    cases hs : gStep G ks out with
    | none => exact ⟨h1, h2⟩
    | some u =>
      have h3 := List.mem_of_find?_eq_some hs
      have h4 := List.find?_some hs
      simp only [Bool.and_eq_true, decide_eq_true_eq] at h4
      refine gOrd_sub G ks f (out ++ [u]) ?_ ?_
      · rw [List.nodup_append]
        exact ⟨h1, by simp, fun a ha b hb => by simp at hb; subst hb; exact fun q => h4.1 (by rw [← q]; exact ha)⟩
      · intro x hx
        rcases List.mem_append.1 hx with hx | hx
        · exact h2 x hx
        · simp at hx; subst hx; exact h3
theorem ordL_length {G : GL} (hn : (G.map (·.1)).Nodup) : (ordL G).length ≤ G.length := by
  unfold ordL
  split
  · simp
  · have h := gOrd_sub G (sk G) (G.length + 1) [] List.nodup_nil (by simp)
    have := nodup_le h.1 h.2
    rw [sk_length hn] at this
    exact this
end Go.Proofs.Ytokambhemoeloaa.G
end
section
namespace Go.Proofs.Ytokambhemoeloaa.G
open Go.RowKit Go.Proofs.YtokambhemoeloaaW.PrintWords Go.Proofs.YtokambhemoeloaaW.PrintLast Go.Proofs.YtokambhemoeloaaW.PrintMore Go.Proofs.Ytokambhemoeloaa.PA
open Go.Proofs.Ytokambhemoeloaa.Mp Go.Proofs.Ytokambhemoeloaa.Reg
set_option linter.unusedVariables false
set_option linter.unusedSimpArgs false
def MapP {κ : Type} [DecidableEq κ] (enc : κ → Value) (w : World) (b : Nat) (P : κ → Bool) : Prop := ∃ l, MapAt enc w b l ∧ ∀ x, (lget x l).getD (.bool false) = .bool (P x)
section
variable {κ : Type} [DecidableEq κ] {enc : κ → Value} {w w1 : World} {b : Nat} {P : κ → Bool}
theorem lget_lput' (x y : κ) (v : Value) : ∀ l : List (κ × Value), lget y (lput x v l) = if y = x then some v else lget y l
  | [] => by by_cases h : y = x <;> simp [lget, lput, h]
  | p :: l => by
    unfold lput
    by_cases h1 : x = p.1
    · rw [if_pos h1]
      unfold lget
      by_cases h : y = x
      · simp [h]
      · rw [if_neg h, if_neg h, if_neg (fun e => h (e.trans h1.symm))]
    · rw [if_neg h1]
      unfold lget
      rw [lget_lput' x y v l]
      by_cases h : y = x
      · subst h; rw [if_neg h1]; simp
      · simp [h]
theorem MapP.move (h : MapP enc w b P) (hb : w1.heap[b]? = w.heap[b]?) : MapP enc w1 b P := by
  obtain ⟨l, h1, h2⟩ := h
  exact ⟨l, h1.move hb, h2⟩
theorem MapP.lt (h : MapP enc w b P) : b < w.heap.size := by
  obtain ⟨l, h1, h2⟩ := h; exact h1.lt
theorem MapP.below (h : MapP enc w b P) (hb : Below w.heap.size w w1) : MapP enc w1 b P := h.move (hb.block b h.lt)
theorem MapP.made (w : World) : MapP enc (w.alloc (.map #[] 0)) w.heap.size (fun _ => false) := ⟨[], MapAt.made _ _, fun x => rfl⟩
theorem MapP.look {T kt et : Nat} (h : MapP enc w b P) (K : KeyC Try.prog kt enc) (hT : Try.prog.underlying T = some (.map kt et)) (hz : ∀ w, (zeroValue et).run Try.prog w = .ok (.bool false) w) (x : κ) :
    (Instr.lookup T (.map (some b)) (enc x) false).run Try.prog w = .ok (.bool (P x)) w := by
  obtain ⟨l, h1, h2⟩ := h
  rw [run_lookup K hT h1 x _ hz false, ← h2]; rfl
theorem MapP.put {T kt et : Nat} (h : MapP enc w b P) (K : KeyC Try.prog kt enc) (hT : Try.prog.underlying T = some (.map kt et)) (x : κ) :
    ∃ w1, (Instr.mapUpdate T (.map (some b)) (enc x) (.bool true)).run Try.prog w = .ok () w1 ∧ MapP enc w1 b (fun y => decide (y = x) || P y) ∧ w.grownBy w1 (some b) ∧ w1.heap.size = w.heap.size := by
  obtain ⟨l, h1, h2⟩ := h
  obtain ⟨w1, k1, k2, k3, k4⟩ := run_update K hT h1 x (.bool true)
  refine ⟨w1, k1, ⟨_, k2, fun y => ?_⟩, k3, k4⟩
  rw [lget_lput']
  by_cases hy : y = x
  · simp [hy]
  · rw [if_neg hy, h2 y]; simp [hy]
end
theorem eg47 (args : Array Value) (w : World) : (callFunc 47 args).run Try.prog w = .ok (.enter 47 args) w := by
  unfold callFunc; simp [Try.func47, show Try.f47.name ≠ "runtime.NumGoroutine" by decide, show Try.f47.body ≠ none from fun h => by cases h]
def pdc (P : S51 → Bool) (Q : S34 → Bool) (d : S51) : Bool := P d || (decide (d.f0 = 3) && Q d.f2)
set_option maxHeartbeats 8000000 in
set_option maxRecDepth 100000 in
theorem conc_calls (W : World) (x : S51) (cp cm ap am : Nat) (P : S51 → Bool) (Q : S34 → Bool) (hc : W.heap[cp]? = some (.cells #[.map (some cm)] 89 (0, 0))) (ha : W.heap[ap]? = some (.cells #[.map (some am)] 90 (0, 0))) (hP : MapP encD W cm P) (hQ : MapP encK W am Q) :
    Calls Try.prog 47 (#[encD x] ++ #[.pointer (some ⟨cp, 0, none⟩), .pointer (some ⟨ap, 0, none⟩)]) W fun e w' => e = .returned (.bool (pdc P Q x)) ∧ Below W.heap.size W w' := by
  show Calls Try.prog 47 #[.agg #[.int .i64 x.f0, .int .i64 x.f1, .int .i64 x.f2.f0, .int .i64 x.f2.f1, .int .i64 x.f2.f2], .pointer (some ⟨cp, 0, none⟩), .pointer (some ⟨ap, 0, none⟩)] W _
  obtain ⟨W1, hW1⟩ : ∃ W1, W1 = W.alloc (.cells #[.int .i64 x.f0, .int .i64 x.f1, .int .i64 x.f2.f0, .int .i64 x.f2.f1, .int .i64 x.f2.f2] 51) := ⟨_, rfl⟩
  have hB : Below W.heap.size W W1 := by rw [hW1]; exact (by repeat (first | exact Below.refl _ _ | assumption | with_reducible apply below_alloc | with_reducible apply pw_below_drewN | with_reducible apply below_drew))
  have L0 := (hP.below hB).look keyD Try.underlying89 Try.zeroValue4 x
  have L1 := (hQ.below hB).look keyK Try.underlying90 Try.zeroValue4 x.f2
  rw [hW1] at L0 L1
  have c0 : W.cell? ⟨cp, 0, none⟩ = some (.map (some cm)) := (blk_cell hc 0).trans rfl
  have c1 : W.cell? ⟨ap, 0, none⟩ = some (.map (some am)) := (blk_cell ha 0).trans rfl
  have hcl := blk_lt hc
  have hal := blk_lt ha
  have hne1 : cp ≠ W.heap.size := by omega
  have hne2 : ap ≠ W.heap.size := by omega
  rw [hW1] at hB
  have hr : Hid (pdc P Q x = (P x || (decide (x.f0 = 3) && Q x.f2))) := rfl
  unfold encD at L0
  unfold encK at L1
  clear hW1 hP hQ hc ha
  generalize P x = p at *
  generalize Q x.f2 = q at *
  obtain ⟨x0, x1, x2⟩ := x
  simp only at L0 L1 hB hr
  by_cases h3 : x0 = 3
  · subst h3
    cases p <;> cases q
    all_goals
      go_enter Try.func47, Try.ntmps47
      go_wp2
      go_ret
      exact ⟨by rw [hr.out]; rfl, hB⟩
  · cases p <;> cases q
    all_goals
      go_enter Try.func47, Try.ntmps47
      go_wp2
      go_ret
      exact ⟨by rw [hr.out]; simp [h3], hB⟩
def pAffL (G : GL) (l : List S51) (ord out : List S34) : List S34 := ord.foldl (fun out k => if ((gget k G).getD []).any (pdc l.contains out.contains) then out ++ [k] else out) out
def pAff (G : GL) (l : List S51) : List S34 × Int := if l.all validD then (if ordE G = 0 then (pAffL G l (ordL G) [], 0) else ([], 25)) else ([], 1)
def PAffPost (w : World) (r : List S34 × Int) (e : Ending) (w' : World) : Prop := ∃ v, e = .returned (.tuple #[v, .int .i64 r.2]) ∧ Kd.R k34 34 w' w.heap.size (fun _ => True) v r.1 ∧ Below w.heap.size w w'
theorem ordE_cases (G : GL) : ordE G = 0 ∨ ordE G = 25 := by unfold ordE; split <;> simp
theorem contD_take (l : List S51) (d : S51) (j : Nat) (hj : j < l.length) : (l.take (j + 1)).contains d = (decide (d = l[j]) || (l.take j).contains d) := by
  rw [List.take_succ_eq_append_getElem hj]
  simp only [List.contains_eq_mem]
  rw [Bool.eq_iff_iff]
  simp only [Bool.or_eq_true, decide_eq_true_eq, List.mem_append, List.mem_singleton]
  exact Or.comm
theorem contK_snoc (l : List S34) (k x : S34) : (l ++ [k]).contains x = (decide (x = k) || l.contains x) := by
  simp only [List.contains_eq_mem]
  rw [Bool.eq_iff_iff]
  simp only [Bool.or_eq_true, decide_eq_true_eq, List.mem_append, List.mem_singleton]
  exact Or.comm
set_option maxHeartbeats 8000000 in
set_option maxRecDepth 100000 in
theorem Affected_calls (w : World) (gb mb : Nat) (G : GL) (v : Value) (l : List S51) (h : GAt w gb mb G) (hk : GOk G) (hr : Row w v l) :
    Calls Try.prog 25 #[.pointer (some ⟨gb, 0, none⟩), v] w (PAffPost w (pAff G l)) := by
  obtain ⟨A, c, rfl, hc, hC⟩ := hr
  have hmax := hC.2.1
  obtain ⟨r, hr⟩ : ∃ r, r = pAff G l := ⟨_, rfl⟩
  rw [← hr]
  have hrh := Lib.hid hr
  have hh := Lib.hid h
  clear hr h
  have hmm := @run_makeMap Try.prog
  go_enter Try.func25, Try.ntmps25
  go_wp2
  obtain ⟨w0, hw0⟩ : ∃ w0, w0 = (w.alloc (.map #[] 0)).alloc (.cells #[.map (some w.heap.size)] 89) := ⟨_, rfl⟩
  have hB0 : Below w.heap.size w w0 := by rw [hw0]; exact (by repeat (first | exact Below.refl _ _ | assumption | with_reducible apply below_alloc | with_reducible apply pw_below_drewN | with_reducible apply below_drew))
  have hM0 : MapP encD w0 w.heap.size (fun _ => false) := by rw [hw0]; exact (MapP.made w).below (by repeat (first | exact Below.refl _ _ | assumption | with_reducible apply below_alloc | with_reducible apply pw_below_drewN | with_reducible apply below_drew))
  have hb0 : w0.heap[w.heap.size + 1]? = some (.cells #[.map (some w.heap.size)] 89 (0, 0)) := by
    rw [hw0]
    have := blk_new (w.alloc (.map #[] 0)) (.cells #[.map (some w.heap.size)] 89)
    simpa using this
  rw [← hw0]
  clear hw0 hmm
  go_loopg [19] l.length (fun g s19 wr => ∃ (i : Nat), s19 = .int .i64 i ∧ i ≤ l.length ∧ l.length - i ≤ g ∧ Hid (∀ d ∈ l.take i, validD d = true) ∧ Below w.heap.size w wr ∧ MapP encD wr w.heap.size (l.take i).contains ∧ wr.heap[w.heap.size + 1]? = some (.cells #[.map (some w.heap.size)] 89 (0, 0)))
  case atStart => exact ⟨0, rfl, Nat.zero_le _, by omega, fun d hd => by simp at hd, hB0, hM0, hb0⟩
  case round =>
    clear hB0 hM0 hb0
    obtain ⟨i, rfl, hi, hg, hv, hB, hM, hb⟩ := hrel
    by_cases hil : i < l.length
    · obtain ⟨ad, rfl, a0, a1, a2, a3, a4⟩ := at_T51 (Kd.C_below hC hB) i (by omega) (by omega)
      simp only [Int.toNat_natCast] at a0 a1 a2 a3 a4
      rw [rd51 hil] at a0 a1 a2 a3 a4
      have hsn := Lib.hid (List.take_succ_eq_append_getElem hil)
      have hct := Lib.hid (fun d => contD_take l d i hil)
      have hmem : Hid (l[i] ∈ l) := List.getElem_mem hil
      generalize l[i] = d at *
      have hV := fun W => valid_calls d W
      unfold encD at hV
      have hlk : (i : Int) < (l.length : Int) := by omega
      cases hvd : validD d
      · rw [hvd] at hV
        have hvh := Lib.hid hvd
        clear hvd
        have hfin := Lib.hid (And.intro hM hb)
        clear hM hb
        go_wp2_with (go_at_call 34; refine (hV _).mono ?_; rintro e w1 ⟨rfl, hB1⟩)
        go_ret2
        have hra : r = ([], 1) := by
          rw [hrh.out, pAff, if_neg]
          intro hall
          have := List.all_eq_true.1 hall d hmem.out
          rw [hvh.out] at this; cases this
        have hBz : Below w.heap.size w (wr.alloc (.cells #[.int .i64 d.f0, .int .i64 d.f1, .int .i64 d.f2.f0, .int .i64 d.f2.f1, .int .i64 d.f2.f2] 51)) := (by repeat (first | exact Below.refl _ _ | assumption | with_reducible apply below_alloc | with_reducible apply pw_below_drewN | with_reducible apply below_drew))
        exact ⟨_, by rw [hra]; rfl, by rw [hra]; exact Kd.R_nil _ _ _ _ _, below_then hBz hBz.size hB1⟩
      · rw [hvd] at hV
        have hvh := Lib.hid hvd
        clear hvd
        have hfin := Lib.hid (And.intro hM hb)
        clear hM hb
        go_wp2_with fail
        refine (hV _).mono ?_
        rintro e w1 ⟨rfl, hB1⟩
        have hBz : Below w.heap.size w (wr.alloc (.cells #[.int .i64 d.f0, .int .i64 d.f1, .int .i64 d.f2.f0, .int .i64 d.f2.f1, .int .i64 d.f2.f2] 51)) := (by repeat (first | exact Below.refl _ _ | assumption | with_reducible apply below_alloc | with_reducible apply pw_below_drewN | with_reducible apply below_drew))
        have hBzr : Below wr.heap.size wr (wr.alloc (.cells #[.int .i64 d.f0, .int .i64 d.f1, .int .i64 d.f2.f0, .int .i64 d.f2.f1, .int .i64 d.f2.f2] 51)) := (by repeat (first | exact Below.refl _ _ | assumption | with_reducible apply below_alloc | with_reducible apply pw_below_drewN | with_reducible apply below_drew))
        have hB2 := below_then hBz hBz.size hB1
        have hB2r := below_then hBzr hBzr.size hB1
        have hM1 := hfin.out.1.below hB2r
        have hb1 := blk_below hfin.out.2 hB2r
        have hbx := blk_below (blk_new wr (.cells #[.int .i64 d.f0, .int .i64 d.f1, .int .i64 d.f2.f0, .int .i64 d.f2.f1, .int .i64 d.f2.f2] 51)) hB1
        obtain ⟨w2, hup, hM2, hg2, hs2⟩ := hM1.put keyD Try.underlying89 d
        have b0 : w1.cell? ⟨wr.heap.size, 0, none⟩ = some (.int .i64 d.f0) := (blk_cell hbx 0).trans rfl
        have b1 : w1.cell? ⟨wr.heap.size, 1, none⟩ = some (.int .i64 d.f1) := (blk_cell hbx 1).trans rfl
        have b2 : w1.cell? ⟨wr.heap.size, 2, none⟩ = some (.int .i64 d.f2.f0) := (blk_cell hbx 2).trans rfl
        have b3 : w1.cell? ⟨wr.heap.size, 3, none⟩ = some (.int .i64 d.f2.f1) := (blk_cell hbx 3).trans rfl
        have b4 : w1.cell? ⟨wr.heap.size, 4, none⟩ = some (.int .i64 d.f2.f2) := (blk_cell hbx 4).trans rfl
        have b5 : w1.cell? ⟨w.heap.size + 1, 0, none⟩ = some (.map (some w.heap.size)) := (blk_cell hb1 0).trans rfl
        have hb2 := (hg2.block _ (blk_lt hb1) (fun e => by injection e; omega)).trans hb1
        have hB3 : Below w.heap.size w w2 := hB2.grown hg2 hB2.size (fun q hq => by injection hq with hq; omega)
        unfold encD at hup
        have hG := Lib.hid (And.intro hM2 (And.intro hb2 hB3))
        clear hM1 hb1 hbx hM2 hg2 hs2 hb2 hB2 hB2r hBz hBzr hB3 a0 a1 a2 a3 a4 hV hB1
        go_wp2
        go_roundg (l.length - (i + 1))
        case measure => omega
        case rel =>
          refine ⟨i + 1, by go_num, by omega, Nat.le_refl _, ?_, hG.out.2.2, ?_, hG.out.2.1⟩
          · show ∀ d ∈ l.take (i + 1), validD d = true
            rw [hsn.out]
            intro d' hd'
            rcases List.mem_append.1 hd' with hd' | hd'
            · exact hv.out d' hd'
            · simp at hd'; rw [hd']; exact hvh.out
          · have : (l.take (i + 1)).contains = fun y => decide (y = d) || (l.take i).contains y := funext hct.out
            rw [this]; exact hG.out.1
    · have hil2 : i = l.length := by omega
      subst hil2
      have hall : l.all validD = true := by
        rw [List.all_eq_true]
        have := hv.out
        rwa [List.take_length] at this
      rw [List.take_length] at hM
      have hO := fun W hW => OrderG_calls W gb mb G hW hk
      have hol := ordL_length hk.nodup
      have hfew := hk.few
      have hra : r = if ordE G = 0 then (pAffL G l (ordL G) [], 0) else ([], 25) := by rw [hrh.out, pAff, if_pos hall]
      have hec := ordE_cases G
      generalize ordE G = oe at *
      generalize ordL G = ord at *
      have hrah := Lib.hid hra
      clear hv hall hra hrh
      rcases hec with rfl | rfl
      · go_wp2_with fail
        refine (hO _ (hh.out.below hB)).mono ?_
        rintro e w1 ⟨v1, rfl, hR1, hB1⟩
        obtain ⟨Ao, co, rfl, hco, hCo⟩ := Kd.R_reads hR1
        have hB2 := below_then hB hB.size hB1
        have hM2 := hM.below hB1
        have hb2 := blk_below hb hB1
        clear hR1 hO hM hb
        have hmm := @run_makeMap Try.prog
        have hG := Lib.hid (And.intro hM2 hb2)
        clear hM2 hb2
        go_wp2
        obtain ⟨w3, hw3⟩ : ∃ w3, w3 = (w1.alloc (.map #[] 0)).alloc (.cells #[.map (some w1.heap.size)] 90) := ⟨_, rfl⟩
        have hB3 : Below w1.heap.size w1 w3 := by rw [hw3]; exact (by repeat (first | exact Below.refl _ _ | assumption | with_reducible apply below_alloc | with_reducible apply pw_below_drewN | with_reducible apply below_drew))
        have hM3 : MapP encK w3 w1.heap.size (fun _ => false) := by rw [hw3]; exact (MapP.made w1).below (by repeat (first | exact Below.refl _ _ | assumption | with_reducible apply below_alloc | with_reducible apply pw_below_drewN | with_reducible apply below_drew))
        have hb3 : w3.heap[w1.heap.size + 1]? = some (.cells #[.map (some w1.heap.size)] 90 (0, 0)) := by
          rw [hw3]
          have := blk_new (w1.alloc (.map #[] 0)) (.cells #[.map (some w1.heap.size)] 90)
          simpa using this
        rw [← hw3]
        clear hw3 hmm
        have hs13 : w.heap.size + 1 < w1.heap.size := blk_lt hG.out.2
        have hs33 := blk_lt hb3
        go_loopg [13, 41] ord.length (fun g s13 s41 wr => ∃ (ov : Value) (i : Nat) (out : List S34), ov = s13 ∧ s41 = .int .i64 i ∧ i ≤ ord.length ∧ ord.length - i ≤ g ∧ out.length ≤ i ∧ Hid (pAffL G l (ord.drop i) out = pAffL G l ord []) ∧ Below w1.heap.size w1 wr ∧ MapP encK wr w1.heap.size out.contains ∧ wr.heap[w1.heap.size + 1]? = some (.cells #[.map (some w1.heap.size)] 90 (0, 0)) ∧ Kd.R k34 34 wr w1.heap.size (fun q => q ≠ w1.heap.size ∧ q ≠ w1.heap.size + 1) ov out)
        case atStart => exact ⟨_, 0, [], rfl, rfl, Nat.zero_le _, by omega, Nat.le_refl _, rfl, hB3, hM3, hb3, Kd.R_nil _ _ _ _ _⟩
        case round =>
          clear hB3 hM3 hb3
          obtain ⟨ov, i, out, rfl, rfl, hi, hg, hoi, hp, hB3, hM, hb, hR⟩ := hrel
          have hB4 := below_then hB2 hB2.size hB3
          by_cases hio : i < ord.length
          · obtain ⟨ad, rfl, c0, c1, c2⟩ := at_T34 (Kd.C_below hCo hB3) i (by omega) (by omega)
            simp only [Int.toNat_natCast] at c0 c1 c2
            rw [rd34 hio] at c0 c1 c2
            have hd : ord.drop i = ord[i] :: ord.drop (i + 1) := List.drop_eq_getElem_cons hio
            rw [hd] at hp
            generalize ord[i] = k at *
            have hp2 : Hid (pAffL G l (ord.drop (i + 1)) (if ((gget k G).getD []).any (pdc l.contains out.contains) then out ++ [k] else out) = pAffL G l ord []) := hp.out
            obtain ⟨vk, hrk, hlook, _⟩ := (hh.out.below hB4).look k
            obtain ⟨Ak, ck, rfl, hck, hCk⟩ := hrk
            generalize (gget k G).getD [] = own at *
            have hmxk := hCk.2.1
            have hli : (i : Int) < (ord.length : Int) := by omega
            have hcell := (hh.out.below hB4).cell
            have hglt := hh.out.lt
            have hHd := Lib.hid (And.intro hM (And.intro hb (And.intro hR hCk)))
            clear hp hd hM hb hR hCk
            go_wp2_with fail
            obtain ⟨W7, hW7⟩ : ∃ W, W = wr.alloc (.cells #[.int .i64 k.f0, .int .i64 k.f1, .int .i64 k.f2] 34) := ⟨_, rfl⟩
            rw [← hW7]
            have hB7r : Below wr.heap.size wr W7 := by rw [hW7]; exact (by repeat (first | exact Below.refl _ _ | assumption | with_reducible apply below_alloc | with_reducible apply pw_below_drewN | with_reducible apply below_drew))
            have hbx7 : W7.heap[wr.heap.size]? = some (.cells #[.int .i64 k.f0, .int .i64 k.f1, .int .i64 k.f2] 34 (0, 0)) := by rw [hW7]; exact blk_new _ _
            have q0 := fun d os => cell_regrown (pw_cell_below hB7r hcell) d os
            have q1 := fun d os => cell_regrown (show W7.cell? ⟨wr.heap.size, 0, none⟩ = some (.int .i64 k.f0) from (blk_cell hbx7 0).trans rfl) d os
            have q2 := fun d os => cell_regrown (show W7.cell? ⟨wr.heap.size, 1, none⟩ = some (.int .i64 k.f1) from (blk_cell hbx7 1).trans rfl) d os
            have q3 := fun d os => cell_regrown (show W7.cell? ⟨wr.heap.size, 2, none⟩ = some (.int .i64 k.f2) from (blk_cell hbx7 2).trans rfl) d os
            have hmlt : mb < wr.heap.size := Nat.lt_of_lt_of_le hglt.2 hB4.size
            have q4 := fun d os => hlook (Go.Sort.grow (redrawn W7 d) os) (((below_regrown W7 d os).block mb (Nat.lt_of_lt_of_le hmlt hB7r.size)).trans (hB7r.block mb hmlt))
            unfold encK at q4
            have hM7 := hHd.out.1.below hB7r
            have hb7 := blk_below hHd.out.2.1 hB7r
            have hP7 := (hG.out.1.below hB3).below hB7r
            have hp7 := blk_below (blk_below hG.out.2 hB3) hB7r
            have hpred : PredOK 47 #[.pointer (some ⟨w.heap.size + 1, 0, none⟩), .pointer (some ⟨w1.heap.size + 1, 0, none⟩)] (pdc l.contains out.contains) W7 := fun W x hW => conc_calls W x _ _ _ _ _ _ (blk_below hp7 hW) (blk_below hb7 hW) (hP7.below hW) (hM7.below hW)
            have hcf := fun d os => ContainsFunc_calls Ak ck own (Go.Sort.grow (redrawn W7 d) os) 47 _ _ eg47 (hpred.below (below_regrown W7 d os)) (Kd.C_below (Kd.C_below hHd.out.2.2.2 hB7r) (below_regrown W7 d os))
            clear hW7 hM7 hb7 hP7 hp7 hpred c0 c1 c2 hlook
            generalize own.any (pdc l.contains out.contains) = cb at *
            refine region_below (W7) (by kernel_rfl) (by kernel_rfl) ?_; (repeat (refine WQ.step (fun K hK => ?_); go_simp; first | (refine hK _ ?_; clear hK K) | (apply Exists.intro; refine ⟨fun _ => ?_, hK _ ?_⟩; (exact Calls.regrown_of (hcf _ _)); clear hK K))); refine WQ.nil ?_; intro wq hQB
            have hBq := below_then hB7r hB7r.size hQB
            have hBw := below_then hB3 hB3.size hBq
            have hMq := hHd.out.1.below hBq
            have hbq := blk_below hHd.out.2.1 hBq
            have hRq := Kd.R_below hHd.out.2.2.1 hBq
            have hbxq := blk_below hbx7 hQB
            clear q0 q1 q2 q3 q4 hcf hbx7
            cases cb
            · have hp3 : Hid (pAffL G l (ord.drop (i + 1)) out = pAffL G l ord []) := hp2.out
              have hGz := Lib.hid (And.intro hMq (And.intro hbq hRq))
              clear hp2 hMq hbq hRq hbxq hQB
              go_wp2
              go_roundg (ord.length - (i + 1))
              case measure => omega
              case rel => exact ⟨ov, i + 1, out, rfl, by go_num, by omega, Nat.le_refl _, by omega, hp3.out, hBw, hGz.out.1, hGz.out.2.1, hGz.out.2.2⟩
            · have hp3 : Hid (pAffL G l (ord.drop (i + 1)) (out ++ [k]) = pAffL G l ord []) := hp2.out
              obtain ⟨w2, hup, hM2, hg2, hs2⟩ := hMq.put keyK Try.underlying90 k
              have b0 : wq.cell? ⟨wr.heap.size, 0, none⟩ = some (.int .i64 k.f0) := (blk_cell hbxq 0).trans rfl
              have b1 : wq.cell? ⟨wr.heap.size, 1, none⟩ = some (.int .i64 k.f1) := (blk_cell hbxq 1).trans rfl
              have b2 : wq.cell? ⟨wr.heap.size, 2, none⟩ = some (.int .i64 k.f2) := (blk_cell hbxq 2).trans rfl
              have b5 : wq.cell? ⟨w1.heap.size + 1, 0, none⟩ = some (.map (some w1.heap.size)) := (blk_cell hbq 0).trans rfl
              have hb1r := blk_lt hHd.out.2.1
              have hbx2 := (hg2.block _ (blk_lt hbxq) (fun e => by injection e; omega)).trans hbxq
              have hb2 := (hg2.block _ (blk_lt hbq) (fun e => by injection e; omega)).trans hbq
              have d0 : w2.cell? ⟨wr.heap.size, 0, none⟩ = some (.int .i64 k.f0) := (blk_cell hbx2 0).trans rfl
              have d1 : w2.cell? ⟨wr.heap.size, 1, none⟩ = some (.int .i64 k.f1) := (blk_cell hbx2 1).trans rfl
              have d2 : w2.cell? ⟨wr.heap.size, 2, none⟩ = some (.int .i64 k.f2) := (blk_cell hbx2 2).trans rfl
              have hR2 := Kd.R_grown hRq hg2 (fun q hq e => hq.1 (by injection e))
              have hB5 : Below w1.heap.size w1 w2 := hBw.grown hg2 hBw.size (fun q hq => by injection hq with hq; omega)
              have hs25 := hB5.size
              have hM2l := hM2.lt
              have hb2l := blk_lt hb2
              unfold encK at hup
              have hGz := Lib.hid (And.intro hM2 (And.intro hb2 hB5))
              clear hMq hbq hRq hbxq hQB hM2 hg2 hs2 hbx2 hb2 hp2 hB5
              go_wp2_with (at_builtin; go_must (refine Kd.R_append k34 (w0 := w2) w1.heap.size rfl (.tmp 55) (.tmp 57) 41 34 (.agg #[(.int .i64 0), (.int .i64 0), (.int .i64 0)]) 24 rfl Try.underlying41 info34 rfl ?hs0 ?hb0 ov out k [.int .i64 k.f0, .int .i64 k.f1, .int .i64 k.f2] (fun q => q ≠ w1.heap.size ∧ q ≠ w1.heap.size + 1) (fun _ => False) rfl ?hx (M34 _) (fun _ hk => hk.elim) ?h4 hR2 ?h6 ?h7 ?h8 ?_); rotate_right; intro v1 w5 ho hb hgg hat)
              case hs0 => decide
              case hb0 => omega
              case hx => go_simp
              case h4 => exact fun q hq => ⟨by omega, by omega⟩
              case h6 => exact Below.refl _ _
              case h7 => omega
              case h8 => omega
              have hown : ∀ q, ov.ownBlock = some q → q ≠ w1.heap.size ∧ q ≠ w1.heap.size + 1 := hR2.1
              have hM6 := hGz.out.1.move (hgg.block _ hM2l (fun e => (hown _ e.symm).1 rfl))
              have hb6 := (hgg.block _ hb2l (fun e => (hown _ e.symm).2 rfl)).trans hGz.out.2.1
              have hB6 : Below w1.heap.size w1 w5 := hGz.out.2.2.grown hgg hGz.out.2.2.size (fun q hq => Kd.R_base hR2 q hq)
              go_roundg (ord.length - (i + 1))
              case measure => omega
              case rel => exact ⟨v1, i + 1, out ++ [k], rfl, by go_num, by omega, Nat.le_refl _, by simp; omega, hp3.out, hB6, by rw [funext (contK_snoc out k)]; exact hM6, hb6, ho⟩
          · have hio2 : i = ord.length := by omega
            subst hio2
            have hp2 := hp.out
            rw [List.drop_length] at hp2
            have hp3 : out = pAffL G l ord [] := hp2
            have hfin : r = (out, 0) := by rw [hrah.out, hp3]; rfl
            have hfh := Lib.hid hfin
            have hRz := Lib.hid (And.intro hR (And.intro hM hb))
            clear hp hp2 hp3 hfin hrah hR hM hb
            go_wp2_with fail
            all_goals
              go_ret2
              exact ⟨_, by rw [hfh.out]; rfl, by rw [hfh.out]; exact Kd.R_mono (Kd.R_lower hRz.out.1 hB2.size) (fun _ _ => trivial), hB4⟩
      · go_wp2_with fail
        refine (hO _ (hh.out.below hB)).mono ?_
        rintro e w1 ⟨v1, rfl, hR1, hB1⟩
        go_wp2_with fail
        go_ret2
        exact ⟨_, by rw [hrah.out]; rfl, by rw [hrah.out]; exact Kd.R_nil _ _ _ _ _, below_then hB hB.size hB1⟩
end Go.Proofs.Ytokambhemoeloaa.G
end
section
namespace Go.Proofs.Ytokambhemoeloaa.PA
open Go.RowKit Go.Proofs.YtokambhemoeloaaW.PrintWords Go.Proofs.YtokambhemoeloaaW.PrintLast Go.Proofs.YtokambhemoeloaaW.PrintMore
attribute [local go_sem] max2_int min2_int max_two min_two max_three min_three max_four min_four   -- for this text's walks alone
set_option linter.unusedVariables false
set_option linter.unusedSimpArgs false
attribute [local go_sem high] eqA34
def skymosaicref32_Has.l0 : Nat → List (S34) → Int → Int → Int → Int → Option (Bool)
  | 0, _, _, _, _, _ => none
  | k + 1, x0, x5, x279000, x279001, x279002 => if x5 < (x0.length : Int) then (if 0 ≤ x5 then (if (((rd_T34 x0 x5).f0) == x279000 && (((rd_T34 x0 x5).f1) == x279001 && (((rd_T34 x0 x5).f2) == x279002))) = true then (some true) else (skymosaicref32_Has.l0 k x0 (wrap64 (x5 + 1)) x279000 x279001 x279002)) else (none)) else (some false)
def skymosaicref32_Has.f (k : Nat) (l0 : List (S34)) (a1_0 : Int) (a1_1 : Int) (a1_2 : Int) : Option (Bool) := skymosaicref32_Has.l0 k l0 0 a1_0 a1_1 a1_2
theorem skymosaicref32_Has.mono_l : ∀ k, (∀ y0 y1 y2 y3 y4, LeO (skymosaicref32_Has.l0 k y0 y1 y2 y3 y4) (skymosaicref32_Has.l0 (k + 1) y0 y1 y2 y3 y4))
  | 0 => fun _ _ _ _ _ r h => by simp [skymosaicref32_Has.l0] at h
  | k + 1 => by
    have ih0 := skymosaicref32_Has.mono_l k
    · intro y0 y1 y2 y3 y4
      unfold skymosaicref32_Has.l0
      repeat' first
      | (with_reducible exact ih0 _ _ _ _ _)
      | (with_reducible exact LeO.refl _)
      | (with_reducible exact LeO.none _)
      | (with_reducible refine LeO.ite ?_ ?_)
      | (with_reducible refine LeO.bind ?_ (fun _ => ?_))
      | exact ih0 _ _ _ _ _
      | exact LeO.none _
      | refine LeO.ite ?_ ?_
      | refine LeO.bind ?_ (fun _ => ?_)
theorem skymosaicref32_Has.mono : ∀ a0 a1 a2 a3 k, LeO (skymosaicref32_Has.f k a0 a1 a2 a3) (skymosaicref32_Has.f (k + 1) a0 a1 a2 a3) := by
  intro a0 a1 a2 a3 k
  have ih0 := skymosaicref32_Has.mono_l k
  unfold skymosaicref32_Has.f
  repeat' first
      | (with_reducible exact ih0 _ _ _ _ _)
      | (with_reducible exact LeO.refl _)
      | (with_reducible exact LeO.none _)
      | (with_reducible refine LeO.ite ?_ ?_)
      | (with_reducible refine LeO.bind ?_ (fun _ => ?_))
      | exact ih0 _ _ _ _ _
      | exact LeO.none _
      | refine LeO.ite ?_ ?_
      | refine LeO.bind ?_ (fun _ => ?_)
set_option maxHeartbeats 8000000 in
set_option maxRecDepth 100000 in
theorem skymosaicref32_Has.calls (k : Nat) (A0 : Option Addr) (c0 : Nat) (l0 : List (S34)) (a1_0 : Int) (a1_1 : Int) (a1_2 : Int) (r : Bool) (w : World) (hr0 : Kd.C k34 w A0 l0.length l0) (hc0 : l0.length ≤ c0) (h : skymosaicref32_Has.f k l0 a1_0 a1_1 a1_2 = some r) :
    Calls Try.prog 27 #[.slice A0 l0.length c0, .agg #[.int .i64 a1_0, .int .i64 a1_1, .int .i64 a1_2]] w fun e w' => e = .returned (.bool r) ∧ Below w.heap.size w w' := by
  have hu34 := Try.underlying34
  have HR0 := Aside0.mk hr0
  have HC0 := Aside0.mk hc0
  clear hr0 hc0
  have HB := Aside0.mk (Below.refl w.heap.size w)
  have H : (skymosaicref32_Has.l0 k l0 0 a1_0 a1_1 a1_2) = some r := h
  clear h
  have H' := Aside0.mk H
  clear H
  go_enter Try.func27, Try.ntmps27
  go_wp2_with (first | ((with_reducible refine gate_dst (N := 3) rfl ?_); refine box_event ?hg (N := 3) ?hd (cs := #[.int .i64 a1_0, .int .i64 a1_1, .int .i64 a1_2]) (t := 34) ?hr ?_; (case hd => rfl); (case hg => rfl); (case hr => first | (go_simp; done) | (go_simp; rfl)); intro gb278 hg w3 hbox hb; have n0_ := Aside0.mk (below_step (by repeat (first | (with_reducible first | exact HB.out | apply below_alloc | apply pw_below_drewN | apply below_drew1) | exact HB.out)) hb); have n1_ := Aside0.mk (hbox); have n2_ := Aside0.mk ((by rw [hg]; exact (below_size (by repeat (first | (with_reducible first | exact HB.out | apply below_alloc | apply pw_below_drewN | apply below_drew1) | exact HB.out))) : w.heap.size ≤ gb278)); have n3_ := Aside0.mk ((by rw [hg]; exact (below_size (by repeat (first | (with_reducible first | exact HB.out | apply below_alloc | apply pw_below_drewN | apply below_drew1) | exact HB.out))) : w.heap.size ≤ gb278)); clear HB; have HB := n0_; have BK278 := n1_; have GW278 := n2_; have GE278 := n3_; clear n0_ n1_ n2_ n3_; clear hb hbox hg))
  repeat (go_quiet (first | ((with_reducible refine gate_dst (N := 3) rfl ?_); refine box_event ?hg (N := 3) ?hd (cs := #[.int .i64 a1_0, .int .i64 a1_1, .int .i64 a1_2]) (t := 34) ?hr ?_; (case hd => rfl); (case hg => rfl); (case hr => first | (go_simp; done) | (go_simp; rfl)); intro gb278 hg w3 hbox hb; have n0_ := Aside0.mk (below_step (by repeat (first | (with_reducible first | exact HB.out | apply below_alloc | apply pw_below_drewN | apply below_drew1) | exact HB.out)) hb); have n1_ := Aside0.mk (hbox); have n2_ := Aside0.mk ((by rw [hg]; exact (below_size (by repeat (first | (with_reducible first | exact HB.out | apply below_alloc | apply pw_below_drewN | apply below_drew1) | exact HB.out))) : w.heap.size ≤ gb278)); have n3_ := Aside0.mk ((by rw [hg]; exact (below_size (by repeat (first | (with_reducible first | exact HB.out | apply below_alloc | apply pw_below_drewN | apply below_drew1) | exact HB.out))) : w.heap.size ≤ gb278)); clear HB; have HB := n0_; have BK278 := n1_; have GW278 := n2_; have GE278 := n3_; clear n0_ n1_ n2_ n3_; clear hb hbox hg)); try go_wp2_with (first | ((with_reducible refine gate_dst (N := 3) rfl ?_); refine box_event ?hg (N := 3) ?hd (cs := #[.int .i64 a1_0, .int .i64 a1_1, .int .i64 a1_2]) (t := 34) ?hr ?_; (case hd => rfl); (case hg => rfl); (case hr => first | (go_simp; done) | (go_simp; rfl)); intro gb278 hg w3 hbox hb; have n0_ := Aside0.mk (below_step (by repeat (first | (with_reducible first | exact HB.out | apply below_alloc | apply pw_below_drewN | apply below_drew1) | exact HB.out)) hb); have n1_ := Aside0.mk (hbox); have n2_ := Aside0.mk ((by rw [hg]; exact (below_size (by repeat (first | (with_reducible first | exact HB.out | apply below_alloc | apply pw_below_drewN | apply below_drew1) | exact HB.out))) : w.heap.size ≤ gb278)); have n3_ := Aside0.mk ((by rw [hg]; exact (below_size (by repeat (first | (with_reducible first | exact HB.out | apply below_alloc | apply pw_below_drewN | apply below_drew1) | exact HB.out))) : w.heap.size ≤ gb278)); clear HB; have HB := n0_; have BK278 := n1_; have GW278 := n2_; have GE278 := n3_; clear n0_ n1_ n2_ n3_; clear hb hbox hg)))
  go_loopg [5] k (fun kq v5 w' => ∃ (x5_1 : Int), v5 = .int .i64 x5_1 ∧ Aside0 (skymosaicref32_Has.l0 kq l0 x5_1 a1_0 a1_1 a1_2 = some r) ∧ Aside0 (kq ≤ k) ∧ Aside0 (w'.heap[gb278]? = some (.cells #[.int .i64 a1_0, .int .i64 a1_1, .int .i64 a1_2] 34 (0, 0))) ∧ Aside0 (Below w.heap.size w w'))
  case atStart => exact ⟨(0), (by first | rfl | (simp; done) | (simp [*]; done)), H', ⟨Nat.le_refl _⟩, ⟨by (with_reducible repeat (first | refine blk_drewN ?_ _ | refine blk_drew ?_ | refine blk_alloc ?_ _)); exact BK278.out⟩, ⟨by repeat (first | (with_reducible first | exact HB.out | apply below_alloc | apply pw_below_drewN | apply below_drew1 | refine below_set ?_ GE278.out) | exact HB.out)⟩⟩
  case round =>
    clear H'
    try clear c2
    try clear p2
    obtain ⟨x5_1, rfl, HA, HK1, BK278, HB⟩ := hrel
    cases gk with
    | zero => exact absurd HA.out (by simp [skymosaicref32_Has.l0])
    | succ k1 =>
      have H := HA.out
      clear HA
      simp only [skymosaicref32_Has.l0] at H
      by_cases c4 : x5_1 < (l0.length : Int)
      · rw [if_pos c4] at H
        have c4b0 : decide (x5_1 < (l0.length : Int)) = true := decide_eq_true c4
        clear c4
        by_cases c5 : 0 ≤ x5_1
        · rw [if_pos c5] at H
          have c5b0 : decide (0 ≤ x5_1) = true := decide_eq_true c5
          clear c5
          by_cases c6 : (((rd_T34 l0 x5_1).f0) == a1_0 && (((rd_T34 l0 x5_1).f1) == a1_1 && (((rd_T34 l0 x5_1).f2) == a1_2))) = true
          · rw [if_pos c6] at H
            have c6b0 : (((rd_T34 l0 x5_1).f0) == a1_0 && (((rd_T34 l0 x5_1).f1) == a1_1 && (((rd_T34 l0 x5_1).f2) == a1_2))) = true := c6
            (try (have c6b1 : decide (((rd_T34 l0 x5_1).f0) = a1_0 && (((rd_T34 l0 x5_1).f1) == a1_1 && (((rd_T34 l0 x5_1).f2) == a1_2))) = true := by simpa using c6))
            (try (have c6b2 : (((rd_T34 l0 x5_1).f0) == a1_0 && (((rd_T34 l0 x5_1).f1) == a1_1 && (((rd_T34 l0 x5_1).f2) == a1_2))) = true := by simpa using c6))
            clear c6
            obtain rfl := Option.some.inj H
            have p279 : 0 ≤ (x5_1 : Int) := of_decide_eq_true (by first | (with_reducible assumption) | assumption)
            have q279 : x5_1 < (l0.length : Int) := of_decide_eq_true (by first | (with_reducible assumption) | assumption)
            obtain ⟨ad279, e279, hx279_0, hx279_1, hx279_2⟩ := at_T34 HR0.out x5_1 p279 q279
            cases e279
            replace hx279_0 := (HB.out.cell (World.block_lt_of_cell? w _ hx279_0)).trans hx279_0
            replace hx279_1 := (HB.out.cell (World.block_lt_of_cell? w _ hx279_1)).trans hx279_1
            replace hx279_2 := (HB.out.cell (World.block_lt_of_cell? w _ hx279_2)).trans hx279_2
            replace p279 := eq_true p279
            replace q279 := eq_true q279
            have hcz7_0 : wr.cell? ⟨gb278, 0, none⟩ = some (.int .i64 a1_0) := (blk_cell BK278.out 0).trans rfl
            have hcz7_1 : wr.cell? ⟨gb278, 1, none⟩ = some (.int .i64 a1_1) := (blk_cell BK278.out 1).trans rfl
            have hcz7_2 : wr.cell? ⟨gb278, 2, none⟩ = some (.int .i64 a1_2) := (blk_cell BK278.out 2).trans rfl
            have hfz7_0 := blk_frozen BK278.out 0
            have hfz7_1 := blk_frozen BK278.out 1
            have hfz7_2 := blk_frozen BK278.out 2
            go_wp2
            repeat (go_quiet (fail); try go_wp2)
            go_ret
            exact ⟨by first | rfl | (simp [errW_none, errW_some] <;> rfl) | (simp [*, errW_none, errW_some] <;> rfl), by repeat (first | (with_reducible first | exact HB.out | apply below_alloc | apply pw_below_drewN | apply below_drew1 | refine below_set ?_ GE278.out) | exact HB.out)⟩
          · rw [if_neg c6] at H
            have c6b0 : (((rd_T34 l0 x5_1).f0) == a1_0 && (((rd_T34 l0 x5_1).f1) == a1_1 && (((rd_T34 l0 x5_1).f2) == a1_2))) = false := by simpa using c6
            (try (have c6b1 : decide (((rd_T34 l0 x5_1).f0) = a1_0 && (((rd_T34 l0 x5_1).f1) == a1_1 && (((rd_T34 l0 x5_1).f2) == a1_2))) = false := by simpa using c6))
            (try (have c6b2 : (((rd_T34 l0 x5_1).f0) == a1_0 && (((rd_T34 l0 x5_1).f1) == a1_1 && (((rd_T34 l0 x5_1).f2) == a1_2))) = false := by simpa using c6))
            (try (have c6b3 : ¬ (((rd_T34 l0 x5_1).f0) = a1_0 && (((rd_T34 l0 x5_1).f1) == a1_1 && (((rd_T34 l0 x5_1).f2) == a1_2))) := by simpa using c6))
            clear c6
            have H' := Aside0.mk H
            clear H
            have p279 : 0 ≤ (x5_1 : Int) := of_decide_eq_true (by first | (with_reducible assumption) | assumption)
            have q279 : x5_1 < (l0.length : Int) := of_decide_eq_true (by first | (with_reducible assumption) | assumption)
            obtain ⟨ad279, e279, hx279_0, hx279_1, hx279_2⟩ := at_T34 HR0.out x5_1 p279 q279
            cases e279
            replace hx279_0 := (HB.out.cell (World.block_lt_of_cell? w _ hx279_0)).trans hx279_0
            replace hx279_1 := (HB.out.cell (World.block_lt_of_cell? w _ hx279_1)).trans hx279_1
            replace hx279_2 := (HB.out.cell (World.block_lt_of_cell? w _ hx279_2)).trans hx279_2
            replace p279 := eq_true p279
            replace q279 := eq_true q279
            have hcz8_0 : wr.cell? ⟨gb278, 0, none⟩ = some (.int .i64 a1_0) := (blk_cell BK278.out 0).trans rfl
            have hcz8_1 : wr.cell? ⟨gb278, 1, none⟩ = some (.int .i64 a1_1) := (blk_cell BK278.out 1).trans rfl
            have hcz8_2 : wr.cell? ⟨gb278, 2, none⟩ = some (.int .i64 a1_2) := (blk_cell BK278.out 2).trans rfl
            have hfz8_0 := blk_frozen BK278.out 0
            have hfz8_1 := blk_frozen BK278.out 1
            have hfz8_2 := blk_frozen BK278.out 2
            go_wp2
            repeat (go_quiet (fail); try go_wp2)
            go_roundg k1
            case measure => have := HK1.out; omega
            case rel => exact ⟨(wrap64 (x5_1 + 1)), (by first | rfl | (simp; done) | (simp [*]; done)), H', ⟨by have := HK1.out; omega⟩, ⟨by (with_reducible repeat (first | refine blk_drewN ?_ _ | refine blk_drew ?_ | refine blk_alloc ?_ _)); exact BK278.out⟩, ⟨by repeat (first | (with_reducible first | exact HB.out | apply below_alloc | apply pw_below_drewN | apply below_drew1 | refine below_set ?_ GE278.out) | exact HB.out)⟩⟩
        · rw [if_neg c5] at H
          exact absurd H (by simp)
      · rw [if_neg c4] at H
        have c4b0 : decide (x5_1 < (l0.length : Int)) = false := decide_eq_false c4
        clear c4
        obtain rfl := Option.some.inj H
        go_wp2
        repeat (go_quiet (fail); try go_wp2)
        go_ret
        exact ⟨by first | rfl | (simp [errW_none, errW_some] <;> rfl) | (simp [*, errW_none, errW_some] <;> rfl), by repeat (first | (with_reducible first | exact HB.out | apply below_alloc | apply pw_below_drewN | apply below_drew1 | refine below_set ?_ GE278.out) | exact HB.out)⟩
end Go.Proofs.Ytokambhemoeloaa.PA
end
section
namespace Go.Proofs.Ytokambhemoeloaa.G
open Go.RowKit Go.Proofs.YtokambhemoeloaaW.PrintWords Go.Proofs.YtokambhemoeloaaW.PrintLast Go.Proofs.YtokambhemoeloaaW.PrintMore Go.Proofs.Ytokambhemoeloaa.PA
open Go.Proofs.Ytokambhemoeloaa.Reg
set_option linter.unusedVariables false
set_option linter.unusedSimpArgs false
theorem has_l0 (l : List S34) (k : S34) (hl : l.length < 1000000000) (f : Nat) : ∀ (m i : Nat), i + m = l.length → skymosaicref32_Has.l0 (f + m + 1) l i k.f0 k.f1 k.f2 = some ((l.drop i).contains k) := by
  intro m
  induction m with
  | zero =>
    intro i hi
    rw [skymosaicref32_Has.l0, if_neg (by omega), List.drop_eq_nil_of_le (by omega)]; rfl
  | succ m ih =>
    intro i hi
    rw [show f + (m + 1) + 1 = (f + m + 1) + 1 from rfl, skymosaicref32_Has.l0, if_pos (by omega), if_pos (by omega), rd34 (by omega), eq3]
    rw [List.drop_eq_getElem_cons (show i < l.length by omega), List.contains_cons]
    have hw : wrap64 ((i : Int) + 1) = ((i + 1 : Nat) : Int) := by unfold wrap64; omega
    by_cases he : l[i] = k
    · simp [he]
    · rw [if_neg (by simpa using he), hw, ih (i + 1) (by omega)]
      simp [Ne.symm he]
theorem has_f (l : List S34) (k : S34) (hl : l.length < 1000000000) : skymosaicref32_Has.f (l.length + 1) l k.f0 k.f1 k.f2 = some (l.contains k) := by
  have := has_l0 l k hl 0 l.length 0 (by omega)
  rw [Nat.zero_add] at this
  exact this
theorem has_calls (A : Option Addr) (c : Nat) (l : List S34) (k : S34) (w : World) (hC : Kd.C k34 w A l.length l) (hc : l.length ≤ c) (hl : l.length < 1000000000) :
    Calls Try.prog 27 #[.slice A l.length c, .agg #[.int .i64 k.f0, .int .i64 k.f1, .int .i64 k.f2]] w fun e w' => e = .returned (.bool (l.contains k)) ∧ Below w.heap.size w w' :=
  skymosaicref32_Has.calls _ A c l _ _ _ _ w hC hc (has_f l k hl)
end Go.Proofs.Ytokambhemoeloaa.G
end
