/- Parts of a proof about the given program: lemmas and walks, packed by wip/tools/pack.py out of this repo's texts. -/
import Derived.Test.YtokambhemoeloaaKAff1
import Derived.Lib.Overlaps
import Derived.Shelf.Spec.SlicesInsertGrow
section
namespace Go.Proofs.Ytokambhemoeloaa.G
open Go.RowKit Go.Proofs.YtokambhemoeloaaW.PrintWords Go.Proofs.YtokambhemoeloaaW.PrintLast Go.Proofs.YtokambhemoeloaaW.PrintMore Go.Proofs.Ytokambhemoeloaa.PA
open Go.Proofs.Ytokambhemoeloaa.Reg Go.Sort
set_option linter.unusedVariables false
set_option linter.unusedSimpArgs false
def posK (u : S34) : List S34 → Nat
  | [] => 0
  | x :: l => if ltK x u then posK u l + 1 else 0
theorem posK_le (u : S34) (l : List S34) : posK u l ≤ l.length := by
  induction l with
  | nil => simp [posK]
  | cons x l ih => unfold posK; split <;> simp <;> omega
theorem posK_of {u : S34} : ∀ {l : List S34} {i : Nat}, i ≤ l.length → (∀ t (h : t < i) (h2 : t < l.length), ltK l[t] u) → (∀ (h : i < l.length), ¬ ltK l[i] u) → posK u l = i
  | [], i, h, _, _ => by simp at h; subst h; rfl
  | x :: l, 0, _, _, h => by
    have := h (by simp)
    unfold posK; rw [if_neg (by simpa using this)]
  | x :: l, i + 1, h, h1, h2 => by
    have hx : ltK x u := h1 0 (by omega) (by simp)
    unfold posK
    rw [if_pos hx, posK_of (l := l) (i := i) (by simpa using h) (fun t ht ht2 => h1 (t + 1) (by omega) (by simpa using ht2)) (fun hi => h2 (by simpa using hi))]
theorem le_ltK {x y z : S34} (h : ¬ ltK y x) (k : ltK y z) : ltK x z := by unfold ltK at *; omega
theorem keys_below (x y : S34) (w : World) : Calls Try.prog 45 #[encK x, encK y] w fun e w' => e = .returned (.int .i64 (keysI x y)) ∧ Below w.heap.size w w' :=
  (keys_calls x y w).mono (fun e w' ⟨h1, q, os, h2⟩ => ⟨h1, by subst h2; exact ⟨rfl, rfl, rfl, by simp [grow], fun k hk => by show (w.heap ++ os)[k]? = _; rw [Array.getElem?_append_left hk]⟩⟩)
theorem rd34 {l : List S34} {k : Nat} (hk : k < l.length) : rd_T34 l k = l[k] := by simp [rd_T34, hk]
set_option maxHeartbeats 8000000 in
set_option maxRecDepth 100000 in
theorem search_calls (w : World) (A : Option Addr) (c : Nat) (l : List S34) (u : S34) (hC : Kd.C k34 w A l.length l) (hs : l.Pairwise (fun x y => ¬ ltK y x)) (hl : l.length ≤ 1000000) :
    Calls Try.prog 44 #[.slice A l.length c, encK u, .func (.func 45) #[] #[]] w fun e w' => ∃ b, e = .returned (.tuple #[.int .i64 (posK u l), .bool b]) ∧ Below w.heap.size w w' := by
  show Calls Try.prog 44 #[.slice A l.length c, .agg #[.int .i64 u.f0, .int .i64 u.f1, .int .i64 u.f2], .func (.func 45) #[] #[]] w _
  have hKy := fun x W => keys_below x u W
  unfold encK at hKy
  have eg := eg45
  go_enter Try.func44, Try.ntmps44
  go_wp2
  go_loopg [9, 10, 11] l.length (fun g si sj _ wr => ∃ i j : Nat, si = .int .i64 i ∧ sj = .int .i64 j ∧ i ≤ j ∧ j ≤ l.length ∧ j - i ≤ g ∧ Hid (∀ t (h : t < i) (h2 : t < l.length), ltK l[t] u) ∧ Hid (∀ t (h : j ≤ t) (h2 : t < l.length), ¬ ltK l[t] u) ∧ Below w.heap.size w wr ∧ wr.heap[w.heap.size]? = some (.cells #[.int .i64 u.f0, .int .i64 u.f1, .int .i64 u.f2] 34 (0, 0)))
  case atStart => exact ⟨0, l.length, rfl, rfl, by omega, by omega, by omega, fun t h => by omega, fun t h h2 => by omega, (by repeat (first | exact Below.refl _ _ | assumption | with_reducible apply below_alloc | with_reducible apply pw_below_drewN | with_reducible apply below_drew)), by show (w.heap.push _)[w.heap.size]? = _; simp⟩
  case round =>
    obtain ⟨i, j, rfl, rfl, hij, hj, hg, h1, h2, hB, hbx⟩ := hrel
    have k0 : wr.cell? ⟨w.heap.size, 0, none⟩ = some (.int .i64 u.f0) := (blk_cell hbx 0).trans rfl
    have k1 : wr.cell? ⟨w.heap.size, 1, none⟩ = some (.int .i64 u.f1) := (blk_cell hbx 1).trans rfl
    have k2 : wr.cell? ⟨w.heap.size, 2, none⟩ = some (.int .i64 u.f2) := (blk_cell hbx 2).trans rfl
    by_cases hlt : i < j
    · go_wp2_with fail
      obtain ⟨m, hm⟩ : ∃ m, m = (i + j) / 2 := ⟨_, rfl⟩
      have hmv : ((i : Int) + (j : Int)) / 2 = (m : Int) := by omega
      have hml : m < l.length := by omega
      have him : i ≤ m := by omega
      have hmj : m < j := by omega
      obtain ⟨ad, rfl, c0, c1, c2⟩ := at_T34 (Kd.C_below hC hB) m (by omega) (by omega)
      simp only [Int.toNat_natCast] at c0 c1 c2
      rw [rd34 hml] at c0 c1 c2
      have hx : Hid (l[m] = l[m]) := rfl
      have hcmp := keysI_lt l[m] u
      have q0 := fun d os => cell_regrown c0 d os
      have q1 := fun d os => cell_regrown c1 d os
      have q2 := fun d os => cell_regrown c2 d os
      have q4 := fun d os => cell_regrown k0 d os
      have q5 := fun d os => cell_regrown k1 d os
      have q6 := fun d os => cell_regrown k2 d os
      have sorted : Hid (∀ a b (ha : a < l.length) (hb : b < l.length), a < b → ¬ ltK l[b] l[a]) := fun a b ha hb hab => List.pairwise_iff_getElem.1 hs a b ha hb hab
      clear hs
      generalize hxe : l[m] = x at c0 c1 c2 hcmp q0 q1 q2
      have hxh := Lib.hid hxe
      clear hxe hx
      rw [hmv]
      clear hm hmv
      refine region_below (wr) (by kernel_rfl) (by kernel_rfl) ?_; (repeat (refine WQ.step (fun K hK => ?_); go_simp; first | (refine hK _ ?_; clear hK K) | (apply Exists.intro; refine ⟨fun _ => ?_, hK _ ?_⟩; (exact Calls.regrown_of (hKy x _)); clear hK K))); refine WQ.nil ?_; intro wq hQB
      have hbx1 := (hQB.block w.heap.size (blk_lt hbx)).trans hbx
      have hB1 := below_then hB hB.size hQB
      clear q0 q1 q2 q4 q5 q6 c0 c1 c2 k0 k1 k2 hbx hB hQB
      by_cases hlk : ltK x u
      · have hd := hcmp.2 hlk
        go_wp2
        go_roundg (j - (m + 1))
        case measure => omega
        case rel =>
          refine ⟨m + 1, j, by go_num, rfl, by omega, by omega, Nat.le_refl _, fun t ht h3 => ?_, h2.out, hB1, hbx1⟩
          rcases Nat.lt_or_ge t m with h | h
          · exact le_ltK (sorted.out t m h3 hml h) (by rw [hxh.out]; exact hlk)
          · have : t = m := by omega
            subst this; rw [hxh.out]; exact hlk
      · have hd : ¬ keysI x u < 0 := fun h => hlk (hcmp.1 h)
        go_wp2
        go_roundg (m - i)
        case measure => omega
        case rel =>
          refine ⟨i, m, rfl, rfl, by omega, by omega, Nat.le_refl _, h1.out, fun t ht h3 h4 => ?_, hB1, hbx1⟩
          rcases Nat.lt_or_ge m t with h | h
          · exact hlk (by rw [← hxh.out]; exact le_ltK (sorted.out m t hml h3 h) h4)
          · have : t = m := by omega
            subst this; rw [hxh.out] at h4; exact hlk h4
    · have hij : i = j := by omega
      subst hij
      have hp := Lib.hid (posK_of hj (fun t h h3 => h1.out t h h3) (fun h => h2.out i (Nat.le_refl _) h))
      by_cases hil : i < l.length
      · obtain ⟨ad, rfl, c0, c1, c2⟩ := at_T34 (Kd.C_below hC hB) i (by omega) (by omega)
        simp only [Int.toNat_natCast] at c0 c1 c2
        generalize rd_T34 l i = x at *
        have q0 := fun d os => cell_regrown c0 d os
        have q1 := fun d os => cell_regrown c1 d os
        have q2 := fun d os => cell_regrown c2 d os
        have q4 := fun d os => cell_regrown k0 d os
        have q5 := fun d os => cell_regrown k1 d os
        have q6 := fun d os => cell_regrown k2 d os
        have hli : (i : Int) < (l.length : Int) := by omega
        clear hs hlt
        go_wp2_with fail
        refine region_below (wr) (by kernel_rfl) (by kernel_rfl) ?_; (repeat (refine WQ.step (fun K hK => ?_); go_simp; first | (refine hK _ ?_; clear hK K) | (apply Exists.intro; refine ⟨fun _ => ?_, hK _ ?_⟩; (exact Calls.regrown_of (hKy x _)); clear hK K))); refine WQ.nil ?_; intro wq hQB
        go_wp2
        go_ret2
        exact ⟨_, by rw [hp.out]; rfl, below_then hB hB.size hQB⟩
      · clear hs hlt
        go_wp2_with fail
        refine region_below (wr) (by kernel_rfl) (by kernel_rfl) ?_; (repeat (refine WQ.step (fun K hK => ?_); go_simp; first | (refine hK _ ?_; clear hK K) | (apply Exists.intro; refine ⟨fun _ => ?_, hK _ ?_⟩; (fail); clear hK K))); refine WQ.nil ?_; intro wq hQB
        go_wp2
        go_ret2
        exact ⟨_, by rw [hp.out]; rfl, below_then hB hB.size hQB⟩
end Go.Proofs.Ytokambhemoeloaa.G
end
section
namespace Go.Proofs.Ytokambhemoeloaa.G
open Go.RowKit Go.Proofs.YtokambhemoeloaaW.PrintWords Go.Proofs.YtokambhemoeloaaW.PrintLast Go.Proofs.YtokambhemoeloaaW.PrintMore Go.Proofs.Ytokambhemoeloaa.PA
open Go.Proofs.Ytokambhemoeloaa.Reg Go.Lib
set_option linter.unusedVariables false
set_option linter.unusedSimpArgs false
theorem run_copy_k {P : Program} (w : World) (dT sT ty elem : TypeId) (size : Nat) (b o dLen dCap : Nat) (a : Addr) (sLen sCap : Nat) (cs : List Value)
    (hu : P.underlying dT = some (.slice elem)) (hs : (P.info? elem).map (·.size) = some size) (hn : cs.length = Nat.min sLen dLen * size)
    (hsrc : ∀ j v, cs[j]? = some v → w.cell? (a.add j) = some v) (hc : ∀ j, j < cs.length → (w.cell? ⟨b, o + j, none⟩).isSome = true) (hf : ∀ j, j < cs.length → w.frozen? ⟨b, o + j, none⟩ = false) (h1 : ∀ v ∈ cs, v.oneCell' = true) :
    (Builtin.copy_ #[dT, sT] ty #[.slice (some ⟨b, o, none⟩) dLen dCap, .slice (some a) sLen sCap]).run P w = .ok (goInt (Nat.min sLen dLen)) (w.setCells b o cs) := by
  have hl := run_loadCells_list (P := P) w a cs hsrc
  have hst := run_storeCells_cells (P := P) b o cs 0 w (by simpa using hc) (by simpa using hf) h1
  cases hq : P.info? elem with
  | none => simp [hq] at hs
  | some i =>
    have hi : i.size = size := by simpa [hq] using hs
    simp [Builtin.copy_, run_underlying hu, Builtin.lenOf, Builtin.firstCells, sizeOf, typeInfo, hq, hi, ← hn, hl, hst]
set_option maxHeartbeats 4000000 in
set_option maxRecDepth 100000 in
theorem ins_shift (b off n c i vb : Nat) (cs vs : List Value) (w : World) (hi : i < n) (hroom : n + 1 ≤ c) (hc63 : c ≤ 9223372036854775807) (hvb : vb ≠ b)
    (hcl : cs.length = n * 3) (hvl : vs.length = 3)
    (hcs : ∀ j v, cs[j]? = some v → w.cell? ⟨b, off + j, none⟩ = some v) (hsp : ∀ j, j < (n + 1) * 3 → (w.cell? ⟨b, off + j, none⟩).isSome = true) (hfz : ∀ j, j < (n + 1) * 3 → w.frozen? ⟨b, off + j, none⟩ = false)
    (hvs : ∀ j v, vs[j]? = some v → w.cell? ⟨vb, 0 + j, none⟩ = some v) (h1c : ∀ v ∈ cs, v.oneCell' = true) (h1v : ∀ v ∈ vs, v.oneCell' = true)
    (tA tB : TypeId) (kA kB : Nat) (hsa : w.shape? vb = some (tA, kA)) (hsb : w.shape? b = some (tB, kB)) (hkB : kB ≠ 0) (hfa : w.frozen? ⟨vb, 0, none⟩ = false) (hfe : w.frozen? ⟨vb, kA, none⟩ = false) :
    Calls Try.prog 46 #[.slice (some ⟨b, off, none⟩) n c, .int .i64 i, .slice (some ⟨vb, 0, none⟩) 1 1] w fun e w' =>
      e = .returned (.slice (some ⟨b, off, none⟩) (n + 1) c) ∧ w' = (w.drew.setCells b (off + (i + 1) * 3) (cs.drop (i * 3))).setCells b (off + i * 3) vs := by
  have hz2 : ¬ ((i : Int) = (n : Int)) := by omega
  have hsz : (Try.prog.info? 34).map (·.size) = some 3 := by
    obtain ⟨i0, hi0, h0, h1, h2⟩ := info_parts info34
    rw [hi0]; simp [h1]
  have hov : ∀ lb cb, (callFunc 60 #[.slice (some ⟨vb, 0, none⟩) 1 1, .slice (some ⟨b, off + (i + 1) * 3, none⟩) lb cb]).run Try.prog w = .ok (.value (.bool false)) w := fun lb cb => by
    rw [run_callFunc_extern Try.func60 (by kernel_rfl) (by kernel_rfl) (by kernel_rfl) (e := Extern.SlicesOverlaps.overlaps #[41, 41] #[4]) (by kernel_rfl),
      Lib.run_overlaps_apart w 41 4 34 Try.underlying41 3 Try.sizeOf34 ⟨vb, 0, none⟩ ⟨b, off + (i + 1) * 3, none⟩ 1 1 lb cb hvb tA tB kA kB hsa hsb hkB hfa hfe]
    rfl
  have hdl : (cs.drop (i * 3)).length = (n - i) * 3 := by rw [List.length_drop, hcl, Nat.sub_mul]
  have hb1 : (0 : Int) ≤ (i : Int) + 1 := by omega
  have hin : i ≤ n := by omega
  have htn : ((i : Int) + 1).toNat = i + 1 := by omega
  have hb2 : ¬ (c = i + 1) := by omega
  have hb3 : (i : Int) ≤ (n : Int) + 1 := by omega
  have hb4 : ¬ (c = i) := by omega
  have mixed : Try.prog.follows .mixedOrders = true := by kernel_rfl
  have hw1 : IntKind.i64.wrap ((i : Int) + 1) = (i : Int) + 1 := by rw [IntKind.wrap_i64]; omega
  have hcp1 : ∀ ty dc sc, (Builtin.copy_ #[41, 41] ty #[.slice (some ⟨b, off + (i + 1) * 3, none⟩) (n - i) dc, .slice (some ⟨b, off + i * 3, none⟩) (n + 1 - i) sc]).run Try.prog w.drew = .ok (goInt (Nat.min (n + 1 - i) (n - i))) (w.drew.setCells b (off + (i + 1) * 3) (cs.drop (i * 3))) := fun ty dc sc =>
    run_copy_k w.drew _ _ ty 34 3 b (off + (i + 1) * 3) (n - i) dc ⟨b, off + i * 3, none⟩ (n + 1 - i) sc (cs.drop (i * 3)) Try.underlying41 hsz (by rw [hdl]; congr 1; simp only [Nat.min_def]; split <;> omega)
      (fun j v hj => by rw [Addr.add_lit, Nat.add_assoc]; exact hcs (i * 3 + j) v (by rwa [List.getElem?_drop] at hj))
      (fun j hj => by rw [Nat.add_assoc]; exact hsp _ (by omega)) (fun j hj => by rw [Nat.add_assoc]; exact hfz _ (by omega)) (fun v hv => h1c v (List.mem_of_mem_drop hv))
  obtain ⟨W1, hW1⟩ : ∃ W1, W1 = w.drew.setCells b (off + (i + 1) * 3) (cs.drop (i * 3)) := ⟨_, rfl⟩
  have hsp1 : ∀ k, k < (n + 1) * 3 → (W1.cell? ⟨b, off + k, none⟩).isSome = true := fun k hk => by
    rw [hW1]
    exact isSome_setCells b _ _ _ (fun j hj => by rw [Nat.add_assoc]; exact hsp _ (by omega)) _ (hsp k hk)
  have hcp2 : ∀ (W : World), (∀ x, W.cell? x = W1.cell? x) → (∀ x, W.frozen? x = W1.frozen? x) → ∀ ty dc, (Builtin.copy_ #[41, 41] ty #[.slice (some ⟨b, off + i * 3, none⟩) (n + 1 - i) dc, .slice (some ⟨vb, 0, none⟩) 1 1]).run Try.prog W = .ok (goInt (Nat.min 1 (n + 1 - i))) (W.setCells b (off + i * 3) vs) := fun W hWc hWf ty dc =>
    run_copy_k W _ _ ty 34 3 b (off + i * 3) (n + 1 - i) dc ⟨vb, 0, none⟩ 1 1 vs Try.underlying41 hsz (by rw [hvl]; simp only [Nat.min_def]; split <;> omega)
      (fun j v hj => by
        rw [Addr.add_lit, hWc, hW1, World.cell?_setCells_out b _ _ _ _ (fun h _ => absurd h hvb)]
        exact hvs j v hj)
      (fun j hj => by rw [hWc, Nat.add_assoc]; exact hsp1 _ (by omega)) (fun j hj => by rw [hWf, hW1, World.frozen?_setCells, Nat.add_assoc]; exact hfz _ (by omega)) h1v
  rw [← hW1] at hcp1
  go_enter Try.func46, Try.ntmps46
  go_wp2_with (simp only [hov])
  go_region_law_o (refine step_copy_runI rfl _ _ 41 41 rfl (.slice (some ⟨b, off + (i + 1) * 3, none⟩) (n - i) (c - (i + 1))) (.slice (some ⟨b, off + i * 3, none⟩) (n + 1 - i) (c - i)) (by simp [Act.eval, Act.put]) (by simp [Act.eval, Act.put]) (hcp1 _ _ _) ?_)
  go_wp2_with (at_builtin; refine wpList_copy_runI _ rfl _ _ 41 41 rfl _ _ rfl rfl (hcp2 _ (fun _ => rfl) (fun _ => rfl) _ _) ?_)
  go_ret
  first | exact ⟨rfl, rfl⟩ | exact ⟨rfl, by rw [hW1]⟩
set_option maxHeartbeats 4000000 in
set_option maxRecDepth 100000 in
theorem ins_grow (b off n c i vb : Nat) (cs vs : List Value) (w : World) (hi : i < n) (hnc : n ≤ c) (hroom : c < n + 1) (hbig : (n + 1) * 24 ≤ 140737488355328)
    (hcl : cs.length = n * 3) (hvl : vs.length = 3)
    (hcs : ∀ j v, cs[j]? = some v → w.cell? ⟨b, off + j, none⟩ = some v)
    (hvs : ∀ j v, vs[j]? = some v → w.cell? ⟨vb, 0 + j, none⟩ = some v) (h1c : ∀ v ∈ cs, v.oneCell' = true) (h1v : ∀ v ∈ vs, v.oneCell' = true) :
    Calls Try.prog 46 #[.slice (some ⟨b, off, none⟩) n c, .int .i64 i, .slice (some ⟨vb, 0, none⟩) 1 1] w fun e w' =>
      e = .returned (.slice (some ⟨w.heap.size, 0, none⟩) (n + 1) (grownCap w (n + 1) c 34)) ∧
      w' = (((w.alloc (.cells ((cs.take (i * 3)).toArray ++ Builtin.zeroCells (Value.agg #[.int .i64 0, .int .i64 0, .int .i64 0]).cells (n + 1 - i) ++ Builtin.zeroCells (Value.agg #[.int .i64 0, .int .i64 0, .int .i64 0]).cells (grownCap w (n + 1) c 34 - (n + 1))) 34)).drew.setCells w.heap.size (i * 3) vs).drew).setCells w.heap.size ((i + 1) * 3) (cs.drop (i * 3)) := by
  have mixed : Try.prog.follows .mixedOrders = true := by kernel_rfl
  obtain ⟨i0, hi0, hz0, hzs, hzb⟩ := info_parts info34
  have hz2 : ¬ ((i : Int) = (n : Int)) := by omega
  have hz3 : (c : Int) < (n : Int) + 1 := by omega
  have hsz : (Try.prog.info? 34).map (·.size) = some 3 := by rw [hi0]; simp [hzs]
  have hbw : b < w.heap.size := block_lt_of_cell (hcs 0 _ (List.getElem?_eq_getElem (by omega)))
  have hvw : vb < w.heap.size := block_lt_of_cell (hvs 0 _ (List.getElem?_eq_getElem (by omega)))
  have hkk : (n : Int) + 1 - (i : Int) = ((n + 1 - i : Nat) : Int) := by omega
  have hik : i + (n + 1 - i) = n + 1 := by omega
  have hold : (Builtin.firstCells i0.size i (.slice (some ⟨b, off, none⟩) i c)).run Try.prog w.drew = .ok (cs.take (i * 3)).toArray w.drew := by
    rw [hzs]
    exact run_firstCells_some w.drew 3 i ⟨b, off, none⟩ i c (cs.take (i * 3)) (by rw [List.length_take]; omega) (fun j v hj => by
      rw [Addr.add_lit]
      rw [List.getElem?_take] at hj
      split at hj
      · exact hcs j v hj
      · cases hj)
  have hrz : ∀ ty, (Builtin.append_ #[41, 3] ty #[.slice (some ⟨b, off, none⟩) i c, .int .i64 ((n : Int) + 1 - (i : Int))]).run Try.prog w =
      .ok (.slice (some ⟨w.heap.size, 0, none⟩) (n + 1) (grownCap w (n + 1) c 34)) (w.drew.alloc (.cells ((cs.take (i * 3)).toArray ++ Builtin.zeroCells (Value.agg #[.int .i64 0, .int .i64 0, .int .i64 0]).cells (n + 1 - i) ++ Builtin.zeroCells (Value.agg #[.int .i64 0, .int .i64 0, .int .i64 0]).cells (grownCap w (n + 1) c 34 - (n + 1))) 34)) := fun ty => by
    have h := Lib.run_append_grow_zeros w 41 3 ty 34 i0 _ .i64 .i64 Try.underlying41 Try.underlying3 hi0 hz0 (some ⟨b, off, none⟩) i c (cs.take (i * 3)) hold (n + 1 - i) (by omega) (by omega) (by omega) (by omega) (by rw [hzb]; omega) (by rw [hzb, hik]; exact growslice_fits hroom hbig)
    rw [hik] at h
    rw [hkk]
    exact h
  obtain ⟨G, hG⟩ : ∃ G, G = grownCap w (n + 1) c 34 := ⟨_, rfl⟩
  obtain ⟨ROW, hROW⟩ : ∃ ROW : Array Value, ROW = (cs.take (i * 3)).toArray ++ Builtin.zeroCells (Value.agg #[.int .i64 0, .int .i64 0, .int .i64 0]).cells (n + 1 - i) ++ Builtin.zeroCells (Value.agg #[.int .i64 0, .int .i64 0, .int .i64 0]).cells (G - (n + 1)) := ⟨_, rfl⟩
  rw [← hG] at hrz ⊢
  rw [← hROW] at hrz ⊢
  have hRl : (n + 1) * 3 ≤ ROW.size := by
    rw [hROW]
    simp [Builtin.zeroCells, Value.cells]
    omega
  obtain ⟨W1, hW1⟩ : ∃ W1, W1 = w.drew.alloc (.cells ROW 34) := ⟨_, rfl⟩
  rw [← hW1] at hrz
  have hN : ∀ j, j < (n + 1) * 3 → (W1.cell? ⟨w.heap.size, j, none⟩).isSome = true := fun j hj => by
    rw [hW1, World.cell?_alloc_at (w := w.drew) ROW _ w.heap.size j rfl, Array.getElem?_eq_getElem (by omega)]; rfl
  have hNf : ∀ j, W1.frozen? ⟨w.heap.size, j, none⟩ = false := fun j => by rw [hW1]; exact World.frozen?_alloc_at (w := w.drew) ROW _ w.heap.size j rfl
  have hOb : ∀ j v, w.cell? ⟨b, j, none⟩ = some v → W1.cell? ⟨b, j, none⟩ = some v := fun j v h => by rw [hW1, World.cell?_alloc_past (w := w.drew) _ b j hbw]; exact h
  have hOv : ∀ j v, w.cell? ⟨vb, j, none⟩ = some v → W1.cell? ⟨vb, j, none⟩ = some v := fun j v h => by rw [hW1, World.cell?_alloc_past (w := w.drew) _ vb j hvw]; exact h
  have hcpA : ∀ (W : World), (∀ x, W.cell? x = W1.cell? x) → (∀ x, W.frozen? x = W1.frozen? x) → ∀ ty dc, (Builtin.copy_ #[41, 41] ty #[.slice (some ⟨w.heap.size, i * 3, none⟩) (n + 1 - i) dc, .slice (some ⟨vb, 0, none⟩) 1 1]).run Try.prog W = .ok (goInt (Nat.min 1 (n + 1 - i))) (W.setCells w.heap.size (i * 3) vs) := fun W hWc hWf ty dc =>
    run_copy_k W _ _ ty 34 3 w.heap.size (i * 3) (n + 1 - i) dc ⟨vb, 0, none⟩ 1 1 vs Try.underlying41 hsz (by rw [hvl]; simp only [Nat.min_def]; split <;> omega)
      (fun j v hj => by rw [Addr.add_lit, hWc]; exact hOv _ v (hvs j v hj))
      (fun j hj => by rw [hWc]; exact hN _ (by omega)) (fun j hj => by rw [hWf]; exact hNf _) h1v
  have hGn : n + 1 ≤ G := by rw [hG]; exact grownCap_ge w _ _ _
  have hG63 : G ≤ 9223372036854775807 := by
    have := grownCap_le_maxLen w (n + 1) c 34 (by unfold maxLen; omega)
    rw [← hG] at this
    unfold maxLen at this
    omega
  have hGi : ¬ (G = i) := by omega
  have hGim : ¬ (G = i + 1) := by omega
  have hci : ¬ (c = i) := by omega
  have hbN : b ≠ w.heap.size := by omega
  have hdl : (cs.drop (i * 3)).length = (n - i) * 3 := by rw [List.length_drop, hcl, Nat.sub_mul]
  have hcpB : ∀ (W : World), (∀ x, W.cell? x = (W1.setCells w.heap.size (i * 3) vs).cell? x) → (∀ x, W.frozen? x = (W1.setCells w.heap.size (i * 3) vs).frozen? x) → ∀ ty dc sc, (Builtin.copy_ #[41, 41] ty #[.slice (some ⟨w.heap.size, (i + 1) * 3, none⟩) (n - i) dc, .slice (some ⟨b, off + i * 3, none⟩) (n - i) sc]).run Try.prog W = .ok (goInt (Nat.min (n - i) (n - i))) (W.setCells w.heap.size ((i + 1) * 3) (cs.drop (i * 3))) := fun W hWc hWf ty dc sc =>
    run_copy_k W _ _ ty 34 3 w.heap.size ((i + 1) * 3) (n - i) dc ⟨b, off + i * 3, none⟩ (n - i) sc (cs.drop (i * 3)) Try.underlying41 hsz (by rw [hdl]; simp)
      (fun j v hj => by
        rw [Addr.add_lit, hWc, World.cell?_setCells_out _ _ _ _ _ (fun h _ => absurd h hbN), Nat.add_assoc]
        exact hOb _ v (hcs (i * 3 + j) v (by rwa [List.getElem?_drop] at hj)))
      (fun j hj => by rw [hWc]; exact isSome_setCells _ _ _ _ (fun t ht => hN _ (by omega)) _ (hN _ (by omega)))
      (fun j hj => by rw [hWf, World.frozen?_setCells]; exact hNf _) (fun v hv => h1c v (List.mem_of_mem_drop hv))
  subst hW1
  have hE1 : ∀ x, ((w.alloc (.cells ROW 34)).drew).cell? x = (w.drew.alloc (.cells ROW 34)).cell? x := fun x => rfl
  have hE2 : ∀ x, ((w.alloc (.cells ROW 34)).drew).frozen? x = (w.drew.alloc (.cells ROW 34)).frozen? x := fun x => rfl
  have hF1 : ∀ x, (((w.alloc (.cells ROW 34)).drew.setCells w.heap.size (i * 3) vs).drew).cell? x = ((w.drew.alloc (.cells ROW 34)).setCells w.heap.size (i * 3) vs).cell? x := fun x => rfl
  have hF2 : ∀ x, (((w.alloc (.cells ROW 34)).drew.setCells w.heap.size (i * 3) vs).drew).frozen? x = ((w.drew.alloc (.cells ROW 34)).setCells w.heap.size (i * 3) vs).frozen? x := fun x => rfl
  have hw1 : IntKind.i64.wrap ((i : Int) + 1) = (i : Int) + 1 := by rw [IntKind.wrap_i64]; omega
  have hb1 : (0 : Int) ≤ (i : Int) + 1 := by omega
  have hin : i ≤ n := by omega
  have htn : ((i : Int) + 1).toNat = i + 1 := by omega
  have hb3 : (i : Int) ≤ (n : Int) := by omega
  have hb5 : (i : Int) + 1 ≤ (n : Int) + 1 := by omega
  clear hkk hik hold hROW hG hRl
  go_enter Try.func46, Try.ntmps46
  go_wp2_with (first
    | (at_builtin; refine Lib.wpList_append_run _ rfl _ _ _ _ rfl _ _ rfl rfl _ _ (hrz _) ?_)
    | (at_builtin; refine wpList_copy_runI _ rfl _ _ 41 41 rfl _ _ rfl rfl (hcpA _ hE1 hE2 _ _) ?_)
    | (at_builtin; refine wpList_copy_runI _ rfl _ _ 41 41 rfl _ _ rfl rfl (hcpB _ (fun _ => rfl) (fun _ => rfl) _ _ _) ?_))
  go_region_law_o (refine step_copy_runI rfl _ _ 41 41 rfl (.slice (some ⟨w.heap.size, (i + 1) * 3, none⟩) (n - i) (G - (i + 1))) (.slice (some ⟨b, off + i * 3, none⟩) (n - i) (c - i)) (by simp [Act.eval, Act.put]) (by simp [Act.eval, Act.put]) (hcpB _ hF1 hF2 3 (G - (i + 1)) (c - i)) ?_)
  go_wp2
  go_ret
  exact ⟨rfl, rfl⟩
end Go.Proofs.Ytokambhemoeloaa.G
end
section
namespace Go.Proofs.Ytokambhemoeloaa.G
open Go.RowKit Go.Proofs.YtokambhemoeloaaW.PrintWords Go.Proofs.YtokambhemoeloaaW.PrintLast Go.Proofs.YtokambhemoeloaaW.PrintMore Go.Proofs.Ytokambhemoeloaa.PA
open Go.Proofs.Ytokambhemoeloaa.Reg Go.Lib
set_option linter.unusedVariables false
set_option linter.unusedSimpArgs false
theorem set_row {w : World} {g : Nat} {e : TypeId} {cur : Array Value} (o : Nat) (vs : List Value) (h : w.heap[g]? = some (.cells cur e (0, 0))) (hf : o + vs.length ≤ cur.size) :
    ∃ cur', (w.setCells g o vs).heap[g]? = some (.cells cur' e (0, 0)) ∧ cur'.size = cur.size ∧ ∀ t, cur'.toList[t]? = if o ≤ t ∧ t < o + vs.length then vs[t - o]? else cur.toList[t]? := by
  obtain ⟨cur', h1, h2, h3⟩ := setCells_row vs o w cur h hf
  refine ⟨cur', h1, h2, fun t => ?_⟩
  rw [h3]
  have hl : (cur.toList.take o).length = o := by simp; omega
  by_cases h4 : t < o
  · rw [if_neg (by omega), List.append_assoc, List.getElem?_append_left (by omega), List.getElem?_take, if_pos h4]
  · by_cases h5 : t < o + vs.length
    · rw [if_pos (by omega), List.append_assoc, List.getElem?_append_right (by omega), hl, List.getElem?_append_left (by omega)]
    · rw [if_neg (by omega), List.getElem?_append_right (by simp; omega), List.getElem?_drop]
      congr 1
      simp; omega
theorem spliced {n i : Nat} {inner vs : List Value} {res : List Value} (hi : i < n) (hin : inner.length = n * 3) (hv : vs.length = 3) (hlen : res.length = (n + 1) * 3)
    (h0 : ∀ t, t < i * 3 → res[t]? = inner[t]?) (h1 : ∀ t, t < 3 → res[i * 3 + t]? = vs[t]?) (h2 : ∀ t, t < (n - i) * 3 → res[(i + 1) * 3 + t]? = (inner.drop (i * 3))[t]?) : res = inner.take (i * 3) ++ vs ++ inner.drop (i * 3) := by
  apply List.ext_getElem?
  intro t
  have hl : (inner.take (i * 3)).length = i * 3 := by simp; omega
  by_cases c0 : t < i * 3
  · rw [h0 t c0, List.append_assoc, List.getElem?_append_left (by omega), List.getElem?_take, if_pos c0]
  · by_cases c1 : t < i * 3 + 3
    · have := h1 (t - i * 3) (by omega)
      rw [show i * 3 + (t - i * 3) = t by omega] at this
      rw [this, List.append_assoc, List.getElem?_append_right (by omega), hl, List.getElem?_append_left (by omega)]
    · by_cases c2 : t < (n + 1) * 3
      · have := h2 (t - (i + 1) * 3) (by omega)
        rw [show (i + 1) * 3 + (t - (i + 1) * 3) = t by omega] at this
        rw [this, List.getElem?_append_right (by simp; omega)]
        congr 1
        simp; omega
      · rw [List.getElem?_eq_none (by omega), List.getElem?_eq_none (by simp; omega)]
theorem q_of {g D cap : Nat} {cur : Array Value} {w : World} {base : Nat} {ok : Nat → Prop} {l : List S34} {inner : List Value} (hok : ok g) (hb : base ≤ g) (hh : w.heap[g]? = some (.cells cur 34 (0, 0))) (hn : l.length ≤ cap) (hc : D + cap ≤ maxLen) (hs : cur.size = (D + cap) * 3)
    (ht : (cur.toList.drop (D * 3)).take (l.length * 3) = inner) (hr : Reps (fun x cs => cs = celK x) 3 l inner) : Kd.Q k34 34 w base ok (.slice (some ⟨g, D * 3, none⟩) l.length cap) l :=
  ⟨fun k hk => by simp [Value.ownBlock] at hk; rw [← hk]; exact hok, inner, ⟨hr.1, .inr ⟨g, D, cap, cur, rfl, hb, hh, hn, hc, hs, ht⟩⟩, hr.imp_ (fun x cs h => by rw [h]; exact k34_mkM _ _ _ _)⟩
set_option maxHeartbeats 4000000 in
set_option maxRecDepth 100000 in
theorem ins_end (v v' : Value) (n vb : Nat) (w w' : World) (A : Option Addr) (c : Nat) (hv : v = .slice A n c) (hr : (Builtin.append_ #[41, 41] 41 #[.slice A n c, .slice (some ⟨vb, 0, none⟩) 1 1]).run Try.prog w = .ok v' w') :
    Calls Try.prog 46 #[.slice A n c, .int .i64 n, .slice (some ⟨vb, 0, none⟩) 1 1] w fun e w2 => e = .returned v' ∧ w2 = w' := by
  go_enter Try.func46, Try.ntmps46
  go_wp2_with (at_builtin; refine Lib.wpList_append_run _ rfl _ _ _ _ rfl _ _ rfl rfl _ _ hr ?_)
  all_goals
    go_ret
    exact ⟨rfl, rfl⟩
theorem reps_one' {l : List S34} {inner : List Value} (h : Reps (fun x cs => cs = celK x) 3 l inner) : ∀ u ∈ inner, u.oneCell' = true :=
  Kd.reps_one h (by omega) (fun p c hc u hu => by rw [hc] at hu; simp [celK] at hu; rcases hu with rfl | rfl | rfl <;> rfl)
theorem vsx {w : World} {vb : Nat} {x : S34} (hvb : w.heap[vb]? = some (.cells (celK x).toArray 34 (0, 0))) : ∀ j v, (celK x)[j]? = some v → w.cell? ⟨vb, 0 + j, none⟩ = some v := fun j v hj => by
  rw [Nat.zero_add, blk_cell hvb j]; simpa using hj
theorem one_celK (x : S34) : ∀ v ∈ celK x, v.oneCell' = true := by
  intro v hv
  simp [celK] at hv; rcases hv with rfl | rfl | rfl <;> rfl
set_option maxHeartbeats 4000000 in
theorem Insert_calls {w : World} {base : Nat} {ok : Nat → Prop} {v : Value} {l : List S34} (i : Nat) (hi : i ≤ l.length) (x : S34) (vb : Nat) (hQ : Kd.Q k34 34 w base ok v l) (hfresh : ∀ k, w.heap.size ≤ k → ok k) (hbase : base ≤ w.heap.size)
    (hvb : w.heap[vb]? = some (.cells (celK x).toArray 34 (0, 0))) (hne : some vb ≠ v.ownBlock) (hl : (l.length + 1) * 24 ≤ 140737488355328) :
    Calls Try.prog 46 #[v, .int .i64 i, .slice (some ⟨vb, 0, none⟩) 1 1] w fun e w' => ∃ v', e = .returned v' ∧ Kd.Q k34 34 w' base ok v' (l.take i ++ [x] ++ l.drop i) ∧ w.grownBy w' v.ownBlock ∧ (v'.ownBlock = v.ownBlock ∨ ∃ b, v'.ownBlock = some b ∧ w.heap.size ≤ b) := by
  obtain ⟨h0, inner, hown, hr⟩ := hQ
  have hrc : Reps (fun x cs => cs = celK x) 3 l inner := hr.imp_ (fun x cs h => k34_openM h)
  have hown : QRow w base 34 3 v l.length inner := hown
  clear hr
  have hlin := hrc.1
  by_cases hil : i = l.length
  · subst hil
    obtain ⟨i0, hi0, hz0, hzs, hzb⟩ := info_parts info34
    obtain ⟨v', w', hrun, hq, hg, hat⟩ := q_append (P := Try.prog) w base 41 41 34 i0 _ 3 24 Try.underlying41 hi0 hz0 hzs hzb rfl (by omega) v l.length inner hown ⟨vb, 0, none⟩ 1 1 (celK x) rfl (fun j u hj => by rw [Addr.add_lit]; exact vsx hvb j u hj) (one_celK x) (by omega) (by simp only [maxLen]; omega) hl hbase
    have hsl : ∃ A c, v = .slice A l.length c := by
      rcases hown.2 with ⟨hz, A, rfl, _⟩ | ⟨g, off, cap, cur, rfl, _⟩
      · exact ⟨A, 0, by rw [hz]⟩
      · exact ⟨_, _, rfl⟩
    obtain ⟨A, c, rfl⟩ := hsl
    refine (ins_end _ v' l.length vb w w' A c rfl hrun).mono ?_
    rintro e w2 ⟨rfl, rfl⟩
    refine ⟨v', rfl, ⟨fun k hk => ?_, inner ++ celK x, ?_, ?_⟩, hg, hat⟩
    · rcases hat with hat | ⟨b, hb, hle⟩
      · exact h0 k (hat ▸ hk)
      · rw [hb] at hk; injection hk with hk; exact hfresh k (by omega)
    · have hq : QRow w2 base 34 3 v' (l.length + 1) (inner ++ celK x) := hq
      show QRow _ _ 34 3 _ _ _
      simpa using hq
    · have := Reps.snoc hrc (p := x) (c := celK x) rfl rfl
      show Reps _ 3 _ _
      simpa using this.imp_ (R' := k34.M w2 base (fun k => ok k ∧ some k ≠ v'.ownBlock)) (fun y cs h => by rw [h]; exact k34_mkM _ _ _ _)
  · have hil : i < l.length := by omega
    rcases hown.2 with ⟨hz, _⟩ | ⟨g, D, cap, cur, rfl, hb, hh, hn, hc, hs, ht⟩
    · omega
    have hcur : ∀ t, t < l.length * 3 → cur.toList[D * 3 + t]? = inner[t]? := fun t htt => by
      rw [← ht, List.getElem?_take, if_pos htt, List.getElem?_drop]
    have hcs : ∀ j u, inner[j]? = some u → w.cell? ⟨g, D * 3 + j, none⟩ = some u := fun j u hj => by
      have hjl := (List.getElem?_eq_some_iff.1 hj).1
      rw [blk_cell hh, ← Array.getElem?_toList, hcur j (by omega)]; exact hj
    have h1c : ∀ u ∈ inner, u.oneCell' = true := reps_one' hrc
    have hgb : g < w.heap.size := blk_lt hh
    have hgv : vb ≠ g := fun e => hne (by simp [Value.ownBlock, e])
    have hfz : ∀ j, w.frozen? ⟨g, j, none⟩ = false := fun j => blk_frozen hh j
    have hre : Reps (fun x cs => cs = celK x) 3 (l.take i ++ [x] ++ l.drop i) (inner.take (i * 3) ++ celK x ++ inner.drop (i * 3)) :=
      Kd.reps_append (Reps.snoc (Kd.reps_take hrc (by omega)) rfl rfl) (Kd.reps_drop hrc)
    have hlen : (l.take i ++ [x] ++ l.drop i).length = l.length + 1 := by simp; omega
    by_cases hroom : l.length + 1 ≤ cap
    · refine (ins_shift g (D * 3) l.length cap i vb inner (celK x) w hil hroom (by simp only [maxLen] at hc; omega) hgv hlin rfl hcs (fun j hj => ?_) (fun j _ => hfz _) (vsx hvb) h1c (one_celK x) 34 34 3 cur.size ?_ ?_ (by omega) (blk_frozen hvb 0) (blk_frozen hvb 3)).mono ?_
      · rw [blk_cell hh, Array.getElem?_eq_getElem (by omega)]; rfl
      · simp [World.shape?, hvb, celK]
      · simp [World.shape?, hh]
      rintro e w2 ⟨rfl, rfl⟩
      obtain ⟨c1, q1, q2, q3⟩ := set_row (w := w.drew) (D * 3 + (i + 1) * 3) (inner.drop (i * 3)) hh (by simp; omega)
      obtain ⟨c2, r1, r2, r3⟩ := set_row (D * 3 + i * 3) (celK x) q1 (by rw [q2]; show _ + 3 ≤ _; omega)
      have hvl : (celK x).length = 3 := rfl
      have hdl : (inner.drop (i * 3)).length = (l.length - i) * 3 := by rw [List.length_drop, hlin, Nat.sub_mul]
      refine ⟨_, rfl, ?_, ?_, .inl rfl⟩
      · have := q_of (base := base) (cap := cap) (D := D) (h0 g rfl) hb r1 (by rw [hlen]; exact hroom) hc (by rw [r2, q2, hs]) (spliced hil hlin hvl (by rw [hlen]; simp [r2, q2, hs]; omega) (fun t ht => ?_) (fun t ht => ?_) (fun t ht => ?_)) hre
        · rw [hlen] at this; exact this
        · rw [List.getElem?_take, if_pos (by omega), List.getElem?_drop, r3, if_neg (by omega), q3, if_neg (by omega), hcur t (by omega)]
        · rw [List.getElem?_take, if_pos (by omega), List.getElem?_drop, r3, if_pos (by omega)]
          exact congrArg (fun q => (celK x)[q]?) (by omega)
        · rw [List.getElem?_take, if_pos (by omega), List.getElem?_drop, r3, if_neg (by omega), q3, if_pos (by omega)]
          exact congrArg (fun q => (inner.drop (i * 3))[q]?) (by omega)
      · exact World.grownBy.trans (World.grownBy.trans (grown_draw w 1 _) (grown_setCells _ _ _ _)) (grown_setCells _ _ _ _)
    · refine (ins_grow g (D * 3) l.length cap i vb inner (celK x) w hil hn (by omega) hl hlin rfl hcs (vsx hvb) h1c (one_celK x)).mono ?_
      rintro e w2 ⟨rfl, rfl⟩
      have hGn : l.length + 1 ≤ grownCap w (l.length + 1) cap 34 := grownCap_ge w _ _ _
      have hGm := grownCap_le_maxLen w (l.length + 1) cap 34 (by unfold maxLen; omega)
      generalize grownCap w (l.length + 1) cap 34 = G at *
      generalize hROW : ((inner.take (i * 3)).toArray ++ Builtin.zeroCells (Value.agg #[.int .i64 0, .int .i64 0, .int .i64 0]).cells (l.length + 1 - i) ++ Builtin.zeroCells (Value.agg #[.int .i64 0, .int .i64 0, .int .i64 0]).cells (G - (l.length + 1))) = ROW
      have hz3 : ∀ m, (Builtin.zeroCells (Value.agg #[.int .i64 0, .int .i64 0, .int .i64 0]).cells m).size = m * 3 := fun m => by simp [Builtin.zeroCells, Value.cells]
      have hRs : ROW.size = G * 3 := by
        rw [← hROW, Array.size_append, Array.size_append, hz3, hz3, List.size_toArray, List.length_take]
        omega
      have hR0 : ∀ t, t < i * 3 → ROW.toList[t]? = inner[t]? := fun t ht => by
        have h5 : t < (inner.take (i * 3)).length := by rw [List.length_take]; omega
        rw [← hROW, Array.toList_append, Array.toList_append, List.append_assoc, List.getElem?_append_left (by simpa using h5)]
        simp [ht]
      have hb0 : (w.alloc (.cells ROW 34)).drew.heap[w.heap.size]? = some (.cells ROW 34 (0, 0)) := by show (w.heap.push _)[w.heap.size]? = _; simp
      have hvl : (celK x).length = 3 := rfl
      have hdl : (inner.drop (i * 3)).length = (l.length - i) * 3 := by rw [List.length_drop, hlin, Nat.sub_mul]
      obtain ⟨c1, q1, q2, q3⟩ := set_row (i * 3) (celK x) hb0 (by omega)
      have q1 : ((w.alloc (.cells ROW 34)).drew.setCells w.heap.size (i * 3) (celK x)).drew.heap[w.heap.size]? = some (.cells c1 34 (0, 0)) := q1
      obtain ⟨c2, r1, r2, r3⟩ := set_row ((i + 1) * 3) (inner.drop (i * 3)) q1 (by omega)
      have hg0 : w.grownBy (((w.alloc (.cells ROW 34)).drew.setCells w.heap.size (i * 3) (celK x)).drew.setCells w.heap.size ((i + 1) * 3) (inner.drop (i * 3))) (Value.slice (some ⟨g, D * 3, none⟩) l.length cap).ownBlock := by
        have h6 := World.grownBy.trans (World.grownBy.trans (World.grownBy.trans (World.grownBy_alloc w (.cells ROW 34) (some w.heap.size)) (grown_draw (w.alloc (.cells ROW 34)) 1 _)) (grown_setCells _ w.heap.size (i * 3) (celK x))) (World.grownBy.trans (grown_draw _ 1 _) (grown_setCells _ w.heap.size ((i + 1) * 3) (inner.drop (i * 3))))
        exact ⟨h6.os, h6.tape, h6.output, h6.size, fun k hk _ => h6.block k hk (fun e => by injection e with e; omega)⟩
      refine ⟨_, rfl, ?_, hg0, .inr ⟨w.heap.size, rfl, Nat.le_refl _⟩⟩
      have := q_of (base := base) (cap := G) (D := 0) (hfresh _ (Nat.le_refl _)) hbase r1 (by rw [hlen]; exact hGn) (by omega) (by rw [r2, q2, hRs, Nat.zero_add]) (spliced hil hlin hvl (by rw [hlen]; simp [r2, q2, hRs]; omega) (fun t ht => ?_) (fun t ht => ?_) (fun t ht => ?_)) hre
      · rw [hlen, Nat.zero_mul] at this; exact this
      · rw [List.getElem?_take, if_pos (by omega), List.getElem?_drop, Nat.zero_mul, Nat.zero_add, r3, if_neg (by omega), q3, if_neg (by omega), hR0 t ht]
      · rw [List.getElem?_take, if_pos (by omega), List.getElem?_drop, Nat.zero_mul, Nat.zero_add, r3, if_neg (by omega), q3, if_pos (by omega)]
        exact congrArg (fun q => (celK x)[q]?) (by omega)
      · rw [List.getElem?_take, if_pos (by omega), List.getElem?_drop, Nat.zero_mul, Nat.zero_add, r3, if_pos (by omega)]
        exact congrArg (fun q => (inner.drop (i * 3))[q]?) (by omega)
end Go.Proofs.Ytokambhemoeloaa.G
end
section
namespace Go.Proofs.Ytokambhemoeloaa.G
open Go.RowKit Go.Proofs.YtokambhemoeloaaW.PrintWords Go.Proofs.YtokambhemoeloaaW.PrintLast Go.Proofs.YtokambhemoeloaaW.PrintMore Go.Proofs.Ytokambhemoeloaa.PA
open Go.Proofs.Ytokambhemoeloaa.Mp Go.Proofs.Ytokambhemoeloaa.Reg
set_option linter.unusedVariables false
set_option linter.unusedSimpArgs false
def upd {β : Type} (f : S34 → β) (x : S34) (v : β) : S34 → β := fun y => if y = x then v else f y
@[simp] theorem upd_same {β : Type} (f : S34 → β) (x : S34) (v : β) : upd f x v x = v := by simp [upd]
theorem upd_other {β : Type} (f : S34 → β) {x y : S34} (v : β) (h : y ≠ x) : upd f x v y = f y := by simp [upd, h]
def isE (G : GL) (d : S51) : Bool := (gget d.f2 G).isSome && decide (d.f0 = 3)
def p1d (G : GL) (k : S34) : List S51 → (S34 → Int) → (S34 → List S34) → Option ((S34 → Int) × (S34 → List S34))
  | [], O, U => some (O, U)
  | d :: l, O, U => if isE G d then (if (U d.f2).length < 1000000000 then p1d G k l (upd O k (wrap64 (O k + 1))) (upd U d.f2 (U d.f2 ++ [k])) else none) else p1d G k l O U
def p1k (G : GL) : List S34 → (S34 → Int) → (S34 → List S34) → List S34 → Option ((S34 → Int) × (S34 → List S34) × List S34)
  | [], O, U, fr => some (O, U, fr)
  | k :: ks, O, U, fr => (p1d G k ((gget k G).getD []) O U).bind fun s =>
      if s.1 k = 0 then (if fr.length < 1000000000 then p1k G ks s.1 s.2 (fr ++ [k]) else none) else p1k G ks s.1 s.2 fr
def insK (u : S34) (fr : List S34) : List S34 := fr.take (posK u fr) ++ [u] ++ fr.drop (posK u fr)
def p2u : List S34 → (S34 → Int) → List S34 → Option ((S34 → Int) × List S34)
  | [], O, fr => some (O, fr)
  | u :: us, O, fr => if wrap64 (O u - 1) = 0 then (if fr.length < 1000000 ∧ fr.Pairwise (fun x y => ¬ ltK y x) then p2u us (upd O u (wrap64 (O u - 1))) (insK u fr) else none) else p2u us (upd O u (wrap64 (O u - 1))) fr
def p2 (U : S34 → List S34) : Nat → (S34 → Int) → List S34 → List S34 → Option (List S34)
  | 0, _, _, _ => none
  | f + 1, O, [], out => some out
  | f + 1, O, k :: fr, out => if out.length < 1000000000 then (p2u (U k) O fr).bind fun s => p2 U f s.1 s.2 (out ++ [k]) else none
def ordP (G : GL) (f : Nat) (ks : List S34) : Option (List S34) := (p1k G ks (fun _ => 0) (fun _ => []) []).bind fun s => p2 s.2.1 f s.1 s.2.2 []
def MapF (w : World) (b : Nat) (z : Value) (F : S34 → Value) : Prop := ∃ l, MapAt encK w b l ∧ ∀ x, (lget x l).getD z = F x
theorem lget_lput (x y : S34) (v : Value) : ∀ l : List (S34 × Value), lget y (lput x v l) = if y = x then some v else lget y l
  | [] => by by_cases h : y = x <;> simp [lget, lput, h]
  | p :: l => by
    unfold lput
    by_cases h1 : x = p.1
    · rw [if_pos h1]
      unfold lget
      by_cases h : y = x
      · simp [h]
      · rw [if_neg h, if_neg h, if_neg (fun e => h (e.trans h1.symm))]
    · rw [if_neg h1]
      unfold lget
      rw [lget_lput x y v l]
      by_cases h : y = x
      · subst h; rw [if_neg h1]; simp
      · simp [h]
theorem MapF.move {w w1 : World} {b : Nat} {z : Value} {F : S34 → Value} (h : MapF w b z F) (hb : w1.heap[b]? = w.heap[b]?) : MapF w1 b z F := by
  obtain ⟨l, h1, h2⟩ := h
  exact ⟨l, h1.move hb, h2⟩
theorem MapF.lt {w : World} {b : Nat} {z : Value} {F : S34 → Value} (h : MapF w b z F) : b < w.heap.size := by
  obtain ⟨l, h1, h2⟩ := h; exact h1.lt
theorem MapF.made (w : World) (z : Value) : MapF (w.alloc (.map #[] 0)) w.heap.size z (fun _ => z) := ⟨[], MapAt.made _ _, fun x => rfl⟩
theorem MapF.look {w : World} {b T et : Nat} {z : Value} {F : S34 → Value} (h : MapF w b z F) (hT : Try.prog.underlying T = some (.map 34 et)) (hz : ∀ w, (zeroValue et).run Try.prog w = .ok z w) (x : S34) :
    (Instr.lookup T (.map (some b)) (encK x) false).run Try.prog w = .ok (F x) w := by
  obtain ⟨l, h1, h2⟩ := h
  rw [run_lookup keyK hT h1 x z hz false, ← h2]; rfl
theorem MapF.entry {w : World} {b T et : Nat} {z : Value} {F : S34 → Value} (h : MapF w b z F) (hT : Try.prog.underlying T = some (.map 34 et)) (hz : ∀ w, (zeroValue et).run Try.prog w = .ok z w) (x : S34) :
    ∃ w1 s, (Instr.mapEntry T (.map (some b)) (encK x)).run Try.prog w = .ok (.tuple #[F x, .int .i64 (s : Nat)]) w1 ∧ MapF w1 b z F ∧ w.grownBy w1 (some b) ∧ w1.heap.size = w.heap.size ∧
      ∀ w2 v, w2.heap[b]? = w1.heap[b]? → ∃ w3, (Instr.entryStore T (.map (some b)) (.int .i64 (s : Nat)) v).run Try.prog w2 = .ok () w3 ∧ MapF w3 b z (upd F x v) ∧ w2.grownBy w3 (some b) ∧ w3.heap.size = w2.heap.size := by
  obtain ⟨l, h1, h2⟩ := h
  obtain ⟨w1, s, h3, h4, h5, h6, h7, h8⟩ := run_mapEntry keyK hT h1 x z hz
  rw [h2] at h3 h7
  refine ⟨w1, s, h3, ⟨_, h7, fun y => ?_⟩, h4, h5, fun w2 v hw => ?_⟩
  · rw [lget_lput]
    by_cases h : y = x
    · subst h; simp
    · rw [if_neg h]; exact h2 y
  · obtain ⟨w3, k1, k2, k3, k4⟩ := h8 w2 v hw
    refine ⟨w3, k1, ⟨_, k2, fun y => ?_⟩, k3, k4⟩
    rw [lget_lput]
    by_cases h : y = x
    · subst h; simp
    · rw [if_neg h, upd_other _ _ h]; exact h2 y
structure Rows (w : World) (base : Nat) (ok : Nat → Prop) (V : S34 → Value) (U : S34 → List S34) (fv : Value) (fr : List S34) : Prop where
  us : ∀ x, Kd.R k34 34 w base ok (V x) (U x)
  fr : Kd.R k34 34 w base ok fv fr
  ap : ∀ x y k, x ≠ y → (V x).ownBlock = some k → (V y).ownBlock ≠ some k
  af : ∀ x k, (V x).ownBlock = some k → fv.ownBlock ≠ some k
variable {w w1 : World} {base : Nat} {ok ok' : Nat → Prop} {V : S34 → Value} {U : S34 → List S34} {fv : Value} {fr : List S34}
theorem Rows.grown (h : Rows w base ok V U fv fr) {row : Option Nat} (hg : w.grownBy w1 row) (hn : ∀ k, row = some k → ¬ ok k) : Rows w1 base ok V U fv fr :=
  ⟨fun x => Kd.R_grown (h.us x) hg (fun k hk e => hn k e.symm hk), Kd.R_grown h.fr hg (fun k hk e => hn k e.symm hk), h.ap, h.af⟩
theorem Rows.below (h : Rows w base ok V U fv fr) (hb : Below w.heap.size w w1) : Rows w1 base ok V U fv fr :=
  ⟨fun x => Kd.R_below (h.us x) hb, Kd.R_below h.fr hb, h.ap, h.af⟩
theorem Rows.mono (h : Rows w base ok V U fv fr) (hk : ∀ k, ok k → ok' k) : Rows w base ok' V U fv fr :=
  ⟨fun x => Kd.R_mono (h.us x) hk, Kd.R_mono h.fr hk, h.ap, h.af⟩
theorem Rows.reok (h : Rows w base ok V U fv fr) (hk : ∀ k, ok k → k < w.heap.size → (∃ cs, w.heap[k]? = some (.cells cs 34 (0, 0))) → ok' k) : Rows w base ok' V U fv fr :=
  ⟨fun x => Kd.R_reok rfl (h.us x) (fun k e => hk k ((h.us x).1 k e) (Kd.R_lt (h.us x) k e) (Kd.R_typed (h.us x) k e)), Kd.R_reok rfl h.fr (fun k e => hk k (h.fr.1 k e) (Kd.R_lt h.fr k e) (Kd.R_typed h.fr k e)), h.ap, h.af⟩
theorem Rows.push_us (h : Rows w base ok V U fv fr) (x : S34) {v1 : Value} {l : List S34} (hR : Kd.R k34 34 w1 base ok v1 l) (hg : w.grownBy w1 (V x).ownBlock) (hat : v1.ownBlock = (V x).ownBlock ∨ ∃ b, v1.ownBlock = some b ∧ w.heap.size ≤ b) :
    Rows w1 base ok (upd V x v1) (upd U x l) fv fr := by
  have own1 : ∀ y k, y ≠ x → (V y).ownBlock = some k → v1.ownBlock ≠ some k := fun y k hy e he => by
    rcases hat with hat | ⟨b, hb, hle⟩
    · exact h.ap y x k hy e (hat ▸ he)
    · have := Kd.R_lt (h.us y) k e
      rw [hb] at he; injection he with he; omega
  have ownf : ∀ k, fv.ownBlock = some k → v1.ownBlock ≠ some k := fun k e he => by
    rcases hat with hat | ⟨b, hb, hle⟩
    · exact h.af x k (hat ▸ he) e
    · have := Kd.R_lt h.fr k e
      rw [hb] at he; injection he with he; omega
  refine ⟨fun y => ?_, Kd.R_grown2 h.fr rfl hg (fun k e he => h.af x k e he.symm), fun y z k hyz e he => ?_, fun y k e he => ?_⟩
  · by_cases hy : y = x
    · subst hy; simpa using hR
    · rw [upd_other _ _ hy, upd_other _ _ hy]
      exact Kd.R_grown2 (h.us y) rfl hg (fun k e he => h.ap y x k hy he.symm e)
  · by_cases hy : y = x
    · subst hy
      rw [upd_same] at e
      rw [upd_other _ _ (fun e => hyz e.symm)] at he
      exact own1 z k (fun e => hyz e.symm) he e
    · rw [upd_other _ _ hy] at e
      by_cases hz : z = x
      · subst hz; rw [upd_same] at he; exact own1 y k hy e he
      · rw [upd_other _ _ hz] at he; exact h.ap y z k hyz e he
  · by_cases hy : y = x
    · subst hy; rw [upd_same] at e; exact ownf k he e
    · rw [upd_other _ _ hy] at e; exact h.af y k e he
theorem Rows.push_fr (h : Rows w base ok V U fv fr) {v1 : Value} {l : List S34} (hR : Kd.R k34 34 w1 base ok v1 l) (hg : w.grownBy w1 fv.ownBlock) (hat : v1.ownBlock = fv.ownBlock ∨ ∃ b, v1.ownBlock = some b ∧ w.heap.size ≤ b) :
    Rows w1 base ok V U v1 l := by
  refine ⟨fun y => Kd.R_grown2 (h.us y) rfl hg (fun k e he => h.af y k he.symm e), hR, h.ap, fun y k e he => ?_⟩
  rcases hat with hat | ⟨b, hb, hle⟩
  · exact h.af y k e (hat ▸ he)
  · have := Kd.R_lt (h.us y) k e
    rw [hb] at he; injection he with he; omega
end Go.Proofs.Ytokambhemoeloaa.G
end
section
namespace Go.Proofs.Ytokambhemoeloaa.G
open Go.RowKit Go.Proofs.YtokambhemoeloaaW.PrintWords Go.Proofs.YtokambhemoeloaaW.PrintLast Go.Proofs.YtokambhemoeloaaW.PrintMore Go.Proofs.Ytokambhemoeloaa.PA
open Go.Proofs.Ytokambhemoeloaa.Mp Go.Proofs.Ytokambhemoeloaa.Reg
set_option linter.unusedVariables false
set_option linter.unusedSimpArgs false
structure Rows2 (w : World) (base : Nat) (ok : Nat → Prop) (V : S34 → Value) (U : S34 → List S34) (fv : Value) (fr : List S34) (ov : Value) (o2 : List S34) : Prop where
  us : ∀ x, Kd.R k34 34 w base ok (V x) (U x)
  fr : Kd.Q k34 34 w base ok fv fr
  ou : Kd.R k34 34 w base ok ov o2
  af : ∀ x k, (V x).ownBlock = some k → fv.ownBlock ≠ some k ∧ ov.ownBlock ≠ some k
  fo : ∀ k, fv.ownBlock = some k → ov.ownBlock ≠ some k
variable {w w1 : World} {base : Nat} {ok ok' : Nat → Prop} {V : S34 → Value} {U : S34 → List S34} {fv ov : Value} {fr o2 : List S34}
theorem Rows2.start (h : Rows w base ok V U fv fr) : Rows2 w base ok V U fv fr (.slice none 0 0) [] :=
  ⟨h.us, Kd.Q_of_R h.fr, Kd.R_nil _ _ _ _ _, fun x k e => ⟨h.af x k e, by simp [Value.ownBlock]⟩, fun k e => by simp [Value.ownBlock]⟩
theorem Rows2.grown (h : Rows2 w base ok V U fv fr ov o2) {row : Option Nat} (hg : w.grownBy w1 row) (hn : ∀ k, row = some k → ¬ ok k) : Rows2 w1 base ok V U fv fr ov o2 :=
  ⟨fun x => Kd.R_grown (h.us x) hg (fun k hk e => hn k e.symm hk), Kd.Q_grown h.fr hg (fun k hk e => hn k e.symm hk), Kd.R_grown h.ou hg (fun k hk e => hn k e.symm hk), h.af, h.fo⟩
theorem Rows2.below (h : Rows2 w base ok V U fv fr ov o2) (hb : Below w.heap.size w w1) : Rows2 w1 base ok V U fv fr ov o2 :=
  ⟨fun x => Kd.R_below (h.us x) hb, Kd.Q_below h.fr hb, Kd.R_below h.ou hb, h.af, h.fo⟩
theorem Rows2.mono (h : Rows2 w base ok V U fv fr ov o2) (hk : ∀ k, ok k → ok' k) : Rows2 w base ok' V U fv fr ov o2 :=
  ⟨fun x => Kd.R_mono (h.us x) hk, Kd.Q_mono h.fr hk, Kd.R_mono h.ou hk, h.af, h.fo⟩
theorem Q_reok {v : Value} {l : List S34} (h : Kd.Q k34 34 w base ok v l) (hk : ∀ k, v.ownBlock = some k → ok' k) : Kd.Q k34 34 w base ok' v l := Kd.Q_mono (Kd.Q_tight rfl h) (fun k e => hk k e.symm)
theorem Rows2.reok (h : Rows2 w base ok V U fv fr ov o2) (hk : ∀ k, ok k → k < w.heap.size → ok' k) : Rows2 w base ok' V U fv fr ov o2 :=
  ⟨fun x => Kd.R_reok rfl (h.us x) (fun k e => hk k ((h.us x).1 k e) (Kd.R_lt (h.us x) k e)), Q_reok h.fr (fun k e => hk k (h.fr.1 k e) (Kd.Q_lt h.fr k e)), Kd.R_reok rfl h.ou (fun k e => hk k (h.ou.1 k e) (Kd.R_lt h.ou k e)), h.af, h.fo⟩
theorem Rows2.push_ou (h : Rows2 w base ok V U fv fr ov o2) {v1 : Value} {l : List S34} (hR : Kd.R k34 34 w1 base ok v1 l) (hg : w.grownBy w1 ov.ownBlock) (hat : v1.ownBlock = ov.ownBlock ∨ ∃ b, v1.ownBlock = some b ∧ w.heap.size ≤ b) :
    Rows2 w1 base ok V U fv fr v1 l := by
  refine ⟨fun y => Kd.R_grown2 (h.us y) rfl hg (fun k e he => (h.af y k he.symm).2 e), Kd.Q_grown2 h.fr rfl hg (fun k e he => h.fo k he.symm e), hR, fun y k e => ⟨(h.af y k e).1, fun he => ?_⟩, fun k e he => ?_⟩
  · rcases hat with hat | ⟨b, hb, hle⟩
    · exact (h.af y k e).2 (hat ▸ he)
    · have := Kd.R_lt (h.us y) k e
      rw [hb] at he; injection he with he; omega
  · rcases hat with hat | ⟨b, hb, hle⟩
    · exact h.fo k e (hat ▸ he)
    · have := Kd.Q_lt h.fr k e
      rw [hb] at he; injection he with he; omega
theorem Rows2.set_fr (h : Rows2 w base ok V U fv fr ov o2) {v1 : Value} {l : List S34} (hR : Kd.Q k34 34 w1 base ok v1 l) (hg : w.grownBy w1 fv.ownBlock) (hat : v1.ownBlock = fv.ownBlock ∨ ∃ b, v1.ownBlock = some b ∧ w.heap.size ≤ b) :
    Rows2 w1 base ok V U v1 l ov o2 := by
  refine ⟨fun y => Kd.R_grown2 (h.us y) rfl hg (fun k e he => (h.af y k he.symm).1 e), hR, Kd.R_grown2 h.ou rfl hg (fun k e he => h.fo k e he.symm), fun y k e => ⟨fun he => ?_, (h.af y k e).2⟩, fun k e he => ?_⟩
  · rcases hat with hat | ⟨b, hb, hle⟩
    · exact (h.af y k e).1 (hat ▸ he)
    · have := Kd.R_lt (h.us y) k e
      rw [hb] at he; injection he with he; omega
  · rcases hat with hat | ⟨b, hb, hle⟩
    · exact h.fo k (hat ▸ e) he
    · have := Kd.R_lt h.ou k he
      rw [hb] at e; injection e with e; omega
theorem Rows2.cut {g o n c : Nat} (h : Rows2 w base ok V U (.slice (some ⟨g, o, none⟩) n c) fr ov o2) {v1 : Value} {l : List S34} (hQ : Kd.Q k34 34 w base ok v1 l) (hat : ∀ k, v1.ownBlock = some k → k = g) : Rows2 w base ok V U v1 l ov o2 :=
  ⟨h.us, hQ, h.ou, fun y k e => ⟨fun he => (h.af y k e).1 (by rw [hat k he]; rfl), (h.af y k e).2⟩, fun k e => h.fo k (by rw [hat k e]; rfl)⟩
end Go.Proofs.Ytokambhemoeloaa.G
end
section
namespace Go.Proofs.Ytokambhemoeloaa.G
open Go.RowKit Go.Proofs.YtokambhemoeloaaW.PrintWords Go.Proofs.YtokambhemoeloaaW.PrintLast Go.Proofs.YtokambhemoeloaaW.PrintMore Go.Proofs.Ytokambhemoeloaa.PA
open Go.Proofs.Ytokambhemoeloaa.Mp Go.Proofs.Ytokambhemoeloaa.Reg
set_option linter.unusedVariables false
set_option linter.unusedSimpArgs false
theorem C_key {w : World} {g : Nat} {k : S34} (h : w.heap[g]? = some (.cells #[.int .i64 k.f0, .int .i64 k.f1, .int .i64 k.f2] 34 (0, 0))) : Kd.C k34 w (some ⟨g, 0, none⟩) 1 [k] := by
  refine ⟨rfl, by omega, fun _ => ⟨_, rfl, fun j p hj => ?_⟩⟩
  match j, hj with
  | 0, hj =>
    simp at hj; subst hj
    refine ⟨celK k, rfl, k34_mk _ _, fun i u hu => ?_⟩
    rw [show Addr.add ⟨g, 0, none⟩ (0 * k34.sz + i) = ⟨g, i, none⟩ from by unfold Addr.add; split <;> simp_all, blk_cell h i]
    simpa [celK] using hu
  | j + 1, hj => simp at hj
abbrev zI : Value := .int .i64 0
abbrev zS : Value := .slice none 0 0
set_option maxHeartbeats 16000000 in
set_option maxRecDepth 100000 in
theorem Order_calls (w : World) (gb mb : Nat) (G : GL) (h : GAt w gb mb G) (hG : G.length ≤ 1000000) (f : Nat) (out : List S34) (hks : ∀ ks : List S34, ks.Perm (G.map (·.1)) → ks.Pairwise (fun x y => ¬ ltK y x) → ordP G f ks = some out) :
    Calls Try.prog 12 #[.pointer (some ⟨gb, 0, none⟩)] w fun e w' => ∃ v, e = .returned (.tuple #[v, .int .i64 (if out.length < G.length then 25 else 0)]) ∧ Kd.R k34 34 w' w.heap.size (fun _ => True) v (if out.length < G.length then [] else out) ∧ Below w.heap.size w w' := by
  have hlt' := h.lt
  have hmm := @run_makeMap Try.prog
  go_enter Try.func12, Try.ntmps12
  go_wp2_with fail
  refine (sorted_calls _ gb mb G (h.below (by repeat (first | exact Below.refl _ _ | assumption | with_reducible apply below_alloc | with_reducible apply pw_below_drewN | with_reducible apply below_drew))) hG).mono ?_
  rintro e w1 ⟨kv, ks, rfl, hkR, hkp, hkw, hkB⟩
  have hord := Lib.hid (hks ks hkp hkw)
  clear hks hmm
  have hkl := Lib.hid (show ks.length = G.length by have := hkp.length_eq; simpa using this)
  have hkm : ks.length ≤ 1000000 := by rw [hkl.out]; exact hG
  have hB0 : Below w.heap.size w ((w.alloc (.map #[] 0)).alloc (.map #[] 0)) := (by repeat (first | exact Below.refl _ _ | assumption | with_reducible apply below_alloc | with_reducible apply pw_below_drewN | with_reducible apply below_drew))
  have hB1 := below_then hB0 hB0.size hkB
  have hbo : MapF w1 w.heap.size zI (fun _ => zI) := (MapF.made w zI).move (by rw [hkB.block _ (by simp; omega)]; exact Below.heap_alloc _ _ _ (by simp))
  have hbu : MapF w1 (w.heap.size + 1) zS (fun _ => zS) := by
    have := MapF.made (w.alloc (.map #[] 0)) zS
    rw [World.size_alloc] at this
    exact this.move (hkB.block _ (by simp))
  obtain ⟨kA, kc, rfl, hkc, hkC⟩ := Kd.R_reads hkR
  obtain ⟨kb, hkb, hkok⟩ : ∃ kb : Nat → Prop, kb = (fun k => (Value.slice kA ks.length kc).ownBlock = some k) ∧ ∀ W, w1.heap.size ≤ W.heap.size → (∀ k, kb k → W.heap[k]? = w1.heap[k]?) → Kd.C k34 W kA ks.length ks := by
    refine ⟨_, rfl, fun W hW hk => ?_⟩
    have := Kd.R_move (Kd.R_tight rfl hkR) (w1 := W) (fun k e => hk k e.symm)
    exact (Kd.R_reads' this).2.2
  have hHH := Lib.hid (And.intro hkR (And.intro hkw (And.intro hkB (And.intro hB0 hkp))))
  have hkblt : ∀ k, kb k → k < w1.heap.size := fun k hk => by subst hkb; exact Kd.R_lt hkR k hk
  have hkbge : ∀ k, kb k → w.heap.size + 2 ≤ k := fun k hk => by subst hkb; have := Kd.R_base hkR k hk; simpa using this
  have hw1s : w.heap.size + 2 ≤ w1.heap.size := by have := hkB.size; simpa using this
  clear hkR hkw hkB hB0 hkp hkC hkb
  go_wp2
  go_loopg [6, 24] ks.length (fun g s6 s24 wr => ∃ (fv : Value) (i : Nat) (O : S34 → Int) (V : S34 → Value) (U : S34 → List S34) (fr : List S34), fv = s6 ∧ s24 = .int .i64 i ∧ i ≤ ks.length ∧ ks.length - i ≤ g ∧ Hid ((p1k G (ks.drop i) O U fr).bind (fun s => p2 s.2.1 f s.1 s.2.2 []) = some out) ∧ Below w.heap.size w wr ∧ w1.heap.size ≤ wr.heap.size ∧ (∀ k, kb k → wr.heap[k]? = w1.heap[k]?) ∧ Rows wr w.heap.size (fun k => ¬ kb k ∧ k ≠ w.heap.size ∧ k ≠ w.heap.size + 1) V U fv fr ∧ MapF wr w.heap.size zI (fun x => .int .i64 (O x)) ∧ MapF wr (w.heap.size + 1) zS V)
  case atStart =>
    refine ⟨_, 0, _, _, fun _ => [], [], rfl, rfl, Nat.zero_le _, by omega, hord.out, hB1, Nat.le_refl _, fun _ _ => rfl, ⟨fun x => Kd.R_nil _ _ _ _ _, Kd.R_nil _ _ _ _ _, fun x y k _ e => by simp [Value.ownBlock] at e, fun x k e => by simp [Value.ownBlock] at e⟩, hbo, hbu⟩
  case round =>
    obtain ⟨fv, i, O, V, U, fr, rfl, rfl, hil, hg, hp, hB, hws, hkk, hRw, hMo, hMu⟩ := hrel
    by_cases hlt : i < ks.length
    · obtain ⟨ad, rfl, c0, c1, c2⟩ := at_T34 (hkok wr hws hkk) i (by omega) (by omega)
      simp only [Int.toNat_natCast] at c0 c1 c2
      rw [rd34 hlt] at c0 c1 c2
      have hd : ks.drop i = ks[i] :: ks.drop (i + 1) := List.drop_eq_getElem_cons hlt
      rw [hd] at hp
      generalize ks[i] = k at *
      have hli : (i : Int) < (ks.length : Int) := by omega
      obtain ⟨v, hrow, hlk, hlk2⟩ := h.look k
      obtain ⟨Av, cv, rfl, hcv, hCv⟩ := hrow
      have hlmax := hCv.2.1
      have hp : Hid (((p1d G k ((gget k G).getD []) O U).bind fun s => if s.1 k = 0 then (if fr.length < 1000000000 then p1k G (ks.drop (i + 1)) s.1 s.2 (fr ++ [k]) else none) else p1k G (ks.drop (i + 1)) s.1 s.2 fr).bind (fun s => p2 s.2.1 f s.1 s.2.2 []) = some out) := hp.out
      generalize (gget k G).getD [] = l at *
      go_wp2_with fail
      obtain ⟨W7, hW7⟩ : ∃ W, W = wr.alloc (.cells #[.int .i64 k.f0, .int .i64 k.f1, .int .i64 k.f2] 34) := ⟨_, rfl⟩
      rw [← hW7]
      have hB7 : Below w.heap.size w W7 := by rw [hW7]; exact (by repeat (first | exact Below.refl _ _ | assumption | with_reducible apply below_alloc | with_reducible apply pw_below_drewN | with_reducible apply below_drew))
      have hB7r : Below wr.heap.size wr W7 := by rw [hW7]; exact (by repeat (first | exact Below.refl _ _ | assumption | with_reducible apply below_alloc | with_reducible apply pw_below_drewN | with_reducible apply below_drew))
      have hbx7 : W7.heap[wr.heap.size]? = some (.cells #[.int .i64 k.f0, .int .i64 k.f1, .int .i64 k.f2] 34 (0, 0)) := by rw [hW7]; show (wr.heap.push _)[wr.heap.size]? = _; simp
      have q0 := fun d os => cell_regrown (pw_cell_below hB7 h.cell) d os
      have q1 := fun d os => cell_regrown (show W7.cell? ⟨wr.heap.size, 0, none⟩ = some (.int .i64 k.f0) from (blk_cell hbx7 0).trans rfl) d os
      have q2 := fun d os => cell_regrown (show W7.cell? ⟨wr.heap.size, 1, none⟩ = some (.int .i64 k.f1) from (blk_cell hbx7 1).trans rfl) d os
      have q3 := fun d os => cell_regrown (show W7.cell? ⟨wr.heap.size, 2, none⟩ = some (.int .i64 k.f2) from (blk_cell hbx7 2).trans rfl) d os
      have hm7 : W7.heap[mb]? = w.heap[mb]? := hB7.block mb hlt'.2
      have q4 := fun d os => hlk (Go.Sort.grow (redrawn W7 d) os) (((below_regrown W7 d os).block mb (Nat.lt_of_lt_of_le hlt'.2 hB7.size)).trans hm7)
      unfold encK at q4
      clear hW7
      refine region_below (W7) (by kernel_rfl) (by kernel_rfl) ?_; (repeat (refine WQ.step (fun K hK => ?_); go_simp; first | (refine hK _ ?_; clear hK K) | (apply Exists.intro; refine ⟨fun _ => ?_, hK _ ?_⟩; (fail); clear hK K))); refine WQ.nil ?_; intro wq hQB
      have hB8 := below_then hB7 hB7.size hQB
      have hB8r := below_then hB7r hB7r.size hQB
      have hbx8 := (hQB.block wr.heap.size (blk_lt hbx7)).trans hbx7
      have hws8 : w1.heap.size ≤ wq.heap.size := Nat.le_trans hws hB8r.size
      have hbxn : w1.heap.size ≤ wr.heap.size := hws
      have hk8 : ∀ q, kb q → wq.heap[q]? = w1.heap[q]? := fun q hq => (hB8r.block q (Nat.lt_of_lt_of_le (hkblt q hq) hws)).trans (hkk q hq)
      have hR8 := (hRw.reok (ok' := fun q => (¬ kb q ∧ q ≠ w.heap.size ∧ q ≠ w.heap.size + 1) ∧ q ≠ wr.heap.size) (fun q hq hl _ => ⟨hq, by omega⟩)).below hB8r
      have hO8 := hMo.move (hB8r.block _ hMo.lt)
      have hU8 := hMu.move (hB8r.block _ hMu.lt)
      clear q0 q1 q2 q3 q4 hbx7 hm7 hQB hB7 hB7r c0 c1 c2
      have hbz := Nat.le_trans hws8 (Nat.le_refl _)
      have hold := Lib.hid (And.intro hRw (And.intro hMo (And.intro hMu (And.intro hkk hB))))
      clear hRw hMo hMu hkk hB
      obtain ⟨wo, hwo⟩ : ∃ wo, wo = wr := ⟨_, rfl⟩
      subst hwo
      go_wp2
      go_loopg [35] l.length (fun g2 s35 wr => ∃ (j : Nat) (O : S34 → Int) (V : S34 → Value) (U : S34 → List S34), s35 = .int .i64 j ∧ j ≤ l.length ∧ l.length - j ≤ g2 ∧ Hid (((p1d G k (l.drop j) O U).bind fun s => if s.1 k = 0 then (if fr.length < 1000000000 then p1k G (ks.drop (i + 1)) s.1 s.2 (fr ++ [k]) else none) else p1k G (ks.drop (i + 1)) s.1 s.2 fr).bind (fun s => p2 s.2.1 f s.1 s.2.2 []) = some out) ∧ Below w.heap.size w wr ∧ wo.heap.size < wr.heap.size ∧ (∀ q, kb q → wr.heap[q]? = w1.heap[q]?) ∧ Rows wr w.heap.size (fun q => (¬ kb q ∧ q ≠ w.heap.size ∧ q ≠ w.heap.size + 1) ∧ q ≠ wo.heap.size) V U fv fr ∧ MapF wr w.heap.size zI (fun x => .int .i64 (O x)) ∧ MapF wr (w.heap.size + 1) zS V ∧ wr.heap[wo.heap.size]? = some (.cells #[.int .i64 k.f0, .int .i64 k.f1, .int .i64 k.f2] 34 (0, 0)))
      case atStart => exact ⟨0, O, V, U, rfl, Nat.zero_le _, by omega, hp.out, hB8, blk_lt hbx8, hk8, hR8, hO8, hU8, hbx8⟩
      case round =>
        obtain ⟨j, O, V, U, rfl, hjl, hg2, hp, hB, hwl, hkk, hRw, hMo, hMu, hbx⟩ := hrel
        clear hB8 hB8r hbx8 hk8 hR8 hO8 hU8
        by_cases hlt2 : j < l.length
        · obtain ⟨ad2, rfl, c0, c1, c2, c3, c4⟩ := at_T51 (Kd.C_below hCv hB) j (by omega) (by omega)
          simp only [Int.toNat_natCast] at c0 c1 c2 c3 c4
          rw [rd51 hlt2] at c0 c1 c2 c3 c4
          have hd : l.drop j = l[j] :: l.drop (j + 1) := List.drop_eq_getElem_cons hlt2
          rw [hd] at hp
          generalize l[j] = d at *
          clear hd
          have hlj : (j : Int) < (l.length : Int) := by omega
          go_wp2_with fail
          obtain ⟨W9, hW9⟩ : ∃ W, W = wr.alloc (.cells #[.int .i64 d.f0, .int .i64 d.f1, .int .i64 d.f2.f0, .int .i64 d.f2.f1, .int .i64 d.f2.f2] 51) := ⟨_, rfl⟩
          rw [← hW9]
          have hB9 : Below w.heap.size w W9 := by rw [hW9]; exact (by repeat (first | exact Below.refl _ _ | assumption | with_reducible apply below_alloc | with_reducible apply pw_below_drewN | with_reducible apply below_drew))
          have hB9r : Below wr.heap.size wr W9 := by rw [hW9]; exact (by repeat (first | exact Below.refl _ _ | assumption | with_reducible apply below_alloc | with_reducible apply pw_below_drewN | with_reducible apply below_drew))
          have hby : W9.heap[wr.heap.size]? = some (.cells #[.int .i64 d.f0, .int .i64 d.f1, .int .i64 d.f2.f0, .int .i64 d.f2.f1, .int .i64 d.f2.f2] 51 (0, 0)) := by rw [hW9]; show (wr.heap.push _)[wr.heap.size]? = _; simp
          have hbx9 := (hB9r.block wo.heap.size hwl).trans hbx
          obtain ⟨vd, _, _, hlkd⟩ := h.look d.f2
          have q0 := fun d os => cell_regrown (pw_cell_below hB9 h.cell) d os
          have q1 := fun d' os => cell_regrown (show W9.cell? ⟨wr.heap.size, 0, none⟩ = some (.int .i64 d.f0) from (blk_cell hby 0).trans rfl) d' os
          have q2 := fun d' os => cell_regrown (show W9.cell? ⟨wr.heap.size, 2, none⟩ = some (.int .i64 d.f2.f0) from (blk_cell hby 2).trans rfl) d' os
          have q3 := fun d' os => cell_regrown (show W9.cell? ⟨wr.heap.size, 3, none⟩ = some (.int .i64 d.f2.f1) from (blk_cell hby 3).trans rfl) d' os
          have q4 := fun d' os => cell_regrown (show W9.cell? ⟨wr.heap.size, 4, none⟩ = some (.int .i64 d.f2.f2) from (blk_cell hby 4).trans rfl) d' os
          have hm9 : W9.heap[mb]? = w.heap[mb]? := hB9.block mb hlt'.2
          have q5 := fun d' os => hlkd (Go.Sort.grow (redrawn W9 d') os) (((below_regrown W9 d' os).block mb (Nat.lt_of_lt_of_le hlt'.2 hB9.size)).trans hm9)
          unfold encK at q5
          clear hW9
          refine region_below (W9) (by kernel_rfl) (by kernel_rfl) ?_; (repeat (refine WQ.step (fun K hK => ?_); go_simp; first | (refine hK _ ?_; clear hK K) | (apply Exists.intro; refine ⟨fun _ => ?_, hK _ ?_⟩; (fail); clear hK K))); refine WQ.nil ?_; intro wq hQB
          have hB10 := below_then hB9 hB9.size hQB
          have hB10r := below_then hB9r hB9r.size hQB
          have hby10 := (hQB.block wr.heap.size (blk_lt hby)).trans hby
          have hbx10 := (hQB.block wo.heap.size (blk_lt hbx9)).trans hbx9
          have hk10 : ∀ q, kb q → wq.heap[q]? = w1.heap[q]? := fun q hq => (hB10r.block q (by have := hkblt q hq; omega)).trans (hkk q hq)
          have hR10 := (hRw.reok (ok' := fun q => ((¬ kb q ∧ q ≠ w.heap.size ∧ q ≠ w.heap.size + 1) ∧ q ≠ wo.heap.size) ∧ q ≠ wr.heap.size) (fun q hq hl _ => ⟨hq, by omega⟩)).below hB10r
          have hO10 := hMo.move (hB10r.block _ hMo.lt)
          have hU10 := hMu.move (hB10r.block _ hMu.lt)
          have hwl10 : wo.heap.size < wq.heap.size := blk_lt hbx10
          have hy0 : wq.cell? ⟨wr.heap.size, 0, none⟩ = some (.int .i64 d.f0) := (blk_cell hby10 0).trans rfl
          clear q0 q1 q2 q3 q4 q5 hQB hB9 hB9r hby hbx9 hRw hMo hMu hkk hbx hB hm9 hlkd c0 c1 c2 c3 c4
          have hb : isE G d = ((gget d.f2 G).isSome && decide (d.f0 = 3)) := rfl
          generalize (gget d.f2 G).isSome = b at *
          by_cases hbE : b = true ∧ d.f0 = 3
          · obtain ⟨rfl, hd3⟩ := hbE
            have h1 := hp.out
            rw [p1d, hb, if_pos (by simp [hd3])] at h1
            have hul : (U d.f2).length < 1000000000 := by
              by_cases hul : (U d.f2).length < 1000000000
              · exact hul
              · rw [if_neg hul] at h1; cases h1
            rw [if_pos hul] at h1
            have hp1 := Lib.hid h1
            clear h1 hp hb
            have hO12 := hO10.move (w1 := wq.drew) rfl
            have L0 := hO12.look Try.underlying82 Try.zeroValue3 k
            obtain ⟨w2, st, hme, hO2, hgr2, hs2, hes⟩ := hO12.entry Try.underlying82 Try.zeroValue3 k
            have L1 := hO2.look Try.underlying82 Try.zeroValue3 k
            obtain ⟨w3, hst, hO3, hgr3, hs3⟩ := hes w2 (.int .i64 (wrap64 (O k + 1))) rfl
            have hgr : wq.grownBy w3 (some w.heap.size) := World.grownBy.trans (World.grownBy.trans (grown_draw wq 1 _) hgr2) hgr3
            have hne1 : some wo.heap.size ≠ some w.heap.size := fun e => by injection e; omega
            have hbx2 := (hgr2.block wo.heap.size hwl10 hne1).trans hbx10
            have a0 : wq.cell? ⟨wo.heap.size, 0, none⟩ = some (.int .i64 k.f0) := (blk_cell hbx10 0).trans rfl
            have a1 : wq.cell? ⟨wo.heap.size, 1, none⟩ = some (.int .i64 k.f1) := (blk_cell hbx10 1).trans rfl
            have a2 : wq.cell? ⟨wo.heap.size, 2, none⟩ = some (.int .i64 k.f2) := (blk_cell hbx10 2).trans rfl
            have b0 : w2.cell? ⟨wo.heap.size, 0, none⟩ = some (.int .i64 k.f0) := (blk_cell hbx2 0).trans rfl
            have b1 : w2.cell? ⟨wo.heap.size, 1, none⟩ = some (.int .i64 k.f1) := (blk_cell hbx2 1).trans rfl
            have b2 : w2.cell? ⟨wo.heap.size, 2, none⟩ = some (.int .i64 k.f2) := (blk_cell hbx2 2).trans rfl
            have hG3 := Lib.hid (And.intro hgr (And.intro hO3 (And.intro hs3 (And.intro hB10 (And.intro hk10 (And.intro hR10 (And.intro hU10 (And.intro hbx10 hby10))))))))
            unfold encK at L0 L1 hme
            clear hgr hO3 hs3 hB10 hB10r hk10 hR10 hU10 hbx10 hby10 hbx2 hgr2 hgr3 hO12 hO10 hO2 hes
            go_wp2_with fail
            go_region
            clear a0 a1 a2 b0 b1 b2 L0 L1 hme hst
            obtain ⟨hgr, hO3, hs3, hB10, hk10, hR10, hU10, hbx10, hby10⟩ := hG3.out
            clear hG3
            have hwq3 := hgr.size
            have hneb : ∀ q, q ≠ w.heap.size → some q ≠ some w.heap.size := fun q hq e => hq (by injection e)
            have hbx3 := (hgr.block wo.heap.size hwl10 (hneb _ (by omega))).trans hbx10
            have hby3 := (hgr.block wr.heap.size (blk_lt hby10) (hneb _ (by omega))).trans hby10
            have hR3 := hR10.grown hgr (fun q hq => by injection hq with hq; subst hq; exact fun hh => hh.1.1.2.1 rfl)
            have hU3 := hU10.move (hgr.block (w.heap.size + 1) hU10.lt (hneb _ (by omega)))
            have hk3 : ∀ q, kb q → w3.heap[q]? = w1.heap[q]? := fun q hq => (hgr.block q (by have := hkblt q hq; omega) (hneb _ (by have := hkbge q hq; omega))).trans (hk10 q hq)
            have hB3 : Below w.heap.size w w3 := hB10.grown hgr hB10.size (fun q hq => by injection hq with hq; omega)
            have a0 : w3.cell? ⟨wo.heap.size, 0, none⟩ = some (.int .i64 k.f0) := (blk_cell hbx3 0).trans rfl
            have a1 : w3.cell? ⟨wo.heap.size, 1, none⟩ = some (.int .i64 k.f1) := (blk_cell hbx3 1).trans rfl
            have a2 : w3.cell? ⟨wo.heap.size, 2, none⟩ = some (.int .i64 k.f2) := (blk_cell hbx3 2).trans rfl
            have b2 : w3.cell? ⟨wr.heap.size, 2, none⟩ = some (.int .i64 d.f2.f0) := (blk_cell hby3 2).trans rfl
            have b3 : w3.cell? ⟨wr.heap.size, 3, none⟩ = some (.int .i64 d.f2.f1) := (blk_cell hby3 3).trans rfl
            have b4 : w3.cell? ⟨wr.heap.size, 4, none⟩ = some (.int .i64 d.f2.f2) := (blk_cell hby3 4).trans rfl
            have hU13 := hU3.move (w1 := w3.alloc (.cells #[.int .i64 k.f0, .int .i64 k.f1, .int .i64 k.f2] 34)) (Below.heap_alloc _ _ _ hU3.lt)
            obtain ⟨w4, st4, hme4, hU4, hgr4, hs4, hes4⟩ := hU13.entry Try.underlying83 Try.zeroValue41 d.f2
            have hR4 := (hR3.below (w1 := w3.alloc (.cells #[.int .i64 k.f0, .int .i64 k.f1, .int .i64 k.f2] 34)) (by repeat (first | exact Below.refl _ _ | assumption | with_reducible apply below_alloc | with_reducible apply pw_below_drewN | with_reducible apply below_drew))).grown hgr4 (fun q hq => by injection hq with hq; subst hq; exact fun hh => hh.1.1.2.2 rfl)
            have hnb4 : w4.heap[w3.heap.size]? = some (.cells #[.int .i64 k.f0, .int .i64 k.f1, .int .i64 k.f2] 34 (0, 0)) := by
              rw [hgr4.block w3.heap.size (by simp) (fun e => by injection e with e; have := hU3.lt; omega)]
              show (w3.heap.push _)[w3.heap.size]? = _; simp
            have hCk : Kd.C k34 w4 (some ⟨w3.heap.size, 0, none⟩) 1 [k] := C_key hnb4
            have hlU4 := hU4.lt
            have hs4p : w4.heap.size = w3.heap.size + 1 := by simpa using hs4
            have hwrq : wr.heap.size < wq.heap.size := blk_lt hby10
            have hown5 : ∀ q, (V d.f2).ownBlock = some q → ((¬ kb q ∧ q ≠ w.heap.size ∧ q ≠ w.heap.size + 1) ∧ q ≠ wo.heap.size) ∧ q ≠ wr.heap.size := (hR4.us d.f2).1
            have hR4h := Lib.hid hR4
            have hG4 := Lib.hid (And.intro hB3 (And.intro hO3 (And.intro hk3 (And.intro hbx3 (And.intro hU4 (And.intro hgr4 (And.intro hgr hs4)))))))
            unfold encK at hme4
            clear hB3 hO3 hk3 hbx3 hby3 hU4 hgr4 hU13 hU3 hU10 hR3 hR10 hbx10 hby10 hk10 hB10 hgr hs4 hs3
            go_wp2_with (at_builtin; go_must (refine Kd.R_append_rows k34 (Rr := k34.K w4) (w0 := w4) w.heap.size rfl (.tmp 64) (.tmp 66) 41 34 (.agg #[(.int .i64 0), (.int .i64 0), (.int .i64 0)]) 24 rfl Try.underlying41 info34 rfl ?hs0 ?hb0 (V d.f2) (U d.f2) [k] (some ⟨w3.heap.size, 0, none⟩) 1 1 (fun q => ((¬ kb q ∧ q ≠ w.heap.size ∧ q ≠ w.heap.size + 1) ∧ q ≠ wo.heap.size) ∧ q ≠ wr.heap.size) (fun _ => False) rfl rfl (hR4.us d.f2) hCk (fun x cs h => by rw [k34_open h]; exact k34_mkM _ _ _ _) (fun _ h => h.elim) ?hfr ?h4 ?h5 ?h6 ?_); rotate_right; intro v5 w5 ho5 hb5 hg5 hat5; obtain ⟨w6, hst6, hU6, hgr6, hs6⟩ := hes4 w5 v5 (hg5.block _ hlU4 (fun e => (hown5 _ e.symm).1.1.2.2 rfl)))
            case hs0 => decide
            case hb0 => omega
            case hfr => exact fun q hq => ⟨⟨⟨fun hh => by have := hkblt q hh; omega, by omega, by omega⟩, by omega⟩, by omega⟩
            case h4 => exact (by repeat (first | exact Below.refl _ _ | assumption | with_reducible apply below_alloc | with_reducible apply pw_below_drewN | with_reducible apply below_drew))
            case h5 => omega
            case h6 => omega
            obtain ⟨hB3, hO3, hk3, hbx3, hU4, hgr4, hgr, hs4⟩ := hG4.out
            have hs4' : w4.heap.size = w3.heap.size + 1 := by simpa using hs4
            have hch : ∀ q, q < w3.heap.size → q ≠ w.heap.size + 1 → some q ≠ (V d.f2).ownBlock → w6.heap[q]? = w3.heap[q]? := fun q h1 h2 h3 => by
              have hz : some q ≠ some (w.heap.size + 1) := fun e => h2 (by injection e)
              have hsz5 := hg5.size
              rw [hgr6.block q (by omega) hz, hg5.block q (by omega) h3, hgr4.block q (by simp; omega) hz]
              exact Below.heap_alloc _ _ _ h1
            have hB6 : Below w.heap.size w w6 := by
              have hBa : Below w.heap.size w (w3.alloc (.cells #[.int .i64 k.f0, .int .i64 k.f1, .int .i64 k.f2] 34)) := (by repeat (first | exact Below.refl _ _ | assumption | with_reducible apply below_alloc | with_reducible apply pw_below_drewN | with_reducible apply below_drew))
              have hBb := hBa.grown hgr4 hBa.size (fun q hq => by injection hq with hq; omega)
              have hBc := hBb.grown hg5 hBb.size (fun q hq => Kd.R_base (hR4h.out.us d.f2) q hq)
              exact hBc.grown hgr6 hBc.size (fun q hq => by injection hq with hq; omega)
            have hs36 : w3.heap.size ≤ w6.heap.size := by have := hg5.size; omega
            have hw3o : wo.heap.size < w3.heap.size := blk_lt hbx3
            have hR6 := ((hR4h.out.push_us d.f2 ho5 hg5 hat5).grown hgr6 (fun q hq => by injection hq with hq; subst hq; exact fun hh => hh.1.1.2.2 rfl)).mono (fun q hq => hq.1)
            have hO6 : MapF w6 w.heap.size zI (fun x => .int .i64 (upd O k (wrap64 (O k + 1)) x)) := by
              have h6 := hO3.move (hch _ hO3.lt (by omega) (fun e => (hown5 _ e.symm).1.1.2.1 rfl))
              have hfe : (fun x => Value.int .i64 (upd O k (wrap64 (O k + 1)) x)) = upd (fun x => Value.int .i64 (O x)) k (.int .i64 (wrap64 (O k + 1))) := by
                funext x; unfold upd; split <;> rfl
              rw [hfe]; exact h6
            have hbx6 := (hch _ hw3o (by omega) (fun e => (hown5 _ e.symm).1.2 rfl)).trans hbx3
            have hk6 : ∀ q, kb q → w6.heap[q]? = w1.heap[q]? := fun q hq => (hch q (by have := hkblt q hq; omega) (by have := hkbge q hq; omega) (fun e => (hown5 _ e.symm).1.1.1 hq)).trans (hk3 q hq)
            have hfin := Lib.hid (And.intro hB6 (And.intro hk6 (And.intro hR6 (And.intro hO6 (And.intro hU6 hbx6)))))
            clear hB6 hk6 hR6 hO6 hU6 hbx6 hch hB3 hO3 hk3 hbx3 hU4 hgr4 hgr hs4
            go_wp2
            go_roundg (l.length - (j + 1))
            case measure => omega
            case rel => exact ⟨j + 1, _, _, _, by go_num, by omega, Nat.le_refl _, hp1.out, hfin.out.1, by omega, hfin.out.2.1, hfin.out.2.2.1, hfin.out.2.2.2.1, hfin.out.2.2.2.2.1, hfin.out.2.2.2.2.2⟩
          · have hp1 : Hid (((p1d G k (l.drop (j + 1)) O U).bind fun s => if s.1 k = 0 then (if fr.length < 1000000000 then p1k G (ks.drop (i + 1)) s.1 s.2 (fr ++ [k]) else none) else p1k G (ks.drop (i + 1)) s.1 s.2 fr).bind (fun s => p2 s.2.1 f s.1 s.2.2 []) = some out) := by
              have h1 := hp.out
              rw [p1d, hb] at h1
              rw [if_neg (by simpa using hbE)] at h1
              exact h1
            have hfin := Lib.hid (And.intro hB10 (And.intro hwl10 (And.intro hk10 (And.intro hR10 (And.intro hO10 (And.intro hU10 hbx10))))))
            clear hp hb hB10 hB10r hk10 hR10 hO10 hU10 hbx10 hby10
            have hbE : Hid _ := hbE
            cases b
            · clear hbE
              go_wp2
              go_roundg (l.length - (j + 1))
              case measure => omega
              case rel => exact ⟨j + 1, O, V, U, by go_num, by omega, Nat.le_refl _, hp1.out, hfin.out.1, hfin.out.2.1, hfin.out.2.2.1, hfin.out.2.2.2.1.mono (fun q hq => hq.1), hfin.out.2.2.2.2.1, hfin.out.2.2.2.2.2.1, hfin.out.2.2.2.2.2.2⟩
            · have hd3 : ¬ d.f0 = 3 := fun e => hbE.out ⟨rfl, e⟩
              clear hbE
              go_wp2
              go_roundg (l.length - (j + 1))
              case measure => omega
              case rel => exact ⟨j + 1, O, V, U, by go_num, by omega, Nat.le_refl _, hp1.out, hfin.out.1, hfin.out.2.1, hfin.out.2.2.1, hfin.out.2.2.2.1.mono (fun q hq => hq.1), hfin.out.2.2.2.2.1, hfin.out.2.2.2.2.2.1, hfin.out.2.2.2.2.2.2⟩
        · have hjl2 : j = l.length := by omega
          subst hjl2
          have hp1 : (if O k = 0 then (if fr.length < 1000000000 then p1k G (ks.drop (i + 1)) O U (fr ++ [k]) else none) else p1k G (ks.drop (i + 1)) O U fr).bind (fun s => p2 s.2.1 f s.1 s.2.2 []) = some out := by
            have h1 := hp.out
            rw [List.drop_length, p1d] at h1
            exact h1
          have L0 := hMo.look Try.underlying82 Try.zeroValue3 k
          have a0 : wr.cell? ⟨wo.heap.size, 0, none⟩ = some (.int .i64 k.f0) := (blk_cell hbx 0).trans rfl
          have a1 : wr.cell? ⟨wo.heap.size, 1, none⟩ = some (.int .i64 k.f1) := (blk_cell hbx 1).trans rfl
          have a2 : wr.cell? ⟨wo.heap.size, 2, none⟩ = some (.int .i64 k.f2) := (blk_cell hbx 2).trans rfl
          unfold encK at L0
          have hfin := Lib.hid (And.intro hB (And.intro hkk (And.intro hRw (And.intro hMo hMu))))
          clear hp hB hkk hMo hMu hbx hlk hlk2 hCv
          by_cases hz : O k = 0
          · rw [if_pos hz] at hp1
            have hfl : fr.length < 1000000000 := by
              by_cases hfl : fr.length < 1000000000
              · exact hfl
              · rw [if_neg hfl] at hp1; cases hp1
            rw [if_pos hfl] at hp1
            have hp2 := Lib.hid hp1
            clear hp1
            have hwr1 : w1.heap.size ≤ wr.heap.size := by omega
            go_wp2_with (at_builtin; go_must (refine Kd.R_append k34 (w0 := wr) w.heap.size rfl (.tmp 75) (.tmp 77) 41 34 (.agg #[(.int .i64 0), (.int .i64 0), (.int .i64 0)]) 24 rfl Try.underlying41 info34 rfl ?hs0 ?hb0 fv fr k [.int .i64 k.f0, .int .i64 k.f1, .int .i64 k.f2] (fun q => (¬ kb q ∧ q ≠ w.heap.size ∧ q ≠ w.heap.size + 1) ∧ q ≠ wo.heap.size) (fun _ => False) rfl ?hx (M34 _) (fun _ hk => hk.elim) ?h4 ?h5 ?h6 ?h7 ?h8 ?_); rotate_right; intro v1 w2 ho hb hgg hat)
            case hs0 => decide
            case hb0 => omega
            case hx => go_simp
            case h4 => exact fun q hq => ⟨⟨fun hh => by have := hkblt q hh; omega, by omega, by omega⟩, by omega⟩
            case h5 => exact hRw.fr
            case h6 => exact Below.refl _ _
            case h7 => omega
            case h8 => omega
            obtain ⟨hB, hkk, hRw', hMo, hMu⟩ := hfin.out
            have hownf : ∀ q, fv.ownBlock = some q → (¬ kb q ∧ q ≠ w.heap.size ∧ q ≠ w.heap.size + 1) ∧ q ≠ wo.heap.size := hRw.fr.1
            have hB2 : Below w.heap.size w w2 := hB.grown hgg hB.size (fun q hq => Kd.R_base hRw.fr q hq)
            have hk2 : ∀ q, kb q → w2.heap[q]? = w1.heap[q]? := fun q hq => (hgg.block q (by have := hkblt q hq; omega) (fun e => (hownf q e.symm).1.1 hq)).trans (hkk q hq)
            have hR2 := (hRw.push_fr ho hgg hat).mono (fun q hq => hq.1)
            have hO2 := hMo.move (hgg.block _ hMo.lt (fun e => (hownf _ e.symm).1.2.1 rfl))
            have hU2 := hMu.move (hgg.block _ hMu.lt (fun e => (hownf _ e.symm).1.2.2 rfl))
            have hs2 := hgg.size
            go_roundg (ks.length - (i + 1))
            case measure => omega
            case rel => exact ⟨v1, i + 1, O, V, U, fr ++ [k], rfl, by go_num, by omega, Nat.le_refl _, hp2.out, hB2, by omega, hk2, hR2, hO2, hU2⟩
          · rw [if_neg hz] at hp1
            have hp2 := Lib.hid hp1
            clear hp1
            go_wp2
            go_roundg (ks.length - (i + 1))
            case measure => omega
            case rel => exact ⟨fv, i + 1, O, V, U, fr, rfl, by go_num, by omega, Nat.le_refl _, hp2.out, hfin.out.1, by omega, hfin.out.2.1, hfin.out.2.2.1.mono (fun q hq => hq.1), hfin.out.2.2.2.1, hfin.out.2.2.2.2⟩
    · have hik : i = ks.length := by omega
      subst hik
      have hp2 : p2 U f O fr [] = some out := by
        have h1 := hp.out
        rw [List.drop_length, p1k] at h1
        exact h1
      have hR2 := (Rows2.start hRw).mono (ok' := fun q => q ≠ w.heap.size ∧ q ≠ w.heap.size + 1) (fun q hq => hq.2)
      have hbu2 := hMu.lt
      clear hp hRw hkk hB1 hbo hbu hord
      go_wp2
      go_loopg [6, 13] f (fun g s6 s13 wr => ∃ (fv ov : Value) (O : S34 → Int) (fr o2 : List S34), fv = s6 ∧ ov = s13 ∧ Hid (p2 U g O fr o2 = some out) ∧ Below w.heap.size w wr ∧ w.heap.size + 1 < wr.heap.size ∧ Rows2 wr w.heap.size (fun q => q ≠ w.heap.size ∧ q ≠ w.heap.size + 1) V U fv fr ov o2 ∧ MapF wr w.heap.size zI (fun x => .int .i64 (O x)) ∧ MapF wr (w.heap.size + 1) zS V)
      case atStart => exact ⟨_, _, O, fr, [], rfl, rfl, hp2, hB, hbu2, hR2, hMo, hMu⟩
      case round =>
        obtain ⟨fv, ov, O, fr, o2, rfl, rfl, hp, hB, hbu2, hRw, hMo, hMu⟩ := hrel
        obtain ⟨Af, cf, rfl, hcf, hCf⟩ := Kd.Q_reads hRw.fr
        by_cases hfr : fr = []
        · subst hfr
          have hout : out = o2 := by
            have h1 := hp.out
            cases gk with
            | zero => cases h1
            | succ gk => rw [p2] at h1; injection h1 with h1; exact h1.symm
          have hG2 := h.below hB
          obtain ⟨gs, hgs, hma, _⟩ := hG2.rows
          have hlen := run_len (P := Try.prog) Try.underlying67 hma 3
          have hgl : (gs.map fun t => (t.1.1, t.2)).length = G.length := by rw [← hgs]; simp
          rw [hgl] at hlen
          have hcm := hG2.cell
          obtain ⟨Ao, co, rfl, hco, hCo⟩ := Kd.R_reads hRw.ou
          have hRo := Lib.hid (And.intro hRw.ou (And.intro hB hout))
          clear hRw hMo hMu hp hG2 hma hB
          by_cases hsh : o2.length < G.length
          · go_wp2_with fail
            all_goals
              go_ret2
              exact ⟨_, rfl, Kd.R_nil _ _ _ _ _, hRo.out.2.1⟩
          · go_wp2_with fail
            all_goals
              go_ret2
              exact ⟨_, rfl, by first | exact Kd.R_mono hRo.out.1 (fun _ _ => trivial) | (rw [hRo.out.2.2]; exact Kd.R_mono hRo.out.1 (fun _ _ => trivial)), hRo.out.2.1⟩
        · obtain ⟨k, fr', rfl⟩ : ∃ k fr', fr = k :: fr' := by cases fr with
            | nil => exact absurd rfl hfr
            | cons k fr' => exact ⟨k, fr', rfl⟩
          obtain ⟨g', rfl⟩ : ∃ g', gk = g' + 1 := by
            cases gk with
            | zero => have := hp.out; rw [p2] at this; cases this
            | succ g' => exact ⟨g', rfl⟩
          have h1 := hp.out
          rw [p2] at h1
          have hol : o2.length < 1000000000 := by
            by_cases hol : o2.length < 1000000000
            · exact hol
            · rw [if_neg hol] at h1; cases h1
          rw [if_pos hol] at h1
          have hp1 := Lib.hid h1
          clear h1 hp hfr
          obtain ⟨g0, D0, cap0, hv0, _⟩ := Kd.Q_form hRw.fr (by simp)
          injection hv0 with hA0 _ hc0
          subst hA0 hc0
          obtain ⟨ad, had, c0, c1, c2⟩ := at_T34 hCf 0 (by omega) (by simp)
          injection had with had
          subst had
          rw [show rd_T34 (k :: fr') 0 = k from rfl] at c0 c1 c2
          have hz0 : Addr.add ⟨g0, D0, none⟩ ((0 : Int).toNat * 3) = ⟨g0, D0, none⟩ := by simp [Addr.add]
          rw [hz0] at c0 c1 c2
          clear hz0
          obtain ⟨i0, hi0, _, hsz0, _⟩ := info_parts info34
          have hcut := cut_from (P := Try.prog) 41 34 .i64 Try.underlying41 hi0 3 hsz0 (some ⟨g0, D0, none⟩) (k :: fr').length cf 1 (by omega) (by simp only [List.length_cons]; omega)
          have hQc := Kd.Q_drop hRw.fr (k := 1) (by simp)
          obtain ⟨A2, hA2⟩ : ∃ A1, A1 = (if cf = (1 : Int).toNat then (some ⟨g0, D0, none⟩ : Option Addr) else (some ⟨g0, D0, none⟩ : Option Addr).map (·.add ((1 : Int).toNat * 3))) := ⟨_, rfl⟩
          rw [← hA2] at hcut
          have hQc : Kd.Q k34 34 wr w.heap.size (fun q => q ≠ w.heap.size ∧ q ≠ w.heap.size + 1) (.slice A2 ((k :: fr').length - 1) (cf - 1)) fr' := by rw [hA2]; exact hQc
          have hAg : ∀ q, (Value.slice A2 ((k :: fr').length - 1) (cf - 1)).ownBlock = some q → q = g0 := fun q hq => by
            rw [hA2] at hq
            split at hq
            · simp [Value.ownBlock] at hq; exact hq.symm
            · simp [Value.ownBlock, Addr.add] at hq; exact hq.symm
          have hR2 := Rows2.cut hRw hQc hAg
          clear hA2 hi0 hsz0
          have hR3 := hR2.reok (ok' := fun q => (q ≠ w.heap.size ∧ q ≠ w.heap.size + 1) ∧ q ≠ wr.heap.size) (fun q hq hl => ⟨hq, by omega⟩)
          have hR4 := hR3.below (w1 := wr.alloc (.cells #[.int .i64 k.f0, .int .i64 k.f1, .int .i64 k.f2] 34)) (by repeat (first | exact Below.refl _ _ | assumption | with_reducible apply below_alloc | with_reducible apply pw_below_drewN | with_reducible apply below_drew))
          have hown4 : ∀ q, ov.ownBlock = some q → (q ≠ w.heap.size ∧ q ≠ w.heap.size + 1) ∧ q ≠ wr.heap.size := hR4.ou.1
          have hbx1 : (wr.alloc (.cells #[.int .i64 k.f0, .int .i64 k.f1, .int .i64 k.f2] 34)).heap[wr.heap.size]? = some (.cells #[.int .i64 k.f0, .int .i64 k.f1, .int .i64 k.f2] 34 (0, 0)) := by show (wr.heap.push _)[wr.heap.size]? = _; simp
          simp only [List.length_cons, Nat.add_sub_cancel] at hcut hR2 hR3 hR4
          go_wp2_with (at_builtin; go_must (refine Kd.R_append k34 (w0 := wr) w.heap.size rfl (.tmp 88) (.tmp 90) 41 34 (.agg #[(.int .i64 0), (.int .i64 0), (.int .i64 0)]) 24 rfl Try.underlying41 info34 rfl ?hs0 ?hb0 ov o2 k [.int .i64 k.f0, .int .i64 k.f1, .int .i64 k.f2] (fun q => (q ≠ w.heap.size ∧ q ≠ w.heap.size + 1) ∧ q ≠ wr.heap.size) (fun _ => False) rfl ?hx (M34 _) (fun _ hk => hk.elim) ?h4 hR4.ou ?h6 ?h7 ?h8 ?_); rotate_right; intro v1 w2 ho hb hgg hat; have hbx2 := (hgg.block wr.heap.size (by simp) (fun e => (hown4 _ e.symm).2 rfl)).trans hbx1; have d0 := (show w2.cell? ⟨wr.heap.size, 0, none⟩ = some (.int .i64 k.f0) from (blk_cell hbx2 0).trans rfl); have d1 := (show w2.cell? ⟨wr.heap.size, 1, none⟩ = some (.int .i64 k.f1) from (blk_cell hbx2 1).trans rfl); have d2 := (show w2.cell? ⟨wr.heap.size, 2, none⟩ = some (.int .i64 k.f2) from (blk_cell hbx2 2).trans rfl); have hU2 := hMu.move ((hgg.block _ (by simp; omega) (fun e => (hown4 _ e.symm).1.2 rfl)).trans (Below.heap_alloc _ _ _ hbu2)); have L0 := hU2.look Try.underlying83 Try.zeroValue41 k; unfold encK at L0; obtain ⟨Au, cu, hVk, hcu, hCu⟩ := Kd.R_reads ((hR4.push_ou ho hgg hat).us k); rw [hVk] at L0)
          case hs0 => decide
          case h4 => exact fun q hq => ⟨⟨by omega, by omega⟩, by omega⟩
          case h6 => exact (Below.refl _ _).alloc (by have := hB.size; omega) _
          case h7 => have := hB.size; omega
          case h8 => omega
          have hBw := hB.size
          have hR5 := (hR4.push_ou ho hgg hat).mono (ok' := fun q => q ≠ w.heap.size ∧ q ≠ w.heap.size + 1) (fun q hq => hq.1)
          have hB5 : Below w.heap.size w w2 := by
            have hBa : Below w.heap.size w (wr.alloc (.cells #[.int .i64 k.f0, .int .i64 k.f1, .int .i64 k.f2] 34)) := (by repeat (first | exact Below.refl _ _ | assumption | with_reducible apply below_alloc | with_reducible apply pw_below_drewN | with_reducible apply below_drew))
            exact hBa.grown hgg hBa.size (fun q hq => Kd.R_base hR4.ou q hq)
          have hO5 := hMo.move ((hgg.block _ (by simp; omega) (fun e => (hown4 _ e.symm).1.1 rfl)).trans (Below.heap_alloc _ _ _ hMo.lt))
          have hu5 := hU2.lt
          clear hRw hMo hMu hR2 hR3 hR4 hgg hat hbx1 hbx2 d0 d1 d2 L0 hcut hQc hAg c0 c1 c2 ho hB hown4 hcf hCf hCu
          go_loopg [6, 96] (U k).length (fun g4 s6 s96 wr => ∃ (fv : Value) (j : Nat) (O : S34 → Int) (fr : List S34), fv = s6 ∧ s96 = .int .i64 j ∧ j ≤ (U k).length ∧ (U k).length - j ≤ g4 ∧ Hid ((p2u ((U k).drop j) O fr).bind (fun s => p2 U g' s.1 s.2 (o2 ++ [k])) = some out) ∧ Below w.heap.size w wr ∧ w.heap.size + 1 < wr.heap.size ∧ Rows2 wr w.heap.size (fun q => q ≠ w.heap.size ∧ q ≠ w.heap.size + 1) V U fv fr v1 (o2 ++ [k]) ∧ MapF wr w.heap.size zI (fun x => .int .i64 (O x)) ∧ MapF wr (w.heap.size + 1) zS V)
          case atStart => exact ⟨_, 0, O, fr', rfl, rfl, Nat.zero_le _, by omega, hp1.out, hB5, hu5, hR5, hO5, hU2⟩
          case round =>
            clear hR5 hB5 hO5 hU2 hu5
            obtain ⟨fv, j, O, fr, rfl, rfl, hjl, hg4, hp, hB, hbu2, hRw, hMo, hMu⟩ := hrel
            by_cases hlt4 : j < (U k).length
            · have hUk := hRw.us k
              rw [hVk] at hUk
              obtain ⟨ad, rfl, c0, c1, c2⟩ := at_T34 (Kd.R_reads' hUk).2.2 j (by omega) (by omega)
              simp only [Int.toNat_natCast] at c0 c1 c2
              rw [rd34 hlt4] at c0 c1 c2
              have hd : (U k).drop j = (U k)[j] :: (U k).drop (j + 1) := List.drop_eq_getElem_cons hlt4
              rw [hd] at hp
              generalize (U k)[j] = u at *
              have hum := (Kd.R_reads' hUk).2.2.2.1
              clear hd hUk
              have hlj : (j : Int) < ((U k).length : Int) := by omega
              go_wp2_with fail
              obtain ⟨W9, hW9⟩ : ∃ W, W = wr.alloc (.cells #[.int .i64 u.f0, .int .i64 u.f1, .int .i64 u.f2] 34) := ⟨_, rfl⟩
              rw [← hW9]
              have hB9 : Below w.heap.size w W9 := by rw [hW9]; exact (by repeat (first | exact Below.refl _ _ | assumption | with_reducible apply below_alloc | with_reducible apply pw_below_drewN | with_reducible apply below_drew))
              have hB9r : Below wr.heap.size wr W9 := by rw [hW9]; exact (by repeat (first | exact Below.refl _ _ | assumption | with_reducible apply below_alloc | with_reducible apply pw_below_drewN | with_reducible apply below_drew))
              have hby : W9.heap[wr.heap.size]? = some (.cells #[.int .i64 u.f0, .int .i64 u.f1, .int .i64 u.f2] 34 (0, 0)) := by rw [hW9]; show (wr.heap.push _)[wr.heap.size]? = _; simp
              have hR9 := (hRw.reok (ok' := fun q => (q ≠ w.heap.size ∧ q ≠ w.heap.size + 1) ∧ q ≠ wr.heap.size) (fun q hq hl => ⟨hq, by omega⟩)).below hB9r
              have hO9 := hMo.move (hB9r.block _ hMo.lt)
              have hU9 := hMu.move (hB9r.block _ hMu.lt)
              clear hW9 hRw hMo hMu hB c0 c1 c2
              have hO12 := hO9.move (w1 := W9.drew) rfl
              have L0 := hO12.look Try.underlying82 Try.zeroValue3 u
              obtain ⟨w3, st, hme, hO3, hgr3, hs3, hes⟩ := hO12.entry Try.underlying82 Try.zeroValue3 u
              have L1 := hO3.look Try.underlying82 Try.zeroValue3 u
              obtain ⟨w4, hst, hO4, hgr4, hs4⟩ := hes w3 (.int .i64 (wrap64 (O u - 1))) rfl
              have hgr : W9.grownBy w4 (some w.heap.size) := World.grownBy.trans (World.grownBy.trans (grown_draw W9 1 _) hgr3) hgr4
              have hbs := blk_lt hby
              have hne1 : some wr.heap.size ≠ some w.heap.size := fun e => by injection e; omega
              have hby3 := (hgr3.block wr.heap.size hbs hne1).trans hby
              have hby4 := (hgr.block wr.heap.size hbs hne1).trans hby
              have a0 : W9.cell? ⟨wr.heap.size, 0, none⟩ = some (.int .i64 u.f0) := (blk_cell hby 0).trans rfl
              have a1 : W9.cell? ⟨wr.heap.size, 1, none⟩ = some (.int .i64 u.f1) := (blk_cell hby 1).trans rfl
              have a2 : W9.cell? ⟨wr.heap.size, 2, none⟩ = some (.int .i64 u.f2) := (blk_cell hby 2).trans rfl
              have b0 : w3.cell? ⟨wr.heap.size, 0, none⟩ = some (.int .i64 u.f0) := (blk_cell hby3 0).trans rfl
              have b1 : w3.cell? ⟨wr.heap.size, 1, none⟩ = some (.int .i64 u.f1) := (blk_cell hby3 1).trans rfl
              have b2 : w3.cell? ⟨wr.heap.size, 2, none⟩ = some (.int .i64 u.f2) := (blk_cell hby3 2).trans rfl
              have hG3 := Lib.hid (And.intro hgr (And.intro hO4 (And.intro hs4 (And.intro hB9 (And.intro hR9 (And.intro hU9 hby4))))))
              unfold encK at L0 L1 hme
              clear hgr hO4 hs4 hB9 hB9r hR9 hU9 hby hby3 hby4 hgr3 hgr4 hO12 hO9 hO3 hes hs3
              go_region
              clear a0 a1 a2 b0 b1 b2 L0 L1 hme hst
              obtain ⟨hgr, hO4, hs4, hB9, hR9, hU9, hby4⟩ := hG3.out
              clear hG3
              have hneb : ∀ q, q ≠ w.heap.size → some q ≠ some w.heap.size := fun q hq e => hq (by injection e)
              have hR4 := hR9.grown hgr (fun q hq => by injection hq with hq; subst hq; exact fun hh => hh.1.1 rfl)
              have hU4 := hU9.move (hgr.block (w.heap.size + 1) hU9.lt (hneb _ (by omega)))
              have hB4 : Below w.heap.size w w4 := hB9.grown hgr hB9.size (fun q hq => by injection hq with hq; omega)
              have L2 := hO4.look Try.underlying82 Try.zeroValue3 u
              rw [upd_same] at L2
              have hO5 : MapF w4 w.heap.size zI (fun x => .int .i64 (upd O u (wrap64 (O u - 1)) x)) := by
                have hfe : (fun x => Value.int .i64 (upd O u (wrap64 (O u - 1)) x)) = upd (fun x => Value.int .i64 (O x)) u (.int .i64 (wrap64 (O u - 1))) := by
                  funext x; unfold upd; split <;> rfl
                rw [hfe]; exact hO4
              have a0 : w4.cell? ⟨wr.heap.size, 0, none⟩ = some (.int .i64 u.f0) := (blk_cell hby4 0).trans rfl
              have a1 : w4.cell? ⟨wr.heap.size, 1, none⟩ = some (.int .i64 u.f1) := (blk_cell hby4 1).trans rfl
              have a2 : w4.cell? ⟨wr.heap.size, 2, none⟩ = some (.int .i64 u.f2) := (blk_cell hby4 2).trans rfl
              have hb4 := blk_lt hby4
              rw [p2u] at hp
              generalize wrap64 (O u - 1) = y at *
              unfold encK at L2
              have hG5 := Lib.hid (And.intro hB4 (And.intro hR4 (And.intro hU4 (And.intro hO5 hby4))))
              clear hgr hO4 hs4 hB9 hR9 hU9 hby4 hR4 hU4 hB4 hO5 hneb
              have hp := hp.out
              by_cases hz : y = 0
              · rw [if_pos hz] at hp
                go_wp2_with fail
                have hfs : fr.length < 1000000 ∧ fr.Pairwise (fun x y => ¬ ltK y x) := by
                  by_cases hfs : fr.length < 1000000 ∧ fr.Pairwise (fun x y => ¬ ltK y x)
                  · exact hfs
                  · rw [if_neg hfs] at hp; cases hp
                rw [if_pos hfs] at hp
                have hp5 := Lib.hid hp
                clear hp
                obtain ⟨hfl, hfw⟩ := hfs
                have hQ4 := hG5.out.2.1.fr
                obtain ⟨Af, cf, rfl, hcf, hCf⟩ := Kd.Q_reads hQ4
                have hse := search_calls w4 Af cf fr u hCf hfw (by omega)
                have hsl := posK_le u fr
                have hfwh := Lib.hid hfw
                clear hfw hQ4
                unfold encK at hse
                generalize hpk : posK u fr = pk at *
                have hpkh := Lib.hid hpk
                clear hpk
                go_wp2_with fail
                refine hse.mono ?_
                rintro e w5 ⟨b, rfl, hB5⟩
                have hp0 := pw_cell_below hB5 a0
                have hp1 := pw_cell_below hB5 a1
                have hp2 := pw_cell_below hB5 a2
                clear hse hCf
                go_wp2_with fail
                have hR5 := hG5.out.2.1.below hB5
                have hb45 := hB5.size
                have hR6 := hR5.below (w1 := w5.alloc (.cells (celK u).toArray 34)) (by repeat (first | exact Below.refl _ _ | assumption | with_reducible apply below_alloc | with_reducible apply pw_below_drewN | with_reducible apply below_drew))
                have hvb : (w5.alloc (.cells (celK u).toArray 34)).heap[w5.heap.size]? = some (.cells (celK u).toArray 34 (0, 0)) := by show (w5.heap.push _)[w5.heap.size]? = _; simp
                have hown6 := hR6.fr.1
                refine (Insert_calls pk hsl u w5.heap.size hR6.fr (fun q hq => ?_) ?_ hvb ?_ ?_).mono ?_
                · simp only [World.size_alloc] at hq; exact ⟨⟨by omega, by omega⟩, by omega⟩
                · simp only [World.size_alloc]; omega
                · exact fun e => by have := Kd.Q_lt hR5.fr _ e.symm; omega
                · omega
                rintro e w6 ⟨v', rfl, hQ6, hg6, hat6⟩
                have hR7 := (hR6.set_fr hQ6 hg6 hat6).mono (ok' := fun q => q ≠ w.heap.size ∧ q ≠ w.heap.size + 1) (fun q hq => hq.1)
                have hmv : ∀ q, q < w4.heap.size → some q ≠ (Value.slice Af fr.length cf).ownBlock → w6.heap[q]? = w4.heap[q]? := fun q h1 h2 => by
                  rw [hg6.block q (by simp; omega) h2, Below.heap_alloc _ _ _ (by omega)]
                  exact hB5.block q h1
                have hO7 := hG5.out.2.2.2.1.move (hmv _ (by omega) (fun e => (hown6 _ e.symm).1.1 rfl))
                have hU7 := hG5.out.2.2.1.move (hmv _ (by omega) (fun e => (hown6 _ e.symm).1.2 rfl))
                have hB7 : Below w.heap.size w w6 := by
                  have hBa := below_then hG5.out.1 hG5.out.1.size hB5
                  have hBb : Below w.heap.size w (w5.alloc (.cells (celK u).toArray 34)) := (by repeat (first | exact Below.refl _ _ | assumption | with_reducible apply below_alloc | with_reducible apply pw_below_drewN | with_reducible apply below_drew))
                  exact hBb.grown hg6 hBb.size (fun q hq => Kd.Q_base hR6.fr q hq)
                have hs6 := hg6.size
                simp only [World.size_alloc] at hs6
                have hpp : Hid ((p2u ((U k).drop (j + 1)) (upd O u y) (fr.take pk ++ [u] ++ fr.drop pk)).bind (fun s => p2 U g' s.1 s.2 (o2 ++ [k])) = some out) := by
                  have := hp5.out
                  unfold insK at this
                  rw [hpkh.out] at this
                  exact this
                have hG7 := Lib.hid (And.intro hpp (And.intro hB7 (And.intro hR7 (And.intro hO7 hU7))))
                clear hpp hB7 hR7 hO7 hU7 hmv hQ6 hg6 hat6 hR6 hR5 hvb hown6 hp0 hp1 hp2 hB5
                go_wp2
                go_roundg ((U k).length - (j + 1))
                case measure => omega
                case rel => exact ⟨v', j + 1, _, _, rfl, by go_num, by omega, Nat.le_refl _, hG7.out.1.out, hG7.out.2.1, by omega, hG7.out.2.2.1, hG7.out.2.2.2.1, hG7.out.2.2.2.2⟩
              · rw [if_neg hz] at hp
                have hp5 := Lib.hid hp
                clear hp
                go_wp2_with fail
                go_roundg ((U k).length - (j + 1))
                case measure => omega
                case rel => exact ⟨fv, j + 1, _, fr, rfl, by go_num, by omega, Nat.le_refl _, hp5.out, hG5.out.1, by omega, hG5.out.2.1.mono (fun q hq => hq.1), hG5.out.2.2.2.1, hG5.out.2.2.1⟩
            · have hjl2 : j = (U k).length := by omega
              subst hjl2
              have hp5 := hp.out
              rw [List.drop_length, p2u] at hp5
              have hp6 : Hid (p2 U g' O fr (o2 ++ [k]) = some out) := hp5
              have hum := (Kd.R_reads' (show Kd.R k34 34 wr w.heap.size (fun q => q ≠ w.heap.size ∧ q ≠ w.heap.size + 1) (.slice Au (U k).length cu) (U k) from hVk ▸ hRw.us k)).2.2.2.1
              have hG7 := Lib.hid (And.intro hRw (And.intro hMo hMu))
              clear hRw hMo hMu hp hp5
              go_wp2
              go_roundg g'
              case measure => omega
              case rel => exact ⟨fv, v1, O, fr, o2 ++ [k], rfl, rfl, hp6.out, hB, hbu2, hG7.out.1, hG7.out.2.1, hG7.out.2.2⟩
end Go.Proofs.Ytokambhemoeloaa.G
end
section
namespace Go.Proofs.Ytokambhemoeloaa.G
open Go.RowKit Go.Proofs.YtokambhemoeloaaW.PrintWords Go.Proofs.YtokambhemoeloaaW.PrintLast Go.Proofs.YtokambhemoeloaaW.PrintMore Go.Proofs.Ytokambhemoeloaa.PA
set_option linter.unusedVariables false
set_option linter.unusedSimpArgs false
def eds (G : GL) (k : S34) : List S34 := (((gget k G).getD []).filter (isE G)).map (·.f2)
def edL (G : GL) (l : List S51) : List S34 := (l.filter (isE G)).map (·.f2)
theorem wrap_small {x : Int} (h0 : 0 ≤ x) (h1 : x < 4611686018427387904) : wrap64 x = x := by unfold wrap64; omega
theorem p1d_some (G : GL) (k : S34) : ∀ (l : List S51) (O : S34 → Int) (U : S34 → List S34), 0 ≤ O k → O k + l.length < 1000000000 → (∀ x, (U x).length + l.length < 1000000000) →
    p1d G k l O U = some (fun y => if y = k then O k + (edL G l).length else O y, fun x => U x ++ List.replicate ((edL G l).count x) k) := by
  intro l
  induction l with
  | nil =>
    intro O U _ _ _
    simp only [p1d, edL, List.filter_nil, List.map_nil, List.length_nil, List.count_nil, List.replicate_zero, List.append_nil]
    congr 2
    funext y; split
    · rename_i h; subst h; simp
    · rfl
  | cons d l ih =>
    intro O U h0 h1 h2
    simp only [List.length_cons] at h1 h2
    unfold p1d
    by_cases hd : isE G d = true
    · have hU := h2 d.f2
      rw [if_pos hd, if_pos (by omega), wrap_small (by omega) (by omega), ih _ _ (by simp; omega) (by simp; omega)]
      · have he : edL G (d :: l) = d.f2 :: edL G l := by simp [edL, hd]
        rw [he]
        congr 2
        · funext y
          by_cases hy : y = k
          · simp [hy]; omega
          · simp [hy, upd_other _ _ hy]
        · funext x
          by_cases hx : x = d.f2
          · subst hx; simp [List.replicate_succ]
          · rw [upd_other _ _ hx, List.count_cons_of_ne (fun e => hx e.symm)]
      · intro x
        by_cases hx : x = d.f2
        · subst hx; simp; omega
        · rw [upd_other _ _ hx]; have := h2 x; omega
    · rw [if_neg hd, ih _ _ h0 (by omega) (fun x => by have := h2 x; omega)]
      have he : edL G (d :: l) = edL G l := by simp [edL, hd]
      rw [he]
theorem p1k_some (G : GL) (B : Nat) : ∀ (ks : List S34) (O : S34 → Int) (U : S34 → List S34) (fr : List S34), ks.Nodup → (∀ k ∈ ks, O k = 0) → (∀ k, ((gget k G).getD []).length ≤ B) → (∀ x, (U x).length + ks.length * B < 1000000000) → fr.length + ks.length < 1000000 →
    B < 1000000 → p1k G ks O U fr = some (fun y => if y ∈ ks then ((eds G y).length : Int) else O y, fun x => U x ++ ks.flatMap (fun k => List.replicate ((eds G k).count x) k), fr ++ ks.filter (fun k => eds G k = [])) := by
  intro ks
  induction ks with
  | nil => intro O U fr _ _ _ _ _ _; simp [p1k]
  | cons k ks ih =>
    intro O U fr hn hO hB hU hf hBB
    rw [List.nodup_cons] at hn
    have hk0 := hO k (by simp)
    have hbk := hB k
    unfold p1k
    rw [p1d_some G k _ O U (by omega) (by omega) (fun x => by
      have := hU x
      simp only [List.length_cons, Nat.succ_mul] at this
      omega)]
    have hel : edL G ((gget k G).getD []) = eds G k := rfl
    rw [hel]
    simp only [Option.bind_some, if_true, hk0, Int.zero_add]
    have hcnt : ∀ x, (eds G k).count x ≤ B := fun x => by
      have h1 := List.count_le_length (a := x) (l := eds G k)
      have h2 : (eds G k).length ≤ ((gget k G).getD []).length := by simp [eds, List.length_filter_le]
      omega
    have hUn : ∀ x, (U x ++ List.replicate ((eds G k).count x) k).length + ks.length * B < 1000000000 := fun x => by
      have h1 := hU x
      have h2 := hcnt x
      simp only [List.length_cons, Nat.succ_mul, List.length_append, List.length_replicate] at h1 ⊢
      omega
    have hOn : ∀ k' ∈ ks, (if k' = k then ((eds G k).length : Int) else O k') = 0 := fun k' hk' => by
      have hne : k' ≠ k := fun e => hn.1 (by rw [← e]; exact hk')
      rw [if_neg hne]; exact hO k' (by simp [hk'])
    have fin : ∀ fr2 : List S34, (fun y => if y ∈ ks then ((eds G y).length : Int) else (fun y => if y = k then ((eds G k).length : Int) else O y) y, fun x => (U x ++ List.replicate ((eds G k).count x) k) ++ ks.flatMap (fun k => List.replicate ((eds G k).count x) k), fr2) =
        ((fun y => if y ∈ k :: ks then ((eds G y).length : Int) else O y), (fun x => U x ++ (k :: ks).flatMap (fun k => List.replicate ((eds G k).count x) k)), fr2) := fun fr2 => by
      congr 2
      · funext y
        by_cases hy : y = k
        · subst hy; simp [hn.1]
        · simp [hy]
      · simp [List.flatMap_cons]
    simp only [List.length_cons] at hf
    by_cases he : eds G k = []
    · rw [if_pos (by simp [he]), if_pos (by omega), ih _ _ _ hn.2 hOn hB hUn (by simp; omega) hBB, fin]
      simp [he]
    · have hne : ¬ ((eds G k).length : Int) = 0 := by
        intro e
        exact he (List.eq_nil_of_length_eq_zero (by omega))
      rw [if_neg hne, ih _ _ _ hn.2 hOn hB hUn (by omega) hBB, fin]
      simp [he]
theorem insK_mem (u y : S34) (l : List S34) : y ∈ insK u l ↔ y = u ∨ y ∈ l := by
  unfold insK
  have : l = l.take (posK u l) ++ l.drop (posK u l) := (List.take_append_drop _ _).symm
  constructor
  · intro h
    simp only [List.mem_append, List.mem_singleton] at h
    rcases h with (h | h) | h
    · exact .inr (List.mem_of_mem_take h)
    · exact .inl h
    · exact .inr (List.mem_of_mem_drop h)
  · rintro (rfl | h)
    · simp
    · rw [this] at h
      simp only [List.mem_append, List.mem_singleton] at h ⊢
      rcases h with h | h
      · exact .inl (.inl h)
      · exact .inr h
theorem insK_cons (u x : S34) (l : List S34) : insK u (x :: l) = if ltK x u then x :: insK u l else u :: x :: l := by
  unfold insK
  rw [posK]
  split <;> simp
theorem insK_str {u : S34} : ∀ {l : List S34}, l.Pairwise ltK → u ∉ l → (insK u l).Pairwise ltK
  | [], _, _ => by simp [insK]
  | x :: l, h, hu => by
    rw [List.pairwise_cons] at h
    simp only [List.mem_cons, not_or] at hu
    rw [insK_cons]
    split
    · rename_i hx
      rw [List.pairwise_cons]
      refine ⟨fun y hy => ?_, insK_str h.2 hu.2⟩
      rcases (insK_mem u y l).1 hy with rfl | hy
      · exact hx
      · exact h.1 y hy
    · rename_i hx
      have hlt : ltK u x := by
        rcases ltK_total u x with e | e | e
        · exact e
        · exact absurd e hu.1
        · exact absurd e hx
      rw [List.pairwise_cons, List.pairwise_cons]
      refine ⟨fun y hy => ?_, h⟩
      rcases List.mem_cons.1 hy with rfl | hy
      · exact hlt
      · exact ltK_trans hlt (h.1 y hy)
theorem str_weak {l : List S34} (h : l.Pairwise ltK) : l.Pairwise (fun x y => ¬ ltK y x) := h.imp (fun h k => ltK_irrefl _ (ltK_trans h k))
theorem str_nodup {l : List S34} (h : l.Pairwise ltK) : l.Nodup := h.imp (fun h e => by subst e; exact ltK_irrefl _ h)
theorem nodup_le : ∀ {l m : List S34}, l.Nodup → (∀ x ∈ l, x ∈ m) → l.length ≤ m.length
  | [], _, _, _ => by simp
  | x :: l, m, h, hs => by
    rw [List.nodup_cons] at h
    have hx := hs x (by simp)
    have := nodup_le (l := l) (m := m.erase x) h.2 (fun y hy => (List.mem_erase_of_ne (fun e => h.1 (by rw [← e]; exact hy))).2 (hs y (by simp [hy])))
    rw [List.length_erase_of_mem hx] at this
    have : 0 < m.length := List.length_pos_of_mem hx
    simp; omega
theorem p2u_some (ks : List S34) (hks : ks.length < 1000000) : ∀ (us : List S34) (O : S34 → Int) (fr : List S34), fr.Pairwise ltK → (∀ u ∈ fr, u ∈ ks) → (∀ u ∈ us, u ∈ ks ∧ u ∉ fr) → (∀ u ∈ us, (us.count u : Int) ≤ O u ∧ O u < 1000000000) →
    ∃ fr', p2u us O fr = some (fun u => O u - us.count u, fr') ∧ fr'.Pairwise ltK ∧ ∀ u, u ∈ fr' ↔ u ∈ fr ∨ (u ∈ us ∧ O u = us.count u) := by
  intro us
  induction us with
  | nil =>
    intro O fr hs _ _ _
    exact ⟨fr, by simp [p2u], hs, by simp⟩
  | cons u us ih =>
    intro O fr hs hf hu hc
    obtain ⟨c1, c2⟩ := hc u (by simp)
    rw [List.count_cons_self] at c1
    have hw : wrap64 (O u - 1) = O u - 1 := wrap_small (by omega) (by omega)
    unfold p2u
    rw [hw]
    have fin : (fun v => upd O u (O u - 1) v - (us.count v : Int)) = fun v => O v - ((u :: us).count v : Int) := by
      funext v
      by_cases hv : v = u
      · subst hv; rw [upd_same, List.count_cons_self]; omega
      · rw [upd_other _ _ hv, List.count_cons_of_ne (fun e => hv e.symm)]
    have hcn : ∀ v ∈ us, (us.count v : Int) ≤ upd O u (O u - 1) v ∧ upd O u (O u - 1) v < 1000000000 := fun v hv => by
      by_cases e : v = u
      · subst e; rw [upd_same]; constructor <;> omega
      · have := hc v (by simp [hv])
        rw [List.count_cons_of_ne (fun h => e h.symm)] at this
        rw [upd_other _ _ e]; exact this
    by_cases hz : O u - 1 = 0
    · have hnu : u ∉ us := fun h => by
        have := List.count_pos_iff.2 h
        omega
      have hfl := nodup_le (str_nodup hs) hf
      rw [if_pos hz, if_pos ⟨by omega, str_weak hs⟩]
      obtain ⟨fr', h1, h2, h3⟩ := ih (upd O u (O u - 1)) (insK u fr) (insK_str hs (hu u (by simp)).2) (fun v hv => by
        rcases (insK_mem u v fr).1 hv with rfl | hv
        · exact (hu v (by simp)).1
        · exact hf v hv) (fun v hv => ⟨(hu v (by simp [hv])).1, fun hm => by
          rcases (insK_mem u v fr).1 hm with rfl | hm
          · exact hnu hv
          · exact (hu v (by simp [hv])).2 hm⟩) hcn
      refine ⟨fr', by rw [h1, fin], h2, fun v => ?_⟩
      rw [h3, insK_mem]
      by_cases e : v = u
      · subst e
        simp only [true_or, List.mem_cons, List.count_cons_self, true_iff]
        right
        have : us.count v = 0 := List.count_eq_zero.2 hnu
        exact ⟨trivial, by omega⟩
      · rw [upd_other _ _ e, List.count_cons_of_ne (fun h => e h.symm)]
        simp [e]
    · rw [if_neg hz]
      obtain ⟨fr', h1, h2, h3⟩ := ih (upd O u (O u - 1)) fr hs hf (fun v hv => hu v (by simp [hv])) hcn
      refine ⟨fr', by rw [h1, fin], h2, fun v => ?_⟩
      rw [h3]
      by_cases e : v = u
      · subst e
        rw [upd_same, List.count_cons_self]
        simp only [List.mem_cons, true_or, true_and]
        constructor
        · rintro (h | ⟨_, h⟩)
          · exact .inl h
          · exact .inr (by omega)
        · rintro (h | h)
          · exact .inl h
          · refine .inr ⟨?_, by omega⟩
            refine List.count_pos_iff.1 ?_
            omega
      · rw [upd_other _ _ e, List.count_cons_of_ne (fun h => e h.symm)]
        simp [e]
def need (G : GL) (out : List S34) (u : S34) : Nat := ((eds G u).filter (fun x => x ∉ out)).length
def gStep (G : GL) (ks out : List S34) : Option S34 := ks.find? (fun u => decide (u ∉ out) && decide (need G out u = 0))
def gOrd (G : GL) (ks : List S34) : Nat → List S34 → List S34
  | 0, out => out
  | f + 1, out => match gStep G ks out with
    | none => out
    | some u => gOrd G ks f (out ++ [u])
theorem count_flat (f : S34 → Nat) (x : S34) : ∀ ks : List S34, ks.Nodup → (ks.flatMap fun k => List.replicate (f k) k).count x = if x ∈ ks then f x else 0
  | [], _ => by simp
  | k :: ks, h => by
    rw [List.nodup_cons] at h
    rw [List.flatMap_cons, List.count_append, count_flat f x ks h.2, List.count_replicate]
    by_cases e : x = k
    · subst e; simp [h.1]
    · have : ¬ (k == x) = true := by simp; exact fun h => e h.symm
      simp [e, this]
theorem need_step (G : GL) (out : List S34) (k u : S34) (hk : k ∉ out) : need G out u = need G (out ++ [k]) u + (eds G u).count k := by
  unfold need
  induction eds G u with
  | nil => rfl
  | cons x l ih =>
    by_cases hx : x = k
    · subst hx
      simp only [List.filter_cons, List.count_cons_self]
      rw [if_pos (by simp [hk]), if_neg (by simp), List.length_cons, ih]; omega
    · rw [List.count_cons_of_ne hx]
      simp only [List.filter_cons]
      by_cases hm : x ∈ out
      · rw [if_neg (by simp [hm]), if_neg (by simp [hm]), ih]
      · rw [if_pos (by simp [hm]), if_pos (by simp [hm, hx]), List.length_cons, List.length_cons, ih]; omega
theorem find_head {p : S34 → Bool} : ∀ {ks fr : List S34} {k : S34}, ks.Pairwise ltK → (k :: fr).Pairwise ltK → (∀ u, u ∈ k :: fr ↔ u ∈ ks ∧ p u = true) → ks.find? p = some k
  | [], fr, k, _, _, h => by have := (h k).1 (by simp); simp at this
  | x :: ks, fr, k, hs, hf, h => by
    rw [List.pairwise_cons] at hs
    by_cases hx : p x = true
    · rw [List.find?_cons_of_pos hx]
      congr 1
      have h1 := (h x).2 ⟨by simp, hx⟩
      rcases List.mem_cons.1 h1 with e | h1
      · exact e
      · rw [List.pairwise_cons] at hf
        have h2 := hf.1 x h1
        have h3 := ((h k).1 (by simp)).1
        rcases List.mem_cons.1 h3 with e | h3
        · exact e.symm
        · exact absurd (ltK_trans h2 (hs.1 k h3)) (ltK_irrefl _)
    · rw [List.find?_cons_of_neg hx]
      refine find_head hs.2 hf (fun u => ?_)
      rw [h u, List.mem_cons]
      constructor
      · rintro ⟨rfl | h1, h2⟩
        · exact absurd h2 hx
        · exact ⟨h1, h2⟩
      · rintro ⟨h1, h2⟩; exact ⟨.inr h1, h2⟩
theorem p2_some (G : GL) (ks : List S34) (hks : ks.Pairwise ltK) (hkl : ks.length < 100000) (B : Nat) (hB : ∀ k, ((gget k G).getD []).length ≤ B) (hBB : B < 1000000) (hE : ∀ u x, x ∈ eds G u → x ∈ ks)
    (U : S34 → List S34) (hU : ∀ x, U x = ks.flatMap (fun k => List.replicate ((eds G k).count x) k)) :
    ∀ (f : Nat) (O : S34 → Int) (fr out : List S34), ks.length - out.length < f → out.Nodup → (∀ u ∈ out, u ∈ ks ∧ need G out u = 0) → (∀ u ∈ ks, O u = need G out u) → fr.Pairwise ltK → (∀ u, u ∈ fr ↔ u ∈ ks ∧ u ∉ out ∧ need G out u = 0) →
    p2 U f O fr out = some (gOrd G ks f out) := by
  intro f
  induction f with
  | zero => intro O fr out h; omega
  | succ f ih =>
    intro O fr out hf hn hsub hO hfr hm
    have hol := nodup_le hn (fun u hu => (hsub u hu).1)
    cases fr with
    | nil =>
      have : gStep G ks out = none := by
        unfold gStep
        rw [List.find?_eq_none]
        intro u hu hp
        simp only [Bool.and_eq_true, decide_eq_true_eq] at hp
        have := (hm u).2 ⟨hu, hp⟩
        cases this
      rw [p2, gOrd, this]
    | cons k fr =>
      have hstep : gStep G ks out = some k := by
        unfold gStep
        refine find_head hks hfr (fun u => ?_)
        rw [hm u]; simp
      have hk := (hm k).1 (by simp)
      have hol2 := nodup_le (l := k :: out) (m := ks) (by rw [List.nodup_cons]; exact ⟨hk.2.1, hn⟩) (fun u hu => by
        rcases List.mem_cons.1 hu with rfl | hu
        · exact hk.1
        · exact (hsub u hu).1)
      simp only [List.length_cons] at hol2
      rw [p2, gOrd, hstep, if_pos (by omega)]
      rw [List.pairwise_cons] at hfr
      have hcu : ∀ u, (U k).count u = if u ∈ ks then (eds G u).count k else 0 := fun u => by rw [hU, count_flat (fun u => (eds G u).count k) u ks (str_nodup hks)]
      have hmu : ∀ u, u ∈ U k → u ∈ ks := fun u hu => by
        have h1 := List.count_pos_iff.2 hu
        rw [hcu] at h1
        by_cases h2 : u ∈ ks
        · exact h2
        · rw [if_neg h2] at h1; omega
      have hns : ∀ u, need G out u = need G (out ++ [k]) u + (eds G u).count k := fun u => need_step G out k u hk.2.1
      have hle : ∀ u, need G out u < 1000000 := fun u => by
        have h1 : need G out u ≤ (eds G u).length := List.length_filter_le _ _
        have h2 : (eds G u).length ≤ ((gget u G).getD []).length := by simp [eds, List.length_filter_le]
        have := hB u
        omega
      have hu1 : ∀ u ∈ U k, u ∈ ks ∧ u ∉ fr := fun u hu => ⟨hmu u hu, fun h1 => by
        have h2 := ((hm u).1 (by simp [h1])).2.2
        have h3 := List.count_pos_iff.2 hu
        rw [hcu, if_pos (hmu u hu)] at h3
        have := hns u
        omega⟩
      have hu2 : ∀ u ∈ U k, ((U k).count u : Int) ≤ O u ∧ O u < 1000000000 := fun u hu => by
        rw [hcu, if_pos (hmu u hu), hO u (hmu u hu)]
        have := hns u
        have := hle u
        constructor <;> omega
      obtain ⟨fr', h1, h2, h3⟩ := p2u_some ks (by omega) (U k) O fr hfr.2 (fun u hu => ((hm u).1 (by simp [hu])).1) hu1 hu2
      rw [h1]
      simp only [Option.bind_some]
      refine ih _ _ _ (by simp; omega) ?_ ?_ ?_ h2 ?_
      · rw [List.nodup_append]
        refine ⟨hn, by simp, fun a ha b hb => ?_⟩
        simp at hb; subst hb
        exact fun e => hk.2.1 (e ▸ ha)
      · intro u hu
        have hns' := hns u
        rcases List.mem_append.1 hu with hu | hu
        · have := hsub u hu; exact ⟨this.1, by omega⟩
        · simp at hu; subst hu; exact ⟨hk.1, by omega⟩
      · intro u hu
        rw [hO u hu, hcu, if_pos hu]
        have := hns u
        omega
      · intro u
        rw [h3]
        have hnk : ∀ v, v ∈ fr → v ≠ k := fun v hv e => by subst e; exact ltK_irrefl _ (hfr.1 v hv)
        have hns' := hns u
        constructor
        · rintro (h | ⟨h, e⟩)
          · have := (hm u).1 (by simp [h])
            refine ⟨this.1, ?_, by omega⟩
            simp only [List.mem_append, List.mem_singleton, not_or]
            exact ⟨this.2.1, hnk u h⟩
          · have huk := hmu u h
            rw [hO u huk, hcu, if_pos huk] at e
            have hc := List.count_pos_iff.2 h
            rw [hcu, if_pos huk] at hc
            refine ⟨huk, ?_, by omega⟩
            simp only [List.mem_append, List.mem_singleton, not_or]
            refine ⟨fun ho => ?_, fun ek => ?_⟩
            · have := (hsub u ho).2; omega
            · subst ek; have := hk.2.2; omega
        · rintro ⟨h1, h2, h4⟩
          simp only [List.mem_append, List.mem_singleton, not_or] at h2
          by_cases hc : (eds G u).count k = 0
          · have := (hm u).2 ⟨h1, h2.1, by omega⟩
            rcases List.mem_cons.1 this with e | this
            · exact absurd e h2.2
            · exact .inl this
          · refine .inr ⟨?_, ?_⟩
            · refine List.count_pos_iff.1 ?_
              rw [hcu, if_pos h1]; omega
            · rw [hO u h1, hcu, if_pos h1]; omega
theorem gget_mem (x : S34) : ∀ G : GL, (gget x G).isSome = true ↔ x ∈ G.map (·.1)
  | [] => by simp [gget]
  | p :: G => by
    unfold gget
    by_cases h : x = p.1
    · simp [h]
    · rw [if_neg h, gget_mem x G]; simp [h]
theorem strK_unique : ∀ {a b : List S34}, a.Pairwise ltK → b.Pairwise ltK → (∀ x, x ∈ a ↔ x ∈ b) → a = b
  | [], [], _, _, _ => rfl
  | [], y :: b, _, _, h => by have := (h y).2 (by simp); cases this
  | x :: a, [], _, _, h => by have := (h x).1 (by simp); cases this
  | x :: a, y :: b, ha, hb, h => by
    rw [List.pairwise_cons] at ha hb
    have e : x = y := by
      rcases List.mem_cons.1 ((h x).1 (by simp)) with e | h1
      · exact e
      · rcases List.mem_cons.1 ((h y).2 (by simp)) with e | h2
        · exact e.symm
        · exact absurd (ltK_trans (ha.1 y h2) (hb.1 x h1)) (ltK_irrefl x)
    subst e
    congr 1
    refine strK_unique ha.2 hb.2 fun z => ?_
    constructor
    · intro hz
      rcases List.mem_cons.1 ((h z).1 (by simp [hz])) with e | h1
      · subst e; exact absurd (ha.1 z hz) (ltK_irrefl z)
      · exact h1
    · intro hz
      rcases List.mem_cons.1 ((h z).2 (by simp [hz])) with e | h1
      · subst e; exact absurd (hb.1 z hz) (ltK_irrefl z)
      · exact h1
def skL (l : List S34) : List S34 := l.foldr (fun k l => if k ∈ l then l else insK k l) []
theorem skL_str : ∀ l : List S34, (skL l).Pairwise ltK
  | [] => List.Pairwise.nil
  | k :: l => by
    show (if k ∈ skL l then skL l else insK k (skL l)).Pairwise ltK
    split
    · exact skL_str l
    · rename_i h; exact insK_str (skL_str l) h
theorem skL_mem (x : S34) : ∀ l : List S34, x ∈ skL l ↔ x ∈ l
  | [] => by simp [skL]
  | k :: l => by
    show x ∈ (if k ∈ skL l then skL l else insK k (skL l)) ↔ _
    split
    · rename_i h
      rw [skL_mem x l, List.mem_cons]
      constructor
      · exact .inr
      · rintro (rfl | h2)
        · exact (skL_mem x l).1 h
        · exact h2
    · rw [insK_mem, skL_mem x l, List.mem_cons]
def sk (G : GL) : List S34 := skL (G.map (·.1))
theorem sk_mem (G : GL) (x : S34) : x ∈ sk G ↔ x ∈ G.map (·.1) := skL_mem x _
theorem strict_of {l : List S34} (h : l.Nodup) (k : l.Pairwise (fun x y => ¬ ltK y x)) : l.Pairwise ltK :=
  (h.and k).imp (fun {a b} ⟨h1, h2⟩ => by
    rcases ltK_total a b with e | e | e
    · exact e
    · exact absurd e h1
    · exact absurd e h2)
theorem sk_of {G : GL} {ks : List S34} (hn : (G.map (·.1)).Nodup) (hp : ks.Perm (G.map (·.1))) (hs : ks.Pairwise (fun x y => ¬ ltK y x)) : ks = sk G :=
  strK_unique (strict_of (hp.nodup_iff.2 hn) hs) (skL_str _) (fun x => by unfold sk; rw [skL_mem, hp.mem_iff])
theorem sk_length {G : GL} (hn : (G.map (·.1)).Nodup) : (sk G).length = G.length := by
  have h1 := nodup_le (l := sk G) (m := G.map (·.1)) (str_nodup (skL_str _)) (fun x hx => (sk_mem G x).1 hx)
  have h2 := nodup_le (l := G.map (·.1)) (m := sk G) hn (fun x hx => (sk_mem G x).2 hx)
  simp at h1 h2
  omega
theorem eds_sub (G : GL) (u x : S34) (h : x ∈ eds G u) : x ∈ sk G := by
  unfold eds at h
  obtain ⟨d, hd, rfl⟩ := List.mem_map.1 h
  have := (List.mem_filter.1 hd).2
  simp only [isE, Bool.and_eq_true] at this
  exact (skL_mem _ _).2 ((gget_mem _ _).1 this.1)
def ordG (G : GL) : List S34 := gOrd G (sk G) (G.length + 1) []
theorem ordP_some {G : GL} (hn : (G.map (·.1)).Nodup) (B : Nat) (hB : ∀ k, ((gget k G).getD []).length ≤ B) (hl : G.length < 100000) (hBB : B < 1000000) (hlB : G.length * B < 1000000000) (ks : List S34) (hp : ks.Perm (G.map (·.1))) (hs : ks.Pairwise (fun x y => ¬ ltK y x)) :
    ordP G (G.length + 1) ks = some (ordG G) := by
  rw [sk_of hn hp hs]
  have hkl := sk_length hn
  have hst := skL_str (G.map (·.1))
  unfold ordP
  rw [p1k_some G B (sk G) _ _ _ (str_nodup hst) (fun _ _ => rfl) hB (fun x => by simp [hkl]; omega) (by simp [hkl]; omega) hBB]
  simp only [Option.bind_some, List.nil_append]
  have hneed : ∀ u, need G [] u = (eds G u).length := fun u => by unfold need; rw [List.filter_eq_self.2 (by simp)]
  refine p2_some G (sk G) hst (by omega) B hB hBB (fun u x h => eds_sub G u x h) _ (fun x => rfl) _ _ _ _ (by simp; omega) List.nodup_nil (by simp) (fun u hu => ?_) (List.Pairwise.filter _ hst) (fun u => ?_)
  · simp [hu, hneed]
  · simp [hneed, List.mem_filter]
end Go.Proofs.Ytokambhemoeloaa.G
end
section
namespace Go.Proofs.Ytokambhemoeloaa.PA
open Go.RowKit Go.Proofs.YtokambhemoeloaaW.PrintWords Go.Proofs.YtokambhemoeloaaW.PrintLast Go.Proofs.YtokambhemoeloaaW.PrintMore
attribute [local go_sem] max2_int min2_int max_two min_two max_three min_three max_four min_four   -- for this text's walks alone
set_option linter.unusedVariables false
set_option linter.unusedSimpArgs false
def skymosaicref32_Less.f (a0_0 : Int) (a0_1 : Int) (a0_2 : Int) (a0_3 : Int) (a0_4 : Int) (a1_0 : Int) (a1_1 : Int) (a1_2 : Int) (a1_3 : Int) (a1_4 : Int) : Option (Bool) := if a0_0 = a1_0 then (if a0_1 = a1_1 then ((skymosaicref32_Before.f a0_2 a0_3 a0_4 a1_2 a1_3 a1_4).bind fun t206 => (some t206)) else (some (decide (a0_1 < a1_1)))) else (some (decide (a0_0 < a1_0)))
set_option maxHeartbeats 8000000 in
set_option maxRecDepth 100000 in
theorem skymosaicref32_Less.calls (a0_0 : Int) (a0_1 : Int) (a0_2 : Int) (a0_3 : Int) (a0_4 : Int) (a1_0 : Int) (a1_1 : Int) (a1_2 : Int) (a1_3 : Int) (a1_4 : Int) (r : Bool) (w : World) (h : skymosaicref32_Less.f a0_0 a0_1 a0_2 a0_3 a0_4 a1_0 a1_1 a1_2 a1_3 a1_4 = some r) :
    Calls Try.prog 57 #[.agg #[.int .i64 a0_0, .int .i64 a0_1, .int .i64 a0_2, .int .i64 a0_3, .int .i64 a0_4], .agg #[.int .i64 a1_0, .int .i64 a1_1, .int .i64 a1_2, .int .i64 a1_3, .int .i64 a1_4]] w fun e w' => e = .returned (.bool r) ∧ Below w.heap.size w w' := by
  have hu56 := Try.underlying56
  have hu34 := Try.underlying34
  have HB := Aside0.mk (Below.refl w.heap.size w)
  have H : (if a0_0 = a1_0 then (if a0_1 = a1_1 then ((skymosaicref32_Before.f a0_2 a0_3 a0_4 a1_2 a1_3 a1_4).bind fun t206 => (some t206)) else (some (decide (a0_1 < a1_1)))) else (some (decide (a0_0 < a1_0)))) = some r := h
  clear h
  by_cases c3 : a0_0 = a1_0
  · rw [if_pos c3] at H
    have c3b0 : (a0_0 == a1_0) = true := beq_iff_eq.mpr c3
    have c3b1 : (a0_0 != a1_0) = false := bne_eq_false_iff_eq.mpr c3
    clear c3
    by_cases c4 : a0_1 = a1_1
    · rw [if_pos c4] at H
      have c4b0 : (a0_1 == a1_1) = true := beq_iff_eq.mpr c4
      have c4b1 : (a0_1 != a1_1) = false := bne_eq_false_iff_eq.mpr c4
      clear c4
      replace H := Option.bind_eq_some_iff.mp H
      obtain ⟨t206, A50, H⟩ := H
      replace H : (some t206) = some r := H
      have A5 := Aside0.mk A50
      clear A50
      obtain rfl := Option.some.inj H
      go_enter Try.func57, Try.ntmps57
      go_wp2_with (first | ((with_reducible refine gate_dst (N := 2) rfl ?_); refine box_event ?hg (N := 2) ?hd (cs := #[.int .i64 a0_0, .int .i64 a0_1, .int .i64 a0_2, .int .i64 a0_3, .int .i64 a0_4]) (t := 56) ?hr ?_; (case hd => rfl); (case hg => rfl); (case hr => first | (go_simp; done) | (go_simp; rfl)); intro gb204 hg w6 hbox hb; have n0_ := Aside0.mk (below_step (by repeat (first | (with_reducible first | exact HB.out | apply below_alloc | apply pw_below_drewN | apply below_drew1) | exact HB.out)) hb); have n1_ := Aside0.mk (hbox); have n2_ := Aside0.mk ((by rw [hg]; exact (below_size (by repeat (first | (with_reducible first | exact HB.out | apply below_alloc | apply pw_below_drewN | apply below_drew1) | exact HB.out))) : w.heap.size ≤ gb204)); have n3_ := Aside0.mk ((by rw [hg]; exact (below_size (by repeat (first | (with_reducible first | exact HB.out | apply below_alloc | apply pw_below_drewN | apply below_drew1) | exact HB.out))) : w.heap.size ≤ gb204)); clear HB; have HB := n0_; have BK204 := n1_; have GW204 := n2_; have GE204 := n3_; clear n0_ n1_ n2_ n3_; clear hb hbox hg) | ((with_reducible refine gate_dst (N := 3) rfl ?_); refine box_event ?hg (N := 3) ?hd (cs := #[.int .i64 a1_0, .int .i64 a1_1, .int .i64 a1_2, .int .i64 a1_3, .int .i64 a1_4]) (t := 56) ?hr ?_; (case hd => rfl); (case hg => rfl); (case hr => first | (go_simp; done) | (go_simp; rfl)); intro gb205 hg w7 hbox hb; have n0_ := Aside0.mk (blk_below (g := gb204) (o := .cells #[.int .i64 a0_0, .int .i64 a0_1, .int .i64 a0_2, .int .i64 a0_3, .int .i64 a0_4] 56 (0, 0)) (by (with_reducible repeat (first | refine blk_drewN ?_ _ | refine blk_drew ?_ | refine blk_alloc ?_ _)); exact BK204.out) hb); have n1_ := Aside0.mk (below_step (by repeat (first | (with_reducible first | exact HB.out | apply below_alloc | apply pw_below_drewN | apply below_drew1 | refine below_set ?_ GE204.out) | exact HB.out)) hb); have n2_ := Aside0.mk (hbox); have n3_ := Aside0.mk ((by rw [hg]; exact (below_size (by repeat (first | (with_reducible first | exact HB.out | apply below_alloc | apply pw_below_drewN | apply below_drew1 | refine below_set ?_ GE204.out) | exact HB.out))) : w.heap.size ≤ gb205)); have n4_ := Aside0.mk ((by rw [hg]; exact (below_size (by repeat (first | (with_reducible first | exact HB.out | apply below_alloc | apply pw_below_drewN | apply below_drew1 | refine below_set ?_ GE204.out) | exact HB.out))) : w.heap.size ≤ gb205)); have n5_ := Aside0.mk ((by rw [hg]; exact Nat.ne_of_lt (blk_lt (g := gb204) (o := .cells #[.int .i64 a0_0, .int .i64 a0_1, .int .i64 a0_2, .int .i64 a0_3, .int .i64 a0_4] 56 (0, 0)) (by (with_reducible repeat (first | refine blk_drewN ?_ _ | refine blk_drew ?_ | refine blk_alloc ?_ _)); exact BK204.out)) : gb204 ≠ gb205)); have n6_ := Aside0.mk ((by rw [hg]; exact Nat.ne_of_gt (blk_lt (g := gb204) (o := .cells #[.int .i64 a0_0, .int .i64 a0_1, .int .i64 a0_2, .int .i64 a0_3, .int .i64 a0_4] 56 (0, 0)) (by (with_reducible repeat (first | refine blk_drewN ?_ _ | refine blk_drew ?_ | refine blk_alloc ?_ _)); exact BK204.out)) : gb205 ≠ gb204)); clear BK204; clear HB; have BK204 := n0_; have HB := n1_; have BK205 := n2_; have GW205 := n3_; have GE205 := n4_; have NB204_205 := n5_; have NB205_204 := n6_; clear n0_ n1_ n2_ n3_ n4_ n5_ n6_; clear hb hbox hg; have hnb8 := NB204_205.out; have hnc8 := NB205_204.out; have hcz9_0 : w7.cell? ⟨gb204, 0, none⟩ = some (.int .i64 a0_0) := (blk_cell BK204.out 0).trans rfl; have hcz9_1 : w7.cell? ⟨gb204, 1, none⟩ = some (.int .i64 a0_1) := (blk_cell BK204.out 1).trans rfl; have hcz9_2 : w7.cell? ⟨gb204, 2, none⟩ = some (.int .i64 a0_2) := (blk_cell BK204.out 2).trans rfl; have hcz9_3 : w7.cell? ⟨gb204, 3, none⟩ = some (.int .i64 a0_3) := (blk_cell BK204.out 3).trans rfl; have hcz9_4 : w7.cell? ⟨gb204, 4, none⟩ = some (.int .i64 a0_4) := (blk_cell BK204.out 4).trans rfl; have hfz9_0 := blk_frozen BK204.out 0; have hfz9_1 := blk_frozen BK204.out 1; have hfz9_2 := blk_frozen BK204.out 2; have hfz9_3 := blk_frozen BK204.out 3; have hfz9_4 := blk_frozen BK204.out 4; have hcz10_0 : w7.cell? ⟨gb205, 0, none⟩ = some (.int .i64 a1_0) := (blk_cell BK205.out 0).trans rfl; have hcz10_1 : w7.cell? ⟨gb205, 1, none⟩ = some (.int .i64 a1_1) := (blk_cell BK205.out 1).trans rfl; have hcz10_2 : w7.cell? ⟨gb205, 2, none⟩ = some (.int .i64 a1_2) := (blk_cell BK205.out 2).trans rfl; have hcz10_3 : w7.cell? ⟨gb205, 3, none⟩ = some (.int .i64 a1_3) := (blk_cell BK205.out 3).trans rfl; have hcz10_4 : w7.cell? ⟨gb205, 4, none⟩ = some (.int .i64 a1_4) := (blk_cell BK205.out 4).trans rfl; have hfz10_0 := blk_frozen BK205.out 0; have hfz10_1 := blk_frozen BK205.out 1; have hfz10_2 := blk_frozen BK205.out 2; have hfz10_3 := blk_frozen BK205.out 3; have hfz10_4 := blk_frozen BK205.out 4) | ((with_reducible refine gate_callee (f := 58) rfl ?_); refine goesL_ (some 29) rfl rfl Try.func58 (by kernel_rfl) rfl #[.agg #[.int .i64 a0_2, .int .i64 a0_3, .int .i64 a0_4], .agg #[.int .i64 a1_2, .int .i64 a1_3, .int .i64 a1_4]] rfl (by (try simp only [List.map_toArray, List.map_cons, List.map_nil]); first | done | rfl | (simp only [List.length_drop, List.length_take]; rfl)) ?_; (with_reducible refine (skymosaicref32_Before.calls a0_2 a0_3 a0_4 a1_2 a1_3 a1_4 t206 _ A5.out).mono ?_); rintro e w11 ⟨rfl, hb⟩; refine ⟨_, rfl, ?_⟩; have n0_ := Aside0.mk (blk_below (g := gb204) (o := .cells #[.int .i64 a0_0, .int .i64 a0_1, .int .i64 a0_2, .int .i64 a0_3, .int .i64 a0_4] 56 (0, 0)) (by (with_reducible repeat (first | refine blk_drewN ?_ _ | refine blk_drew ?_ | refine blk_alloc ?_ _)); exact BK204.out) hb); have n1_ := Aside0.mk (blk_below (g := gb205) (o := .cells #[.int .i64 a1_0, .int .i64 a1_1, .int .i64 a1_2, .int .i64 a1_3, .int .i64 a1_4] 56 (0, 0)) (by (with_reducible repeat (first | refine blk_drewN ?_ _ | refine blk_drew ?_ | refine blk_alloc ?_ _)); exact BK205.out) hb); have n2_ := Aside0.mk (below_step (by repeat (first | (with_reducible first | exact HB.out | apply below_alloc | apply pw_below_drewN | apply below_drew1 | refine below_set ?_ GE204.out | refine below_set ?_ GE205.out) | exact HB.out)) hb); clear BK204; clear BK205; clear HB; have BK204 := n0_; have BK205 := n1_; have HB := n2_; clear n0_ n1_ n2_; (try clear hb); (try clear hb2); (try clear hk); (try clear hi)))
      go_ret
      exact ⟨by first | rfl | (simp [errW_none, errW_some] <;> rfl) | (simp [*, errW_none, errW_some] <;> rfl), by repeat (first | (with_reducible first | exact HB.out | apply below_alloc | apply pw_below_drewN | apply below_drew1 | refine below_set ?_ GE204.out | refine below_set ?_ GE205.out) | exact HB.out)⟩
    · rw [if_neg c4] at H
      have c4b0 : (a0_1 == a1_1) = false := beq_eq_false_iff_ne.mpr c4
      have c4b1 : (a0_1 != a1_1) = true := bne_iff_ne.mpr c4
      obtain rfl := Option.some.inj H
      go_enter Try.func57, Try.ntmps57
      go_wp2_with (first | ((with_reducible refine gate_dst (N := 2) rfl ?_); refine box_event ?hg (N := 2) ?hd (cs := #[.int .i64 a0_0, .int .i64 a0_1, .int .i64 a0_2, .int .i64 a0_3, .int .i64 a0_4]) (t := 56) ?hr ?_; (case hd => rfl); (case hg => rfl); (case hr => first | (go_simp; done) | (go_simp; rfl)); intro gb204 hg w12 hbox hb; have n0_ := Aside0.mk (below_step (by repeat (first | (with_reducible first | exact HB.out | apply below_alloc | apply pw_below_drewN | apply below_drew1) | exact HB.out)) hb); have n1_ := Aside0.mk (hbox); have n2_ := Aside0.mk ((by rw [hg]; exact (below_size (by repeat (first | (with_reducible first | exact HB.out | apply below_alloc | apply pw_below_drewN | apply below_drew1) | exact HB.out))) : w.heap.size ≤ gb204)); have n3_ := Aside0.mk ((by rw [hg]; exact (below_size (by repeat (first | (with_reducible first | exact HB.out | apply below_alloc | apply pw_below_drewN | apply below_drew1) | exact HB.out))) : w.heap.size ≤ gb204)); clear HB; have HB := n0_; have BK204 := n1_; have GW204 := n2_; have GE204 := n3_; clear n0_ n1_ n2_ n3_; clear hb hbox hg) | ((with_reducible refine gate_dst (N := 3) rfl ?_); refine box_event ?hg (N := 3) ?hd (cs := #[.int .i64 a1_0, .int .i64 a1_1, .int .i64 a1_2, .int .i64 a1_3, .int .i64 a1_4]) (t := 56) ?hr ?_; (case hd => rfl); (case hg => rfl); (case hr => first | (go_simp; done) | (go_simp; rfl)); intro gb205 hg w13 hbox hb; have n0_ := Aside0.mk (blk_below (g := gb204) (o := .cells #[.int .i64 a0_0, .int .i64 a0_1, .int .i64 a0_2, .int .i64 a0_3, .int .i64 a0_4] 56 (0, 0)) (by (with_reducible repeat (first | refine blk_drewN ?_ _ | refine blk_drew ?_ | refine blk_alloc ?_ _)); exact BK204.out) hb); have n1_ := Aside0.mk (below_step (by repeat (first | (with_reducible first | exact HB.out | apply below_alloc | apply pw_below_drewN | apply below_drew1 | refine below_set ?_ GE204.out) | exact HB.out)) hb); have n2_ := Aside0.mk (hbox); have n3_ := Aside0.mk ((by rw [hg]; exact (below_size (by repeat (first | (with_reducible first | exact HB.out | apply below_alloc | apply pw_below_drewN | apply below_drew1 | refine below_set ?_ GE204.out) | exact HB.out))) : w.heap.size ≤ gb205)); have n4_ := Aside0.mk ((by rw [hg]; exact (below_size (by repeat (first | (with_reducible first | exact HB.out | apply below_alloc | apply pw_below_drewN | apply below_drew1 | refine below_set ?_ GE204.out) | exact HB.out))) : w.heap.size ≤ gb205)); have n5_ := Aside0.mk ((by rw [hg]; exact Nat.ne_of_lt (blk_lt (g := gb204) (o := .cells #[.int .i64 a0_0, .int .i64 a0_1, .int .i64 a0_2, .int .i64 a0_3, .int .i64 a0_4] 56 (0, 0)) (by (with_reducible repeat (first | refine blk_drewN ?_ _ | refine blk_drew ?_ | refine blk_alloc ?_ _)); exact BK204.out)) : gb204 ≠ gb205)); have n6_ := Aside0.mk ((by rw [hg]; exact Nat.ne_of_gt (blk_lt (g := gb204) (o := .cells #[.int .i64 a0_0, .int .i64 a0_1, .int .i64 a0_2, .int .i64 a0_3, .int .i64 a0_4] 56 (0, 0)) (by (with_reducible repeat (first | refine blk_drewN ?_ _ | refine blk_drew ?_ | refine blk_alloc ?_ _)); exact BK204.out)) : gb205 ≠ gb204)); clear BK204; clear HB; have BK204 := n0_; have HB := n1_; have BK205 := n2_; have GW205 := n3_; have GE205 := n4_; have NB204_205 := n5_; have NB205_204 := n6_; clear n0_ n1_ n2_ n3_ n4_ n5_ n6_; clear hb hbox hg; have hnb14 := NB204_205.out; have hnc14 := NB205_204.out; have hcz15_0 : w13.cell? ⟨gb204, 0, none⟩ = some (.int .i64 a0_0) := (blk_cell BK204.out 0).trans rfl; have hcz15_1 : w13.cell? ⟨gb204, 1, none⟩ = some (.int .i64 a0_1) := (blk_cell BK204.out 1).trans rfl; have hcz15_2 : w13.cell? ⟨gb204, 2, none⟩ = some (.int .i64 a0_2) := (blk_cell BK204.out 2).trans rfl; have hcz15_3 : w13.cell? ⟨gb204, 3, none⟩ = some (.int .i64 a0_3) := (blk_cell BK204.out 3).trans rfl; have hcz15_4 : w13.cell? ⟨gb204, 4, none⟩ = some (.int .i64 a0_4) := (blk_cell BK204.out 4).trans rfl; have hfz15_0 := blk_frozen BK204.out 0; have hfz15_1 := blk_frozen BK204.out 1; have hfz15_2 := blk_frozen BK204.out 2; have hfz15_3 := blk_frozen BK204.out 3; have hfz15_4 := blk_frozen BK204.out 4; have hcz16_0 : w13.cell? ⟨gb205, 0, none⟩ = some (.int .i64 a1_0) := (blk_cell BK205.out 0).trans rfl; have hcz16_1 : w13.cell? ⟨gb205, 1, none⟩ = some (.int .i64 a1_1) := (blk_cell BK205.out 1).trans rfl; have hcz16_2 : w13.cell? ⟨gb205, 2, none⟩ = some (.int .i64 a1_2) := (blk_cell BK205.out 2).trans rfl; have hcz16_3 : w13.cell? ⟨gb205, 3, none⟩ = some (.int .i64 a1_3) := (blk_cell BK205.out 3).trans rfl; have hcz16_4 : w13.cell? ⟨gb205, 4, none⟩ = some (.int .i64 a1_4) := (blk_cell BK205.out 4).trans rfl; have hfz16_0 := blk_frozen BK205.out 0; have hfz16_1 := blk_frozen BK205.out 1; have hfz16_2 := blk_frozen BK205.out 2; have hfz16_3 := blk_frozen BK205.out 3; have hfz16_4 := blk_frozen BK205.out 4))
      go_ret
      exact ⟨by first | rfl | (simp [errW_none, errW_some] <;> rfl) | (simp [*, errW_none, errW_some] <;> rfl), by repeat (first | (with_reducible first | exact HB.out | apply below_alloc | apply pw_below_drewN | apply below_drew1 | refine below_set ?_ GE204.out | refine below_set ?_ GE205.out) | exact HB.out)⟩
  · rw [if_neg c3] at H
    have c3b0 : (a0_0 == a1_0) = false := beq_eq_false_iff_ne.mpr c3
    have c3b1 : (a0_0 != a1_0) = true := bne_iff_ne.mpr c3
    obtain rfl := Option.some.inj H
    go_enter Try.func57, Try.ntmps57
    go_wp2_with (first | ((with_reducible refine gate_dst (N := 2) rfl ?_); refine box_event ?hg (N := 2) ?hd (cs := #[.int .i64 a0_0, .int .i64 a0_1, .int .i64 a0_2, .int .i64 a0_3, .int .i64 a0_4]) (t := 56) ?hr ?_; (case hd => rfl); (case hg => rfl); (case hr => first | (go_simp; done) | (go_simp; rfl)); intro gb204 hg w17 hbox hb; have n0_ := Aside0.mk (below_step (by repeat (first | (with_reducible first | exact HB.out | apply below_alloc | apply pw_below_drewN | apply below_drew1) | exact HB.out)) hb); have n1_ := Aside0.mk (hbox); have n2_ := Aside0.mk ((by rw [hg]; exact (below_size (by repeat (first | (with_reducible first | exact HB.out | apply below_alloc | apply pw_below_drewN | apply below_drew1) | exact HB.out))) : w.heap.size ≤ gb204)); have n3_ := Aside0.mk ((by rw [hg]; exact (below_size (by repeat (first | (with_reducible first | exact HB.out | apply below_alloc | apply pw_below_drewN | apply below_drew1) | exact HB.out))) : w.heap.size ≤ gb204)); clear HB; have HB := n0_; have BK204 := n1_; have GW204 := n2_; have GE204 := n3_; clear n0_ n1_ n2_ n3_; clear hb hbox hg) | ((with_reducible refine gate_dst (N := 3) rfl ?_); refine box_event ?hg (N := 3) ?hd (cs := #[.int .i64 a1_0, .int .i64 a1_1, .int .i64 a1_2, .int .i64 a1_3, .int .i64 a1_4]) (t := 56) ?hr ?_; (case hd => rfl); (case hg => rfl); (case hr => first | (go_simp; done) | (go_simp; rfl)); intro gb205 hg w18 hbox hb; have n0_ := Aside0.mk (blk_below (g := gb204) (o := .cells #[.int .i64 a0_0, .int .i64 a0_1, .int .i64 a0_2, .int .i64 a0_3, .int .i64 a0_4] 56 (0, 0)) (by (with_reducible repeat (first | refine blk_drewN ?_ _ | refine blk_drew ?_ | refine blk_alloc ?_ _)); exact BK204.out) hb); have n1_ := Aside0.mk (below_step (by repeat (first | (with_reducible first | exact HB.out | apply below_alloc | apply pw_below_drewN | apply below_drew1 | refine below_set ?_ GE204.out) | exact HB.out)) hb); have n2_ := Aside0.mk (hbox); have n3_ := Aside0.mk ((by rw [hg]; exact (below_size (by repeat (first | (with_reducible first | exact HB.out | apply below_alloc | apply pw_below_drewN | apply below_drew1 | refine below_set ?_ GE204.out) | exact HB.out))) : w.heap.size ≤ gb205)); have n4_ := Aside0.mk ((by rw [hg]; exact (below_size (by repeat (first | (with_reducible first | exact HB.out | apply below_alloc | apply pw_below_drewN | apply below_drew1 | refine below_set ?_ GE204.out) | exact HB.out))) : w.heap.size ≤ gb205)); have n5_ := Aside0.mk ((by rw [hg]; exact Nat.ne_of_lt (blk_lt (g := gb204) (o := .cells #[.int .i64 a0_0, .int .i64 a0_1, .int .i64 a0_2, .int .i64 a0_3, .int .i64 a0_4] 56 (0, 0)) (by (with_reducible repeat (first | refine blk_drewN ?_ _ | refine blk_drew ?_ | refine blk_alloc ?_ _)); exact BK204.out)) : gb204 ≠ gb205)); have n6_ := Aside0.mk ((by rw [hg]; exact Nat.ne_of_gt (blk_lt (g := gb204) (o := .cells #[.int .i64 a0_0, .int .i64 a0_1, .int .i64 a0_2, .int .i64 a0_3, .int .i64 a0_4] 56 (0, 0)) (by (with_reducible repeat (first | refine blk_drewN ?_ _ | refine blk_drew ?_ | refine blk_alloc ?_ _)); exact BK204.out)) : gb205 ≠ gb204)); clear BK204; clear HB; have BK204 := n0_; have HB := n1_; have BK205 := n2_; have GW205 := n3_; have GE205 := n4_; have NB204_205 := n5_; have NB205_204 := n6_; clear n0_ n1_ n2_ n3_ n4_ n5_ n6_; clear hb hbox hg; have hnb19 := NB204_205.out; have hnc19 := NB205_204.out; have hcz20_0 : w18.cell? ⟨gb204, 0, none⟩ = some (.int .i64 a0_0) := (blk_cell BK204.out 0).trans rfl; have hcz20_1 : w18.cell? ⟨gb204, 1, none⟩ = some (.int .i64 a0_1) := (blk_cell BK204.out 1).trans rfl; have hcz20_2 : w18.cell? ⟨gb204, 2, none⟩ = some (.int .i64 a0_2) := (blk_cell BK204.out 2).trans rfl; have hcz20_3 : w18.cell? ⟨gb204, 3, none⟩ = some (.int .i64 a0_3) := (blk_cell BK204.out 3).trans rfl; have hcz20_4 : w18.cell? ⟨gb204, 4, none⟩ = some (.int .i64 a0_4) := (blk_cell BK204.out 4).trans rfl; have hfz20_0 := blk_frozen BK204.out 0; have hfz20_1 := blk_frozen BK204.out 1; have hfz20_2 := blk_frozen BK204.out 2; have hfz20_3 := blk_frozen BK204.out 3; have hfz20_4 := blk_frozen BK204.out 4; have hcz21_0 : w18.cell? ⟨gb205, 0, none⟩ = some (.int .i64 a1_0) := (blk_cell BK205.out 0).trans rfl; have hcz21_1 : w18.cell? ⟨gb205, 1, none⟩ = some (.int .i64 a1_1) := (blk_cell BK205.out 1).trans rfl; have hcz21_2 : w18.cell? ⟨gb205, 2, none⟩ = some (.int .i64 a1_2) := (blk_cell BK205.out 2).trans rfl; have hcz21_3 : w18.cell? ⟨gb205, 3, none⟩ = some (.int .i64 a1_3) := (blk_cell BK205.out 3).trans rfl; have hcz21_4 : w18.cell? ⟨gb205, 4, none⟩ = some (.int .i64 a1_4) := (blk_cell BK205.out 4).trans rfl; have hfz21_0 := blk_frozen BK205.out 0; have hfz21_1 := blk_frozen BK205.out 1; have hfz21_2 := blk_frozen BK205.out 2; have hfz21_3 := blk_frozen BK205.out 3; have hfz21_4 := blk_frozen BK205.out 4))
    go_ret
    exact ⟨by first | rfl | (simp [errW_none, errW_some] <;> rfl) | (simp [*, errW_none, errW_some] <;> rfl), by repeat (first | (with_reducible first | exact HB.out | apply below_alloc | apply pw_below_drewN | apply below_drew1 | refine below_set ?_ GE204.out | refine below_set ?_ GE205.out) | exact HB.out)⟩
end Go.Proofs.Ytokambhemoeloaa.PA
end
section
namespace Go.Proofs.Ytokambhemoeloaa.PA
open Go.RowKit Go.Proofs.YtokambhemoeloaaW.PrintWords Go.Proofs.YtokambhemoeloaaW.PrintLast Go.Proofs.YtokambhemoeloaaW.PrintMore
attribute [local go_sem] max2_int min2_int max_two min_two max_three min_three max_four min_four   -- for this text's walks alone
set_option linter.unusedVariables false
set_option linter.unusedSimpArgs false
theorem eqA56 (d : Nat) (w : World) (x0 y0 : Int) (x1 y1 : Int) (x2 y2 : Int) (x3 y3 : Int) (x4 y4 : Int) :
    (Op.equalIn (d + 3) 56 (.agg #[.int .i64 x0, .int .i64 x1, .int .i64 x2, .int .i64 x3, .int .i64 x4]) (.agg #[.int .i64 y0, .int .i64 y1, .int .i64 y2, .int .i64 y3, .int .i64 y4])).run Try.prog w = .ok (x0 == y0 && (x1 == y1 && ((x2 == y2 && (x3 == y3 && (x4 == y4)))))) w := by
  refine eqA_of Try.underlying56 (by kernel_rfl) ?_
  refine eqf_cons (by rfl) (by go_simp; rfl) (by go_simp; rfl) (by go_simp) ?_
  refine eqf_cons (by rfl) (by go_simp; rfl) (by go_simp; rfl) (by go_simp) ?_
  exact eqf_last (by rfl) (by go_simp) (by go_simp) (eqA34 (d + 0) w _ _ _ _ _ _)
end Go.Proofs.Ytokambhemoeloaa.PA
end
