/- Parts of a proof about the given program: lemmas and walks, packed by wip/tools/pack.py out of this repo's texts. -/
import Derived.Test.YtokambhemoeloaaKAff0
import Derived.ArgAppend
import Derived.Below
import Derived.BigQuiet
import Derived.Deep.AppendLies
import Derived.Deep.CutBlock
import Derived.Deep.DeepCutAuto
import Derived.Deep.DeepMust
import Derived.Deep.Draws
import Derived.Deep.LoopGhost
import Derived.Deep.OwnRows
import Derived.Deep.Quiet
import Derived.Deep.QuietTactic
import Derived.Deep.RegionHeld3
import Derived.Deep.RegionWith
import Derived.Ground.SlsfProg
import Derived.KernelRfl
import Derived.Laws.BitsLemmas
import Derived.Laws.BytesArg
import Derived.Laws.IdiomCopy
import Derived.Laws.MakeOwn
import Derived.Laws.OwnMore
import Derived.Laws.Rows
import Derived.Laws.Slices
import Derived.Lib.AppendStr
import Derived.Lib.ConvBytes
import Derived.Lib.Hide
import Derived.Lib.QuietBelow
import Derived.Lib.SliceRun
import Derived.Lib.SlicesCompact
import Derived.Maps.AppendAt
import Derived.Maps.OwnSet
import Derived.Maps.RangeWalk
import Derived.OrdersHeld
import Derived.Outline
import Derived.OwnWalk
import Derived.RowKit
import Derived.RowKit3
import Derived.Shelf.SlGeneric
import Derived.Shelf.SlSortCmp.NoneTotal
import Derived.Shelf.SlSortCmp.QuietGrown
import Derived.Shelf.SlSortCmp.WholeK
import Derived.StillTail
import Derived.Tactics
import Derived.Test.YtokambhemoeloaaProg
import Derived.WalkKit
import Derived.WalkLawsBesides
import Derived.WalkSpells
import Derived.WideLaws
section
namespace Go.Proofs.Ytokambhemoeloaa.PA
open Go.RowKit Go.Proofs.YtokambhemoeloaaW.PrintWords Go.Proofs.YtokambhemoeloaaW.PrintLast Go.Proofs.YtokambhemoeloaaW.PrintMore
attribute [local go_sem] max2_int min2_int max_two min_two max_three min_three max_four min_four   -- for this text's walks alone
set_option linter.unusedVariables false
set_option linter.unusedSimpArgs false
def errW : Option Int → Value
  | none => .nilIface
  | some c => .iface 0 (.int .i64 c)
theorem errW_none : errW none = .nilIface := rfl
theorem errW_some (c : Int) : errW (some c) = .iface 0 (.int .i64 c) := rfl
theorem info37 : (Try.prog.info? 37).map (fun i => (i.zero, i.size, i.bytes)) = some (some (.agg #[(.int .i64 0), (.int .i64 0), (.int .i64 0), (.slice none 0 0)]), 4, 48) := by kernel_rfl
theorem info51 : (Try.prog.info? 51).map (fun i => (i.zero, i.size, i.bytes)) = some (some (.agg #[(.int .i64 0), (.int .i64 0), (.int .i64 0), (.int .i64 0), (.int .i64 0)]), 5, 40) := by kernel_rfl
theorem info56 : (Try.prog.info? 56).map (fun i => (i.zero, i.size, i.bytes)) = some (some (.agg #[(.int .i64 0), (.int .i64 0), (.int .i64 0), (.int .i64 0), (.int .i64 0)]), 5, 40) := by kernel_rfl
structure S34 where
  f0 : Int
  f1 : Int
  f2 : Int
def z34 : S34 := ⟨(0 : Int), (0 : Int), (0 : Int)⟩
def k34 : Kd S34 := Kd.iso (Kd.pair (Kd.int .i64) (Kd.pair (Kd.int .i64) (Kd.int .i64))) (fun x : S34 => (x.f0, x.f1, x.f2))
theorem k34_open {w : World} {x : S34} {cs : List Value} (h : k34.K w x cs) : cs = [.int .i64 x.f0, .int .i64 x.f1, .int .i64 x.f2] := by
  obtain ⟨_, _, rfl, rfl, ⟨_, _, rfl, rfl, rfl⟩⟩ := h
  exact rfl
theorem k34_openM {w : World} {base : Nat} {ok : Nat → Prop} {x : S34} {cs : List Value} (h : k34.M w base ok x cs) : cs = [.int .i64 x.f0, .int .i64 x.f1, .int .i64 x.f2] := by
  obtain ⟨_, _, rfl, rfl, ⟨_, _, rfl, rfl, rfl⟩⟩ := h
  exact rfl
theorem k34_mk (w : World) (x : S34)  : k34.K w x [.int .i64 x.f0, .int .i64 x.f1, .int .i64 x.f2] := ⟨[.int .i64 x.f0], [.int .i64 x.f1, .int .i64 x.f2], rfl, rfl, ⟨[.int .i64 x.f1], [.int .i64 x.f2], rfl, rfl, rfl⟩⟩
theorem k34_mkM (w : World) (base : Nat) (ok : Nat → Prop) (x : S34)  : k34.M w base ok x [.int .i64 x.f0, .int .i64 x.f1, .int .i64 x.f2] := ⟨[.int .i64 x.f0], [.int .i64 x.f1, .int .i64 x.f2], rfl, rfl, ⟨[.int .i64 x.f1], [.int .i64 x.f2], rfl, rfl, rfl⟩⟩
def rd_T34 (xs : List S34) (i : Int) : S34 := xs.getD i.toNat z34
theorem at_T34 {w : World} {A : Option Addr} {n : Nat} {xs : List S34} (h : Kd.C k34 w A n xs) (i : Int) (h0 : 0 ≤ i) (h1 : i < n) : ∃ ad , A = some ad ∧ w.cell? (ad.add (i.toNat * 3)) = some (.int .i64 (rd_T34 xs i).f0) ∧ w.cell? ⟨(ad.add (i.toNat * 3)).block, (ad.add (i.toNat * 3)).off + 1, none⟩ = some (.int .i64 (rd_T34 xs i).f1) ∧ w.cell? ⟨(ad.add (i.toNat * 3)).block, (ad.add (i.toNat * 3)).off + 2, none⟩ = some (.int .i64 (rd_T34 xs i).f2) := by
  obtain ⟨ad, c, e, _, hK, hc0⟩ := Kd.C_get h z34 i h0 h1
  have hc : ∀ j u, c[j]? = some u → w.cell? (ad.add (i.toNat * 3 + j)) = some u := hc0
  obtain rfl := k34_open hK
  exact ⟨ad, e, hc 0 _ rfl, by rw [← add_field _ _ 1 (by omega)]; exact hc 1 _ rfl, by rw [← add_field _ _ 2 (by omega)]; exact hc 2 _ rfl⟩
structure S56 where
  f0 : Int
  f1 : Int
  f2 : S34
def z56 : S56 := ⟨(0 : Int), (0 : Int), z34⟩
def k56 : Kd S56 := Kd.iso (Kd.pair (Kd.int .i64) (Kd.pair (Kd.int .i64) k34)) (fun x : S56 => (x.f0, x.f1, x.f2))
theorem k56_open {w : World} {x : S56} {cs : List Value} (h : k56.K w x cs) : cs = [.int .i64 x.f0, .int .i64 x.f1, .int .i64 x.f2.f0, .int .i64 x.f2.f1, .int .i64 x.f2.f2] := by
  obtain ⟨_, _, rfl, rfl, ⟨_, _, rfl, rfl, s2⟩⟩ := h
  obtain rfl := k34_open s2
  exact rfl
theorem k56_mk (w : World) (x : S56)  : k56.K w x [.int .i64 x.f0, .int .i64 x.f1, .int .i64 x.f2.f0, .int .i64 x.f2.f1, .int .i64 x.f2.f2] := ⟨[.int .i64 x.f0], [.int .i64 x.f1, .int .i64 x.f2.f0, .int .i64 x.f2.f1, .int .i64 x.f2.f2], rfl, rfl, ⟨[.int .i64 x.f1], [.int .i64 x.f2.f0, .int .i64 x.f2.f1, .int .i64 x.f2.f2], rfl, rfl, (k34_mk w x.f2 )⟩⟩
theorem k56_mkM (w : World) (base : Nat) (ok : Nat → Prop) (x : S56)  : k56.M w base ok x [.int .i64 x.f0, .int .i64 x.f1, .int .i64 x.f2.f0, .int .i64 x.f2.f1, .int .i64 x.f2.f2] := ⟨[.int .i64 x.f0], [.int .i64 x.f1, .int .i64 x.f2.f0, .int .i64 x.f2.f1, .int .i64 x.f2.f2], rfl, rfl, ⟨[.int .i64 x.f1], [.int .i64 x.f2.f0, .int .i64 x.f2.f1, .int .i64 x.f2.f2], rfl, rfl, (k34_mkM w base ok x.f2 )⟩⟩
def rd_T56 (xs : List S56) (i : Int) : S56 := xs.getD i.toNat z56
theorem at_T56 {w : World} {A : Option Addr} {n : Nat} {xs : List S56} (h : Kd.C k56 w A n xs) (i : Int) (h0 : 0 ≤ i) (h1 : i < n) : ∃ ad , A = some ad ∧ w.cell? (ad.add (i.toNat * 5)) = some (.int .i64 (rd_T56 xs i).f0) ∧ w.cell? ⟨(ad.add (i.toNat * 5)).block, (ad.add (i.toNat * 5)).off + 1, none⟩ = some (.int .i64 (rd_T56 xs i).f1) ∧ w.cell? ⟨(ad.add (i.toNat * 5)).block, (ad.add (i.toNat * 5)).off + 2, none⟩ = some (.int .i64 (rd_T56 xs i).f2.f0) ∧ w.cell? ⟨(ad.add (i.toNat * 5)).block, (ad.add (i.toNat * 5)).off + 3, none⟩ = some (.int .i64 (rd_T56 xs i).f2.f1) ∧ w.cell? ⟨(ad.add (i.toNat * 5)).block, (ad.add (i.toNat * 5)).off + 4, none⟩ = some (.int .i64 (rd_T56 xs i).f2.f2) := by
  obtain ⟨ad, c, e, _, hK, hc0⟩ := Kd.C_get h z56 i h0 h1
  have hc : ∀ j u, c[j]? = some u → w.cell? (ad.add (i.toNat * 5 + j)) = some u := hc0
  obtain rfl := k56_open hK
  exact ⟨ad, e, hc 0 _ rfl, by rw [← add_field _ _ 1 (by omega)]; exact hc 1 _ rfl, by rw [← add_field _ _ 2 (by omega)]; exact hc 2 _ rfl, by rw [← add_field _ _ 3 (by omega)]; exact hc 3 _ rfl, by rw [← add_field _ _ 4 (by omega)]; exact hc 4 _ rfl⟩
structure S37 where
  f0 : S34
  f1 : (List S56)
def z37 : S37 := ⟨z34, ([] : List S56)⟩
def k37 : Kd S37 := Kd.iso (Kd.pair k34 (Kd.slice 56 k56)) (fun x : S37 => (x.f0, x.f1))
theorem k37_open {w : World} {x : S37} {cs : List Value} (h : k37.K w x cs) : ∃ A3 c3, cs = [.int .i64 x.f0.f0, .int .i64 x.f0.f1, .int .i64 x.f0.f2, .slice A3 x.f1.length c3] ∧ x.f1.length ≤ c3 ∧ k56.C w A3 x.f1.length x.f1 := by
  obtain ⟨_, _, rfl, s0, ⟨A3, c3, rfl, l3, g3⟩⟩ := h
  obtain rfl := k34_open s0
  exact ⟨A3, c3, rfl, l3, g3⟩
theorem k37_mkM (w : World) (base : Nat) (ok : Nat → Prop) (x : S37) {v3 : Value} (g3 : k56.R 56 w base ok v3 x.f1) : k37.M w base ok x [.int .i64 x.f0.f0, .int .i64 x.f0.f1, .int .i64 x.f0.f2, v3] := ⟨[.int .i64 x.f0.f0, .int .i64 x.f0.f1, .int .i64 x.f0.f2], [v3], rfl, (k34_mkM w base ok x.f0 ), ⟨v3, rfl, g3⟩⟩
def rd_T37 (xs : List S37) (i : Int) : S37 := xs.getD i.toNat z37
theorem at_T37 {w : World} {A : Option Addr} {n : Nat} {xs : List S37} (h : Kd.C k37 w A n xs) (i : Int) (h0 : 0 ≤ i) (h1 : i < n) : ∃ ad A3 c3, A = some ad ∧ w.cell? (ad.add (i.toNat * 4)) = some (.int .i64 (rd_T37 xs i).f0.f0) ∧ w.cell? ⟨(ad.add (i.toNat * 4)).block, (ad.add (i.toNat * 4)).off + 1, none⟩ = some (.int .i64 (rd_T37 xs i).f0.f1) ∧ w.cell? ⟨(ad.add (i.toNat * 4)).block, (ad.add (i.toNat * 4)).off + 2, none⟩ = some (.int .i64 (rd_T37 xs i).f0.f2) ∧ w.cell? ⟨(ad.add (i.toNat * 4)).block, (ad.add (i.toNat * 4)).off + 3, none⟩ = some (.slice A3 (rd_T37 xs i).f1.length c3) ∧ (rd_T37 xs i).f1.length ≤ c3 ∧ k56.C w A3 (rd_T37 xs i).f1.length (rd_T37 xs i).f1 := by
  obtain ⟨ad, c, e, _, hK, hc0⟩ := Kd.C_get h z37 i h0 h1
  have hc : ∀ j u, c[j]? = some u → w.cell? (ad.add (i.toNat * 4 + j)) = some u := hc0
  obtain ⟨A3, c3, rfl, l3, g3⟩ := k37_open hK
  exact ⟨ad, A3, c3, e, hc 0 _ rfl, by rw [← add_field _ _ 1 (by omega)]; exact hc 1 _ rfl, by rw [← add_field _ _ 2 (by omega)]; exact hc 2 _ rfl, by rw [← add_field _ _ 3 (by omega)]; exact hc 3 _ rfl, l3, g3⟩
structure S51 where
  f0 : Int
  f1 : Int
  f2 : S34
def z51 : S51 := ⟨(0 : Int), (0 : Int), z34⟩
def k51 : Kd S51 := Kd.iso (Kd.pair (Kd.int .i64) (Kd.pair (Kd.int .i64) k34)) (fun x : S51 => (x.f0, x.f1, x.f2))
theorem k51_open {w : World} {x : S51} {cs : List Value} (h : k51.K w x cs) : cs = [.int .i64 x.f0, .int .i64 x.f1, .int .i64 x.f2.f0, .int .i64 x.f2.f1, .int .i64 x.f2.f2] := by
  obtain ⟨_, _, rfl, rfl, ⟨_, _, rfl, rfl, s2⟩⟩ := h
  obtain rfl := k34_open s2
  exact rfl
theorem k51_openM {w : World} {base : Nat} {ok : Nat → Prop} {x : S51} {cs : List Value} (h : k51.M w base ok x cs) : cs = [.int .i64 x.f0, .int .i64 x.f1, .int .i64 x.f2.f0, .int .i64 x.f2.f1, .int .i64 x.f2.f2] := by
  obtain ⟨_, _, rfl, rfl, ⟨_, _, rfl, rfl, s2⟩⟩ := h
  obtain rfl := k34_openM s2
  exact rfl
theorem k51_mk (w : World) (x : S51)  : k51.K w x [.int .i64 x.f0, .int .i64 x.f1, .int .i64 x.f2.f0, .int .i64 x.f2.f1, .int .i64 x.f2.f2] := ⟨[.int .i64 x.f0], [.int .i64 x.f1, .int .i64 x.f2.f0, .int .i64 x.f2.f1, .int .i64 x.f2.f2], rfl, rfl, ⟨[.int .i64 x.f1], [.int .i64 x.f2.f0, .int .i64 x.f2.f1, .int .i64 x.f2.f2], rfl, rfl, (k34_mk w x.f2 )⟩⟩
theorem k51_mkM (w : World) (base : Nat) (ok : Nat → Prop) (x : S51)  : k51.M w base ok x [.int .i64 x.f0, .int .i64 x.f1, .int .i64 x.f2.f0, .int .i64 x.f2.f1, .int .i64 x.f2.f2] := ⟨[.int .i64 x.f0], [.int .i64 x.f1, .int .i64 x.f2.f0, .int .i64 x.f2.f1, .int .i64 x.f2.f2], rfl, rfl, ⟨[.int .i64 x.f1], [.int .i64 x.f2.f0, .int .i64 x.f2.f1, .int .i64 x.f2.f2], rfl, rfl, (k34_mkM w base ok x.f2 )⟩⟩
def rd_T51 (xs : List S51) (i : Int) : S51 := xs.getD i.toNat z51
theorem at_T51 {w : World} {A : Option Addr} {n : Nat} {xs : List S51} (h : Kd.C k51 w A n xs) (i : Int) (h0 : 0 ≤ i) (h1 : i < n) : ∃ ad , A = some ad ∧ w.cell? (ad.add (i.toNat * 5)) = some (.int .i64 (rd_T51 xs i).f0) ∧ w.cell? ⟨(ad.add (i.toNat * 5)).block, (ad.add (i.toNat * 5)).off + 1, none⟩ = some (.int .i64 (rd_T51 xs i).f1) ∧ w.cell? ⟨(ad.add (i.toNat * 5)).block, (ad.add (i.toNat * 5)).off + 2, none⟩ = some (.int .i64 (rd_T51 xs i).f2.f0) ∧ w.cell? ⟨(ad.add (i.toNat * 5)).block, (ad.add (i.toNat * 5)).off + 3, none⟩ = some (.int .i64 (rd_T51 xs i).f2.f1) ∧ w.cell? ⟨(ad.add (i.toNat * 5)).block, (ad.add (i.toNat * 5)).off + 4, none⟩ = some (.int .i64 (rd_T51 xs i).f2.f2) := by
  obtain ⟨ad, c, e, _, hK, hc0⟩ := Kd.C_get h z51 i h0 h1
  have hc : ∀ j u, c[j]? = some u → w.cell? (ad.add (i.toNat * 5 + j)) = some u := hc0
  obtain rfl := k51_open hK
  exact ⟨ad, e, hc 0 _ rfl, by rw [← add_field _ _ 1 (by omega)]; exact hc 1 _ rfl, by rw [← add_field _ _ 2 (by omega)]; exact hc 2 _ rfl, by rw [← add_field _ _ 3 (by omega)]; exact hc 3 _ rfl, by rw [← add_field _ _ 4 (by omega)]; exact hc 4 _ rfl⟩
structure S81 where
  f0 : S34
  f1 : (List S56)
def z81 : S81 := ⟨z34, ([] : List S56)⟩
def k81 : Kd S81 := Kd.iso (Kd.pair k34 (Kd.slice 56 k56)) (fun x : S81 => (x.f0, x.f1))
theorem k81_open {w : World} {x : S81} {cs : List Value} (h : k81.K w x cs) : ∃ A3 c3, cs = [.int .i64 x.f0.f0, .int .i64 x.f0.f1, .int .i64 x.f0.f2, .slice A3 x.f1.length c3] ∧ x.f1.length ≤ c3 ∧ k56.C w A3 x.f1.length x.f1 := by
  obtain ⟨_, _, rfl, s0, ⟨A3, c3, rfl, l3, g3⟩⟩ := h
  obtain rfl := k34_open s0
  exact ⟨A3, c3, rfl, l3, g3⟩
theorem k81_mk (w : World) (x : S81) {A3 : Option Addr} {c3 : Nat} (l3 : x.f1.length ≤ c3) (g3 : k56.C w A3 x.f1.length x.f1) : k81.K w x [.int .i64 x.f0.f0, .int .i64 x.f0.f1, .int .i64 x.f0.f2, .slice A3 x.f1.length c3] := ⟨[.int .i64 x.f0.f0, .int .i64 x.f0.f1, .int .i64 x.f0.f2], [.slice A3 x.f1.length c3], rfl, (k34_mk w x.f0 ), ⟨A3, c3, rfl, l3, g3⟩⟩
def rd_T81 (xs : List S81) (i : Int) : S81 := xs.getD i.toNat z81
theorem at_T81 {w : World} {A : Option Addr} {n : Nat} {xs : List S81} (h : Kd.C k81 w A n xs) (i : Int) (h0 : 0 ≤ i) (h1 : i < n) : ∃ ad A3 c3, A = some ad ∧ w.cell? (ad.add (i.toNat * 4)) = some (.int .i64 (rd_T81 xs i).f0.f0) ∧ w.cell? ⟨(ad.add (i.toNat * 4)).block, (ad.add (i.toNat * 4)).off + 1, none⟩ = some (.int .i64 (rd_T81 xs i).f0.f1) ∧ w.cell? ⟨(ad.add (i.toNat * 4)).block, (ad.add (i.toNat * 4)).off + 2, none⟩ = some (.int .i64 (rd_T81 xs i).f0.f2) ∧ w.cell? ⟨(ad.add (i.toNat * 4)).block, (ad.add (i.toNat * 4)).off + 3, none⟩ = some (.slice A3 (rd_T81 xs i).f1.length c3) ∧ (rd_T81 xs i).f1.length ≤ c3 ∧ k56.C w A3 (rd_T81 xs i).f1.length (rd_T81 xs i).f1 := by
  obtain ⟨ad, c, e, _, hK, hc0⟩ := Kd.C_get h z81 i h0 h1
  have hc : ∀ j u, c[j]? = some u → w.cell? (ad.add (i.toNat * 4 + j)) = some u := hc0
  obtain ⟨A3, c3, rfl, l3, g3⟩ := k81_open hK
  exact ⟨ad, A3, c3, e, hc 0 _ rfl, by rw [← add_field _ _ 1 (by omega)]; exact hc 1 _ rfl, by rw [← add_field _ _ 2 (by omega)]; exact hc 2 _ rfl, by rw [← add_field _ _ 3 (by omega)]; exact hc 3 _ rfl, l3, g3⟩
end Go.Proofs.Ytokambhemoeloaa.PA
end
section
namespace Go.Proofs.Ytokambhemoeloaa.PA
open Go.RowKit Go.Proofs.YtokambhemoeloaaW.PrintWords Go.Proofs.YtokambhemoeloaaW.PrintLast Go.Proofs.YtokambhemoeloaaW.PrintMore
attribute [local go_sem] max2_int min2_int max_two min_two max_three min_three max_four min_four   -- for this text's walks alone
set_option linter.unusedVariables false
set_option linter.unusedSimpArgs false
def blend_between.f (a0 : Int) (a1 : Int) (a2 : Int) : Option (Bool) := if a0 ≥ a1 then (some (decide (a0 ≤ a2))) else (some false)
set_option maxHeartbeats 8000000 in
set_option maxRecDepth 100000 in
theorem blend_between.calls (a0 : Int) (a1 : Int) (a2 : Int) (r : Bool) (w : World) (h : blend_between.f a0 a1 a2 = some r) :
    Calls Try.prog 51 #[.int .i64 a0, .int .i64 a1, .int .i64 a2] w fun e w' => e = .returned (.bool r) ∧ Drawn0 w w' := by
  have H : (if a0 ≥ a1 then (some (decide (a0 ≤ a2))) else (some false)) = some r := h
  clear h
  by_cases c4 : a0 ≥ a1
  · rw [if_pos c4] at H
    have c4b0 : decide (a1 ≤ a0) = true := decide_eq_true c4
    clear c4
    obtain rfl := Option.some.inj H
    go_enter Try.func51, Try.ntmps51
    go_wp2
    go_ret
    exact ⟨by first | rfl | (simp; done) | (simp [*]; done), by repeat (first | exact Drawn0.refl _ | apply Drawn0.step)⟩
  · rw [if_neg c4] at H
    have c4b0 : decide (a1 ≤ a0) = false := decide_eq_false c4
    clear c4
    obtain rfl := Option.some.inj H
    go_enter Try.func51, Try.ntmps51
    go_wp2
    go_ret
    exact ⟨by first | rfl | (simp; done) | (simp [*]; done), by repeat (first | exact Drawn0.refl _ | apply Drawn0.step)⟩
end Go.Proofs.Ytokambhemoeloaa.PA
end
section
namespace Go.Proofs.Ytokambhemoeloaa.G
open Go.RowKit Go.Proofs.YtokambhemoeloaaW.PrintWords Go.Proofs.YtokambhemoeloaaW.PrintLast Go.Proofs.YtokambhemoeloaaW.PrintMore Go.Proofs.Ytokambhemoeloaa.PA
theorem between_calls (a b c : Int) (w : World) : Calls Try.prog 51 #[.int .i64 a, .int .i64 b, .int .i64 c] w fun e w' => e = .returned (.bool (decide (b ≤ a) && decide (a ≤ c))) ∧ Drawn0 w w' := by
  refine blend_between.calls a b c _ w ?_
  unfold blend_between.f
  by_cases h : a ≥ b
  · rw [if_pos h]; simp [h]
  · rw [if_neg h]; simp [h]
def most (L : Int) : Int := 65536 / 2 ^ L.toNat
def vkey (L X Y : Int) : Bool := decide (0 ≤ L) && decide (L ≤ 16) && (decide (-(most L) ≤ X) && decide (X ≤ most L - 1)) && (decide (-(most L) ≤ Y) && decide (Y ≤ most L - 1))
def vkeyE (L X Y : Int) : Int := if vkey L X Y then 0 else 5
theorem most_bd (L : Int) : 0 ≤ (65536 : Int) / 2 ^ L.toNat ∧ (65536 : Int) / 2 ^ L.toNat ≤ 65536 :=
  ⟨Int.ediv_nonneg (by omega) (Int.le_of_lt (Int.pow_pos (by omega))), Int.ediv_le_self _ (by omega)⟩
set_option maxRecDepth 100000 in
theorem ValidKey_calls (L X Y : Int) (w : World) : Calls Try.prog 31 #[.agg #[.int .i64 L, .int .i64 X, .int .i64 Y]] w fun e w' => e = .returned (.int .i64 (vkeyE L X Y)) ∧ Below w.heap.size w w' := by
  have hu34 := Try.underlying34
  by_cases h0 : 0 ≤ L ∧ L ≤ 16
  · obtain ⟨h0, h1⟩ := h0
    obtain ⟨hm0, hm1⟩ := most_bd L
    have hd : (decide ((0 : Int) ≤ L) && decide (L ≤ 16)) = true := by simp [h0, h1]
    cases h2 : (decide (-(most L) ≤ X) && decide (X ≤ most L - 1))
    · have hv : Hid (vkeyE L X Y = 5) := by
        show _ = _
        simp only [vkeyE, vkey, hd, Bool.true_and]
        rw [h2]; simp
      go_enter Try.func31, Try.ntmps31
      go_wp2_with fail
      refine (between_calls _ _ _ _).mono ?_
      rintro e w1 ⟨rfl, ⟨⟨n1, rfl⟩⟩⟩
      rw [hd]
      go_wp2_with fail
      refine (between_calls _ _ _ _).mono ?_
      rintro e w1 ⟨rfl, ⟨⟨n2, rfl⟩⟩⟩
      change (decide (-(65536 / 2 ^ L.toNat) ≤ X) && decide (X ≤ 65536 / 2 ^ L.toNat - 1)) = false at h2
      rw [h2]
      go_wp2
      go_ret
      exact ⟨by rw [hv.out]; rfl, (by repeat (first | exact Below.refl _ _ | assumption | with_reducible apply below_alloc | with_reducible apply pw_below_drewN | with_reducible apply below_drew))⟩
    · cases h3 : (decide (-(most L) ≤ Y) && decide (Y ≤ most L - 1))
      all_goals
        have hv : Hid (vkeyE L X Y = if (decide (-(most L) ≤ Y) && decide (Y ≤ most L - 1)) then 0 else 5) := by
          show _ = _
          simp only [vkeyE, vkey, hd, Bool.true_and]
          rw [h2]; simp
        rw [h3] at hv
        go_enter Try.func31, Try.ntmps31
        go_wp2_with fail
        refine (between_calls _ _ _ _).mono ?_
        rintro e w1 ⟨rfl, ⟨⟨n1, rfl⟩⟩⟩
        rw [hd]
        go_wp2_with fail
        refine (between_calls _ _ _ _).mono ?_
        rintro e w1 ⟨rfl, ⟨⟨n2, rfl⟩⟩⟩
        change (decide (-(65536 / 2 ^ L.toNat) ≤ X) && decide (X ≤ 65536 / 2 ^ L.toNat - 1)) = true at h2
        rw [h2]
        go_wp2_with fail
        refine (between_calls _ _ _ _).mono ?_
        rintro e w1 ⟨rfl, ⟨⟨n3, rfl⟩⟩⟩
        change (decide (-(65536 / 2 ^ L.toNat) ≤ Y) && decide (Y ≤ 65536 / 2 ^ L.toNat - 1)) = _ at h3
        rw [h3]
        go_wp2
        go_ret
        exact ⟨by rw [hv.out]; rfl, (by repeat (first | exact Below.refl _ _ | assumption | with_reducible apply below_alloc | with_reducible apply pw_below_drewN | with_reducible apply below_drew))⟩
  · have hd : (decide ((0 : Int) ≤ L) && decide (L ≤ 16)) = false := by simp; omega
    have hv : Hid (vkeyE L X Y = 5) := by
      show _ = _
      simp only [vkeyE, vkey, hd, Bool.false_and]; simp
    go_enter Try.func31, Try.ntmps31
    go_wp2_with fail
    refine (between_calls _ _ _ _).mono ?_
    rintro e w1 ⟨rfl, ⟨⟨n1, rfl⟩⟩⟩
    rw [hd]
    go_wp2
    go_ret
    exact ⟨by rw [hv.out]; rfl, (by repeat (first | exact Below.refl _ _ | assumption | with_reducible apply below_alloc | with_reducible apply pw_below_drewN | with_reducible apply below_drew))⟩
theorem New_calls (w : World) : Calls Try.prog 7 #[] w fun e w' =>
    e = .returned (.pointer (some ⟨w.heap.size + 1, 0, none⟩)) ∧ w' = (w.alloc (.map #[] 0)).alloc (.cells #[.map (some w.heap.size)] 69) := by
  have hmm := @run_makeMap Try.prog
  go_enter Try.func7, Try.ntmps7
  go_wp2
  go_ret
  exact ⟨rfl, rfl⟩
end Go.Proofs.Ytokambhemoeloaa.G
end
section
namespace Go.Proofs.Ytokambhemoeloaa.PA
open Go.RowKit Go.Proofs.YtokambhemoeloaaW.PrintWords Go.Proofs.YtokambhemoeloaaW.PrintLast Go.Proofs.YtokambhemoeloaaW.PrintMore
attribute [local go_sem] max2_int min2_int max_two min_two max_three min_three max_four min_four   -- for this text's walks alone
set_option linter.unusedVariables false
set_option linter.unusedSimpArgs false
theorem eqA34 (d : Nat) (w : World) (x0 y0 : Int) (x1 y1 : Int) (x2 y2 : Int) :
    (Op.equalIn (d + 2) 34 (.agg #[.int .i64 x0, .int .i64 x1, .int .i64 x2]) (.agg #[.int .i64 y0, .int .i64 y1, .int .i64 y2])).run Try.prog w = .ok (x0 == y0 && (x1 == y1 && (x2 == y2))) w := by
  refine eqA_of Try.underlying34 (by kernel_rfl) ?_
  refine eqf_cons (by rfl) (by go_simp; rfl) (by go_simp; rfl) (by go_simp) ?_
  refine eqf_cons (by rfl) (by go_simp; rfl) (by go_simp; rfl) (by go_simp) ?_
  exact eqf_last (by rfl) (by go_simp; rfl) (by go_simp; rfl) (by go_simp)
end Go.Proofs.Ytokambhemoeloaa.PA
end
section
namespace Go.Proofs.Ytokambhemoeloaa.PA
open Go.RowKit Go.Proofs.YtokambhemoeloaaW.PrintWords Go.Proofs.YtokambhemoeloaaW.PrintLast Go.Proofs.YtokambhemoeloaaW.PrintMore
attribute [local go_sem] max2_int min2_int max_two min_two max_three min_three max_four min_four   -- for this text's walks alone
set_option linter.unusedVariables false
set_option linter.unusedSimpArgs false
theorem eqA51 (d : Nat) (w : World) (x0 y0 : Int) (x1 y1 : Int) (x2 y2 : Int) (x3 y3 : Int) (x4 y4 : Int) :
    (Op.equalIn (d + 3) 51 (.agg #[.int .i64 x0, .int .i64 x1, .int .i64 x2, .int .i64 x3, .int .i64 x4]) (.agg #[.int .i64 y0, .int .i64 y1, .int .i64 y2, .int .i64 y3, .int .i64 y4])).run Try.prog w = .ok (x0 == y0 && (x1 == y1 && ((x2 == y2 && (x3 == y3 && (x4 == y4)))))) w := by
  refine eqA_of Try.underlying51 (by kernel_rfl) ?_
  refine eqf_cons (by rfl) (by go_simp; rfl) (by go_simp; rfl) (by go_simp) ?_
  refine eqf_cons (by rfl) (by go_simp; rfl) (by go_simp; rfl) (by go_simp) ?_
  exact eqf_last (by rfl) (by go_simp) (by go_simp) (eqA34 (d + 0) w _ _ _ _ _ _)
end Go.Proofs.Ytokambhemoeloaa.PA
end
section
namespace Go.Proofs.Ytokambhemoeloaa.Mp
open Go.RowKit
set_option linter.unusedSimpArgs false
set_option linter.unusedVariables false
variable {κ : Type}
set_option linter.unusedSectionVars false
section
variable [DecidableEq κ]
def lfind (x : κ) : List (κ × Value) → Nat → Option (Nat × Value)
  | [], _ => none
  | p :: l, i => if x = p.1 then some (i, p.2) else lfind x l (i + 1)
def lget (x : κ) : List (κ × Value) → Option Value
  | [] => none
  | p :: l => if x = p.1 then some p.2 else lget x l
def lput (x : κ) (v : Value) : List (κ × Value) → List (κ × Value)
  | [] => [(x, v)]
  | p :: l => if x = p.1 then (x, v) :: l else p :: lput x v l
def ldel (x : κ) : List (κ × Value) → List (κ × Value)
  | [] => []
  | p :: l => if x = p.1 then l else p :: ldel x l
structure KeyC (P : Program) (kt : TypeId) (enc : κ → Value) : Prop where
  check : ∀ (em : Bool) (x : κ) (w : World), (Instr.checkKey em 10000 kt (enc x)).run P w = .ok () w
  find : ∀ (x : κ) (es : List MapEntry) (l : List (κ × Value)) (w : World), es.map (fun e => (e.key, e.val)) = l.map (fun p => (enc p.1, p.2)) → (Instr.findKey kt (enc x) es).run P w = .ok (lfind x l 0) w
  stays : ∀ (x : κ) (w : World), (Instr.keyThatStays (enc x) (enc x)).run P w = .ok (enc x) w
def MapAt (enc : κ → Value) (w : World) (b : Nat) (l : List (κ × Value)) : Prop :=
  ∃ es clock, w.heap[b]? = some (.map es clock) ∧ es.toList.map (fun e => (e.key, e.val)) = l.map (fun p => (enc p.1, p.2)) ∧
    es.toList.Pairwise (fun a b => a.born ≠ b.born) ∧ ∀ e ∈ es.toList, e.born < clock
theorem MapAt.move {enc : κ → Value} {w w1 : World} {b : Nat} {l : List (κ × Value)} (h : MapAt enc w b l) (hb : w1.heap[b]? = w.heap[b]?) : MapAt enc w1 b l := by
  obtain ⟨es, clock, h1, h2⟩ := h
  exact ⟨es, clock, hb.trans h1, h2⟩
theorem MapAt.lt {enc : κ → Value} {w : World} {b : Nat} {l : List (κ × Value)} (h : MapAt enc w b l) : b < w.heap.size := by
  obtain ⟨es, clock, h1, _⟩ := h
  exact (Array.getElem?_eq_some_iff.1 h1).1
theorem MapAt.below {enc : κ → Value} {w w1 : World} {b : Nat} {l : List (κ × Value)} (h : MapAt enc w b l) (hb : Below w.heap.size w w1) : MapAt enc w1 b l := h.move (hb.block b h.lt)
theorem MapAt.made (enc : κ → Value) (w : World) : MapAt enc (w.alloc (.map #[] 0)) w.heap.size ([] : List (κ × Value)) :=
  ⟨#[], 0, by show (w.heap.push _)[w.heap.size]? = _; simp, rfl, by simp, by simp⟩
theorem lfind_shift (x : κ) (l : List (κ × Value)) : ∀ i, lfind x l i = (lfind x l 0).map (fun p => (p.1 + i, p.2)) := by
  induction l with
  | nil => intro i; rfl
  | cons p l ih =>
    intro i
    unfold lfind
    by_cases h : x = p.1
    · simp [h]
    · rw [if_neg h, if_neg h, ih (i + 1), ih 1]
      cases lfind x l 0 <;> simp; omega
theorem lget_of_find (x : κ) (l : List (κ × Value)) : lget x l = (lfind x l 0).map (·.2) := by
  induction l with
  | nil => rfl
  | cons p l ih =>
    unfold lget lfind
    by_cases h : x = p.1
    · simp [h]
    · rw [if_neg h, if_neg h, ih, lfind_shift x l 1]
      cases lfind x l 0 <;> simp
theorem lfind_spec (x : κ) : ∀ (l : List (κ × Value)),
    (lfind x l 0 = none ∧ lget x l = none ∧ (∀ v, lput x v l = l ++ [(x, v)]) ∧ ldel x l = l ∧ ∀ p ∈ l, p.1 ≠ x) ∨
    ∃ i v0, lfind x l 0 = some (i, v0) ∧ l[i]? = some (x, v0) ∧ lget x l = some v0 ∧ (∀ v, lput x v l = l.set i (x, v)) ∧ ldel x l = l.eraseIdx i := by
  intro l
  induction l with
  | nil => left; simp [lfind, lget, lput, ldel]
  | cons p l ih =>
    by_cases h : x = p.1
    · right
      refine ⟨0, p.2, by simp [lfind, h], ?_, by simp [lget, h], ?_, by simp [ldel, h]⟩
      · obtain ⟨p1, p2⟩ := p; simp at h; simp [h]
      · intro v; simp [lput, h]
    · rcases ih with ⟨h1, h2, h3, h4, h5⟩ | ⟨i, v0, h1, h2, h3, h4, h5⟩
      · left
        refine ⟨?_, by simp [lget, h, h2], ?_, by simp [ldel, h, h4], ?_⟩
        · unfold lfind; rw [if_neg h, lfind_shift, h1]; rfl
        · intro v; simp [lput, h, h3]
        · intro q hq
          rcases List.mem_cons.1 hq with rfl | hq
          · exact fun e => h e.symm
          · exact h5 q hq
      · right
        refine ⟨i + 1, v0, ?_, by simpa using h2, by simp [lget, h, h3], ?_, by simp [ldel, h, h5]⟩
        · unfold lfind; rw [if_neg h, lfind_shift, h1]; rfl
        · intro v; simp [lput, h, h4]
section
variable {P : Program} {kt et T : TypeId} {enc : κ → Value} {w : World} {b : Nat} {l : List (κ × Value)}
theorem run_lookup (K : KeyC P kt enc) (hT : P.underlying T = some (.map kt et)) (h : MapAt enc w b l) (x : κ) (z : Value) (hz : ∀ w, (zeroValue et).run P w = .ok z w) (ok : Bool) :
    (Instr.lookup T (.map (some b)) (enc x) ok).run P w = .ok (if ok then .tuple #[(lget x l).getD z, .bool (lget x l).isSome] else (lget x l).getD z) w := by
  obtain ⟨es, clock, h1, h2, h3, h4⟩ := h
  have hf := K.find x es.toList l w h2
  rw [lget_of_find]
  cases hc : lfind x l 0 with
  | none =>
    rw [hc] at hf
    cases ok <;> simp [Instr.lookup, run_underlying hT, MapKept.run_getObj_map h1, K.check, hf, hz, Result.andThen]
  | some q =>
    rw [hc] at hf
    cases ok <;> simp [Instr.lookup, run_underlying hT, MapKept.run_getObj_map h1, K.check, hf, hz, Result.andThen]
theorem grown_set (w : World) (b : Nat) (o : Obj) : w.grownBy { w with heap := w.heap.setIfInBounds b o } (some b) :=
  ⟨rfl, rfl, rfl, by simp, fun k _ hk => by
    have hne : b ≠ k := fun e => hk (by rw [e])
    simp [Array.getElem?_setIfInBounds, hne]⟩
theorem set_at {w : World} {b : Nat} (h : b < w.heap.size) (o : Obj) : ({ w with heap := w.heap.setIfInBounds b o } : World).heap[b]? = some o := by
  simp [Array.getElem?_setIfInBounds, h]
theorem modify_list {es : Array MapEntry} {i : Nat} {f : MapEntry → MapEntry} {e : MapEntry} (he : es[i]? = some e) : (es.modify i f).toList = es.toList.set i (f e) := by
  rw [Array.toList_modify]
  exact ChangeMaps.modify_eq_set _ _ _ _ (by simpa using he)
theorem born_set {es : Array MapEntry} {i : Nat} {e e' : MapEntry} (he : es[i]? = some e) (hb : e'.born = e.born) (h3 : es.toList.Pairwise (fun a b => a.born ≠ b.born)) : (es.toList.set i e').Pairwise (fun a b => a.born ≠ b.born) := by
  have hi : i < es.size := (Array.getElem?_eq_some_iff.1 he).1
  have : (es.toList.set i e').map (·.born) = es.toList.map (·.born) := by
    rw [List.map_set]
    apply List.ext_getElem?
    intro j
    rw [List.getElem?_set]
    split
    · rename_i hij; subst hij
      have hei : es[i] = e := by rw [Array.getElem?_eq_getElem hi] at he; exact Option.some.inj he
      simp [hi, hei, hb]
    · rfl
  rw [← List.pairwise_map (f := fun e : MapEntry => e.born) (R := fun a b => a ≠ b), this, List.pairwise_map]
  exact h3
theorem born_lt {es : Array MapEntry} {i clock : Nat} {e e' : MapEntry} (he : es[i]? = some e) (hb : e'.born = e.born) (h4 : ∀ e ∈ es.toList, e.born < clock) : ∀ x ∈ es.toList.set i e', x.born < clock := by
  intro x hx
  rcases List.mem_or_eq_of_mem_set hx with hx | rfl
  · exact h4 x hx
  · rw [hb]; exact h4 e (List.mem_of_getElem? (by simpa using he))
theorem entry_at {es : Array MapEntry} {i : Nat} {x : κ} {v0 : Value} (h2 : es.toList.map (fun e => (e.key, e.val)) = l.map (fun p => (enc p.1, p.2))) (f2 : l[i]? = some (x, v0)) : ∃ e, es[i]? = some e ∧ e.key = enc x ∧ e.val = v0 := by
  have := congrArg (fun z => z[i]?) h2
  simp only [List.getElem?_map, f2, Option.map_some] at this
  cases hc : es.toList[i]? with
  | none => simp [hc] at this
  | some e => rw [hc] at this; simp at this; exact ⟨e, by simpa using hc, this.1, this.2⟩
theorem run_update (K : KeyC P kt enc) (hT : P.underlying T = some (.map kt et)) (h : MapAt enc w b l) (x : κ) (v : Value) :
    ∃ w1, (Instr.mapUpdate T (.map (some b)) (enc x) v).run P w = .ok () w1 ∧ MapAt enc w1 b (lput x v l) ∧ w.grownBy w1 (some b) ∧ w1.heap.size = w.heap.size := by
  have hlt := h.lt
  obtain ⟨es, clock, h1, h2, h3, h4⟩ := h
  have hf := K.find x es.toList l w h2
  rcases lfind_spec x l with ⟨f1, _, f3, _, _⟩ | ⟨i, v0, f1, f2, _, f4, _⟩
  · rw [f1] at hf
    refine ⟨{ w with heap := w.heap.setIfInBounds b (.map (es.push { key := enc x, val := v, born := clock }) (clock + 1)) }, ?_, ?_, grown_set _ _ _, by simp⟩
    · simp [Instr.mapUpdate, run_underlying hT, MapKept.run_getObj_map h1, K.check, hf, MapKept.run_setObj_map _ h1, Result.andThen]
    · refine ⟨_, _, set_at hlt _, ?_, ?_, ?_⟩
      · rw [f3]; simp [h2]
      · rw [Array.toList_push, List.pairwise_append]
        refine ⟨h3, by simp, fun a ha c hc => ?_⟩
        have := h4 a ha
        simp at hc; subst hc; simp; omega
      · intro e he
        rw [Array.toList_push] at he
        rcases List.mem_append.1 he with he | he
        · have := h4 e he; omega
        · simp at he; subst he; simp
  · rw [f1] at hf
    obtain ⟨e, he, hek, hev⟩ := entry_at h2 f2
    refine ⟨{ w with heap := w.heap.setIfInBounds b (.map (es.modify i fun e => { e with key := enc x, val := v }) clock) }, ?_, ?_, grown_set _ _ _, by simp⟩
    · simp [Instr.mapUpdate, run_underlying hT, MapKept.run_getObj_map h1, K.check, hf, he, hek, K.stays, MapKept.run_setObj_map _ h1, Result.andThen]
    · refine ⟨_, _, set_at hlt _, ?_, ?_, ?_⟩
      · rw [modify_list he, List.map_set, h2, f4, List.map_set]
      · rw [modify_list he]
        exact born_set he rfl h3
      · rw [modify_list he]
        exact born_lt he rfl h4
theorem map_eraseIdx' {α β : Type} (f : α → β) : ∀ (l : List α) (i : Nat), (l.map f).eraseIdx i = (l.eraseIdx i).map f
  | [], _ => rfl
  | _ :: _, 0 => rfl
  | a :: l, i + 1 => by simp [map_eraseIdx' f l i]
theorem run_delete (K : KeyC P kt enc) (hT : P.underlying T = some (.map kt et)) (h : MapAt enc w b l) (x : κ) (ty : TypeId) :
    ∃ w1, (Builtin.delete_ #[T, kt] ty #[.map (some b), enc x]).run P w = .ok (.tuple #[]) w1 ∧ MapAt enc w1 b (ldel x l) ∧ w.grownBy w1 (some b) ∧ w1.heap.size = w.heap.size := by
  have hlt := h.lt
  obtain ⟨es, clock, h1, h2, h3, h4⟩ := h
  have hf := K.find x es.toList l w h2
  rcases lfind_spec x l with ⟨f1, _, _, f4, _⟩ | ⟨i, v0, f1, f2, _, _, f5⟩
  · rw [f1] at hf
    refine ⟨{ w with heap := w.heap.setIfInBounds b (.map es clock) }, ?_, ?_, grown_set _ _ _, by simp⟩
    · simp [Builtin.delete_, run_underlying hT, MapKept.run_getObj_map h1, K.check, hf, MapKept.run_setObj_map _ h1, Result.andThen]
    · rw [f4]; exact ⟨_, _, set_at hlt _, h2, h3, h4⟩
  · rw [f1] at hf
    refine ⟨{ w with heap := w.heap.setIfInBounds b (.map (es.eraseIdxIfInBounds i) clock) }, ?_, ?_, grown_set _ _ _, by simp⟩
    · simp [Builtin.delete_, run_underlying hT, MapKept.run_getObj_map h1, K.check, hf, MapKept.run_setObj_map _ h1, Result.andThen]
    · have e1 : (es.eraseIdxIfInBounds i).toList = es.toList.eraseIdx i := by simp [Array.toList_eraseIdxIfInBounds]
      refine ⟨_, _, set_at hlt _, ?_, ?_, ?_⟩
      · rw [e1, f5, ← map_eraseIdx', h2, map_eraseIdx']
      · rw [e1]; exact h3.sublist (List.eraseIdx_sublist _ _)
      · rw [e1]; exact fun e he => h4 e ((List.eraseIdx_sublist _ _).subset he)
theorem run_len (hT : P.underlying T = some (.map kt et)) (h : MapAt enc w b l) (ty : TypeId) :
    (Builtin.len_ #[T] ty #[.map (some b)]).run P w = .ok (.int .i64 l.length) w := by
  obtain ⟨es, clock, h1, h2, h3, h4⟩ := h
  have : es.size = l.length := by simpa using congrArg List.length h2
  simp [Builtin.len_, run_underlying hT, MapKept.run_getObj_map h1, Result.andThen, goInt, this]
theorem run_mapEntry (K : KeyC P kt enc) (hT : P.underlying T = some (.map kt et)) (h : MapAt enc w b l) (x : κ) (z : Value) (hz : ∀ w, (zeroValue et).run P w = .ok z w) :
    ∃ w1 s, (Instr.mapEntry T (.map (some b)) (enc x)).run P w = .ok (.tuple #[(lget x l).getD z, .int .i64 (s : Nat)]) w1 ∧
      w.grownBy w1 (some b) ∧ w1.heap.size = w.heap.size ∧ b < w1.heap.size ∧ MapAt enc w1 b (lput x ((lget x l).getD z) l) ∧
      ∀ w2 v, w2.heap[b]? = w1.heap[b]? → ∃ w3, (Instr.entryStore T (.map (some b)) (.int .i64 (s : Nat)) v).run P w2 = .ok () w3 ∧ MapAt enc w3 b (lput x v l) ∧ w2.grownBy w3 (some b) ∧ w3.heap.size = w2.heap.size := by
  have hlt := h.lt
  obtain ⟨es, clock, h1, h2, h3, h4⟩ := h
  have hf := K.find x es.toList l w h2
  rcases lfind_spec x l with ⟨f1, f2, f3, _, _⟩ | ⟨i, v0, f1, f2, f3, f4, _⟩
  · rw [f1] at hf
    refine ⟨{ w with heap := w.heap.setIfInBounds b (.map (es.push { key := enc x, val := z, born := clock }) (clock + 1)) }, clock, ?_, grown_set _ _ _, by simp, by simpa using hlt, ?_, ?_⟩
    · simp [Instr.mapEntry, run_underlying hT, MapKept.run_getObj_map h1, K.check, hf, hz, f2, MapKept.run_setObj_map _ h1, Result.andThen, goInt]
    · refine ⟨_, _, set_at hlt _, ?_, ?_, ?_⟩
      · rw [f3, f2]; simp [h2]
      · rw [Array.toList_push, List.pairwise_append]
        refine ⟨h3, by simp, fun a ha c hc => ?_⟩
        have := h4 a ha
        simp at hc; subst hc; simp; omega
      · rw [Array.toList_push]
        intro e he
        rcases List.mem_append.1 he with he | he
        · have := h4 e he; omega
        · simp at he; subst he; simp
    · intro w2 v hw2
      rw [set_at hlt] at hw2
      have hlt2 : b < w2.heap.size := (Array.getElem?_eq_some_iff.1 hw2).1
      have hfi : (es.push { key := enc x, val := z, born := clock }).findIdx? (fun e => (e.born : Int) == (clock : Int)) = some es.size := by
        rw [Array.findIdx?_eq_some_iff_getElem]
        refine ⟨by simp, by simp, fun j hj => ?_⟩
        have hj' : j < es.size := by omega
        have := h4 es[j] (by simp)
        simp only [Array.getElem_push, dif_pos hj']
        simp; omega
      refine ⟨{ w2 with heap := w2.heap.setIfInBounds b (.map ((es.push { key := enc x, val := z, born := clock }).modify es.size fun e => { e with val := v }) (clock + 1)) }, ?_, ?_, grown_set _ _ _, by simp⟩
      · simp [Instr.entryStore, MapKept.run_getObj_map hw2, hfi, MapKept.run_setObj_map _ hw2, Result.andThen, asInt, asIntOf]
      · have he : (es.push { key := enc x, val := z, born := clock })[es.size]? = some { key := enc x, val := z, born := clock } := by simp
        have e1 : ((es.push { key := enc x, val := z, born := clock }).modify es.size fun e => { e with val := v }).toList = es.toList ++ [{ key := enc x, val := v, born := clock }] := by
          rw [modify_list he]; simp [List.set_append]
        refine ⟨_, _, set_at hlt2 _, ?_, ?_, ?_⟩
        · rw [e1, f3]; simp [h2]
        · rw [e1, List.pairwise_append]
          refine ⟨h3, by simp, fun a ha c hc => ?_⟩
          have := h4 a ha
          simp at hc; subst hc; simp; omega
        · rw [e1]
          intro e he
          rcases List.mem_append.1 he with he | he
          · have := h4 e he; omega
          · simp at he; subst he; simp
  · rw [f1] at hf
    obtain ⟨e, he, hek, hev⟩ := entry_at h2 f2
    have hi : i < es.size := (Array.getElem?_eq_some_iff.1 he).1
    have hm : es.modify i (fun e => { e with key := enc x }) = es := by
      apply Array.ext'
      rw [modify_list he]
      apply List.ext_getElem?
      intro j
      rw [List.getElem?_set]
      split
      · rename_i hij; subst hij
        have hei : es[i] = e := by rw [Array.getElem?_eq_getElem hi] at he; exact Option.some.inj he
        simp [hi, hei, ← hek]
      · rfl
    refine ⟨{ w with heap := w.heap.setIfInBounds b (.map es clock) }, e.born, ?_, grown_set _ _ _, by simp, by simpa using hlt, ?_, ?_⟩
    · simp [Instr.mapEntry, run_underlying hT, MapKept.run_getObj_map h1, K.check, hf, he, hek, K.stays, hm, f3, MapKept.run_setObj_map _ h1, Result.andThen, goInt]
    · refine ⟨es, clock, set_at hlt _, ?_, h3, h4⟩
      have hl : l.set i (x, v0) = l := by
        apply List.ext_getElem?
        intro j
        rw [List.getElem?_set]
        split
        · rename_i hij; subst hij
          have hil := (List.getElem?_eq_some_iff.1 f2).1
          rw [if_pos hil, f2]
        · rfl
      rw [f3, f4]
      simpa [hl] using h2
    · intro w2 v hw2
      rw [set_at hlt] at hw2
      have hlt2 : b < w2.heap.size := (Array.getElem?_eq_some_iff.1 hw2).1
      have hei : es[i] = e := by rw [Array.getElem?_eq_getElem hi] at he; exact Option.some.inj he
      have hfi : es.findIdx? (fun e' => (e'.born : Int) == (e.born : Int)) = some i := by
        rw [Array.findIdx?_eq_some_iff_getElem]
        refine ⟨hi, by simp [hei], fun j hj => ?_⟩
        have hj' : j < es.size := by omega
        have := List.pairwise_iff_getElem.1 h3 j i (by simpa using hj') (by simpa using hi) hj
        simp [hei] at this
        simp; omega
      refine ⟨{ w2 with heap := w2.heap.setIfInBounds b (.map (es.modify i fun e => { e with val := v }) clock) }, ?_, ?_, grown_set _ _ _, by simp⟩
      · simp [Instr.entryStore, MapKept.run_getObj_map hw2, hfi, MapKept.run_setObj_map _ hw2, Result.andThen, asInt, asIntOf]
      · refine ⟨_, _, set_at hlt2 _, ?_, ?_, ?_⟩
        · rw [modify_list he, List.map_set, h2, f4, List.map_set, hek]
        · rw [modify_list he]; exact born_set he rfl h3
        · rw [modify_list he]; exact born_lt he rfl h4
open Go.ChangeMaps (setBlock)
def IterAt (enc : κ → Value) (w : World) (r b : Nat) (l rem : List (κ × Value)) : Prop :=
  ∃ es clock seen, w.heap[b]? = some (.map es clock) ∧ w.heap[r]? = some (.mapIter (some b) clock seen clock) ∧
    es.toList.map (fun e => (e.key, e.val)) = l.map (fun p => (enc p.1, p.2)) ∧ es.toList.Pairwise (fun a b => a.born ≠ b.born) ∧ (∀ e ∈ es.toList, e.born < clock) ∧
    ∃ ll : List ((κ × Value) × MapEntry), ll.map (·.2) = (leftOf es seen).toList ∧ (∀ q ∈ ll, q.2.key = enc q.1.1 ∧ q.2.val = q.1.2) ∧ rem.Perm (ll.map (·.1))
omit [DecidableEq κ] in
theorem IterAt.map {enc : κ → Value} {w : World} {r b : Nat} {l rem : List (κ × Value)} (h : IterAt enc w r b l rem) : MapAt enc w b l := by
  obtain ⟨es, clock, seen, h1, _, h2, h3, h4, _⟩ := h
  exact ⟨es, clock, h1, h2, h3, h4⟩
theorem IterAt.move {enc : κ → Value} {w w1 : World} {r b : Nat} {l rem : List (κ × Value)} (h : IterAt enc w r b l rem) (hb : w1.heap[b]? = w.heap[b]?) (hr : w1.heap[r]? = w.heap[r]?) : IterAt enc w1 r b l rem := by
  obtain ⟨es, clock, seen, h1, h2, h3⟩ := h
  exact ⟨es, clock, seen, hb.trans h1, hr.trans h2, h3⟩
theorem IterAt.lt {enc : κ → Value} {w : World} {r b : Nat} {l rem : List (κ × Value)} (h : IterAt enc w r b l rem) : r < w.heap.size := by
  obtain ⟨es, clock, seen, h1, h2, h3⟩ := h
  exact (Array.getElem?_eq_some_iff.1 h2).1
theorem IterAt.ne {enc : κ → Value} {w : World} {r b : Nat} {l rem : List (κ × Value)} (h : IterAt enc w r b l rem) : r ≠ b := by
  obtain ⟨es, clock, seen, h1, h2, h3⟩ := h
  rintro rfl
  rw [h1] at h2; cases h2
theorem IterAt.grown {enc : κ → Value} {w w1 : World} {r b : Nat} {l rem : List (κ × Value)} (h : IterAt enc w r b l rem) {row : Option Nat} (hg : w.grownBy w1 row) (h1 : some b ≠ row) (h2 : some r ≠ row) : IterAt enc w1 r b l rem :=
  h.move (hg.block b h.map.lt h1) (hg.block r h.lt h2)
theorem run_range (hT : P.underlying T = some (.map kt et)) (h : MapAt enc w b l) :
    ∃ o, (Instr.range T (.map (some b))).run P w = .ok (.pointer (some ⟨w.heap.size, 0, none⟩)) (w.alloc o) ∧ IterAt enc (w.alloc o) w.heap.size b l l := by
  have hlt := h.lt
  obtain ⟨es, clock, h1, h2, h3, h4⟩ := h
  refine ⟨.mapIter (some b) clock #[] clock, ?_, es, clock, #[], ?_, ?_, h2, h3, h4, l.zip es.toList, ?_, ?_, ?_⟩
  · simp [Instr.range, run_underlying hT, MapKept.run_getObj_map h1, newObj, Sem.run, Result.andThen]
  · rw [Below.heap_alloc _ _ _ hlt]; exact h1
  · show (w.heap.push _)[w.heap.size]? = _; simp
  · have hl : l.length = es.toList.length := by simpa using (congrArg List.length h2).symm
    rw [List.map_snd_zip (by omega)]
    unfold leftOf
    have : (es.filter fun e => !(#[] : Array Nat).contains e.born) = es := Array.filter_eq_self.2 (fun x _ => by simp)
    rw [this]
  · intro q hq
    obtain ⟨i, hi, rfl⟩ := List.getElem_of_mem hq
    have hi1 : i < l.length := by simp at hi; omega
    have hi2 : i < es.toList.length := by simp at hi; simp; omega
    have := congrArg (fun z => z[i]?) h2
    simp only [List.getElem?_map, List.getElem?_eq_getElem hi1, List.getElem?_eq_getElem hi2, Option.map_some, Option.some.injEq, Prod.mk.injEq] at this
    simpa using this
  · have hl : l.length = es.toList.length := by simpa using (congrArg List.length h2).symm
    rw [List.map_fst_zip (by omega)]
theorem run_next {r : Nat} {rem : List (κ × Value)} (h : IterAt enc w r b l rem) (ty : TypeId) :
    (rem = [] ∧ (Instr.next (.pointer (some ⟨r, 0, none⟩)) false ty).run P w = .ok (.tuple #[.bool false]) w) ∨
    ∃ p rem' w1, rem.Perm (p :: rem') ∧ (Instr.next (.pointer (some ⟨r, 0, none⟩)) false ty).run P w = .ok (.tuple #[.bool true, enc p.1, p.2]) w1 ∧
      IterAt enc w1 r b l rem' ∧ w.grownBy w1 (some r) ∧ w1.heap.size = w.heap.size ∧
      ∀ w2 : World, w2.heap[b]? = w1.heap[b]? → w2.heap[r]? = w1.heap[r]? → (Instr.entry (.pointer (some ⟨r, 0, none⟩))).run P w2 = .ok (.tuple #[enc p.1, p.2]) w2 := by
  have hrb := h.ne
  have hrl := h.lt
  obtain ⟨es, clock, seen, h1, h2, h3, h4, h5, ll, hl1, hl2, hl3⟩ := h
  rcases run_next_at (P := P) w ty r b clock clock seen es clock h2 h1 h5 (Nat.le_refl _) with ⟨hs, hrun⟩ | ⟨e, he, w1, hw1, hrun⟩
  · left
    refine ⟨?_, hrun⟩
    have : (leftOf es seen).toList = [] := by
      apply List.eq_nil_of_length_eq_zero; simpa using hs
    rw [this] at hl1
    have hn : ll = [] := by simpa using hl1
    rw [hn] at hl3
    simpa using hl3
  · right
    rw [← hl1] at he
    obtain ⟨q, hq, rfl⟩ := List.mem_map.1 he
    obtain ⟨hk, hv⟩ := hl2 q hq
    obtain ⟨s, t, rfl⟩ := List.append_of_mem hq
    have hes : q.2 ∈ es.toList := by
      have : q.2 ∈ (leftOf es seen).toList := by rw [← hl1]; exact he
      unfold leftOf at this; simp at this; simpa using this.1
    have hh1 : w1.heap = w.heap := by rcases hw1 with rfl | rfl <;> rfl
    have hb2 : (setBlock w1 r (.mapIter (some b) clock (seen.push q.2.born) clock)).heap[b]? = some (.map es clock) := by
      simp [setBlock, Array.getElem?_setIfInBounds, hrb, hh1, h1]
    have hr2 : (setBlock w1 r (.mapIter (some b) clock (seen.push q.2.born) clock)).heap[r]? = some (.mapIter (some b) clock (seen.push q.2.born) clock) := by
      simp [setBlock, Array.getElem?_setIfInBounds, hh1, hrl]
    refine ⟨q.1, (s ++ t).map (·.1), setBlock w1 r (.mapIter (some b) clock (seen.push q.2.born) clock), ?_, ?_, ?_, ?_, ?_, ?_⟩
    · refine hl3.trans ?_
      simp only [List.map_append, List.map_cons]
      exact List.perm_middle
    · rw [← hk, ← hv]; exact hrun
    · refine ⟨es, clock, seen.push q.2.born, hb2, hr2, h3, h4, h5, s ++ t, ?_, ?_, List.Perm.refl _⟩
      · have e1 : (leftOf es (seen.push q.2.born)).toList = (leftOf es seen).toList.filter (fun x => !(x.born == q.2.born)) := by
          unfold leftOf
          simp only [Array.toList_filter, List.filter_filter]
          congr 1
          funext x
          simp [Bool.and_comm, Bool.not_or]
          cases hc : decide (x.born = q.2.born) <;> simp_all
        rw [e1, ← hl1]
        have hpw : ((s ++ q :: t).map (·.2)).Pairwise (fun a b => a.born ≠ b.born) := by
          rw [hl1]; unfold leftOf; rw [Array.toList_filter]; exact h4.sublist List.filter_sublist
        simp only [List.map_append, List.map_cons, List.pairwise_append, List.pairwise_cons] at hpw
        obtain ⟨_, ⟨g1, _⟩, g2⟩ := hpw
        simp only [List.map_append, List.map_cons, List.filter_append, List.filter_cons, beq_self_eq_true, Bool.not_true, Bool.false_eq_true, if_false]
        congr 1
        · symm; rw [List.filter_eq_self]; intro a ha; simpa using g2 a ha q.2 (by simp)
        · symm; rw [List.filter_eq_self]; intro a ha; simpa using (g1 a ha).symm
      · intro q' hq'
        exact hl2 q' (by simp at hq' ⊢; rcases hq' with h | h <;> simp [h])
    · refine ⟨?_, ?_, ?_, ?_, ?_⟩
      · rcases hw1 with rfl | rfl <;> rfl
      · rcases hw1 with rfl | rfl <;> rfl
      · rcases hw1 with rfl | rfl <;> rfl
      · simp [setBlock, hh1]
      · intro k _ hk
        have hne : r ≠ k := fun e => hk (by rw [e])
        simp [setBlock, Array.getElem?_setIfInBounds, hne, hh1]
    · simp [setBlock, hh1]
    · intro w2 g1 g2
      have := run_entry_at (P := P) w2 r b clock seen es clock q.2 (g2.trans hr2) (g1.trans hb2) hes (List.pairwise_map.2 h4)
      rw [this, hk, hv]
end
section
variable {P : Program} {kt : TypeId} {enc : κ → Value}
theorem find_asking (heq : ∀ (x y : κ) (w : World), (Op.equal kt (enc x) (enc y)).run P w = .ok (decide (x = y)) w) (x : κ) (w : World) :
    ∀ (es : List MapEntry) (l : List (κ × Value)) (i : Nat), es.map (fun e => (e.key, e.val)) = l.map (fun p => (enc p.1, p.2)) → (Instr.findAsking kt (enc x) es i).run P w = .ok (lfind x l i) w := by
  intro es
  induction es with
  | nil => intro l i h; cases l <;> simp_all [Instr.findAsking, lfind]
  | cons e es ih =>
    intro l i h
    cases l with
    | nil => simp at h
    | cons p l =>
      simp only [List.map_cons, List.cons.injEq, Prod.mk.injEq] at h
      obtain ⟨⟨hk, hv⟩, ht⟩ := h
      unfold Instr.findAsking lfind
      rw [hk]
      by_cases hx : x = p.1
      · simp [heq, hx, hv, Result.andThen]
      · simp [heq, hx, Result.andThen, ih l (i + 1) ht]
theorem KeyC.of_equal {d : TypeDesc} (hd : P.underlying kt = some d) (hnow : ∀ x y, Instr.sameNow d (enc x) (enc y) = none) (heq : ∀ (x y : κ) (w : World), (Op.equal kt (enc x) (enc y)).run P w = .ok (decide (x = y)) w)
    (hcheck : ∀ (em : Bool) (x : κ) (w : World), (Instr.checkKey em 10000 kt (enc x)).run P w = .ok () w) (hst : ∀ x, Instr.sameBits 10000 (enc x) (enc x) = true) : KeyC P kt enc := by
  refine ⟨hcheck, fun x es l w h => ?_, fun x w => by simp [Instr.keyThatStays, hst]⟩
  unfold Instr.findKey
  cases es with
  | nil => cases l <;> simp_all [Instr.findNow, lfind, run_underlying hd, Result.andThen]
  | cons e es =>
    have hk : ∃ y, e.key = enc y := by
      cases l with
      | nil => simp at h
      | cons p l => simp at h; exact ⟨p.1, h.1.1⟩
    obtain ⟨y, hy⟩ := hk
    have : Instr.findNow d (enc x) (e :: es) 0 = none := by simp [Instr.findNow, hy, hnow]
    simp only [Sem.run_bind, run_underlying hd, Result.andThen, this]
    exact find_asking heq x w _ _ 0 h
end
end
end Go.Proofs.Ytokambhemoeloaa.Mp
end
section
namespace Go.Proofs.Ytokambhemoeloaa.G
open Go.RowKit Go.Proofs.YtokambhemoeloaaW.PrintWords Go.Proofs.YtokambhemoeloaaW.PrintLast Go.Proofs.YtokambhemoeloaaW.PrintMore Go.Proofs.Ytokambhemoeloaa.PA Go.Proofs.Ytokambhemoeloaa.Mp
set_option linter.unusedSimpArgs false
deriving instance DecidableEq for S34
deriving instance DecidableEq for S51
deriving instance DecidableEq for S56
instance : Inhabited S34 := ⟨z34⟩
instance : Inhabited S51 := ⟨z51⟩
def encK (x : S34) : Value := .agg #[.int .i64 x.f0, .int .i64 x.f1, .int .i64 x.f2]
def encD (x : S51) : Value := .agg #[.int .i64 x.f0, .int .i64 x.f1, .int .i64 x.f2.f0, .int .i64 x.f2.f1, .int .i64 x.f2.f2]
theorem eqK (x y : S34) (w : World) : (Op.equal 34 (encK x) (encK y)).run Try.prog w = .ok (decide (x = y)) w := by
  have h := eqA34 9998 w x.f0 y.f0 x.f1 y.f1 x.f2 y.f2
  show (Op.equalIn 10000 34 _ _).run Try.prog w = _
  refine h.trans (congrArg (fun b => Result.ok b w) ?_)
  cases x; cases y
  simp only [S34.mk.injEq, Bool.decide_and]
  rfl
theorem eqD (x y : S51) (w : World) : (Op.equal 51 (encD x) (encD y)).run Try.prog w = .ok (decide (x = y)) w := by
  have h := eqA51 9997 w x.f0 y.f0 x.f1 y.f1 x.f2.f0 y.f2.f0 x.f2.f1 y.f2.f1 x.f2.f2 y.f2.f2
  show (Op.equalIn 10000 51 _ _).run Try.prog w = _
  refine h.trans (congrArg (fun b => Result.ok b w) ?_)
  obtain ⟨a, b, ⟨c, d, e⟩⟩ := x
  obtain ⟨a', b', ⟨c', d', e'⟩⟩ := y
  simp only [S51.mk.injEq, S34.mk.injEq, Bool.decide_and]
  rfl
theorem checkInt (em : Bool) (n : Nat) (a : Int) (w : World) : (Instr.checkKey em (n + 1) 3 (.int .i64 a)).run Try.prog w = .ok () w :=
  MapKept.run_checkKey Try.underlying3 (by simp [MapKept.IsKey]) em n
theorem checkK' (em : Bool) (n : Nat) (a b c : Int) (w : World) : (Instr.checkKey em (n + 2) 34 (.agg #[.int .i64 a, .int .i64 b, .int .i64 c])).run Try.prog w = .ok () w := by
  unfold Instr.checkKey
  simp only [Sem.run_bind, run_underlying Try.underlying34, Result.andThen]
  go_simp
  simp only [checkInt, Result.andThen]
theorem checkD' (em : Bool) (n : Nat) (a b c d e : Int) (w : World) : (Instr.checkKey em (n + 3) 51 (.agg #[.int .i64 a, .int .i64 b, .int .i64 c, .int .i64 d, .int .i64 e])).run Try.prog w = .ok () w := by
  unfold Instr.checkKey
  simp only [Sem.run_bind, run_underlying Try.underlying51, Result.andThen]
  have h1 := fun x w => checkInt em (n + 1) x w
  have h2 := fun w => checkK' em n c d e w
  go_simp
theorem keyK : KeyC Try.prog 34 encK :=
  KeyC.of_equal Try.underlying34 (fun _ _ => rfl) eqK (fun em x w => checkK' em 9998 _ _ _ w) (fun x => by simp [encK, Instr.sameBits])
theorem keyD : KeyC Try.prog 51 encD :=
  KeyC.of_equal Try.underlying51 (fun _ _ => rfl) eqD (fun em x w => checkD' em 9997 _ _ _ _ _ w) (fun x => by simp [encD, Instr.sameBits])
end Go.Proofs.Ytokambhemoeloaa.G
end
section
namespace Go.Proofs.Ytokambhemoeloaa.G
open Go.RowKit Go.Proofs.YtokambhemoeloaaW.PrintWords Go.Proofs.YtokambhemoeloaaW.PrintLast Go.Proofs.YtokambhemoeloaaW.PrintMore Go.Proofs.Ytokambhemoeloaa.PA
set_option linter.unusedVariables false
theorem R_empty {α : Type} (d : Kd α) (e : Nat) (w : World) (base : Nat) (hb : base ≤ w.heap.size) (ok : Nat → Prop) (hok : ok w.heap.size) : d.R e (w.alloc (.cells #[] e)) base ok (.slice (some ⟨w.heap.size, 0, none⟩) 0 0) [] :=
  ⟨fun k hk => by simp [Value.ownBlock] at hk; rw [← hk]; exact hok, [], ⟨by simp, Or.inr ⟨w.heap.size, 0, #[], rfl, hb, by show (w.heap.push _)[w.heap.size]? = _; simp, Nat.le_refl _, by simp, by simp, by simp⟩⟩, Reps.none _ _⟩
theorem k51_M {w : World} {base : Nat} {ok : Nat → Prop} {x : S51} {cs : List Value} (h : k51.K w x cs) : k51.M w base ok x cs := by
  rw [k51_open h]; exact k51_mkM _ _ _ _
theorem Clone_calls (A : Option Addr) (c : Nat) (l : List S51) (w : World) (hC : Kd.C k51 w A l.length l) (hl : l.length * 40 ≤ 140737488355328) :
    Calls Try.prog 35 #[.slice A l.length c] w fun e w' => ∃ v : Value, e = .returned v ∧ Kd.R k51 51 w' w.heap.size (fun _ => True) v l ∧ Below w.heap.size w w' := by
  cases A with
  | none =>
    have h0 : l = [] := by
      cases l with
      | nil => rfl
      | cons x l => obtain ⟨ad, h, _⟩ := hC.2.2 (by simp); cases h
    subst h0
    have heq := fun W => Lib.run_eql_slice_nil (P := Try.prog) W 38 51 none 0 c 0 0 Try.underlying38
    go_enter Try.func35, Try.ntmps35
    go_wp2
    go_ret
    exact ⟨_, rfl, Kd.R_nil _ _ _ _ _, Below.refl _ _⟩
  | some ad =>
    have heq := fun W => Lib.run_eql_slice_nil (P := Try.prog) W 38 51 (some ad) l.length c 0 0 Try.underlying38
    go_enter Try.func35, Try.ntmps35
    go_wp2_with (at_builtin; refine Kd.R_append_rows k51 (Rr := k51.K (w.alloc (.cells #[] 51))) (w0 := w) w.heap.size rfl (.tmp 5) (.tmp 6) 38 51 (.agg #[(.int .i64 0), (.int .i64 0), (.int .i64 0), (.int .i64 0), (.int .i64 0)]) 40 rfl Try.underlying38 info51 rfl ?hs0 ?hb0 (.slice (some ⟨w.heap.size, 0, none⟩) 0 0) [] l (some ad) l.length c (fun _ => True) (fun _ => False) rfl rfl ?h0 ?h1 (fun _ _ h => k51_M h) (fun _ h => h.elim) (fun _ _ => trivial) ?h4 ?h5 ?h6 ?_; rotate_right; intro v1 w1 ho hb hg hat)
    case hs0 => decide
    case hb0 => omega
    case h0 => exact R_empty k51 51 w w.heap.size (Nat.le_refl _) (fun _ => True) trivial
    case h1 => exact Kd.C_below hC (by repeat (first | exact Below.refl _ _ | assumption | with_reducible apply below_alloc | with_reducible apply pw_below_drewN | with_reducible apply below_drew))
    case h4 => exact (by repeat (first | exact Below.refl _ _ | assumption | with_reducible apply below_alloc | with_reducible apply pw_below_drewN | with_reducible apply below_drew))
    case h5 => simp
    case h6 => simp; omega
    go_ret
    exact ⟨_, rfl, by simpa using ho, hb⟩
def PredOK (g : Nat) (lb : Array Value) (p : S51 → Bool) (w : World) : Prop :=
  ∀ W (x : S51), Below w.heap.size w W → Calls Try.prog g (#[encD x] ++ lb) W fun e w' => e = .returned (.bool (p x)) ∧ Below W.heap.size W w'
theorem PredOK.below {g : Nat} {lb : Array Value} {p : S51 → Bool} {w w1 : World} (h : PredOK g lb p w) (hb : Below w.heap.size w w1) : PredOK g lb p w1 :=
  fun W x hW => h W x (below_then hb hb.size hW)
def idxI (p : S51 → Bool) (l : List S51) : Int := if l.any p then (l.findIdx p : Int) else -1
theorem rd51 {l : List S51} {k : Nat} (hk : k < l.length) : rd_T51 l k = l[k] := by simp [rd_T51, hk]
theorem idx_hit {p : S51 → Bool} {l : List S51} {k : Nat} (hk : k < l.length) (hf : k ≤ l.findIdx p) (h : p (rd_T51 l k) = true) : idxI p l = k := by
  rw [rd51 hk] at h
  have : l.findIdx p = k := by
    apply Nat.le_antisymm _ hf
    apply Nat.le_of_not_lt
    intro hlt
    have := List.not_of_lt_findIdx hlt
    rw [h] at this; simp at this
  unfold idxI
  rw [if_pos (by rw [List.any_eq_true]; exact ⟨l[k], List.getElem_mem _, h⟩), this]
theorem idx_go {p : S51 → Bool} {l : List S51} {k : Nat} (hk : k < l.length) (hf : k ≤ l.findIdx p) (h : p (rd_T51 l k) = false) : k + 1 ≤ l.findIdx p := by
  rw [rd51 hk] at h
  rcases Nat.lt_or_ge k (l.findIdx p) with h1 | h1
  · exact h1
  · have e : l.findIdx p = k := Nat.le_antisymm h1 hf
    have hlt : l.findIdx p < l.length := by omega
    have := List.findIdx_getElem (w := hlt)
    simp only [e] at this
    rw [h] at this; cases this
theorem idx_end {p : S51 → Bool} {l : List S51} (hf : l.length ≤ l.findIdx p) : idxI p l = -1 := by
  unfold idxI
  rw [if_neg]
  intro h
  obtain ⟨x, hx, hp⟩ := List.any_eq_true.1 h
  have := List.findIdx_lt_length_of_exists ⟨x, hx, hp⟩
  omega
theorem idx_nonneg (p : S51 → Bool) (l : List S51) : decide (0 ≤ idxI p l) = l.any p := by
  unfold idxI
  cases h : l.any p <;> simp
theorem IndexFunc_calls (A : Option Addr) (c : Nat) (l : List S51) (w : World) (g : Nat) (lb : Array Value) (p : S51 → Bool)
    (eg : ∀ args w, (callFunc g args).run Try.prog w = .ok (.enter g args) w)
    (hp : PredOK g lb p w) (hC : Kd.C k51 w A l.length l) :
    Calls Try.prog 52 #[.slice A l.length c, .func (.func g) #[] lb] w fun e w' => e = .returned (.int .i64 (idxI p l)) ∧ Below w.heap.size w w' := by
  have hm := hC.2.1
  go_enter Try.func52, Try.ntmps52
  go_wp2
  go_loopw [5, 8] (fun v i wr => ∃ k : Nat, k ≤ l.length ∧ i = .int .i64 k ∧ k ≤ l.findIdx p ∧ Below w.heap.size w wr) (fun v i wr => l.length - (intOf i).toNat)
  case atStart => exact ⟨0, Nat.zero_le _, rfl, Nat.zero_le _, Below.refl _ _⟩
  case round =>
    obtain ⟨k, hk, rfl, hf, hB⟩ := hrel
    by_cases hlt : k < l.length
    · obtain ⟨ad, rfl, c0, c1, c2, c3, c4⟩ := at_T51 (Kd.C_below hC hB) k (by omega) (by omega)
      simp only [Int.toNat_natCast] at c0 c1 c2 c3 c4
      go_wp2_with fail
      refine (hp _ (rd_T51 l k) hB).mono ?_
      rintro e w1 ⟨rfl, hB1⟩
      have hB2 := below_then hB hB.size hB1
      cases hb : p (rd_T51 l k)
      · have hn := idx_go hlt hf hb
        clear hb c0 c1 c2 c3 c4
        go_wp2
        go_roundw
        case rel => exact ⟨k + 1, by omega, by go_num, hn, hB2⟩
        case measure => simp [intOf]; omega
      · have hn := Lib.hid (idx_hit hlt hf hb)
        clear hb c0 c1 c2 c3 c4
        go_wp2
        go_ret
        exact ⟨by rw [hn.out]; rfl, hB2⟩
    · have hn := Lib.hid (idx_end (p := p) (l := l) (by omega))
      go_wp2
      go_ret
      exact ⟨by rw [hn.out]; rfl, hB⟩
theorem ContainsFunc_calls (A : Option Addr) (c : Nat) (l : List S51) (w : World) (g : Nat) (lb : Array Value) (p : S51 → Bool)
    (eg : ∀ args w, (callFunc g args).run Try.prog w = .ok (.enter g args) w)
    (hp : PredOK g lb p w) (hC : Kd.C k51 w A l.length l) :
    Calls Try.prog 32 #[.slice A l.length c, .func (.func g) #[] lb] w fun e w' => e = .returned (.bool (l.any p)) ∧ Below w.heap.size w w' := by
  have hn := Lib.hid (idx_nonneg p l)
  have hc := IndexFunc_calls A c l w g lb p eg hp hC
  clear hC hp eg
  generalize idxI p l = r at hn hc
  go_enter Try.func32, Try.ntmps32
  go_wp2_with (go_at_call 52; refine hc.mono ?_; rintro e w1 ⟨rfl, hb⟩)
  go_ret
  exact ⟨by rw [← hn.out]; rfl, hb⟩
end Go.Proofs.Ytokambhemoeloaa.G
end
section
namespace Go.Proofs.Ytokambhemoeloaa.Reg
open Go.RowKit
section
variable {P : Program} {Q : Exit → Act → World → Prop} {md : Region.Mode} {ops : Array Oper}
theorem wpAny_more : ∀ (f : Nat) (l : Array Bool) (a : Act) (w : World), wpAny P md ops Q f l a w → wpAny P md ops Q (f + 1) l a w
  | 0, _, _, _, h => ⟨fun _ => h.2, fun i hi => by rw [h.1] at hi; cases hi⟩
  | f + 1, _, _, _, h => ⟨h.1, fun i hi => wpOp_mono (fun a' w' h' => wpAny_more f _ a' w' h') (h.2 i hi)⟩
theorem wpAny_mores (g : Nat) : ∀ (f : Nat) (l : Array Bool) (a : Act) (w : World), wpAny P md ops Q f l a w → wpAny P md ops Q (g + f) l a w := by
  induction g with
  | zero => intro f l a w h; rwa [Nat.zero_add]
  | succ g ih => intro f l a w h; rw [show g + 1 + f = (g + f) + 1 by omega]; exact wpAny_more _ _ _ _ (ih f l a w h)
def headB (ops : Array Oper) (n : Nat) : Bool :=
  (List.range n).all fun i => match ops[i]? with
    | some o => (match o.guard with | none => true | some (g, _) => decide (g < n)) && o.after.all fun e => decide (e.on < i)
    | none => false
theorem headB_spec {n i : Nat} {o : Oper} (h : headB ops n = true) (hi : i < n) (ho : ops[i]? = some o) : (∀ g b, o.guard = some (g, b) → g < n) ∧ ∀ e ∈ o.after, e.on < i := by
  have h1 := List.all_eq_true.1 h i (List.mem_range.2 hi)
  rw [ho] at h1
  simp only [Bool.and_eq_true, Array.all_eq_true_iff_forall_mem, decide_eq_true_eq] at h1
  refine ⟨fun g b hg => ?_, h1.2⟩
  rw [hg] at h1
  simpa using h1.1
theorem wpOp_head {pre : Array Oper} {n i : Nat} (hp : ∀ j, j < n → pre[j]? = ops[j]?) (h : headB ops n = true) (hi : i < n) {K K' : Act → World → Prop} {X : Act → World → Prop} {a : Act} {w : World} (hK : ∀ a w, K a w → K' a w)
    (hh : wpOp P pre (Exit.then X Q) i K a w) : wpOp P ops Q i K' a w := by
  unfold wpOp at *
  rw [hp i hi] at hh
  cases ho : ops[i]? with
  | none => rw [ho] at hh; exact hK _ _ hh
  | some o =>
    rw [ho] at hh
    simp only at hh ⊢
    have hy : Region.wanted o (yielded pre a.tmps) = Region.wanted o (yielded ops a.tmps) := by
      unfold Region.wanted
      cases hg : o.guard with
      | none => rfl
      | some gb =>
        obtain ⟨g, b⟩ := gb
        have := (headB_spec h hi ho).1 g b hg
        simp only [yielded, hp g this]
    rw [hy] at hh
    split
    · rename_i hw
      rw [if_pos hw] at hh
      rcases hh with hh | ⟨h1, h2⟩
      · left
        unfold Oper.wp at *
        generalize (execOp a.eval o).run P w = r at *
        cases r with
        | ok n w' =>
          cases n <;> simp only [Oper.upon] at hh ⊢
          case value u => exact hK _ _ hh
          case skip => exact hK _ _ hh
          case defer d => exact hK _ _ hh
          case enter f args =>
            refine hh.mono fun e w'' he => ?_
            cases e with
            | returned v => exact hK _ _ he
            | panicked c => exact he
            | outgrown => exact he
          case row r args => exact hh.mono fun v w'' he => hK _ _ he
        | halt x w' => cases x <;> simp only [Oper.upon] at hh ⊢; exact hh
      · right
        exact ⟨h1, h2⟩
    · rename_i hw
      rw [if_neg hw] at hh
      exact hK _ _ hh
theorem all_listed {n : Nat} {pre : Array Oper} {l : Array Bool} (hsz : pre.size = n) (hl : l.size = n) (hp : ∀ j, j < n → pre[j]? = ops[j]?) (h : headB ops n = true) (hr : Region.ready md pre l = []) : l = Array.replicate n true := by
  have key : ∀ k j, j ≤ k → j < n → l.getD j false = true := by
    intro k
    induction k with
    | zero =>
      intro j hj hjn
      cases hc : l.getD j false with
      | true => rfl
      | false =>
        have : j ∈ Region.ready md pre l := by
          rw [mem_ready]
          obtain ⟨o, ho⟩ : ∃ o, pre[j]? = some o := ⟨pre[j], by simp [hsz, hjn]⟩
          refine ⟨?_, o, ho, fun e he _ => ?_⟩
          · simp [hl, hjn] at hc ⊢; exact hc
          · have := (headB_spec h hjn ((hp j hjn).symm.trans ho)).2 e he; omega
        rw [hr] at this; cases this
    | succ k ih =>
      intro j hj hjn
      cases hc : l.getD j false with
      | true => rfl
      | false =>
        have : j ∈ Region.ready md pre l := by
          rw [mem_ready]
          obtain ⟨o, ho⟩ : ∃ o, pre[j]? = some o := ⟨pre[j], by simp [hsz, hjn]⟩
          refine ⟨?_, o, ho, fun e he _ => ?_⟩
          · simp [hl, hjn] at hc ⊢; exact hc
          · have := (headB_spec h hjn ((hp j hjn).symm.trans ho)).2 e he
            exact ih e.on (by omega) (by omega)
        rw [hr] at this; cases this
  apply Array.ext
  · simp [hl]
  · intro j h1 h2
    have hjn : j < n := by omega
    have := key j j (Nat.le_refl _) hjn
    simp [h1] at this
    simp [this]
theorem wpAny_ext {n m : Nat} {pre : Array Oper} {X : Act → World → Prop} (hsz : pre.size = n) (hN : ops.size = n + m) (hm : 0 < m) (hp : ∀ j, j < n → pre[j]? = ops[j]?) (h : headB ops n = true)
    (hs : Region.sinkB md ops n = true) (hc : Region.chainB md ops n = true) (hX : ∀ a w, X a w → wpAny P md ops Q m (Array.replicate n true ++ Array.replicate m false) a w) :
    ∀ (f : Nat) (l : Array Bool) (a : Act) (w : World), l.size = n → HeadInv md ops n (l ++ Array.replicate m false) → wpAny P md pre (Exit.then X Q) f l a w → wpAny P md ops Q (f + m) (l ++ Array.replicate m false) a w := by
  have get1 : ∀ (l : Array Bool) (j : Nat) (d : Bool), l.size = n → j < n → (l ++ Array.replicate m false).getD j d = l.getD j d := by
    intro l j d hl hj
    simp [Array.getElem?_append, hl, hj]
  have tail : ∀ (f : Nat) (l : Array Bool) (a : Act) (w : World), l.size = n → Region.ready md pre l = [] → X a w → wpAny P md ops Q (f + m) (l ++ Array.replicate m false) a w := by
    intro f l a w hl hr hx
    rw [all_listed hsz hl hp h hr]
    exact wpAny_mores f m _ a w (hX a w hx)
  intro f
  induction f with
  | zero =>
    intro l a w hl _ hh
    exact tail 0 l a w hl hh.1 hh.2
  | succ f ih =>
    intro l a w hl inv hh
    by_cases hr : Region.ready md pre l = []
    · exact tail (f + 1) l a w hl hr (hh.1 hr)
    · rw [show f + 1 + m = (f + m) + 1 by omega]
      obtain ⟨i0, hi0⟩ := List.exists_mem_of_ne_nil _ hr
      have h0 := mem_ready.1 hi0
      have hi0n : i0 < n := by
        obtain ⟨_, o, ho, _⟩ := h0
        have := (Array.getElem?_eq_some_iff.1 ho).1
        omega
      have up : ∀ i, i ∈ Region.ready md pre l → i < n → i ∈ Region.ready md ops (l ++ Array.replicate m false) := by
        intro i hi hin
        obtain ⟨g1, o, ho, g2⟩ := mem_ready.1 hi
        rw [mem_ready]
        refine ⟨by rw [get1 l i true hl hin]; exact g1, o, (hp i hin).symm.trans ho, fun e he hb => ?_⟩
        have := (headB_spec h hin ((hp i hin).symm.trans ho)).2 e he
        rw [get1 l e.on false hl (by omega)]
        exact g2 e he hb
      have down : ∀ i, i ∈ Region.ready md ops (l ++ Array.replicate m false) → i < n → i ∈ Region.ready md pre l := by
        intro i hi hin
        obtain ⟨g1, o, ho, g2⟩ := mem_ready.1 hi
        rw [mem_ready]
        refine ⟨by rw [get1 l i true hl hin] at g1; exact g1, o, (hp i hin).trans ho, fun e he hb => ?_⟩
        have := (headB_spec h hin ho).2 e he
        have g3 := g2 e he hb
        rwa [get1 l e.on false hl (by omega)] at g3
      refine ⟨fun hn => ?_, fun i hi => ?_⟩
      · have := up i0 hi0 hi0n
        rw [hn] at this; cases this
      · have hin : i < n := by
          rcases Nat.lt_or_ge i n with hlt | hge
          · exact hlt
          · exact absurd hi (tail_waits hs hc (by omega) inv _ i0 rfl hi0n (by rw [get1 l i0 true hl hi0n]; exact h0.1) i hge)
        have e1 : (l ++ Array.replicate m false).setIfInBounds i true = l.setIfInBounds i true ++ Array.replicate m false := by
          rw [Array.setIfInBounds_append, if_pos (by omega)]
        have inv2 := inv.set hi hin
        rw [e1] at inv2 ⊢
        exact wpOp_head hp h hin (fun a' w' h' => ih _ a' w' (by simp [hl]) inv2 h') (hh.2 i (down i hi hin))
def tailB (l : List Oper) (n : Nat) : Bool :=
  decide (n < l.length) && headB l.toArray n && Region.sinkB .any l.toArray n && Region.chainB .any l.toArray n && Region.lexB .any (l.take n).toArray &&
    Region.seqB .any l.toArray (l.length - n) n (Array.replicate n true ++ Array.replicate (l.length - n) false)
theorem wp_region_quiet_tail {id : Nat} {C : World → Prop} {a : Act} {w : World} {l : List Oper} (n : Nat) (hm : P.follows .mixedOrders = true) (hB : tailB l n = true) (hC : C { w with drawn := w.drawn + 1 })
    (h : wpQuiet P (l.take n).toArray C (fun a' => ∀ w', C w' → wpList P l.toArray Q (l.drop n) a' w') (l.take n) a) : (Code.region id l.toArray true).wp P Q a w := by
  simp only [tailB, Bool.and_eq_true, decide_eq_true_eq] at hB
  obtain ⟨⟨⟨⟨⟨hn, hh⟩, hs⟩, hc⟩, hlex⟩, hseq⟩ := hB
  simp only [Region.lexB, Bool.and_eq_true] at hlex
  have htl : (l.take n).length = n := by simp; omega
  have hq := wpAnyQ_lex (C := C) (md := .any) hlex.1 (l.take n) 0 (Array.replicate (l.take n).toArray.size false) a (by simp) (by simpa using hlex.2) h
  have ha := wpAny_of_quiet (Q := fun a' => ∀ w', C w' → wpList P l.toArray Q (l.drop n) a' w') (Q' := Exit.then (wpList P l.toArray Q (l.drop n)) Q) (fun _ w' hw' h => h w' hw') _ _ _ _ hC hq
  refine wp_region_any hm ?_
  have hsz : (l.take n).toArray.size = n := by simpa using htl
  rw [hsz, htl] at ha
  have := wpAny_ext (md := .any) (ops := l.toArray) (n := n) (m := l.length - n) hsz (by simp; omega) (by omega) (fun j hj => by simp [hj]) hh hs hc
    (fun a w hx => by
      have := wpAny_of_seq (P := P) (md := .any) (Q' := Q) (ops := l.toArray) (l.drop n) n (Array.replicate n true ++ Array.replicate (l.length - n) false) a w (fun j => by simp [List.getElem?_drop]) (by simpa using hseq) hx
      simpa using this) n _ a _ (by simp)
    (by
      rw [Array.replicate_append_replicate]
      refine ⟨by simp; omega, fun j oj _ hl => ?_, fun t _ ht => ?_⟩
      · rw [getD_replicate_false] at hl; cases hl
      · refine getD_in ?_ (getD_replicate_false _ _)
        simp at ht ⊢; omega) ha
  rw [Array.replicate_append_replicate] at this
  rw [show n + (l.length - n) = l.length by omega] at this
  simpa using this
end
end Go.Proofs.Ytokambhemoeloaa.Reg
end
section
namespace Go.Proofs.Ytokambhemoeloaa.G
open Go.RowKit Go.Proofs.YtokambhemoeloaaW.PrintWords Go.Proofs.YtokambhemoeloaaW.PrintLast Go.Proofs.YtokambhemoeloaaW.PrintMore Go.Proofs.Ytokambhemoeloaa.PA
open Go.Proofs.Ytokambhemoeloaa.Mp Go.Proofs.Ytokambhemoeloaa.Reg
set_option linter.unusedVariables false
def Row (w : World) (v : Value) (xs : List S51) : Prop := ∃ A c, v = .slice A xs.length c ∧ xs.length ≤ c ∧ Kd.C k51 w A xs.length xs
theorem Row.below {w w1 : World} {v : Value} {xs : List S51} (h : Row w v xs) (hb : Below w.heap.size w w1) : Row w1 v xs := by
  obtain ⟨A, c, h1, h2, h3⟩ := h
  exact ⟨A, c, h1, h2, Kd.C_below h3 hb⟩
theorem Row.nil (w : World) : Row w (.slice none 0 0) [] := ⟨none, 0, rfl, Nat.le_refl _, Kd.C_nil _ _⟩
theorem Row.of_R {w : World} {base : Nat} {ok : Nat → Prop} {v : Value} {xs : List S51} (h : Kd.R k51 51 w base ok v xs) : Row w v xs := by
  obtain ⟨A, c, h1, h2, h3⟩ := Kd.R_reads h
  exact ⟨A, c, h1, h2, h3⟩
def SameCells (w w1 : World) : Prop := ∀ a v, w.cell? a = some v → w1.cell? a = some v
theorem SameCells.of_below {w w1 : World} (h : Below w.heap.size w w1) : SameCells w w1 := fun _ _ hc => pw_cell_below h hc
theorem SameCells.trans {a b c : World} (h : SameCells a b) (k : SameCells b c) : SameCells a c := fun x v hx => k x v (h x v hx)
theorem SameCells.of_kept {w w1 : World} {b : Nat} {es : Array MapEntry} {clock : Nat} (hb : w.heap[b]? = some (.map es clock)) (h : Kept w w1 (fun i => i = b)) : SameCells w w1 := fun a v hc => by
  have hlt := World.block_lt_of_cell? w a hc
  have hne : a.block ≠ b := by
    intro e
    rw [World.cell?, e, hb] at hc
    cases hc
  have := h.2 a.block hlt hne
  simpa [World.cell?, this] using hc
theorem C_cells {α : Type} {d : Kd α} {w w1 : World} {A : Option Addr} {n : Nat} {xs : List α} (hd : ∀ x cs, d.K w x cs → d.K w1 x cs) (h : d.C w A n xs) (hs : SameCells w w1) : d.C w1 A n xs :=
  ⟨h.1, h.2.1, fun hn => by
    obtain ⟨ad, e, hc⟩ := h.2.2 hn
    refine ⟨ad, e, fun j p hj => ?_⟩
    obtain ⟨c, hs1, hr, hcell⟩ := hc j p hj
    exact ⟨c, hs1, hd _ _ hr, fun i u hu => hs _ _ (hcell i u hu)⟩⟩
theorem k51_any {w w1 : World} (x : S51) (cs : List Value) (h : k51.K w x cs) : k51.K w1 x cs := by rw [k51_open h]; exact k51_mk _ _
theorem k56_any {w w1 : World} (x : S56) (cs : List Value) (h : k56.K w x cs) : k56.K w1 x cs := by rw [k56_open h]; exact k56_mk _ _
theorem Row.cells {w w1 : World} {v : Value} {xs : List S51} (h : Row w v xs) (hs : SameCells w w1) : Row w1 v xs := by
  obtain ⟨A, c, h1, h2, h3⟩ := h
  exact ⟨A, c, h1, h2, C_cells k51_any h3 hs⟩
abbrev GL := List (S34 × List S51)
def gget (x : S34) : GL → Option (List S51)
  | [] => none
  | p :: l => if x = p.1 then some p.2 else gget x l
def gput (x : S34) (v : List S51) : GL → GL
  | [] => [(x, v)]
  | p :: l => if x = p.1 then (x, v) :: l else p :: gput x v l
def gdel (x : S34) : GL → GL
  | [] => []
  | p :: l => if x = p.1 then l else p :: gdel x l
structure GAt (w : World) (gb mb : Nat) (G : GL) : Prop where
  blk : w.heap[gb]? = some (.cells #[.map (some mb)] 69 (0, 0))
  rows : ∃ gs : List ((S34 × List S51) × Value), gs.map (·.1) = G ∧ MapAt encK w mb (gs.map fun t => (t.1.1, t.2)) ∧ ∀ t ∈ gs, Row w t.2 t.1.2
theorem GAt.cell {w : World} {gb mb : Nat} {G : GL} (h : GAt w gb mb G) : w.cell? ⟨gb, 0, none⟩ = some (.map (some mb)) := by
  simp [World.cell?, h.blk]
theorem GAt.lt {w : World} {gb mb : Nat} {G : GL} (h : GAt w gb mb G) : gb < w.heap.size ∧ mb < w.heap.size := by
  obtain ⟨gs, _, h2, _⟩ := h.rows
  exact ⟨(Array.getElem?_eq_some_iff.1 h.blk).1, h2.lt⟩
theorem GAt.map {w : World} {gb mb : Nat} {G : GL} (h : GAt w gb mb G) : ∃ es clock, w.heap[mb]? = some (.map es clock) := by
  obtain ⟨gs, _, ⟨es, clock, h2, _⟩, _⟩ := h.rows
  exact ⟨es, clock, h2⟩
theorem GAt.below {w w1 : World} {gb mb : Nat} {G : GL} (h : GAt w gb mb G) (hb : Below w.heap.size w w1) : GAt w1 gb mb G := by
  obtain ⟨gs, h1, h2, h3⟩ := h.rows
  exact ⟨(hb.block gb h.lt.1).trans h.blk, gs, h1, h2.below hb, fun t ht => (h3 t ht).below hb⟩
theorem lget_rows {w : World} (x : S34) : ∀ (gs : List ((S34 × List S51) × Value)), (∀ t ∈ gs, Row w t.2 t.1.2) →
    Row w ((lget x (gs.map fun t => (t.1.1, t.2))).getD (.slice none 0 0)) ((gget x (gs.map (·.1))).getD []) ∧ (lget x (gs.map fun t => (t.1.1, t.2))).isSome = (gget x (gs.map (·.1))).isSome := by
  intro gs
  induction gs with
  | nil => intro _; exact ⟨Row.nil w, rfl⟩
  | cons t gs ih =>
    intro h
    simp only [List.map_cons, lget, gget]
    by_cases hx : x = t.1.1
    · rw [if_pos hx, if_pos hx]; exact ⟨h t (by simp), rfl⟩
    · rw [if_neg hx, if_neg hx]; exact ih (fun t ht => h t (by simp [ht]))
theorem GAt.look {w : World} {gb mb : Nat} {G : GL} (h : GAt w gb mb G) (x : S34) :
    ∃ v, Row w v ((gget x G).getD []) ∧ (∀ w1, w1.heap[mb]? = w.heap[mb]? → (Instr.lookup 67 (.map (some mb)) (encK x) false).run Try.prog w1 = .ok v w1) ∧
      (∀ w1, w1.heap[mb]? = w.heap[mb]? → (Instr.lookup 67 (.map (some mb)) (encK x) true).run Try.prog w1 = .ok (.tuple #[v, .bool (gget x G).isSome]) w1) := by
  obtain ⟨gs, rfl, h2, h3⟩ := h.rows
  have hr := lget_rows x gs h3
  refine ⟨_, hr.1, fun w1 h1 => ?_, fun w1 h1 => ?_⟩
  · exact run_lookup keyK Try.underlying67 (h2.move h1) x (.slice none 0 0) Try.zeroValue38 false
  · rw [run_lookup keyK Try.underlying67 (h2.move h1) x (.slice none 0 0) Try.zeroValue38 true, hr.2]; rfl
set_option maxRecDepth 100000 in
theorem Of_calls (w : World) (gb mb : Nat) (G : GL) (x : S34) (h : GAt w gb mb G) (hl : ((gget x G).getD []).length * 40 ≤ 140737488355328) :
    Calls Try.prog 17 #[.pointer (some ⟨gb, 0, none⟩), encK x] w fun e w' => ∃ v : Value, e = .returned v ∧ Kd.R k51 51 w' w.heap.size (fun _ => True) v ((gget x G).getD []) ∧ Below w.heap.size w w' := by
  obtain ⟨v, hr, h1, _⟩ := h.look x
  obtain ⟨A, c, rfl, hc, hC⟩ := hr
  have hcell := h.cell
  obtain ⟨hg, hm⟩ := h.lt
  have hne : gb ≠ w.heap.size := by omega
  generalize (gget x G).getD [] = l at *
  show Calls Try.prog 17 #[.pointer (some ⟨gb, 0, none⟩), .agg #[.int .i64 x.f0, .int .i64 x.f1, .int .i64 x.f2]] w _
  have hlook : ∀ n, (Instr.lookup 67 (.map (some mb)) (.agg #[.int .i64 x.f0, .int .i64 x.f1, .int .i64 x.f2]) false).run Try.prog ((w.alloc (.cells #[.int .i64 x.f0, .int .i64 x.f1, .int .i64 x.f2] 34)).drewN n) = .ok (.slice A l.length c) ((w.alloc (.cells #[.int .i64 x.f0, .int .i64 x.f1, .int .i64 x.f2] 34)).drewN n) := fun n => h1 _ (Below.heap_alloc _ _ _ hm)
  go_enter Try.func17, Try.ntmps17
  go_wp2
  refine wp_region_quiet_tail (C := fun w' => ∃ n, w' = (w.alloc (.cells #[.int .i64 x.f0, .int .i64 x.f1, .int .i64 x.f2] 34)).drewN n) 6 (by kernel_rfl) (by kernel_rfl) ⟨1, rfl⟩ ?_; simp only [List.take_succ_cons, List.take_zero, List.drop_succ_cons, List.drop_zero]; (repeat (quiet_step (fail))); refine wpQuiet_nil ?_; rintro _ ⟨nq, rfl⟩
  go_wp2_with fail
  refine (Clone_calls A c l _ (Kd.C_below hC (by repeat (first | exact Below.refl _ _ | assumption | with_reducible apply below_alloc | with_reducible apply pw_below_drewN | with_reducible apply below_drew))) hl).mono ?_
  rintro e w1 ⟨v, rfl, hR, hB⟩
  have hB0 : Below w.heap.size w ((w.alloc (.cells #[.int .i64 x.f0, .int .i64 x.f1, .int .i64 x.f2] 34)).drewN nq) := (by repeat (first | exact Below.refl _ _ | assumption | with_reducible apply below_alloc | with_reducible apply pw_below_drewN | with_reducible apply below_drew))
  go_wp2
  go_ret
  exact ⟨_, rfl, Kd.R_lower hR hB0.size, below_then hB0 hB0.size hB⟩
end Go.Proofs.Ytokambhemoeloaa.G
end
section
namespace Go.Proofs.Ytokambhemoeloaa.G
open Go.RowKit Go.Proofs.YtokambhemoeloaaW.PrintWords Go.Proofs.YtokambhemoeloaaW.PrintLast Go.Proofs.YtokambhemoeloaaW.PrintMore Go.Proofs.Ytokambhemoeloaa.PA
open Go.Lib
set_option linter.unusedVariables false
set_option linter.unusedSimpArgs false
attribute [local go_sem high] eqA34 eqA51
structure Ce (W : World) (g o : Nat) (x : S51) : Prop where
  c0 : W.cell? ⟨g, o, none⟩ = some (.int .i64 x.f0)
  c1 : W.cell? ⟨g, o + 1, none⟩ = some (.int .i64 x.f1)
  c2 : W.cell? ⟨g, o + 2, none⟩ = some (.int .i64 x.f2.f0)
  c3 : W.cell? ⟨g, o + 3, none⟩ = some (.int .i64 x.f2.f1)
  c4 : W.cell? ⟨g, o + 4, none⟩ = some (.int .i64 x.f2.f2)
  f0 : W.frozen? ⟨g, o, none⟩ = false
  f1 : W.frozen? ⟨g, o + 1, none⟩ = false
  f2 : W.frozen? ⟨g, o + 2, none⟩ = false
  f3 : W.frozen? ⟨g, o + 3, none⟩ = false
  f4 : W.frozen? ⟨g, o + 4, none⟩ = false
def HL (W : World) (g off : Nat) (xs : List S51) : Prop := ∀ j x, xs[j]? = some x → Ce W g (off + j * 5) x
theorem Ce.out {W : World} {g o : Nat} {x : S51} (h : Ce W g o x) (s : Nat) (vs : List Value) (hs : s + vs.length ≤ o ∨ o + 5 ≤ s) : Ce (W.setCells g s vs) g o x := by
  have hc : ∀ t, o ≤ t → t < o + 5 → (W.setCells g s vs).cell? ⟨g, t, none⟩ = W.cell? ⟨g, t, none⟩ := fun t h1 h2 => World.cell?_setCells_out g vs s W _ (fun _ => by simp only; omega)
  have hf : ∀ t, (W.setCells g s vs).frozen? ⟨g, t, none⟩ = W.frozen? ⟨g, t, none⟩ := fun t => World.frozen?_setCells _ _ _ _ _
  exact ⟨(hc _ (by omega) (by omega)).trans h.c0, (hc _ (by omega) (by omega)).trans h.c1, (hc _ (by omega) (by omega)).trans h.c2, (hc _ (by omega) (by omega)).trans h.c3, (hc _ (by omega) (by omega)).trans h.c4,
    (hf _).trans h.f0, (hf _).trans h.f1, (hf _).trans h.f2, (hf _).trans h.f3, (hf _).trans h.f4⟩
def cel (x : S51) : List Value := [.int .i64 x.f0, .int .i64 x.f1, .int .i64 x.f2.f0, .int .i64 x.f2.f1, .int .i64 x.f2.f2]
theorem Ce.set {W : World} {g o : Nat} {x y : S51} (h : Ce W g o x) : Ce (W.setCells g o (cel y)) g o y := by
  have hf : ∀ t, (W.setCells g o (cel y)).frozen? ⟨g, t, none⟩ = W.frozen? ⟨g, t, none⟩ := fun t => World.frozen?_setCells _ _ _ _ _
  have hc : ∀ t v, (cel y)[t]? = some v → (W.setCells g o (cel y)).cell? ⟨g, o + t, none⟩ = some v := by
    intro t v ht
    have hl : t < (cel y).length := (List.getElem?_eq_some_iff.1 ht).1
    rw [World.cell?_setCells_in g (cel y) o W (fun j hj => by
      have hj : j < 5 := hj
      match j, hj with
      | 0, _ => rw [Nat.add_zero, h.c0]; rfl
      | 1, _ => rw [h.c1]; rfl
      | 2, _ => rw [h.c2]; rfl
      | 3, _ => rw [h.c3]; rfl
      | 4, _ => rw [h.c4]; rfl) t hl, ← ht, List.getElem?_eq_getElem hl]
  exact ⟨hc 0 _ rfl, hc 1 _ rfl, hc 2 _ rfl, hc 3 _ rfl, hc 4 _ rfl, (hf _).trans h.f0, (hf _).trans h.f1, (hf _).trans h.f2, (hf _).trans h.f3, (hf _).trans h.f4⟩
theorem HL.set {W : World} {g off : Nat} {xs : List S51} (h : HL W g off xs) (i : Nat) (y : S51) (hi : i < xs.length) : HL (W.setCells g (off + i * 5) (cel y)) g off (xs.set i y) := by
  intro j x hj
  rw [List.getElem?_set] at hj
  by_cases hij : i = j
  · subst hij
    simp [hi] at hj
    subst hj
    exact (h i _ (List.getElem?_eq_getElem hi)).set
  · rw [if_neg hij] at hj
    exact (h j x hj).out _ _ (by simp only [cel, List.length_cons, List.length_nil]; omega)
theorem HL.drewN {W : World} {g off : Nat} {xs : List S51} (h : HL W g off xs) (n : Nat) : HL (W.drewN n) g off xs := fun j x hj => by
  obtain ⟨a, b, c, d, e, f, g, h, i, k⟩ := h j x hj
  exact ⟨a, b, c, d, e, f, g, h, i, k⟩
theorem grown_draw (w : World) (n : Nat) (row : Option Nat) : w.grownBy (w.drewN n) row := ⟨rfl, rfl, rfl, Nat.le_refl _, fun _ _ _ => rfl⟩
theorem grown_setCells (W : World) (g s : Nat) (vs : List Value) : W.grownBy (W.setCells g s vs) (some g) :=
  by
    induction vs generalizing W s with
    | nil => exact World.grownBy.refl _ _
    | cons v vs ih => exact World.grownBy.trans ⟨by rfl, by rfl, by rfl, by simp [World.size_setCell], fun k hk hne => Below.heap_setCell W _ v k (fun e => hne (by rw [e]))⟩ (ih _ _)
theorem clear_run (w : World) (b o n c : Nat) (hn : 0 < n) (hc : ∀ j, j < n * 5 → (w.cell? ⟨b, o + j, none⟩).isSome = true ∧ w.frozen? ⟨b, o + j, none⟩ = false) (ty : TypeId) :
    (Builtin.clear_ #[38] ty #[.slice (some ⟨b, o, none⟩) n c]).run Try.prog w = .ok (.tuple #[]) (w.setCells b o (List.replicate (n * 5) (.int .i64 0))) := by
  have hzc : (Builtin.zeroCells (#[.int .i64 0, .int .i64 0, .int .i64 0, .int .i64 0, .int .i64 0] : Array Value) n).toList = List.replicate (n * 5) (.int .i64 0) := by
    apply List.ext_getElem
    · simp [Builtin.zeroCells]
    · intro i h1 h2
      have : i % 5 < 5 := Nat.mod_lt _ (by omega)
      simp only [Builtin.zeroCells, Array.getElem_toList, Array.getElem_map, Array.getElem_range, List.size_toArray, List.length_cons, List.length_nil, Nat.zero_add, Nat.reduceAdd, List.getElem_replicate]
      generalize i % 5 = t at *
      match t, this with
      | 0, _ => rfl
      | 1, _ => rfl
      | 2, _ => rfl
      | 3, _ => rfl
      | 4, _ => rfl
  have hst := run_storeCells_cells (P := Try.prog) b o (List.replicate (n * 5) (.int .i64 0)) 0 w (fun j hj => by simpa using (hc j (by simpa using hj)).1) (fun j hj => by simpa using (hc j (by simpa using hj)).2) (by intro v hv'; rw [List.eq_of_mem_replicate hv']; rfl)
  simp only [Nat.add_zero] at hst
  obtain ⟨m, rfl⟩ : ∃ m, n = m + 1 := ⟨n - 1, by omega⟩
  have hzv : (Value.agg #[.int .i64 0, .int .i64 0, .int .i64 0, .int .i64 0, .int .i64 0]).cells = #[.int .i64 0, .int .i64 0, .int .i64 0, .int .i64 0, .int .i64 0] := by rfl
  simp [Builtin.clear_, run_underlying Try.underlying38, Try.zeroValue51, hzv, hzc, hst]
theorem eq5 (x y : S51) : (x.f0 == y.f0 && (x.f1 == y.f1 && (x.f2.f0 == y.f2.f0 && (x.f2.f1 == y.f2.f1 && x.f2.f2 == y.f2.f2)))) = decide (x = y) := by
  obtain ⟨a, b, ⟨c, d, e⟩⟩ := x
  obtain ⟨a', b', ⟨c', d', e'⟩⟩ := y
  simp only [S51.mk.injEq, S34.mk.injEq, Bool.decide_and]
  rfl
theorem HL.cut {W : World} {g off : Nat} {xs : List S51} (h : HL W g off xs) (m : Nat) (vs : List Value) : HL (W.setCells g (off + m * 5) vs) g off (xs.take m) := by
  intro j x hj
  rw [List.getElem?_take] at hj
  by_cases hm : j < m
  · rw [if_pos hm] at hj
    exact (h j x hj).out _ _ (by omega)
  · rw [if_neg hm] at hj; cases hj
theorem HL.C {W : World} {g off : Nat} {xs : List S51} (h : HL W g off xs) (hn : xs.length ≤ 9223372036854775807) : Kd.C k51 W (some ⟨g, off, none⟩) xs.length xs := by
  refine ⟨rfl, hn, fun _ => ⟨_, rfl, fun j p hj => ⟨cel p, rfl, k51_mk _ _, fun i u hu => ?_⟩⟩⟩
  have := h j p hj
  show W.cell? (Addr.add ⟨g, off, none⟩ (j * 5 + i)) = some u
  rw [show Addr.add ⟨g, off, none⟩ (j * 5 + i) = ⟨g, off + j * 5 + i, none⟩ from by unfold Addr.add; split <;> simp_all [Nat.add_assoc]]
  simp only [cel] at hu
  match i, hu with
  | 0, hu => simp at hu; subst hu; exact this.c0
  | 1, hu => simp at hu; subst hu; exact this.c1
  | 2, hu => simp at hu; subst hu; exact this.c2
  | 3, hu => simp at hu; subst hu; exact this.c3
  | 4, hu => simp at hu; subst hu; exact this.c4
  | i + 5, hu => simp at hu
set_option maxRecDepth 100000 in
theorem Compact_walk (g cap : Nat) (xs : List S51) (w : World) (hlt : g < w.heap.size) (hn : xs.length ≤ 9223372036854775807) (hH : HL w g 0 xs) (hcap : xs.length ≤ cap) :
    Calls Try.prog 38 #[.slice (some ⟨g, 0, none⟩) xs.length cap] w fun e w' => e = .returned (.slice (some ⟨g, 0, none⟩) (compact xs).length cap) ∧ HL w' g 0 (compact xs) ∧ w.grownBy w' (some g) := by
  have same : Hid ((∀ j, j < xs.length → keeps xs.toArray j = true) → compact xs = xs) := compact_all xs
  by_cases h2 : xs.length < 2
  · have hc := Lib.hid (same.out (fun j hj => keeps_lt_one _ j (by omega)))
    clear same
    go_enter Try.func38, Try.ntmps38
    go_wp2
    go_ret
    exact ⟨by rw [hc.out]; rfl, by rw [hc.out]; exact hH, World.grownBy.refl _ _⟩
  go_enter Try.func38, Try.ntmps38
  go_wp2
  go_loopw [3] (fun s3 wr => ∃ k n : Nat, 1 ≤ k ∧ k ≤ xs.length ∧ s3 = .int .i64 k ∧ wr = w.drewN n ∧ Hid (∀ j, j < k → keeps xs.toArray j = true)) (fun s3 wr => xs.length - (intOf s3).toNat)
  case atStart => exact ⟨1, 0, Nat.le_refl _, by omega, rfl, rfl, keeps_lt_one _⟩
  case round =>
    obtain ⟨k, q, hk1, hk, rfl, rfl, hkeep⟩ := hrel
    by_cases hlt : k < xs.length
    · obtain ⟨k, rfl⟩ : ∃ j, k = j + 1 := ⟨k - 1, by omega⟩
      obtain ⟨c0, c1, c2, c3, c4, _, _, _, _, _⟩ := hH (k + 1) _ (List.getElem?_eq_getElem hlt)
      obtain ⟨d0, d1, d2, d3, d4, _, _, _, _, _⟩ := hH k _ (List.getElem?_eq_getElem (by omega))
      have hx : Hid (xs.toArray[k + 1]! = xs[k + 1]) := by show _ = _; simp [hlt]
      have hy : Hid (xs.toArray[k + 1 - 1]! = xs[k]) := by show _ = _; simp [show k < xs.length by omega]
      generalize xs[k+1] = x at *
      generalize xs[k] = y at *
      simp only [Nat.zero_add] at c0 c1 c2 c3 c4 d0 d1 d2 d3 d4
      have e1 : ((k : Int) + 1).toNat = k + 1 := by omega
      have e2 : wrap64 ((k : Int) + 1 - 1) = k := by unfold wrap64; omega
      have l1 : (k : Int) + 1 < xs.length := by omega
      have l2 : (k : Int) < xs.length := by omega
      have l3 : (0 : Int) ≤ (k : Int) + 1 := by omega
      go_wp2_with fail
      go_region
      rw [eq5]
      clear c0 c1 c2 c3 c4 d0 d1 d2 d3 d4
      by_cases hxy : x = y
      · have hdup := Lib.hid (keeps_neg (d := xs.toArray) (m := k + 1) (by omega) (by rw [hx.out, hy.out, hxy]))
        subst hxy
        clear hx hy
        have hH0 := Lib.hid hH
        clear hH
        rw [decide_eq_true rfl]
        go_wp2
        go_loopw [3, 5] (fun s3 s5 wr => ∃ (kk m : Nat) (dk : Array S51), s3 = .int .i64 kk ∧ s5 = .int .i64 (m + 1 : Nat) ∧ k + 1 + (m + 1) ≤ xs.length ∧ HL wr g 0 dk.toList ∧ w.grownBy wr (some g) ∧ Hid (CompInv xs.toArray (k + 1 + (m + 1)) kk dk)) (fun s3 s5 wr => xs.length - (intOf s5).toNat)
        case atStart => exact ⟨k + 1, 0, xs.toArray, rfl, rfl, by omega, by simpa using hH0.out.drewN _, grown_draw _ _ _, CompInv.start hkeep.out hdup.out⟩
        case round =>
          obtain ⟨kk, m, dk, rfl, rfl, hle, hL, hG, hI⟩ := hrel
          have hkk := hI.out.lt
          have hds : dk.size = xs.length := by simpa using hI.out.size
          by_cases hlt2 : k + 1 + (m + 1) < xs.length
          · have r1 : dk.toList[k + 1 + (m + 1)]? = some xs.toArray[k + 1 + (m + 1)]! := by
              rw [Array.getElem?_toList, Array.getElem?_eq_getElem (by omega), ← getElem!_pos dk (k + 1 + (m + 1)) (by omega), hI.out.high _ (by omega)]
            have r2 : dk.toList[k + 1 + m]? = some xs.toArray[k + 1 + (m + 1) - 1]! := by
              rw [Array.getElem?_toList, Array.getElem?_eq_getElem (by omega), ← getElem!_pos dk (k + 1 + m) (by omega), hI.out.high _ (by omega)]
              rfl
            have r3 : kk < dk.toList.length := by simp; omega
            obtain ⟨c0, c1, c2, c3, c4, _, _, _, _, _⟩ := hL _ _ r1
            obtain ⟨d0, d1, d2, d3, d4, _, _, _, _, _⟩ := hL _ _ r2
            obtain ⟨b0, b1, b2, b3, b4, f0, f1, f2, f3, f4⟩ := hL kk _ (List.getElem?_eq_getElem r3)
            clear r1 r2
            generalize hx : xs.toArray[k + 1 + (m + 1)]! = x at *
            generalize hy : xs.toArray[k + 1 + (m + 1) - 1]! = y at *
            have hx := Lib.hid hx
            have hy := Lib.hid hy
            generalize dk.toList[kk] = z at *
            rw [Nat.zero_add, Nat.add_mul] at c0 c1 c2 c3 c4 d0 d1 d2 d3 d4
            rw [Nat.zero_add] at b0 b1 b2 b3 b4 f0 f1 f2 f3 f4
            have l4 : (m : Int) + 1 < ((xs.length - (k + 1) : Nat) : Int) := by omega
            have l5 : (m : Int) < ((xs.length - (k + 1) : Nat) : Int) := by omega
            have l6 : (0 : Int) ≤ (m : Int) + 1 := by omega
            have l7 : (kk : Int) < xs.length := by omega
            have hLh := Lib.hid hL
            have hGh := Lib.hid hG
            clear hL hG
            have e1 : ((m : Int) + 1).toNat = m + 1 := by omega
            have e2 : wrap64 ((m : Int) + 1 - 1) = m := by unfold wrap64; omega
            go_wp2_with fail
            go_region
            simp only [← Bool.not_and]
            rw [eq5]
            clear d0 d1 d2 d3 d4
            by_cases hxy2 : x = y
            · have hI2 := Lib.hid (hI.out.skip (keeps_neg (d := xs.toArray) (m := k + 1 + (m + 1)) (by omega) (by rw [hx.out, hy.out, hxy2])))
              rw [decide_eq_true hxy2]
              go_wp2
              go_roundw
              case rel => exact ⟨kk, m + 1, dk, rfl, by go_num, by omega, hLh.out.drewN _, hGh.out.trans (grown_draw _ _ _), hI2.out⟩
              case measure => simp [intOf]; omega
            · have hI2 := Lib.hid (hI.out.keep (by simpa using hlt2) (keeps_pos (by rw [hx.out, hy.out]; exact hxy2)))
              rw [decide_eq_false hxy2]
              go_wp2
              go_roundw
              case rel =>
                have h1 := hLh.out.set kk x r3
                rw [Nat.zero_add, ← Array.toList_setIfInBounds] at h1
                rw [hx.out] at hI2
                refine ⟨kk + 1, m + 1, dk.setIfInBounds kk x, by go_num, by go_num, by omega, HL.drewN h1 1, ?_, hI2.out⟩
                exact (hGh.out.trans (grown_setCells wr g (kk * 5) (cel x))).trans (grown_draw _ 1 _)
              case measure => simp [intOf]; omega
          · have hend : k + 1 + (m + 1) = xs.length := by omega
            have hcl := clear_run wr g (kk * 5) (xs.length - kk) (cap - kk) (by omega) (fun j hj => by
              have h5 := hL (kk + j / 5) _ (List.getElem?_eq_getElem (by simp; omega))
              have e5 : kk * 5 + j = 0 + (kk + j / 5) * 5 + j % 5 := by omega
              rw [e5]
              have : j % 5 < 5 := Nat.mod_lt _ (by omega)
              generalize j % 5 = t at *
              match t, this with
              | 0, _ => exact ⟨by rw [Nat.add_zero, h5.c0]; rfl, h5.f0⟩
              | 1, _ => exact ⟨by rw [h5.c1]; rfl, h5.f1⟩
              | 2, _ => exact ⟨by rw [h5.c2]; rfl, h5.f2⟩
              | 3, _ => exact ⟨by rw [h5.c3]; rfl, h5.f3⟩
              | 4, _ => exact ⟨by rw [h5.c4]; rfl, h5.f4⟩)
            have hLh := Lib.hid hL
            have hGh := Lib.hid hG
            clear hL hG
            have l7 : (kk : Int) < xs.length := by omega
            go_wp2
            go_ret
            have hI := hI.out
            rw [hend] at hI
            have hI2 : CompInv xs.toArray xs.toArray.size kk dk := by simpa using hI
            have hlen : (compact xs).length = kk := by simpa [compact] using hI2.len
            have htk : dk.toList.take kk = compact xs := by
              apply List.ext_getElem?
              intro j
              rw [List.getElem?_take]
              by_cases hj : j < kk
              · rw [if_pos hj, Array.getElem?_toList, Array.getElem?_eq_getElem (by omega), ← getElem!_pos dk j (by omega), ← hI2.low j hj]
                simp [compact]
              · rw [if_neg hj, List.getElem?_eq_none (by omega)]
            have h1 := hLh.out.cut kk (List.replicate ((xs.length - kk) * 5) (.int .i64 0))
            rw [htk, Nat.zero_add] at h1
            exact ⟨by rw [hlen]; rfl, h1, hGh.out.trans (grown_setCells _ _ _ _)⟩
      · have hk2 : Hid (∀ j, j < k + 1 + 1 → keeps xs.toArray j = true) := by
          show ∀ j, j < k + 1 + 1 → keeps xs.toArray j = true
          intro j hj
          by_cases e : j = k + 1
          · subst e; exact keeps_pos (by rw [hx.out, hy.out]; exact hxy)
          · exact hkeep.out j (by omega)
        rw [decide_eq_false hxy]
        go_wp2
        go_roundw
        case rel => exact ⟨k + 1 + 1, q + 1, by omega, by omega, by go_num, rfl, hk2.out⟩
        case measure => simp [intOf]; omega
    · have hc := Lib.hid (same.out (fun j hj => hkeep.out j (by omega)))
      have hHh := Lib.hid hH
      clear same hH
      go_wp2
      go_ret
      exact ⟨by rw [hc.out]; rfl, by rw [hc.out]; exact hHh.out.drewN _, grown_draw _ _ _⟩
theorem HL.of_R {w : World} {base : Nat} {ok : Nat → Prop} {e g n c : Nat} {xs : List S51} (h : Kd.R k51 e w base ok (.slice (some ⟨g, 0, none⟩) n c) xs) : HL w g 0 xs := by
  obtain ⟨cells, hb⟩ := Kd.R_typed h g rfl
  obtain ⟨rfl, _, hC⟩ := Kd.R_reads' h
  intro j x hj
  have hjl := (List.getElem?_eq_some_iff.1 hj).1
  obtain ⟨ad, e, hc⟩ := hC.2.2 (by omega)
  obtain ⟨cs, hs, hK, hcell⟩ := hc j x hj
  obtain rfl := k51_open hK
  obtain rfl := Option.some.inj e
  have hf : ∀ t, w.frozen? ⟨g, t, none⟩ = false := fun t => blk_frozen hb t
  have hcell : ∀ i u, [Value.int .i64 x.f0, .int .i64 x.f1, .int .i64 x.f2.f0, .int .i64 x.f2.f1, .int .i64 x.f2.f2][i]? = some u → w.cell? ⟨g, 0 + j * 5 + i, none⟩ = some u := fun i u hu => by
    have := hcell i u hu
    rw [show Addr.add ⟨g, 0, none⟩ (j * k51.sz + i) = ⟨g, 0 + j * 5 + i, none⟩ from by unfold Addr.add; split <;> simp_all [show k51.sz = 5 from rfl]] at this
    exact this
  exact ⟨hcell 0 _ rfl, hcell 1 _ rfl, hcell 2 _ rfl, hcell 3 _ rfl, hcell 4 _ rfl, hf _, hf _, hf _, hf _, hf _⟩
theorem Compact_none (A : Option Addr) (c : Nat) (w : World) : Calls Try.prog 38 #[.slice A 0 c] w fun e w' => e = .returned (.slice A 0 c) ∧ w' = w := by
  go_enter Try.func38, Try.ntmps38
  go_wp2
  go_ret
  exact ⟨rfl, rfl⟩
theorem compact_le (xs : List S51) : (compact xs).length ≤ xs.length := by
  unfold compact compactUpTo
  rw [List.length_map]
  exact Nat.le_trans (List.length_filter_le _ _) (by simp)
theorem Compact_calls {w : World} {base : Nat} {ok : Nat → Prop} {e : Nat} {v : Value} {xs : List S51} (h : Kd.R k51 e w base ok v xs) :
    Calls Try.prog 38 #[v] w fun e w' => ∃ v', e = .returned v' ∧ Row w' v' (compact xs) ∧ w.grownBy w' v.ownBlock := by
  obtain ⟨A, c, rfl, hc, hC⟩ := Kd.R_reads h
  by_cases h0 : xs = []
  · subst h0
    refine (Compact_none A c w).mono ?_
    rintro e w1 ⟨rfl, rfl⟩
    exact ⟨_, rfl, ⟨A, c, rfl, Nat.zero_le _, hC⟩, World.grownBy.refl _ _⟩
  · obtain ⟨ad, rfl, _⟩ := hC.2.2 (by cases xs; · exact absurd rfl h0
                                      · simp)
    obtain ⟨g, rfl⟩ := Kd.R_head h
    refine (Compact_walk g c xs w (Kd.R_lt h g rfl) hC.2.1 (HL.of_R h) hc).mono ?_
    rintro e w1 ⟨rfl, h1, h2⟩
    have := compact_le xs
    exact ⟨_, rfl, ⟨_, _, rfl, by omega, h1.C (by have := hC.2.1; omega)⟩, h2⟩
end Go.Proofs.Ytokambhemoeloaa.G
end
section
namespace Go.Proofs.Ytokambhemoeloaa.Sr
open Go.RowKit Go.Proofs.YtokambhemoeloaaW.PrintWords Go.Proofs.YtokambhemoeloaaW.PrintLast Go.Proofs.YtokambhemoeloaaW.PrintMore
open Go.Sort Go.Shelf Go.Lib
set_option linter.unusedVariables false
set_option linter.unusedSimpArgs false
variable {α : Type} [Inhabited α]
structure Flat (d : Kd α) (enc : α → List Value) : Prop where
  M : ∀ {w : World} {base : Nat} {ok : Nat → Prop} {x : α} {cs : List Value}, d.M w base ok x cs ↔ cs = enc x
  len : ∀ x, (enc x).length = d.sz
  one : ∀ x, ∀ v ∈ enc x, v.oneCell' = true
theorem div_lt {n k t : Nat} (h : t < n * k) : t / k < n := by
  rcases Nat.eq_zero_or_pos k with rfl | hk
  · simp at h
  · exact Nat.div_lt_of_lt_mul (by rwa [Nat.mul_comm])
theorem reps_get {d : Kd α} {enc : α → List Value} (F : Flat d enc) {R : α → List Value → Prop} (hR : ∀ x cs, R x cs → cs = enc x) {l : List α} {inner : List Value} (h : Reps R d.sz l inner) (t : Nat) (ht : t < l.length * d.sz) :
    inner[t]? = (enc l[t / d.sz]!)[t % d.sz]? := by
  have hk : 0 < d.sz := by
    rcases Nat.eq_zero_or_pos d.sz with h0 | h0
    · rw [h0] at ht; simp at ht
    · exact h0
  have hj := div_lt ht
  have h1 := hR _ _ (h.2 (t / d.sz) l[t / d.sz] (List.getElem?_eq_getElem hj))
  rw [getElem!_pos l _ hj, ← h1, List.getElem?_take, if_pos (Nat.mod_lt _ hk), List.getElem?_drop]
  congr 1
  exact (Nat.div_add_mod' t d.sz).symm
theorem reps_flat {d : Kd α} {enc : α → List Value} (F : Flat d enc) (l : Array α) : Reps (fun x cs => cs = enc x) d.sz l.toList (flatK enc d.sz l).toList := by
  refine ⟨by simp, fun j p hj => ?_⟩
  have hjl : j < l.size := by simpa using (List.getElem?_eq_some_iff.1 hj).1
  have hp : l[j]! = p := by
    rw [getElem!_pos l j hjl]
    simp only [Array.getElem?_toList, Array.getElem?_eq_getElem hjl, Option.some.injEq] at hj
    exact hj
  have hb : j * d.sz + d.sz ≤ l.size * d.sz := by
    have := Nat.mul_le_mul_right d.sz (show j + 1 ≤ l.size from hjl); rwa [Nat.add_mul, Nat.one_mul] at this
  apply List.ext_getElem?
  intro i
  rw [List.getElem?_take]
  by_cases hi : i < d.sz
  · rw [if_pos hi, List.getElem?_drop]
    have ht : j * d.sz + i < l.size * d.sz := by omega
    have h1 := get_flatK enc d.sz l (j * d.sz + i) ht
    have e1 : (j * d.sz + i) / d.sz = j := (blk_iff d.sz j _ (by omega)).1 ⟨by omega, by omega⟩
    have e2 : (j * d.sz + i) % d.sz = i := by rw [Nat.mod_eq_sub_div_mul, e1]; omega
    rw [e1, e2, hp] at h1
    have hs : j * d.sz + i < (flatK enc d.sz l).size := by simpa using ht
    rw [getElem!_pos (flatK enc d.sz l) (j * d.sz + i) hs] at h1
    have hl : i < (enc p).length := by rw [F.len]; exact hi
    rw [getElem!_pos (enc p) i hl] at h1
    rw [List.getElem?_eq_getElem hl, Array.getElem?_toList, Array.getElem?_eq_getElem hs, h1]
  · rw [if_neg hi, List.getElem?_eq_none (by rw [F.len]; omega)]
theorem owned_sort {d : Kd α} {enc : α → List Value} (F : Flat d enc) {e : Nat} {w : World} {base : Nat} {ok : Nat → Prop} {v : Value} {l : List α} (h : d.R e w base ok v l) (hl : l ≠ []) :
    ∃ g cap, v = .slice (some ⟨g, 0, none⟩) l.length cap ∧ g < w.heap.size ∧ l.length ≤ 9223372036854775807 ∧ HoldsK enc d.sz w g 0 l.toArray ∧
      ∀ n os (l' : Array α), l'.size = l.length → d.R e (sortWorldK enc d.sz w g 0 n l' os) base ok v l'.toList ∧ w.grownBy (sortWorldK enc d.sz w g 0 n l' os) v.ownBlock := by
  obtain ⟨hok, inner, ⟨hlen, hv⟩, hr⟩ := h
  rcases hv with ⟨_, h0⟩ | ⟨g, cap, cur, rfl, hg, hh, hn, hc, hs, ht⟩
  · exact absurd (List.eq_nil_of_length_eq_zero h0) hl
  have hlt : g < w.heap.size := (Array.getElem?_eq_some_iff.1 hh).1
  have hbig : l.length * d.sz ≤ cur.size := by rw [hs]; exact Nat.mul_le_mul_right _ hn
  refine ⟨g, cap, rfl, hlt, by simp [maxLen] at hc; omega, ?_, ?_⟩
  · intro t htt
    have htt' : t < l.length * d.sz := by simpa using htt
    have h1 := reps_get F (fun x cs hx => F.M.1 hx) hr t htt'
    rw [← ht, List.getElem?_take, if_pos htt'] at h1
    have hk : 0 < d.sz := by
      rcases Nat.eq_zero_or_pos d.sz with h0 | h0
      · rw [h0] at htt'; simp at htt'
      · exact h0
    have hml : t % d.sz < (enc l[t / d.sz]!).length := by rw [F.len]; exact Nat.mod_lt _ hk
    refine ⟨?_, by simp [World.frozen?, hh]⟩
    rw [get_flatK _ _ _ _ (by simpa using htt')]
    simp only [World.cell?, hh, Nat.zero_add]
    rw [Array.getElem?_toList] at h1
    rw [List.getElem?_eq_getElem hml] at h1
    rw [List.getElem!_toArray, getElem!_pos (enc l[t / d.sz]!) (t % d.sz) hml]
    simpa using h1
  · intro n os l' hl'
    have hW : (sortWorldK enc d.sz w g 0 n l' os).heap[g]? = some (.cells (putCells id 0 (flatK enc d.sz l') cur) e (0, 0)) := by
      unfold sortWorldK grow putRowK putRow mapBlock
      rw [Array.getElem?_append_left (by simp [ahead]; exact hlt)]
      simp [ahead, Array.getElem?_modify, hh, onCells]
    refine ⟨⟨hok, (flatK enc d.sz l').toList, ⟨by simp, Or.inr ⟨g, cap, _, ?_, hg, hW, by simpa [hl'] using hn, hc, by simp [putCells, hs], ?_⟩⟩, (reps_flat F l').imp_ (fun _ _ hx => F.M.2 hx)⟩, ?_⟩
    · simp [hl']
    · apply List.ext_getElem?
      intro t
      rw [List.getElem?_take]
      have hsz : l'.toList.length * d.sz = l.length * d.sz := by simp [hl']
      rw [hsz]
      by_cases htt : t < l.length * d.sz
      · rw [if_pos htt]
        have h1 : t < (flatK enc d.sz l').size := by simp [hl']; exact htt
        have h2 : t < cur.size := by omega
        simp only [putCells, Array.getElem?_toList, Array.getElem?_mapIdx, Array.getElem?_eq_getElem h2, Option.map_some, Nat.zero_le, Nat.zero_add, true_and, h1, if_true, Nat.sub_zero, id, Array.getElem?_eq_getElem h1, getElem!_pos (flatK enc d.sz l') t h1]
      · rw [if_neg htt, List.getElem?_eq_none (by simp [hl']; omega)]
    · refine ⟨rfl, rfl, rfl, ?_, fun k hk hne => ?_⟩
      · simp [sortWorldK, grow, putRowK, putRow, mapBlock, ahead]
      · have hkg : g ≠ k := fun e => hne (by simp [Value.ownBlock, e])
        unfold sortWorldK grow putRowK putRow mapBlock
        rw [Array.getElem?_append_left (by simp [ahead]; exact hk)]
        simp [ahead, Array.getElem?_modify, hkg]
theorem sortedIn_pairwise {lt : α → α → Bool} {l : Array α} (h : SortedIn lt 0 l.size l) : l.toList.Pairwise (fun x y => lt y x = false) := by
  rw [List.pairwise_iff_getElem]
  intro i j hi hj hij
  have hi' : i < l.size := by simpa using hi
  have hj' : j < l.size := by simpa using hj
  have := h i j (Nat.zero_le _) hij hj'
  rwa [getElem!_pos l j hj', getElem!_pos l i hi'] at this
theorem permIn_perm {l l' : Array α} (h : PermIn 0 l.size l l') : l'.size = l.size ∧ l'.toList.Perm l.toList := by
  refine ⟨h.1, ?_⟩
  have := h.2.2
  rw [← h.1] at this
  rw [Array.extract_size] at this
  rw [h.1, Array.extract_size] at this
  exact this
theorem SortFunc_R {P : Program} {ρ : Ren} (L : SlLaysF0.n6 P ρ) {d : Kd α} {enc : α → List Value} (F : Flat d enc) (aE : ∀ w, (isAgg (ρ.t 24)).run P w = .ok true w) (zE : ∀ w, (Go.sizeOf (ρ.t 24)).run P w = .ok d.sz w)
    (cf : α → α → Int) (hO : SWO (ltOf cf)) (g : Nat) (eg : ∀ args w, (callFunc g args).run P w = .ok (.enter g args) w)
    (hcf : ∀ x y W, Calls P g #[.agg (enc x).toArray, .agg (enc y).toArray] W fun e w' => e = .returned (.int .i64 (cf x y)) ∧ ∃ q os, w' = grow (W.drewN q) os)
    {e : Nat} {w : World} {base : Nat} {ok : Nat → Prop} {v : Value} {l : List α} (h : d.R e w base ok v l) (hb : l.length < 4611686018427387904) :
    Calls P (ρ.f 6) #[v, .func (.func g) #[] #[]] w fun e' w' => e' = .returned (.tuple #[]) ∧ ∃ l', l'.Perm l ∧ l'.Pairwise (fun x y => ltOf cf y x = false) ∧ d.R e w' base ok v l' ∧ w.grownBy w' v.ownBlock := by
  by_cases hl : l = []
  · subst hl
    obtain ⟨A, c, rfl, _⟩ := Kd.R_reads h
    refine (AnyF.slices_SortFunc_none L A c _ w).mono (fun e' w' ⟨he, hw⟩ => ⟨he, [], List.Perm.refl _, List.Pairwise.nil, by rw [hw]; exact h, by rw [hw]; exact grown_of_below (Below.refl _ _) _⟩)
  · obtain ⟨gb, cap, rfl, hlt, _, hH, hW⟩ := owned_sort F h hl
    have hsz : l.toArray.size = l.length := by simp
    have := AnyQ.slices_SortFunc L d.sz aE zE enc F.len F.one cf hO g #[] gb 0 cap l.toArray w eg (fun m os dk hs x y => by simpa using hcf x y _) hH hlt (by simpa using hb)
    rw [hsz] at this
    refine this.mono (fun e' w' ⟨he, d', n, os, hp, hs, hw⟩ => ⟨he, ?_⟩)
    rw [← hsz] at hp hs
    obtain ⟨h1, h2⟩ := permIn_perm hp
    refine ⟨d'.toList, by simpa using h2, sortedIn_pairwise (by rw [h1]; exact hs), ?_⟩
    rw [hw]
    exact hW n os d' (by simpa using h1)
end Go.Proofs.Ytokambhemoeloaa.Sr
end
section
namespace Go.Proofs
open Go.Shelf
def Try.sort36_ren : Go.Shelf.Ren := ⟨fun | 6 => 36 | 15 => 54 | 14 => 53 | 28 => 73 | 29 => 74 | 20 => 65 | 21 => 66 | 22 => 67 | 23 => 68 | 24 => 69 | 25 => 70 | 26 => 71 | 27 => 72 | 46 => 78 | 47 => 79 | 48 => 80 | 49 => 81 | 50 => 82 | 57 => 92 | n => n, fun | 22 => 38 | 24 => 51 | 25 => 76 | 3 => 3 | 39 => 100 | 0 => 0 | 53 => 118 | 55 => 107 | 4 => 4 | 46 => 112 | 45 => 111 | 50 => 79 | 5 => 5 | 9 => 9 | 66 => 122 | 70 => 126 | 76 => 134 | 77 => 135 | n => n, fun | n => n⟩
theorem Try.sort36 : Go.Proofs.SlLaysF0.n6 Try.prog Try.sort36_ren := {
  mixed := by kernel_rfl
  f6 := ⟨Try.f36.name, by decide, Try.func36.trans (congrArg some (by kernel_rfl))⟩
  f14 := ⟨Try.f53.name, by decide, Try.func53.trans (congrArg some (by kernel_rfl))⟩
  f15 := Try.func54.trans (congrArg some (by kernel_rfl))
  f20 := ⟨Try.f65.name, by decide, Try.func65.trans (congrArg some (by kernel_rfl))⟩
  f21 := ⟨Try.f66.name, by decide, Try.func66.trans (congrArg some (by kernel_rfl))⟩
  f22 := ⟨Try.f67.name, by decide, Try.func67.trans (congrArg some (by kernel_rfl))⟩
  f23 := ⟨Try.f68.name, by decide, Try.func68.trans (congrArg some (by kernel_rfl))⟩
  f24 := ⟨Try.f69.name, by decide, Try.func69.trans (congrArg some (by kernel_rfl))⟩
  f25 := ⟨Try.f70.name, by decide, Try.func70.trans (congrArg some (by kernel_rfl))⟩
  f26 := ⟨Try.f71.name, by decide, Try.func71.trans (congrArg some (by kernel_rfl))⟩
  f27 := ⟨Try.f72.name, by decide, Try.func72.trans (congrArg some (by kernel_rfl))⟩
  f28 := Try.func73.trans (congrArg some (by kernel_rfl))
  f29 := Try.func74.trans (congrArg some (by kernel_rfl))
  f46 := ⟨Try.f78.name, by decide, Try.func78.trans (congrArg some (by kernel_rfl))⟩
  f47 := Try.func79.trans (congrArg some (by kernel_rfl))
  f48 := Try.func80.trans (congrArg some (by kernel_rfl))
  f49 := ⟨Try.f81.name, by decide, Try.func81.trans (congrArg some (by kernel_rfl))⟩
  f50 := ⟨Try.f82.name, by decide, Try.func82.trans (congrArg some (by kernel_rfl))⟩
  f57 := ⟨Try.f92.name, by decide, Try.func92.trans (congrArg some (by kernel_rfl))⟩
  t0 := Try.underlying0
  a0 := Try.isAgg0
  z0 := Try.sizeOf0
  v0 := Try.zeroValue0
  t3 := Try.underlying3
  a3 := Try.isAgg3
  z3 := Try.sizeOf3
  v3 := Try.zeroValue3
  t4 := Try.underlying4
  a4 := Try.isAgg4
  z4 := Try.sizeOf4
  v4 := Try.zeroValue4
  t5 := Try.underlying5
  a5 := Try.isAgg5
  z5 := Try.sizeOf5
  v5 := Try.zeroValue5
  t9 := Try.underlying9
  a9 := Try.isAgg9
  z9 := Try.sizeOf9
  v9 := Try.zeroValue9
  t22 := Try.underlying38
  a22 := Try.isAgg38
  z22 := Try.sizeOf38
  v22 := Try.zeroValue38
  t25 := Try.underlying76
  a25 := Try.isAgg76
  z25 := Try.sizeOf76
  v25 := Try.zeroValue76
  t39 := Try.underlying100
  a39 := Try.isAgg100
  z39 := Try.sizeOf100
  v39 := Try.zeroValue100
  t45 := Try.underlying111
  a45 := Try.isAgg111
  z45 := Try.sizeOf111
  v45 := Try.zeroValue111
  t46 := Try.underlying112
  a46 := Try.isAgg112
  z46 := Try.sizeOf112
  v46 := Try.zeroValue112
  t50 := Try.underlying79
  a50 := Try.isAgg79
  z50 := Try.sizeOf79
  v50 := Try.zeroValue79
  t53 := Try.underlying118
  a53 := Try.isAgg118
  z53 := Try.sizeOf118
  v53 := Try.zeroValue118
  t55 := Try.underlying107
  a55 := Try.isAgg107
  z55 := Try.sizeOf107
  v55 := Try.zeroValue107
  t66 := Try.underlying122
  a66 := Try.isAgg122
  z66 := Try.sizeOf122
  v66 := Try.zeroValue122
  t70 := Try.underlying126
  a70 := Try.isAgg126
  z70 := Try.sizeOf126
  v70 := Try.zeroValue126
  t76 := Try.underlying134
  a76 := Try.isAgg134
  z76 := Try.sizeOf134
  v76 := Try.zeroValue134
  t77 := Try.underlying135
  a77 := Try.isAgg135
  z77 := Try.sizeOf135
  v77 := Try.zeroValue135 }
def Try.sort59_ren : Go.Shelf.Ren := ⟨fun | 6 => 59 | 15 => 54 | 14 => 76 | 28 => 73 | 29 => 74 | 20 => 83 | 21 => 84 | 22 => 85 | 23 => 86 | 24 => 87 | 25 => 88 | 26 => 89 | 27 => 90 | 46 => 93 | 47 => 79 | 48 => 80 | 49 => 94 | 50 => 95 | 57 => 96 | n => n, fun | 22 => 41 | 24 => 34 | 25 => 87 | 3 => 3 | 39 => 100 | 0 => 0 | 53 => 118 | 55 => 107 | 4 => 4 | 46 => 112 | 45 => 111 | 50 => 79 | 5 => 5 | 9 => 9 | 66 => 122 | 70 => 126 | 76 => 134 | 77 => 135 | n => n, fun | n => n⟩
theorem Try.sort59 : Go.Proofs.SlLaysF0.n6 Try.prog Try.sort59_ren := {
  mixed := by kernel_rfl
  f6 := ⟨Try.f59.name, by decide, Try.func59.trans (congrArg some (by kernel_rfl))⟩
  f14 := ⟨Try.f76.name, by decide, Try.func76.trans (congrArg some (by kernel_rfl))⟩
  f15 := Try.func54.trans (congrArg some (by kernel_rfl))
  f20 := ⟨Try.f83.name, by decide, Try.func83.trans (congrArg some (by kernel_rfl))⟩
  f21 := ⟨Try.f84.name, by decide, Try.func84.trans (congrArg some (by kernel_rfl))⟩
  f22 := ⟨Try.f85.name, by decide, Try.func85.trans (congrArg some (by kernel_rfl))⟩
  f23 := ⟨Try.f86.name, by decide, Try.func86.trans (congrArg some (by kernel_rfl))⟩
  f24 := ⟨Try.f87.name, by decide, Try.func87.trans (congrArg some (by kernel_rfl))⟩
  f25 := ⟨Try.f88.name, by decide, Try.func88.trans (congrArg some (by kernel_rfl))⟩
  f26 := ⟨Try.f89.name, by decide, Try.func89.trans (congrArg some (by kernel_rfl))⟩
  f27 := ⟨Try.f90.name, by decide, Try.func90.trans (congrArg some (by kernel_rfl))⟩
  f28 := Try.func73.trans (congrArg some (by kernel_rfl))
  f29 := Try.func74.trans (congrArg some (by kernel_rfl))
  f46 := ⟨Try.f93.name, by decide, Try.func93.trans (congrArg some (by kernel_rfl))⟩
  f47 := Try.func79.trans (congrArg some (by kernel_rfl))
  f48 := Try.func80.trans (congrArg some (by kernel_rfl))
  f49 := ⟨Try.f94.name, by decide, Try.func94.trans (congrArg some (by kernel_rfl))⟩
  f50 := ⟨Try.f95.name, by decide, Try.func95.trans (congrArg some (by kernel_rfl))⟩
  f57 := ⟨Try.f96.name, by decide, Try.func96.trans (congrArg some (by kernel_rfl))⟩
  t0 := Try.underlying0
  a0 := Try.isAgg0
  z0 := Try.sizeOf0
  v0 := Try.zeroValue0
  t3 := Try.underlying3
  a3 := Try.isAgg3
  z3 := Try.sizeOf3
  v3 := Try.zeroValue3
  t4 := Try.underlying4
  a4 := Try.isAgg4
  z4 := Try.sizeOf4
  v4 := Try.zeroValue4
  t5 := Try.underlying5
  a5 := Try.isAgg5
  z5 := Try.sizeOf5
  v5 := Try.zeroValue5
  t9 := Try.underlying9
  a9 := Try.isAgg9
  z9 := Try.sizeOf9
  v9 := Try.zeroValue9
  t22 := Try.underlying41
  a22 := Try.isAgg41
  z22 := Try.sizeOf41
  v22 := Try.zeroValue41
  t25 := Try.underlying87
  a25 := Try.isAgg87
  z25 := Try.sizeOf87
  v25 := Try.zeroValue87
  t39 := Try.underlying100
  a39 := Try.isAgg100
  z39 := Try.sizeOf100
  v39 := Try.zeroValue100
  t45 := Try.underlying111
  a45 := Try.isAgg111
  z45 := Try.sizeOf111
  v45 := Try.zeroValue111
  t46 := Try.underlying112
  a46 := Try.isAgg112
  z46 := Try.sizeOf112
  v46 := Try.zeroValue112
  t50 := Try.underlying79
  a50 := Try.isAgg79
  z50 := Try.sizeOf79
  v50 := Try.zeroValue79
  t53 := Try.underlying118
  a53 := Try.isAgg118
  z53 := Try.sizeOf118
  v53 := Try.zeroValue118
  t55 := Try.underlying107
  a55 := Try.isAgg107
  z55 := Try.sizeOf107
  v55 := Try.zeroValue107
  t66 := Try.underlying122
  a66 := Try.isAgg122
  z66 := Try.sizeOf122
  v66 := Try.zeroValue122
  t70 := Try.underlying126
  a70 := Try.isAgg126
  z70 := Try.sizeOf126
  v70 := Try.zeroValue126
  t76 := Try.underlying134
  a76 := Try.isAgg134
  z76 := Try.sizeOf134
  v76 := Try.zeroValue134
  t77 := Try.underlying135
  a77 := Try.isAgg135
  z77 := Try.sizeOf135
  v77 := Try.zeroValue135 }
end Go.Proofs
end
section
namespace Go.Proofs.Ytokambhemoeloaa.PA
open Go.RowKit Go.Proofs.YtokambhemoeloaaW.PrintWords Go.Proofs.YtokambhemoeloaaW.PrintLast Go.Proofs.YtokambhemoeloaaW.PrintMore
attribute [local go_sem] max2_int min2_int max_two min_two max_three min_three max_four min_four   -- for this text's walks alone
set_option linter.unusedVariables false
set_option linter.unusedSimpArgs false
def cmp_Or_int.l0 : Nat → Int → List Int → Int → Int → Option (Int)
  | 0, _, _, _, _ => none
  | k + 1, x3, x6, x7, x8 => if x8 < x7 then (if 0 ≤ x8 then (if x8 < (x6.length : Int) then (if (rd x6 x8) = x3 then (cmp_Or_int.l0 k x3 x6 x7 (wrap64 (x8 + 1))) else (some (rd x6 x8))) else (none)) else (none)) else (some x3)
def cmp_Or_int.f (k : Nat) (l0 : List Int) : Option (Int) := cmp_Or_int.l0 k 0 l0 (l0.length : Int) 0
theorem cmp_Or_int.mono_l : ∀ k, (∀ y0 y1 y2 y3, LeO (cmp_Or_int.l0 k y0 y1 y2 y3) (cmp_Or_int.l0 (k + 1) y0 y1 y2 y3))
  | 0 => fun _ _ _ _ r h => by simp [cmp_Or_int.l0] at h
  | k + 1 => by
    have ih0 := cmp_Or_int.mono_l k
    · intro y0 y1 y2 y3
      unfold cmp_Or_int.l0
      repeat' first
      | (with_reducible exact ih0 _ _ _ _)
      | (with_reducible exact LeO.refl _)
      | (with_reducible exact LeO.none _)
      | (with_reducible refine LeO.ite ?_ ?_)
      | (with_reducible refine LeO.bind ?_ (fun _ => ?_))
      | exact ih0 _ _ _ _
      | exact LeO.none _
      | refine LeO.ite ?_ ?_
      | refine LeO.bind ?_ (fun _ => ?_)
theorem cmp_Or_int.mono : ∀ a0 k, LeO (cmp_Or_int.f k a0) (cmp_Or_int.f (k + 1) a0) := by
  intro a0 k
  have ih0 := cmp_Or_int.mono_l k
  unfold cmp_Or_int.f
  repeat' first
      | (with_reducible exact ih0 _ _ _ _)
      | (with_reducible exact LeO.refl _)
      | (with_reducible exact LeO.none _)
      | (with_reducible refine LeO.ite ?_ ?_)
      | (with_reducible refine LeO.bind ?_ (fun _ => ?_))
      | exact ih0 _ _ _ _
      | exact LeO.none _
      | refine LeO.ite ?_ ?_
      | refine LeO.bind ?_ (fun _ => ?_)
set_option maxHeartbeats 8000000 in
set_option maxRecDepth 100000 in
theorem cmp_Or_int.calls (k : Nat) (A0 : Option Addr) (c0 : Nat) (l0 : List Int) (r : Int) (w : World) (hr0 : Kd.C (Kd.int .i64) w A0 l0.length l0) (hc0 : l0.length ≤ c0) (h : cmp_Or_int.f k l0 = some r) :
    Calls Try.prog 55 #[.slice A0 l0.length c0] w fun e w' => e = .returned (.int .i64 r) ∧ Drawn0 w w' := by
  have HR0 := Aside0.mk hr0
  have HC0 := Aside0.mk hc0
  clear hr0 hc0
  have H : (cmp_Or_int.l0 k 0 l0 (l0.length : Int) 0) = some r := h
  clear h
  have H' := Aside0.mk H
  clear H
  go_enter Try.func55, Try.ntmps55
  go_wp2
  go_loopg [8] k (fun kq v8 w' => ∃ (x8_1 : Int), v8 = .int .i64 x8_1 ∧ Aside0 (cmp_Or_int.l0 kq 0 l0 (l0.length : Int) x8_1 = some r) ∧ Aside0 (kq ≤ k) ∧ Drawn0 w w')
  case atStart => exact ⟨(0), (by first | rfl | (simp; done) | (simp [*]; done)), H', ⟨Nat.le_refl _⟩, by repeat (first | exact Drawn0.refl _ | apply Drawn0.step)⟩
  case round =>
    clear H'
    obtain ⟨x8_1, rfl, HA, HK1, ⟨m1, rfl⟩⟩ := hrel
    cases gk with
    | zero => exact absurd HA.out (by simp [cmp_Or_int.l0])
    | succ k1 =>
      have H := HA.out
      clear HA
      simp only [cmp_Or_int.l0] at H
      by_cases c2 : x8_1 < (l0.length : Int)
      · rw [if_pos c2] at H
        have c2b0 : decide (x8_1 < (l0.length : Int)) = true := decide_eq_true c2
        clear c2
        by_cases c3 : 0 ≤ x8_1
        · rw [if_pos c3] at H
          have c3b0 : decide (0 ≤ x8_1) = true := decide_eq_true c3
          clear c3
          by_cases c4 : x8_1 < (l0.length : Int)
          · rw [if_pos c4] at H
            have c4b0 : decide (x8_1 < (l0.length : Int)) = true := decide_eq_true c4
            clear c4
            by_cases c5 : (rd l0 x8_1) = 0
            · rw [if_pos c5] at H
              have c5b0 : ((rd l0 x8_1) == 0) = true := beq_iff_eq.mpr c5
              have c5b1 : ((rd l0 x8_1) != 0) = false := bne_eq_false_iff_eq.mpr c5
              clear c5
              have H' := Aside0.mk H
              clear H
              have p158 : 0 ≤ (x8_1 : Int) := of_decide_eq_true (by first | (with_reducible assumption) | assumption)
              have q158 : x8_1 < (l0.length : Int) := of_decide_eq_true (by first | (with_reducible assumption) | assumption)
              obtain ⟨ad158, e158, hx158_0⟩ := Kd.at_int HR0.out x8_1 p158 q158
              cases e158
              replace p158 := eq_true p158
              replace q158 := eq_true q158
              go_wp2
              go_roundg k1
              case measure => have := HK1.out; omega
              case rel => exact ⟨(wrap64 (x8_1 + 1)), (by first | rfl | (simp; done) | (simp [*]; done)), H', ⟨by have := HK1.out; omega⟩, by repeat (first | exact Drawn0.refl _ | apply Drawn0.step)⟩
            · rw [if_neg c5] at H
              have c5b0 : ((rd l0 x8_1) == 0) = false := beq_eq_false_iff_ne.mpr c5
              have c5b1 : ((rd l0 x8_1) != 0) = true := bne_iff_ne.mpr c5
              obtain rfl := Option.some.inj H
              have p158 : 0 ≤ (x8_1 : Int) := of_decide_eq_true (by first | (with_reducible assumption) | assumption)
              have q158 : x8_1 < (l0.length : Int) := of_decide_eq_true (by first | (with_reducible assumption) | assumption)
              obtain ⟨ad158, e158, hx158_0⟩ := Kd.at_int HR0.out x8_1 p158 q158
              cases e158
              replace p158 := eq_true p158
              replace q158 := eq_true q158
              go_wp2
              go_ret
              exact ⟨by first | rfl | (simp; done) | (simp [*]; done), by repeat (first | exact Drawn0.refl _ | apply Drawn0.step)⟩
          · rw [if_neg c4] at H
            exact absurd H (by simp)
        · rw [if_neg c3] at H
          exact absurd H (by simp)
      · rw [if_neg c2] at H
        have c2b0 : decide (x8_1 < (l0.length : Int)) = false := decide_eq_false c2
        clear c2
        obtain rfl := Option.some.inj H
        go_wp2
        go_ret
        exact ⟨by first | rfl | (simp; done) | (simp [*]; done), by repeat (first | exact Drawn0.refl _ | apply Drawn0.step)⟩
end Go.Proofs.Ytokambhemoeloaa.PA
end
section
namespace Go.Proofs.Ytokambhemoeloaa.PA
open Go.RowKit Go.Proofs.YtokambhemoeloaaW.PrintWords Go.Proofs.YtokambhemoeloaaW.PrintLast Go.Proofs.YtokambhemoeloaaW.PrintMore
attribute [local go_sem] max2_int min2_int max_two min_two max_three min_three max_four min_four   -- for this text's walks alone
set_option linter.unusedVariables false
set_option linter.unusedSimpArgs false
def cmp_isNaN_int.f (a0 : Int) : Option (Bool) := some (a0 != a0)
set_option maxHeartbeats 8000000 in
set_option maxRecDepth 100000 in
theorem cmp_isNaN_int.calls (a0 : Int) (r : Bool) (w : World) (h : cmp_isNaN_int.f a0 = some r) :
    Calls Try.prog 75 #[.int .i64 a0] w fun e w' => e = .returned (.bool r) ∧ Drawn0 w w' := by
  have H : (some (a0 != a0)) = some r := h
  clear h
  obtain rfl := Option.some.inj H
  go_enter Try.func75, Try.ntmps75
  go_wp2
  go_ret
  exact ⟨by first | rfl | (simp; done) | (simp [*]; done), by repeat (first | exact Drawn0.refl _ | apply Drawn0.step)⟩
end Go.Proofs.Ytokambhemoeloaa.PA
end
section
namespace Go.Proofs.Ytokambhemoeloaa.PA
open Go.RowKit Go.Proofs.YtokambhemoeloaaW.PrintWords Go.Proofs.YtokambhemoeloaaW.PrintLast Go.Proofs.YtokambhemoeloaaW.PrintMore
attribute [local go_sem] max2_int min2_int max_two min_two max_three min_three max_four min_four   -- for this text's walks alone
set_option linter.unusedVariables false
set_option linter.unusedSimpArgs false
def cmp_Compare_int.f (a0 : Int) (a1 : Int) : Option (Int) := (cmp_isNaN_int.f a0).bind fun t159 => ((cmp_isNaN_int.f a1).bind fun t160 => (if t159 = true then (if t160 = true then (some 0) else (some (-1))) else (if t160 = true then (some 1) else (if a0 < a1 then (some (-1)) else (if a0 > a1 then (some 1) else (some 0))))))
set_option maxHeartbeats 8000000 in
set_option maxRecDepth 100000 in
theorem cmp_Compare_int.calls (a0 : Int) (a1 : Int) (r : Int) (w : World) (h : cmp_Compare_int.f a0 a1 = some r) :
    Calls Try.prog 56 #[.int .i64 a0, .int .i64 a1] w fun e w' => e = .returned (.int .i64 r) ∧ Drawn0 w w' := by
  have H : ((cmp_isNaN_int.f a0).bind fun t159 => ((cmp_isNaN_int.f a1).bind fun t160 => (if t159 = true then (if t160 = true then (some 0) else (some (-1))) else (if t160 = true then (some 1) else (if a0 < a1 then (some (-1)) else (if a0 > a1 then (some 1) else (some 0))))))) = some r := h
  clear h
  replace H := Option.bind_eq_some_iff.mp H
  obtain ⟨t159, A30, H⟩ := H
  replace H : ((cmp_isNaN_int.f a1).bind fun t160 => (if t159 = true then (if t160 = true then (some 0) else (some (-1))) else (if t160 = true then (some 1) else (if a0 < a1 then (some (-1)) else (if a0 > a1 then (some 1) else (some 0)))))) = some r := H
  have A3 := Aside0.mk A30
  clear A30
  replace H := Option.bind_eq_some_iff.mp H
  obtain ⟨t160, A40, H⟩ := H
  replace H : (if t159 = true then (if t160 = true then (some 0) else (some (-1))) else (if t160 = true then (some 1) else (if a0 < a1 then (some (-1)) else (if a0 > a1 then (some 1) else (some 0))))) = some r := H
  have A4 := Aside0.mk A40
  clear A40
  by_cases c5 : t159 = true
  · subst c5
    have H1 : (if t160 = true then (some 0) else (some (-1))) = some r := by rw [if_pos rfl] at H; exact H
    clear H
    have H := H1
    clear H1
    by_cases c6 : t160 = true
    · subst c6
      have H1 : (some 0) = some r := by rw [if_pos rfl] at H; exact H
      clear H
      have H := H1
      clear H1
      obtain rfl := Option.some.inj H
      go_enter Try.func56, Try.ntmps56
      go_wp2_with (first | ((with_reducible refine gate_callee (f := 75) rfl ?_); refine goesL_ (some 8) rfl rfl Try.func75 (by kernel_rfl) rfl #[.int .i64 a0] rfl (by (try simp only [List.map_toArray, List.map_cons, List.map_nil]); first | done | rfl | (simp only [List.length_drop, List.length_take]; rfl)) ?_; (with_reducible refine (cmp_isNaN_int.calls a0 true _ A3.out).mono ?_); rintro e w' ⟨rfl, ⟨nd, rfl⟩⟩; refine ⟨_, rfl, ?_⟩) | ((with_reducible refine gate_callee (f := 75) rfl ?_); refine goesL_ (some 10) rfl rfl Try.func75 (by kernel_rfl) rfl #[.int .i64 a1] rfl (by (try simp only [List.map_toArray, List.map_cons, List.map_nil]); first | done | rfl | (simp only [List.length_drop, List.length_take]; rfl)) ?_; (with_reducible refine (cmp_isNaN_int.calls a1 true _ A4.out).mono ?_); rintro e w' ⟨rfl, ⟨nd, rfl⟩⟩; refine ⟨_, rfl, ?_⟩))
      go_ret
      exact ⟨by first | rfl | (simp; done) | (simp [*]; done), by repeat (first | exact Drawn0.refl _ | apply Drawn0.step)⟩
    · replace c6 := Bool.eq_false_iff.mpr c6
      subst c6
      have H1 : (some (-1)) = some r := by rw [if_neg (show ¬ (false = true) by decide)] at H; exact H
      clear H
      have H := H1
      clear H1
      obtain rfl := Option.some.inj H
      go_enter Try.func56, Try.ntmps56
      go_wp2_with (first | ((with_reducible refine gate_callee (f := 75) rfl ?_); refine goesL_ (some 8) rfl rfl Try.func75 (by kernel_rfl) rfl #[.int .i64 a0] rfl (by (try simp only [List.map_toArray, List.map_cons, List.map_nil]); first | done | rfl | (simp only [List.length_drop, List.length_take]; rfl)) ?_; (with_reducible refine (cmp_isNaN_int.calls a0 true _ A3.out).mono ?_); rintro e w' ⟨rfl, ⟨nd, rfl⟩⟩; refine ⟨_, rfl, ?_⟩) | ((with_reducible refine gate_callee (f := 75) rfl ?_); refine goesL_ (some 10) rfl rfl Try.func75 (by kernel_rfl) rfl #[.int .i64 a1] rfl (by (try simp only [List.map_toArray, List.map_cons, List.map_nil]); first | done | rfl | (simp only [List.length_drop, List.length_take]; rfl)) ?_; (with_reducible refine (cmp_isNaN_int.calls a1 false _ A4.out).mono ?_); rintro e w' ⟨rfl, ⟨nd, rfl⟩⟩; refine ⟨_, rfl, ?_⟩))
      go_ret
      exact ⟨by first | rfl | (simp; done) | (simp [*]; done), by repeat (first | exact Drawn0.refl _ | apply Drawn0.step)⟩
  · replace c5 := Bool.eq_false_iff.mpr c5
    subst c5
    have H1 : (if t160 = true then (some 1) else (if a0 < a1 then (some (-1)) else (if a0 > a1 then (some 1) else (some 0)))) = some r := by rw [if_neg (show ¬ (false = true) by decide)] at H; exact H
    clear H
    have H := H1
    clear H1
    by_cases c7 : t160 = true
    · subst c7
      have H1 : (some 1) = some r := by rw [if_pos rfl] at H; exact H
      clear H
      have H := H1
      clear H1
      obtain rfl := Option.some.inj H
      go_enter Try.func56, Try.ntmps56
      go_wp2_with (first | ((with_reducible refine gate_callee (f := 75) rfl ?_); refine goesL_ (some 8) rfl rfl Try.func75 (by kernel_rfl) rfl #[.int .i64 a0] rfl (by (try simp only [List.map_toArray, List.map_cons, List.map_nil]); first | done | rfl | (simp only [List.length_drop, List.length_take]; rfl)) ?_; (with_reducible refine (cmp_isNaN_int.calls a0 false _ A3.out).mono ?_); rintro e w' ⟨rfl, ⟨nd, rfl⟩⟩; refine ⟨_, rfl, ?_⟩) | ((with_reducible refine gate_callee (f := 75) rfl ?_); refine goesL_ (some 10) rfl rfl Try.func75 (by kernel_rfl) rfl #[.int .i64 a1] rfl (by (try simp only [List.map_toArray, List.map_cons, List.map_nil]); first | done | rfl | (simp only [List.length_drop, List.length_take]; rfl)) ?_; (with_reducible refine (cmp_isNaN_int.calls a1 true _ A4.out).mono ?_); rintro e w' ⟨rfl, ⟨nd, rfl⟩⟩; refine ⟨_, rfl, ?_⟩))
      go_ret
      exact ⟨by first | rfl | (simp; done) | (simp [*]; done), by repeat (first | exact Drawn0.refl _ | apply Drawn0.step)⟩
    · replace c7 := Bool.eq_false_iff.mpr c7
      subst c7
      have H1 : (if a0 < a1 then (some (-1)) else (if a0 > a1 then (some 1) else (some 0))) = some r := by rw [if_neg (show ¬ (false = true) by decide)] at H; exact H
      clear H
      have H := H1
      clear H1
      by_cases c8 : a0 < a1
      · rw [if_pos c8] at H
        have c8b0 : decide (a0 < a1) = true := decide_eq_true c8
        clear c8
        obtain rfl := Option.some.inj H
        go_enter Try.func56, Try.ntmps56
        go_wp2_with (first | ((with_reducible refine gate_callee (f := 75) rfl ?_); refine goesL_ (some 8) rfl rfl Try.func75 (by kernel_rfl) rfl #[.int .i64 a0] rfl (by (try simp only [List.map_toArray, List.map_cons, List.map_nil]); first | done | rfl | (simp only [List.length_drop, List.length_take]; rfl)) ?_; (with_reducible refine (cmp_isNaN_int.calls a0 false _ A3.out).mono ?_); rintro e w' ⟨rfl, ⟨nd, rfl⟩⟩; refine ⟨_, rfl, ?_⟩) | ((with_reducible refine gate_callee (f := 75) rfl ?_); refine goesL_ (some 10) rfl rfl Try.func75 (by kernel_rfl) rfl #[.int .i64 a1] rfl (by (try simp only [List.map_toArray, List.map_cons, List.map_nil]); first | done | rfl | (simp only [List.length_drop, List.length_take]; rfl)) ?_; (with_reducible refine (cmp_isNaN_int.calls a1 false _ A4.out).mono ?_); rintro e w' ⟨rfl, ⟨nd, rfl⟩⟩; refine ⟨_, rfl, ?_⟩))
        go_ret
        exact ⟨by first | rfl | (simp; done) | (simp [*]; done), by repeat (first | exact Drawn0.refl _ | apply Drawn0.step)⟩
      · rw [if_neg c8] at H
        have c8b0 : decide (a0 < a1) = false := decide_eq_false c8
        clear c8
        by_cases c9 : a0 > a1
        · rw [if_pos c9] at H
          have c9b0 : decide (a1 < a0) = true := decide_eq_true c9
          clear c9
          obtain rfl := Option.some.inj H
          go_enter Try.func56, Try.ntmps56
          go_wp2_with (first | ((with_reducible refine gate_callee (f := 75) rfl ?_); refine goesL_ (some 8) rfl rfl Try.func75 (by kernel_rfl) rfl #[.int .i64 a0] rfl (by (try simp only [List.map_toArray, List.map_cons, List.map_nil]); first | done | rfl | (simp only [List.length_drop, List.length_take]; rfl)) ?_; (with_reducible refine (cmp_isNaN_int.calls a0 false _ A3.out).mono ?_); rintro e w' ⟨rfl, ⟨nd, rfl⟩⟩; refine ⟨_, rfl, ?_⟩) | ((with_reducible refine gate_callee (f := 75) rfl ?_); refine goesL_ (some 10) rfl rfl Try.func75 (by kernel_rfl) rfl #[.int .i64 a1] rfl (by (try simp only [List.map_toArray, List.map_cons, List.map_nil]); first | done | rfl | (simp only [List.length_drop, List.length_take]; rfl)) ?_; (with_reducible refine (cmp_isNaN_int.calls a1 false _ A4.out).mono ?_); rintro e w' ⟨rfl, ⟨nd, rfl⟩⟩; refine ⟨_, rfl, ?_⟩))
          go_ret
          exact ⟨by first | rfl | (simp; done) | (simp [*]; done), by repeat (first | exact Drawn0.refl _ | apply Drawn0.step)⟩
        · rw [if_neg c9] at H
          have c9b0 : decide (a1 < a0) = false := decide_eq_false c9
          clear c9
          obtain rfl := Option.some.inj H
          go_enter Try.func56, Try.ntmps56
          go_wp2_with (first | ((with_reducible refine gate_callee (f := 75) rfl ?_); refine goesL_ (some 8) rfl rfl Try.func75 (by kernel_rfl) rfl #[.int .i64 a0] rfl (by (try simp only [List.map_toArray, List.map_cons, List.map_nil]); first | done | rfl | (simp only [List.length_drop, List.length_take]; rfl)) ?_; (with_reducible refine (cmp_isNaN_int.calls a0 false _ A3.out).mono ?_); rintro e w' ⟨rfl, ⟨nd, rfl⟩⟩; refine ⟨_, rfl, ?_⟩) | ((with_reducible refine gate_callee (f := 75) rfl ?_); refine goesL_ (some 10) rfl rfl Try.func75 (by kernel_rfl) rfl #[.int .i64 a1] rfl (by (try simp only [List.map_toArray, List.map_cons, List.map_nil]); first | done | rfl | (simp only [List.length_drop, List.length_take]; rfl)) ?_; (with_reducible refine (cmp_isNaN_int.calls a1 false _ A4.out).mono ?_); rintro e w' ⟨rfl, ⟨nd, rfl⟩⟩; refine ⟨_, rfl, ?_⟩))
          go_ret
          exact ⟨by first | rfl | (simp; done) | (simp [*]; done), by repeat (first | exact Drawn0.refl _ | apply Drawn0.step)⟩
end Go.Proofs.Ytokambhemoeloaa.PA
end
section
namespace Go.Proofs.Ytokambhemoeloaa.G
open Go.RowKit Go.Proofs.YtokambhemoeloaaW.PrintWords Go.Proofs.YtokambhemoeloaaW.PrintLast Go.Proofs.YtokambhemoeloaaW.PrintMore Go.Proofs.Ytokambhemoeloaa.PA
open Go.Proofs.Ytokambhemoeloaa.Reg
set_option linter.unusedVariables false
def cmpI (a b : Int) : Int := if a < b then -1 else if b < a then 1 else 0
theorem Compare_calls (a b : Int) (w : World) : Calls Try.prog 56 #[.int .i64 a, .int .i64 b] w fun e w' => e = .returned (.int .i64 (cmpI a b)) ∧ ∃ n, w' = w.drewN n := by
  refine (cmp_Compare_int.calls a b (cmpI a b) w ?_).mono (fun e w' ⟨h1, h2⟩ => ⟨h1, h2.out⟩)
  unfold cmp_Compare_int.f cmp_isNaN_int.f cmpI
  simp only [bne_self_eq_false, Option.bind_some, Bool.false_eq_true, if_false]
  by_cases h1 : a < b
  · simp [h1]
  · by_cases h2 : b < a <;> simp [h1, h2]
def orI : List Int → Int
  | [] => 0
  | x :: l => if x = 0 then orI l else x
theorem or3 (a b c : Int) : cmp_Or_int.f 5 [a, b, c] = some (orI [a, b, c]) := by
  have w1 : wrap64 1 = 1 := by unfold wrap64; omega
  have w2 : wrap64 2 = 2 := by unfold wrap64; omega
  have w3 : wrap64 3 = 3 := by unfold wrap64; omega
  by_cases ha : a = 0 <;> by_cases hb : b = 0 <;> by_cases hc : c = 0 <;> simp [cmp_Or_int.f, cmp_Or_int.l0, orI, rd, ha, hb, hc, w1, w2, w3]
def keysI (x y : S34) : Int := orI [cmpI x.f0 y.f0, cmpI x.f2 y.f2, cmpI x.f1 y.f1]
def compI (x y : S51) : Int := orI [cmpI x.f0 y.f0, cmpI x.f1 y.f1, keysI x.f2 y.f2]
theorem Or_calls (a b c : Int) (w : World) (A : Option Addr) (hC : Kd.C (Kd.int .i64) w A 3 [a, b, c]) : Calls Try.prog 55 #[.slice A 3 3] w fun e w' => e = .returned (.int .i64 (orI [a, b, c])) ∧ ∃ n, w' = w.drewN n :=
  (cmp_Or_int.calls 5 A 3 [a, b, c] _ w hC (by simp) (or3 a b c)).mono (fun e w' ⟨h1, h2⟩ => ⟨h1, h2.out⟩)
theorem C_three' (w : World) (t : Nat) (a b c : Int) : Kd.C (Kd.int .i64) (w.alloc (.cells #[.int .i64 a, .int .i64 b, .int .i64 c] t)) (some ⟨w.heap.size, 0, none⟩) 3 [a, b, c] := by
  refine ⟨rfl, by omega, fun _ => ⟨_, rfl, fun j p hj => ⟨[.int .i64 p], rfl, rfl, fun i u hu => ?_⟩⟩⟩
  have hcell : ∀ k v, (#[Value.int .i64 a, .int .i64 b, .int .i64 c] : Array Value)[k]? = some v → (w.alloc (.cells #[.int .i64 a, .int .i64 b, .int .i64 c] t)).cell? ⟨w.heap.size, k, none⟩ = some v := by
    intro k v hk
    have : (w.alloc (.cells #[.int .i64 a, .int .i64 b, .int .i64 c] t)).heap[w.heap.size]? = some (.cells #[.int .i64 a, .int .i64 b, .int .i64 c] t) := by show (w.heap.push _)[w.heap.size]? = _; simp
    rw [World.cell?, this]; simpa using hk
  rw [add_plain]
  match j, hj, i, hu with
  | 0, hj, 0, hu => simp at hj hu; subst hj hu; exact hcell 0 _ rfl
  | 1, hj, 0, hu => simp at hj hu; subst hj hu; exact hcell 1 _ rfl
  | 2, hj, 0, hu => simp at hj hu; subst hj hu; exact hcell 2 _ rfl
  | j + 3, hj, _, _ => simp at hj
  | _, _, i + 1, hu => simp at hu
theorem C_three (w : World) (t : Nat) (a b c : Int) (g : Nat) (hg : w.heap.size = g) : Kd.C (Kd.int .i64) (w.alloc (.cells #[.int .i64 a, .int .i64 b, .int .i64 c] t)) (some ⟨g, 0, none⟩) 3 [a, b, c] := by
  subst hg; exact C_three' w t a b c
open Go.Sort (grow grow_grow alloc_eq_grow)
theorem grow_drewN (w : World) (os : Array Obj) (n : Nat) : (grow w os).drewN n = grow (w.drewN n) os := rfl
set_option maxRecDepth 100000 in
theorem keys_calls (x y : S34) (w : World) : Calls Try.prog 45 #[encK x, encK y] w fun e w' => e = .returned (.int .i64 (keysI x y)) ∧ ∃ q os, w' = grow (w.drewN q) os := by
  unfold keysI
  show Calls Try.prog 45 #[.agg #[.int .i64 x.f0, .int .i64 x.f1, .int .i64 x.f2], .agg #[.int .i64 y.f0, .int .i64 y.f1, .int .i64 y.f2]] w _
  go_enter Try.func45, Try.ntmps45
  go_wp2
  refine wp_region_quiet_tail (C := fun w' => ∃ n, w' = ((w.alloc (.cells #[.int .i64 x.f0, .int .i64 x.f1, .int .i64 x.f2] 34)).alloc (.cells #[.int .i64 y.f0, .int .i64 y.f1, .int .i64 y.f2] 34)).drewN n) 15 (by kernel_rfl) (by kernel_rfl) ⟨1, rfl⟩ ?_
  simp only [List.take_succ_cons, List.take_zero, List.drop_succ_cons, List.drop_zero]
  repeat (quiet_step (exact Calls.quiet_of (Compare_calls _ _ _)))
  refine wpQuiet_nil ?_
  rintro _ ⟨nq, rfl⟩
  go_wp2_with fail
  refine (Or_calls _ _ _ _ _ (C_three _ _ _ _ _ _ (by simp))).mono ?_
  rintro e w1 ⟨rfl, n2, rfl⟩
  go_wp2
  go_ret
  exact ⟨rfl, _, _, by simp only [alloc_eq_grow, grow_grow, grow_drewN, World.drewN_drewN]; rfl⟩
theorem box_cell (w : World) (cs : Array Value) (t k : Nat) (v : Value) (h : cs[k]? = some v) (g : Nat) (hg : w.heap.size = g) (n : Nat) (os : Array Obj) : (grow ((w.alloc (.cells cs t)).drewN n) os).cell? ⟨g, k, none⟩ = some v := by
  subst hg
  have : (w.alloc (.cells cs t)).heap[w.heap.size]? = some (.cells cs t) := by show (w.heap.push _)[w.heap.size]? = _; simp
  refine cell_grown (by simp) ?_ n os
  rw [World.cell?, this]; simpa using h
theorem box_cell2 (w : World) (cs : Array Value) (t k : Nat) (v : Value) (h : cs[k]? = some v) (g : Nat) (hg : w.heap.size = g) (o : Obj) (n : Nat) (os : Array Obj) : (grow (((w.alloc (.cells cs t)).alloc o).drewN n) os).cell? ⟨g, k, none⟩ = some v := by
  subst hg
  have : ((w.alloc (.cells cs t)).alloc o).heap[w.heap.size]? = some (.cells cs t) := by
    rw [Below.heap_alloc _ _ _ (by simp)]
    show (w.heap.push _)[w.heap.size]? = _; simp
  refine cell_grown (by simp; omega) ?_ n os
  rw [World.cell?, this]; simpa using h
set_option maxRecDepth 100000 in
theorem compare_calls (x y : S51) (w : World) : Calls Try.prog 37 #[encD x, encD y] w fun e w' => e = .returned (.int .i64 (compI x y)) ∧ ∃ q os, w' = grow (w.drewN q) os := by
  unfold compI
  show Calls Try.prog 37 #[.agg #[.int .i64 x.f0, .int .i64 x.f1, .int .i64 x.f2.f0, .int .i64 x.f2.f1, .int .i64 x.f2.f2], .agg #[.int .i64 y.f0, .int .i64 y.f1, .int .i64 y.f2.f0, .int .i64 y.f2.f1, .int .i64 y.f2.f2]] w _
  have b0 := fun n os => box_cell2 w #[.int .i64 x.f0, .int .i64 x.f1, .int .i64 x.f2.f0, .int .i64 x.f2.f1, .int .i64 x.f2.f2] 51 0 (.int .i64 x.f0) rfl w.heap.size rfl (.cells #[.int .i64 y.f0, .int .i64 y.f1, .int .i64 y.f2.f0, .int .i64 y.f2.f1, .int .i64 y.f2.f2] 51) n os
  have b1 := fun n os => box_cell2 w #[.int .i64 x.f0, .int .i64 x.f1, .int .i64 x.f2.f0, .int .i64 x.f2.f1, .int .i64 x.f2.f2] 51 1 (.int .i64 x.f1) rfl w.heap.size rfl (.cells #[.int .i64 y.f0, .int .i64 y.f1, .int .i64 y.f2.f0, .int .i64 y.f2.f1, .int .i64 y.f2.f2] 51) n os
  have b2 := fun n os => box_cell2 w #[.int .i64 x.f0, .int .i64 x.f1, .int .i64 x.f2.f0, .int .i64 x.f2.f1, .int .i64 x.f2.f2] 51 2 (.int .i64 x.f2.f0) rfl w.heap.size rfl (.cells #[.int .i64 y.f0, .int .i64 y.f1, .int .i64 y.f2.f0, .int .i64 y.f2.f1, .int .i64 y.f2.f2] 51) n os
  have b3 := fun n os => box_cell2 w #[.int .i64 x.f0, .int .i64 x.f1, .int .i64 x.f2.f0, .int .i64 x.f2.f1, .int .i64 x.f2.f2] 51 3 (.int .i64 x.f2.f1) rfl w.heap.size rfl (.cells #[.int .i64 y.f0, .int .i64 y.f1, .int .i64 y.f2.f0, .int .i64 y.f2.f1, .int .i64 y.f2.f2] 51) n os
  have b4 := fun n os => box_cell2 w #[.int .i64 x.f0, .int .i64 x.f1, .int .i64 x.f2.f0, .int .i64 x.f2.f1, .int .i64 x.f2.f2] 51 4 (.int .i64 x.f2.f2) rfl w.heap.size rfl (.cells #[.int .i64 y.f0, .int .i64 y.f1, .int .i64 y.f2.f0, .int .i64 y.f2.f1, .int .i64 y.f2.f2] 51) n os
  have a0 := fun n os => box_cell (w.alloc (.cells #[.int .i64 x.f0, .int .i64 x.f1, .int .i64 x.f2.f0, .int .i64 x.f2.f1, .int .i64 x.f2.f2] 51)) #[.int .i64 y.f0, .int .i64 y.f1, .int .i64 y.f2.f0, .int .i64 y.f2.f1, .int .i64 y.f2.f2] 51 0 (.int .i64 y.f0) rfl (w.heap.size + 1) (by simp) n os
  have a1 := fun n os => box_cell (w.alloc (.cells #[.int .i64 x.f0, .int .i64 x.f1, .int .i64 x.f2.f0, .int .i64 x.f2.f1, .int .i64 x.f2.f2] 51)) #[.int .i64 y.f0, .int .i64 y.f1, .int .i64 y.f2.f0, .int .i64 y.f2.f1, .int .i64 y.f2.f2] 51 1 (.int .i64 y.f1) rfl (w.heap.size + 1) (by simp) n os
  have a2 := fun n os => box_cell (w.alloc (.cells #[.int .i64 x.f0, .int .i64 x.f1, .int .i64 x.f2.f0, .int .i64 x.f2.f1, .int .i64 x.f2.f2] 51)) #[.int .i64 y.f0, .int .i64 y.f1, .int .i64 y.f2.f0, .int .i64 y.f2.f1, .int .i64 y.f2.f2] 51 2 (.int .i64 y.f2.f0) rfl (w.heap.size + 1) (by simp) n os
  have a3 := fun n os => box_cell (w.alloc (.cells #[.int .i64 x.f0, .int .i64 x.f1, .int .i64 x.f2.f0, .int .i64 x.f2.f1, .int .i64 x.f2.f2] 51)) #[.int .i64 y.f0, .int .i64 y.f1, .int .i64 y.f2.f0, .int .i64 y.f2.f1, .int .i64 y.f2.f2] 51 3 (.int .i64 y.f2.f1) rfl (w.heap.size + 1) (by simp) n os
  have a4 := fun n os => box_cell (w.alloc (.cells #[.int .i64 x.f0, .int .i64 x.f1, .int .i64 x.f2.f0, .int .i64 x.f2.f1, .int .i64 x.f2.f2] 51)) #[.int .i64 y.f0, .int .i64 y.f1, .int .i64 y.f2.f0, .int .i64 y.f2.f1, .int .i64 y.f2.f2] 51 4 (.int .i64 y.f2.f2) rfl (w.heap.size + 1) (by simp) n os
  have hK : ∀ W, Calls Try.prog 45 #[.agg #[.int .i64 x.f2.f0, .int .i64 x.f2.f1, .int .i64 x.f2.f2], .agg #[.int .i64 y.f2.f0, .int .i64 y.f2.f1, .int .i64 y.f2.f2]] W fun e w' => e = .returned (.int .i64 (keysI x.f2 y.f2)) ∧ ∃ q os, w' = grow (W.drewN q) os := fun W => keys_calls x.f2 y.f2 W
  generalize keysI x.f2 y.f2 = r2 at *
  go_enter Try.func37, Try.ntmps37
  go_wp2
  refine wp_region_quiet_tail (C := fun w' => ∃ p : GrownBy, w' = grow (((w.alloc (.cells #[.int .i64 x.f0, .int .i64 x.f1, .int .i64 x.f2.f0, .int .i64 x.f2.f1, .int .i64 x.f2.f2] 51)).alloc (.cells #[.int .i64 y.f0, .int .i64 y.f1, .int .i64 y.f2.f0, .int .i64 y.f2.f1, .int .i64 y.f2.f2] 51)).drewN p.n) p.os) 15 (by kernel_rfl) (by kernel_rfl) ⟨⟨1, #[]⟩, by rw [Go.Sort.grow_empty]; rfl⟩ ?_
  simp only [List.take_succ_cons, List.take_zero, List.drop_succ_cons, List.drop_zero]
  repeat (quiet_step (first | (refine Calls.grown_of ((Compare_calls _ _ _).mono (fun _ _ h => ⟨h.1, ?_⟩)); obtain ⟨n, hn⟩ := h.2; exact ⟨n, #[], by rw [Go.Sort.grow_empty]; exact hn⟩) | exact Calls.grown_of (hK _)))
  refine wpQuiet_nil ?_
  rintro _ ⟨⟨nq, osq⟩, rfl⟩
  clear a0 a1 a2 a3 a4 b0 b1 b2 b3 b4 hK
  go_wp2_with fail
  refine (Or_calls _ _ _ _ _ (C_three _ _ _ _ _ _ (by simp [grow]))).mono ?_
  rintro e w1 ⟨rfl, n2, rfl⟩
  go_wp2
  go_ret
  exact ⟨rfl, _, _, by simp only [alloc_eq_grow, grow_grow, grow_drewN, World.drewN_drewN]; rfl⟩
end Go.Proofs.Ytokambhemoeloaa.G
end
section
namespace Go.Proofs.Ytokambhemoeloaa.G
open Go.RowKit Go.Proofs.YtokambhemoeloaaW.PrintWords Go.Proofs.YtokambhemoeloaaW.PrintLast Go.Proofs.YtokambhemoeloaaW.PrintMore Go.Proofs.Ytokambhemoeloaa.PA
open Go.Proofs.Ytokambhemoeloaa.Sr Go.Sort Go.Shelf
set_option linter.unusedVariables false
def ltK (x y : S34) : Prop := x.f0 < y.f0 ∨ (x.f0 = y.f0 ∧ (x.f2 < y.f2 ∨ (x.f2 = y.f2 ∧ x.f1 < y.f1)))
def ltD (x y : S51) : Prop := x.f0 < y.f0 ∨ (x.f0 = y.f0 ∧ (x.f1 < y.f1 ∨ (x.f1 = y.f1 ∧ ltK x.f2 y.f2)))
theorem cmpI_cases (a b : Int) : (a < b ∧ cmpI a b = -1) ∨ (a = b ∧ cmpI a b = 0) ∨ (b < a ∧ cmpI a b = 1) := by
  unfold cmpI; split
  · exact .inl ⟨by assumption, rfl⟩
  · split
    · exact .inr (.inr ⟨by assumption, rfl⟩)
    · exact .inr (.inl ⟨by omega, rfl⟩)
theorem keysI_cases (x y : S34) : (ltK x y ∧ keysI x y = -1) ∨ (x = y ∧ keysI x y = 0) ∨ (ltK y x ∧ keysI x y = 1) := by
  unfold keysI ltK
  rcases cmpI_cases x.f0 y.f0 with ⟨h, e⟩ | ⟨h, e⟩ | ⟨h, e⟩ <;> rw [e]
  · left; simp [orI]; omega
  · rcases cmpI_cases x.f2 y.f2 with ⟨h2, e2⟩ | ⟨h2, e2⟩ | ⟨h2, e2⟩ <;> rw [e2]
    · left; simp [orI]; omega
    · rcases cmpI_cases x.f1 y.f1 with ⟨h3, e3⟩ | ⟨h3, e3⟩ | ⟨h3, e3⟩ <;> rw [e3]
      · left; simp [orI]; omega
      · right; left; refine ⟨?_, by simp [orI]⟩
        cases x; cases y; simp_all
      · right; right; simp [orI]; omega
    · right; right; simp [orI]; omega
  · right; right; simp [orI]; omega
theorem compI_cases (x y : S51) : (ltD x y ∧ compI x y = -1) ∨ (x = y ∧ compI x y = 0) ∨ (ltD y x ∧ compI x y = 1) := by
  unfold compI ltD
  rcases cmpI_cases x.f0 y.f0 with ⟨h, e⟩ | ⟨h, e⟩ | ⟨h, e⟩ <;> rw [e]
  · left; simp [orI, h]
  · rcases cmpI_cases x.f1 y.f1 with ⟨h2, e2⟩ | ⟨h2, e2⟩ | ⟨h2, e2⟩ <;> rw [e2]
    · left; simp [orI, h, h2]
    · rcases keysI_cases x.f2 y.f2 with ⟨h3, e3⟩ | ⟨h3, e3⟩ | ⟨h3, e3⟩ <;> rw [e3]
      · left; simp [orI, h, h2, h3]
      · right; left; refine ⟨?_, by simp [orI]⟩
        cases x; cases y; simp_all
      · right; right; simp [orI, h, h2, h3]
    · right; right; simp [orI, h, h2]
  · right; right; simp [orI, h]
theorem ltK_irrefl (x : S34) : ¬ ltK x x := by unfold ltK; omega
theorem ltK_trans {x y z : S34} (h : ltK x y) (k : ltK y z) : ltK x z := by unfold ltK at *; omega
theorem ltK_total (x y : S34) : ltK x y ∨ x = y ∨ ltK y x := by
  rcases keysI_cases x y with ⟨h, _⟩ | ⟨h, _⟩ | ⟨h, _⟩ <;> simp [h]
theorem ltD_irrefl (x : S51) : ¬ ltD x x := by unfold ltD ltK; omega
theorem ltD_trans {x y z : S51} (h : ltD x y) (k : ltD y z) : ltD x z := by unfold ltD ltK at *; omega
theorem ltD_total (x y : S51) : ltD x y ∨ x = y ∨ ltD y x := by
  rcases compI_cases x y with ⟨h, _⟩ | ⟨h, _⟩ | ⟨h, _⟩ <;> simp [h]
instance (x y : S34) : Decidable (ltK x y) := by unfold ltK; infer_instance
instance (x y : S51) : Decidable (ltD x y) := by unfold ltD; infer_instance
theorem keysI_lt (x y : S34) : keysI x y < 0 ↔ ltK x y := by
  rcases keysI_cases x y with ⟨h, e⟩ | ⟨h, e⟩ | ⟨h, e⟩ <;> rw [e]
  · simp [h]
  · subst h; simp [ltK_irrefl]
  · simp; intro k; exact ltK_irrefl _ (ltK_trans h k)
theorem compI_lt (x y : S51) : compI x y < 0 ↔ ltD x y := by
  rcases compI_cases x y with ⟨h, e⟩ | ⟨h, e⟩ | ⟨h, e⟩ <;> rw [e]
  · simp [h]
  · subst h; simp [ltD_irrefl]
  · simp; intro k; exact ltD_irrefl _ (ltD_trans h k)
theorem ltOf_keys (x y : S34) : ltOf keysI x y = decide (ltK x y) := by simp [ltOf, keysI_lt]
theorem ltOf_comp (x y : S51) : ltOf compI x y = decide (ltD x y) := by simp [ltOf, compI_lt]
theorem swoK : SWO (ltOf keysI) := by
  refine ⟨fun x => ?_, fun x y z => ?_, fun x y z => ?_⟩ <;> simp only [ltOf_keys, decide_eq_true_eq, decide_eq_false_iff_not]
  · exact ltK_irrefl x
  · exact ltK_trans
  · unfold ltK; omega
theorem swoD : SWO (ltOf compI) := by
  refine ⟨fun x => ?_, fun x y z => ?_, fun x y z => ?_⟩ <;> simp only [ltOf_comp, decide_eq_true_eq, decide_eq_false_iff_not]
  · exact ltD_irrefl x
  · exact ltD_trans
  · unfold ltD ltK; omega
def celK (x : S34) : List Value := [.int .i64 x.f0, .int .i64 x.f1, .int .i64 x.f2]
def celD (x : S51) : List Value := [.int .i64 x.f0, .int .i64 x.f1, .int .i64 x.f2.f0, .int .i64 x.f2.f1, .int .i64 x.f2.f2]
theorem flatK34 : Flat k34 celK := by
  refine ⟨fun {w base ok x cs} => ⟨fun h => ?_, fun h => ?_⟩, fun x => rfl, fun x v hv => ?_⟩
  · exact k34_openM h
  · rw [h]; exact k34_mkM _ _ _ _
  · simp [celK] at hv; rcases hv with rfl | rfl | rfl <;> rfl
theorem flatD51 : Flat k51 celD := by
  refine ⟨fun {w base ok x cs} => ⟨fun h => ?_, fun h => ?_⟩, fun x => rfl, fun x v hv => ?_⟩
  · exact k51_openM h
  · rw [h]; exact k51_mkM _ _ _ _
  · simp [celD] at hv; rcases hv with rfl | rfl | rfl | rfl | rfl <;> rfl
theorem eg37 (args : Array Value) (w : World) : (callFunc 37 args).run Try.prog w = .ok (.enter 37 args) w := by
  unfold callFunc; simp [Try.func37, show Try.f37.name ≠ "runtime.NumGoroutine" by decide, show Try.f37.body ≠ none from fun h => by cases h]
theorem eg45 (args : Array Value) (w : World) : (callFunc 45 args).run Try.prog w = .ok (.enter 45 args) w := by
  unfold callFunc; simp [Try.func45, show Try.f45.name ≠ "runtime.NumGoroutine" by decide, show Try.f45.body ≠ none from fun h => by cases h]
theorem sortD_calls {e : Nat} {w : World} {base : Nat} {ok : Nat → Prop} {v : Value} {l : List S51} (h : Kd.R k51 e w base ok v l) (hb : l.length < 4611686018427387904) :
    Calls Try.prog 36 #[v, .func (.func 37) #[] #[]] w fun e' w' => e' = .returned (.tuple #[]) ∧ ∃ l', l'.Perm l ∧ l'.Pairwise (fun x y => ¬ ltD y x) ∧ Kd.R k51 e w' base ok v l' ∧ w.grownBy w' v.ownBlock := by
  refine (SortFunc_R Try.sort36 flatD51 Try.isAgg51 Try.sizeOf51 compI swoD 37 eg37 (fun x y W => compare_calls x y W) h hb).mono ?_
  rintro e' w' ⟨h1, l', h2, h3, h4, h5⟩
  exact ⟨h1, l', h2, h3.imp (fun {x y} hxy => by simpa [ltOf_comp] using hxy), h4, h5⟩
theorem sortK_calls {e : Nat} {w : World} {base : Nat} {ok : Nat → Prop} {v : Value} {l : List S34} (h : Kd.R k34 e w base ok v l) (hb : l.length < 4611686018427387904) :
    Calls Try.prog 59 #[v, .func (.func 45) #[] #[]] w fun e' w' => e' = .returned (.tuple #[]) ∧ ∃ l', l'.Perm l ∧ l'.Pairwise (fun x y => ¬ ltK y x) ∧ Kd.R k34 e w' base ok v l' ∧ w.grownBy w' v.ownBlock := by
  refine (SortFunc_R Try.sort59 flatK34 Try.isAgg34 Try.sizeOf34 keysI swoK 45 eg45 (fun x y W => keys_calls x y W) h hb).mono ?_
  rintro e' w' ⟨h1, l', h2, h3, h4, h5⟩
  exact ⟨h1, l', h2, h3.imp (fun {x y} hxy => by simpa [ltOf_keys] using hxy), h4, h5⟩
end Go.Proofs.Ytokambhemoeloaa.G
end
section
namespace Go.Proofs.Ytokambhemoeloaa.G
open Go.RowKit Go.Proofs.YtokambhemoeloaaW.PrintWords Go.Proofs.YtokambhemoeloaaW.PrintLast Go.Proofs.YtokambhemoeloaaW.PrintMore Go.Proofs.Ytokambhemoeloaa.PA
open Go.Lib
set_option linter.unusedVariables false
set_option linter.unusedSimpArgs false
def putD : List S51 → S51 → List S51
  | [], d => [d]
  | x :: l, d => if ltD x d then x :: putD l d else if x = d then x :: l else d :: x :: l
def canon (l : List S51) : List S51 := l.foldl putD []
theorem putD_mem (l : List S51) (d y : S51) : y ∈ putD l d ↔ y = d ∨ y ∈ l := by
  induction l with
  | nil => simp [putD]
  | cons x l ih =>
    unfold putD
    split
    · simp only [List.mem_cons, ih]; constructor
      · rintro (h | h | h) <;> simp [h]
      · rintro (h | h | h) <;> simp [h]
    · split
      · rename_i h; subst h; simp
      · simp
theorem putD_str {l : List S51} (h : l.Pairwise ltD) (d : S51) : (putD l d).Pairwise ltD := by
  induction l with
  | nil => simp [putD]
  | cons x l ih =>
    rw [List.pairwise_cons] at h
    unfold putD
    split
    · rename_i hx
      rw [List.pairwise_cons]
      refine ⟨fun y hy => ?_, ih h.2⟩
      rcases (putD_mem l d y).1 hy with rfl | hy
      · exact hx
      · exact h.1 y hy
    · split
      · rw [List.pairwise_cons]; exact h
      · rename_i h1 h2
        have hlt : ltD d x := by rcases ltD_total x d with h | h | h <;> simp_all
        rw [List.pairwise_cons, List.pairwise_cons]
        refine ⟨fun y hy => ?_, h⟩
        rcases List.mem_cons.1 hy with rfl | hy
        · exact hlt
        · exact ltD_trans hlt (h.1 y hy)
theorem foldl_put (l : List S51) : ∀ (a : List S51), a.Pairwise ltD → (l.foldl putD a).Pairwise ltD ∧ ∀ y, y ∈ l.foldl putD a ↔ y ∈ a ∨ y ∈ l := by
  induction l with
  | nil => intro a h; exact ⟨h, by simp⟩
  | cons x l ih =>
    intro a h
    obtain ⟨h1, h2⟩ := ih (putD a x) (putD_str h x)
    refine ⟨h1, fun y => ?_⟩
    rw [List.foldl_cons, h2, putD_mem, List.mem_cons]
    constructor
    · rintro ((h | h) | h) <;> simp [h]
    · rintro (h | h | h) <;> simp [h]
theorem canon_str (l : List S51) : (canon l).Pairwise ltD := (foldl_put l [] List.Pairwise.nil).1
theorem canon_mem (l : List S51) (y : S51) : y ∈ canon l ↔ y ∈ l := by
  have := (foldl_put l [] List.Pairwise.nil).2 y
  simpa [canon] using this
theorem str_unique : ∀ {a b : List S51}, a.Pairwise ltD → b.Pairwise ltD → (∀ x, x ∈ a ↔ x ∈ b) → a = b
  | [], [], _, _, _ => rfl
  | [], y :: b, _, _, h => by have := (h y).2 (by simp); cases this
  | x :: a, [], _, _, h => by have := (h x).1 (by simp); cases this
  | x :: a, y :: b, ha, hb, h => by
    rw [List.pairwise_cons] at ha hb
    have e : x = y := by
      rcases List.mem_cons.1 ((h x).1 (by simp)) with e | h1
      · exact e
      · rcases List.mem_cons.1 ((h y).2 (by simp)) with e | h2
        · exact e.symm
        · exact absurd (ltD_trans (ha.1 y h2) (hb.1 x h1)) (ltD_irrefl x)
    subst e
    congr 1
    refine str_unique ha.2 hb.2 fun z => ?_
    constructor
    · intro hz
      rcases List.mem_cons.1 ((h z).1 (by simp [hz])) with e | h1
      · subst e; exact absurd (ha.1 z hz) (ltD_irrefl z)
      · exact h1
    · intro hz
      rcases List.mem_cons.1 ((h z).2 (by simp [hz])) with e | h1
      · subst e; exact absurd (hb.1 z hz) (ltD_irrefl z)
      · exact h1
theorem compact_str {l : List S51} (h : l.Pairwise (fun x y => ¬ ltD y x)) : (compact l).Pairwise ltD ∧ ∀ y, y ∈ compact l ↔ y ∈ l := by
  have hle : ∀ i j, i ≤ j → j < l.length → ¬ ltD l.toArray[j]! l.toArray[i]! := by
    intro i j hij hj
    rcases Nat.eq_or_lt_of_le hij with rfl | hlt
    · exact ltD_irrefl _
    · have := List.pairwise_iff_getElem.1 h i j (by omega) hj hlt
      simpa [hj, show i < l.length by omega] using this
  have key : ∀ m, m ≤ l.length → (compactUpTo l.toArray m).Pairwise ltD ∧ (∀ y, y ∈ compactUpTo l.toArray m ↔ ∃ j, j < m ∧ l.toArray[j]! = y) := by
    intro m
    induction m with
    | zero => intro _; exact ⟨by simp [compactUpTo], by simp [compactUpTo]⟩
    | succ m ih =>
      intro hm
      obtain ⟨h1, h2⟩ := ih (by omega)
      rw [compactUpTo_succ]
      by_cases hk : keeps l.toArray m = true
      · rw [if_pos hk]
        refine ⟨?_, fun y => ?_⟩
        · rw [List.pairwise_append]
          refine ⟨h1, by simp, fun a ha b hb => ?_⟩
          rw [List.mem_singleton] at hb; subst hb
          obtain ⟨j, hj, rfl⟩ := (h2 a).1 ha
          have hmp : m ≠ 0 := by omega
          have hne : l.toArray[m]! ≠ l.toArray[m - 1]! := by
            simp only [keeps, decide_eq_true_eq] at hk
            rcases hk with e | e
            · exact absurd e hmp
            · exact e
          have q1 := hle (m - 1) m (by omega) (by omega)
          have q2 := hle j (m - 1) (by omega) (by omega)
          have q3 : ltD l.toArray[m - 1]! l.toArray[m]! := by
            rcases ltD_total l.toArray[m - 1]! l.toArray[m]! with e | e | e
            · exact e
            · exact absurd e.symm hne
            · exact absurd e q1
          rcases ltD_total l.toArray[j]! l.toArray[m - 1]! with e | e | e
          · exact ltD_trans e q3
          · rw [e]; exact q3
          · exact absurd e q2
        · rw [List.mem_append, h2]
          simp only [List.mem_singleton]
          constructor
          · rintro (⟨j, hj, e⟩ | e)
            · exact ⟨j, by omega, e⟩
            · exact ⟨m, by omega, e.symm⟩
          · rintro ⟨j, hj, e⟩
            by_cases hjm : j = m
            · subst hjm; exact .inr e.symm
            · exact .inl ⟨j, by omega, e⟩
      · rw [if_neg hk, List.append_nil]
        refine ⟨h1, fun y => ?_⟩
        rw [h2]
        have hk : m ≠ 0 ∧ l.toArray[m]! = l.toArray[m - 1]! := by
          simp only [keeps, decide_eq_true_eq, not_or] at hk
          exact ⟨hk.1, by simpa using hk.2⟩
        constructor
        · rintro ⟨j, hj, e⟩; exact ⟨j, by omega, e⟩
        · rintro ⟨j, hj, e⟩
          by_cases hjm : j = m
          · subst hjm; exact ⟨j - 1, by omega, by rw [← hk.2]; exact e⟩
          · exact ⟨j, by omega, e⟩
  obtain ⟨h1, h2⟩ := key l.length (Nat.le_refl _)
  refine ⟨h1, fun y => ?_⟩
  unfold compact
  rw [h2, List.mem_iff_getElem]
  constructor
  · rintro ⟨j, hj, e⟩; exact ⟨j, hj, by simpa [hj] using e⟩
  · rintro ⟨j, hj, e⟩; exact ⟨j, hj, by simpa [hj] using e⟩
theorem compact_canon {l l' : List S51} (hp : l'.Perm l) (h : l'.Pairwise (fun x y => ¬ ltD y x)) : compact l' = canon l := by
  obtain ⟨h1, h2⟩ := compact_str h
  exact str_unique h1 (canon_str l) fun x => by rw [h2, canon_mem, hp.mem_iff]
end Go.Proofs.Ytokambhemoeloaa.G
end
section
namespace Go.Proofs.Ytokambhemoeloaa.PA
set_option linter.unusedSimpArgs false
open Go.RowKit Go.Proofs.YtokambhemoeloaaW.PrintWords Go.Proofs.YtokambhemoeloaaW.PrintLast Go.Proofs.YtokambhemoeloaaW.PrintMore
def blend_ValidKey.f (a0_0 : Int) (a0_1 : Int) (a0_2 : Int) : Option (Int) := (blend_between.f a0_0 0 16).bind fun t153 => (if t153 = true then (if 0 ≤ a0_0 then ((blend_between.f a0_1 (-(shr .i64 65536 a0_0)) ((shr .i64 65536 a0_0) - 1)).bind fun t154 => (if t154 = true then ((blend_between.f a0_2 (-(shr .i64 65536 a0_0)) ((shr .i64 65536 a0_0) - 1)).bind fun t155 => (if t155 = true then (some 0) else (some 5))) else (some 5))) else (none)) else (some 5))
theorem blend_between.f_eq (a b c : Int) : blend_between.f a b c = some (decide (b ≤ a) && decide (a ≤ c)) := by
  unfold blend_between.f
  by_cases h : a ≥ b
  · rw [if_pos h]; simp [h]
  · rw [if_neg h]; simp [h]
theorem shr_most (L : Int) (h0 : 0 ≤ L) (h1 : L ≤ 16) : shr .i64 65536 L = G.most L := by
  unfold shr G.most
  rw [show min L.toNat IntKind.i64.bits = L.toNat from by simp [IntKind.bits]; omega]
theorem blend_ValidKey.f_eq (a b c : Int) : blend_ValidKey.f a b c = some (G.vkeyE a b c) := by
  unfold blend_ValidKey.f
  simp only [blend_between.f_eq, Option.bind_some]
  by_cases h : 0 ≤ a ∧ a ≤ 16
  · rw [shr_most a h.1 h.2]
    have hd : (decide ((0 : Int) ≤ a) && decide (a ≤ 16)) = true := by simp [h]
    have h2 := h.2
    simp only [hd, h.1, G.vkeyE, G.vkey]
    cases (decide (-G.most a ≤ b) && decide (b ≤ G.most a - 1)) <;> cases (decide (-G.most a ≤ c) && decide (c ≤ G.most a - 1)) <;> simp [h2]
  · have hd : (decide ((0 : Int) ≤ a) && decide (a ≤ 16)) = false := by simp; omega
    simp [hd, G.vkeyE, G.vkey]
theorem blend_ValidKey.calls (a0_0 : Int) (a0_1 : Int) (a0_2 : Int) (r : Int) (w : World) (h : blend_ValidKey.f a0_0 a0_1 a0_2 = some r) :
    Calls Try.prog 31 #[.agg #[.int .i64 a0_0, .int .i64 a0_1, .int .i64 a0_2]] w fun e w' => e = .returned (.int .i64 r) ∧ Below w.heap.size w w' := by
  rw [blend_ValidKey.f_eq] at h
  obtain rfl := Option.some.inj h
  exact G.ValidKey_calls _ _ _ _
end Go.Proofs.Ytokambhemoeloaa.PA
end
section
namespace Go.Proofs.Ytokambhemoeloaa.PA
open Go.RowKit Go.Proofs.YtokambhemoeloaaW.PrintWords Go.Proofs.YtokambhemoeloaaW.PrintLast Go.Proofs.YtokambhemoeloaaW.PrintMore
attribute [local go_sem] max2_int min2_int max_two min_two max_three min_three max_four min_four   -- for this text's walks alone
set_option linter.unusedVariables false
set_option linter.unusedSimpArgs false
mutual
def skymosaicref23_ValidKey.j0 : Nat → Bool → Int → Int → Int → Option (Int)
  | 0, _, _, _, _ => none
  | k + 1, x12, x200000, x200001, x200002 => if x12 = true then (some 5) else (skymosaicref23_ValidKey.l0 k 65536 0 x200000 x200001 x200002)
def skymosaicref23_ValidKey.l0 : Nat → Int → Int → Int → Int → Int → Option (Int)
  | 0, _, _, _, _, _ => none
  | k + 1, x3, x4, x200000, x200001, x200002 => if x4 < x200000 then (skymosaicref23_ValidKey.l0 k (wrap64 (Int.tdiv x3 2)) (wrap64 (x4 + 1)) x200000 x200001 x200002) else (if x200001 < (wrap64 (-x3)) then (some 5) else (if x200001 ≥ x3 then (some 5) else (if x200002 < (wrap64 (-x3)) then (some 5) else (if x200002 ≥ x3 then (some 5) else (some 0)))))
end
def skymosaicref23_ValidKey.f (k : Nat) (a0_0 : Int) (a0_1 : Int) (a0_2 : Int) : Option (Int) := if a0_0 < 0 then (skymosaicref23_ValidKey.j0 k true a0_0 a0_1 a0_2) else (skymosaicref23_ValidKey.j0 k (decide (a0_0 > 16)) a0_0 a0_1 a0_2)
theorem skymosaicref23_ValidKey.mono_l : ∀ k, (∀ y0 y1 y2 y3, LeO (skymosaicref23_ValidKey.j0 k y0 y1 y2 y3) (skymosaicref23_ValidKey.j0 (k + 1) y0 y1 y2 y3)) ∧ (∀ y0 y1 y2 y3 y4, LeO (skymosaicref23_ValidKey.l0 k y0 y1 y2 y3 y4) (skymosaicref23_ValidKey.l0 (k + 1) y0 y1 y2 y3 y4))
  | 0 => ⟨fun _ _ _ _ r h => by simp [skymosaicref23_ValidKey.j0] at h, fun _ _ _ _ _ r h => by simp [skymosaicref23_ValidKey.l0] at h⟩
  | k + 1 => by
    obtain ⟨ih0, ih1⟩ := skymosaicref23_ValidKey.mono_l k
    refine ⟨?_, ?_⟩
    · intro y0 y1 y2 y3
      unfold skymosaicref23_ValidKey.j0
      repeat' first
      | (with_reducible exact ih0 _ _ _ _)
      | (with_reducible exact ih1 _ _ _ _ _)
      | (with_reducible exact LeO.refl _)
      | (with_reducible exact LeO.none _)
      | (with_reducible refine LeO.ite ?_ ?_)
      | (with_reducible refine LeO.bind ?_ (fun _ => ?_))
      | exact ih0 _ _ _ _
      | exact ih1 _ _ _ _ _
      | exact LeO.none _
      | refine LeO.ite ?_ ?_
      | refine LeO.bind ?_ (fun _ => ?_)
    · intro y0 y1 y2 y3 y4
      unfold skymosaicref23_ValidKey.l0
      repeat' first
      | (with_reducible exact ih0 _ _ _ _)
      | (with_reducible exact ih1 _ _ _ _ _)
      | (with_reducible exact LeO.refl _)
      | (with_reducible exact LeO.none _)
      | (with_reducible refine LeO.ite ?_ ?_)
      | (with_reducible refine LeO.bind ?_ (fun _ => ?_))
      | exact ih0 _ _ _ _
      | exact ih1 _ _ _ _ _
      | exact LeO.none _
      | refine LeO.ite ?_ ?_
      | refine LeO.bind ?_ (fun _ => ?_)
theorem skymosaicref23_ValidKey.mono : ∀ a0 a1 a2 k, LeO (skymosaicref23_ValidKey.f k a0 a1 a2) (skymosaicref23_ValidKey.f (k + 1) a0 a1 a2) := by
  intro a0 a1 a2 k
  obtain ⟨ih0, ih1⟩ := skymosaicref23_ValidKey.mono_l k
  unfold skymosaicref23_ValidKey.f
  repeat' first
      | (with_reducible exact ih0 _ _ _ _)
      | (with_reducible exact ih1 _ _ _ _ _)
      | (with_reducible exact LeO.refl _)
      | (with_reducible exact LeO.none _)
      | (with_reducible refine LeO.ite ?_ ?_)
      | (with_reducible refine LeO.bind ?_ (fun _ => ?_))
      | exact ih0 _ _ _ _
      | exact ih1 _ _ _ _ _
      | exact LeO.none _
      | refine LeO.ite ?_ ?_
      | refine LeO.bind ?_ (fun _ => ?_)
set_option maxHeartbeats 8000000 in
set_option maxRecDepth 100000 in
theorem skymosaicref23_ValidKey.calls (k : Nat) (a0_0 : Int) (a0_1 : Int) (a0_2 : Int) (r : Int) (w : World) (h : skymosaicref23_ValidKey.f k a0_0 a0_1 a0_2 = some r) :
    Calls Try.prog 39 #[.agg #[.int .i64 a0_0, .int .i64 a0_1, .int .i64 a0_2]] w fun e w' => e = .returned (.int .i64 r) ∧ Below w.heap.size w w' := by
  have hu34 := Try.underlying34
  have HB := Aside0.mk (Below.refl w.heap.size w)
  have H : (if a0_0 < 0 then (skymosaicref23_ValidKey.j0 k true a0_0 a0_1 a0_2) else (skymosaicref23_ValidKey.j0 k (decide (a0_0 > 16)) a0_0 a0_1 a0_2)) = some r := h
  clear h
  have HC2 := Aside0.mk H
  clear H
  go_enter Try.func39, Try.ntmps39
  go_upto_region 1 with (first | ((with_reducible refine gate_dst (N := 1) rfl ?_); refine box_event ?hg (N := 1) ?hd (cs := #[.int .i64 a0_0, .int .i64 a0_1, .int .i64 a0_2]) (t := 34) ?hr ?_; (case hd => rfl); (case hg => rfl); (case hr => first | (go_simp; done) | (go_simp; rfl)); intro gb199 hg w3 hbox hb; have n0_ := Aside0.mk (below_step (by repeat (first | (with_reducible first | exact HB.out | apply below_alloc | apply pw_below_drewN | apply below_drew1) | exact HB.out)) hb); have n1_ := Aside0.mk (hbox); have n2_ := Aside0.mk ((by rw [hg]; exact (below_size (by repeat (first | (with_reducible first | exact HB.out | apply below_alloc | apply pw_below_drewN | apply below_drew1) | exact HB.out))) : w.heap.size ≤ gb199)); have n3_ := Aside0.mk ((by rw [hg]; exact (below_size (by repeat (first | (with_reducible first | exact HB.out | apply below_alloc | apply pw_below_drewN | apply below_drew1) | exact HB.out))) : w.heap.size ≤ gb199)); clear HB; have HB := n0_; have BK199 := n1_; have GW199 := n2_; have GE199 := n3_; clear n0_ n1_ n2_ n3_; clear hb hbox hg))
  (try simp only [Act.put, List.setIfInBounds_toArray, List.set_cons_zero, List.set_cons_succ])
  go_cut [12] (fun v12 wc => ∃ (kq : Nat) (x12_1 : Bool), v12 = .bool x12_1 ∧ Aside0 (skymosaicref23_ValidKey.j0 kq x12_1 a0_0 a0_1 a0_2 = some r) ∧ Aside0 (kq ≤ k) ∧ Aside0 (wc.heap[gb199]? = some (.cells #[.int .i64 a0_0, .int .i64 a0_1, .int .i64 a0_2] 34 (0, 0))) ∧ Aside0 (Below w.heap.size w wc))
  case first =>
    have H := HC2.out
    clear HC2
    by_cases c4 : a0_0 < 0
    · rw [if_pos c4] at H
      have c4b0 : decide (a0_0 < 0) = true := decide_eq_true c4
      clear c4
      (first | rw [c4b0] | (simp only [i64_w, i32_w]; rw [c4b0]) | skip)
      have H' := Aside0.mk H
      clear H
      have hcz5_0 : w3.cell? ⟨gb199, 0, none⟩ = some (.int .i64 a0_0) := (blk_cell BK199.out 0).trans rfl
      have hcz5_1 : w3.cell? ⟨gb199, 1, none⟩ = some (.int .i64 a0_1) := (blk_cell BK199.out 1).trans rfl
      have hcz5_2 : w3.cell? ⟨gb199, 2, none⟩ = some (.int .i64 a0_2) := (blk_cell BK199.out 2).trans rfl
      have hfz5_0 := blk_frozen BK199.out 0
      have hfz5_1 := blk_frozen BK199.out 1
      have hfz5_2 := blk_frozen BK199.out 2
      go_wp2
      go_meet
      case rel => exact ⟨_, (true), (by first | rfl | (simp; done) | (simp [*]; done)), H', ⟨by first | omega | exact Nat.le_refl _⟩, ⟨by (with_reducible repeat (first | refine blk_drewN ?_ _ | refine blk_drew ?_ | refine blk_alloc ?_ _)); exact BK199.out⟩, ⟨by repeat (first | (with_reducible first | exact HB.out | apply below_alloc | apply pw_below_drewN | apply below_drew1 | refine below_set ?_ GE199.out) | exact HB.out)⟩⟩
    · rw [if_neg c4] at H
      have c4b0 : decide (a0_0 < 0) = false := decide_eq_false c4
      clear c4
      (first | rw [c4b0] | (simp only [i64_w, i32_w]; rw [c4b0]) | skip)
      have H' := Aside0.mk H
      clear H
      have hcz6_0 : w3.cell? ⟨gb199, 0, none⟩ = some (.int .i64 a0_0) := (blk_cell BK199.out 0).trans rfl
      have hcz6_1 : w3.cell? ⟨gb199, 1, none⟩ = some (.int .i64 a0_1) := (blk_cell BK199.out 1).trans rfl
      have hcz6_2 : w3.cell? ⟨gb199, 2, none⟩ = some (.int .i64 a0_2) := (blk_cell BK199.out 2).trans rfl
      have hfz6_0 := blk_frozen BK199.out 0
      have hfz6_1 := blk_frozen BK199.out 1
      have hfz6_2 := blk_frozen BK199.out 2
      go_wp2
      go_meet
      case rel => exact ⟨_, (decide (a0_0 > 16)), (by first | rfl | (simp; done) | (simp [*]; done)), H', ⟨by first | omega | exact Nat.le_refl _⟩, ⟨by (with_reducible repeat (first | refine blk_drewN ?_ _ | refine blk_drew ?_ | refine blk_alloc ?_ _)); exact BK199.out⟩, ⟨by repeat (first | (with_reducible first | exact HB.out | apply below_alloc | apply pw_below_drewN | apply below_drew1 | refine below_set ?_ GE199.out) | exact HB.out)⟩⟩
  case rest =>
    clear HC2
    try clear p2
    try clear c3
    try clear c4
    try clear c4b0
    try clear hcz5_0
    try clear hcz5_1
    try clear hcz5_2
    try clear hcz6_0
    try clear hcz6_1
    try clear hcz6_2
    try clear hfz5_0
    try clear hfz5_1
    try clear hfz5_2
    try clear hfz6_0
    try clear hfz6_1
    try clear hfz6_2
    obtain ⟨kq, x12_1, rfl, HA, HJ1, BK199, HB⟩ := hcut
    cases kq with
    | zero => exact absurd HA.out (by simp [skymosaicref23_ValidKey.j0])
    | succ kj1 =>
      have H := HA.out
      clear HA
      simp only [skymosaicref23_ValidKey.j0] at H
      by_cases c7 : x12_1 = true
      · subst c7
        have H1 : (some 5) = some r := by rw [if_pos rfl] at H; exact H
        clear H
        have H := H1
        clear H1
        obtain rfl := Option.some.inj H
        go_wp2
        go_ret
        exact ⟨by first | rfl | (simp [errW_none, errW_some] <;> rfl) | (simp [*, errW_none, errW_some] <;> rfl), by repeat (first | (with_reducible first | exact HB.out | apply below_alloc | apply pw_below_drewN | apply below_drew1 | refine below_set ?_ GE199.out) | exact HB.out)⟩
      · replace c7 := Bool.eq_false_iff.mpr c7
        subst c7
        have H1 : (skymosaicref23_ValidKey.l0 kj1 65536 0 a0_0 a0_1 a0_2) = some r := by rw [if_neg (show ¬ (false = true) by decide)] at H; exact H
        clear H
        have H := H1
        clear H1
        have H' := Aside0.mk H
        clear H
        go_wp2
        go_loopg [3, 4] kj1 (fun kq v3 v4 w' => ∃ (x3_2 : Int) (x4_2 : Int), v3 = .int .i64 x3_2 ∧ v4 = .int .i64 x4_2 ∧ Aside0 (skymosaicref23_ValidKey.l0 kq x3_2 x4_2 a0_0 a0_1 a0_2 = some r) ∧ Aside0 (kq ≤ kj1) ∧ Aside0 (w'.heap[gb199]? = some (.cells #[.int .i64 a0_0, .int .i64 a0_1, .int .i64 a0_2] 34 (0, 0))) ∧ Aside0 (Below w.heap.size w w'))
        case atStart => exact ⟨(65536), (0), (by first | rfl | (simp; done) | (simp [*]; done)), (by first | rfl | (simp; done) | (simp [*]; done)), H', ⟨Nat.le_refl _⟩, ⟨by (with_reducible repeat (first | refine blk_drewN ?_ _ | refine blk_drew ?_ | refine blk_alloc ?_ _)); exact BK199.out⟩, ⟨by repeat (first | (with_reducible first | exact HB.out | apply below_alloc | apply pw_below_drewN | apply below_drew1 | refine below_set ?_ GE199.out) | exact HB.out)⟩⟩
        case round =>
          clear H'
          try clear p2
          try clear c3
          try clear c4
          try clear c4b0
          try clear c7
          try clear hcz5_0
          try clear hcz5_1
          try clear hcz5_2
          try clear hcz6_0
          try clear hcz6_1
          try clear hcz6_2
          try clear hfz5_0
          try clear hfz5_1
          try clear hfz5_2
          try clear hfz6_0
          try clear hfz6_1
          try clear hfz6_2
          try clear p2
          obtain ⟨x3_2, x4_2, rfl, rfl, HA, HK2, BK199, HB⟩ := hrel
          cases gk with
          | zero => exact absurd HA.out (by simp [skymosaicref23_ValidKey.l0])
          | succ k2 =>
            have H := HA.out
            clear HA
            simp only [skymosaicref23_ValidKey.l0] at H
            by_cases c8 : x4_2 < a0_0
            · rw [if_pos c8] at H
              have c8b0 : decide (x4_2 < a0_0) = true := decide_eq_true c8
              clear c8
              have H' := Aside0.mk H
              clear H
              have hcz9_0 : wr.cell? ⟨gb199, 0, none⟩ = some (.int .i64 a0_0) := (blk_cell BK199.out 0).trans rfl
              have hcz9_1 : wr.cell? ⟨gb199, 1, none⟩ = some (.int .i64 a0_1) := (blk_cell BK199.out 1).trans rfl
              have hcz9_2 : wr.cell? ⟨gb199, 2, none⟩ = some (.int .i64 a0_2) := (blk_cell BK199.out 2).trans rfl
              have hfz9_0 := blk_frozen BK199.out 0
              have hfz9_1 := blk_frozen BK199.out 1
              have hfz9_2 := blk_frozen BK199.out 2
              go_wp2
              go_roundg k2
              case measure => have := HJ1.out; have := HK2.out; omega
              case rel => exact ⟨(wrap64 (Int.tdiv x3_2 2)), (wrap64 (x4_2 + 1)), (by first | rfl | (simp; done) | (simp [*]; done)), (by first | rfl | (simp; done) | (simp [*]; done)), H', ⟨by have := HJ1.out; have := HK2.out; omega⟩, ⟨by (with_reducible repeat (first | refine blk_drewN ?_ _ | refine blk_drew ?_ | refine blk_alloc ?_ _)); exact BK199.out⟩, ⟨by repeat (first | (with_reducible first | exact HB.out | apply below_alloc | apply pw_below_drewN | apply below_drew1 | refine below_set ?_ GE199.out) | exact HB.out)⟩⟩
            · rw [if_neg c8] at H
              have c8b0 : decide (x4_2 < a0_0) = false := decide_eq_false c8
              clear c8
              by_cases c10 : a0_1 < (wrap64 (-x3_2))
              · rw [if_pos c10] at H
                have c10b0 : decide (a0_1 < (wrap64 (-x3_2))) = true := decide_eq_true c10
                clear c10
                obtain rfl := Option.some.inj H
                have hcz11_0 : wr.cell? ⟨gb199, 0, none⟩ = some (.int .i64 a0_0) := (blk_cell BK199.out 0).trans rfl
                have hcz11_1 : wr.cell? ⟨gb199, 1, none⟩ = some (.int .i64 a0_1) := (blk_cell BK199.out 1).trans rfl
                have hcz11_2 : wr.cell? ⟨gb199, 2, none⟩ = some (.int .i64 a0_2) := (blk_cell BK199.out 2).trans rfl
                have hfz11_0 := blk_frozen BK199.out 0
                have hfz11_1 := blk_frozen BK199.out 1
                have hfz11_2 := blk_frozen BK199.out 2
                go_wp2
                go_ret
                exact ⟨by first | rfl | (simp [errW_none, errW_some] <;> rfl) | (simp [*, errW_none, errW_some] <;> rfl), by repeat (first | (with_reducible first | exact HB.out | apply below_alloc | apply pw_below_drewN | apply below_drew1 | refine below_set ?_ GE199.out) | exact HB.out)⟩
              · rw [if_neg c10] at H
                have c10b0 : decide (a0_1 < (wrap64 (-x3_2))) = false := decide_eq_false c10
                clear c10
                by_cases c12 : a0_1 ≥ x3_2
                · rw [if_pos c12] at H
                  have c12b0 : decide (x3_2 ≤ a0_1) = true := decide_eq_true c12
                  clear c12
                  obtain rfl := Option.some.inj H
                  have hcz13_0 : wr.cell? ⟨gb199, 0, none⟩ = some (.int .i64 a0_0) := (blk_cell BK199.out 0).trans rfl
                  have hcz13_1 : wr.cell? ⟨gb199, 1, none⟩ = some (.int .i64 a0_1) := (blk_cell BK199.out 1).trans rfl
                  have hcz13_2 : wr.cell? ⟨gb199, 2, none⟩ = some (.int .i64 a0_2) := (blk_cell BK199.out 2).trans rfl
                  have hfz13_0 := blk_frozen BK199.out 0
                  have hfz13_1 := blk_frozen BK199.out 1
                  have hfz13_2 := blk_frozen BK199.out 2
                  go_wp2
                  go_ret
                  exact ⟨by first | rfl | (simp [errW_none, errW_some] <;> rfl) | (simp [*, errW_none, errW_some] <;> rfl), by repeat (first | (with_reducible first | exact HB.out | apply below_alloc | apply pw_below_drewN | apply below_drew1 | refine below_set ?_ GE199.out) | exact HB.out)⟩
                · rw [if_neg c12] at H
                  have c12b0 : decide (x3_2 ≤ a0_1) = false := decide_eq_false c12
                  clear c12
                  by_cases c14 : a0_2 < (wrap64 (-x3_2))
                  · rw [if_pos c14] at H
                    have c14b0 : decide (a0_2 < (wrap64 (-x3_2))) = true := decide_eq_true c14
                    clear c14
                    obtain rfl := Option.some.inj H
                    have hcz15_0 : wr.cell? ⟨gb199, 0, none⟩ = some (.int .i64 a0_0) := (blk_cell BK199.out 0).trans rfl
                    have hcz15_1 : wr.cell? ⟨gb199, 1, none⟩ = some (.int .i64 a0_1) := (blk_cell BK199.out 1).trans rfl
                    have hcz15_2 : wr.cell? ⟨gb199, 2, none⟩ = some (.int .i64 a0_2) := (blk_cell BK199.out 2).trans rfl
                    have hfz15_0 := blk_frozen BK199.out 0
                    have hfz15_1 := blk_frozen BK199.out 1
                    have hfz15_2 := blk_frozen BK199.out 2
                    go_wp2
                    go_ret
                    exact ⟨by first | rfl | (simp [errW_none, errW_some] <;> rfl) | (simp [*, errW_none, errW_some] <;> rfl), by repeat (first | (with_reducible first | exact HB.out | apply below_alloc | apply pw_below_drewN | apply below_drew1 | refine below_set ?_ GE199.out) | exact HB.out)⟩
                  · rw [if_neg c14] at H
                    have c14b0 : decide (a0_2 < (wrap64 (-x3_2))) = false := decide_eq_false c14
                    clear c14
                    by_cases c16 : a0_2 ≥ x3_2
                    · rw [if_pos c16] at H
                      have c16b0 : decide (x3_2 ≤ a0_2) = true := decide_eq_true c16
                      clear c16
                      obtain rfl := Option.some.inj H
                      have hcz17_0 : wr.cell? ⟨gb199, 0, none⟩ = some (.int .i64 a0_0) := (blk_cell BK199.out 0).trans rfl
                      have hcz17_1 : wr.cell? ⟨gb199, 1, none⟩ = some (.int .i64 a0_1) := (blk_cell BK199.out 1).trans rfl
                      have hcz17_2 : wr.cell? ⟨gb199, 2, none⟩ = some (.int .i64 a0_2) := (blk_cell BK199.out 2).trans rfl
                      have hfz17_0 := blk_frozen BK199.out 0
                      have hfz17_1 := blk_frozen BK199.out 1
                      have hfz17_2 := blk_frozen BK199.out 2
                      go_wp2
                      go_ret
                      exact ⟨by first | rfl | (simp [errW_none, errW_some] <;> rfl) | (simp [*, errW_none, errW_some] <;> rfl), by repeat (first | (with_reducible first | exact HB.out | apply below_alloc | apply pw_below_drewN | apply below_drew1 | refine below_set ?_ GE199.out) | exact HB.out)⟩
                    · rw [if_neg c16] at H
                      have c16b0 : decide (x3_2 ≤ a0_2) = false := decide_eq_false c16
                      clear c16
                      obtain rfl := Option.some.inj H
                      have hcz18_0 : wr.cell? ⟨gb199, 0, none⟩ = some (.int .i64 a0_0) := (blk_cell BK199.out 0).trans rfl
                      have hcz18_1 : wr.cell? ⟨gb199, 1, none⟩ = some (.int .i64 a0_1) := (blk_cell BK199.out 1).trans rfl
                      have hcz18_2 : wr.cell? ⟨gb199, 2, none⟩ = some (.int .i64 a0_2) := (blk_cell BK199.out 2).trans rfl
                      have hfz18_0 := blk_frozen BK199.out 0
                      have hfz18_1 := blk_frozen BK199.out 1
                      have hfz18_2 := blk_frozen BK199.out 2
                      go_wp2
                      go_ret
                      exact ⟨by first | rfl | (simp [errW_none, errW_some] <;> rfl) | (simp [*, errW_none, errW_some] <;> rfl), by repeat (first | (with_reducible first | exact HB.out | apply below_alloc | apply pw_below_drewN | apply below_drew1 | refine below_set ?_ GE199.out) | exact HB.out)⟩
end Go.Proofs.Ytokambhemoeloaa.PA
end
section
namespace Go.Proofs.Ytokambhemoeloaa.PA
open Go.RowKit Go.Proofs.YtokambhemoeloaaW.PrintWords Go.Proofs.YtokambhemoeloaaW.PrintLast Go.Proofs.YtokambhemoeloaaW.PrintMore
attribute [local go_sem] max2_int min2_int max_two min_two max_three min_three max_four min_four   -- for this text's walks alone
set_option linter.unusedVariables false
set_option linter.unusedSimpArgs false
mutual
def skymosaicref32_Valid.j0 : Nat → Bool → Int → Int → Int → Int → Int → Option (Bool)
  | 0, _, _, _, _, _, _ => none
  | k + 1, x3, x201000, x201001, x201002, x201003, x201004 => if x201000 = 0 then (skymosaicref32_Valid.j1 k x3 x201000 (x201000 == 0) x201000 x201001 x201002 x201003 x201004) else (if x201000 = 1 then (skymosaicref32_Valid.j1 k x3 x201000 (x201000 == 1) x201000 x201001 x201002 x201003 x201004) else (skymosaicref32_Valid.j1 k x3 x201000 (x201000 == 2) x201000 x201001 x201002 x201003 x201004))
def skymosaicref32_Valid.j1 : Nat → Bool → Int → Bool → Int → Int → Int → Int → Int → Option (Bool)
  | 0, _, _, _, _, _, _, _, _ => none
  | k + 1, x3, x21, x22, x201000, x201001, x201002, x201003, x201004 => if x22 = true then (if x3 = true then (if x201001 ≥ 0 then (some (decide (x201001 < 4096))) else (some false)) else (some false)) else (if x21 = 3 then (if x201001 = 0 then ((skymosaicref23_ValidKey.f k x201002 x201003 x201004).bind fun t201 => (some (t201 == 0))) else (some false)) else (if x21 = 4 then (if x3 = true then (some (x201001 == 0)) else (some false)) else (some false)))
end
def skymosaicref32_Valid.f (k : Nat) (a0_0 : Int) (a0_1 : Int) (a0_2 : Int) (a0_3 : Int) (a0_4 : Int) : Option (Bool) := if a0_2 = 0 then (if a0_3 = 0 then (skymosaicref32_Valid.j0 k (a0_4 == 0) a0_0 a0_1 a0_2 a0_3 a0_4) else (skymosaicref32_Valid.j0 k false a0_0 a0_1 a0_2 a0_3 a0_4)) else (skymosaicref32_Valid.j0 k false a0_0 a0_1 a0_2 a0_3 a0_4)
theorem skymosaicref32_Valid.mono_l : ∀ k, (∀ y0 y1 y2 y3 y4 y5, LeO (skymosaicref32_Valid.j0 k y0 y1 y2 y3 y4 y5) (skymosaicref32_Valid.j0 (k + 1) y0 y1 y2 y3 y4 y5)) ∧ (∀ y0 y1 y2 y3 y4 y5 y6 y7, LeO (skymosaicref32_Valid.j1 k y0 y1 y2 y3 y4 y5 y6 y7) (skymosaicref32_Valid.j1 (k + 1) y0 y1 y2 y3 y4 y5 y6 y7))
  | 0 => ⟨fun _ _ _ _ _ _ r h => by simp [skymosaicref32_Valid.j0] at h, fun _ _ _ _ _ _ _ _ r h => by simp [skymosaicref32_Valid.j1] at h⟩
  | k + 1 => by
    obtain ⟨ih0, ih1⟩ := skymosaicref32_Valid.mono_l k
    refine ⟨?_, ?_⟩
    · intro y0 y1 y2 y3 y4 y5
      unfold skymosaicref32_Valid.j0
      repeat' first
      | (with_reducible exact ih0 _ _ _ _ _ _)
      | (with_reducible exact ih1 _ _ _ _ _ _ _ _)
      | (with_reducible exact skymosaicref23_ValidKey.mono _ _ _ _)
      | (with_reducible exact LeO.refl _)
      | (with_reducible exact LeO.none _)
      | (with_reducible refine LeO.ite ?_ ?_)
      | (with_reducible refine LeO.bind ?_ (fun _ => ?_))
      | exact ih0 _ _ _ _ _ _
      | exact ih1 _ _ _ _ _ _ _ _
      | exact skymosaicref23_ValidKey.mono _ _ _ _
      | exact LeO.none _
      | refine LeO.ite ?_ ?_
      | refine LeO.bind ?_ (fun _ => ?_)
    · intro y0 y1 y2 y3 y4 y5 y6 y7
      unfold skymosaicref32_Valid.j1
      repeat' first
      | (with_reducible exact ih0 _ _ _ _ _ _)
      | (with_reducible exact ih1 _ _ _ _ _ _ _ _)
      | (with_reducible exact skymosaicref23_ValidKey.mono _ _ _ _)
      | (with_reducible exact LeO.refl _)
      | (with_reducible exact LeO.none _)
      | (with_reducible refine LeO.ite ?_ ?_)
      | (with_reducible refine LeO.bind ?_ (fun _ => ?_))
      | exact ih0 _ _ _ _ _ _
      | exact ih1 _ _ _ _ _ _ _ _
      | exact skymosaicref23_ValidKey.mono _ _ _ _
      | exact LeO.none _
      | refine LeO.ite ?_ ?_
      | refine LeO.bind ?_ (fun _ => ?_)
theorem skymosaicref32_Valid.mono : ∀ a0 a1 a2 a3 a4 k, LeO (skymosaicref32_Valid.f k a0 a1 a2 a3 a4) (skymosaicref32_Valid.f (k + 1) a0 a1 a2 a3 a4) := by
  intro a0 a1 a2 a3 a4 k
  obtain ⟨ih0, ih1⟩ := skymosaicref32_Valid.mono_l k
  unfold skymosaicref32_Valid.f
  repeat' first
      | (with_reducible exact ih0 _ _ _ _ _ _)
      | (with_reducible exact ih1 _ _ _ _ _ _ _ _)
      | (with_reducible exact skymosaicref23_ValidKey.mono _ _ _ _)
      | (with_reducible exact LeO.refl _)
      | (with_reducible exact LeO.none _)
      | (with_reducible refine LeO.ite ?_ ?_)
      | (with_reducible refine LeO.bind ?_ (fun _ => ?_))
      | exact ih0 _ _ _ _ _ _
      | exact ih1 _ _ _ _ _ _ _ _
      | exact skymosaicref23_ValidKey.mono _ _ _ _
      | exact LeO.none _
      | refine LeO.ite ?_ ?_
      | refine LeO.bind ?_ (fun _ => ?_)
set_option maxHeartbeats 8000000 in
set_option maxRecDepth 100000 in
theorem skymosaicref32_Valid.calls (k : Nat) (a0_0 : Int) (a0_1 : Int) (a0_2 : Int) (a0_3 : Int) (a0_4 : Int) (r : Bool) (w : World) (h : skymosaicref32_Valid.f k a0_0 a0_1 a0_2 a0_3 a0_4 = some r) :
    Calls Try.prog 40 #[.agg #[.int .i64 a0_0, .int .i64 a0_1, .int .i64 a0_2, .int .i64 a0_3, .int .i64 a0_4]] w fun e w' => e = .returned (.bool r) ∧ Below w.heap.size w w' := by
  have hu56 := Try.underlying56
  have hu34 := Try.underlying34
  have HB := Aside0.mk (Below.refl w.heap.size w)
  have H : (if a0_2 = 0 then (if a0_3 = 0 then (skymosaicref32_Valid.j0 k (a0_4 == 0) a0_0 a0_1 a0_2 a0_3 a0_4) else (skymosaicref32_Valid.j0 k false a0_0 a0_1 a0_2 a0_3 a0_4)) else (skymosaicref32_Valid.j0 k false a0_0 a0_1 a0_2 a0_3 a0_4)) = some r := h
  clear h
  have HC2 := Aside0.mk H
  clear H
  go_enter Try.func40, Try.ntmps40
  go_upto_region 1 with (first | ((with_reducible refine gate_dst (N := 1) rfl ?_); refine box_event ?hg (N := 1) ?hd (cs := #[.int .i64 a0_0, .int .i64 a0_1, .int .i64 a0_2, .int .i64 a0_3, .int .i64 a0_4]) (t := 56) ?hr ?_; (case hd => rfl); (case hg => rfl); (case hr => first | (go_simp; done) | (go_simp; rfl)); intro gb200 hg w3 hbox hb; have n0_ := Aside0.mk (below_step (by repeat (first | (with_reducible first | exact HB.out | apply below_alloc | apply pw_below_drewN | apply below_drew1) | exact HB.out)) hb); have n1_ := Aside0.mk (hbox); have n2_ := Aside0.mk ((by rw [hg]; exact (below_size (by repeat (first | (with_reducible first | exact HB.out | apply below_alloc | apply pw_below_drewN | apply below_drew1) | exact HB.out))) : w.heap.size ≤ gb200)); have n3_ := Aside0.mk ((by rw [hg]; exact (below_size (by repeat (first | (with_reducible first | exact HB.out | apply below_alloc | apply pw_below_drewN | apply below_drew1) | exact HB.out))) : w.heap.size ≤ gb200)); clear HB; have HB := n0_; have BK200 := n1_; have GW200 := n2_; have GE200 := n3_; clear n0_ n1_ n2_ n3_; clear hb hbox hg))
  (try simp only [Act.put, List.setIfInBounds_toArray, List.set_cons_zero, List.set_cons_succ])
  go_cut [3] (fun v3 wc => ∃ (kq : Nat) (x3_1 : Bool), v3 = .bool x3_1 ∧ Aside0 (skymosaicref32_Valid.j0 kq x3_1 a0_0 a0_1 a0_2 a0_3 a0_4 = some r) ∧ Aside0 (kq ≤ k) ∧ Aside0 (wc.heap[gb200]? = some (.cells #[.int .i64 a0_0, .int .i64 a0_1, .int .i64 a0_2, .int .i64 a0_3, .int .i64 a0_4] 56 (0, 0))) ∧ Aside0 (Below w.heap.size w wc))
  case first =>
    have H := HC2.out
    clear HC2
    by_cases c4 : a0_2 = 0
    · rw [if_pos c4] at H
      have c4b0 : (a0_2 == 0) = true := beq_iff_eq.mpr c4
      have c4b1 : (a0_2 != 0) = false := bne_eq_false_iff_eq.mpr c4
      clear c4
      (first | rw [c4b0] | (simp only [i64_w, i32_w]; rw [c4b0]) | skip)
      by_cases c5 : a0_3 = 0
      · rw [if_pos c5] at H
        have c5b0 : (a0_3 == 0) = true := beq_iff_eq.mpr c5
        have c5b1 : (a0_3 != 0) = false := bne_eq_false_iff_eq.mpr c5
        clear c5
        have H' := Aside0.mk H
        clear H
        have hcz6_0 : w3.cell? ⟨gb200, 0, none⟩ = some (.int .i64 a0_0) := (blk_cell BK200.out 0).trans rfl
        have hcz6_1 : w3.cell? ⟨gb200, 1, none⟩ = some (.int .i64 a0_1) := (blk_cell BK200.out 1).trans rfl
        have hcz6_2 : w3.cell? ⟨gb200, 2, none⟩ = some (.int .i64 a0_2) := (blk_cell BK200.out 2).trans rfl
        have hcz6_3 : w3.cell? ⟨gb200, 3, none⟩ = some (.int .i64 a0_3) := (blk_cell BK200.out 3).trans rfl
        have hcz6_4 : w3.cell? ⟨gb200, 4, none⟩ = some (.int .i64 a0_4) := (blk_cell BK200.out 4).trans rfl
        have hfz6_0 := blk_frozen BK200.out 0
        have hfz6_1 := blk_frozen BK200.out 1
        have hfz6_2 := blk_frozen BK200.out 2
        have hfz6_3 := blk_frozen BK200.out 3
        have hfz6_4 := blk_frozen BK200.out 4
        go_wp2
        go_meet
        case rel => exact ⟨_, ((a0_4 == 0)), (by first | rfl | (simp; done) | (simp [*]; done)), H', ⟨by first | omega | exact Nat.le_refl _⟩, ⟨by (with_reducible repeat (first | refine blk_drewN ?_ _ | refine blk_drew ?_ | refine blk_alloc ?_ _)); exact BK200.out⟩, ⟨by repeat (first | (with_reducible first | exact HB.out | apply below_alloc | apply pw_below_drewN | apply below_drew1 | refine below_set ?_ GE200.out) | exact HB.out)⟩⟩
      · rw [if_neg c5] at H
        have c5b0 : (a0_3 == 0) = false := beq_eq_false_iff_ne.mpr c5
        have c5b1 : (a0_3 != 0) = true := bne_iff_ne.mpr c5
        have H' := Aside0.mk H
        clear H
        have hcz7_0 : w3.cell? ⟨gb200, 0, none⟩ = some (.int .i64 a0_0) := (blk_cell BK200.out 0).trans rfl
        have hcz7_1 : w3.cell? ⟨gb200, 1, none⟩ = some (.int .i64 a0_1) := (blk_cell BK200.out 1).trans rfl
        have hcz7_2 : w3.cell? ⟨gb200, 2, none⟩ = some (.int .i64 a0_2) := (blk_cell BK200.out 2).trans rfl
        have hcz7_3 : w3.cell? ⟨gb200, 3, none⟩ = some (.int .i64 a0_3) := (blk_cell BK200.out 3).trans rfl
        have hcz7_4 : w3.cell? ⟨gb200, 4, none⟩ = some (.int .i64 a0_4) := (blk_cell BK200.out 4).trans rfl
        have hfz7_0 := blk_frozen BK200.out 0
        have hfz7_1 := blk_frozen BK200.out 1
        have hfz7_2 := blk_frozen BK200.out 2
        have hfz7_3 := blk_frozen BK200.out 3
        have hfz7_4 := blk_frozen BK200.out 4
        go_wp2
        go_meet
        case rel => exact ⟨_, (false), (by first | rfl | (simp; done) | (simp [*]; done)), H', ⟨by first | omega | exact Nat.le_refl _⟩, ⟨by (with_reducible repeat (first | refine blk_drewN ?_ _ | refine blk_drew ?_ | refine blk_alloc ?_ _)); exact BK200.out⟩, ⟨by repeat (first | (with_reducible first | exact HB.out | apply below_alloc | apply pw_below_drewN | apply below_drew1 | refine below_set ?_ GE200.out) | exact HB.out)⟩⟩
    · rw [if_neg c4] at H
      have c4b0 : (a0_2 == 0) = false := beq_eq_false_iff_ne.mpr c4
      have c4b1 : (a0_2 != 0) = true := bne_iff_ne.mpr c4
      (first | rw [c4b0] | (simp only [i64_w, i32_w]; rw [c4b0]) | skip)
      have H' := Aside0.mk H
      clear H
      have hcz8_0 : w3.cell? ⟨gb200, 0, none⟩ = some (.int .i64 a0_0) := (blk_cell BK200.out 0).trans rfl
      have hcz8_1 : w3.cell? ⟨gb200, 1, none⟩ = some (.int .i64 a0_1) := (blk_cell BK200.out 1).trans rfl
      have hcz8_2 : w3.cell? ⟨gb200, 2, none⟩ = some (.int .i64 a0_2) := (blk_cell BK200.out 2).trans rfl
      have hcz8_3 : w3.cell? ⟨gb200, 3, none⟩ = some (.int .i64 a0_3) := (blk_cell BK200.out 3).trans rfl
      have hcz8_4 : w3.cell? ⟨gb200, 4, none⟩ = some (.int .i64 a0_4) := (blk_cell BK200.out 4).trans rfl
      have hfz8_0 := blk_frozen BK200.out 0
      have hfz8_1 := blk_frozen BK200.out 1
      have hfz8_2 := blk_frozen BK200.out 2
      have hfz8_3 := blk_frozen BK200.out 3
      have hfz8_4 := blk_frozen BK200.out 4
      go_wp2
      go_meet
      case rel => exact ⟨_, (false), (by first | rfl | (simp; done) | (simp [*]; done)), H', ⟨by first | omega | exact Nat.le_refl _⟩, ⟨by (with_reducible repeat (first | refine blk_drewN ?_ _ | refine blk_drew ?_ | refine blk_alloc ?_ _)); exact BK200.out⟩, ⟨by repeat (first | (with_reducible first | exact HB.out | apply below_alloc | apply pw_below_drewN | apply below_drew1 | refine below_set ?_ GE200.out) | exact HB.out)⟩⟩
  case rest =>
    clear HC2
    try clear p2
    try clear c4
    try clear c4b0
    try clear c4b1
    try clear c5
    try clear c5b0
    try clear c5b1
    try clear hcz6_0
    try clear hcz6_1
    try clear hcz6_2
    try clear hcz6_3
    try clear hcz6_4
    try clear hcz7_0
    try clear hcz7_1
    try clear hcz7_2
    try clear hcz7_3
    try clear hcz7_4
    try clear hcz8_0
    try clear hcz8_1
    try clear hcz8_2
    try clear hcz8_3
    try clear hcz8_4
    try clear hfz6_0
    try clear hfz6_1
    try clear hfz6_2
    try clear hfz6_3
    try clear hfz6_4
    try clear hfz7_0
    try clear hfz7_1
    try clear hfz7_2
    try clear hfz7_3
    try clear hfz7_4
    try clear hfz8_0
    try clear hfz8_1
    try clear hfz8_2
    try clear hfz8_3
    try clear hfz8_4
    obtain ⟨kq, x3_1, rfl, HA, HJ1, BK200, HB⟩ := hcut
    cases kq with
    | zero => exact absurd HA.out (by simp [skymosaicref32_Valid.j0])
    | succ kj1 =>
      have H := HA.out
      clear HA
      simp only [skymosaicref32_Valid.j0] at H
      have HC9 := Aside0.mk H
      clear H
      have hcz10_0 : wc.cell? ⟨gb200, 0, none⟩ = some (.int .i64 a0_0) := (blk_cell BK200.out 0).trans rfl
      have hcz10_1 : wc.cell? ⟨gb200, 1, none⟩ = some (.int .i64 a0_1) := (blk_cell BK200.out 1).trans rfl
      have hcz10_2 : wc.cell? ⟨gb200, 2, none⟩ = some (.int .i64 a0_2) := (blk_cell BK200.out 2).trans rfl
      have hcz10_3 : wc.cell? ⟨gb200, 3, none⟩ = some (.int .i64 a0_3) := (blk_cell BK200.out 3).trans rfl
      have hcz10_4 : wc.cell? ⟨gb200, 4, none⟩ = some (.int .i64 a0_4) := (blk_cell BK200.out 4).trans rfl
      have hfz10_0 := blk_frozen BK200.out 0
      have hfz10_1 := blk_frozen BK200.out 1
      have hfz10_2 := blk_frozen BK200.out 2
      have hfz10_3 := blk_frozen BK200.out 3
      have hfz10_4 := blk_frozen BK200.out 4
      go_upto_if 22 with (fail)
      go_cut [22] (fun v22 wc => ∃ (kq : Nat) (x22_8 : Bool), v22 = .bool x22_8 ∧ Aside0 (skymosaicref32_Valid.j1 kq x3_1 a0_0 x22_8 a0_0 a0_1 a0_2 a0_3 a0_4 = some r) ∧ Aside0 (kq ≤ kj1) ∧ Aside0 (wc.heap[gb200]? = some (.cells #[.int .i64 a0_0, .int .i64 a0_1, .int .i64 a0_2, .int .i64 a0_3, .int .i64 a0_4] 56 (0, 0))) ∧ Aside0 (Below w.heap.size w wc))
      case first =>
        have H := HC9.out
        clear HC9
        by_cases c11 : a0_0 = 0
        · rw [if_pos c11] at H
          have c11b0 : (a0_0 == 0) = true := beq_iff_eq.mpr c11
          have c11b1 : (a0_0 != 0) = false := bne_eq_false_iff_eq.mpr c11
          clear c11
          (first | rw [c11b0] | (simp only [i64_w, i32_w]; rw [c11b0]) | skip)
          have H' := Aside0.mk H
          clear H
          go_wp2
          go_meet
          case rel => exact ⟨_, ((a0_0 == 0)), (by first | rfl | (simp; done) | (simp [*]; done)), H', ⟨by have := HJ1.out; first | omega | exact Nat.le_refl _⟩, ⟨by (with_reducible repeat (first | refine blk_drewN ?_ _ | refine blk_drew ?_ | refine blk_alloc ?_ _)); exact BK200.out⟩, ⟨by repeat (first | (with_reducible first | exact HB.out | apply below_alloc | apply pw_below_drewN | apply below_drew1 | refine below_set ?_ GE200.out) | exact HB.out)⟩⟩
        · rw [if_neg c11] at H
          have c11b0 : (a0_0 == 0) = false := beq_eq_false_iff_ne.mpr c11
          have c11b1 : (a0_0 != 0) = true := bne_iff_ne.mpr c11
          (first | rw [c11b0] | (simp only [i64_w, i32_w]; rw [c11b0]) | skip)
          by_cases c12 : a0_0 = 1
          · rw [if_pos c12] at H
            have c12b0 : (a0_0 == 1) = true := beq_iff_eq.mpr c12
            have c12b1 : (a0_0 != 1) = false := bne_eq_false_iff_eq.mpr c12
            clear c12
            have H' := Aside0.mk H
            clear H
            go_wp2
            go_meet
            case rel => exact ⟨_, ((a0_0 == 1)), (by first | rfl | (simp; done) | (simp [*]; done)), H', ⟨by have := HJ1.out; first | omega | exact Nat.le_refl _⟩, ⟨by (with_reducible repeat (first | refine blk_drewN ?_ _ | refine blk_drew ?_ | refine blk_alloc ?_ _)); exact BK200.out⟩, ⟨by repeat (first | (with_reducible first | exact HB.out | apply below_alloc | apply pw_below_drewN | apply below_drew1 | refine below_set ?_ GE200.out) | exact HB.out)⟩⟩
          · rw [if_neg c12] at H
            have c12b0 : (a0_0 == 1) = false := beq_eq_false_iff_ne.mpr c12
            have c12b1 : (a0_0 != 1) = true := bne_iff_ne.mpr c12
            have H' := Aside0.mk H
            clear H
            go_wp2
            go_meet
            case rel => exact ⟨_, ((a0_0 == 2)), (by first | rfl | (simp; done) | (simp [*]; done)), H', ⟨by have := HJ1.out; first | omega | exact Nat.le_refl _⟩, ⟨by (with_reducible repeat (first | refine blk_drewN ?_ _ | refine blk_drew ?_ | refine blk_alloc ?_ _)); exact BK200.out⟩, ⟨by repeat (first | (with_reducible first | exact HB.out | apply below_alloc | apply pw_below_drewN | apply below_drew1 | refine below_set ?_ GE200.out) | exact HB.out)⟩⟩
      case rest =>
        clear HC9
        try clear c1
        try clear p2
        try clear c4
        try clear c4b0
        try clear c4b1
        try clear c5
        try clear c5b0
        try clear c5b1
        try clear c11
        try clear c11b0
        try clear c11b1
        try clear c12
        try clear c12b0
        try clear c12b1
        try clear hcz10_0
        try clear hcz10_1
        try clear hcz10_2
        try clear hcz10_3
        try clear hcz10_4
        try clear hcz6_0
        try clear hcz6_1
        try clear hcz6_2
        try clear hcz6_3
        try clear hcz6_4
        try clear hcz7_0
        try clear hcz7_1
        try clear hcz7_2
        try clear hcz7_3
        try clear hcz7_4
        try clear hcz8_0
        try clear hcz8_1
        try clear hcz8_2
        try clear hcz8_3
        try clear hcz8_4
        try clear hfz10_0
        try clear hfz10_1
        try clear hfz10_2
        try clear hfz10_3
        try clear hfz10_4
        try clear hfz6_0
        try clear hfz6_1
        try clear hfz6_2
        try clear hfz6_3
        try clear hfz6_4
        try clear hfz7_0
        try clear hfz7_1
        try clear hfz7_2
        try clear hfz7_3
        try clear hfz7_4
        try clear hfz8_0
        try clear hfz8_1
        try clear hfz8_2
        try clear hfz8_3
        try clear hfz8_4
        try clear p2
        obtain ⟨kq, x22_8, rfl, HA, HJ8, BK200, HB⟩ := hcut
        cases kq with
        | zero => exact absurd HA.out (by simp [skymosaicref32_Valid.j1])
        | succ kj8 =>
          have H := HA.out
          clear HA
          simp only [skymosaicref32_Valid.j1] at H
          by_cases c13 : x22_8 = true
          · subst c13
            have H1 : (if x3_1 = true then (if a0_1 ≥ 0 then (some (decide (a0_1 < 4096))) else (some false)) else (some false)) = some r := by rw [if_pos rfl] at H; exact H
            clear H
            have H := H1
            clear H1
            by_cases c14 : x3_1 = true
            · subst c14
              have H1 : (if a0_1 ≥ 0 then (some (decide (a0_1 < 4096))) else (some false)) = some r := by rw [if_pos rfl] at H; exact H
              clear H
              have H := H1
              clear H1
              by_cases c15 : a0_1 ≥ 0
              · rw [if_pos c15] at H
                have c15b0 : decide (0 ≤ a0_1) = true := decide_eq_true c15
                clear c15
                obtain rfl := Option.some.inj H
                have hcz16_0 : wc.cell? ⟨gb200, 0, none⟩ = some (.int .i64 a0_0) := (blk_cell BK200.out 0).trans rfl
                have hcz16_1 : wc.cell? ⟨gb200, 1, none⟩ = some (.int .i64 a0_1) := (blk_cell BK200.out 1).trans rfl
                have hcz16_2 : wc.cell? ⟨gb200, 2, none⟩ = some (.int .i64 a0_2) := (blk_cell BK200.out 2).trans rfl
                have hcz16_3 : wc.cell? ⟨gb200, 3, none⟩ = some (.int .i64 a0_3) := (blk_cell BK200.out 3).trans rfl
                have hcz16_4 : wc.cell? ⟨gb200, 4, none⟩ = some (.int .i64 a0_4) := (blk_cell BK200.out 4).trans rfl
                have hfz16_0 := blk_frozen BK200.out 0
                have hfz16_1 := blk_frozen BK200.out 1
                have hfz16_2 := blk_frozen BK200.out 2
                have hfz16_3 := blk_frozen BK200.out 3
                have hfz16_4 := blk_frozen BK200.out 4
                go_wp2
                go_ret
                exact ⟨by first | rfl | (simp [errW_none, errW_some] <;> rfl) | (simp [*, errW_none, errW_some] <;> rfl), by repeat (first | (with_reducible first | exact HB.out | apply below_alloc | apply pw_below_drewN | apply below_drew1 | refine below_set ?_ GE200.out) | exact HB.out)⟩
              · rw [if_neg c15] at H
                have c15b0 : decide (0 ≤ a0_1) = false := decide_eq_false c15
                clear c15
                obtain rfl := Option.some.inj H
                have hcz17_0 : wc.cell? ⟨gb200, 0, none⟩ = some (.int .i64 a0_0) := (blk_cell BK200.out 0).trans rfl
                have hcz17_1 : wc.cell? ⟨gb200, 1, none⟩ = some (.int .i64 a0_1) := (blk_cell BK200.out 1).trans rfl
                have hcz17_2 : wc.cell? ⟨gb200, 2, none⟩ = some (.int .i64 a0_2) := (blk_cell BK200.out 2).trans rfl
                have hcz17_3 : wc.cell? ⟨gb200, 3, none⟩ = some (.int .i64 a0_3) := (blk_cell BK200.out 3).trans rfl
                have hcz17_4 : wc.cell? ⟨gb200, 4, none⟩ = some (.int .i64 a0_4) := (blk_cell BK200.out 4).trans rfl
                have hfz17_0 := blk_frozen BK200.out 0
                have hfz17_1 := blk_frozen BK200.out 1
                have hfz17_2 := blk_frozen BK200.out 2
                have hfz17_3 := blk_frozen BK200.out 3
                have hfz17_4 := blk_frozen BK200.out 4
                go_wp2
                go_ret
                exact ⟨by first | rfl | (simp [errW_none, errW_some] <;> rfl) | (simp [*, errW_none, errW_some] <;> rfl), by repeat (first | (with_reducible first | exact HB.out | apply below_alloc | apply pw_below_drewN | apply below_drew1 | refine below_set ?_ GE200.out) | exact HB.out)⟩
            · replace c14 := Bool.eq_false_iff.mpr c14
              subst c14
              have H1 : (some false) = some r := by rw [if_neg (show ¬ (false = true) by decide)] at H; exact H
              clear H
              have H := H1
              clear H1
              obtain rfl := Option.some.inj H
              go_wp2
              go_ret
              exact ⟨by first | rfl | (simp [errW_none, errW_some] <;> rfl) | (simp [*, errW_none, errW_some] <;> rfl), by repeat (first | (with_reducible first | exact HB.out | apply below_alloc | apply pw_below_drewN | apply below_drew1 | refine below_set ?_ GE200.out) | exact HB.out)⟩
          · replace c13 := Bool.eq_false_iff.mpr c13
            subst c13
            have H1 : (if a0_0 = 3 then (if a0_1 = 0 then ((skymosaicref23_ValidKey.f kj8 a0_2 a0_3 a0_4).bind fun t201 => (some (t201 == 0))) else (some false)) else (if a0_0 = 4 then (if x3_1 = true then (some (a0_1 == 0)) else (some false)) else (some false))) = some r := by rw [if_neg (show ¬ (false = true) by decide)] at H; exact H
            clear H
            have H := H1
            clear H1
            by_cases c18 : a0_0 = 3
            · rw [if_pos c18] at H
              have c18b0 : (a0_0 == 3) = true := beq_iff_eq.mpr c18
              have c18b1 : (a0_0 != 3) = false := bne_eq_false_iff_eq.mpr c18
              clear c18
              by_cases c19 : a0_1 = 0
              · rw [if_pos c19] at H
                have c19b0 : (a0_1 == 0) = true := beq_iff_eq.mpr c19
                have c19b1 : (a0_1 != 0) = false := bne_eq_false_iff_eq.mpr c19
                clear c19
                replace H := Option.bind_eq_some_iff.mp H
                obtain ⟨t201, A200, H⟩ := H
                replace H : (some (t201 == 0)) = some r := H
                have A20 := Aside0.mk A200
                clear A200
                obtain rfl := Option.some.inj H
                have hcz21_0 : wc.cell? ⟨gb200, 0, none⟩ = some (.int .i64 a0_0) := (blk_cell BK200.out 0).trans rfl
                have hcz21_1 : wc.cell? ⟨gb200, 1, none⟩ = some (.int .i64 a0_1) := (blk_cell BK200.out 1).trans rfl
                have hcz21_2 : wc.cell? ⟨gb200, 2, none⟩ = some (.int .i64 a0_2) := (blk_cell BK200.out 2).trans rfl
                have hcz21_3 : wc.cell? ⟨gb200, 3, none⟩ = some (.int .i64 a0_3) := (blk_cell BK200.out 3).trans rfl
                have hcz21_4 : wc.cell? ⟨gb200, 4, none⟩ = some (.int .i64 a0_4) := (blk_cell BK200.out 4).trans rfl
                have hfz21_0 := blk_frozen BK200.out 0
                have hfz21_1 := blk_frozen BK200.out 1
                have hfz21_2 := blk_frozen BK200.out 2
                have hfz21_3 := blk_frozen BK200.out 3
                have hfz21_4 := blk_frozen BK200.out 4
                go_wp2_with (first | (go_at_call 39; (with_reducible refine (skymosaicref23_ValidKey.calls kj8 a0_2 a0_3 a0_4 t201 _ A20.out).mono ?_); rintro e w22 ⟨rfl, hb⟩; have n0_ := Aside0.mk (blk_below (g := gb200) (o := .cells #[.int .i64 a0_0, .int .i64 a0_1, .int .i64 a0_2, .int .i64 a0_3, .int .i64 a0_4] 56 (0, 0)) (by (with_reducible repeat (first | refine blk_drewN ?_ _ | refine blk_drew ?_ | refine blk_alloc ?_ _)); exact BK200.out) hb); have n1_ := Aside0.mk (below_step (by repeat (first | (with_reducible first | exact HB.out | apply below_alloc | apply pw_below_drewN | apply below_drew1 | refine below_set ?_ GE200.out) | exact HB.out)) hb); clear BK200; clear HB; have BK200 := n0_; have HB := n1_; clear n0_ n1_; (try clear hb); (try clear hb2); (try clear hk); (try clear hi)))
                go_ret
                exact ⟨by first | rfl | (simp [errW_none, errW_some] <;> rfl) | (simp [*, errW_none, errW_some] <;> rfl), by repeat (first | (with_reducible first | exact HB.out | apply below_alloc | apply pw_below_drewN | apply below_drew1 | refine below_set ?_ GE200.out) | exact HB.out)⟩
              · rw [if_neg c19] at H
                have c19b0 : (a0_1 == 0) = false := beq_eq_false_iff_ne.mpr c19
                have c19b1 : (a0_1 != 0) = true := bne_iff_ne.mpr c19
                obtain rfl := Option.some.inj H
                have hcz23_0 : wc.cell? ⟨gb200, 0, none⟩ = some (.int .i64 a0_0) := (blk_cell BK200.out 0).trans rfl
                have hcz23_1 : wc.cell? ⟨gb200, 1, none⟩ = some (.int .i64 a0_1) := (blk_cell BK200.out 1).trans rfl
                have hcz23_2 : wc.cell? ⟨gb200, 2, none⟩ = some (.int .i64 a0_2) := (blk_cell BK200.out 2).trans rfl
                have hcz23_3 : wc.cell? ⟨gb200, 3, none⟩ = some (.int .i64 a0_3) := (blk_cell BK200.out 3).trans rfl
                have hcz23_4 : wc.cell? ⟨gb200, 4, none⟩ = some (.int .i64 a0_4) := (blk_cell BK200.out 4).trans rfl
                have hfz23_0 := blk_frozen BK200.out 0
                have hfz23_1 := blk_frozen BK200.out 1
                have hfz23_2 := blk_frozen BK200.out 2
                have hfz23_3 := blk_frozen BK200.out 3
                have hfz23_4 := blk_frozen BK200.out 4
                go_wp2
                go_ret
                exact ⟨by first | rfl | (simp [errW_none, errW_some] <;> rfl) | (simp [*, errW_none, errW_some] <;> rfl), by repeat (first | (with_reducible first | exact HB.out | apply below_alloc | apply pw_below_drewN | apply below_drew1 | refine below_set ?_ GE200.out) | exact HB.out)⟩
            · rw [if_neg c18] at H
              have c18b0 : (a0_0 == 3) = false := beq_eq_false_iff_ne.mpr c18
              have c18b1 : (a0_0 != 3) = true := bne_iff_ne.mpr c18
              by_cases c24 : a0_0 = 4
              · rw [if_pos c24] at H
                have c24b0 : (a0_0 == 4) = true := beq_iff_eq.mpr c24
                have c24b1 : (a0_0 != 4) = false := bne_eq_false_iff_eq.mpr c24
                clear c24
                by_cases c25 : x3_1 = true
                · subst c25
                  have H1 : (some (a0_1 == 0)) = some r := by rw [if_pos rfl] at H; exact H
                  clear H
                  have H := H1
                  clear H1
                  obtain rfl := Option.some.inj H
                  have hcz26_0 : wc.cell? ⟨gb200, 0, none⟩ = some (.int .i64 a0_0) := (blk_cell BK200.out 0).trans rfl
                  have hcz26_1 : wc.cell? ⟨gb200, 1, none⟩ = some (.int .i64 a0_1) := (blk_cell BK200.out 1).trans rfl
                  have hcz26_2 : wc.cell? ⟨gb200, 2, none⟩ = some (.int .i64 a0_2) := (blk_cell BK200.out 2).trans rfl
                  have hcz26_3 : wc.cell? ⟨gb200, 3, none⟩ = some (.int .i64 a0_3) := (blk_cell BK200.out 3).trans rfl
                  have hcz26_4 : wc.cell? ⟨gb200, 4, none⟩ = some (.int .i64 a0_4) := (blk_cell BK200.out 4).trans rfl
                  have hfz26_0 := blk_frozen BK200.out 0
                  have hfz26_1 := blk_frozen BK200.out 1
                  have hfz26_2 := blk_frozen BK200.out 2
                  have hfz26_3 := blk_frozen BK200.out 3
                  have hfz26_4 := blk_frozen BK200.out 4
                  go_wp2
                  go_ret
                  exact ⟨by first | rfl | (simp [errW_none, errW_some] <;> rfl) | (simp [*, errW_none, errW_some] <;> rfl), by repeat (first | (with_reducible first | exact HB.out | apply below_alloc | apply pw_below_drewN | apply below_drew1 | refine below_set ?_ GE200.out) | exact HB.out)⟩
                · replace c25 := Bool.eq_false_iff.mpr c25
                  subst c25
                  have H1 : (some false) = some r := by rw [if_neg (show ¬ (false = true) by decide)] at H; exact H
                  clear H
                  have H := H1
                  clear H1
                  obtain rfl := Option.some.inj H
                  go_wp2
                  go_ret
                  exact ⟨by first | rfl | (simp [errW_none, errW_some] <;> rfl) | (simp [*, errW_none, errW_some] <;> rfl), by repeat (first | (with_reducible first | exact HB.out | apply below_alloc | apply pw_below_drewN | apply below_drew1 | refine below_set ?_ GE200.out) | exact HB.out)⟩
              · rw [if_neg c24] at H
                have c24b0 : (a0_0 == 4) = false := beq_eq_false_iff_ne.mpr c24
                have c24b1 : (a0_0 != 4) = true := bne_iff_ne.mpr c24
                obtain rfl := Option.some.inj H
                go_wp2
                go_ret
                exact ⟨by first | rfl | (simp [errW_none, errW_some] <;> rfl) | (simp [*, errW_none, errW_some] <;> rfl), by repeat (first | (with_reducible first | exact HB.out | apply below_alloc | apply pw_below_drewN | apply below_drew1 | refine below_set ?_ GE200.out) | exact HB.out)⟩
end Go.Proofs.Ytokambhemoeloaa.PA
end
section
namespace Go.Proofs.Ytokambhemoeloaa.PA
open Go.RowKit Go.Proofs.YtokambhemoeloaaW.PrintWords Go.Proofs.YtokambhemoeloaaW.PrintLast Go.Proofs.YtokambhemoeloaaW.PrintMore
attribute [local go_sem] max2_int min2_int max_two min_two max_three min_three max_four min_four   -- for this text's walks alone
set_option linter.unusedVariables false
set_option linter.unusedSimpArgs false
attribute [local go_sem high] eqA34 eqA51
def deps_valid.j0 : Nat → Int → Bool → Int → Int → Int → Int → Int → Option (Bool)
  | 0, _, _, _, _, _, _, _ => none
  | k + 1, x4, x5, x302000, x302001, x302002, x302003, x302004 => if x5 = true then (if x302001 ≥ 0 then (if x302001 < 4096 then (some (x302002 == 0 && (x302003 == 0 && (x302004 == 0)))) else (some false)) else (some false)) else (if x4 = 3 then (if x302001 = 0 then ((blend_ValidKey.f x302002 x302003 x302004).bind fun t302 => (some (t302 == 0))) else (some false)) else (some (x302000 == 4 && (x302001 == 0 && ((x302002 == 0 && (x302003 == 0 && (x302004 == 0))))))))
def deps_valid.f (k : Nat) (a0_0 : Int) (a0_1 : Int) (a0_2 : Int) (a0_3 : Int) (a0_4 : Int) : Option (Bool) := if a0_0 = 0 then (deps_valid.j0 k a0_0 (a0_0 == 0) a0_0 a0_1 a0_2 a0_3 a0_4) else (if a0_0 = 1 then (deps_valid.j0 k a0_0 (a0_0 == 1) a0_0 a0_1 a0_2 a0_3 a0_4) else (deps_valid.j0 k a0_0 (a0_0 == 2) a0_0 a0_1 a0_2 a0_3 a0_4))
theorem deps_valid.mono_l : ∀ k, (∀ y0 y1 y2 y3 y4 y5 y6, LeO (deps_valid.j0 k y0 y1 y2 y3 y4 y5 y6) (deps_valid.j0 (k + 1) y0 y1 y2 y3 y4 y5 y6))
  | 0 => fun _ _ _ _ _ _ _ r h => by simp [deps_valid.j0] at h
  | k + 1 => by
    have ih0 := deps_valid.mono_l k
    · intro y0 y1 y2 y3 y4 y5 y6
      unfold deps_valid.j0
      repeat' first
      | (with_reducible exact ih0 _ _ _ _ _ _ _)
      | (with_reducible exact LeO.refl _)
      | (with_reducible exact LeO.none _)
      | (with_reducible refine LeO.ite ?_ ?_)
      | (with_reducible refine LeO.bind ?_ (fun _ => ?_))
      | exact ih0 _ _ _ _ _ _ _
      | exact LeO.none _
      | refine LeO.ite ?_ ?_
      | refine LeO.bind ?_ (fun _ => ?_)
theorem deps_valid.mono : ∀ a0 a1 a2 a3 a4 k, LeO (deps_valid.f k a0 a1 a2 a3 a4) (deps_valid.f (k + 1) a0 a1 a2 a3 a4) := by
  intro a0 a1 a2 a3 a4 k
  have ih0 := deps_valid.mono_l k
  unfold deps_valid.f
  repeat' first
      | (with_reducible exact ih0 _ _ _ _ _ _ _)
      | (with_reducible exact LeO.refl _)
      | (with_reducible exact LeO.none _)
      | (with_reducible refine LeO.ite ?_ ?_)
      | (with_reducible refine LeO.bind ?_ (fun _ => ?_))
      | exact ih0 _ _ _ _ _ _ _
      | exact LeO.none _
      | refine LeO.ite ?_ ?_
      | refine LeO.bind ?_ (fun _ => ?_)
set_option maxHeartbeats 8000000 in
set_option maxRecDepth 100000 in
theorem deps_valid.calls (k : Nat) (a0_0 : Int) (a0_1 : Int) (a0_2 : Int) (a0_3 : Int) (a0_4 : Int) (r : Bool) (w : World) (h : deps_valid.f k a0_0 a0_1 a0_2 a0_3 a0_4 = some r) :
    Calls Try.prog 34 #[.agg #[.int .i64 a0_0, .int .i64 a0_1, .int .i64 a0_2, .int .i64 a0_3, .int .i64 a0_4]] w fun e w' => e = .returned (.bool r) ∧ Below w.heap.size w w' := by
  have hu51 := Try.underlying51
  have hu34 := Try.underlying34
  have HB := Aside0.mk (Below.refl w.heap.size w)
  have H : (if a0_0 = 0 then (deps_valid.j0 k a0_0 (a0_0 == 0) a0_0 a0_1 a0_2 a0_3 a0_4) else (if a0_0 = 1 then (deps_valid.j0 k a0_0 (a0_0 == 1) a0_0 a0_1 a0_2 a0_3 a0_4) else (deps_valid.j0 k a0_0 (a0_0 == 2) a0_0 a0_1 a0_2 a0_3 a0_4))) = some r := h
  clear h
  have HC2 := Aside0.mk H
  clear H
  go_enter Try.func34, Try.ntmps34
  go_upto_if 5 with (first | ((with_reducible refine gate_dst (N := 1) rfl ?_); refine box_event ?hg (N := 1) ?hd (cs := #[.int .i64 a0_0, .int .i64 a0_1, .int .i64 a0_2, .int .i64 a0_3, .int .i64 a0_4]) (t := 51) ?hr ?_; (case hd => rfl); (case hg => rfl); (case hr => first | (go_simp; done) | (go_simp; rfl)); intro gb301 hg w3 hbox hb; have n0_ := Aside0.mk (below_step (by repeat (first | (with_reducible first | exact HB.out | apply below_alloc | apply pw_below_drewN | apply below_drew1) | exact HB.out)) hb); have n1_ := Aside0.mk (hbox); have n2_ := Aside0.mk ((by rw [hg]; exact (below_size (by repeat (first | (with_reducible first | exact HB.out | apply below_alloc | apply pw_below_drewN | apply below_drew1) | exact HB.out))) : w.heap.size ≤ gb301)); have n3_ := Aside0.mk ((by rw [hg]; exact (below_size (by repeat (first | (with_reducible first | exact HB.out | apply below_alloc | apply pw_below_drewN | apply below_drew1) | exact HB.out))) : w.heap.size ≤ gb301)); clear HB; have HB := n0_; have BK301 := n1_; have GW301 := n2_; have GE301 := n3_; clear n0_ n1_ n2_ n3_; clear hb hbox hg; have hcz4_0 : w3.cell? ⟨gb301, 0, none⟩ = some (.int .i64 a0_0) := (blk_cell BK301.out 0).trans rfl; have hcz4_1 : w3.cell? ⟨gb301, 1, none⟩ = some (.int .i64 a0_1) := (blk_cell BK301.out 1).trans rfl; have hcz4_2 : w3.cell? ⟨gb301, 2, none⟩ = some (.int .i64 a0_2) := (blk_cell BK301.out 2).trans rfl; have hcz4_3 : w3.cell? ⟨gb301, 3, none⟩ = some (.int .i64 a0_3) := (blk_cell BK301.out 3).trans rfl; have hcz4_4 : w3.cell? ⟨gb301, 4, none⟩ = some (.int .i64 a0_4) := (blk_cell BK301.out 4).trans rfl; have hfz4_0 := blk_frozen BK301.out 0; have hfz4_1 := blk_frozen BK301.out 1; have hfz4_2 := blk_frozen BK301.out 2; have hfz4_3 := blk_frozen BK301.out 3; have hfz4_4 := blk_frozen BK301.out 4))
  (try simp only [Act.put, List.setIfInBounds_toArray, List.set_cons_zero, List.set_cons_succ])
  go_cut [5] (fun v5 wc => ∃ (kq : Nat) (x5_1 : Bool), v5 = .bool x5_1 ∧ Aside0 (deps_valid.j0 kq a0_0 x5_1 a0_0 a0_1 a0_2 a0_3 a0_4 = some r) ∧ Aside0 (kq ≤ k) ∧ Aside0 (wc.heap[gb301]? = some (.cells #[.int .i64 a0_0, .int .i64 a0_1, .int .i64 a0_2, .int .i64 a0_3, .int .i64 a0_4] 51 (0, 0))) ∧ Aside0 (Below w.heap.size w wc))
  case first =>
    have H := HC2.out
    clear HC2
    by_cases c5 : a0_0 = 0
    · rw [if_pos c5] at H
      have c5b0 : (a0_0 == 0) = true := beq_iff_eq.mpr c5
      have c5b1 : (a0_0 != 0) = false := bne_eq_false_iff_eq.mpr c5
      clear c5
      (first | rw [c5b0] | (simp only [i64_w, i32_w]; rw [c5b0]) | skip)
      have H' := Aside0.mk H
      clear H
      go_wp2
      go_meet
      case rel => exact ⟨_, ((a0_0 == 0)), (by first | rfl | (simp; done) | (simp [*]; done)), H', ⟨by first | omega | exact Nat.le_refl _⟩, ⟨by (with_reducible repeat (first | refine blk_drewN ?_ _ | refine blk_drew ?_ | refine blk_alloc ?_ _)); exact BK301.out⟩, ⟨by repeat (first | (with_reducible first | exact HB.out | apply below_alloc | apply pw_below_drewN | apply below_drew1 | refine below_set ?_ GE301.out) | exact HB.out)⟩⟩
    · rw [if_neg c5] at H
      have c5b0 : (a0_0 == 0) = false := beq_eq_false_iff_ne.mpr c5
      have c5b1 : (a0_0 != 0) = true := bne_iff_ne.mpr c5
      (first | rw [c5b0] | (simp only [i64_w, i32_w]; rw [c5b0]) | skip)
      by_cases c6 : a0_0 = 1
      · rw [if_pos c6] at H
        have c6b0 : (a0_0 == 1) = true := beq_iff_eq.mpr c6
        have c6b1 : (a0_0 != 1) = false := bne_eq_false_iff_eq.mpr c6
        clear c6
        have H' := Aside0.mk H
        clear H
        go_wp2
        go_meet
        case rel => exact ⟨_, ((a0_0 == 1)), (by first | rfl | (simp; done) | (simp [*]; done)), H', ⟨by first | omega | exact Nat.le_refl _⟩, ⟨by (with_reducible repeat (first | refine blk_drewN ?_ _ | refine blk_drew ?_ | refine blk_alloc ?_ _)); exact BK301.out⟩, ⟨by repeat (first | (with_reducible first | exact HB.out | apply below_alloc | apply pw_below_drewN | apply below_drew1 | refine below_set ?_ GE301.out) | exact HB.out)⟩⟩
      · rw [if_neg c6] at H
        have c6b0 : (a0_0 == 1) = false := beq_eq_false_iff_ne.mpr c6
        have c6b1 : (a0_0 != 1) = true := bne_iff_ne.mpr c6
        have H' := Aside0.mk H
        clear H
        go_wp2
        go_meet
        case rel => exact ⟨_, ((a0_0 == 2)), (by first | rfl | (simp; done) | (simp [*]; done)), H', ⟨by first | omega | exact Nat.le_refl _⟩, ⟨by (with_reducible repeat (first | refine blk_drewN ?_ _ | refine blk_drew ?_ | refine blk_alloc ?_ _)); exact BK301.out⟩, ⟨by repeat (first | (with_reducible first | exact HB.out | apply below_alloc | apply pw_below_drewN | apply below_drew1 | refine below_set ?_ GE301.out) | exact HB.out)⟩⟩
  case rest =>
    clear HC2
    try clear p2
    try clear c3
    try clear c5
    try clear c5b0
    try clear c5b1
    try clear c6
    try clear c6b0
    try clear c6b1
    try clear hcz4_0
    try clear hcz4_1
    try clear hcz4_2
    try clear hcz4_3
    try clear hcz4_4
    try clear hfz4_0
    try clear hfz4_1
    try clear hfz4_2
    try clear hfz4_3
    try clear hfz4_4
    obtain ⟨kq, x5_1, rfl, HA, HJ1, BK301, HB⟩ := hcut
    cases kq with
    | zero => exact absurd HA.out (by simp [deps_valid.j0])
    | succ kj1 =>
      have H := HA.out
      clear HA
      simp only [deps_valid.j0] at H
      by_cases c7 : x5_1 = true
      · subst c7
        have H1 : (if a0_1 ≥ 0 then (if a0_1 < 4096 then (some (a0_2 == 0 && (a0_3 == 0 && (a0_4 == 0)))) else (some false)) else (some false)) = some r := by rw [if_pos rfl] at H; exact H
        clear H
        have H := H1
        clear H1
        by_cases c8 : a0_1 ≥ 0
        · rw [if_pos c8] at H
          have c8b0 : decide (0 ≤ a0_1) = true := decide_eq_true c8
          clear c8
          by_cases c9 : a0_1 < 4096
          · rw [if_pos c9] at H
            have c9b0 : decide (a0_1 < 4096) = true := decide_eq_true c9
            clear c9
            obtain rfl := Option.some.inj H
            have hcz10_0 : wc.cell? ⟨gb301, 0, none⟩ = some (.int .i64 a0_0) := (blk_cell BK301.out 0).trans rfl
            have hcz10_1 : wc.cell? ⟨gb301, 1, none⟩ = some (.int .i64 a0_1) := (blk_cell BK301.out 1).trans rfl
            have hcz10_2 : wc.cell? ⟨gb301, 2, none⟩ = some (.int .i64 a0_2) := (blk_cell BK301.out 2).trans rfl
            have hcz10_3 : wc.cell? ⟨gb301, 3, none⟩ = some (.int .i64 a0_3) := (blk_cell BK301.out 3).trans rfl
            have hcz10_4 : wc.cell? ⟨gb301, 4, none⟩ = some (.int .i64 a0_4) := (blk_cell BK301.out 4).trans rfl
            have hfz10_0 := blk_frozen BK301.out 0
            have hfz10_1 := blk_frozen BK301.out 1
            have hfz10_2 := blk_frozen BK301.out 2
            have hfz10_3 := blk_frozen BK301.out 3
            have hfz10_4 := blk_frozen BK301.out 4
            go_wp2
            go_ret
            exact ⟨by first | rfl | (simp [errW_none, errW_some] <;> rfl) | (simp [*, errW_none, errW_some] <;> rfl), by repeat (first | (with_reducible first | exact HB.out | apply below_alloc | apply pw_below_drewN | apply below_drew1 | refine below_set ?_ GE301.out) | exact HB.out)⟩
          · rw [if_neg c9] at H
            have c9b0 : decide (a0_1 < 4096) = false := decide_eq_false c9
            clear c9
            obtain rfl := Option.some.inj H
            have hcz11_0 : wc.cell? ⟨gb301, 0, none⟩ = some (.int .i64 a0_0) := (blk_cell BK301.out 0).trans rfl
            have hcz11_1 : wc.cell? ⟨gb301, 1, none⟩ = some (.int .i64 a0_1) := (blk_cell BK301.out 1).trans rfl
            have hcz11_2 : wc.cell? ⟨gb301, 2, none⟩ = some (.int .i64 a0_2) := (blk_cell BK301.out 2).trans rfl
            have hcz11_3 : wc.cell? ⟨gb301, 3, none⟩ = some (.int .i64 a0_3) := (blk_cell BK301.out 3).trans rfl
            have hcz11_4 : wc.cell? ⟨gb301, 4, none⟩ = some (.int .i64 a0_4) := (blk_cell BK301.out 4).trans rfl
            have hfz11_0 := blk_frozen BK301.out 0
            have hfz11_1 := blk_frozen BK301.out 1
            have hfz11_2 := blk_frozen BK301.out 2
            have hfz11_3 := blk_frozen BK301.out 3
            have hfz11_4 := blk_frozen BK301.out 4
            go_wp2
            go_ret
            exact ⟨by first | rfl | (simp [errW_none, errW_some] <;> rfl) | (simp [*, errW_none, errW_some] <;> rfl), by repeat (first | (with_reducible first | exact HB.out | apply below_alloc | apply pw_below_drewN | apply below_drew1 | refine below_set ?_ GE301.out) | exact HB.out)⟩
        · rw [if_neg c8] at H
          have c8b0 : decide (0 ≤ a0_1) = false := decide_eq_false c8
          clear c8
          obtain rfl := Option.some.inj H
          have hcz12_0 : wc.cell? ⟨gb301, 0, none⟩ = some (.int .i64 a0_0) := (blk_cell BK301.out 0).trans rfl
          have hcz12_1 : wc.cell? ⟨gb301, 1, none⟩ = some (.int .i64 a0_1) := (blk_cell BK301.out 1).trans rfl
          have hcz12_2 : wc.cell? ⟨gb301, 2, none⟩ = some (.int .i64 a0_2) := (blk_cell BK301.out 2).trans rfl
          have hcz12_3 : wc.cell? ⟨gb301, 3, none⟩ = some (.int .i64 a0_3) := (blk_cell BK301.out 3).trans rfl
          have hcz12_4 : wc.cell? ⟨gb301, 4, none⟩ = some (.int .i64 a0_4) := (blk_cell BK301.out 4).trans rfl
          have hfz12_0 := blk_frozen BK301.out 0
          have hfz12_1 := blk_frozen BK301.out 1
          have hfz12_2 := blk_frozen BK301.out 2
          have hfz12_3 := blk_frozen BK301.out 3
          have hfz12_4 := blk_frozen BK301.out 4
          go_wp2
          go_ret
          exact ⟨by first | rfl | (simp [errW_none, errW_some] <;> rfl) | (simp [*, errW_none, errW_some] <;> rfl), by repeat (first | (with_reducible first | exact HB.out | apply below_alloc | apply pw_below_drewN | apply below_drew1 | refine below_set ?_ GE301.out) | exact HB.out)⟩
      · replace c7 := Bool.eq_false_iff.mpr c7
        subst c7
        have H1 : (if a0_0 = 3 then (if a0_1 = 0 then ((blend_ValidKey.f a0_2 a0_3 a0_4).bind fun t302 => (some (t302 == 0))) else (some false)) else (some (a0_0 == 4 && (a0_1 == 0 && ((a0_2 == 0 && (a0_3 == 0 && (a0_4 == 0)))))))) = some r := by rw [if_neg (show ¬ (false = true) by decide)] at H; exact H
        clear H
        have H := H1
        clear H1
        by_cases c13 : a0_0 = 3
        · rw [if_pos c13] at H
          have c13b0 : (a0_0 == 3) = true := beq_iff_eq.mpr c13
          have c13b1 : (a0_0 != 3) = false := bne_eq_false_iff_eq.mpr c13
          clear c13
          by_cases c14 : a0_1 = 0
          · rw [if_pos c14] at H
            have c14b0 : (a0_1 == 0) = true := beq_iff_eq.mpr c14
            have c14b1 : (a0_1 != 0) = false := bne_eq_false_iff_eq.mpr c14
            clear c14
            replace H := Option.bind_eq_some_iff.mp H
            obtain ⟨t302, A150, H⟩ := H
            replace H : (some (t302 == 0)) = some r := H
            have A15 := Aside0.mk A150
            clear A150
            obtain rfl := Option.some.inj H
            have hcz16_0 : wc.cell? ⟨gb301, 0, none⟩ = some (.int .i64 a0_0) := (blk_cell BK301.out 0).trans rfl
            have hcz16_1 : wc.cell? ⟨gb301, 1, none⟩ = some (.int .i64 a0_1) := (blk_cell BK301.out 1).trans rfl
            have hcz16_2 : wc.cell? ⟨gb301, 2, none⟩ = some (.int .i64 a0_2) := (blk_cell BK301.out 2).trans rfl
            have hcz16_3 : wc.cell? ⟨gb301, 3, none⟩ = some (.int .i64 a0_3) := (blk_cell BK301.out 3).trans rfl
            have hcz16_4 : wc.cell? ⟨gb301, 4, none⟩ = some (.int .i64 a0_4) := (blk_cell BK301.out 4).trans rfl
            have hfz16_0 := blk_frozen BK301.out 0
            have hfz16_1 := blk_frozen BK301.out 1
            have hfz16_2 := blk_frozen BK301.out 2
            have hfz16_3 := blk_frozen BK301.out 3
            have hfz16_4 := blk_frozen BK301.out 4
            go_wp2_with (first | (go_at_call 31; (with_reducible refine (blend_ValidKey.calls a0_2 a0_3 a0_4 t302 _ A15.out).mono ?_); rintro e w17 ⟨rfl, hb⟩; have n0_ := Aside0.mk (blk_below (g := gb301) (o := .cells #[.int .i64 a0_0, .int .i64 a0_1, .int .i64 a0_2, .int .i64 a0_3, .int .i64 a0_4] 51 (0, 0)) (by (with_reducible repeat (first | refine blk_drewN ?_ _ | refine blk_drew ?_ | refine blk_alloc ?_ _)); exact BK301.out) hb); have n1_ := Aside0.mk (below_step (by repeat (first | (with_reducible first | exact HB.out | apply below_alloc | apply pw_below_drewN | apply below_drew1 | refine below_set ?_ GE301.out) | exact HB.out)) hb); clear BK301; clear HB; have BK301 := n0_; have HB := n1_; clear n0_ n1_; (try clear hb); (try clear hb2); (try clear hk); (try clear hi)))
            go_ret
            exact ⟨by first | rfl | (simp [errW_none, errW_some] <;> rfl) | (simp [*, errW_none, errW_some] <;> rfl), by repeat (first | (with_reducible first | exact HB.out | apply below_alloc | apply pw_below_drewN | apply below_drew1 | refine below_set ?_ GE301.out) | exact HB.out)⟩
          · rw [if_neg c14] at H
            have c14b0 : (a0_1 == 0) = false := beq_eq_false_iff_ne.mpr c14
            have c14b1 : (a0_1 != 0) = true := bne_iff_ne.mpr c14
            obtain rfl := Option.some.inj H
            have hcz18_0 : wc.cell? ⟨gb301, 0, none⟩ = some (.int .i64 a0_0) := (blk_cell BK301.out 0).trans rfl
            have hcz18_1 : wc.cell? ⟨gb301, 1, none⟩ = some (.int .i64 a0_1) := (blk_cell BK301.out 1).trans rfl
            have hcz18_2 : wc.cell? ⟨gb301, 2, none⟩ = some (.int .i64 a0_2) := (blk_cell BK301.out 2).trans rfl
            have hcz18_3 : wc.cell? ⟨gb301, 3, none⟩ = some (.int .i64 a0_3) := (blk_cell BK301.out 3).trans rfl
            have hcz18_4 : wc.cell? ⟨gb301, 4, none⟩ = some (.int .i64 a0_4) := (blk_cell BK301.out 4).trans rfl
            have hfz18_0 := blk_frozen BK301.out 0
            have hfz18_1 := blk_frozen BK301.out 1
            have hfz18_2 := blk_frozen BK301.out 2
            have hfz18_3 := blk_frozen BK301.out 3
            have hfz18_4 := blk_frozen BK301.out 4
            go_wp2
            go_ret
            exact ⟨by first | rfl | (simp [errW_none, errW_some] <;> rfl) | (simp [*, errW_none, errW_some] <;> rfl), by repeat (first | (with_reducible first | exact HB.out | apply below_alloc | apply pw_below_drewN | apply below_drew1 | refine below_set ?_ GE301.out) | exact HB.out)⟩
        · rw [if_neg c13] at H
          have c13b0 : (a0_0 == 3) = false := beq_eq_false_iff_ne.mpr c13
          have c13b1 : (a0_0 != 3) = true := bne_iff_ne.mpr c13
          obtain rfl := Option.some.inj H
          have hcz19_0 : wc.cell? ⟨gb301, 0, none⟩ = some (.int .i64 a0_0) := (blk_cell BK301.out 0).trans rfl
          have hcz19_1 : wc.cell? ⟨gb301, 1, none⟩ = some (.int .i64 a0_1) := (blk_cell BK301.out 1).trans rfl
          have hcz19_2 : wc.cell? ⟨gb301, 2, none⟩ = some (.int .i64 a0_2) := (blk_cell BK301.out 2).trans rfl
          have hcz19_3 : wc.cell? ⟨gb301, 3, none⟩ = some (.int .i64 a0_3) := (blk_cell BK301.out 3).trans rfl
          have hcz19_4 : wc.cell? ⟨gb301, 4, none⟩ = some (.int .i64 a0_4) := (blk_cell BK301.out 4).trans rfl
          have hfz19_0 := blk_frozen BK301.out 0
          have hfz19_1 := blk_frozen BK301.out 1
          have hfz19_2 := blk_frozen BK301.out 2
          have hfz19_3 := blk_frozen BK301.out 3
          have hfz19_4 := blk_frozen BK301.out 4
          go_wp2
          go_ret
          exact ⟨by first | rfl | (simp [errW_none, errW_some] <;> rfl) | (simp [*, errW_none, errW_some] <;> rfl), by repeat (first | (with_reducible first | exact HB.out | apply below_alloc | apply pw_below_drewN | apply below_drew1 | refine below_set ?_ GE301.out) | exact HB.out)⟩
end Go.Proofs.Ytokambhemoeloaa.PA
end
section
namespace Go.Proofs.Ytokambhemoeloaa.G
open Go.RowKit Go.Proofs.YtokambhemoeloaaW.PrintWords Go.Proofs.YtokambhemoeloaaW.PrintLast Go.Proofs.YtokambhemoeloaaW.PrintMore Go.Proofs.Ytokambhemoeloaa.PA
set_option linter.unusedVariables false
def validD (x : S51) : Bool :=
  if x.f0 = 0 ∨ x.f0 = 1 ∨ x.f0 = 2 then decide (0 ≤ x.f1) && decide (x.f1 < 4096) && decide (x.f2 = ⟨0, 0, 0⟩)
  else if x.f0 = 3 then decide (x.f1 = 0) && vkey x.f2.f0 x.f2.f1 x.f2.f2
  else decide (x.f0 = 4) && decide (x.f1 = 0) && decide (x.f2 = ⟨0, 0, 0⟩)
theorem vkeyE_ok (a b c : Int) : (vkeyE a b c == 0) = vkey a b c := by
  unfold vkeyE; cases vkey a b c <;> simp
theorem vkeyE_ok' (a b c : Int) : decide (vkeyE a b c = 0) = vkey a b c := by
  unfold vkeyE; cases vkey a b c <;> simp
theorem valid_f (x : S51) : deps_valid.f 1 x.f0 x.f1 x.f2.f0 x.f2.f1 x.f2.f2 = some (validD x) := by
  obtain ⟨a, b, ⟨c, d, e⟩⟩ := x
  unfold deps_valid.f validD
  have be : ∀ (x y : Int), (x == y) = decide (x = y) := fun x y => by by_cases h : x = y <;> simp [h]
  simp only [deps_valid.j0, blend_ValidKey.f_eq, Option.bind_some, S34.mk.injEq, be, vkeyE_ok']
  by_cases h0 : a = 0
  · subst h0; by_cases hb : 0 ≤ b <;> by_cases hc : b < 4096 <;> simp [hb, hc]
  by_cases h1 : a = 1
  · subst h1; by_cases hb : 0 ≤ b <;> by_cases hc : b < 4096 <;> simp [hb, hc]
  by_cases h2 : a = 2
  · subst h2; by_cases hb : 0 ≤ b <;> by_cases hc : b < 4096 <;> simp [hb, hc]
  by_cases h3 : a = 3
  · subst h3; by_cases hb : b = 0 <;> simp [hb]
  simp [h0, h1, h2, h3, Bool.and_assoc]
theorem valid_calls (x : S51) (w : World) : Calls Try.prog 34 #[encD x] w fun e w' => e = .returned (.bool (validD x)) ∧ Below w.heap.size w w' :=
  deps_valid.calls 1 _ _ _ _ _ _ w (valid_f x)
theorem halve (n : Nat) (a b c : Int) : ∀ (m : Nat) (x : Int) (i : Int), 0 ≤ i → i ≤ a → (a - i).toNat = m → 0 ≤ x → x ≤ 65536 → a ≤ 16 →
    skymosaicref23_ValidKey.l0 (n + m + 1) x i a b c = some (if -(x / 2 ^ m) ≤ b ∧ b < x / 2 ^ m ∧ -(x / 2 ^ m) ≤ c ∧ c < x / 2 ^ m then 0 else 5) := by
  intro m
  induction m with
  | zero =>
    intro x i h0 h1 h2 h3 h4 h5
    have hi : ¬ i < a := by omega
    rw [skymosaicref23_ValidKey.l0, if_neg hi, show wrap64 (-x) = -x from by unfold wrap64; omega]
    simp only [Int.pow_zero, Int.ediv_one]
    by_cases q1 : b < -x
    · rw [if_pos q1, if_neg (by omega)]
    rw [if_neg q1]
    by_cases q2 : b ≥ x
    · rw [if_pos q2, if_neg (by omega)]
    rw [if_neg q2]
    by_cases q3 : c < -x
    · rw [if_pos q3, if_neg (by omega)]
    rw [if_neg q3]
    by_cases q4 : c ≥ x
    · rw [if_pos q4, if_neg (by omega)]
    rw [if_neg q4, if_pos (by omega)]
  | succ m ih =>
    intro x i h0 h1 h2 h3 h4 h5
    rw [show n + (m + 1) + 1 = (n + m + 1) + 1 from rfl, skymosaicref23_ValidKey.l0, if_pos (by omega)]
    have ht : Int.tdiv x 2 = x / 2 := Int.tdiv_eq_ediv_of_nonneg h3
    rw [ht, show wrap64 (x / 2) = x / 2 from by unfold wrap64; omega, show wrap64 (i + 1) = i + 1 from by unfold wrap64; omega]
    rw [ih (x / 2) (i + 1) (by omega) (by omega) (by omega) (by omega) (by omega) h5]
    have hd : x / 2 / 2 ^ m = x / 2 ^ (m + 1) := by
      rw [Int.ediv_ediv_of_nonneg (by omega), Int.pow_succ, Int.mul_comm]
    rw [hd]
theorem refVK_f (a b c : Int) : skymosaicref23_ValidKey.f 20 a b c = some (vkeyE a b c) := by
  unfold skymosaicref23_ValidKey.f vkeyE vkey most
  by_cases h0 : a < 0
  · rw [if_pos h0]; simp only [skymosaicref23_ValidKey.j0]
    have hd : decide (0 ≤ a) = false := by simp; omega
    simp [hd]
  rw [if_neg h0]
  by_cases h1 : a > 16
  · have hd : decide (a ≤ 16) = false := by simp; omega
    simp [skymosaicref23_ValidKey.j0, h1, hd]
  have hd : decide (a > 16) = false := by simp; omega
  rw [hd]
  have h2 : (0 : Int) ≤ a := by omega
  have h3 : a ≤ 16 := by omega
  simp only [skymosaicref23_ValidKey.j0, Bool.false_eq_true, if_false]
  have := halve (18 - a.toNat) a b c a.toNat 65536 0 (by omega) h2 (by omega) (by omega) (by omega) h3
  rw [show 18 - a.toNat + a.toNat + 1 = 19 from by omega] at this
  rw [this]
  generalize (65536 : Int) / 2 ^ a.toNat = q
  by_cases k1 : -q ≤ b <;> by_cases k2 : b < q <;> by_cases k3 : -q ≤ c <;> by_cases k4 : c < q <;> simp [k1, k2, k3, k4, h2, h3, show (b ≤ q - 1) ↔ b < q from by omega, show (c ≤ q - 1) ↔ c < q from by omega]
theorem refVK_calls (x : S34) (w : World) : Calls Try.prog 39 #[encK x] w fun e w' => e = .returned (.int .i64 (vkeyE x.f0 x.f1 x.f2)) ∧ Below w.heap.size w w' :=
  skymosaicref23_ValidKey.calls 20 _ _ _ _ w (refVK_f _ _ _)
def toD (x : S56) : S51 := ⟨x.f0, x.f1, x.f2⟩
def toE (x : S51) : S56 := ⟨x.f0, x.f1, x.f2⟩
@[simp] theorem toD_toE (x : S51) : toD (toE x) = x := rfl
@[simp] theorem toE_toD (x : S56) : toE (toD x) = x := rfl
theorem refValid_f (x : S56) : skymosaicref32_Valid.f 22 x.f0 x.f1 x.f2.f0 x.f2.f1 x.f2.f2 = some (validD (toD x)) := by
  obtain ⟨a, b, ⟨c, d, e⟩⟩ := x
  have hz : skymosaicref32_Valid.f 22 a b c d e = skymosaicref32_Valid.j0 22 (decide (c = 0 ∧ d = 0 ∧ e = 0)) a b c d e := by
    unfold skymosaicref32_Valid.f
    by_cases h1 : c = 0 <;> by_cases h2 : d = 0 <;> by_cases h3 : e = 0 <;> simp [h1, h2, h3, show (e == 0) = decide (e = 0) from by by_cases h : e = 0 <;> simp [h]]
  rw [hz]
  unfold validD toD
  simp only [skymosaicref32_Valid.j0, skymosaicref32_Valid.j1, refVK_f, Option.bind_some, vkeyE_ok, S34.mk.injEq]
  by_cases h0 : a = 0
  · subst h0; by_cases hb : 0 ≤ b <;> by_cases hc : b < 4096 <;> by_cases hz : c = 0 ∧ d = 0 ∧ e = 0 <;> simp [hb, hc, hz]
  by_cases h1 : a = 1
  · subst h1; by_cases hb : 0 ≤ b <;> by_cases hc : b < 4096 <;> by_cases hz : c = 0 ∧ d = 0 ∧ e = 0 <;> simp [hb, hc, hz]
  by_cases h2 : a = 2
  · subst h2; by_cases hb : 0 ≤ b <;> by_cases hc : b < 4096 <;> by_cases hz : c = 0 ∧ d = 0 ∧ e = 0 <;> simp [hb, hc, hz]
  by_cases h3 : a = 3
  · subst h3; by_cases hb : b = 0 <;> simp [hb]
  by_cases h4 : a = 4
  · subst h4; by_cases hz : c = 0 ∧ d = 0 ∧ e = 0 <;> by_cases hb : b = 0 <;> simp [hz, hb]
  simp [h0, h1, h2, h3, h4]
def encE (x : S56) : Value := .agg #[.int .i64 x.f0, .int .i64 x.f1, .int .i64 x.f2.f0, .int .i64 x.f2.f1, .int .i64 x.f2.f2]
theorem refValid_calls (x : S56) (w : World) : Calls Try.prog 40 #[encE x] w fun e w' => e = .returned (.bool (validD (toD x))) ∧ Below w.heap.size w w' :=
  skymosaicref32_Valid.calls 22 _ _ _ _ _ _ w (refValid_f x)
theorem Set1_calls (x : S51) (w : World) : Calls Try.prog 33 #[encD x] w fun e w' => e = .returned (.bool (!validD x)) ∧ Below w.heap.size w w' := by
  have hv := fun W => valid_calls x W
  show Calls Try.prog 33 #[.agg #[.int .i64 x.f0, .int .i64 x.f1, .int .i64 x.f2.f0, .int .i64 x.f2.f1, .int .i64 x.f2.f2]] w _
  go_enter Try.func33, Try.ntmps33
  go_wp2_with fail
  refine (hv _).mono ?_
  rintro e w1 ⟨rfl, hB⟩
  go_wp2
  go_ret
  exact ⟨rfl, below_then (w := w) (by repeat (first | exact Below.refl _ _ | assumption | with_reducible apply below_alloc | with_reducible apply pw_below_drewN | with_reducible apply below_drew)) (below_size (w := w) (by repeat (first | exact Below.refl _ _ | assumption | with_reducible apply below_alloc | with_reducible apply pw_below_drewN | with_reducible apply below_drew))) hB⟩
theorem set1OK (w : World) : PredOK 33 #[] (fun x => !validD x) w := fun W x _ => by simpa using Set1_calls x W
end Go.Proofs.Ytokambhemoeloaa.G
end
section
namespace Go.Proofs.Ytokambhemoeloaa.G
open Go.RowKit Go.Proofs.YtokambhemoeloaaW.PrintWords Go.Proofs.YtokambhemoeloaaW.PrintLast Go.Proofs.YtokambhemoeloaaW.PrintMore Go.Proofs.Ytokambhemoeloaa.PA
open Go.Proofs.Ytokambhemoeloaa.Mp Go.Proofs.Ytokambhemoeloaa.Reg Go.Lib
set_option linter.unusedVariables false
set_option linter.unusedSimpArgs false
def setE (k : S34) (l : List S51) : Int := if vkey k.f0 k.f1 k.f2 then (if l.length > 1024 then 4 else if l.any (fun d => !validD d) then 1 else 0) else 5
def setG (k : S34) (l : List S51) (G : GL) : GL := if setE k l = 0 then (if l = [] then gdel k G else gput k (canon l) G) else G
theorem GAt.kept {w w1 : World} {gb mb : Nat} {G G' : GL} (h : GAt w gb mb G) (hne : gb ≠ mb) (hg : w.grownBy w1 (some mb)) (h' : ∃ gs : List ((S34 × List S51) × Value), gs.map (·.1) = G' ∧ MapAt encK w1 mb (gs.map fun t => (t.1.1, t.2)) ∧ ∀ t ∈ gs, Row w1 t.2 t.1.2) : GAt w1 gb mb G' :=
  ⟨(hg.block gb h.lt.1 (fun e => hne (by injection e))).trans h.blk, h'⟩
theorem grown_of_below' {w w1 : World} (h : Below w.heap.size w w1) (row : Option Nat) : w.grownBy w1 row := ⟨h.os, h.tape, h.output, h.size, fun i hi _ => h.block i hi⟩
theorem ldel_rows (x : S34) : ∀ (gs : List ((S34 × List S51) × Value)), ∃ gs' : List ((S34 × List S51) × Value), gs'.map (·.1) = gdel x (gs.map (·.1)) ∧ (gs'.map fun t => (t.1.1, t.2)) = ldel x (gs.map fun t => (t.1.1, t.2)) ∧ ∀ t ∈ gs', t ∈ gs := by
  intro gs
  induction gs with
  | nil => exact ⟨[], rfl, rfl, by simp⟩
  | cons t gs ih =>
    simp only [List.map_cons, gdel, ldel]
    by_cases hx : x = t.1.1
    · rw [if_pos hx, if_pos hx]; exact ⟨gs, rfl, rfl, fun t ht => by simp [ht]⟩
    · rw [if_neg hx, if_neg hx]
      obtain ⟨gs', h1, h2, h3⟩ := ih
      exact ⟨t :: gs', by simp [h1], by simp [h2], fun u hu => by
        rcases List.mem_cons.1 hu with rfl | hu
        · simp
        · simp [h3 u hu]⟩
theorem lput_rows (x : S34) (own : List S51) (v : Value) : ∀ (gs : List ((S34 × List S51) × Value)), ∃ gs' : List ((S34 × List S51) × Value), gs'.map (·.1) = gput x own (gs.map (·.1)) ∧ (gs'.map fun t => (t.1.1, t.2)) = lput x v (gs.map fun t => (t.1.1, t.2)) ∧ ∀ t ∈ gs', t ∈ gs ∨ t = ((x, own), v) := by
  intro gs
  induction gs with
  | nil => exact ⟨[((x, own), v)], rfl, rfl, by simp⟩
  | cons t gs ih =>
    simp only [List.map_cons, gput, lput]
    by_cases hx : x = t.1.1
    · rw [if_pos hx, if_pos hx]; exact ⟨((x, own), v) :: gs, rfl, rfl, fun t ht => by
        rcases List.mem_cons.1 ht with rfl | ht
        · exact .inr rfl
        · exact .inl (by simp [ht])⟩
    · rw [if_neg hx, if_neg hx]
      obtain ⟨gs', h1, h2, h3⟩ := ih
      exact ⟨t :: gs', by simp [h1], by simp [h2], fun u hu => by
        rcases List.mem_cons.1 hu with rfl | hu
        · simp
        · rcases h3 u hu with h | h
          · simp [h]
          · exact .inr h⟩
theorem GAt.put {w w1 : World} {gb mb : Nat} {G : GL} (h : GAt w gb mb G) (hne : gb ≠ mb) (x : S34) (own : List S51) (v : Value) (hv : Row w1 v own) (hs : SameCells w w1) (hg : w.grownBy w1 (some mb)) (h1 : ∀ l, MapAt encK w mb l → MapAt encK w1 mb (lput x v l)) : GAt w1 gb mb (gput x own G) := by
  obtain ⟨gs, rfl, h2, h3⟩ := h.rows
  obtain ⟨gs', e1, e2, e3⟩ := lput_rows x own v gs
  exact h.kept hne hg ⟨gs', e1, by rw [e2]; exact h1 _ h2, fun t ht => by
    rcases e3 t ht with h | rfl
    · exact (h3 t h).cells hs
    · exact hv⟩
theorem eg33 (args : Array Value) (w : World) : (callFunc 33 args).run Try.prog w = .ok (.enter 33 args) w := by
  unfold callFunc; simp [Try.func33, show Try.f33.name ≠ "runtime.NumGoroutine" by decide, show Try.f33.body ≠ none from fun h => by cases h]
set_option maxHeartbeats 8000000 in
set_option maxRecDepth 100000 in
theorem Set_calls (w : World) (gb mb : Nat) (G : GL) (k : S34) (v : Value) (l : List S51) (h : GAt w gb mb G) (hne : gb ≠ mb) (hr : Row w v l) :
    Calls Try.prog 9 #[.pointer (some ⟨gb, 0, none⟩), encK k, v] w fun e w' => e = .returned (.int .i64 (setE k l)) ∧ w.grownBy w' (some mb) ∧ GAt w' gb mb (setG k l G) := by
  show Calls Try.prog 9 #[.pointer (some ⟨gb, 0, none⟩), .agg #[.int .i64 k.f0, .int .i64 k.f1, .int .i64 k.f2], v] w _
  obtain ⟨A, c, rfl, hc, hC⟩ := hr
  have hmax := hC.2.1
  have hVK := fun W => ValidKey_calls k.f0 k.f1 k.f2 W
  have hE : Hid (setE k l = if vkey k.f0 k.f1 k.f2 then (if l.length > 1024 then 4 else if l.any (fun d => !validD d) then 1 else 0) else 5) := rfl
  unfold vkeyE at hVK
  cases hk : vkey k.f0 k.f1 k.f2
  · rw [hk] at hE hVK
    simp only [Bool.false_eq_true, if_false] at hE hVK
    go_enter Try.func9, Try.ntmps9
    go_wp2_with (go_at_call 31; refine (hVK _).mono ?_; rintro e w1 ⟨rfl, hB⟩)
    go_ret
    have hB2 : Below w.heap.size w w1 := below_then (w := w) (by repeat (first | exact Below.refl _ _ | assumption | with_reducible apply below_alloc | with_reducible apply pw_below_drewN | with_reducible apply below_drew)) (below_size (w := w) (by repeat (first | exact Below.refl _ _ | assumption | with_reducible apply below_alloc | with_reducible apply pw_below_drewN | with_reducible apply below_drew))) hB
    exact ⟨by rw [hE.out]; rfl, grown_of_below' hB2 _, by unfold setG; rw [hE.out]; exact h.below hB2⟩
  rw [hk] at hE hVK
  simp only [if_true] at hE hVK
  by_cases hl : l.length > 1024
  · rw [if_pos hl] at hE
    go_enter Try.func9, Try.ntmps9
    go_wp2_with (go_at_call 31; refine (hVK _).mono ?_; rintro e w1 ⟨rfl, hB⟩)
    go_ret
    have hB2 : Below w.heap.size w w1 := below_then (w := w) (by repeat (first | exact Below.refl _ _ | assumption | with_reducible apply below_alloc | with_reducible apply pw_below_drewN | with_reducible apply below_drew)) (below_size (w := w) (by repeat (first | exact Below.refl _ _ | assumption | with_reducible apply below_alloc | with_reducible apply pw_below_drewN | with_reducible apply below_drew))) hB
    exact ⟨by rw [hE.out]; rfl, grown_of_below' hB2 _, by unfold setG; rw [hE.out]; exact h.below hB2⟩
  rw [if_neg hl] at hE
  go_enter Try.func9, Try.ntmps9
  go_wp2_with (go_at_call 31; refine (hVK _).mono ?_; rintro e w1 ⟨rfl, hB⟩)
  have hB2 : Below w.heap.size w w1 := below_then (w := w) (by repeat (first | exact Below.refl _ _ | assumption | with_reducible apply below_alloc | with_reducible apply pw_below_drewN | with_reducible apply below_drew)) (below_size (w := w) (by repeat (first | exact Below.refl _ _ | assumption | with_reducible apply below_alloc | with_reducible apply pw_below_drewN | with_reducible apply below_drew))) hB
  have hbox : w1.heap[w.heap.size]? = some (.cells #[.int .i64 k.f0, .int .i64 k.f1, .int .i64 k.f2] 34 (0, 0)) := by
    rw [hB.block w.heap.size (by simp)]
    show (w.heap.push _)[w.heap.size]? = _; simp
  refine (ContainsFunc_calls A c l w1 33 #[] _ eg33 (set1OK w1) (Kd.C_below hC hB2)).mono ?_
  rintro e w2 ⟨rfl, hB3⟩
  have hB4 := below_then hB2 hB2.size hB3
  have hbox2 : w2.heap[w.heap.size]? = some (.cells #[.int .i64 k.f0, .int .i64 k.f1, .int .i64 k.f2] 34 (0, 0)) := (hB3.block w.heap.size (blk_lt hbox)).trans hbox
  clear hbox hB hB2 hB3 hVK
  cases hany : l.any (fun x => !validD x)
  · rw [hany] at hE
    by_cases h0 : l = []
    · have h0' : l.length = 0 := by simp [h0]
      have hGd := h.below hB4
      have hb2 := hGd.lt
      obtain ⟨gs, hgs, hma2, hrows2⟩ := hGd.rows
      have hcm := hGd.cell
      obtain ⟨w6, hdl, hm6, hg6, hsz6⟩ := run_delete (P := Try.prog) keyK Try.underlying67 (hma2.move (w1 := w2.drew) rfl) k 0
      obtain ⟨es5, cl5, hmb5⟩ := hGd.map
      have k0 : w2.cell? ⟨w.heap.size, 0, none⟩ = some (.int .i64 k.f0) := (blk_cell hbox2 0).trans rfl
      have k1 : w2.cell? ⟨w.heap.size, 1, none⟩ = some (.int .i64 k.f1) := (blk_cell hbox2 1).trans rfl
      have k2 : w2.cell? ⟨w.heap.size, 2, none⟩ = some (.int .i64 k.f2) := (blk_cell hbox2 2).trans rfl
      unfold encK at hdl
      have HH := Lib.hid (And.intro hB4 (And.intro hrows2 (And.intro hm6 (And.intro hg6 (And.intro hmb5 hC)))))
      clear hB4 hrows2 hm6 hg6 hmb5 hC hbox2
      go_wp2_with fail
      go_region
      all_goals
        go_wp2
        go_ret
        obtain ⟨hB4, hrows2, hm6, hg6, hmb5, hC⟩ := HH.out
        have hs6 : SameCells w2 w6 := SameCells.trans (SameCells.of_below (w1 := w2.drew) (by repeat (first | exact Below.refl _ _ | assumption | with_reducible apply below_alloc | with_reducible apply pw_below_drewN | with_reducible apply below_drew))) (SameCells.of_kept (w := w2.drew) hmb5 ⟨hg6.size, fun i hi hn => hg6.block i hi (fun e => hn (by injection e))⟩)
        have hg06 : w.grownBy w6 (some mb) := (grown_of_below' hB4 _).trans (World.grownBy.trans (grown_draw w2 1 _) hg6)
        refine ⟨by rw [hE.out]; rfl, hg06, ?_⟩
        unfold setG
        rw [hE.out]
        simp only [h0, if_true, if_false, Bool.false_eq_true]
        obtain ⟨gs', e1, e2, e3⟩ := ldel_rows k gs
        exact h.kept hne hg06 ⟨gs', by rw [e1, hgs], by rw [e2]; exact hm6, fun t ht => (hrows2 t (e3 t ht)).cells hs6⟩
    · have h0' : l.length ≠ 0 := by simpa using h0
      go_wp2_with fail
      refine (Clone_calls A c l w2 (Kd.C_below hC hB4) (by omega)).mono ?_
      rintro e w3 ⟨v3, rfl, hR3, hB5⟩
      go_wp2_with fail
      refine (sortD_calls hR3 (by omega)).mono ?_
      rintro e w4 ⟨rfl, l', hp, hpw, hR4, hg4⟩
      have hcp := Lib.hid (compact_canon hp hpw)
      obtain ⟨A3, c3, rfl, _, _⟩ := Kd.R_reads hR4
      have hown : ∀ t, t < w2.heap.size → some t ≠ (Value.slice A3 l'.length c3).ownBlock := fun t ht e => by
        have := Kd.R_base hR4 t e.symm
        omega
      have hlt2 := blk_lt hbox2
      have hGd2 := h.below hB4
      have hb2 := hGd2.lt
      have hg24 : w2.grownBy w4 (Value.slice A3 l'.length c3).ownBlock := (grown_of_below' hB5 _).trans hg4
      obtain ⟨gs, hgs, hma2, hrows2⟩ := hGd2.rows
      have hblk4 : w4.heap[gb]? = some (.cells #[.map (some mb)] 69 (0, 0)) := (hg24.block gb hb2.1 (hown gb hb2.1)).trans hGd2.blk
      have hma4 := hma2.move (hg24.block mb hb2.2 (hown mb hb2.2))
      have hbox4 := (hg24.block w.heap.size hlt2 (hown _ hlt2)).trans hbox2
      have hcm : w4.cell? ⟨gb, 0, none⟩ = some (.map (some mb)) := (blk_cell hblk4 0).trans rfl
      have k0 : w4.cell? ⟨w.heap.size, 0, none⟩ = some (.int .i64 k.f0) := (blk_cell hbox4 0).trans rfl
      have k1 : w4.cell? ⟨w.heap.size, 1, none⟩ = some (.int .i64 k.f1) := (blk_cell hbox4 1).trans rfl
      have k2 : w4.cell? ⟨w.heap.size, 2, none⟩ = some (.int .i64 k.f2) := (blk_cell hbox4 2).trans rfl
      have hsz4 := hg24.size
      have hRd := Kd.R_drew hR4
      have HH := Lib.hid (And.intro hg24 (And.intro hB4 (And.intro hma4 (And.intro hbox4 (And.intro hblk4 (And.intro hown (And.intro hrows2 hma2)))))))
      clear hbox2 hB5 hR3 hg4 hC hmax hB4 hl hg24 hma4 hbox4 hblk4 hown hR4 hrows2 hma2
      go_wp2_with fail
      go_region_with (go_at_call 38; refine (Compact_calls hRd).mono ?_; rintro e w5 ⟨v5, rfl, hrow5, hg5⟩; obtain ⟨w6, hup, hm6, hg6, hsz6⟩ := run_update (P := Try.prog) keyK Try.underlying67 (MapAt.move HH.out.2.2.1 (hg5.block mb (by show mb < w4.heap.size; omega) (HH.out.2.2.2.2.2.1 mb hb2.2))) k v5; have b5 := (hg5.block gb (by show gb < w4.heap.size; omega) (HH.out.2.2.2.2.2.1 gb hb2.1)).trans HH.out.2.2.2.2.1; have c5 := (hg5.block w.heap.size (by show w.heap.size < w4.heap.size; omega) (HH.out.2.2.2.2.2.1 _ hlt2)).trans HH.out.2.2.2.1; have hcm5 : w5.cell? ⟨gb, 0, none⟩ = some (.map (some mb)) := (blk_cell b5 0).trans rfl; have k50 : w5.cell? ⟨w.heap.size, 0, none⟩ = some (.int .i64 k.f0) := (blk_cell c5 0).trans rfl; have k51 : w5.cell? ⟨w.heap.size, 1, none⟩ = some (.int .i64 k.f1) := (blk_cell c5 1).trans rfl; have k52 : w5.cell? ⟨w.heap.size, 2, none⟩ = some (.int .i64 k.f2) := (blk_cell c5 2).trans rfl; unfold encK at hup; have HH5 := Lib.hid (And.intro hg5 (And.intro hm6 (And.intro hg6 (And.intro b5 hrow5)))); clear hg5 hm6 hg6 b5 c5 hrow5)
      all_goals
        go_wp2
        go_ret
        obtain ⟨hg24, hB4, hma4, hbox4, hblk4, hown, hrows2, hma2⟩ := HH.out
        obtain ⟨hg5, hm6, hg6, b5, hrow5⟩ := HH5.out
        rw [hcp.out] at hrow5
        have hB25 : Below w2.heap.size w2 w5 := ⟨hg5.os.trans hg24.os, hg5.tape.trans hg24.tape, hg5.output.trans hg24.output, Nat.le_trans hg24.size hg5.size, fun i hi => (hg5.block i (Nat.lt_of_lt_of_le hi hg24.size) (hown i hi)).trans (hg24.block i hi (hown i hi))⟩
        have hB5 := below_then hB4 hB4.size hB25
        have hmb5 : ∃ es clock, w5.heap[mb]? = some (.map es clock) := by
          obtain ⟨es, clock, h1, _⟩ := hma2.below hB25
          exact ⟨es, clock, h1⟩
        obtain ⟨es5, cl5, hmb5⟩ := hmb5
        have hs6 : SameCells w5 w6 := SameCells.of_kept hmb5 ⟨hg6.size, fun i hi hn => hg6.block i hi (fun e => hn (by injection e))⟩
        have hg06 : w.grownBy w6 (some mb) := (grown_of_below' hB5 _).trans hg6
        refine ⟨by rw [hE.out]; rfl, hg06, ?_⟩
        unfold setG
        rw [hE.out]
        simp only [h0, if_false, if_true, Bool.false_eq_true]
        obtain ⟨gs', e1, e2, e3⟩ := lput_rows k (canon l) v5 gs
        refine h.kept hne hg06 ⟨gs', by rw [e1, hgs], by rw [e2]; exact hm6, fun t ht => ?_⟩
        rcases e3 t ht with ht | rfl
        · exact ((hrows2 t ht).below hB25).cells hs6
        · exact hrow5.cells hs6
  · rw [hany] at hE
    go_wp2
    go_ret
    exact ⟨by rw [hE.out]; rfl, grown_of_below' hB4 _, by unfold setG; rw [hE.out]; exact h.below hB4⟩
end Go.Proofs.Ytokambhemoeloaa.G
end
section
namespace Go.Proofs.Ytokambhemoeloaa.G
open Go.RowKit Go.Proofs.YtokambhemoeloaaW.PrintWords Go.Proofs.YtokambhemoeloaaW.PrintLast Go.Proofs.YtokambhemoeloaaW.PrintMore Go.Proofs.Ytokambhemoeloaa.PA
open Go.Proofs.Ytokambhemoeloaa.Mp Go.Proofs.Ytokambhemoeloaa.Reg Go.Lib
set_option linter.unusedVariables false
set_option linter.unusedSimpArgs false
theorem map_fst_gs (gs : List ((S34 × List S51) × Value)) : (gs.map fun t => (t.1.1, t.2)).map (·.1) = (gs.map (·.1)).map (·.1) := by simp [List.map_map, Function.comp_def]
theorem M34 {w : World} {base : Nat} {ok : Nat → Prop} (x : S34) : k34.M w base ok x [.int .i64 x.f0, .int .i64 x.f1, .int .i64 x.f2] := k34_mkM _ _ _ _
theorem info34 : (Try.prog.info? 34).map (fun i => (i.zero, i.size, i.bytes)) = some (some (.agg #[(.int .i64 0), (.int .i64 0), (.int .i64 0)]), 3, 24) := by kernel_rfl
set_option maxHeartbeats 8000000 in
set_option maxRecDepth 100000 in
theorem sorted_calls (w : World) (gb mb : Nat) (G : GL) (h : GAt w gb mb G) (hG : G.length ≤ 1000000) :
    Calls Try.prog 43 #[.pointer (some ⟨gb, 0, none⟩)] w fun e w' => ∃ v ks, e = .returned v ∧ Kd.R k34 34 w' w.heap.size (fun _ => True) v ks ∧ ks.Perm (G.map (·.1)) ∧ ks.Pairwise (fun x y => ¬ ltK y x) ∧ Below w.heap.size w w' := by
  have hcm := h.cell
  obtain ⟨gs, hgs, hma, hrows⟩ := h.rows
  have hkeys : (gs.map fun t => (t.1.1, t.2)).map (·.1) = G.map (·.1) := by rw [map_fst_gs, hgs]
  obtain ⟨o, hrun, hit⟩ := run_range (P := Try.prog) Try.underlying67 hma
  have hmlt := hma.lt
  generalize hL : (gs.map fun t => (t.1.1, t.2)) = L at *
  have hLl : L.length = G.length := by rw [← hL, ← hgs]; simp
  have HH := Lib.hid (And.intro hkeys (And.intro hit hmlt))
  clear hkeys hit hrows hL hgs hma hmlt gs
  go_enter Try.func43, Try.ntmps43
  go_wp2
  go_loopg [3] G.length (fun g s3 wr => ∃ v0 rem ys, v0 = s3 ∧ rem.length ≤ g ∧ IterAt encK wr w.heap.size mb L rem ∧ Kd.R k34 34 wr w.heap.size (fun k => k ≠ w.heap.size) v0 ys ∧ (ys ++ rem.map (·.1)).Perm (G.map (·.1)) ∧ Below w.heap.size w wr)
  case atStart => exact ⟨_, L, [], rfl, by omega, HH.out.2.1, Kd.R_nil _ _ _ _ _, by simp [HH.out.1], (by repeat (first | exact Below.refl _ _ | assumption | with_reducible apply below_alloc | with_reducible apply pw_below_drewN | with_reducible apply below_drew))⟩
  case round =>
    obtain ⟨v0, rem, ys, rfl, hg, hI, hR, hP, hB⟩ := hrel
    rcases run_next (P := Try.prog) hI 0 with ⟨rfl, hn⟩ | ⟨p, rem', w1, hp, hn, hI1, hg1, hsz1, he⟩
    · have hyl : ys.length ≤ 1000000 := by have := hP.length_eq; simp at this; omega
      have hP2 : ys.Perm (G.map (·.1)) := by simpa using hP
      have hH2 := Lib.hid (And.intro hI hP2)
      clear hI hP hP2
      go_wp2_with fail
      refine (sortK_calls hR (by omega)).mono ?_
      rintro e w4 ⟨rfl, l', hp, hpw, hR4, hg4⟩
      go_wp2
      go_ret
      refine ⟨_, l', rfl, Kd.R_mono hR4 (fun _ _ => trivial), hp.trans hH2.out.2, hpw, hB.grown hg4 hB.size (fun k hk => Kd.R_base hR k hk)⟩
    · have hH2 := Lib.hid (And.intro hI (And.intro hP (And.intro hI1 (And.intro hp hg1))))
      have hentry2 := he w1 rfl rfl
      unfold encK at hn hentry2
      have hB1 : Below w.heap.size w w1 := hB.grown hg1 hB.size (fun k hk => by injection hk with hk; omega)
      have hR1 : Kd.R k34 34 w1 w.heap.size (fun k => k ≠ w.heap.size) v0 ys := Kd.R_grown hR hg1 (fun k hk e => hk (by injection e))
      have hlt1 : w.heap.size < w1.heap.size := hI1.lt
      have hrl := hp.length_eq
      have hyl : ys.length ≤ 1000000 := by have := hP.length_eq; simp at this; omega
      have hS := Lib.hid hsz1
      clear hI hP hI1 hp hg1 he hsz1
      go_wp2_with (at_builtin; go_must (refine Kd.R_append k34 (w0 := w) w.heap.size rfl (.tmp 14) (.tmp 16) 41 34 (.agg #[(.int .i64 0), (.int .i64 0), (.int .i64 0)]) 24 rfl Try.underlying41 info34 rfl ?hs0 ?hb0 v0 ys p.1 [.int .i64 p.1.f0, .int .i64 p.1.f1, .int .i64 p.1.f2] (fun k => k ≠ w.heap.size) (fun _ => False) rfl ?hx (M34 _) (fun _ hk => hk.elim) ?h4 ?h5 ?h6 ?h7 ?h8 ?_); rotate_right; intro v1 w2 ho hb hgg hat)
      case hs0 => decide
      case hb0 => omega
      case hx => go_simp
      case h4 => intro k hk; simp at hk; omega
      case h5 => exact Kd.R_alloc hR1 _
      case h6 => exact (by repeat (first | exact Below.refl _ _ | assumption | with_reducible apply below_alloc | with_reducible apply pw_below_drewN | with_reducible apply below_drew))
      case h7 => simp; omega
      case h8 => omega
      obtain ⟨hI, hP, hI1, hp, hg1⟩ := hH2.out
      go_roundg rem'.length
      case measure => simp at hrl; omega
      case rel =>
        have hno : ∀ k, k ≤ w.heap.size → some k ≠ v0.ownBlock := fun k hk e => by
          have h1 := Kd.R_base hR1 k e.symm
          have h2 := hR1.1 k e.symm
          omega
        refine ⟨_, rem', ys ++ [p.1], rfl, Nat.le_refl _, ?_, ho, ?_, hb⟩
        · have hI2 := hI1.grown (World.grownBy_alloc w1 (.cells #[.int .i64 p.1.f0, .int .i64 p.1.f1, .int .i64 p.1.f2] 34) none) (by simp) (by simp)
          exact hI2.grown hgg (hno mb (by have := HH.out.2.2; omega)) (hno _ (Nat.le_refl _))
        · refine List.Perm.trans ?_ hP
          rw [List.append_assoc]
          exact List.Perm.append_left _ (by simpa using (hp.map (·.1)).symm)
end Go.Proofs.Ytokambhemoeloaa.G
end
section
namespace Go.Proofs.Ytokambhemoeloaa.PA
open Go.RowKit Go.Proofs.YtokambhemoeloaaW.PrintWords Go.Proofs.YtokambhemoeloaaW.PrintLast Go.Proofs.YtokambhemoeloaaW.PrintMore
attribute [local go_sem] max2_int min2_int max_two min_two max_three min_three max_four min_four   -- for this text's walks alone
set_option linter.unusedVariables false
set_option linter.unusedSimpArgs false
def skymosaicref32_Before.f (a0_0 : Int) (a0_1 : Int) (a0_2 : Int) (a1_0 : Int) (a1_1 : Int) (a1_2 : Int) : Option (Bool) := if a0_0 = a1_0 then (if a0_2 = a1_2 then (some (decide (a0_1 < a1_1))) else (some (decide (a0_2 < a1_2)))) else (some (decide (a0_0 < a1_0)))
set_option maxHeartbeats 8000000 in
set_option maxRecDepth 100000 in
theorem skymosaicref32_Before.calls (a0_0 : Int) (a0_1 : Int) (a0_2 : Int) (a1_0 : Int) (a1_1 : Int) (a1_2 : Int) (r : Bool) (w : World) (h : skymosaicref32_Before.f a0_0 a0_1 a0_2 a1_0 a1_1 a1_2 = some r) :
    Calls Try.prog 58 #[.agg #[.int .i64 a0_0, .int .i64 a0_1, .int .i64 a0_2], .agg #[.int .i64 a1_0, .int .i64 a1_1, .int .i64 a1_2]] w fun e w' => e = .returned (.bool r) ∧ Below w.heap.size w w' := by
  have hu34 := Try.underlying34
  have HB := Aside0.mk (Below.refl w.heap.size w)
  have H : (if a0_0 = a1_0 then (if a0_2 = a1_2 then (some (decide (a0_1 < a1_1))) else (some (decide (a0_2 < a1_2)))) else (some (decide (a0_0 < a1_0)))) = some r := h
  clear h
  by_cases c3 : a0_0 = a1_0
  · rw [if_pos c3] at H
    have c3b0 : (a0_0 == a1_0) = true := beq_iff_eq.mpr c3
    have c3b1 : (a0_0 != a1_0) = false := bne_eq_false_iff_eq.mpr c3
    clear c3
    by_cases c4 : a0_2 = a1_2
    · rw [if_pos c4] at H
      have c4b0 : (a0_2 == a1_2) = true := beq_iff_eq.mpr c4
      have c4b1 : (a0_2 != a1_2) = false := bne_eq_false_iff_eq.mpr c4
      clear c4
      obtain rfl := Option.some.inj H
      go_enter Try.func58, Try.ntmps58
      go_wp2_with (first | ((with_reducible refine gate_dst (N := 2) rfl ?_); refine box_event ?hg (N := 2) ?hd (cs := #[.int .i64 a0_0, .int .i64 a0_1, .int .i64 a0_2]) (t := 34) ?hr ?_; (case hd => rfl); (case hg => rfl); (case hr => first | (go_simp; done) | (go_simp; rfl)); intro gb202 hg w5 hbox hb; have n0_ := Aside0.mk (below_step (by repeat (first | (with_reducible first | exact HB.out | apply below_alloc | apply pw_below_drewN | apply below_drew1) | exact HB.out)) hb); have n1_ := Aside0.mk (hbox); have n2_ := Aside0.mk ((by rw [hg]; exact (below_size (by repeat (first | (with_reducible first | exact HB.out | apply below_alloc | apply pw_below_drewN | apply below_drew1) | exact HB.out))) : w.heap.size ≤ gb202)); have n3_ := Aside0.mk ((by rw [hg]; exact (below_size (by repeat (first | (with_reducible first | exact HB.out | apply below_alloc | apply pw_below_drewN | apply below_drew1) | exact HB.out))) : w.heap.size ≤ gb202)); clear HB; have HB := n0_; have BK202 := n1_; have GW202 := n2_; have GE202 := n3_; clear n0_ n1_ n2_ n3_; clear hb hbox hg) | ((with_reducible refine gate_dst (N := 3) rfl ?_); refine box_event ?hg (N := 3) ?hd (cs := #[.int .i64 a1_0, .int .i64 a1_1, .int .i64 a1_2]) (t := 34) ?hr ?_; (case hd => rfl); (case hg => rfl); (case hr => first | (go_simp; done) | (go_simp; rfl)); intro gb203 hg w6 hbox hb; have n0_ := Aside0.mk (blk_below (g := gb202) (o := .cells #[.int .i64 a0_0, .int .i64 a0_1, .int .i64 a0_2] 34 (0, 0)) (by (with_reducible repeat (first | refine blk_drewN ?_ _ | refine blk_drew ?_ | refine blk_alloc ?_ _)); exact BK202.out) hb); have n1_ := Aside0.mk (below_step (by repeat (first | (with_reducible first | exact HB.out | apply below_alloc | apply pw_below_drewN | apply below_drew1 | refine below_set ?_ GE202.out) | exact HB.out)) hb); have n2_ := Aside0.mk (hbox); have n3_ := Aside0.mk ((by rw [hg]; exact (below_size (by repeat (first | (with_reducible first | exact HB.out | apply below_alloc | apply pw_below_drewN | apply below_drew1 | refine below_set ?_ GE202.out) | exact HB.out))) : w.heap.size ≤ gb203)); have n4_ := Aside0.mk ((by rw [hg]; exact (below_size (by repeat (first | (with_reducible first | exact HB.out | apply below_alloc | apply pw_below_drewN | apply below_drew1 | refine below_set ?_ GE202.out) | exact HB.out))) : w.heap.size ≤ gb203)); have n5_ := Aside0.mk ((by rw [hg]; exact Nat.ne_of_lt (blk_lt (g := gb202) (o := .cells #[.int .i64 a0_0, .int .i64 a0_1, .int .i64 a0_2] 34 (0, 0)) (by (with_reducible repeat (first | refine blk_drewN ?_ _ | refine blk_drew ?_ | refine blk_alloc ?_ _)); exact BK202.out)) : gb202 ≠ gb203)); have n6_ := Aside0.mk ((by rw [hg]; exact Nat.ne_of_gt (blk_lt (g := gb202) (o := .cells #[.int .i64 a0_0, .int .i64 a0_1, .int .i64 a0_2] 34 (0, 0)) (by (with_reducible repeat (first | refine blk_drewN ?_ _ | refine blk_drew ?_ | refine blk_alloc ?_ _)); exact BK202.out)) : gb203 ≠ gb202)); clear BK202; clear HB; have BK202 := n0_; have HB := n1_; have BK203 := n2_; have GW203 := n3_; have GE203 := n4_; have NB202_203 := n5_; have NB203_202 := n6_; clear n0_ n1_ n2_ n3_ n4_ n5_ n6_; clear hb hbox hg; have hnb7 := NB202_203.out; have hnc7 := NB203_202.out; have hcz8_0 : w6.cell? ⟨gb202, 0, none⟩ = some (.int .i64 a0_0) := (blk_cell BK202.out 0).trans rfl; have hcz8_1 : w6.cell? ⟨gb202, 1, none⟩ = some (.int .i64 a0_1) := (blk_cell BK202.out 1).trans rfl; have hcz8_2 : w6.cell? ⟨gb202, 2, none⟩ = some (.int .i64 a0_2) := (blk_cell BK202.out 2).trans rfl; have hfz8_0 := blk_frozen BK202.out 0; have hfz8_1 := blk_frozen BK202.out 1; have hfz8_2 := blk_frozen BK202.out 2; have hcz9_0 : w6.cell? ⟨gb203, 0, none⟩ = some (.int .i64 a1_0) := (blk_cell BK203.out 0).trans rfl; have hcz9_1 : w6.cell? ⟨gb203, 1, none⟩ = some (.int .i64 a1_1) := (blk_cell BK203.out 1).trans rfl; have hcz9_2 : w6.cell? ⟨gb203, 2, none⟩ = some (.int .i64 a1_2) := (blk_cell BK203.out 2).trans rfl; have hfz9_0 := blk_frozen BK203.out 0; have hfz9_1 := blk_frozen BK203.out 1; have hfz9_2 := blk_frozen BK203.out 2))
      go_ret
      exact ⟨by first | rfl | (simp [errW_none, errW_some] <;> rfl) | (simp [*, errW_none, errW_some] <;> rfl), by repeat (first | (with_reducible first | exact HB.out | apply below_alloc | apply pw_below_drewN | apply below_drew1 | refine below_set ?_ GE202.out | refine below_set ?_ GE203.out) | exact HB.out)⟩
    · rw [if_neg c4] at H
      have c4b0 : (a0_2 == a1_2) = false := beq_eq_false_iff_ne.mpr c4
      have c4b1 : (a0_2 != a1_2) = true := bne_iff_ne.mpr c4
      obtain rfl := Option.some.inj H
      go_enter Try.func58, Try.ntmps58
      go_wp2_with (first | ((with_reducible refine gate_dst (N := 2) rfl ?_); refine box_event ?hg (N := 2) ?hd (cs := #[.int .i64 a0_0, .int .i64 a0_1, .int .i64 a0_2]) (t := 34) ?hr ?_; (case hd => rfl); (case hg => rfl); (case hr => first | (go_simp; done) | (go_simp; rfl)); intro gb202 hg w10 hbox hb; have n0_ := Aside0.mk (below_step (by repeat (first | (with_reducible first | exact HB.out | apply below_alloc | apply pw_below_drewN | apply below_drew1) | exact HB.out)) hb); have n1_ := Aside0.mk (hbox); have n2_ := Aside0.mk ((by rw [hg]; exact (below_size (by repeat (first | (with_reducible first | exact HB.out | apply below_alloc | apply pw_below_drewN | apply below_drew1) | exact HB.out))) : w.heap.size ≤ gb202)); have n3_ := Aside0.mk ((by rw [hg]; exact (below_size (by repeat (first | (with_reducible first | exact HB.out | apply below_alloc | apply pw_below_drewN | apply below_drew1) | exact HB.out))) : w.heap.size ≤ gb202)); clear HB; have HB := n0_; have BK202 := n1_; have GW202 := n2_; have GE202 := n3_; clear n0_ n1_ n2_ n3_; clear hb hbox hg) | ((with_reducible refine gate_dst (N := 3) rfl ?_); refine box_event ?hg (N := 3) ?hd (cs := #[.int .i64 a1_0, .int .i64 a1_1, .int .i64 a1_2]) (t := 34) ?hr ?_; (case hd => rfl); (case hg => rfl); (case hr => first | (go_simp; done) | (go_simp; rfl)); intro gb203 hg w11 hbox hb; have n0_ := Aside0.mk (blk_below (g := gb202) (o := .cells #[.int .i64 a0_0, .int .i64 a0_1, .int .i64 a0_2] 34 (0, 0)) (by (with_reducible repeat (first | refine blk_drewN ?_ _ | refine blk_drew ?_ | refine blk_alloc ?_ _)); exact BK202.out) hb); have n1_ := Aside0.mk (below_step (by repeat (first | (with_reducible first | exact HB.out | apply below_alloc | apply pw_below_drewN | apply below_drew1 | refine below_set ?_ GE202.out) | exact HB.out)) hb); have n2_ := Aside0.mk (hbox); have n3_ := Aside0.mk ((by rw [hg]; exact (below_size (by repeat (first | (with_reducible first | exact HB.out | apply below_alloc | apply pw_below_drewN | apply below_drew1 | refine below_set ?_ GE202.out) | exact HB.out))) : w.heap.size ≤ gb203)); have n4_ := Aside0.mk ((by rw [hg]; exact (below_size (by repeat (first | (with_reducible first | exact HB.out | apply below_alloc | apply pw_below_drewN | apply below_drew1 | refine below_set ?_ GE202.out) | exact HB.out))) : w.heap.size ≤ gb203)); have n5_ := Aside0.mk ((by rw [hg]; exact Nat.ne_of_lt (blk_lt (g := gb202) (o := .cells #[.int .i64 a0_0, .int .i64 a0_1, .int .i64 a0_2] 34 (0, 0)) (by (with_reducible repeat (first | refine blk_drewN ?_ _ | refine blk_drew ?_ | refine blk_alloc ?_ _)); exact BK202.out)) : gb202 ≠ gb203)); have n6_ := Aside0.mk ((by rw [hg]; exact Nat.ne_of_gt (blk_lt (g := gb202) (o := .cells #[.int .i64 a0_0, .int .i64 a0_1, .int .i64 a0_2] 34 (0, 0)) (by (with_reducible repeat (first | refine blk_drewN ?_ _ | refine blk_drew ?_ | refine blk_alloc ?_ _)); exact BK202.out)) : gb203 ≠ gb202)); clear BK202; clear HB; have BK202 := n0_; have HB := n1_; have BK203 := n2_; have GW203 := n3_; have GE203 := n4_; have NB202_203 := n5_; have NB203_202 := n6_; clear n0_ n1_ n2_ n3_ n4_ n5_ n6_; clear hb hbox hg; have hnb12 := NB202_203.out; have hnc12 := NB203_202.out; have hcz13_0 : w11.cell? ⟨gb202, 0, none⟩ = some (.int .i64 a0_0) := (blk_cell BK202.out 0).trans rfl; have hcz13_1 : w11.cell? ⟨gb202, 1, none⟩ = some (.int .i64 a0_1) := (blk_cell BK202.out 1).trans rfl; have hcz13_2 : w11.cell? ⟨gb202, 2, none⟩ = some (.int .i64 a0_2) := (blk_cell BK202.out 2).trans rfl; have hfz13_0 := blk_frozen BK202.out 0; have hfz13_1 := blk_frozen BK202.out 1; have hfz13_2 := blk_frozen BK202.out 2; have hcz14_0 : w11.cell? ⟨gb203, 0, none⟩ = some (.int .i64 a1_0) := (blk_cell BK203.out 0).trans rfl; have hcz14_1 : w11.cell? ⟨gb203, 1, none⟩ = some (.int .i64 a1_1) := (blk_cell BK203.out 1).trans rfl; have hcz14_2 : w11.cell? ⟨gb203, 2, none⟩ = some (.int .i64 a1_2) := (blk_cell BK203.out 2).trans rfl; have hfz14_0 := blk_frozen BK203.out 0; have hfz14_1 := blk_frozen BK203.out 1; have hfz14_2 := blk_frozen BK203.out 2))
      go_ret
      exact ⟨by first | rfl | (simp [errW_none, errW_some] <;> rfl) | (simp [*, errW_none, errW_some] <;> rfl), by repeat (first | (with_reducible first | exact HB.out | apply below_alloc | apply pw_below_drewN | apply below_drew1 | refine below_set ?_ GE202.out | refine below_set ?_ GE203.out) | exact HB.out)⟩
  · rw [if_neg c3] at H
    have c3b0 : (a0_0 == a1_0) = false := beq_eq_false_iff_ne.mpr c3
    have c3b1 : (a0_0 != a1_0) = true := bne_iff_ne.mpr c3
    obtain rfl := Option.some.inj H
    go_enter Try.func58, Try.ntmps58
    go_wp2_with (first | ((with_reducible refine gate_dst (N := 2) rfl ?_); refine box_event ?hg (N := 2) ?hd (cs := #[.int .i64 a0_0, .int .i64 a0_1, .int .i64 a0_2]) (t := 34) ?hr ?_; (case hd => rfl); (case hg => rfl); (case hr => first | (go_simp; done) | (go_simp; rfl)); intro gb202 hg w15 hbox hb; have n0_ := Aside0.mk (below_step (by repeat (first | (with_reducible first | exact HB.out | apply below_alloc | apply pw_below_drewN | apply below_drew1) | exact HB.out)) hb); have n1_ := Aside0.mk (hbox); have n2_ := Aside0.mk ((by rw [hg]; exact (below_size (by repeat (first | (with_reducible first | exact HB.out | apply below_alloc | apply pw_below_drewN | apply below_drew1) | exact HB.out))) : w.heap.size ≤ gb202)); have n3_ := Aside0.mk ((by rw [hg]; exact (below_size (by repeat (first | (with_reducible first | exact HB.out | apply below_alloc | apply pw_below_drewN | apply below_drew1) | exact HB.out))) : w.heap.size ≤ gb202)); clear HB; have HB := n0_; have BK202 := n1_; have GW202 := n2_; have GE202 := n3_; clear n0_ n1_ n2_ n3_; clear hb hbox hg) | ((with_reducible refine gate_dst (N := 3) rfl ?_); refine box_event ?hg (N := 3) ?hd (cs := #[.int .i64 a1_0, .int .i64 a1_1, .int .i64 a1_2]) (t := 34) ?hr ?_; (case hd => rfl); (case hg => rfl); (case hr => first | (go_simp; done) | (go_simp; rfl)); intro gb203 hg w16 hbox hb; have n0_ := Aside0.mk (blk_below (g := gb202) (o := .cells #[.int .i64 a0_0, .int .i64 a0_1, .int .i64 a0_2] 34 (0, 0)) (by (with_reducible repeat (first | refine blk_drewN ?_ _ | refine blk_drew ?_ | refine blk_alloc ?_ _)); exact BK202.out) hb); have n1_ := Aside0.mk (below_step (by repeat (first | (with_reducible first | exact HB.out | apply below_alloc | apply pw_below_drewN | apply below_drew1 | refine below_set ?_ GE202.out) | exact HB.out)) hb); have n2_ := Aside0.mk (hbox); have n3_ := Aside0.mk ((by rw [hg]; exact (below_size (by repeat (first | (with_reducible first | exact HB.out | apply below_alloc | apply pw_below_drewN | apply below_drew1 | refine below_set ?_ GE202.out) | exact HB.out))) : w.heap.size ≤ gb203)); have n4_ := Aside0.mk ((by rw [hg]; exact (below_size (by repeat (first | (with_reducible first | exact HB.out | apply below_alloc | apply pw_below_drewN | apply below_drew1 | refine below_set ?_ GE202.out) | exact HB.out))) : w.heap.size ≤ gb203)); have n5_ := Aside0.mk ((by rw [hg]; exact Nat.ne_of_lt (blk_lt (g := gb202) (o := .cells #[.int .i64 a0_0, .int .i64 a0_1, .int .i64 a0_2] 34 (0, 0)) (by (with_reducible repeat (first | refine blk_drewN ?_ _ | refine blk_drew ?_ | refine blk_alloc ?_ _)); exact BK202.out)) : gb202 ≠ gb203)); have n6_ := Aside0.mk ((by rw [hg]; exact Nat.ne_of_gt (blk_lt (g := gb202) (o := .cells #[.int .i64 a0_0, .int .i64 a0_1, .int .i64 a0_2] 34 (0, 0)) (by (with_reducible repeat (first | refine blk_drewN ?_ _ | refine blk_drew ?_ | refine blk_alloc ?_ _)); exact BK202.out)) : gb203 ≠ gb202)); clear BK202; clear HB; have BK202 := n0_; have HB := n1_; have BK203 := n2_; have GW203 := n3_; have GE203 := n4_; have NB202_203 := n5_; have NB203_202 := n6_; clear n0_ n1_ n2_ n3_ n4_ n5_ n6_; clear hb hbox hg; have hnb17 := NB202_203.out; have hnc17 := NB203_202.out; have hcz18_0 : w16.cell? ⟨gb202, 0, none⟩ = some (.int .i64 a0_0) := (blk_cell BK202.out 0).trans rfl; have hcz18_1 : w16.cell? ⟨gb202, 1, none⟩ = some (.int .i64 a0_1) := (blk_cell BK202.out 1).trans rfl; have hcz18_2 : w16.cell? ⟨gb202, 2, none⟩ = some (.int .i64 a0_2) := (blk_cell BK202.out 2).trans rfl; have hfz18_0 := blk_frozen BK202.out 0; have hfz18_1 := blk_frozen BK202.out 1; have hfz18_2 := blk_frozen BK202.out 2; have hcz19_0 : w16.cell? ⟨gb203, 0, none⟩ = some (.int .i64 a1_0) := (blk_cell BK203.out 0).trans rfl; have hcz19_1 : w16.cell? ⟨gb203, 1, none⟩ = some (.int .i64 a1_1) := (blk_cell BK203.out 1).trans rfl; have hcz19_2 : w16.cell? ⟨gb203, 2, none⟩ = some (.int .i64 a1_2) := (blk_cell BK203.out 2).trans rfl; have hfz19_0 := blk_frozen BK203.out 0; have hfz19_1 := blk_frozen BK203.out 1; have hfz19_2 := blk_frozen BK203.out 2))
    go_ret
    exact ⟨by first | rfl | (simp [errW_none, errW_some] <;> rfl) | (simp [*, errW_none, errW_some] <;> rfl), by repeat (first | (with_reducible first | exact HB.out | apply below_alloc | apply pw_below_drewN | apply below_drew1 | refine below_set ?_ GE202.out | refine below_set ?_ GE203.out) | exact HB.out)⟩
end Go.Proofs.Ytokambhemoeloaa.PA
end
section
namespace Go.Proofs.Ytokambhemoeloaa.Reg
open Go.RowKit Go.Sort
section
variable {P : Program} {Q : Exit → Act → World → Prop} {ops : Array Oper} {C : World → Prop}
theorem quiet_mono {o : Oper} {a : Act} {K K' : Act → Prop} (hK : ∀ a, K a → K' a) (h : o.quiet P a C K) : o.quiet P a C K' := by
  obtain ⟨v, h1, h2⟩ := h
  exact ⟨v, h1, hK _ h2⟩
theorem wpQuiet_mono {R R' : Act → Prop} (hR : ∀ a, R a → R' a) : ∀ (l : List Oper) (a : Act), wpQuiet P ops C R l a → wpQuiet P ops C R' l a
  | [], a, h => hR a h
  | o :: l, a, h => by
    unfold wpQuiet at h ⊢
    split
    · rename_i hw; rw [if_pos hw] at h
      exact quiet_mono (fun a h => wpQuiet_mono hR l a h) h
    · rename_i hw; rw [if_neg hw] at h
      exact wpQuiet_mono hR l _ h
structure WQ (P : Program) (ops : Array Oper) (C : World → Prop) (R : Act → Prop) (l : List Oper) (a : Act) : Prop where
  out : wpQuiet P ops C R l a
theorem WQ.nil {R : Act → Prop} {a : Act} (h : R a) : WQ P ops C R [] a := ⟨h⟩
theorem WQ.step {R : Act → Prop} {a : Act} {o : Oper} {rest : List Oper}
    (h : ∀ K : Act → Prop, (∀ a, WQ P ops C R rest a → K a) → if Region.wanted o (yielded ops a.tmps) then o.quiet P a C K else K (a.put o.dst undef)) : WQ P ops C R (o :: rest) a :=
  ⟨h _ (fun _ h => h.out)⟩
theorem region_below (w : World) {id : Nat} {a : Act} {l : List Oper} (hm : P.follows .mixedOrders = true) (hB : Region.lexB .any l.toArray = true)
    (h : WQ P l.toArray (fun w' => ∃ p : Regrown, w' = grow (redrawn w p.d) p.os) (fun a' => ∀ w', Below w.heap.size w w' → Q .normal a' w') l a) : (Code.region id l.toArray true).wp P Q a w :=
  wp_region_quiet_below hm hB (wpQuiet_mono (fun a' h' w' hw' => h' w' (by obtain ⟨p, rfl⟩ := hw'; exact below_regrown _ _ _)) _ _ h.out)
end
end Go.Proofs.Ytokambhemoeloaa.Reg
end
section
namespace Go.Proofs.Ytokambhemoeloaa.G
open Go.RowKit Go.Proofs.YtokambhemoeloaaW.PrintWords Go.Proofs.YtokambhemoeloaaW.PrintLast Go.Proofs.YtokambhemoeloaaW.PrintMore Go.Proofs.Ytokambhemoeloaa.PA
open Go.Proofs.Ytokambhemoeloaa.Reg Go.Sort
set_option linter.unusedVariables false
set_option linter.unusedSimpArgs false
attribute [local go_sem high] eqA34 eqA51
def SameBut (b : Nat) (w w1 : World) : Prop := ∀ a v, a.block ≠ b → w.cell? a = some v → w1.cell? a = some v
theorem SameBut.refl (b : Nat) (w : World) : SameBut b w w := fun _ _ _ h => h
theorem SameBut.trans {b : Nat} {x y z : World} (h : SameBut b x y) (k : SameBut b y z) : SameBut b x z := fun a v ha hc => k a v ha (h a v ha hc)
theorem SameBut.of_cells {b : Nat} {w w1 : World} (h : SameCells w w1) : SameBut b w w1 := fun a v _ hc => h a v hc
theorem SameBut.of_grown {b : Nat} {w w1 : World} (h : w.grownBy w1 (some b)) : SameBut b w w1 := fun a v ha hc => by
  have hlt := World.block_lt_of_cell? w a hc
  have := h.block a.block hlt (fun e => ha (by injection e))
  simpa [World.cell?, this] using hc
abbrev RL := List S81
def ReadsE (W : World) (A : Option Addr) (L : RL) (rows : List (List Value)) : Prop := Kd.C (Kd.raw 4) W A rows.length rows ∧ ∀ (j : Nat) (x : S81) (cs : List Value), L[j]? = some x → rows[j]? = some cs → k81.K W x cs
theorem ReadsE.C {W : World} {A : Option Addr} {L : RL} {rows : List (List Value)} (h : ReadsE W A L rows) (hl : rows.length = L.length) : Kd.C k81 W A L.length L := by
  refine ⟨rfl, by rw [← hl]; exact h.1.2.1, fun hn => ?_⟩
  obtain ⟨ad, e, hc⟩ := h.1.2.2 (by omega)
  refine ⟨ad, e, fun j p hj => ?_⟩
  have hjl := (List.getElem?_eq_some_iff.1 hj).1
  obtain ⟨cs, hs, ⟨hK, _⟩, hcell⟩ := hc j rows[j] (List.getElem?_eq_getElem (by omega))
  exact ⟨cs, hs, h.2 j p cs hj (by rw [List.getElem?_eq_getElem (by omega), hK]), hcell⟩
structure RefAt (w : World) (rb : Nat) (L : RL) : Prop where
  raws : ∃ A c rows, w.heap[rb]? = some (.cells #[.slice A L.length c] 28 (0, 0)) ∧ L.length ≤ c ∧ rows.length = L.length ∧ ∀ W', SameBut rb w W' → ReadsE W' A L rows
theorem RefAt.rows {w : World} {rb : Nat} {L : RL} (h : RefAt w rb L) : ∃ A c, w.heap[rb]? = some (.cells #[.slice A L.length c] 28 (0, 0)) ∧ L.length ≤ c ∧ ∀ W', SameBut rb w W' → Kd.C k81 W' A L.length L := by
  obtain ⟨A, c, rows, h1, h2, h3, h4⟩ := h.raws
  exact ⟨A, c, h1, h2, fun W' hW => (h4 W' hW).C h3⟩
theorem RefAt.keep {w w1 : World} {rb : Nat} {L : RL} (h : RefAt w rb L) (hb : w1.heap[rb]? = w.heap[rb]?) (hs : SameBut rb w w1) : RefAt w1 rb L := by
  obtain ⟨A, c, rows, h1, h2, h3, h4⟩ := h.raws
  exact ⟨A, c, rows, hb.trans h1, h2, h3, fun W' hW => h4 W' (hs.trans hW)⟩
theorem RefAt.lt {w : World} {rb : Nat} {L : RL} (h : RefAt w rb L) : rb < w.heap.size := by
  obtain ⟨A, c, h1, _⟩ := h.rows
  exact (Array.getElem?_eq_some_iff.1 h1).1
theorem RefAt.below {w w1 : World} {rb : Nat} {L : RL} (h : RefAt w rb L) (hb : Below w.heap.size w w1) : RefAt w1 rb L :=
  h.keep (hb.block rb h.lt) (SameBut.of_cells (SameCells.of_below hb))
def findN (k : S34) : RL → Nat
  | [] => 0
  | e :: l => if ltK e.f0 k then findN k l + 1 else 0
def findB (k : S34) (L : RL) : Bool := match L[findN k L]? with | some e => decide (e.f0 = k) | none => false
theorem findN_le (k : S34) (L : RL) : findN k L ≤ L.length := by
  induction L with
  | nil => simp [findN]
  | cons e l ih => unfold findN; split <;> simp <;> omega
theorem findN_lt (k : S34) : ∀ (L : RL) (j : Nat) (e : S81), j < findN k L → L[j]? = some e → ltK e.f0 k
  | [], j, e, h, _ => by simp [findN] at h
  | x :: l, 0, e, h, hj => by
    simp at hj; subst hj
    unfold findN at h; split at h
    · assumption
    · omega
  | x :: l, j + 1, e, h, hj => by
    unfold findN at h; split at h
    · exact findN_lt k l j e (by omega) (by simpa using hj)
    · omega
theorem findN_stop (k : S34) : ∀ (L : RL) (e : S81), L[findN k L]? = some e → ¬ ltK e.f0 k
  | [], e, h => by simp [findN] at h
  | x :: l, e, h => by
    unfold findN at h; split at h
    · exact findN_stop k l e (by simpa using h)
    · rename_i hx; simp at h; subst h; exact hx
theorem before_f (x y : S34) : skymosaicref32_Before.f x.f0 x.f1 x.f2 y.f0 y.f1 y.f2 = some (decide (ltK x y)) := by
  unfold skymosaicref32_Before.f ltK
  by_cases h0 : x.f0 = y.f0
  · rw [if_pos h0]
    by_cases h2 : x.f2 = y.f2
    · rw [if_pos h2]; simp [h0, h2]
    · rw [if_neg h2]; simp [h0, h2]
  · rw [if_neg h0]; simp [h0]
theorem before_calls (x y : S34) (w : World) : Calls Try.prog 58 #[encK x, encK y] w fun e w' => e = .returned (.bool (decide (ltK x y))) ∧ Below w.heap.size w w' :=
  skymosaicref32_Before.calls _ _ _ _ _ _ _ w (before_f x y)
theorem eq3 (x y : S34) : (x.f0 == y.f0 && (x.f1 == y.f1 && x.f2 == y.f2)) = decide (x = y) := by
  obtain ⟨a, b, c⟩ := x
  obtain ⟨a', b', c'⟩ := y
  simp only [S34.mk.injEq, Bool.decide_and]
  rfl
theorem rd81 {L : RL} {k : Nat} (hk : k < L.length) : rd_T81 L k = L[k] := by simp [rd_T81, hk]
theorem findN_more {k : S34} {L : RL} {n : Nat} {x : S81} (hn : n ≤ findN k L) (hx : L[n]? = some x) (hl : ltK x.f0 k) : n + 1 ≤ findN k L := by
  rcases Nat.lt_or_ge n (findN k L) with h | h
  · exact h
  · have : n = findN k L := by omega
    subst this; exact absurd hl (findN_stop k L x hx)
theorem findN_here {k : S34} {L : RL} {n : Nat} {x : S81} (hn : n ≤ findN k L) (hx : L[n]? = some x) (hl : ¬ ltK x.f0 k) : n = findN k L := by
  rcases Nat.lt_or_ge n (findN k L) with h | h
  · exact absurd (findN_lt k L n x h hx) hl
  · omega
theorem findB_here {k : S34} {L : RL} {n : Nat} {x : S81} (hn : n = findN k L) (hx : L[n]? = some x) : findB k L = decide (x.f0 = k) := by
  unfold findB; rw [← hn, hx]
theorem findB_out {k : S34} {L : RL} (hn : L.length ≤ findN k L) : findB k L = false := by
  unfold findB; rw [List.getElem?_eq_none hn]
set_option maxHeartbeats 8000000 in
set_option maxRecDepth 100000 in
theorem find_calls (w : World) (rb : Nat) (L : RL) (k : S34) (h : RefAt w rb L) :
    Calls Try.prog 42 #[.pointer (some ⟨rb, 0, none⟩), encK k] w fun e w' => e = .returned (.tuple #[.int .i64 (findN k L), .bool (findB k L)]) ∧ Below w.heap.size w w' := by
  show Calls Try.prog 42 #[.pointer (some ⟨rb, 0, none⟩), .agg #[.int .i64 k.f0, .int .i64 k.f1, .int .i64 k.f2]] w _
  obtain ⟨A, c, hb, hc, hC⟩ := h.rows
  have hlt := h.lt
  have hC0 := hC w (SameBut.refl _ _)
  have hmax := hC0.2.1
  have hcell : w.cell? ⟨rb, 0, none⟩ = some (.slice A L.length c) := (blk_cell hb 0).trans rfl
  clear hb hC h
  go_enter Try.func42, Try.ntmps42
  go_wp2
  go_loopw [6, 7] (fun i _ wr => ∃ n : Nat, n ≤ findN k L ∧ i = .int .i64 n ∧ Below w.heap.size w wr ∧ wr.heap[w.heap.size]? = some (.cells #[.int .i64 k.f0, .int .i64 k.f1, .int .i64 k.f2] 34 (0, 0))) (fun i _ wr => L.length - (intOf i).toNat)
  case atStart => exact ⟨0, Nat.zero_le _, rfl, (by repeat (first | exact Below.refl _ _ | assumption | with_reducible apply below_alloc | with_reducible apply pw_below_drewN | with_reducible apply below_drew)), by show (w.heap.push _)[w.heap.size]? = _; simp⟩
  case round =>
    obtain ⟨n, hn, rfl, hB, hbx⟩ := hrel
    have hcw : wr.cell? ⟨rb, 0, none⟩ = some (.slice A L.length c) := pw_cell_below hB hcell
    have k0 : wr.cell? ⟨w.heap.size, 0, none⟩ = some (.int .i64 k.f0) := (blk_cell hbx 0).trans rfl
    have k1 : wr.cell? ⟨w.heap.size, 1, none⟩ = some (.int .i64 k.f1) := (blk_cell hbx 1).trans rfl
    have k2 : wr.cell? ⟨w.heap.size, 2, none⟩ = some (.int .i64 k.f2) := (blk_cell hbx 2).trans rfl
    have hnl := Nat.le_trans hn (findN_le k L)
    by_cases hl : n < L.length
    · obtain ⟨ad, A3, c3, rfl, c0, c1, c2, c3', _, _⟩ := at_T81 (Kd.C_below hC0 hB) n (by omega) (by omega)
      simp only [Int.toNat_natCast] at c0 c1 c2 c3'
      rw [rd81 hl] at c0 c1 c2 c3'
      have hx : L[n]? = some L[n] := List.getElem?_eq_getElem hl
      generalize L[n] = x at *
      have q0 := fun d os => cell_regrown c0 d os
      have q1 := fun d os => cell_regrown c1 d os
      have q2 := fun d os => cell_regrown c2 d os
      have q3 := fun d os => cell_regrown hcw d os
      have q4 := fun d os => cell_regrown k0 d os
      have q5 := fun d os => cell_regrown k1 d os
      have q6 := fun d os => cell_regrown k2 d os
      go_wp2_with fail
      refine region_below (wr) (by kernel_rfl) (by kernel_rfl) ?_; (repeat (refine WQ.step (fun K hK => ?_); go_simp; first | (refine hK _ ?_; clear hK K) | (apply Exists.intro; refine ⟨fun _ => ?_, hK _ ?_⟩; (exact Calls.regrown_of (before_calls x.f0 k _)); clear hK K))); refine WQ.nil ?_; intro wq hQB
      clear q0 q1 q2 q3 q4 q5 q6
      by_cases hlk : ltK x.f0 k
      · rw [decide_eq_true hlk]
        have hn1 := Lib.hid (findN_more hn hx hlk)
        go_wp2
        go_roundw
        case rel => exact ⟨n + 1, hn1.out, by go_num, below_then hB hB.size hQB, (hQB.block w.heap.size (blk_lt hbx)).trans hbx⟩
        case measure => simp [intOf]; omega
      · rw [decide_eq_false hlk]
        have hn1 := Lib.hid (findN_here hn hx hlk)
        have hb1 := Lib.hid (findB_here hn1.out hx)
        have q0 := fun d os => cell_regrown (pw_cell_below hQB c0) d os
        have q1 := fun d os => cell_regrown (pw_cell_below hQB c1) d os
        have q2 := fun d os => cell_regrown (pw_cell_below hQB c2) d os
        have q3 := fun d os => cell_regrown (pw_cell_below hQB hcw) d os
        have q4 := fun d os => cell_regrown (pw_cell_below hQB k0) d os
        have q5 := fun d os => cell_regrown (pw_cell_below hQB k1) d os
        have q6 := fun d os => cell_regrown (pw_cell_below hQB k2) d os
        have hQ1 := below_then hB hB.size hQB
        clear hQB hB
        clear hn
        have hli : (n : Int) < (L.length : Int) := by omega
        have hlz : (0 : Int) ≤ (n : Int) := by omega
        go_wp2_with fail
        refine region_below (wq) (by kernel_rfl) (by kernel_rfl) ?_; (repeat (refine WQ.step (fun K hK => ?_); go_simp; first | (refine hK _ ?_; clear hK K) | (apply Exists.intro; refine ⟨fun _ => ?_, hK _ ?_⟩; (fail); clear hK K))); refine WQ.nil ?_; intro wq hQB
        go_wp2
        go_ret2
        exact ⟨by rw [hb1.out, ← hn1.out, ← eq3]; rfl, below_then hQ1 hQ1.size hQB⟩
    · have hn1 := Lib.hid (show n = findN k L by have := findN_le k L; omega)
      have hb1 := Lib.hid (findB_out (k := k) (L := L) (by omega))
      have q3 := fun d os => cell_regrown hcw d os
      have hl2 : L.length ≤ n := by omega
      clear hnl
      clear hn
      go_wp2_with fail
      refine region_below (wr) (by kernel_rfl) (by kernel_rfl) ?_; (repeat (refine WQ.step (fun K hK => ?_); go_simp; first | (refine hK _ ?_; clear hK K) | (apply Exists.intro; refine ⟨fun _ => ?_, hK _ ?_⟩; (fail); clear hK K))); refine WQ.nil ?_; intro wq hQB
      go_wp2
      go_ret2
      exact ⟨by rw [hb1.out, ← hn1.out]; rfl, below_then hB hB.size hQB⟩
end Go.Proofs.Ytokambhemoeloaa.G
end
