/-
  The walks of the law's trace and runs.
-/
import Derived.Test.YtjepnlebmgkomaaCreditO
import Derived.Test.YtjepnlebmgkomaaCreditK
namespace Go.Proofs.Ytjepnlebmgkomaa
open Go.RowKit
set_option linter.unusedVariables false

def pairT (l : List Int) (k : Nat) : List (Int × Int) := (List.range k).map fun i => (l[2 * i]?.getD 0, l[2 * i + 1]?.getD 0)
theorem pairT_succ (l : List Int) (k : Nat) : pairT l (k + 1) = pairT l k ++ [(l[2 * k]?.getD 0, l[2 * k + 1]?.getD 0)] := by
  unfold pairT
  rw [List.range_succ, List.map_append]
  rfl
theorem pairT_length (l : List Int) (k : Nat) : (pairT l k).length = k := by simp [pairT]

set_option maxHeartbeats 1000000 in
theorem lawTrace_any (A : Option Addr) (l : List Int) (c : Nat) (w : World) (hA : Arr1 .i64 w w.heap.size A l) (hm : l.length ≤ 1000) :
    Calls Try.prog 23 #[.slice A l.length c] w (TracePost w (pairT l (l.length / 2))) := by
  obtain ⟨i0, hi0, hz0, hz1, hz2⟩ := info_parts arrival_info
  obtain ⟨n, hn⟩ : ∃ n, l.length = n := ⟨_, rfl⟩
  rw [hn] at hm ⊢
  have HA := hide hA
  have HN := hide hn
  clear hA hn
  go_enter Try.func23, Try.ntmps23
  go_wp2
  go_loopw [3, 4] (fun o i wr => ∃ (k j : Nat) (B : Option Addr) (d : Nat), j = 2 * k ∧ 2 * k ≤ n ∧ i = .int .i64 j ∧ o = .slice B k d ∧ Hid (wr.ownsRow w.heap.size 57 2 (.slice B k d) k (flat2 (pairT l k))) ∧ Below w.heap.size w wr) (fun _ i _ => n - (intOf i).toNat)
  case atStart => exact ⟨0, 0, none, 0, rfl, by omega, rfl, rfl, hide (World.ownsRow_nil _ _ _ _), Below.refl _ _⟩
  case round =>
    obtain ⟨k, j, B, d, hj, hk, rfl, rfl, HO, hb⟩ := hrel
    have hj1 : 2 * k ≤ j := by omega
    have hj2 : j ≤ 2 * k := by omega
    clear hj
    by_cases hlt : j + 1 < n
    · obtain ⟨x, hx⟩ := at_of_lt (l := l) (k := j) (by have := HN.out; omega)
      obtain ⟨y, hy⟩ := at_of_lt (l := l) (k := j + 1) (by have := HN.out; omega)
      obtain ⟨b1, o1, rfl, hb1, g1⟩ := HA.out j _ hx
      obtain ⟨b2, o2, e2, hb2, g2⟩ := HA.out (j + 1) _ hy
      obtain ⟨rfl, rfl⟩ : b1 = b2 ∧ o1 = o2 := by
        injection e2 with e2
        injection e2 with e2 e3
        exact ⟨e2, e3⟩
      have g1' : wr.cell? ⟨b1, o1 + j, none⟩ = some (.int .i64 x) := (hb.cell (p := ⟨b1, o1 + j, none⟩) hb1).trans g1
      have g2' : wr.cell? ⟨b1, o1 + (j + 1), none⟩ = some (.int .i64 y) := (hb.cell (p := ⟨b1, o1 + (j + 1), none⟩) hb1).trans g2
      have HXY : Hid (pairT l (k + 1) = pairT l k ++ [(x, y)]) := hide (by rw [pairT_succ, show 2 * k = j by omega, hx, hy]; rfl)
      have hs := hb.size
      have hlt0 : (j : Int) < (n : Int) := by omega
      have hlt1 : (j : Int) + 1 < (n : Int) := by omega
      have hp1 : (0 : Int) ≤ (j : Int) + 1 := by omega
      have hw1 : IntKind.i64.wrap ((j : Int) + 1) = (j : Int) + 1 := IntWalk.i64_in _ (by omega)
      have ht1 : ((j : Int) + 1).toNat = j + 1 := by omega
      have hbw : b1 < wr.heap.size := by omega
      have hOb : ∀ q, (Value.slice B k d).ownBlock = some q → w.heap.size ≤ q := fun q hq => (own_lt HO.out hq).1
      have HOB := hide hOb
      clear g1 g2 hx hy e2 hb2 hOb
      go_wp2_with fail
      go_region_held3 (fun w' => w'.cell? ⟨b1, o1 + j, none⟩ = some (.int .i64 x) ∧ w'.cell? ⟨b1, o1 + (j + 1), none⟩ = some (.int .i64 y))
        (go_keep)
        ((refine step_append_lies _ (by rfl) _ _ _ (by rfl) w.heap.size 57 i0 (.agg #[.int .i64 0, .int .i64 0]) 2 16 Try.underlying24 hi0 hz0 hz1 hz2 rfl (by decide) (.slice B k d) k (flat2 (pairT l k)) (by rfl) ((HO.out.alloc _).drew) ⟨wr.heap.size, 0, none⟩ 1 1 [.int .i64 x, .int .i64 y] (by rfl) (by rfl) (World.news_of_block (cs := #[.int .i64 x, .int .i64 y]) (t := 57) (fr := (0, 0)) (heap_alloc_new wr _)) (by simp [Value.oneCell']) (by omega) (by simp only [maxLen]; omega) (by omega) (by first | omega | (simp; done) | (simp; omega)) (wr.heap.size + 1) (by simp) ?_; intro g cap w6 hown6 hgr6 hat6 hlt6; have k0 : w6.cell? ⟨b1, o1 + j, none⟩ = some (.int .i64 x) := (World.cell?_of_block (hgr6.block b1 (by simp; omega) (fun e => by have := HOB.out _ e.symm; omega))).trans (by go_simp); have k1 : w6.cell? ⟨b1, o1 + (j + 1), none⟩ = some (.int .i64 y) := (World.cell?_of_block (hgr6.block b1 (by simp; omega) (fun e => by have := HOB.out _ e.symm; omega))).trans (by go_simp)))
      go_wp2_with fail
      go_roundw
      case rel =>
        refine ⟨k + 1, j + 2, some ⟨g, 0, none⟩, cap, by omega, by omega, by go_num, rfl, hide ?_, Below.grown (Below.drew (hb.alloc (by omega) _)) hgr6 (by first | omega | (simp; done) | (simp; omega)) (fun q hq => HOB.out q hq)⟩
        rw [HXY.out, flat2_snoc]
        exact hown6
      case measure => simp [intOf]; omega
    · go_wp2_with fail
      go_ret
      have hk2 : n / 2 = k := by omega
      refine ⟨B, d, ?_, ?_, hb⟩
      · rw [hk2, pairT_length]; rfl
      · rw [hk2, pairT_length]; exact HO.out
end Go.Proofs.Ytjepnlebmgkomaa
