/-
  The walk of the reference's Draft.Trace: it makes the trace that a draft describes.
-/
import Derived.Test.YtjepnlebmgkomaaRows
import Derived.Test.YtjepnlebmgkomaaBase
import Derived.Test.YtjepnlebmgkomaaDraftPlain
namespace Go.Proofs.Ytjepnlebmgkomaa
open Go.RowKit
set_option linter.unusedVariables false

theorem arrival_info : (Try.prog.info? 57).map (fun i => (i.zero, i.size, i.bytes)) = some (some (.agg #[.int .i64 0, .int .i64 0]), 2, 16) := by kernel_rfl
def TracePost (w : World) (l : List (Int × Int)) (e : Ending) (w' : World) : Prop :=
  ∃ A c, e = .returned (.slice A l.length c) ∧ w'.ownsRow w.heap.size 57 2 (.slice A l.length c) l.length (flat2 l) ∧ Below w.heap.size w w'
/-- A draft as a value: its two numbers, its gaps and sizes. -/
def draftV (bu ra : Int) (Ga Sa : Option Addr) (ng cg ns cs : Nat) : Value := .agg #[.int .u32 bu, .int .u32 ra, .slice Ga ng cg, .slice Sa ns cs]

set_option maxHeartbeats 1000000 in
theorem draftTrace_any (bu ra : Int) (Ga Sa : Option Addr) (gaps sizes : List Int) (cg cs : Nat) (w : World) (hG : Arr1 .u16 w w.heap.size Ga gaps) (hS : Arr1 .u16 w w.heap.size Sa sizes) (h16 : All16 gaps) (h16' : All16 sizes)
    (hm : gaps.length ≤ 9223372036854775807) (hm' : sizes.length ≤ 9223372036854775807) :
    Calls Try.prog 10 #[.agg #[.int .u32 bu, .int .u32 ra, .slice Ga gaps.length cg, .slice Sa sizes.length cs]] w (TracePost w (drTrace gaps sizes)) := by
  obtain ⟨i0, hi0, hz0, hz1, hz2⟩ := info_parts arrival_info
  obtain ⟨ng, hng⟩ : ∃ n, gaps.length = n := ⟨_, rfl⟩
  obtain ⟨ns, hns⟩ : ∃ n, sizes.length = n := ⟨_, rfl⟩
  rw [hng] at hm ⊢
  rw [hns] at hm' ⊢
  have HG := hide hG
  have HS := hide hS
  have HNG := hide hng
  have HNS := hide hns
  have H1 := hide h16
  have H2 := hide h16'
  clear hG hS hng hns h16 h16'
  go_enter Try.func10, Try.ntmps10
  go_wp2
  go_loopw [3, 4, 5] (fun o at_ i wr => ∃ (k : Nat) (A : Option Addr) (c : Nat), k ≤ 30 ∧ k ≤ ns ∧ i = .int .i64 k ∧ o = .slice A k c ∧ at_ = .int .i64 (gapSum gaps k) ∧ Hid (wr.ownsRow (w.heap.size + 1) 57 2 (.slice A k c) k (flat2 (drTake gaps sizes k))) ∧
    Hid (Blk wr w.heap.size 28 #[.int .u32 bu, .int .u32 ra, .slice Ga ng cg, .slice Sa ns cs]) ∧ Below w.heap.size w wr) (fun _ _ i _ => ns - (intOf i).toNat)
  case atStart => exact ⟨0, none, 0, by omega, by omega, rfl, rfl, rfl, hide (World.ownsRow_nil _ _ _ _), hide (Blk.new _ _ _), (Below.refl _ _).alloc (Nat.le_refl _) _⟩
  case round =>
    obtain ⟨k, A, c, hk, hkn, rfl, rfl, rfl, HO, HB, hb⟩ := hrel
    have s2 : wr.cell? ⟨w.heap.size, 2, none⟩ = some (.slice Ga ng cg) := HB.out.cell 2
    have s3 : wr.cell? ⟨w.heap.size, 3, none⟩ = some (.slice Sa ns cs) := HB.out.cell 3
    have hz := HB.out.lt
    have gb := gapSum_bound H1.out k
    have gs := gapSum_step H1.out k
    by_cases hlt : k < ns
    · by_cases hlt2 : k < 30
      · obtain ⟨z, hx⟩ := at_of_lt (l := sizes) (k := k) (by have := HNS.out; omega)
        obtain ⟨bs, offs, rfl, hbs, g1⟩ := HS.out k _ hx
        have g1' : wr.cell? ⟨bs, offs + k, none⟩ = some (.int .u16 z) := (hb.cell (p := ⟨bs, offs + k, none⟩) hbs).trans g1
        have zb : 0 ≤ z ∧ z ≤ 65535 := H2.out z (List.mem_of_getElem? hx)
        have HZ : Hid (sizes[k]?.getD 0 = z) := hide (by rw [hx]; rfl)
        clear g1 hx
        by_cases hg : k < ng
        · obtain ⟨y, hy⟩ := at_of_lt (l := gaps) (k := k) (by have := HNG.out; omega)
          obtain ⟨bg, offg, rfl, hbg, g2⟩ := HG.out k _ hy
          have g2' : wr.cell? ⟨bg, offg + k, none⟩ = some (.int .u16 y) := (hb.cell (p := ⟨bg, offg + k, none⟩) hbg).trans g2
          have yb : 0 ≤ y ∧ y ≤ 65535 := H1.out y (List.mem_of_getElem? hy)
          have HY := hide (gapSum_in hy)
          clear g2 hy gs
          go_wp2_with (at_builtin; refine wpList_append_own _ rfl _ _ 24 rfl (w.heap.size + 1) 57 i0 (.agg #[.int .i64 0, .int .i64 0]) 2 16 Try.underlying24 hi0 hz0 hz1 hz2 rfl (by decide) _ _ _ rfl (HO.out.alloc _) ⟨wr.heap.size, 0, none⟩ 1 1 [.int .i64 (gapSum gaps k + y), .int .i64 (1 + z)] rfl rfl (cell_two_at rfl _ _ _) (by simp [Value.oneCell']) (by simp only [maxLen]; omega) (by omega) (by first | omega | (simp; done) | (simp; omega)) ?_; intro v1 w1 hown1 hgr1 _)
          obtain ⟨A1, c1, rfl, _, _⟩ := own_form hown1
          go_wp2_with fail
          go_roundw
          case rel =>
            have hne : ∀ j, (Value.slice A k c).ownBlock = some j → w.heap.size + 1 ≤ j := fun j hj => (own_lt HO.out hj).1
            refine ⟨k + 1, A1, c1, by omega, by omega, by go_num, rfl, by rw [HY.out], hide ?_, hide ((HB.out.alloc _).grown hgr1 (fun e => by have := hne _ e.symm; omega)), Below.grown (hb.alloc (by omega) _) hgr1 (by first | omega | (simp; done) | (simp; omega)) (fun j hj => by have := hne j hj; omega)⟩
            rw [drTake_succ, flat2_snoc, HY.out, HZ.out]
            exact hown1
          case measure => simp [intOf]; omega
        · have HY := hide (gapSum_out (gaps := gaps) (k := k) (by have := HNG.out; omega))
          clear gs
          go_wp2_with (at_builtin; refine wpList_append_own _ rfl _ _ 24 rfl (w.heap.size + 1) 57 i0 (.agg #[.int .i64 0, .int .i64 0]) 2 16 Try.underlying24 hi0 hz0 hz1 hz2 rfl (by decide) _ _ _ rfl (HO.out.alloc _) ⟨wr.heap.size, 0, none⟩ 1 1 [.int .i64 (gapSum gaps k), .int .i64 (1 + z)] rfl rfl (cell_two_at rfl _ _ _) (by simp [Value.oneCell']) (by simp only [maxLen]; omega) (by omega) (by first | omega | (simp; done) | (simp; omega)) ?_; intro v1 w1 hown1 hgr1 _)
          obtain ⟨A1, c1, rfl, _, _⟩ := own_form hown1
          go_wp2_with fail
          go_roundw
          case rel =>
            have hne : ∀ j, (Value.slice A k c).ownBlock = some j → w.heap.size + 1 ≤ j := fun j hj => (own_lt HO.out hj).1
            refine ⟨k + 1, A1, c1, by omega, by omega, by go_num, rfl, by rw [HY.out], hide ?_, hide ((HB.out.alloc _).grown hgr1 (fun e => by have := hne _ e.symm; omega)), Below.grown (hb.alloc (by omega) _) hgr1 (by first | omega | (simp; done) | (simp; omega)) (fun j hj => by have := hne j hj; omega)⟩
            rw [drTake_succ, flat2_snoc, HY.out, HZ.out]
            exact hown1
          case measure => simp [intOf]; omega
      · go_wp2_with fail
        go_ret
        obtain rfl : k = 30 := by omega
        refine ⟨A, c, ?_, ?_, hb⟩
        · rw [drTrace_length, HNS.out, show min 30 ns = 30 by omega]
          rfl
        · rw [drTrace_length, drTrace, HNS.out, show min 30 ns = 30 by omega]
          exact own_base HO.out (by omega)
    · go_wp2_with fail
      go_ret
      obtain rfl : k = ns := by omega
      refine ⟨A, c, ?_, ?_, hb⟩
      · rw [drTrace_length, HNS.out, show min 30 k = k by omega]
        rfl
      · rw [drTrace_length, drTrace, HNS.out, show min 30 k = k by omega]
        exact own_base HO.out (by omega)
end Go.Proofs.Ytjepnlebmgkomaa
