/-
  The walk of credit.Run's closure: it appends a start, keeps the next state, and says whether that state is valid.
-/
import Derived.Test.YtjepnlebmgkomaaCreditD
namespace Go.Proofs.Ytjepnlebmgkomaa
open Go.RowKit

theorem int_info : (Try.prog.info? 3).map (fun i => (i.zero, i.size, i.bytes)) = some (some (.int .i64 0), 1, 8) := by kernel_rfl


theorem stateE_eq (a l : Int) : (stateE a l == 0) = stateB a l := by
  cases h : stateB a l
  · rw [stateE_no h]; rfl
  · rw [stateE_yes h]; rfl

def CollPost (w : World) (g base : Nat) (xs : List Int) (st a l : Int) (e : Ending) (w' : World) : Prop :=
  e = .returned (.bool (stateB a l)) ∧ (∃ A c, Blk w' g 29 #[.slice A (xs.length + 1) c] ∧ w'.ownsRow base 3 1 (.slice A (xs.length + 1) c) (xs.length + 1) ((xs ++ [st]).map (Value.int .i64))) ∧
  Blk w' (g + 1) 40 #[.int .i64 a, .int .i64 l] ∧ Below g w w'

set_option maxHeartbeats 1000000 in
theorem collect_any (st a l a0 l0 : Int) (w : World) (g base : Nat) (A : Option Addr) (c : Nat) (xs : List Int) (hg : Blk w g 29 #[.slice A xs.length c]) (hh : Blk w (g + 1) 40 #[.int .i64 a0, .int .i64 l0])
    (hgb : g + 1 < base) (hown : w.ownsRow base 3 1 (.slice A xs.length c) xs.length (xs.map (Value.int .i64))) (hlen : xs.length ≤ 1000) (hbase : base ≤ w.heap.size) :
    Calls Try.prog 28 #[.int .i64 st, .agg #[.int .i64 a, .int .i64 l], .pointer (some ⟨g, 0, none⟩), .pointer (some ⟨g + 1, 0, none⟩)] w (CollPost w g base xs st a l) := by
  obtain ⟨i0, hi0, hz0, hz1, hz2⟩ := info_parts int_info
  have G0 := hg.cell 0
  have F0 := hg.frozen 0
  have E0 := hh.cell 0
  have E1 := hh.cell 1
  have F1 := hh.frozen 0
  have F2 := hh.frozen 1
  simp only [List.getElem?_toArray, List.getElem?_cons_zero, List.getElem?_cons_succ] at G0 E0 E1
  have hlt : g < w.heap.size := by omega
  have hlt1 : g + 1 < w.heap.size := by omega
  have HG := hide hg
  have HH := hide hh
  clear hg hh
  go_enter Try.func28, Try.ntmps28
  go_wp2_with (at_builtin; refine wpList_append_own _ rfl _ _ 29 rfl base 3 i0 (.int .i64 0) 1 8 Try.underlying29 hi0 hz0 hz1 hz2 rfl (by decide) _ _ _ rfl ((hown.alloc _).alloc _) ⟨w.heap.size + 1, 0, none⟩ 1 1 [.int .i64 st] rfl rfl ?c1 ?c2 ?c3 ?c4 ?c5 ?_)
  case c1 => exact cell_one_at (by simp) _ _
  case c2 => simp [Value.oneCell']
  case c3 => simp only [maxLen]; omega
  case c4 => omega
  case c5 => first | omega | (simp; done) | (simp; omega)
  intro v1 w1 hown1 hgr1 _
  obtain ⟨A1, c1, rfl, _, _⟩ := own_form hown1
  have hne : ∀ k, k < base → some k ≠ (Value.slice A xs.length c).ownBlock := fun k hk e => by have := (own_lt hown e.symm).1; omega
  have hB0 := ((HG.out.alloc _).alloc _).grown hgr1 (hne _ (by omega))
  have hB1 := ((HH.out.alloc _).alloc _).grown hgr1 (hne _ (by omega))
  have hB2 := ((Blk.new w 40 #[.int .i64 a, .int .i64 l]).alloc (.cells #[.int .i64 st] 3)).grown hgr1 (fun e => by have := (own_lt hown e.symm).2; omega)
  have hL1 : Below g w w1 := Below.grown (((Below.refl _ w).alloc (by omega) _).alloc (by first | omega | (simp; done) | (simp; omega)) _) hgr1 (by first | omega | (simp; done) | (simp; omega)) (fun k hk => by have := (own_lt hown hk).1; omega)
  have hs1 := hgr1.size
  simp at hs1
  clear hgr1 hne G0 F0 E0 E1 F1 F2 HG HH hown
  have G0 := hB0.cell 0
  have F0 := hB0.frozen 0
  have E0 := hB1.cell 0
  have E1 := hB1.cell 1
  have F1 := hB1.frozen 0
  have F2 := hB1.frozen 1
  have D0 := hB2.cell 0
  have D1 := hB2.cell 1
  simp only [List.getElem?_toArray, List.getElem?_cons_zero, List.getElem?_cons_succ] at G0 E0 E1 D0 D1
  have HB0 := hide hB0
  have HB1 := hide hB1
  have HB2 := hide hB2
  clear hB0 hB1 hB2
  go_wp2_with fail
  refine (checkState_any _ _ _).mono ?_
  rintro e w2 ⟨rfl, hb2⟩
  go_wp2_with fail
  go_ret
  have q0 : Blk w2 g 29 #[.slice A1 (xs.length + 1) c1] := (((HB0.out.set_ 0 _).far (p := ⟨g + 1, 0, none⟩) (by simp) _).far (p := ⟨g + 1, 1, none⟩) (by simp) _).below hb2 (by simp; omega)
  have q1 : Blk w2 (g + 1) 40 #[.int .i64 a, .int .i64 l] := (((HB1.out.far (p := ⟨g, 0, none⟩) (by simp) _).set_ 0 _).set_ 1 _).below hb2 (by simp; omega)
  refine ⟨ret_bool (stateE_eq a l), ⟨A1, c1, q0, ?_⟩, q1, ?_⟩
  · rw [List.map_append, List.map_singleton]
    exact own_keep (own_set (a := ⟨g + 1, 1, none⟩) (own_set (a := ⟨g + 1, 0, none⟩) (own_set (a := ⟨g, 0, none⟩) hown1 (by simp; omega) _) (by simp; omega) _) (by simp; omega) _) hb2 (Nat.le_refl _)
  · exact below_on (((hL1.setCell (p := ⟨g, 0, none⟩) (by simp) _).setCell (p := ⟨g + 1, 0, none⟩) (by simp) _).setCell (p := ⟨g + 1, 1, none⟩) (by simp) _) hb2 (by first | omega | (simp; done) | (simp; omega))
end Go.Proofs.Ytjepnlebmgkomaa
