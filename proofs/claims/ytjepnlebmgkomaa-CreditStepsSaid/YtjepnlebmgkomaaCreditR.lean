/-
  The walk of the law's works: the chapter's examples hold.
-/
import Derived.Test.YtjepnlebmgkomaaCreditQ
namespace Go.Proofs.Ytjepnlebmgkomaa
open Go.RowKit
set_option linter.unusedVariables false

theorem arr1_blk {w : World} {g : Nat} {t : TypeId} {cs : Array Value} {l : List Int} (h : Blk w g t cs) (hcs : cs = (l.map (Value.int .i64)).toArray) : Arr1 .i64 w w.heap.size (some ⟨g, 0, none⟩) l := fun k x hx => by
  refine ⟨g, 0, rfl, h.lt, ?_⟩
  rw [h.cell, hcs, Nat.zero_add]
  simp [hx]
theorem lawTrace_lit {A : Option Addr} {l : List Int} {p : List (Int × Int)} {c n m : Nat} {w : World} (hA : Arr1 .i64 w w.heap.size A l) (hn : l.length = n) (hm : n ≤ 1000) (hp : pairT l (l.length / 2) = p) (hm2 : p.length = m) :
    Calls Try.prog 23 #[.slice A n c] w fun e w' => ∃ B d, e = .returned (.slice B m d) ∧ Arr2 w' w'.heap.size B p ∧ Below w.heap.size w w' := by
  subst hn hp hm2
  exact (lawTrace_any A l c w hA hm).mono fun e w' ⟨B, d, he, ho, hb⟩ => ⟨B, d, he, own_arr2 ho, hb⟩
theorem runs_lit {A Fa Wa : Option Addr} {l : List (Int × Int)} {free want : List Int} {n nf nw c cf cw : Nat} {at_ lev : Int} {w : World} {b : Bool} (hA : Arr2 w w.heap.size A l) (hF : Arr1 .i64 w w.heap.size Fa free) (hW : Arr1 .i64 w w.heap.size Wa want)
    (hn : l.length = n) (hnf : free.length = nf) (hnw : want.length = nw) (h1 : n ≤ 1000) (h2 : nf ≤ 1000) (h3 : nw ≤ 1000) (hb : runsB l free at_ lev want = b) :
    Calls Try.prog 24 #[.slice A n c, .slice Fa nf cf, .int .i64 at_, .int .i64 lev, .slice Wa nw cw] w (Ret w (.bool b)) := by
  subst hn hnf hnw hb
  exact runs_any A Fa Wa l free want c cf cw at_ lev w hA hF hW (by omega) (by omega) (by omega)

set_option maxHeartbeats 2000000 in
theorem works_any (w : World) : Calls Try.prog 15 #[] w (Ret w (.bool true)) := by
  go_enter Try.func15, Try.ntmps15
  go_wp2_with fail
  refine (lawTrace_lit (l := [0, 100, 0, 100, 0, 100]) (p := [(0, 100), (0, 100), (0, 100)]) (m := 3) (arr1_blk (Blk.new' _ _ _ (by simp)) rfl) rfl (by decide) (by decide) rfl).mono ?_
  rintro e a1 ⟨B1, d1, rfl, hA1, hb1a⟩
  have hz1a := hb1a.size
  simp at hz1a
  have HA1 := hide hA1
  clear hA1
  go_wp2_with fail
  refine (runs_lit (l := [(0, 100), (0, 100), (0, 100)]) (free := []) (want := [0, 800, 1600]) (b := true) ((HA1.out.alloc (Nat.le_refl _) _).more (by first | omega | (simp; done) | (simp; omega))) Arr1.nil (arr1_blk (Blk.new' _ _ _ (by simp)) rfl) rfl rfl rfl (by decide) (by decide) (by decide) (by decide +kernel)).mono ?_
  rintro e w1 ⟨rfl, hb1⟩
  have hz1 := hb1.size
  simp at hz1
  have hL1 : Below w.heap.size w w1 := by
    (repeat (first | exact Below.refl _ _ | assumption | refine Below.drew ?_ | refine Below.setCell ?_ (by first | omega | (simp; done) | (simp; omega)) _ | refine Below.alloc ?_ (by first | omega | (simp; done) | (simp; omega)) _ | refine below_on ?_ (by assumption) (by first | omega | (simp; done) | (simp; omega))))
  clear hb1 hb1a HA1
  go_wp2_with fail
  refine (lawTrace_lit (l := [0, 100, 5000, 100]) (p := [(0, 100), (5000, 100)]) (m := 2) (arr1_blk (Blk.new' _ _ _ (by simp)) rfl) rfl (by decide) (by decide) rfl).mono ?_
  rintro e a2 ⟨B2, d2, rfl, hA2, hb2a⟩
  have hz2a := hb2a.size
  simp at hz2a
  have HA2 := hide hA2
  clear hA2
  go_wp2_with fail
  refine (runs_lit (l := [(0, 100), (5000, 100)]) (free := []) (want := [0, 5000]) (b := true) ((HA2.out.alloc (Nat.le_refl _) _).more (by first | omega | (simp; done) | (simp; omega))) Arr1.nil (arr1_blk (Blk.new' _ _ _ (by simp)) rfl) rfl rfl rfl (by decide) (by decide) (by decide) (by decide +kernel)).mono ?_
  rintro e w2 ⟨rfl, hb2⟩
  have hz2 := hb2.size
  simp at hz2
  have hL2 : Below w.heap.size w w2 := by
    (repeat (first | exact Below.refl _ _ | assumption | refine Below.drew ?_ | refine Below.setCell ?_ (by first | omega | (simp; done) | (simp; omega)) _ | refine Below.alloc ?_ (by first | omega | (simp; done) | (simp; omega)) _ | refine below_on ?_ (by assumption) (by first | omega | (simp; done) | (simp; omega))))
  clear hb2 hb2a HA2
  go_wp2_with fail
  refine (lawTrace_lit (l := [0, 100, 0, 100]) (p := [(0, 100), (0, 100)]) (m := 2) (arr1_blk (Blk.new' _ _ _ (by simp)) rfl) rfl (by decide) (by decide) rfl).mono ?_
  rintro e a3 ⟨B3, d3, rfl, hA3, hb3a⟩
  have hz3a := hb3a.size
  simp at hz3a
  have HA3 := hide hA3
  clear hA3
  go_wp2_with fail
  refine (runs_lit (l := [(0, 100), (0, 100)]) (free := [400]) (want := [400, 800]) (b := true) (((HA3.out.alloc (Nat.le_refl _) _).alloc (by first | omega | (simp; done) | (simp; omega)) _).more (by first | omega | (simp; done) | (simp; omega))) (arr1_blk ((Blk.new' _ _ _ (by simp)).alloc _) rfl) (arr1_blk (Blk.new' _ _ _ (by simp)) rfl) rfl rfl rfl (by decide) (by decide) (by decide) (by decide +kernel)).mono ?_
  rintro e w3 ⟨rfl, hb3⟩
  have hz3 := hb3.size
  simp at hz3
  have hL3 : Below w.heap.size w w3 := by
    (repeat (first | exact Below.refl _ _ | assumption | refine Below.drew ?_ | refine Below.setCell ?_ (by first | omega | (simp; done) | (simp; omega)) _ | refine Below.alloc ?_ (by first | omega | (simp; done) | (simp; omega)) _ | refine below_on ?_ (by assumption) (by first | omega | (simp; done) | (simp; omega))))
  clear hb3 hb3a HA3
  go_wp2_with fail
  refine (lawTrace_lit (l := [0, 100, 8100, 10]) (p := [(0, 100), (8100, 10)]) (m := 2) (arr1_blk (Blk.new' _ _ _ (by simp)) rfl) rfl (by decide) (by decide) rfl).mono ?_
  rintro e a4 ⟨B4, d4, rfl, hA4, hb4a⟩
  have hz4a := hb4a.size
  simp at hz4a
  have HA4 := hide hA4
  clear hA4
  go_wp2_with fail
  refine (runs_lit (l := [(0, 100), (8100, 10)]) (free := [8000]) (want := [8000, 8200]) (b := true) (((HA4.out.alloc (Nat.le_refl _) _).alloc (by first | omega | (simp; done) | (simp; omega)) _).more (by first | omega | (simp; done) | (simp; omega))) (arr1_blk ((Blk.new' _ _ _ (by simp)).alloc _) rfl) (arr1_blk (Blk.new' _ _ _ (by simp)) rfl) rfl rfl rfl (by decide) (by decide) (by decide) (by decide +kernel)).mono ?_
  rintro e w4 ⟨rfl, hb4⟩
  have hz4 := hb4.size
  simp at hz4
  have hL4 : Below w.heap.size w w4 := by
    (repeat (first | exact Below.refl _ _ | assumption | refine Below.drew ?_ | refine Below.setCell ?_ (by first | omega | (simp; done) | (simp; omega)) _ | refine Below.alloc ?_ (by first | omega | (simp; done) | (simp; omega)) _ | refine below_on ?_ (by assumption) (by first | omega | (simp; done) | (simp; omega))))
  clear hb4 hb4a HA4
  go_wp2_with fail
  refine (check_no _ _ _ (by decide +kernel)).mono ?_
  rintro e w5 ⟨rfl, hb5⟩
  go_wp2_with fail
  go_ret
  exact ⟨rfl, below_on hL4 hb5 (by first | omega | (simp; done) | (simp; omega))⟩
end Go.Proofs.Ytjepnlebmgkomaa
