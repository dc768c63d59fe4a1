/-
  The walk of CreditRuns: it returns true for every input.
-/
import Derived.Test.YtjepnlebmgkomaaCreditR
import Derived.Test.YtjepnlebmgkomaaCreditM
namespace Go.Proofs.Ytjepnlebmgkomaa
open Go.RowKit
set_option linter.unusedVariables false

/-- A row of integers that is filled from its head. -/
def fillK (zs : List Value) (f : Int → Int) (xs : List Int) (k : Nat) : List Value := (xs.take k).map (fun x => Value.int .i64 (f x)) ++ zs.drop k
theorem fillK_zero (zs : List Value) (f : Int → Int) (xs : List Int) : fillK zs f xs 0 = zs := by simp [fillK]
theorem fillK_all {zs : List Value} {f : Int → Int} {xs : List Int} {k : Nat} (h : xs.length ≤ k) (h2 : zs.length ≤ k) : fillK zs f xs k = (xs.map f).map (Value.int .i64) := by simp [fillK, List.take_of_length_le h, List.drop_eq_nil_of_le h2]
theorem fillK_succ {zs : List Value} {f : Int → Int} {xs : List Int} {k : Nat} {x : Int} (h : xs[k]? = some x) (hz : zs.length = xs.length) : fillK zs f xs (k + 1) = (fillK zs f xs k).set k (.int .i64 (f x)) := by
  obtain ⟨hk, e⟩ := List.getElem?_eq_some_iff.1 h
  unfold fillK
  rw [List.take_succ_eq_append_getElem hk, e, List.drop_eq_getElem_cons (l := zs) (i := k) (by omega), List.map_append, List.set_append_right _ _ (by simp; omega)]
  have e1 : k - ((xs.take k).map fun x => Value.int .i64 (f x)).length = 0 := by simp; omega
  rw [e1, List.set_cons_zero]
  simp
theorem same_yes (A B : Option Addr) (a : List Int) (ca cb : Nat) (w : World) (hA : Arr1 .i64 w w.heap.size A a) (hB : Arr1 .i64 w w.heap.size B a) (hm : a.length ≤ 9223372036854775807) :
    Calls Try.prog 14 #[.slice A a.length ca, .slice B a.length cb] w fun e w' => e = .returned (.bool true) ∧ Below w.heap.size w w' := by
  have := same_any A B a a ca cb w hA hB hm hm
  rw [show sameB a a = true from decide_eq_true rfl] at this
  exact this
def nearX (x : Int) : Int := wrap64 ((IntKind.u64.wrap x).tmod 1048576)
theorem idx_slope (a b c d : Value) (w : World) : (Instr.index 34 (.agg #[a, b, c, d]) (.int .i64 0)).run Try.prog w = .ok (.agg #[a, b]) w ∧ (Instr.index 34 (.agg #[a, b, c, d]) (.int .i64 1)).run Try.prog w = .ok (.agg #[c, d]) w := ⟨by kernel_rfl, by kernel_rfl⟩

theorem idx_trace (a b c : Value) (w : World) : (Instr.index 37 (.agg #[a, b, c]) (.int .i64 0)).run Try.prog w = .ok a w ∧ (Instr.index 37 (.agg #[a, b, c]) (.int .i64 1)).run Try.prog w = .ok b w ∧ (Instr.index 37 (.agg #[a, b, c]) (.int .i64 2)).run Try.prog w = .ok c w := ⟨by kernel_rfl, by kernel_rfl, by kernel_rfl⟩
theorem idx_free (a b c d : Value) (w : World) : (Instr.index 38 (.agg #[a, b, c, d]) (.int .i64 0)).run Try.prog w = .ok a w ∧ (Instr.index 38 (.agg #[a, b, c, d]) (.int .i64 1)).run Try.prog w = .ok b w ∧ (Instr.index 38 (.agg #[a, b, c, d]) (.int .i64 2)).run Try.prog w = .ok c w ∧ (Instr.index 38 (.agg #[a, b, c, d]) (.int .i64 3)).run Try.prog w = .ok d w := ⟨by kernel_rfl, by kernel_rfl, by kernel_rfl, by kernel_rfl⟩

set_option maxRecDepth 100000 in
set_option maxHeartbeats 4000000 in
theorem creditRuns_walk (r p : Int) (A : Option Addr) (l : List (Int × Int)) (c : Nat) (bu ra : Int) (Ga Sa : Option Addr) (gaps sizes : List Int) (cg cs : Nat) (Fa : Option Addr) (free : List Int) (cf : Nat) (n0 n1 : Int) (w : World)
    (hA : Arr2 w w.heap.size A l) (hG : Arr1 .u16 w w.heap.size Ga gaps) (hS : Arr1 .u16 w w.heap.size Sa sizes) (h16 : All16 gaps) (h16' : All16 sizes) (hF : Arr1 .i64 w w.heap.size Fa free)
    (hm : l.length ≤ 9223372036854775807) (hmg : gaps.length ≤ 9223372036854775807) (hms : sizes.length ≤ 9223372036854775807) (hmf : free.length ≤ 9223372036854775807) (hc : l.length ≤ c) (hcf : free.length ≤ cf)
    (hn0 : 0 ≤ n0 ∧ n0 ≤ 4294967295) (hn1 : 0 ≤ n1 ∧ n1 ≤ 4294967295) :
    Calls Try.prog 3 #[.agg #[.int .i64 r, .int .i64 p], .slice A l.length c, .agg #[.int .u32 bu, .int .u32 ra, .slice Ga gaps.length cg, .slice Sa sizes.length cs], .slice Fa free.length cf, .agg #[.int .u32 n0, .int .u32 n1]] w (Ret w (.bool true)) := by
  obtain ⟨i0, hi0, hz0, hz1, hz2⟩ := info_parts int_info
  have HD1 : Hid (∀ W : World, Below w.heap.size w W → Calls Try.prog 10 #[.agg #[.int .u32 bu, .int .u32 ra, .slice Ga gaps.length cg, .slice Sa sizes.length cs]] W (TracePost W (drTrace gaps sizes))) := hide fun W hb => draftTrace_any bu ra Ga Sa gaps sizes cg cs W ((hG.below hb (Nat.le_refl _)).more hb.size) ((hS.below hb (Nat.le_refl _)).more hb.size) h16 h16' hmg hms
  have HD2 : Hid (∀ W : World, Below w.heap.size w W → Calls Try.prog 11 #[.agg #[.int .u32 bu, .int .u32 ra, .slice Ga gaps.length cg, .slice Sa sizes.length cs]] W (TracePost W ((drTrace gaps sizes).map capX))) := hide fun W hb => refTrace_any bu ra Ga Sa gaps sizes cg cs W ((hG.below hb (Nat.le_refl _)).more hb.size) ((hS.below hb (Nat.le_refl _)).more hb.size) h16 h16' hmg hms
  have hdl : (drTrace gaps sizes).length ≤ 30 := by rw [drTrace_length]; omega
  have HDL := hide hdl
  obtain ⟨ng, hng⟩ : ∃ n, gaps.length = n := ⟨_, rfl⟩
  obtain ⟨ns, hns⟩ : ∃ n, sizes.length = n := ⟨_, rfl⟩
  rw [hng, hns] at HD1 HD2 ⊢
  obtain ⟨dt, hdt⟩ : ∃ dt, drTrace gaps sizes = dt := ⟨_, rfl⟩
  rw [hdt] at HD1 HD2 HDL
  obtain ⟨m, hmm⟩ : ∃ m, (l.take 40).length = m := ⟨_, rfl⟩
  obtain ⟨mf, hmmf⟩ : ∃ m, (free.take 42).length = m := ⟨_, rfl⟩
  have hm40 : m ≤ 40 := by rw [← hmm, List.length_take]; omega
  have hm42 : mf ≤ 42 := by rw [← hmmf, List.length_take]; omega
  have hmin : (min ((l.length : Nat) : Int) 40).toNat = m := by rw [← hmm, List.length_take]; omega
  have hminf : (min ((free.length : Nat) : Int) 42).toNat = mf := by rw [← hmmf, List.length_take]; omega
  have hmc : m ≤ c := by rw [← hmm, List.length_take]; omega
  have hmcf : mf ≤ cf := by rw [← hmmf, List.length_take]; omega
  have HA := hide (hA.take 40)
  have HF := hide (hF.take 42)
  obtain ⟨l', hl'⟩ : ∃ l', l.take 40 = l' := ⟨_, rfl⟩
  obtain ⟨fr, hfr⟩ : ∃ f', free.take 42 = f' := ⟨_, rfl⟩
  rw [hl'] at HA hmm
  rw [hfr] at HF hmmf
  have HM := hide hmm
  have HMF := hide hmmf
  obtain ⟨n, hn⟩ : ∃ n, l.length = n := ⟨_, rfl⟩
  obtain ⟨nf, hnf⟩ : ∃ n, free.length = n := ⟨_, rfl⟩
  rw [hn] at hm hc hmin ⊢
  rw [hnf] at hmf hcf hminf ⊢
  have HMIN := hide hmin
  have HMINF := hide hminf
  clear hn hnf hmin hminf hmm hmmf hl' hfr hdt hng hns hA hF hG hS h16 h16' hdl hmg hms
  go_enter Try.func3, Try.ntmps3
  go_upto_region 1 with (fail)
  go_cut [1, 3] (fun s1 s3 wx => s1 = .slice A m c ∧ s3 = .slice Fa mf cf ∧ Blk wx w.heap.size 23 #[.int .i64 r, .int .i64 p] ∧ Blk wx (w.heap.size + 1) 28 #[.int .u32 bu, .int .u32 ra, .slice Ga ng cg, .slice Sa ns cs] ∧ Blk wx (w.heap.size + 1 + 1) 30 #[.int .u32 n0, .int .u32 n1] ∧ Below w.heap.size w wx)
  case first =>
    go_region
    go_wp2_with fail
    go_meet
    refine ⟨by rw [HMIN.out], by rw [HMINF.out], (((Blk.new w _ _).alloc _).alloc _).drew, ((Blk.new' _ _ _ (by simp)).alloc _).drew, (Blk.new' _ _ _ (by simp)).drew, ?_⟩
    (repeat (first | exact Below.refl _ _ | assumption | refine Below.drew ?_ | refine Below.setCell ?_ (by first | omega | (simp; done) | (simp; omega)) _ | refine Below.alloc ?_ (by first | omega | (simp; done) | (simp; omega)) _ | refine below_on ?_ (by assumption) (by first | omega | (simp; done) | (simp; omega))))
  case rest =>
    obtain ⟨rfl, rfl, hB0, hB1, hB2, hb⟩ := hcut
    have HB0 := hide hB0
    have HB1 := hide hB1
    have HB2 := hide hB2
    have c0 : wc.cell? ⟨w.heap.size + 1 + 1, 0, none⟩ = some (.int .u32 n0) := hB2.cell 0
    have c1 : wc.cell? ⟨w.heap.size + 1 + 1, 1, none⟩ = some (.int .u32 n1) := hB2.cell 1
    have z2 := hB2.lt
    clear hB0 hB1 hB2 HMIN HMINF
    go_wp2_with fail
    have hu1 : 0 ≤ IntKind.u16.wrap n1 ∧ IntKind.u16.wrap n1 ≤ 65535 := by
      rw [IntKind.wrap_u16]
      omega
    refine (of_any n0 (IntKind.u16.wrap n1) _ hn0.1 hn0.2 hu1.1 hu1.2).mono ?_
    generalize ofR n0 (IntKind.u16.wrap n1) = r2
    generalize ofP (IntKind.u16.wrap n1) = p2
    rintro e w1 ⟨rfl, hb1⟩
    have z3 := hb1.size
    have HBS : Hid (Blk w1 w.heap.size 23 #[.int .i64 r, .int .i64 p]) := hide (HB0.out.below hb1 (by omega))
    have HBD : Hid (Blk w1 (w.heap.size + 1) 28 #[.int .u32 bu, .int .u32 ra, .slice Ga ng cg, .slice Sa ns cs]) := hide (HB1.out.below hb1 (by omega))
    have hL1 : Below w.heap.size w w1 := below_on hb hb1 (by omega)
    clear HB0 HB1 HB2 c0 c1 hb hb1 hu1
    go_wp2_with (at_make; refine wpList_make_full _ rfl _ _ 29 rfl w1.heap.size 3 i0 (.int .i64 0) 1 Try.underlying29 hi0 hz0 hz1 .i64 .i64 _ _ mf rfl rfl rfl rfl (by rw [hz2]; omega) (by simp only [maxLen]; omega) (by first | omega | (simp; done) | (simp; omega)) ?_; intro w2 hown2 hgr2)
    have hs2 := hgr2.size
    simp at hs2
    have HBS2 : Hid (Blk w2 w.heap.size 23 #[.int .i64 r, .int .i64 p]) := hide ((HBS.out.alloc _).grown hgr2 (by simp))
    have HBD2 : Hid (Blk w2 (w.heap.size + 1) 28 #[.int .u32 bu, .int .u32 ra, .slice Ga ng cg, .slice Sa ns cs]) := hide ((HBD.out.alloc _).grown hgr2 (by simp))
    have HBO2 : Hid (Blk w2 w1.heap.size 23 #[.int .i64 r2, .int .i64 p2]) := hide ((Blk.new w1 _ _).grown hgr2 (by simp))
    have hL2 : Below w.heap.size w w2 := Below.grown (hL1.alloc hL1.size _) hgr2 (by first | omega | (simp; done) | (simp; omega)) (by intro k hk; cases hk)
    have HO2 := hide hown2
    clear HBS HBD hL1 hgr2 hown2
    go_wp2_with fail
    have hzl : ((madeCells (Value.int .i64 0).cells (mf * 1)).toList).length = mf := by simp [size_madeCells]
    obtain ⟨zs, hzs⟩ : ∃ zs, zs = (madeCells (Value.int .i64 0).cells (mf * 1)).toList := ⟨_, rfl⟩
    rw [← hzs] at HO2 hzl
    have HZL := hide hzl
    clear hzs hzl
    go_loopw [13] (fun i wr => ∃ k : Nat, k ≤ mf ∧ i = .int .i64 k ∧ Hid (wr.ownsRow w1.heap.size 3 1 (.slice (some ⟨w1.heap.size + 1, 0, none⟩) mf mf) mf (fillK zs nearX fr k)) ∧ Below (w1.heap.size + 1) w2 wr) (fun i _ => mf - (intOf i).toNat)
    case atStart => exact ⟨0, Nat.zero_le _, rfl, hide (by rw [fillK_zero]; simpa using HO2.out), Below.refl _ _⟩
    case round =>
      obtain ⟨k, hk, rfl, HO, hb2⟩ := hrel
      by_cases hlt : k < mf
      · obtain ⟨x, hx⟩ := at_of_lt (l := fr) (k := k) (by have := HMF.out; omega)
        obtain ⟨bf, of, rfl, hbf, g1⟩ := HF.out k _ hx
        have g1' : wr.cell? ⟨bf, of + k, none⟩ = some (.int .i64 x) := (hb2.cell (p := ⟨bf, of + k, none⟩) (by simp; omega)).trans ((hL2.cell (p := ⟨bf, of + k, none⟩) hbf).trans g1)
        obtain ⟨cur, hcur⟩ := own_blk HO.out
        obtain ⟨g, hg0, _, _, hcl⟩ := own_cells HO.out (by omega)
        obtain rfl : g = w1.heap.size + 1 := by
          injection hg0 with hg0
          injection hg0 with hg0
          exact hg0.symm
        have hkl : k < (fillK zs nearX fr k).length := by
          have := HMF.out
          have := HZL.out
          simp [fillK]
          omega
        obtain ⟨old, hold⟩ := at_of_lt hkl
        have g2' : wr.cell? ⟨w1.heap.size + 1, k, none⟩ = some old := by
          have := hcl k old hold
          rwa [Nat.zero_add] at this
        have f2 := hcur.frozen k
        have zk : (k : Int) < (mf : Int) := by omega
        have HX := hide hx
        clear g1 hx hcur hcl hold hkl hg0
        go_wp2_with fail
        go_roundw
        case rel =>
          refine ⟨k + 1, by omega, by go_num, hide ?_, hb2.setCell (p := ⟨w1.heap.size + 1, k, none⟩) (Nat.le_refl _) _⟩
          rw [fillK_succ HX.out (by have := HMF.out; have := HZL.out; omega)]
          exact (HO.out.stored _ _).1
        case measure => simp [intOf]; omega
      · obtain ⟨wo, rfl⟩ : ∃ wo : World, wo = wr := ⟨_, rfl⟩
        have hNA : Arr1 .i64 wo wo.heap.size (some ⟨w1.heap.size + 1, 0, none⟩) (fr.map nearX) := by
          have := HO.out
          rw [fillK_all (by have := HMF.out; omega) (by have := HZL.out; omega)] at this
          exact own_arr1 this
        have HNA := hide hNA
        have hnl : (fr.map nearX).length = mf := by rw [List.length_map]; exact HMF.out
        have HNL := hide hnl
        have hL0 : Below w.heap.size w wo := below_on hL2 hb2 (by omega)
        have so := hb2.size
        have HS0 : Hid (Blk wo w.heap.size 23 #[.int .i64 r, .int .i64 p]) := hide (HBS2.out.below hb2 (by omega))
        have HD0 : Hid (Blk wo (w.heap.size + 1) 28 #[.int .u32 bu, .int .u32 ra, .slice Ga ng cg, .slice Sa ns cs]) := hide (HBD2.out.below hb2 (by omega))
        have HP0 : Hid (Blk wo w1.heap.size 23 #[.int .i64 r2, .int .i64 p2]) := hide (HBO2.out.below hb2 (by omega))
        have a0 : wo.cell? ⟨w.heap.size, 0, none⟩ = some (.int .i64 r) := HS0.out.cell 0
        have a1 : wo.cell? ⟨w.heap.size, 1, none⟩ = some (.int .i64 p) := HS0.out.cell 1
        have a2 : wo.cell? ⟨w1.heap.size, 0, none⟩ = some (.int .i64 r2) := HP0.out.cell 0
        have a3 : wo.cell? ⟨w1.heap.size, 1, none⟩ = some (.int .i64 p2) := HP0.out.cell 1
        have HA0 := hide (((HA.out.below hL0 (Nat.le_refl _)).more hL0.size))
        have HF0 := hide (((HF.out.below hL0 (Nat.le_refl _)).more hL0.size))
        clear hNA hnl HO HBS2 HBD2 HBO2 hb2 hL2 HO2 HA HF
        go_wp2_with fail
        clear a0 a1 a2 a3 HS0 HP0
        go_loopw [10, 15, 17, 19, 20, 21, 22, 23, 24, 25, 64] (fun _ _ _ _ _ _ _ _ _ _ i wr => ∃ j : Nat, j ≤ 2 ∧ i = .int .i64 j ∧ Below wo.heap.size wo wr) (fun _ _ _ _ _ _ _ _ _ _ i _ => 2 - (intOf i).toNat)
        case atStart => exact ⟨0, by omega, rfl, Below.refl _ _⟩
        case round =>
          obtain ⟨j, hj, rfl, hb3⟩ := hrel
          obtain ⟨w3, rfl⟩ : ∃ w3 : World, w3 = wr := ⟨_, rfl⟩
          have s3 := hb3.size
          by_cases hlt2 : j < 2
          · obtain ⟨rk, pk, hik⟩ : ∃ rk pk : Int, ∀ W : World, (Instr.index 34 (.agg #[.int .i64 r, .int .i64 p, .int .i64 r2, .int .i64 p2]) (.int .i64 (j : Int))).run Try.prog W = .ok (.agg #[.int .i64 rk, .int .i64 pk]) W := by
              rcases Nat.lt_or_ge j 1 with h | h
              · obtain rfl : j = 0 := by omega
                exact ⟨r, p, fun W => (idx_slope _ _ _ _ W).1⟩
              · obtain rfl : j = 1 := by omega
                exact ⟨r2, p2, fun W => (idx_slope _ _ _ _ W).2⟩
            have HIK := hide hik
            go_upto_region 11 with (fail)
            clear hik
            have z0 := HD0.out.lt
            have D3 := HD0.out.below hb3 (by omega)
            have b0 : w3.cell? ⟨w.heap.size + 1, 0, none⟩ = some (.int .u32 bu) := D3.cell 0
            have b1 : w3.cell? ⟨w.heap.size + 1, 1, none⟩ = some (.int .u32 ra) := D3.cell 1
            have b2 : w3.cell? ⟨w.heap.size + 1, 2, none⟩ = some (.slice Ga ng cg) := D3.cell 2
            have b3 : w3.cell? ⟨w.heap.size + 1, 3, none⟩ = some (.slice Sa ns cs) := D3.cell 3
            clear D3
            have y3 : w.heap.size + 1 < w3.heap.size := by omega
            have K1 : Below w.heap.size w (w3.alloc (.cells #[.int .i64 rk, .int .i64 pk] 23)) := Below.alloc (below_on hL0 hb3 (by omega)) (by omega) _
            go_cut [72, 73] (fun s72 s73 wx => s73 = .int .i64 0 ∧ ∃ (T1 T2 : Option Addr) (d1 d2 : Nat), s72 = .agg #[.slice A m c, .slice T1 dt.length d1, .slice T2 dt.length d2] ∧ Arr2 wx wx.heap.size T1 dt ∧ Arr2 wx wx.heap.size T2 (dt.map capX) ∧ Blk wx w3.heap.size 23 #[.int .i64 rk, .int .i64 pk] ∧ Below w3.heap.size w3 wx)
            case first =>
              go_region_held3 (fun w' => w'.cell? ⟨w.heap.size + 1, 0, none⟩ = some (.int .u32 bu) ∧ w'.cell? ⟨w.heap.size + 1, 1, none⟩ = some (.int .u32 ra) ∧ w'.cell? ⟨w.heap.size + 1, 2, none⟩ = some (.slice Ga ng cg) ∧ w'.cell? ⟨w.heap.size + 1, 3, none⟩ = some (.slice Sa ns cs))
                (first | go_keep | ((try dsimp only); ((repeat' apply And.intro) <;> (first | go_keep | assumption | go_simp))))
                (first | (go_at_call 10; refine (HD1.out _ K1.drew).mono ?_; rintro e w4 ⟨T1, d1, rfl, hO4, hb4⟩; have hz4 := hb4.size; (try simp at hz4); have q0 : w4.cell? ⟨w.heap.size + 1, 0, none⟩ = some (.int .u32 bu) := (hb4.cell (p := ⟨w.heap.size + 1, 0, none⟩) (by first | omega | (simp; done) | (simp; omega))).trans (by go_simp); have q1 : w4.cell? ⟨w.heap.size + 1, 1, none⟩ = some (.int .u32 ra) := (hb4.cell (p := ⟨w.heap.size + 1, 1, none⟩) (by first | omega | (simp; done) | (simp; omega))).trans (by go_simp); have q2 : w4.cell? ⟨w.heap.size + 1, 2, none⟩ = some (.slice Ga ng cg) := (hb4.cell (p := ⟨w.heap.size + 1, 2, none⟩) (by first | omega | (simp; done) | (simp; omega))).trans (by go_simp); have q3 : w4.cell? ⟨w.heap.size + 1, 3, none⟩ = some (.slice Sa ns cs) := (hb4.cell (p := ⟨w.heap.size + 1, 3, none⟩) (by first | omega | (simp; done) | (simp; omega))).trans (by go_simp)) | (go_at_call 11; refine (HD2.out _ (below_on K1.drew hb4 (by first | omega | (simp; done) | (simp; omega)))).mono ?_; rintro e w5 ⟨T2, d2, rfl, hO5, hb5⟩; have hz5 := hb5.size; (try simp at hz5); have p0 : w5.cell? ⟨w.heap.size + 1, 0, none⟩ = some (.int .u32 bu) := (hb5.cell (p := ⟨w.heap.size + 1, 0, none⟩) (by first | omega | (simp; done) | (simp; omega))).trans (by go_simp); have p1 : w5.cell? ⟨w.heap.size + 1, 1, none⟩ = some (.int .u32 ra) := (hb5.cell (p := ⟨w.heap.size + 1, 1, none⟩) (by first | omega | (simp; done) | (simp; omega))).trans (by go_simp); have p2 : w5.cell? ⟨w.heap.size + 1, 2, none⟩ = some (.slice Ga ng cg) := (hb5.cell (p := ⟨w.heap.size + 1, 2, none⟩) (by first | omega | (simp; done) | (simp; omega))).trans (by go_simp); have p3 : w5.cell? ⟨w.heap.size + 1, 3, none⟩ = some (.slice Sa ns cs) := (hb5.cell (p := ⟨w.heap.size + 1, 3, none⟩) (by first | omega | (simp; done) | (simp; omega))).trans (by go_simp)))
              all_goals go_wp2_with fail
              go_meet
              replace hb4 := below_undrew hb4
              refine ⟨rfl, T1, T2, d1, d2, rfl, ?_, own_arr2 hO5, ?_, ?_⟩
              · exact (((own_arr2 hO4).below hb5 (Nat.le_refl _)).more (by omega))
              · exact ((Blk.new w3 _ _).below hb4 (by first | omega | (simp; done) | (simp; omega))).below hb5 (by first | omega | (simp; done) | (simp; omega))
              · exact below_on (below_on ((Below.refl _ _).alloc (Nat.le_refl _) _) hb4 (by first | omega | (simp; done) | (simp; omega))) hb5 (by first | omega | (simp; done) | (simp; omega))
            case rest =>
              obtain ⟨rfl, T1, T2, d1, d2, rfl, hT1, hT2, hBK, hb6⟩ := hcut
              have HT1 := hide hT1
              have HT2 := hide hT2
              have HBK := hide hBK
              have s6 := hb6.size
              have s7 := hBK.lt
              have hL6 : Below w.heap.size w wc := below_on (below_on hL0 hb3 (by omega)) hb6 (by omega)
              have hO6 : Below wo.heap.size wo wc := below_on hb3 hb6 (by omega)
              have HA6 := hide ((HA0.out.below hO6 (Nat.le_refl _)).more hO6.size)
              have HF6 := hide ((HF0.out.below hO6 (Nat.le_refl _)).more hO6.size)
              have HN6 := hide ((HNA.out.below hO6 (Nat.le_refl _)).more hO6.size)
              clear hT1 hT2 hBK b0 b1 b2 b3 K1
              obtain ⟨w6, rfl⟩ : ∃ w6 : World, w6 = wc := ⟨_, rfl⟩
              go_wp2_with fail
              go_loopw [10, 17, 19, 20, 21, 22, 23, 24, 25, 73] (fun _ _ _ _ _ _ _ _ _ i wr => ∃ j : Nat, j ≤ 3 ∧ i = .int .i64 j ∧ Below w6.heap.size w6 wr) (fun _ _ _ _ _ _ _ _ _ i _ => 3 - (intOf i).toNat)
              case atStart => exact ⟨0, by omega, rfl, Below.refl _ _⟩
              case round =>
                obtain ⟨j3, hj3, rfl, hb7⟩ := hrel
                obtain ⟨w7, rfl⟩ : ∃ w7 : World, w7 = wr := ⟨_, rfl⟩
                by_cases hlt3 : j3 < 3
                · obtain ⟨At, lt, ct, nt, hit, hnt, hAt, hnt2⟩ : ∃ (At : Option Addr) (lt : List (Int × Int)) (ct nt : Nat), (∀ W : World, (Instr.index 37 (.agg #[.slice A m c, .slice T1 dt.length d1, .slice T2 dt.length d2]) (.int .i64 (j3 : Int))).run Try.prog W = .ok (.slice At nt ct) W) ∧ lt.length = nt ∧ Arr2 w6 w6.heap.size At lt ∧ nt ≤ 40 := by
                    have := HDL.out
                    rcases Nat.lt_or_ge j3 1 with h | h
                    · obtain rfl : j3 = 0 := by omega
                      exact ⟨A, l', c, m, fun W => (idx_trace _ _ _ W).1, HM.out, HA6.out, hm40⟩
                    rcases Nat.lt_or_ge j3 2 with h | h
                    · obtain rfl : j3 = 1 := by omega
                      exact ⟨T1, dt, d1, _, fun W => (idx_trace _ _ _ W).2.1, rfl, HT1.out, by omega⟩
                    · obtain rfl : j3 = 2 := by omega
                      exact ⟨T2, dt.map capX, d2, _, fun W => (idx_trace _ _ _ W).2.2, by simp, HT2.out, by omega⟩
                  have hd3 : decide ((j3 : Int) < 3) = true := by simp; omega
                  have HAt := hide hAt
                  have HNt := hide hnt
                  clear hAt hnt
                  go_wp2_with fail
                  clear hit
                  generalize hmi : min (mf : Int) (nt : Int) = mi
                  generalize hmx : mi.toNat = mx
                  have HMX : Hid (mx = min mf nt) := hide (by omega)
                  clear hmi hmx
                  go_loopw [10, 19, 20, 21, 22, 23, 24, 25, 86] (fun _ _ _ _ _ _ _ _ i wr => ∃ j : Nat, j ≤ 4 ∧ i = .int .i64 j ∧ Below w7.heap.size w7 wr) (fun _ _ _ _ _ _ _ _ i _ => 4 - (intOf i).toNat)
                  case atStart => exact ⟨0, by omega, rfl, Below.refl _ _⟩
                  case round =>
                    obtain ⟨j4, hj4, rfl, hb8⟩ := hrel
                    obtain ⟨w8, rfl⟩ : ∃ w8 : World, w8 = wr := ⟨_, rfl⟩
                    have s8 := hb8.size
                    have s9 := hb7.size
                    by_cases hlt4 : j4 < 4
                    · obtain ⟨Af, lf, cf', mf', hif, hnf', hAf, hmf2⟩ : ∃ (Af : Option Addr) (lf : List Int) (cf' mf' : Nat), (∀ W : World, (Instr.index 38 (.agg #[.slice Fa mf cf, .slice (some ⟨w1.heap.size + 1, 0, none⟩) mf mf, .slice (some ⟨w1.heap.size + 1, 0, none⟩) mx mf, .slice none 0 0]) (.int .i64 (j4 : Int))).run Try.prog W = .ok (.slice Af mf' cf') W) ∧ lf.length = mf' ∧ Arr1 .i64 w6 w6.heap.size Af lf ∧ mf' ≤ 42 := by
                        rcases Nat.lt_or_ge j4 1 with h | h
                        · obtain rfl : j4 = 0 := by omega
                          exact ⟨Fa, fr, cf, mf, fun W => (idx_free _ _ _ _ W).1, HMF.out, HF6.out, hm42⟩
                        rcases Nat.lt_or_ge j4 2 with h | h
                        · obtain rfl : j4 = 1 := by omega
                          exact ⟨_, fr.map nearX, mf, mf, fun W => (idx_free _ _ _ _ W).2.1, HNL.out, HN6.out, hm42⟩
                        rcases Nat.lt_or_ge j4 3 with h | h
                        · obtain rfl : j4 = 2 := by omega
                          exact ⟨_, (fr.map nearX).take (min mf nt), mf, _, fun W => (idx_free _ _ _ _ W).2.2.1, by rw [List.length_take, HNL.out, HMX.out]; omega, HN6.out.take _, by rw [HMX.out]; omega⟩
                        · obtain rfl : j4 = 3 := by omega
                          exact ⟨none, [], 0, 0, fun W => (idx_free _ _ _ _ W).2.2.2, rfl, Arr1.nil, by omega⟩
                      have hL8 : Below w6.heap.size w6 w8 := below_on hb7 hb8 (by omega)
                      have hRU : ∀ W : World, Below w8.heap.size w8 W → Calls Try.prog 12 #[.agg #[.int .i64 rk, .int .i64 pk], .slice At nt ct, .slice Af mf' cf'] W (RunPost W (runS rk pk lt lf)) := fun W hb => by
                        have hW : Below w6.heap.size w6 W := below_on hL8 hb (by omega)
                        have h1 := (HAt.out.below hW (Nat.le_refl _)).more hW.size
                        have h2 := (hAf.below hW (Nat.le_refl _)).more hW.size
                        have := Run_any rk pk At Af lt lf ct cf' W h1 h2 (by have := HNt.out; omega) (by omega)
                        rwa [HNt.out, hnf'] at this
                      have hRR : ∀ W : World, Below w8.heap.size w8 W → Calls Try.prog 13 #[.agg #[.int .i64 rk, .int .i64 pk], .slice At nt ct, .slice Af mf' cf'] W (RunPost W (runS rk pk lt lf)) := fun W hb => by
                        have hW : Below w6.heap.size w6 W := below_on hL8 hb (by omega)
                        have h1 := (HAt.out.below hW (Nat.le_refl _)).more hW.size
                        have h2 := (hAf.below hW (Nat.le_refl _)).more hW.size
                        have := RefRun_any rk pk At Af lt lf ct cf' W h1 h2 (by have := HNt.out; omega) (by omega)
                        rwa [HNt.out, hnf'] at this
                      have hRL := runS_length (r := rk) (p := pk) lt lf
                      have HRU := hide hRU
                      have HRR := hide hRR
                      have HRL := hide hRL
                      generalize runS rk pk lt lf = R at HRU HRR HRL
                      obtain ⟨Re, Rs, Ra, Rl⟩ := R
                      have B8 := HBK.out.below hL8 (by omega)
                      have e0 : w8.cell? ⟨w3.heap.size, 0, none⟩ = some (.int .i64 rk) := B8.cell 0
                      have e1 : w8.cell? ⟨w3.heap.size, 1, none⟩ = some (.int .i64 pk) := B8.cell 1
                      have z8 : w3.heap.size < w8.heap.size := by omega
                      clear hRU hRR hRL hAf hnf' B8
                      go_wp2_with fail
                      clear hif
                      refine (HRU.out _ (Below.refl _ _)).mono ?_
                      rintro e w9 ⟨B9, d9, rfl, hB9, hd9, hb9⟩
                      dsimp only at hB9 hd9 ⊢
                      have HB9 := hide hB9
                      obtain ⟨hc9, hf9⟩ := below_cells hb9
                      have s9' := hb9.size
                      have z9 : w3.heap.size < w9.heap.size := by omega
                      clear hB9
                      go_wp2_with fail
                      refine (HRR.out _ (hb9.alloc s9' _)).mono ?_
                      rintro e w10 ⟨B10, d10, rfl, hB10, hd10, hb10⟩
                      dsimp only at hB10 hd10 ⊢
                      have HB10 := hide hB10
                      obtain ⟨hc10, hf10⟩ := below_cells hb10
                      have s10 := hb10.size
                      simp at s10
                      have z10 : w9.heap.size < w10.heap.size := by omega
                      clear hB10
                      have hne1 : (Re != Re) = false := by simp
                      go_wp2_with fail
                      refine (same_yes B9 B10 Rs d9 d10 _ ?_ ?_ HRL.out).mono ?_
                      · exact (((((HB9.out.alloc (Nat.le_refl _) _).below hb10 (by first | omega | (simp; done) | (simp; omega))).alloc (by first | omega | (simp; done) | (simp; omega)) _)).more (by first | omega | (simp; done) | (simp; omega)))
                      · exact (HB10.out.alloc (Nat.le_refl _) _).more (by first | omega | (simp; done) | (simp; omega))
                      rintro e w11 ⟨rfl, hb11⟩
                      have s11 := hb11.size
                      simp at s11
                      have hb12 : Below w8.heap.size w8 w11 := below_on (Below.alloc (below_on (hb9.alloc s9' _) hb10 (by first | omega | (simp; done) | (simp; omega))) (by omega) _) hb11 (by first | omega | (simp; done) | (simp; omega))
                      clear hc9 hf9 hc10 hf10 hb9 hb10 hb11
                      go_wp2_with fail
                      go_roundw
                      case rel => exact ⟨j4 + 1, by omega, by go_num, below_on hb8 hb12 (by omega)⟩
                      case measure => simp [intOf]; omega
                    · go_wp2_with fail
                      go_roundw
                      case rel => exact ⟨j3 + 1, by omega, by go_num, below_on hb7 hb8 (by omega)⟩
                      case measure => simp [intOf]; omega
                · have s12 := hb7.size
                  go_wp2_with fail
                  go_roundw
                  case rel => exact ⟨j + 1, by omega, by go_num, below_on hO6 hb7 (by omega)⟩
                  case measure => simp [intOf]; omega
          · go_wp2_with fail
            refine (works_any _).mono ?_
            rintro e w4 ⟨rfl, hb4⟩
            go_wp2_with fail
            go_ret
            exact ⟨rfl, below_on (below_on hL0 hb3 hL0.size) hb4 (by have := hL0.size; omega)⟩
end Go.Proofs.Ytjepnlebmgkomaa
