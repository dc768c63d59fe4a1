/-
  Part 3 of the proof of TopService: TsM, TsN, TsO, TsP, TsR.
-/
import Derived.Test.YtlngflbamkgjlaaGreatP2
namespace Go.Proofs.YtlngflbamkgjlaaGreat
open Go.RowKit
set_option linter.unusedVariables false
set_option linter.unusedSimpArgs false
set_option maxRecDepth 100000
def arQ (cap:Nat → Int) (Q:Nat → List (List Int)) (c:Nat) (it:List Int) (sz:Int):Nat → List (List Int):=if octL (Q c) (Q c).length + sz ≤ cap c then upd Q c (Q c ++ [it]) else Q
set_option maxHeartbeats 4000000 in
theorem arrive_w (A:Option Addr) (ge:List (Int × Int)) (gc:Nat) (cyc:Int) (per sh:Int) (Sq:Nat → Prop) (Aq:Option Addr) (gq:Nat) (cap:Nat → Int) (Q:Nat → List (List Int)) (now bz x0 x1 x2 x3 x4 x5 x6 bg fn rs:Int) (t i0 i1 i2 i3 i4:Int) (w0:World) (hA:Ro w0 A (flat2 ge)) (hq:QM Sq Aq cap Q w0) (hv:∀ c,c < 8 → qkE (cap c) (Q c)=0) (hi:ckI i0 i1 i2 i3 i4=0) :
    Calls Tryz.prog 52 #[.agg #[.slice A ge.length gc,iv cyc,iv per,iv sh,iv now,.slice Aq 8 gq,.bool (decide (bz=1)),iv x0,iv x1,iv x2,iv x3,iv x4,iv x5,.bool (decide (x6=1)),iv bg,iv fn,iv rs],iv t,.agg #[iv i0,iv i1,iv i2,iv i3,iv i4]] w0 (RetQ w0 Sq (fun s=>.tuple #[.agg #[.slice A ge.length gc,.int .i64 cyc,.int .i64 per,.int .i64 sh,.int .i64 t,s,.bool (decide (bz=1)),.int .i64 x0,.int .i64 x1,.int .i64 x2,.int .i64 x3,.int .i64 x4,.int .i64 x5,.bool (decide (x6=1)),.int .i64 bg,.int .i64 fn,.int .i64 rs],.bool (decide (octL (Q i2.toNat) (Q i2.toNat).length + i3 ≤ cap i2.toNat))]) cap (arQ cap Q i2.toNat [i0,i1,i2,i3,i4,i3,0] i3)):=by
 obtain ⟨qa,qg,⟨hqr,hqb⟩,hqf⟩:=hq
 have hqs:∀ c,c < 8 → QS w0 (qa c) (Q c) (qg c):=fun c hc=>(hqf c hc).1
 have hib:=ckI_ok hi
 refine enterK 19 Tryz.func52 rfl rfl rfl ?_
 intro a hF Q0 hR0 hN0
 have hM:=Mem.start w0
 replace hM:=hM.addOld 1 hA (Nat.le_refl _)
 replace hM:=hM.addOld 3 hqr (Nat.le_refl _)
 refine wp_seq_k fun K1 hK1=>wp_region_lit (wl (xN 3 4 (t:=95) (fun b=>.pointer (some ⟨b,0,none⟩)) #[.slice A ge.length gc,iv cyc,iv per,iv sh,iv now,.slice Aq 8 gq,.bool (decide (bz=1)),iv x0,iv x1,iv x2,iv x3,iv x4,iv x5,.bool (decide (x6=1)),iv bg,iv fn,iv rs] hF hM fun bb1 a w hF hM=>wl (xN 5 5 (t:=48) (fun b=>.pointer (some ⟨b,0,none⟩)) #[iv i0,iv i1,iv i2,iv i3,iv i4] hF hM fun bb2 a w hF hM=>wl (xN 6 6 (t:=95) (fun b=>.pointer (some ⟨b,0,none⟩)) #[.slice none 0 0,iv 0,iv 0,iv 0,iv 0,.slice none 0 0,.bool false,iv 0,iv 0,iv 0,iv 0,iv 0,iv 0,.bool false,iv 0,iv 0,iv 0] hF hM fun bb3 a w hF hM=>xB 1 [(7,.bool false)] hF fun a hF=>wpList_nil (hK1 _ _ (wp_seq_k fun K2 hK2=>wp_region_lit (xB 3 [(9,iv t),(10,pt bb1 0),(11,pt bb1 4)] hF fun a hF=>?_)))))))
 refine wl (xS 4 4 #[.slice A ge.length gc,iv cyc,iv per,iv sh,iv t,.slice Aq 8 gq,.bool (decide (bz=1)),iv x0,iv x1,iv x2,iv x3,iv x4,iv x5,.bool (decide (x6=1)),iv bg,iv fn,iv rs] hF hM fun w hM=>wpList_nil (hK2 _ _ (wp_seq_k fun K3 hK3=>wp_region_lit (wl (xN 8 7 (t:=4) (fun b=>.pointer (some ⟨b,0,none⟩)) #[.bool false] hF hM fun bb4 a w hF hM=>?_)))))
 refine wl (xS 7 0 #[.bool false] hF hM fun w hM=>wpList_nil (hK3 _ _ (wp_seq_k fun K4 hK4=>wp_region_lit (wl (xL 12 4 0 (v:=.agg #[.slice A ge.length gc,iv cyc,iv per,iv sh,iv t,.slice Aq 8 gq,.bool (decide (bz=1)),iv x0,iv x1,iv x2,iv x3,iv x4,iv x5,.bool (decide (x6=1)),iv bg,iv fn,iv rs]) hF hM fun a w hF hM=>xB 1 [(13,pt bb2 2)] hF fun a hF=>wl (xL 14 5 2 (v:=iv i2) hF hM fun a w hF hM=>xB 1 [(15,.func (.func 73) #[] #[pt bb2 0,pt bb4 0])] hF fun a hF=>wl (sC (f:=70) (args:=#[.agg #[.slice A ge.length gc,iv cyc,iv per,iv sh,iv t,.slice Aq 8 gq,.bool (decide (bz=1)),iv x0,iv x1,iv x2,iv x3,iv x4,iv x5,.bool (decide (x6=1)),iv bg,iv fn,iv rs],iv i2,.func (.func 73) #[] #[pt bb2 0,pt bb4 0]]) hF (by kernel_rfl) rfl (by decide) (by kernel_rfl) (fun _=>by kernel_rfl) (enterK 31 Tryz.func70 rfl rfl rfl ?_))))))))
 intro a1 hF1 QR5 hR5 hNR5
 refine wp_seq_k fun K6 hK6=>wp_region_lit (wl (xN 3 8 (t:=95) (fun b=>.pointer (some ⟨b,0,none⟩)) #[.slice A ge.length gc,iv cyc,iv per,iv sh,iv t,.slice Aq 8 gq,.bool (decide (bz=1)),iv x0,iv x1,iv x2,iv x3,iv x4,iv x5,.bool (decide (x6=1)),iv bg,iv fn,iv rs] hF1 hM fun bb5 a1 w hF1 hM=>wl (xN 6 9 (t:=95) (fun b=>.pointer (some ⟨b,0,none⟩)) #[.slice none 0 0,iv 0,iv 0,iv 0,iv 0,.slice none 0 0,.bool false,iv 0,iv 0,iv 0,iv 0,iv 0,iv 0,.bool false,iv 0,iv 0,iv 0] hF1 hM fun bb6 a1 w hF1 hM=>wpList_nil (hK6 _ _ (wp_seq_k fun K7 hK7=>wp_region_lit (xB 2 [(8,pt bb5 0),(9,pt bb5 5)] hF1 fun a1 hF1=>wl (xL 10 8 5 (v:=.slice Aq 8 gq) hF1 hM fun a1 w hF1 hM=>xB 1 [(11,iv 8)] hF1 fun a1 hF1=>wl (sMake 12 10 8 (e:=82) (size:=2) (bytes:=32) (z:=.agg #[iv 0,.slice none 0 0]) (qcells 8 (fun _=>0) (fun _=>none) (fun _=>[]) (fun _=>0)) hF1 hM (by kernel_rfl) rfl (by kernel_rfl) (by kernel_rfl) (by kernel_rfl) (by kernel_rfl) (by omega) (by unfold maxLen; omega) fun bb7 a1 w hF1 hM=>?_))))))))
 refine xB 1 [(7,.slice (some ⟨bb7,0,none⟩) 8 8)] hF1 fun a1 hF1=>wpList_nil (hK7 _ _ (wp_seq_k fun K8 hK8=>wp_region_lit (xB 3 [(13,.slice (some ⟨bb7,0,none⟩) 8 8),(14,pt bb5 0),(15,pt bb5 5)] hF1 fun a1 hF1=>wl (xL 16 8 5 (v:=.slice Aq 8 gq) hF1 hM fun a1 w hF1 hM=>wl (sCopyO 17 10 (e:=82) (size:=2) (bytes:=32) (z:=.agg #[iv 0,.slice none 0 0]) (m:=8) (cap:=8) (c:=gq) (news:=(qcells 8 cap qa Q qg)) hF1 hM (by kernel_rfl) rfl (by kernel_rfl) (by kernel_rfl) (by kernel_rfl) rfl rfl (qcells_length _) (roK 3 rfl) (qcells_one _) fun a1 w hF1 hM=>wpList_nil (hK8 _ _ (wp_seq_k fun K9 hK9=>wp_region_lit ?_)))))))
 refine xB 5 [(18,.slice (some ⟨bb7,0,none⟩) 8 8),(19,iv i2),(20,.func (.func 73) #[] #[pt bb2 0,pt bb4 0]),(21,.slice (some ⟨bb7,0,none⟩) 8 8),(22,iv i2)] hF1 fun a1 hF1=>wl (xM 23 (v:=.pointer (some (ea (some ⟨bb7,0,none⟩) (((i2).toNat) * 2)))) hF1 hM (yld_ix (kd:=.i64) (e:=82) (len:=8) (cap:=8) (i:=i2) (size:=2) (A:=(some ⟨bb7,0,none⟩)) hF1 rfl (by kernel_rfl) (by kernel_rfl) (by kernel_rfl) (by kernel_rfl) (by kernel_rfl) (roO 10 rfl) (by omega) (by omega) (by rw [qcells_length]; (try simp only [List.length_map,List.length_append,List.length_replicate,List.length_set,List.length_cons,List.length_nil,flat2_length,List.length_take]); omega)) fun a1 w hF1 hM=>?_)
 replace hM:=hM.addOld 11 (hqs ((i2).toNat) (by omega)).2.2.1 (Nat.le_refl _)
 refine wl (xM 24 (v:=.agg #[iv (cap ((i2).toNat)),.slice (qa ((i2).toNat)) ((Q ((i2).toNat)).length) (qg ((i2).toNat))]) hF1 hM (yld_roM (A:=(some ⟨bb7,0,none⟩)) (j:=((i2).toNat) * 2) (us:=[iv (cap ((i2).toNat)),.slice (qa ((i2).toNat)) ((Q ((i2).toNat)).length) (qg ((i2).toNat))]) hF1 rfl (by kernel_rfl) (by kernel_rfl) (roO 10 rfl) (by kernel_rfl) rfl (qcells_sub (k:=((i2).toNat)) (by omega) rfl)) fun a1 w hF1 hM=>wl (sC (f:=73) (args:=#[.agg #[iv (cap ((i2).toNat)),.slice (qa ((i2).toNat)) ((Q ((i2).toNat)).length) (qg ((i2).toNat))],pt bb2 0,pt bb4 0]) hF1 (by kernel_rfl) rfl (by decide) (by kernel_rfl) (fun _=>by kernel_rfl) (enterK 23 Tryz.func73 rfl rfl rfl ?_)))
 intro a2 hF2 QR10 hR10 hNR10
 refine wp_seq_k fun K11 hK11=>wp_region_lit (wl (xN 3 12 (t:=82) (fun b=>.pointer (some ⟨b,0,none⟩)) #[iv (cap ((i2).toNat)),.slice (qa ((i2).toNat)) ((Q ((i2).toNat)).length) (qg ((i2).toNat))] hF2 hM fun bb8 a2 w hF2 hM=>wl (xN 4 13 (t:=82) (fun b=>.pointer (some ⟨b,0,none⟩)) #[iv 0,.slice none 0 0] hF2 hM fun bb9 a2 w hF2 hM=>wpList_nil (hK11 _ _ (wp_seq_k fun K12 hK12=>?_)))))
 by_cases hz1:octL (Q ((i2).toNat)) (Q ((i2).toNat)).length + i3 ≤ cap ((i2).toNat)
 ·refine wp_region_lit (wl (xL 9 12 0 (v:=.agg #[iv (cap ((i2).toNat)),.slice (qa ((i2).toNat)) ((Q ((i2).toNat)).length) (qg ((i2).toNat))]) hF2 hM fun a2 w hF2 hM=>wl (xL 10 5 0 (v:=.agg #[iv i0,iv i1,iv i2,iv i3,iv i4]) hF2 hM fun a2 w hF2 hM=>wl (sRp 14 11 (f:=74) (args:=#[.agg #[iv (cap ((i2).toNat)),.slice (qa ((i2).toNat)) ((Q ((i2).toNat)).length) (qg ((i2).toNat))],.agg #[iv i0,iv i1,iv i2,iv i3,iv i4]]) (mk:=(fun s=>.tuple #[.agg #[.int .i64 (cap ((i2).toNat)),s],.bool true,.int .i64 0])) (A0:=(qa ((i2).toNat))) (xs0:=(flatE pE (Q ((i2).toNat)))) (l:=((Q ((i2).toNat)) ++ [[i0,i1,i2,i3,i4,i3,0]])) hF2 hM rfl (by kernel_rfl) rfl (by decide) (by kernel_rfl) (fun _=>by kernel_rfl) (push_yes (cap ((i2).toNat)) (qa ((i2).toNat)) (Q ((i2).toNat)) (qg ((i2).toNat)) i0 i1 i2 i3 i4 w (hM.ok 11 _ rfl) (hqs ((i2).toNat) (by omega)).1 (hqs ((i2).toNat) (by omega)).2.1 (hqs ((i2).toNat) (by omega)).2.2.2 (hv ((i2).toNat) (by omega)) hi (by assumption)) fun AA10 cc10 a2 w hWp10 hlp10 hnp10 hbp10 hF2 hM=>xB 4 [(8,.tuple #[.agg #[iv (cap ((i2).toNat)),.slice AA10 (((Q ((i2).toNat)) ++ [[i0,i1,i2,i3,i4,i3,0]]).length) cc10],.bool true,iv 0]),(12,.agg #[iv (cap ((i2).toNat)),.slice AA10 (((Q ((i2).toNat)) ++ [[i0,i1,i2,i3,i4,i3,0]]).length) cc10]),(13,.bool true),(14,iv 0)] hF2 fun a2 hF2=>wl (xN 5 15 (t:=82) (fun b=>.pointer (some ⟨b,0,none⟩)) #[iv 0,.slice none 0 0] hF2 hM fun bb11 a2 w hF2 hM=>?_)))))
  refine wl (xS 15 0 #[iv (cap ((i2).toNat)),.slice AA10 (((Q ((i2).toNat)) ++ [[i0,i1,i2,i3,i4,i3,0]]).length) cc10] hF2 hM fun w hM=>xB 2 [(6,.bool true),(7,iv 0)] hF2 fun a2 hF2=>wpList_nil (hK12 _ _ (wp_seq_k fun K13 hK13=>wp_seq_k fun K14 hK14=>wp_region_lit (xB 1 [(15,iv 0)] hF2 fun a2 hF2=>wl (xP 16 (v0:=.bool (!decide (0=0))) (v:=.bool false) hF2 (nT (by omega)) fun a2 hF2=>xB 4 [(17,.bool false),(18,.bool true),(19,.bool false),(20,.bool false)] hF2 fun a2 hF2=>wpList_nil (hK14 _ _ ?_))))))
  refine xF hF2 (wp_skip (hK13 _ _ (wp_seq_k fun K15 hK15=>wp_region_lit (wl (xS 7 0 #[.bool true] hF2 hM fun w hM=>wpList_nil (hK15 _ _ (wp_seq_k fun K16 hK16=>wp_region_lit (wl (xL 22 15 0 (v:=.agg #[iv (cap ((i2).toNat)),.slice AA10 (((Q ((i2).toNat)) ++ [[i0,i1,i2,i3,i4,i3,0]]).length) cc10]) hF2 hM fun a2 w hF2 hM=>wl (xS 13 0 #[iv (cap ((i2).toNat)),.slice AA10 (((Q ((i2).toNat)) ++ [[i0,i1,i2,i3,i4,i3,0]]).length) cc10] hF2 hM fun w hM=>?_))))))))))
  refine wpList_nil (hK16 _ _ (wp_ret (hR10 _ _ (ret_of hF2 hM (.cell (i:=13) rfl rfl (v:=.agg #[iv (cap ((i2).toNat)),.slice AA10 (((Q ((i2).toNat)) ++ [[i0,i1,i2,i3,i4,i3,0]]).length) cc10]) (by kernel_rfl) (.nil)) ⟨_,rfl,?_⟩))))
  intro a1 hF1
  refine wl (xM 26 (v:=.pointer (some (ea (some ⟨bb7,0,none⟩) (((i2).toNat) * 2)))) hF1 hM (yld_ix (kd:=.i64) (e:=82) (len:=8) (cap:=8) (i:=i2) (size:=2) (A:=(some ⟨bb7,0,none⟩)) hF1 rfl (by kernel_rfl) (by kernel_rfl) (by kernel_rfl) (by kernel_rfl) (by kernel_rfl) (roO 10 rfl) (by omega) (by omega) (by rw [qcells_length]; (try simp only [List.length_map,List.length_append,List.length_replicate,List.length_set,List.length_cons,List.length_nil,flat2_length,List.length_take]); omega)) fun a1 w hF1 hM=>wl (sStoreOM 10 (j:=((i2).toNat) * 2) (A:=(some ⟨bb7,0,none⟩)) [iv (cap ((i2).toNat)),.slice AA10 ((Q ((i2).toNat)) ++ [[i0,i1,i2,i3,i4,i3,0]]).length cc10] (qcells 8 (upd cap ((i2).toNat) (cap ((i2).toNat))) (upd qa ((i2).toNat) AA10) (upd Q ((i2).toNat) ((Q ((i2).toNat)) ++ [[i0,i1,i2,i3,i4,i3,0]])) (upd qg ((i2).toNat) cc10)) hF1 hM (by kernel_rfl) rfl rfl (by kernel_rfl) (by kernel_rfl) rfl (by kernel_rfl) rfl (by intro u hu; simp only [List.mem_cons,List.not_mem_nil,or_false] at hu; rcases hu with rfl | rfl <;> rfl) (Nat.succ_pos _) (by rw [qcells_length]; (try simp only [List.length_map,List.length_append,List.length_replicate,List.length_set,List.length_cons,List.length_nil,flat2_length,List.length_take]); omega) (qcells_set (k:=((i2).toNat)) (by omega)) fun w hM=>wpList_nil (hK9 _ _ (wp_seq_k fun K17 hK17=>wp_region_lit (xB 3 [(27,.slice (some ⟨bb7,0,none⟩) 8 8),(28,pt bb5 0),(29,pt bb5 5)] hF1 fun a1 hF1=>wl (xS 8 5 #[.slice A ge.length gc,iv cyc,iv per,iv sh,iv t,.slice (some ⟨bb7,0,none⟩) 8 8,.bool (decide (bz=1)),iv x0,iv x1,iv x2,iv x3,iv x4,iv x5,.bool (decide (x6=1)),iv bg,iv fn,iv rs] hF1 hM fun w hM=>?_))))))
  refine wpList_nil (hK17 _ _ (wp_seq_k fun K18 hK18=>wp_region_lit (wl (xL 30 8 0 (v:=.agg #[.slice A ge.length gc,iv cyc,iv per,iv sh,iv t,.slice (some ⟨bb7,0,none⟩) 8 8,.bool (decide (bz=1)),iv x0,iv x1,iv x2,iv x3,iv x4,iv x5,.bool (decide (x6=1)),iv bg,iv fn,iv rs]) hF1 hM fun a1 w hF1 hM=>wl (xS 9 0 #[.slice A ge.length gc,iv cyc,iv per,iv sh,iv t,.slice (some ⟨bb7,0,none⟩) 8 8,.bool (decide (bz=1)),iv x0,iv x1,iv x2,iv x3,iv x4,iv x5,.bool (decide (x6=1)),iv bg,iv fn,iv rs] hF1 hM fun w hM=>wpList_nil (hK18 _ _ (wp_ret (hR5 _ _ (ret_of hF1 hM (.cell (i:=9) rfl rfl (v:=.agg #[.slice A ge.length gc,iv cyc,iv per,iv sh,iv t,.slice (some ⟨bb7,0,none⟩) 8 8,.bool (decide (bz=1)),iv x0,iv x1,iv x2,iv x3,iv x4,iv x5,.bool (decide (x6=1)),iv bg,iv fn,iv rs]) (by kernel_rfl) (.nil)) ⟨_,rfl,?_⟩)))))))))
  intro a hF
  refine wl (xS 4 0 #[.slice A ge.length gc,iv cyc,iv per,iv sh,iv t,.slice (some ⟨bb7,0,none⟩) 8 8,.bool (decide (bz=1)),iv x0,iv x1,iv x2,iv x3,iv x4,iv x5,.bool (decide (x6=1)),iv bg,iv fn,iv rs] hF hM fun w hM=>wpList_nil (hK4 _ _ (wp_seq_k fun K19 hK19=>?_)))
  refine rF (by kernel_rfl) (by kernel_rfl) (fun S a w=>Fr 19 [(3,some (pt bb1 0)),(6,some (pt bb3 0)),(7,(cond (S.getD 3 false) (some (.bool true)) (some (.bool false)))),(8,some (pt bb4 0)),(17,(cond (S.getD 0 false) (some (.agg #[.slice A ge.length gc,iv cyc,iv per,iv sh,iv t,.slice (some ⟨bb7,0,none⟩) 8 8,.bool (decide (bz=1)),iv x0,iv x1,iv x2,iv x3,iv x4,iv x5,.bool (decide (x6=1)),iv bg,iv fn,iv rs])) none)),(18,(cond (S.getD 1 false) (some (.bool true)) none))] a ∧ Mem w0.heap.size w0 [(1,some (.ro A (flat2 ge))),(3,some (.ro Aq (qcells 8 cap qa Q qg))),(4,some (.row bb1 95 #[.slice A ge.length gc,iv cyc,iv per,iv sh,iv t,.slice (some ⟨bb7,0,none⟩) 8 8,.bool (decide (bz=1)),iv x0,iv x1,iv x2,iv x3,iv x4,iv x5,.bool (decide (x6=1)),iv bg,iv fn,iv rs])),(6,(cond (S.getD 2 false) (some (.row bb3 95 #[.slice A ge.length gc,iv cyc,iv per,iv sh,iv t,.slice (some ⟨bb7,0,none⟩) 8 8,.bool (decide (bz=1)),iv x0,iv x1,iv x2,iv x3,iv x4,iv x5,.bool (decide (x6=1)),iv bg,iv fn,iv rs])) (some (.row bb3 95 #[.slice none 0 0,iv 0,iv 0,iv 0,iv 0,.slice none 0 0,.bool false,iv 0,iv 0,iv 0,iv 0,iv 0,iv 0,.bool false,iv 0,iv 0,iv 0])))),(7,some (.row bb4 4 #[.bool true])),(10,some (.own (.slice (some ⟨bb7,0,none⟩) 8 8) 82 2 8 (qcells 8 (upd cap ((i2).toNat) (cap ((i2).toNat))) (upd qa ((i2).toNat) AA10) (upd Q ((i2).toNat) ((Q ((i2).toNat)) ++ [[i0,i1,i2,i3,i4,i3,0]])) (upd qg ((i2).toNat) cc10)))),(11,some (.ro (qa ((i2).toNat)) (flatE pE (Q ((i2).toNat))))),(14,some (.ro AA10 (flatE pE ((Q ((i2).toNat)) ++ [[i0,i1,i2,i3,i4,i3,0]]))))] w) ?_ ?_ ?_
  ·exact ⟨hF.pk,hM.dk⟩
  ·refine stC ?_ (stC ?_ (stC ?_ (stC ?_ (trivial))))
   ·intro s0 s1 s2 s3 hc hi hp a w hS
    obtain rfl:s0=false:=hi
    obtain ⟨hF,hM⟩:=hS
    refine xL 17 4 0 (v:=.agg #[.slice A ge.length gc,iv cyc,iv per,iv sh,iv t,.slice (some ⟨bb7,0,none⟩) 8 8,.bool (decide (bz=1)),iv x0,iv x1,iv x2,iv x3,iv x4,iv x5,.bool (decide (x6=1)),iv bg,iv fn,iv rs]) hF hM fun a w hF hM=>⟨hF.rc 4,hM.k⟩
   ·intro s0 s1 s2 s3 hc hi hp a w hS
    obtain rfl:s1=false:=hi
    obtain ⟨hF,hM⟩:=hS
    refine xL 18 7 0 (v:=.bool true) hF hM fun a w hF hM=>⟨hF.rc 5,hM.k⟩
   ·intro s0 s1 s2 s3 hc hi hp a w hS
    obtain rfl:s2=false:=hi
    obtain rfl:s0=true:=hp 0 (by kernel_rfl)
    obtain ⟨hF,hM⟩:=hS
    refine xS 6 0 #[.slice A ge.length gc,iv cyc,iv per,iv sh,iv t,.slice (some ⟨bb7,0,none⟩) 8 8,.bool (decide (bz=1)),iv x0,iv x1,iv x2,iv x3,iv x4,iv x5,.bool (decide (x6=1)),iv bg,iv fn,iv rs] hF hM fun w hM=>⟨hF.k,hM.rc 3⟩
   intro s0 s1 s2 s3 hc hi hp a w hS
   obtain rfl:s3=false:=hi
   obtain rfl:s1=true:=hp 1 (by kernel_rfl)
   obtain ⟨hF,hM⟩:=hS
   refine xP 7 (v0:=.bool true) (v:=.bool true) hF rfl fun a hF=>⟨hF.rc 2,hM.k⟩
  intro a w hS
  obtain ⟨hF,hM⟩:=hS
  replace hF:Fr 19 [(3,some (pt bb1 0)),(6,some (pt bb3 0)),(7,some (.bool true)),(8,some (pt bb4 0)),(17,some (.agg #[.slice A ge.length gc,iv cyc,iv per,iv sh,iv t,.slice (some ⟨bb7,0,none⟩) 8 8,.bool (decide (bz=1)),iv x0,iv x1,iv x2,iv x3,iv x4,iv x5,.bool (decide (x6=1)),iv bg,iv fn,iv rs])),(18,some (.bool true))] a:=hF.cast (by kernel_rfl)
  replace hM:Mem w0.heap.size w0 [(1,some (.ro A (flat2 ge))),(3,some (.ro Aq (qcells 8 cap qa Q qg))),(4,some (.row bb1 95 #[.slice A ge.length gc,iv cyc,iv per,iv sh,iv t,.slice (some ⟨bb7,0,none⟩) 8 8,.bool (decide (bz=1)),iv x0,iv x1,iv x2,iv x3,iv x4,iv x5,.bool (decide (x6=1)),iv bg,iv fn,iv rs])),(6,some (.row bb3 95 #[.slice A ge.length gc,iv cyc,iv per,iv sh,iv t,.slice (some ⟨bb7,0,none⟩) 8 8,.bool (decide (bz=1)),iv x0,iv x1,iv x2,iv x3,iv x4,iv x5,.bool (decide (x6=1)),iv bg,iv fn,iv rs])),(7,some (.row bb4 4 #[.bool true])),(10,some (.own (.slice (some ⟨bb7,0,none⟩) 8 8) 82 2 8 (qcells 8 (upd cap ((i2).toNat) (cap ((i2).toNat))) (upd qa ((i2).toNat) AA10) (upd Q ((i2).toNat) ((Q ((i2).toNat)) ++ [[i0,i1,i2,i3,i4,i3,0]])) (upd qg ((i2).toNat) cc10)))),(11,some (.ro (qa ((i2).toNat)) (flatE pE (Q ((i2).toNat))))),(14,some (.ro AA10 (flatE pE ((Q ((i2).toNat)) ++ [[i0,i1,i2,i3,i4,i3,0]]))))] w:=hM.cast (by kernel_rfl)
  refine hK19 _ _ (wp_ret (hR0 _ _ (ret_of hF hM (.cell (i:=6) rfl rfl (v:=.agg #[.slice A ge.length gc,iv cyc,iv per,iv sh,iv t,.slice (some ⟨bb7,0,none⟩) 8 8,.bool (decide (bz=1)),iv x0,iv x1,iv x2,iv x3,iv x4,iv x5,.bool (decide (x6=1)),iv bg,iv fn,iv rs]) (by kernel_rfl) (.tmp rfl (.nil))) ?_)))
  rw [arQ,if_pos hz1,show decide (octL (Q i2.toNat) (Q i2.toNat).length + i3 ≤ cap i2.toNat)=true from decide_eq_true hz1]
  exact retQ_upd (S:=Sq) (mk:=fun s=>.tuple #[.agg #[.slice A ge.length gc,.int .i64 cyc,.int .i64 per,.int .i64 sh,.int .i64 t,s,.bool (decide (bz=1)),.int .i64 x0,.int .i64 x1,.int .i64 x2,.int .i64 x3,.int .i64 x4,.int .i64 x5,.bool (decide (x6=1)),.int .i64 bg,.int .i64 fn,.int .i64 rs],.bool true]) (k:=10) (c:=i2.toNat) hM rfl hqf ⟨hWp10,hlp10,hM.ok 14 _ rfl,hnp10⟩ hbp10 (by omega)
 refine wp_region_lit (wl (xL 9 12 0 (v:=.agg #[iv (cap ((i2).toNat)),.slice (qa ((i2).toNat)) ((Q ((i2).toNat)).length) (qg ((i2).toNat))]) hF2 hM fun a2 w hF2 hM=>wl (xL 10 5 0 (v:=.agg #[iv i0,iv i1,iv i2,iv i3,iv i4]) hF2 hM fun a2 w hF2 hM=>wl (xM 11 (v:=.tuple #[.agg #[iv (cap ((i2).toNat)),.slice (qa ((i2).toNat)) ((Q ((i2).toNat)).length) (qg ((i2).toNat))],.bool false,iv 0]) hF2 hM (xC 74 #[.agg #[iv (cap ((i2).toNat)),.slice (qa ((i2).toNat)) ((Q ((i2).toNat)).length) (qg ((i2).toNat))],.agg #[iv i0,iv i1,iv i2,iv i3,iv i4]] hF2 (fun w hM=>push_no (cap ((i2).toNat)) (qa ((i2).toNat)) (Q ((i2).toNat)) (qg ((i2).toNat)) i0 i1 i2 i3 i4 w (hM.ok 11 _ rfl) (hqs ((i2).toNat) (by omega)).1 (hqs ((i2).toNat) (by omega)).2.1 (hqs ((i2).toNat) (by omega)).2.2.2 (hv ((i2).toNat) (by omega)) hi (by assumption))) fun a2 w hF2 hM=>xB 4 [(8,.tuple #[.agg #[iv (cap ((i2).toNat)),.slice (qa ((i2).toNat)) ((Q ((i2).toNat)).length) (qg ((i2).toNat))],.bool false,iv 0]),(12,.agg #[iv (cap ((i2).toNat)),.slice (qa ((i2).toNat)) ((Q ((i2).toNat)).length) (qg ((i2).toNat))]),(13,.bool false),(14,iv 0)] hF2 fun a2 hF2=>wl (xN 5 16 (t:=82) (fun b=>.pointer (some ⟨b,0,none⟩)) #[iv 0,.slice none 0 0] hF2 hM fun bb12 a2 w hF2 hM=>?_)))))
 refine wl (xS 16 0 #[iv (cap ((i2).toNat)),.slice (qa ((i2).toNat)) ((Q ((i2).toNat)).length) (qg ((i2).toNat))] hF2 hM fun w hM=>xB 2 [(6,.bool false),(7,iv 0)] hF2 fun a2 hF2=>wpList_nil (hK12 _ _ (wp_seq_k fun K20 hK20=>wp_seq_k fun K21 hK21=>wp_region_lit (xB 1 [(15,iv 0)] hF2 fun a2 hF2=>wl (xP 16 (v0:=.bool (!decide (0=0))) (v:=.bool false) hF2 (nT (by omega)) fun a2 hF2=>xB 4 [(17,.bool false),(18,.bool false),(19,.bool true),(20,.bool true)] hF2 fun a2 hF2=>wpList_nil (hK21 _ _ ?_))))))
 refine xT hF2 (wp_seq_k fun K22 hK22=>wp_region_lit (wl (xL 21 12 0 (v:=.agg #[iv (cap ((i2).toNat)),.slice (qa ((i2).toNat)) ((Q ((i2).toNat)).length) (qg ((i2).toNat))]) hF2 hM fun a2 w hF2 hM=>wl (xS 13 0 #[iv (cap ((i2).toNat)),.slice (qa ((i2).toNat)) ((Q ((i2).toNat)).length) (qg ((i2).toNat))] hF2 hM fun w hM=>wpList_nil (hK22 _ _ (wp_ret (hR10 _ _ (ret_of hF2 hM (.cell (i:=13) rfl rfl (v:=.agg #[iv (cap ((i2).toNat)),.slice (qa ((i2).toNat)) ((Q ((i2).toNat)).length) (qg ((i2).toNat))]) (by kernel_rfl) (.nil)) ⟨_,rfl,?_⟩))))))))
 intro a1 hF1
 refine wl (xM 26 (v:=.pointer (some (ea (some ⟨bb7,0,none⟩) (((i2).toNat) * 2)))) hF1 hM (yld_ix (kd:=.i64) (e:=82) (len:=8) (cap:=8) (i:=i2) (size:=2) (A:=(some ⟨bb7,0,none⟩)) hF1 rfl (by kernel_rfl) (by kernel_rfl) (by kernel_rfl) (by kernel_rfl) (by kernel_rfl) (roO 10 rfl) (by omega) (by omega) (by rw [qcells_length]; (try simp only [List.length_map,List.length_append,List.length_replicate,List.length_set,List.length_cons,List.length_nil,flat2_length,List.length_take]); omega)) fun a1 w hF1 hM=>wl (sStoreOM 10 (j:=((i2).toNat) * 2) (A:=(some ⟨bb7,0,none⟩)) [iv (cap ((i2).toNat)),.slice (qa ((i2).toNat)) (Q ((i2).toNat)).length (qg ((i2).toNat))] (qcells 8 (upd cap ((i2).toNat) (cap ((i2).toNat))) (upd qa ((i2).toNat) (qa ((i2).toNat))) (upd Q ((i2).toNat) (Q ((i2).toNat))) (upd qg ((i2).toNat) (qg ((i2).toNat)))) hF1 hM (by kernel_rfl) rfl rfl (by kernel_rfl) (by kernel_rfl) rfl (by kernel_rfl) rfl (by intro u hu; simp only [List.mem_cons,List.not_mem_nil,or_false] at hu; rcases hu with rfl | rfl <;> rfl) (Nat.succ_pos _) (by rw [qcells_length]; (try simp only [List.length_map,List.length_append,List.length_replicate,List.length_set,List.length_cons,List.length_nil,flat2_length,List.length_take]); omega) (qcells_set (k:=((i2).toNat)) (by omega)) fun w hM=>wpList_nil (hK9 _ _ (wp_seq_k fun K23 hK23=>wp_region_lit (xB 3 [(27,.slice (some ⟨bb7,0,none⟩) 8 8),(28,pt bb5 0),(29,pt bb5 5)] hF1 fun a1 hF1=>wl (xS 8 5 #[.slice A ge.length gc,iv cyc,iv per,iv sh,iv t,.slice (some ⟨bb7,0,none⟩) 8 8,.bool (decide (bz=1)),iv x0,iv x1,iv x2,iv x3,iv x4,iv x5,.bool (decide (x6=1)),iv bg,iv fn,iv rs] hF1 hM fun w hM=>wpList_nil ?_))))))
 refine hK23 _ _ (wp_seq_k fun K24 hK24=>wp_region_lit (wl (xL 30 8 0 (v:=.agg #[.slice A ge.length gc,iv cyc,iv per,iv sh,iv t,.slice (some ⟨bb7,0,none⟩) 8 8,.bool (decide (bz=1)),iv x0,iv x1,iv x2,iv x3,iv x4,iv x5,.bool (decide (x6=1)),iv bg,iv fn,iv rs]) hF1 hM fun a1 w hF1 hM=>wl (xS 9 0 #[.slice A ge.length gc,iv cyc,iv per,iv sh,iv t,.slice (some ⟨bb7,0,none⟩) 8 8,.bool (decide (bz=1)),iv x0,iv x1,iv x2,iv x3,iv x4,iv x5,.bool (decide (x6=1)),iv bg,iv fn,iv rs] hF1 hM fun w hM=>wpList_nil (hK24 _ _ (wp_ret (hR5 _ _ (ret_of hF1 hM (.cell (i:=9) rfl rfl (v:=.agg #[.slice A ge.length gc,iv cyc,iv per,iv sh,iv t,.slice (some ⟨bb7,0,none⟩) 8 8,.bool (decide (bz=1)),iv x0,iv x1,iv x2,iv x3,iv x4,iv x5,.bool (decide (x6=1)),iv bg,iv fn,iv rs]) (by kernel_rfl) (.nil)) ⟨_,rfl,?_⟩))))))))
 intro a hF
 refine wl (xS 4 0 #[.slice A ge.length gc,iv cyc,iv per,iv sh,iv t,.slice (some ⟨bb7,0,none⟩) 8 8,.bool (decide (bz=1)),iv x0,iv x1,iv x2,iv x3,iv x4,iv x5,.bool (decide (x6=1)),iv bg,iv fn,iv rs] hF hM fun w hM=>wpList_nil (hK4 _ _ (wp_seq_k fun K25 hK25=>?_)))
 refine rF (by kernel_rfl) (by kernel_rfl) (fun S a w=>Fr 19 [(3,some (pt bb1 0)),(6,some (pt bb3 0)),(7,(cond (S.getD 3 false) (some (.bool false)) (some (.bool false)))),(8,some (pt bb4 0)),(17,(cond (S.getD 0 false) (some (.agg #[.slice A ge.length gc,iv cyc,iv per,iv sh,iv t,.slice (some ⟨bb7,0,none⟩) 8 8,.bool (decide (bz=1)),iv x0,iv x1,iv x2,iv x3,iv x4,iv x5,.bool (decide (x6=1)),iv bg,iv fn,iv rs])) none)),(18,(cond (S.getD 1 false) (some (.bool false)) none))] a ∧ Mem w0.heap.size w0 [(1,some (.ro A (flat2 ge))),(3,some (.ro Aq (qcells 8 cap qa Q qg))),(4,some (.row bb1 95 #[.slice A ge.length gc,iv cyc,iv per,iv sh,iv t,.slice (some ⟨bb7,0,none⟩) 8 8,.bool (decide (bz=1)),iv x0,iv x1,iv x2,iv x3,iv x4,iv x5,.bool (decide (x6=1)),iv bg,iv fn,iv rs])),(6,(cond (S.getD 2 false) (some (.row bb3 95 #[.slice A ge.length gc,iv cyc,iv per,iv sh,iv t,.slice (some ⟨bb7,0,none⟩) 8 8,.bool (decide (bz=1)),iv x0,iv x1,iv x2,iv x3,iv x4,iv x5,.bool (decide (x6=1)),iv bg,iv fn,iv rs])) (some (.row bb3 95 #[.slice none 0 0,iv 0,iv 0,iv 0,iv 0,.slice none 0 0,.bool false,iv 0,iv 0,iv 0,iv 0,iv 0,iv 0,.bool false,iv 0,iv 0,iv 0])))),(7,some (.row bb4 4 #[.bool false])),(10,some (.own (.slice (some ⟨bb7,0,none⟩) 8 8) 82 2 8 (qcells 8 (upd cap ((i2).toNat) (cap ((i2).toNat))) (upd qa ((i2).toNat) (qa ((i2).toNat))) (upd Q ((i2).toNat) (Q ((i2).toNat))) (upd qg ((i2).toNat) (qg ((i2).toNat)))))),(11,some (.ro (qa ((i2).toNat)) (flatE pE (Q ((i2).toNat)))))] w) ?_ ?_ ?_
 ·exact ⟨hF.pk,hM.dk⟩
 ·refine stC ?_ (stC ?_ (stC ?_ (stC ?_ (trivial))))
  ·intro s0 s1 s2 s3 hc hi hp a w hS
   obtain rfl:s0=false:=hi
   obtain ⟨hF,hM⟩:=hS
   refine xL 17 4 0 (v:=.agg #[.slice A ge.length gc,iv cyc,iv per,iv sh,iv t,.slice (some ⟨bb7,0,none⟩) 8 8,.bool (decide (bz=1)),iv x0,iv x1,iv x2,iv x3,iv x4,iv x5,.bool (decide (x6=1)),iv bg,iv fn,iv rs]) hF hM fun a w hF hM=>⟨hF.rc 4,hM.k⟩
  ·intro s0 s1 s2 s3 hc hi hp a w hS
   obtain rfl:s1=false:=hi
   obtain ⟨hF,hM⟩:=hS
   refine xL 18 7 0 (v:=.bool false) hF hM fun a w hF hM=>⟨hF.rc 5,hM.k⟩
  ·intro s0 s1 s2 s3 hc hi hp a w hS
   obtain rfl:s2=false:=hi
   obtain rfl:s0=true:=hp 0 (by kernel_rfl)
   obtain ⟨hF,hM⟩:=hS
   refine xS 6 0 #[.slice A ge.length gc,iv cyc,iv per,iv sh,iv t,.slice (some ⟨bb7,0,none⟩) 8 8,.bool (decide (bz=1)),iv x0,iv x1,iv x2,iv x3,iv x4,iv x5,.bool (decide (x6=1)),iv bg,iv fn,iv rs] hF hM fun w hM=>⟨hF.k,hM.rc 3⟩
  intro s0 s1 s2 s3 hc hi hp a w hS
  obtain rfl:s3=false:=hi
  obtain rfl:s1=true:=hp 1 (by kernel_rfl)
  obtain ⟨hF,hM⟩:=hS
  refine xP 7 (v0:=.bool false) (v:=.bool false) hF rfl fun a hF=>⟨hF.rc 2,hM.k⟩
 intro a w hS
 obtain ⟨hF,hM⟩:=hS
 replace hF:Fr 19 [(3,some (pt bb1 0)),(6,some (pt bb3 0)),(7,some (.bool false)),(8,some (pt bb4 0)),(17,some (.agg #[.slice A ge.length gc,iv cyc,iv per,iv sh,iv t,.slice (some ⟨bb7,0,none⟩) 8 8,.bool (decide (bz=1)),iv x0,iv x1,iv x2,iv x3,iv x4,iv x5,.bool (decide (x6=1)),iv bg,iv fn,iv rs])),(18,some (.bool false))] a:=hF.cast (by kernel_rfl)
 replace hM:Mem w0.heap.size w0 [(1,some (.ro A (flat2 ge))),(3,some (.ro Aq (qcells 8 cap qa Q qg))),(4,some (.row bb1 95 #[.slice A ge.length gc,iv cyc,iv per,iv sh,iv t,.slice (some ⟨bb7,0,none⟩) 8 8,.bool (decide (bz=1)),iv x0,iv x1,iv x2,iv x3,iv x4,iv x5,.bool (decide (x6=1)),iv bg,iv fn,iv rs])),(6,some (.row bb3 95 #[.slice A ge.length gc,iv cyc,iv per,iv sh,iv t,.slice (some ⟨bb7,0,none⟩) 8 8,.bool (decide (bz=1)),iv x0,iv x1,iv x2,iv x3,iv x4,iv x5,.bool (decide (x6=1)),iv bg,iv fn,iv rs])),(7,some (.row bb4 4 #[.bool false])),(10,some (.own (.slice (some ⟨bb7,0,none⟩) 8 8) 82 2 8 (qcells 8 (upd cap ((i2).toNat) (cap ((i2).toNat))) (upd qa ((i2).toNat) (qa ((i2).toNat))) (upd Q ((i2).toNat) (Q ((i2).toNat))) (upd qg ((i2).toNat) (qg ((i2).toNat)))))),(11,some (.ro (qa ((i2).toNat)) (flatE pE (Q ((i2).toNat)))))] w:=hM.cast (by kernel_rfl)
 refine hK25 _ _ (wp_ret (hR0 _ _ (ret_of hF hM (.cell (i:=6) rfl rfl (v:=.agg #[.slice A ge.length gc,iv cyc,iv per,iv sh,iv t,.slice (some ⟨bb7,0,none⟩) 8 8,.bool (decide (bz=1)),iv x0,iv x1,iv x2,iv x3,iv x4,iv x5,.bool (decide (x6=1)),iv bg,iv fn,iv rs]) (by kernel_rfl) (.tmp rfl (.nil))) ?_)))
 rw [arQ,if_neg hz1,show decide (octL (Q i2.toNat) (Q i2.toNat).length + i3 ≤ cap i2.toNat)=false from decide_eq_false hz1]
 exact retQ_same (S:=Sq) (mk:=fun s=>.tuple #[.agg #[.slice A ge.length gc,.int .i64 cyc,.int .i64 per,.int .i64 sh,.int .i64 t,s,.bool (decide (bz=1)),.int .i64 x0,.int .i64 x1,.int .i64 x2,.int .i64 x3,.int .i64 x4,.int .i64 x5,.bool (decide (x6=1)),.int .i64 bg,.int .i64 fn,.int .i64 rs],.bool false]) (k:=10) (c:=i2.toNat) hM rfl hqf (by omega)
set_option maxHeartbeats 4000000 in
theorem end_0 (A:Option Addr) (ge:List (Int × Int)) (gc:Nat) (cyc:Int) (per sh:Int) (Sq:Nat → Prop) (Aq:Option Addr) (gq:Nat) (cap:Nat → Int) (Q:Nat → List (List Int)) (now bz x0 x1 x2 x3 x4 x5 x6 bg fn rs:Int) (t:Int) (w0:World) (hA:Ro w0 A (flat2 ge)) (hq:QM Sq Aq cap Q w0) (hv:∀ c,c < 8 → qkE (cap c) (Q c)=0) (h0:rs=0) :
    Calls Tryz.prog 51 #[.agg #[.slice A ge.length gc,iv cyc,iv per,iv sh,iv now,.slice Aq 8 gq,.bool (decide (bz=1)),iv x0,iv x1,iv x2,iv x3,iv x4,iv x5,.bool (decide (x6=1)),iv bg,iv fn,iv rs],iv t] w0 (Ret w0 (.tuple #[.agg #[.slice A ge.length gc,.int .i64 cyc,.int .i64 per,.int .i64 sh,.int .i64 t,.slice Aq 8 gq,.bool false,.int .i64 0,.int .i64 0,.int .i64 0,.int .i64 0,.int .i64 0,.int .i64 0,.bool false,.int .i64 0,.int .i64 0,.int .i64 0],.agg #[.int .i64 x0,.int .i64 x1,.int .i64 x2,.int .i64 x3,.int .i64 x4],.bool true])):=by
 obtain ⟨qa,qg,⟨hqr,hqb⟩,hqf⟩:=hq
 have hqs:∀ c,c < 8 → QS w0 (qa c) (Q c) (qg c):=fun c hc=>(hqf c hc).1
 refine enterK 41 Tryz.func51 rfl rfl rfl ?_
 intro a hF Q0 hR0 hN0
 have hM:=Mem.start w0
 replace hM:=hM.addOld 1 hA (Nat.le_refl _)
 replace hM:=hM.addOld 3 hqr (Nat.le_refl _)
 refine wp_seq_k fun K1 hK1=>wp_region_lit (wl (xN 2 4 (t:=95) (fun b=>.pointer (some ⟨b,0,none⟩)) #[.slice A ge.length gc,iv cyc,iv per,iv sh,iv now,.slice Aq 8 gq,.bool (decide (bz=1)),iv x0,iv x1,iv x2,iv x3,iv x4,iv x5,.bool (decide (x6=1)),iv bg,iv fn,iv rs] hF hM fun bb1 a w hF hM=>wl (xN 4 5 (t:=95) (fun b=>.pointer (some ⟨b,0,none⟩)) #[.slice none 0 0,iv 0,iv 0,iv 0,iv 0,.slice none 0 0,.bool false,iv 0,iv 0,iv 0,iv 0,iv 0,iv 0,.bool false,iv 0,iv 0,iv 0] hF hM fun bb2 a w hF hM=>wl (xN 5 6 (t:=48) (fun b=>.pointer (some ⟨b,0,none⟩)) #[iv 0,iv 0,iv 0,iv 0,iv 0] hF hM fun bb3 a w hF hM=>xB 1 [(6,.bool false)] hF fun a hF=>wpList_nil (hK1 _ _ (wp_seq_k fun K2 hK2=>?_))))))
 refine rF (by kernel_rfl) (by kernel_rfl) (fun S a w=>∃ bb4:Nat,∃ bb5:Nat,Fr 41 [(1,some (iv t)),(2,some (pt bb1 0)),(4,some (pt bb2 0)),(5,some (pt bb3 0)),(6,some (.bool false)),(7,(cond (S.getD 7 false) (some (pt bb4 0)) none)),(8,(cond (S.getD 8 false) (some (pt bb5 0)) none)),(9,(cond (S.getD 0 false) (some (pt bb1 0)) none)),(10,(cond (S.getD 1 false) (some (pt bb1 7)) none)),(11,(cond (S.getD 2 false) (some (pt bb1 7)) none)),(12,(cond (S.getD 3 false) (some (.agg #[iv x0,iv x1,iv x2,iv x3,iv x4])) none)),(13,(cond (S.getD 4 false) (some (pt bb1 0)) none)),(14,(cond (S.getD 5 false) (some (pt bb1 16)) none)),(15,(cond (S.getD 6 false) (some (iv rs)) none))] a ∧ Mem w0.heap.size w0 [(1,some (.ro A (flat2 ge))),(3,some (.ro Aq (qcells 8 cap qa Q qg))),(4,some (.row bb1 95 #[.slice A ge.length gc,iv cyc,iv per,iv sh,iv now,.slice Aq 8 gq,.bool (decide (bz=1)),iv x0,iv x1,iv x2,iv x3,iv x4,iv x5,.bool (decide (x6=1)),iv bg,iv fn,iv rs])),(5,some (.row bb2 95 #[.slice none 0 0,iv 0,iv 0,iv 0,iv 0,.slice none 0 0,.bool false,iv 0,iv 0,iv 0,iv 0,iv 0,iv 0,.bool false,iv 0,iv 0,iv 0])),(6,some (.row bb3 48 #[iv 0,iv 0,iv 0,iv 0,iv 0])),(7,(cond (S.getD 9 false) (some (.row bb4 48 #[iv x0,iv x1,iv x2,iv x3,iv x4])) (cond (S.getD 7 false) (some (.row bb4 48 #[iv 0,iv 0,iv 0,iv 0,iv 0])) none))),(8,(cond (S.getD 10 false) (some (.row bb5 3 #[iv rs])) (cond (S.getD 8 false) (some (.row bb5 3 #[iv 0])) none)))] w) ?_ ?_ ?_
 ·exact ⟨0,0,hF.pk,hM.dk⟩
 ·refine stC ?_ (stC ?_ (stC ?_ (stC ?_ (stC ?_ (stC ?_ (stC ?_ (stC ?_ (stC ?_ (stC ?_ (stC ?_ (trivial)))))))))))
  ·intro s0 s1 s2 s3 s4 s5 s6 s7 s8 s9 s10 hc hi hp a w hS
   obtain rfl:s0=false:=hi
   obtain ⟨bb4,bb5,hF,hM⟩:=hS
   refine xP 9 (v0:=pt bb1 0) (v:=pt bb1 0) hF rfl fun a hF=>⟨bb4,bb5,hF.rc 7,hM.k⟩
  ·intro s0 s1 s2 s3 s4 s5 s6 s7 s8 s9 s10 hc hi hp a w hS
   obtain rfl:s1=false:=hi
   obtain rfl:s0=true:=hp 0 (by kernel_rfl)
   obtain ⟨bb4,bb5,hF,hM⟩:=hS
   refine xP 10 (v0:=pt bb1 7) (v:=pt bb1 7) hF rfl fun a hF=>⟨bb4,bb5,hF.rc 8,hM.k⟩
  ·intro s0 s1 s2 s3 s4 s5 s6 s7 s8 s9 s10 hc hi hp a w hS
   obtain rfl:s2=false:=hi
   obtain rfl:s1=true:=hp 1 (by kernel_rfl)
   obtain ⟨bb4,bb5,hF,hM⟩:=hS
   refine xP 11 (v0:=pt bb1 7) (v:=pt bb1 7) hF rfl fun a hF=>⟨bb4,bb5,hF.rc 9,hM.k⟩
  ·intro s0 s1 s2 s3 s4 s5 s6 s7 s8 s9 s10 hc hi hp a w hS
   obtain rfl:s3=false:=hi
   obtain rfl:s2=true:=hp 2 (by kernel_rfl)
   obtain ⟨bb4,bb5,hF,hM⟩:=hS
   refine xL 12 4 7 (v:=.agg #[iv x0,iv x1,iv x2,iv x3,iv x4]) hF hM fun a w hF hM=>⟨bb4,bb5,hF.rc 10,hM.k⟩
  ·intro s0 s1 s2 s3 s4 s5 s6 s7 s8 s9 s10 hc hi hp a w hS
   obtain rfl:s4=false:=hi
   obtain ⟨bb4,bb5,hF,hM⟩:=hS
   refine xP 13 (v0:=pt bb1 0) (v:=pt bb1 0) hF rfl fun a hF=>⟨bb4,bb5,hF.rc 11,hM.k⟩
  ·intro s0 s1 s2 s3 s4 s5 s6 s7 s8 s9 s10 hc hi hp a w hS
   obtain rfl:s5=false:=hi
   obtain rfl:s4=true:=hp 4 (by kernel_rfl)
   obtain ⟨bb4,bb5,hF,hM⟩:=hS
   refine xP 14 (v0:=pt bb1 16) (v:=pt bb1 16) hF rfl fun a hF=>⟨bb4,bb5,hF.rc 12,hM.k⟩
  ·intro s0 s1 s2 s3 s4 s5 s6 s7 s8 s9 s10 hc hi hp a w hS
   obtain rfl:s6=false:=hi
   obtain rfl:s5=true:=hp 5 (by kernel_rfl)
   obtain ⟨bb4,bb5,hF,hM⟩:=hS
   refine xL 15 4 16 (v:=iv rs) hF hM fun a w hF hM=>⟨bb4,bb5,hF.rc 13,hM.k⟩
  ·intro s0 s1 s2 s3 s4 s5 s6 s7 s8 s9 s10 hc hi hp a w hS
   obtain rfl:s7=false:=hi
   obtain rfl:s9=false:=hc.f 9 7 (by kernel_rfl) rfl
   obtain ⟨bb4,bb5,hF,hM⟩:=hS
   refine xN 7 7 (t:=48) (fun b=>.pointer (some ⟨b,0,none⟩)) #[iv 0,iv 0,iv 0,iv 0,iv 0] hF hM fun bb4 a w hF hM=>⟨bb4,bb5,hF.rc 5,hM.rc 5⟩
  ·intro s0 s1 s2 s3 s4 s5 s6 s7 s8 s9 s10 hc hi hp a w hS
   obtain rfl:s8=false:=hi
   obtain rfl:s10=false:=hc.f 10 8 (by kernel_rfl) rfl
   obtain ⟨bb4,bb5,hF,hM⟩:=hS
   refine xN 8 8 (t:=3) (fun b=>.pointer (some ⟨b,0,none⟩)) #[iv 0] hF hM fun bb5 a w hF hM=>⟨bb4,bb5,hF.rc 6,hM.rc 6⟩
  ·intro s0 s1 s2 s3 s4 s5 s6 s7 s8 s9 s10 hc hi hp a w hS
   obtain rfl:s9=false:=hi
   obtain rfl:s7=true:=hp 7 (by kernel_rfl)
   obtain rfl:s3=true:=hp 3 (by kernel_rfl)
   obtain ⟨bb4,bb5,hF,hM⟩:=hS
   refine xS 7 0 #[iv x0,iv x1,iv x2,iv x3,iv x4] hF hM fun w hM=>⟨bb4,bb5,hF.k,hM.rc 5⟩
  intro s0 s1 s2 s3 s4 s5 s6 s7 s8 s9 s10 hc hi hp a w hS
  obtain rfl:s10=false:=hi
  obtain rfl:s8=true:=hp 8 (by kernel_rfl)
  obtain rfl:s6=true:=hp 6 (by kernel_rfl)
  obtain ⟨bb4,bb5,hF,hM⟩:=hS
  refine xS 8 0 #[iv rs] hF hM fun w hM=>⟨bb4,bb5,hF.k,hM.rc 6⟩
 intro a w hS
 obtain ⟨bb4,bb5,hF,hM⟩:=hS
 replace hF:Fr 41 [(1,some (iv t)),(2,some (pt bb1 0)),(4,some (pt bb2 0)),(5,some (pt bb3 0)),(6,some (.bool false)),(7,some (pt bb4 0)),(8,some (pt bb5 0)),(9,some (pt bb1 0)),(10,some (pt bb1 7)),(11,some (pt bb1 7)),(12,some (.agg #[iv x0,iv x1,iv x2,iv x3,iv x4])),(13,some (pt bb1 0)),(14,some (pt bb1 16)),(15,some (iv rs))] a:=hF.cast (by kernel_rfl)
 replace hM:Mem w0.heap.size w0 [(1,some (.ro A (flat2 ge))),(3,some (.ro Aq (qcells 8 cap qa Q qg))),(4,some (.row bb1 95 #[.slice A ge.length gc,iv cyc,iv per,iv sh,iv now,.slice Aq 8 gq,.bool (decide (bz=1)),iv x0,iv x1,iv x2,iv x3,iv x4,iv x5,.bool (decide (x6=1)),iv bg,iv fn,iv rs])),(5,some (.row bb2 95 #[.slice none 0 0,iv 0,iv 0,iv 0,iv 0,.slice none 0 0,.bool false,iv 0,iv 0,iv 0,iv 0,iv 0,iv 0,.bool false,iv 0,iv 0,iv 0])),(6,some (.row bb3 48 #[iv 0,iv 0,iv 0,iv 0,iv 0])),(7,some (.row bb4 48 #[iv x0,iv x1,iv x2,iv x3,iv x4])),(8,some (.row bb5 3 #[iv rs]))] w:=hM.cast (by kernel_rfl)
 refine hK2 _ _ (wp_seq_k fun K3 hK3=>wp_region_lit (xB 4 [(16,iv t),(17,.agg #[iv 0,iv 0,iv 0,iv 0,iv 0,iv 0,.bool false]),(18,pt bb1 0),(19,pt bb1 4)] hF fun a hF=>wl (xS 4 4 #[.slice A ge.length gc,iv cyc,iv per,iv sh,iv t,.slice Aq 8 gq,.bool (decide (bz=1)),iv x0,iv x1,iv x2,iv x3,iv x4,iv x5,.bool (decide (x6=1)),iv bg,iv fn,iv rs] hF hM fun w hM=>xB 2 [(20,pt bb1 0),(21,pt bb1 6)] hF fun a hF=>wl (xS 4 6 #[.slice A ge.length gc,iv cyc,iv per,iv sh,iv t,.slice Aq 8 gq,.bool false,iv x0,iv x1,iv x2,iv x3,iv x4,iv x5,.bool (decide (x6=1)),iv bg,iv fn,iv rs] hF hM fun w hM=>xB 2 [(22,pt bb1 0),(23,pt bb1 7)] hF fun a hF=>wl (xS 4 7 #[.slice A ge.length gc,iv cyc,iv per,iv sh,iv t,.slice Aq 8 gq,.bool false,iv 0,iv 0,iv 0,iv 0,iv 0,iv 0,.bool false,iv bg,iv fn,iv rs] hF hM fun w hM=>wpList_nil (hK3 _ _ (wp_seq_k fun K4 hK4=>?_)))))))
 refine wp_region_lit (xB 2 [(24,pt bb1 0),(25,pt bb1 14)] hF fun a hF=>wl (xS 4 14 #[.slice A ge.length gc,iv cyc,iv per,iv sh,iv t,.slice Aq 8 gq,.bool false,iv 0,iv 0,iv 0,iv 0,iv 0,iv 0,.bool false,iv 0,iv fn,iv rs] hF hM fun w hM=>xB 2 [(26,pt bb1 0),(27,pt bb1 15)] hF fun a hF=>wl (xS 4 15 #[.slice A ge.length gc,iv cyc,iv per,iv sh,iv t,.slice Aq 8 gq,.bool false,iv 0,iv 0,iv 0,iv 0,iv 0,iv 0,.bool false,iv 0,iv 0,iv rs] hF hM fun w hM=>xB 2 [(28,pt bb1 0),(29,pt bb1 16)] hF fun a hF=>wl (xS 4 16 #[.slice A ge.length gc,iv cyc,iv per,iv sh,iv t,.slice Aq 8 gq,.bool false,iv 0,iv 0,iv 0,iv 0,iv 0,iv 0,.bool false,iv 0,iv 0,iv 0] hF hM fun w hM=>wpList_nil (hK4 _ _ (wp_seq_k fun K5 hK5=>wp_seq_k fun K6 hK6=>wp_region_lit ?_))))))
 refine wl (xL 30 8 0 (v:=iv rs) hF hM fun a w hF hM=>wl (xP 31 (v0:=.bool (decide (rs=0))) (v:=.bool true) hF (bT (by omega)) fun a hF=>wpList_nil (hK6 _ _ (xT hF (wp_seq_k fun K7 hK7=>rF (by kernel_rfl) (by kernel_rfl) (fun S a w=>Fr 41 [(2,some (pt bb1 0)),(4,some (pt bb2 0)),(5,some (pt bb3 0)),(6,(cond (S.getD 4 false) (some (.bool true)) (some (.bool false)))),(7,some (pt bb4 0)),(8,some (pt bb5 0)),(32,(cond (S.getD 0 false) (some (.agg #[.slice A ge.length gc,iv cyc,iv per,iv sh,iv t,.slice Aq 8 gq,.bool false,iv 0,iv 0,iv 0,iv 0,iv 0,iv 0,.bool false,iv 0,iv 0,iv 0])) none)),(33,(cond (S.getD 1 false) (some (.agg #[iv x0,iv x1,iv x2,iv x3,iv x4])) none))] a ∧ Mem w0.heap.size w0 [(1,some (.ro A (flat2 ge))),(3,some (.ro Aq (qcells 8 cap qa Q qg))),(4,some (.row bb1 95 #[.slice A ge.length gc,iv cyc,iv per,iv sh,iv t,.slice Aq 8 gq,.bool false,iv 0,iv 0,iv 0,iv 0,iv 0,iv 0,.bool false,iv 0,iv 0,iv 0])),(5,(cond (S.getD 2 false) (some (.row bb2 95 #[.slice A ge.length gc,iv cyc,iv per,iv sh,iv t,.slice Aq 8 gq,.bool false,iv 0,iv 0,iv 0,iv 0,iv 0,iv 0,.bool false,iv 0,iv 0,iv 0])) (some (.row bb2 95 #[.slice none 0 0,iv 0,iv 0,iv 0,iv 0,.slice none 0 0,.bool false,iv 0,iv 0,iv 0,iv 0,iv 0,iv 0,.bool false,iv 0,iv 0,iv 0])))),(6,(cond (S.getD 3 false) (some (.row bb3 48 #[iv x0,iv x1,iv x2,iv x3,iv x4])) (some (.row bb3 48 #[iv 0,iv 0,iv 0,iv 0,iv 0])))),(7,some (.row bb4 48 #[iv x0,iv x1,iv x2,iv x3,iv x4])),(8,some (.row bb5 3 #[iv rs]))] w) ?_ ?_ ?_)))))
 ·exact ⟨hF.pk,hM.dk⟩
 ·refine stC ?_ (stC ?_ (stC ?_ (stC ?_ (stC ?_ (trivial)))))
  ·intro s0 s1 s2 s3 s4 hc hi hp a w hS
   obtain rfl:s0=false:=hi
   obtain ⟨hF,hM⟩:=hS
   refine xL 32 4 0 (v:=.agg #[.slice A ge.length gc,iv cyc,iv per,iv sh,iv t,.slice Aq 8 gq,.bool false,iv 0,iv 0,iv 0,iv 0,iv 0,iv 0,.bool false,iv 0,iv 0,iv 0]) hF hM fun a w hF hM=>⟨hF.rc 6,hM.k⟩
  ·intro s0 s1 s2 s3 s4 hc hi hp a w hS
   obtain rfl:s1=false:=hi
   obtain ⟨hF,hM⟩:=hS
   refine xL 33 7 0 (v:=.agg #[iv x0,iv x1,iv x2,iv x3,iv x4]) hF hM fun a w hF hM=>⟨hF.rc 7,hM.k⟩
  ·intro s0 s1 s2 s3 s4 hc hi hp a w hS
   obtain rfl:s2=false:=hi
   obtain rfl:s0=true:=hp 0 (by kernel_rfl)
   obtain ⟨hF,hM⟩:=hS
   refine xS 5 0 #[.slice A ge.length gc,iv cyc,iv per,iv sh,iv t,.slice Aq 8 gq,.bool false,iv 0,iv 0,iv 0,iv 0,iv 0,iv 0,.bool false,iv 0,iv 0,iv 0] hF hM fun w hM=>⟨hF.k,hM.rc 3⟩
  ·intro s0 s1 s2 s3 s4 hc hi hp a w hS
   obtain rfl:s3=false:=hi
   obtain rfl:s1=true:=hp 1 (by kernel_rfl)
   obtain ⟨hF,hM⟩:=hS
   refine xS 6 0 #[iv x0,iv x1,iv x2,iv x3,iv x4] hF hM fun w hM=>⟨hF.k,hM.rc 4⟩
  intro s0 s1 s2 s3 s4 hc hi hp a w hS
  obtain rfl:s4=false:=hi
  obtain ⟨hF,hM⟩:=hS
  refine xP 6 (v0:=.bool true) (v:=.bool true) hF rfl fun a hF=>⟨hF.rc 3,hM.k⟩
 intro a w hS
 obtain ⟨hF,hM⟩:=hS
 replace hF:Fr 41 [(2,some (pt bb1 0)),(4,some (pt bb2 0)),(5,some (pt bb3 0)),(6,some (.bool true)),(7,some (pt bb4 0)),(8,some (pt bb5 0)),(32,some (.agg #[.slice A ge.length gc,iv cyc,iv per,iv sh,iv t,.slice Aq 8 gq,.bool false,iv 0,iv 0,iv 0,iv 0,iv 0,iv 0,.bool false,iv 0,iv 0,iv 0])),(33,some (.agg #[iv x0,iv x1,iv x2,iv x3,iv x4]))] a:=hF.cast (by kernel_rfl)
 replace hM:Mem w0.heap.size w0 [(1,some (.ro A (flat2 ge))),(3,some (.ro Aq (qcells 8 cap qa Q qg))),(4,some (.row bb1 95 #[.slice A ge.length gc,iv cyc,iv per,iv sh,iv t,.slice Aq 8 gq,.bool false,iv 0,iv 0,iv 0,iv 0,iv 0,iv 0,.bool false,iv 0,iv 0,iv 0])),(5,some (.row bb2 95 #[.slice A ge.length gc,iv cyc,iv per,iv sh,iv t,.slice Aq 8 gq,.bool false,iv 0,iv 0,iv 0,iv 0,iv 0,iv 0,.bool false,iv 0,iv 0,iv 0])),(6,some (.row bb3 48 #[iv x0,iv x1,iv x2,iv x3,iv x4])),(7,some (.row bb4 48 #[iv x0,iv x1,iv x2,iv x3,iv x4])),(8,some (.row bb5 3 #[iv rs]))] w:=hM.cast (by kernel_rfl)
 refine hK7 _ _ (wp_ret (hR0 _ _ (ret_of hF hM (.cell (i:=5) rfl rfl (v:=.agg #[.slice A ge.length gc,iv cyc,iv per,iv sh,iv t,.slice Aq 8 gq,.bool false,iv 0,iv 0,iv 0,iv 0,iv 0,iv 0,.bool false,iv 0,iv 0,iv 0]) (by kernel_rfl) (.cell (i:=6) rfl rfl (v:=.agg #[iv x0,iv x1,iv x2,iv x3,iv x4]) (by kernel_rfl) (.tmp rfl (.nil)))) (⟨rfl,hM.bel⟩))))
set_option maxHeartbeats 4000000 in
theorem end_1 (A:Option Addr) (ge:List (Int × Int)) (gc:Nat) (cyc:Int) (per sh:Int) (Sq:Nat → Prop) (Aq:Option Addr) (gq:Nat) (cap:Nat → Int) (Q:Nat → List (List Int)) (now bz x0 x1 x2 x3 x4 x5 x6 bg fn rs:Int) (t:Int) (w0:World) (hA:Ro w0 A (flat2 ge)) (hq:QM Sq Aq cap Q w0) (hv:∀ c,c < 8 → qkE (cap c) (Q c)=0) (h0:rs ≠ 0) (hy:ckP x0 x1 x2 x3 x4 rs 1=0) (hr:1 ≤ (Q x2.toNat).length → rc (Q x2.toNat) 0 6 ≠ 1) :
    Calls Tryz.prog 51 #[.agg #[.slice A ge.length gc,iv cyc,iv per,iv sh,iv now,.slice Aq 8 gq,.bool (decide (bz=1)),iv x0,iv x1,iv x2,iv x3,iv x4,iv x5,.bool (decide (x6=1)),iv bg,iv fn,iv rs],iv t] w0 (RetQ w0 Sq (fun s=>.tuple #[.agg #[.slice A ge.length gc,.int .i64 cyc,.int .i64 per,.int .i64 sh,.int .i64 t,s,.bool false,.int .i64 0,.int .i64 0,.int .i64 0,.int .i64 0,.int .i64 0,.int .i64 0,.bool false,.int .i64 0,.int .i64 0,.int .i64 0],.agg #[.int .i64 0,.int .i64 0,.int .i64 0,.int .i64 0,.int .i64 0],.bool false]) cap (upd Q x2.toNat ([[x0,x1,x2,x3,x4,rs,1]] ++ Q x2.toNat))):=by
 obtain ⟨qa,qg,⟨hqr,hqb⟩,hqf⟩:=hq
 have hqs:∀ c,c < 8 → QS w0 (qa c) (Q c) (qg c):=fun c hc=>(hqf c hc).1
 have hib:=ckI_ok (ckP_ok hy).1
 refine enterK 41 Tryz.func51 rfl rfl rfl ?_
 intro a hF Q0 hR0 hN0
 have hM:=Mem.start w0
 replace hM:=hM.addOld 1 hA (Nat.le_refl _)
 replace hM:=hM.addOld 3 hqr (Nat.le_refl _)
 refine wp_seq_k fun K1 hK1=>wp_region_lit (wl (xN 2 4 (t:=95) (fun b=>.pointer (some ⟨b,0,none⟩)) #[.slice A ge.length gc,iv cyc,iv per,iv sh,iv now,.slice Aq 8 gq,.bool (decide (bz=1)),iv x0,iv x1,iv x2,iv x3,iv x4,iv x5,.bool (decide (x6=1)),iv bg,iv fn,iv rs] hF hM fun bb1 a w hF hM=>wl (xN 4 5 (t:=95) (fun b=>.pointer (some ⟨b,0,none⟩)) #[.slice none 0 0,iv 0,iv 0,iv 0,iv 0,.slice none 0 0,.bool false,iv 0,iv 0,iv 0,iv 0,iv 0,iv 0,.bool false,iv 0,iv 0,iv 0] hF hM fun bb2 a w hF hM=>wl (xN 5 6 (t:=48) (fun b=>.pointer (some ⟨b,0,none⟩)) #[iv 0,iv 0,iv 0,iv 0,iv 0] hF hM fun bb3 a w hF hM=>xB 1 [(6,.bool false)] hF fun a hF=>wpList_nil (hK1 _ _ (wp_seq_k fun K2 hK2=>?_))))))
 refine rF (by kernel_rfl) (by kernel_rfl) (fun S a w=>∃ bb4:Nat,∃ bb5:Nat,Fr 41 [(1,some (iv t)),(2,some (pt bb1 0)),(4,some (pt bb2 0)),(5,some (pt bb3 0)),(6,some (.bool false)),(7,(cond (S.getD 7 false) (some (pt bb4 0)) none)),(8,(cond (S.getD 8 false) (some (pt bb5 0)) none)),(9,(cond (S.getD 0 false) (some (pt bb1 0)) none)),(10,(cond (S.getD 1 false) (some (pt bb1 7)) none)),(11,(cond (S.getD 2 false) (some (pt bb1 7)) none)),(12,(cond (S.getD 3 false) (some (.agg #[iv x0,iv x1,iv x2,iv x3,iv x4])) none)),(13,(cond (S.getD 4 false) (some (pt bb1 0)) none)),(14,(cond (S.getD 5 false) (some (pt bb1 16)) none)),(15,(cond (S.getD 6 false) (some (iv rs)) none))] a ∧ Mem w0.heap.size w0 [(1,some (.ro A (flat2 ge))),(3,some (.ro Aq (qcells 8 cap qa Q qg))),(4,some (.row bb1 95 #[.slice A ge.length gc,iv cyc,iv per,iv sh,iv now,.slice Aq 8 gq,.bool (decide (bz=1)),iv x0,iv x1,iv x2,iv x3,iv x4,iv x5,.bool (decide (x6=1)),iv bg,iv fn,iv rs])),(5,some (.row bb2 95 #[.slice none 0 0,iv 0,iv 0,iv 0,iv 0,.slice none 0 0,.bool false,iv 0,iv 0,iv 0,iv 0,iv 0,iv 0,.bool false,iv 0,iv 0,iv 0])),(6,some (.row bb3 48 #[iv 0,iv 0,iv 0,iv 0,iv 0])),(7,(cond (S.getD 9 false) (some (.row bb4 48 #[iv x0,iv x1,iv x2,iv x3,iv x4])) (cond (S.getD 7 false) (some (.row bb4 48 #[iv 0,iv 0,iv 0,iv 0,iv 0])) none))),(8,(cond (S.getD 10 false) (some (.row bb5 3 #[iv rs])) (cond (S.getD 8 false) (some (.row bb5 3 #[iv 0])) none)))] w) ?_ ?_ ?_
 ·exact ⟨0,0,hF.pk,hM.dk⟩
 ·refine stC ?_ (stC ?_ (stC ?_ (stC ?_ (stC ?_ (stC ?_ (stC ?_ (stC ?_ (stC ?_ (stC ?_ (stC ?_ (trivial)))))))))))
  ·intro s0 s1 s2 s3 s4 s5 s6 s7 s8 s9 s10 hc hi hp a w hS
   obtain rfl:s0=false:=hi
   obtain ⟨bb4,bb5,hF,hM⟩:=hS
   refine xP 9 (v0:=pt bb1 0) (v:=pt bb1 0) hF rfl fun a hF=>⟨bb4,bb5,hF.rc 7,hM.k⟩
  ·intro s0 s1 s2 s3 s4 s5 s6 s7 s8 s9 s10 hc hi hp a w hS
   obtain rfl:s1=false:=hi
   obtain rfl:s0=true:=hp 0 (by kernel_rfl)
   obtain ⟨bb4,bb5,hF,hM⟩:=hS
   refine xP 10 (v0:=pt bb1 7) (v:=pt bb1 7) hF rfl fun a hF=>⟨bb4,bb5,hF.rc 8,hM.k⟩
  ·intro s0 s1 s2 s3 s4 s5 s6 s7 s8 s9 s10 hc hi hp a w hS
   obtain rfl:s2=false:=hi
   obtain rfl:s1=true:=hp 1 (by kernel_rfl)
   obtain ⟨bb4,bb5,hF,hM⟩:=hS
   refine xP 11 (v0:=pt bb1 7) (v:=pt bb1 7) hF rfl fun a hF=>⟨bb4,bb5,hF.rc 9,hM.k⟩
  ·intro s0 s1 s2 s3 s4 s5 s6 s7 s8 s9 s10 hc hi hp a w hS
   obtain rfl:s3=false:=hi
   obtain rfl:s2=true:=hp 2 (by kernel_rfl)
   obtain ⟨bb4,bb5,hF,hM⟩:=hS
   refine xL 12 4 7 (v:=.agg #[iv x0,iv x1,iv x2,iv x3,iv x4]) hF hM fun a w hF hM=>⟨bb4,bb5,hF.rc 10,hM.k⟩
  ·intro s0 s1 s2 s3 s4 s5 s6 s7 s8 s9 s10 hc hi hp a w hS
   obtain rfl:s4=false:=hi
   obtain ⟨bb4,bb5,hF,hM⟩:=hS
   refine xP 13 (v0:=pt bb1 0) (v:=pt bb1 0) hF rfl fun a hF=>⟨bb4,bb5,hF.rc 11,hM.k⟩
  ·intro s0 s1 s2 s3 s4 s5 s6 s7 s8 s9 s10 hc hi hp a w hS
   obtain rfl:s5=false:=hi
   obtain rfl:s4=true:=hp 4 (by kernel_rfl)
   obtain ⟨bb4,bb5,hF,hM⟩:=hS
   refine xP 14 (v0:=pt bb1 16) (v:=pt bb1 16) hF rfl fun a hF=>⟨bb4,bb5,hF.rc 12,hM.k⟩
  ·intro s0 s1 s2 s3 s4 s5 s6 s7 s8 s9 s10 hc hi hp a w hS
   obtain rfl:s6=false:=hi
   obtain rfl:s5=true:=hp 5 (by kernel_rfl)
   obtain ⟨bb4,bb5,hF,hM⟩:=hS
   refine xL 15 4 16 (v:=iv rs) hF hM fun a w hF hM=>⟨bb4,bb5,hF.rc 13,hM.k⟩
  ·intro s0 s1 s2 s3 s4 s5 s6 s7 s8 s9 s10 hc hi hp a w hS
   obtain rfl:s7=false:=hi
   obtain rfl:s9=false:=hc.f 9 7 (by kernel_rfl) rfl
   obtain ⟨bb4,bb5,hF,hM⟩:=hS
   refine xN 7 7 (t:=48) (fun b=>.pointer (some ⟨b,0,none⟩)) #[iv 0,iv 0,iv 0,iv 0,iv 0] hF hM fun bb4 a w hF hM=>⟨bb4,bb5,hF.rc 5,hM.rc 5⟩
  ·intro s0 s1 s2 s3 s4 s5 s6 s7 s8 s9 s10 hc hi hp a w hS
   obtain rfl:s8=false:=hi
   obtain rfl:s10=false:=hc.f 10 8 (by kernel_rfl) rfl
   obtain ⟨bb4,bb5,hF,hM⟩:=hS
   refine xN 8 8 (t:=3) (fun b=>.pointer (some ⟨b,0,none⟩)) #[iv 0] hF hM fun bb5 a w hF hM=>⟨bb4,bb5,hF.rc 6,hM.rc 6⟩
  ·intro s0 s1 s2 s3 s4 s5 s6 s7 s8 s9 s10 hc hi hp a w hS
   obtain rfl:s9=false:=hi
   obtain rfl:s7=true:=hp 7 (by kernel_rfl)
   obtain rfl:s3=true:=hp 3 (by kernel_rfl)
   obtain ⟨bb4,bb5,hF,hM⟩:=hS
   refine xS 7 0 #[iv x0,iv x1,iv x2,iv x3,iv x4] hF hM fun w hM=>⟨bb4,bb5,hF.k,hM.rc 5⟩
  intro s0 s1 s2 s3 s4 s5 s6 s7 s8 s9 s10 hc hi hp a w hS
  obtain rfl:s10=false:=hi
  obtain rfl:s8=true:=hp 8 (by kernel_rfl)
  obtain rfl:s6=true:=hp 6 (by kernel_rfl)
  obtain ⟨bb4,bb5,hF,hM⟩:=hS
  refine xS 8 0 #[iv rs] hF hM fun w hM=>⟨bb4,bb5,hF.k,hM.rc 6⟩
 intro a w hS
 obtain ⟨bb4,bb5,hF,hM⟩:=hS
 replace hF:Fr 41 [(1,some (iv t)),(2,some (pt bb1 0)),(4,some (pt bb2 0)),(5,some (pt bb3 0)),(6,some (.bool false)),(7,some (pt bb4 0)),(8,some (pt bb5 0)),(9,some (pt bb1 0)),(10,some (pt bb1 7)),(11,some (pt bb1 7)),(12,some (.agg #[iv x0,iv x1,iv x2,iv x3,iv x4])),(13,some (pt bb1 0)),(14,some (pt bb1 16)),(15,some (iv rs))] a:=hF.cast (by kernel_rfl)
 replace hM:Mem w0.heap.size w0 [(1,some (.ro A (flat2 ge))),(3,some (.ro Aq (qcells 8 cap qa Q qg))),(4,some (.row bb1 95 #[.slice A ge.length gc,iv cyc,iv per,iv sh,iv now,.slice Aq 8 gq,.bool (decide (bz=1)),iv x0,iv x1,iv x2,iv x3,iv x4,iv x5,.bool (decide (x6=1)),iv bg,iv fn,iv rs])),(5,some (.row bb2 95 #[.slice none 0 0,iv 0,iv 0,iv 0,iv 0,.slice none 0 0,.bool false,iv 0,iv 0,iv 0,iv 0,iv 0,iv 0,.bool false,iv 0,iv 0,iv 0])),(6,some (.row bb3 48 #[iv 0,iv 0,iv 0,iv 0,iv 0])),(7,some (.row bb4 48 #[iv x0,iv x1,iv x2,iv x3,iv x4])),(8,some (.row bb5 3 #[iv rs]))] w:=hM.cast (by kernel_rfl)
 refine hK2 _ _ (wp_seq_k fun K3 hK3=>wp_region_lit (xB 4 [(16,iv t),(17,.agg #[iv 0,iv 0,iv 0,iv 0,iv 0,iv 0,.bool false]),(18,pt bb1 0),(19,pt bb1 4)] hF fun a hF=>wl (xS 4 4 #[.slice A ge.length gc,iv cyc,iv per,iv sh,iv t,.slice Aq 8 gq,.bool (decide (bz=1)),iv x0,iv x1,iv x2,iv x3,iv x4,iv x5,.bool (decide (x6=1)),iv bg,iv fn,iv rs] hF hM fun w hM=>xB 2 [(20,pt bb1 0),(21,pt bb1 6)] hF fun a hF=>wl (xS 4 6 #[.slice A ge.length gc,iv cyc,iv per,iv sh,iv t,.slice Aq 8 gq,.bool false,iv x0,iv x1,iv x2,iv x3,iv x4,iv x5,.bool (decide (x6=1)),iv bg,iv fn,iv rs] hF hM fun w hM=>xB 2 [(22,pt bb1 0),(23,pt bb1 7)] hF fun a hF=>wl (xS 4 7 #[.slice A ge.length gc,iv cyc,iv per,iv sh,iv t,.slice Aq 8 gq,.bool false,iv 0,iv 0,iv 0,iv 0,iv 0,iv 0,.bool false,iv bg,iv fn,iv rs] hF hM fun w hM=>wpList_nil (hK3 _ _ (wp_seq_k fun K4 hK4=>?_)))))))
 refine wp_region_lit (xB 2 [(24,pt bb1 0),(25,pt bb1 14)] hF fun a hF=>wl (xS 4 14 #[.slice A ge.length gc,iv cyc,iv per,iv sh,iv t,.slice Aq 8 gq,.bool false,iv 0,iv 0,iv 0,iv 0,iv 0,iv 0,.bool false,iv 0,iv fn,iv rs] hF hM fun w hM=>xB 2 [(26,pt bb1 0),(27,pt bb1 15)] hF fun a hF=>wl (xS 4 15 #[.slice A ge.length gc,iv cyc,iv per,iv sh,iv t,.slice Aq 8 gq,.bool false,iv 0,iv 0,iv 0,iv 0,iv 0,iv 0,.bool false,iv 0,iv 0,iv rs] hF hM fun w hM=>xB 2 [(28,pt bb1 0),(29,pt bb1 16)] hF fun a hF=>wl (xS 4 16 #[.slice A ge.length gc,iv cyc,iv per,iv sh,iv t,.slice Aq 8 gq,.bool false,iv 0,iv 0,iv 0,iv 0,iv 0,iv 0,.bool false,iv 0,iv 0,iv 0] hF hM fun w hM=>wpList_nil (hK4 _ _ (wp_seq_k fun K5 hK5=>wp_seq_k fun K6 hK6=>wp_region_lit ?_))))))
 refine wl (xL 30 8 0 (v:=iv rs) hF hM fun a w hF hM=>wl (xP 31 (v0:=.bool (decide (rs=0))) (v:=.bool false) hF (bF h0) fun a hF=>wpList_nil (hK6 _ _ (xF hF (wp_skip (hK5 _ _ (wp_seq_k fun K7 hK7=>wp_region_lit (wl (xL 34 4 0 (v:=.agg #[.slice A ge.length gc,iv cyc,iv per,iv sh,iv t,.slice Aq 8 gq,.bool false,iv 0,iv 0,iv 0,iv 0,iv 0,iv 0,.bool false,iv 0,iv 0,iv 0]) hF hM fun a w hF hM=>xB 1 [(35,pt bb4 2)] hF fun a hF=>wl (xL 36 7 2 (v:=iv x2) hF hM fun a w hF hM=>?_))))))))))
 refine xB 1 [(37,.func (.func 71) #[] #[pt bb4 0,pt bb5 0])] hF fun a hF=>wl (sC (f:=70) (args:=#[.agg #[.slice A ge.length gc,iv cyc,iv per,iv sh,iv t,.slice Aq 8 gq,.bool false,iv 0,iv 0,iv 0,iv 0,iv 0,iv 0,.bool false,iv 0,iv 0,iv 0],iv x2,.func (.func 71) #[] #[pt bb4 0,pt bb5 0]]) hF (by kernel_rfl) rfl (by decide) (by kernel_rfl) (fun _=>by kernel_rfl) (enterK 31 Tryz.func70 rfl rfl rfl ?_))
 intro a1 hF1 QR8 hR8 hNR8
 refine wp_seq_k fun K9 hK9=>wp_region_lit (wl (xN 3 9 (t:=95) (fun b=>.pointer (some ⟨b,0,none⟩)) #[.slice A ge.length gc,iv cyc,iv per,iv sh,iv t,.slice Aq 8 gq,.bool false,iv 0,iv 0,iv 0,iv 0,iv 0,iv 0,.bool false,iv 0,iv 0,iv 0] hF1 hM fun bb6 a1 w hF1 hM=>wl (xN 6 10 (t:=95) (fun b=>.pointer (some ⟨b,0,none⟩)) #[.slice none 0 0,iv 0,iv 0,iv 0,iv 0,.slice none 0 0,.bool false,iv 0,iv 0,iv 0,iv 0,iv 0,iv 0,.bool false,iv 0,iv 0,iv 0] hF1 hM fun bb7 a1 w hF1 hM=>wpList_nil (hK9 _ _ (wp_seq_k fun K10 hK10=>wp_region_lit (xB 2 [(8,pt bb6 0),(9,pt bb6 5)] hF1 fun a1 hF1=>wl (xL 10 9 5 (v:=.slice Aq 8 gq) hF1 hM fun a1 w hF1 hM=>xB 1 [(11,iv 8)] hF1 fun a1 hF1=>wl (sMake 12 11 8 (e:=82) (size:=2) (bytes:=32) (z:=.agg #[iv 0,.slice none 0 0]) (qcells 8 (fun _=>0) (fun _=>none) (fun _=>[]) (fun _=>0)) hF1 hM (by kernel_rfl) rfl (by kernel_rfl) (by kernel_rfl) (by kernel_rfl) (by kernel_rfl) (by omega) (by unfold maxLen; omega) fun bb8 a1 w hF1 hM=>?_))))))))
 refine xB 1 [(7,.slice (some ⟨bb8,0,none⟩) 8 8)] hF1 fun a1 hF1=>wpList_nil (hK10 _ _ (wp_seq_k fun K11 hK11=>wp_region_lit (xB 3 [(13,.slice (some ⟨bb8,0,none⟩) 8 8),(14,pt bb6 0),(15,pt bb6 5)] hF1 fun a1 hF1=>wl (xL 16 9 5 (v:=.slice Aq 8 gq) hF1 hM fun a1 w hF1 hM=>wl (sCopyO 17 11 (e:=82) (size:=2) (bytes:=32) (z:=.agg #[iv 0,.slice none 0 0]) (m:=8) (cap:=8) (c:=gq) (news:=(qcells 8 cap qa Q qg)) hF1 hM (by kernel_rfl) rfl (by kernel_rfl) (by kernel_rfl) (by kernel_rfl) rfl rfl (qcells_length _) (roK 3 rfl) (qcells_one _) fun a1 w hF1 hM=>wpList_nil (hK11 _ _ (wp_seq_k fun K12 hK12=>wp_region_lit ?_)))))))
 refine xB 5 [(18,.slice (some ⟨bb8,0,none⟩) 8 8),(19,iv x2),(20,.func (.func 71) #[] #[pt bb4 0,pt bb5 0]),(21,.slice (some ⟨bb8,0,none⟩) 8 8),(22,iv x2)] hF1 fun a1 hF1=>wl (xM 23 (v:=.pointer (some (ea (some ⟨bb8,0,none⟩) (((x2).toNat) * 2)))) hF1 hM (yld_ix (kd:=.i64) (e:=82) (len:=8) (cap:=8) (i:=x2) (size:=2) (A:=(some ⟨bb8,0,none⟩)) hF1 rfl (by kernel_rfl) (by kernel_rfl) (by kernel_rfl) (by kernel_rfl) (by kernel_rfl) (roO 11 rfl) (by omega) (by omega) (by rw [qcells_length]; (try simp only [List.length_map,List.length_append,List.length_replicate,List.length_set,List.length_cons,List.length_nil,flat2_length,List.length_take]); omega)) fun a1 w hF1 hM=>?_)
 replace hM:=hM.addOld 12 (hqs ((x2).toNat) (by omega)).2.2.1 (Nat.le_refl _)
 refine wl (xM 24 (v:=.agg #[iv (cap ((x2).toNat)),.slice (qa ((x2).toNat)) ((Q ((x2).toNat)).length) (qg ((x2).toNat))]) hF1 hM (yld_roM (A:=(some ⟨bb8,0,none⟩)) (j:=((x2).toNat) * 2) (us:=[iv (cap ((x2).toNat)),.slice (qa ((x2).toNat)) ((Q ((x2).toNat)).length) (qg ((x2).toNat))]) hF1 rfl (by kernel_rfl) (by kernel_rfl) (roO 11 rfl) (by kernel_rfl) rfl (qcells_sub (k:=((x2).toNat)) (by omega) rfl)) fun a1 w hF1 hM=>wl (sC (f:=71) (args:=#[.agg #[iv (cap ((x2).toNat)),.slice (qa ((x2).toNat)) ((Q ((x2).toNat)).length) (qg ((x2).toNat))],pt bb4 0,pt bb5 0]) hF1 (by kernel_rfl) rfl (by decide) (by kernel_rfl) (fun _=>by kernel_rfl) (enterK 19 Tryz.func71 rfl rfl rfl ?_)))
 intro a2 hF2 QR13 hR13 hNR13
 refine wp_seq_k fun K14 hK14=>wp_region_lit (wl (xN 3 13 (t:=82) (fun b=>.pointer (some ⟨b,0,none⟩)) #[iv (cap ((x2).toNat)),.slice (qa ((x2).toNat)) ((Q ((x2).toNat)).length) (qg ((x2).toNat))] hF2 hM fun bb9 a2 w hF2 hM=>wl (xN 4 14 (t:=82) (fun b=>.pointer (some ⟨b,0,none⟩)) #[iv 0,.slice none 0 0] hF2 hM fun bb10 a2 w hF2 hM=>wpList_nil (hK14 _ _ (wp_seq_k fun K15 hK15=>wp_region_lit (wl (xL 8 13 0 (v:=.agg #[iv (cap ((x2).toNat)),.slice (qa ((x2).toNat)) ((Q ((x2).toNat)).length) (qg ((x2).toNat))]) hF2 hM fun a2 w hF2 hM=>wl (xL 9 7 0 (v:=.agg #[iv x0,iv x1,iv x2,iv x3,iv x4]) hF2 hM fun a2 w hF2 hM=>wl (xL 10 8 0 (v:=iv rs) hF2 hM fun a2 w hF2 hM=>xB 1 [(11,.agg #[iv x0,iv x1,iv x2,iv x3,iv x4,iv rs,.bool true])] hF2 fun a2 hF2=>?_)))))))))
 refine wl (sRp 15 12 (f:=72) (args:=#[.agg #[iv (cap ((x2).toNat)),.slice (qa ((x2).toNat)) ((Q ((x2).toNat)).length) (qg ((x2).toNat))],.agg #[iv x0,iv x1,iv x2,iv x3,iv x4,iv rs,.bool true]]) (mk:=(fun s=>.tuple #[.agg #[.int .i64 (cap ((x2).toNat)),s],.int .i64 0])) (A0:=(qa ((x2).toNat))) (xs0:=(flatE pE (Q ((x2).toNat)))) (l:=([[x0,x1,x2,x3,x4,rs,1]] ++ (Q ((x2).toNat)))) hF2 hM rfl (by kernel_rfl) rfl (by decide) (by kernel_rfl) (fun _=>by kernel_rfl) (return_w (cap ((x2).toNat)) (qa ((x2).toNat)) (Q ((x2).toNat)) (qg ((x2).toNat)) x0 x1 x2 x3 x4 rs w (hM.ok 12 _ rfl) (hqs ((x2).toNat) (by omega)).1 (hqs ((x2).toNat) (by omega)).2.1 (hqs ((x2).toNat) (by omega)).2.2.2 (hv ((x2).toNat) (by omega)) hy hr) fun AA11 cc11 a2 w hWp11 hlp11 hnp11 hbp11 hF2 hM=>xB 3 [(7,.tuple #[.agg #[iv (cap ((x2).toNat)),.slice AA11 (([[x0,x1,x2,x3,x4,rs,1]] ++ (Q ((x2).toNat))).length) cc11],iv 0]),(13,.agg #[iv (cap ((x2).toNat)),.slice AA11 (([[x0,x1,x2,x3,x4,rs,1]] ++ (Q ((x2).toNat))).length) cc11]),(14,iv 0)] hF2 fun a2 hF2=>wl (xN 5 16 (t:=82) (fun b=>.pointer (some ⟨b,0,none⟩)) #[iv 0,.slice none 0 0] hF2 hM fun bb12 a2 w hF2 hM=>?_))
 refine wl (xS 16 0 #[iv (cap ((x2).toNat)),.slice AA11 (([[x0,x1,x2,x3,x4,rs,1]] ++ (Q ((x2).toNat))).length) cc11] hF2 hM fun w hM=>xB 1 [(6,iv 0)] hF2 fun a2 hF2=>wpList_nil (hK15 _ _ (wp_seq_k fun K16 hK16=>wp_seq_k fun K17 hK17=>wp_region_lit (xB 1 [(15,iv 0)] hF2 fun a2 hF2=>wl (xP 16 (v0:=.bool (!decide (0=0))) (v:=.bool false) hF2 (nT (by omega)) fun a2 hF2=>wpList_nil (hK17 _ _ (xF hF2 ?_)))))))
 refine wp_skip (hK16 _ _ (wp_seq_k fun K18 hK18=>wp_region_lit (wl (xL 18 16 0 (v:=.agg #[iv (cap ((x2).toNat)),.slice AA11 (([[x0,x1,x2,x3,x4,rs,1]] ++ (Q ((x2).toNat))).length) cc11]) hF2 hM fun a2 w hF2 hM=>wl (xS 14 0 #[iv (cap ((x2).toNat)),.slice AA11 (([[x0,x1,x2,x3,x4,rs,1]] ++ (Q ((x2).toNat))).length) cc11] hF2 hM fun w hM=>wpList_nil (hK18 _ _ (wp_ret (hR13 _ _ (ret_of hF2 hM (.cell (i:=14) rfl rfl (v:=.agg #[iv (cap ((x2).toNat)),.slice AA11 (([[x0,x1,x2,x3,x4,rs,1]] ++ (Q ((x2).toNat))).length) cc11]) (by kernel_rfl) (.nil)) ⟨_,rfl,?_⟩)))))))))
 intro a1 hF1
 refine wl (xM 26 (v:=.pointer (some (ea (some ⟨bb8,0,none⟩) (((x2).toNat) * 2)))) hF1 hM (yld_ix (kd:=.i64) (e:=82) (len:=8) (cap:=8) (i:=x2) (size:=2) (A:=(some ⟨bb8,0,none⟩)) hF1 rfl (by kernel_rfl) (by kernel_rfl) (by kernel_rfl) (by kernel_rfl) (by kernel_rfl) (roO 11 rfl) (by omega) (by omega) (by rw [qcells_length]; (try simp only [List.length_map,List.length_append,List.length_replicate,List.length_set,List.length_cons,List.length_nil,flat2_length,List.length_take]); omega)) fun a1 w hF1 hM=>wl (sStoreOM 11 (j:=((x2).toNat) * 2) (A:=(some ⟨bb8,0,none⟩)) [iv (cap ((x2).toNat)),.slice AA11 ([[x0,x1,x2,x3,x4,rs,1]] ++ (Q ((x2).toNat))).length cc11] (qcells 8 (upd cap ((x2).toNat) (cap ((x2).toNat))) (upd qa ((x2).toNat) AA11) (upd Q ((x2).toNat) ([[x0,x1,x2,x3,x4,rs,1]] ++ (Q ((x2).toNat)))) (upd qg ((x2).toNat) cc11)) hF1 hM (by kernel_rfl) rfl rfl (by kernel_rfl) (by kernel_rfl) rfl (by kernel_rfl) rfl (by intro u hu; simp only [List.mem_cons,List.not_mem_nil,or_false] at hu; rcases hu with rfl | rfl <;> rfl) (Nat.succ_pos _) (by rw [qcells_length]; (try simp only [List.length_map,List.length_append,List.length_replicate,List.length_set,List.length_cons,List.length_nil,flat2_length,List.length_take]); omega) (qcells_set (k:=((x2).toNat)) (by omega)) fun w hM=>wpList_nil (hK12 _ _ (wp_seq_k fun K19 hK19=>wp_region_lit (xB 3 [(27,.slice (some ⟨bb8,0,none⟩) 8 8),(28,pt bb6 0),(29,pt bb6 5)] hF1 fun a1 hF1=>wl (xS 9 5 #[.slice A ge.length gc,iv cyc,iv per,iv sh,iv t,.slice (some ⟨bb8,0,none⟩) 8 8,.bool false,iv 0,iv 0,iv 0,iv 0,iv 0,iv 0,.bool false,iv 0,iv 0,iv 0] hF1 hM fun w hM=>wpList_nil (hK19 _ _ ?_)))))))
 refine wp_seq_k fun K20 hK20=>wp_region_lit (wl (xL 30 9 0 (v:=.agg #[.slice A ge.length gc,iv cyc,iv per,iv sh,iv t,.slice (some ⟨bb8,0,none⟩) 8 8,.bool false,iv 0,iv 0,iv 0,iv 0,iv 0,iv 0,.bool false,iv 0,iv 0,iv 0]) hF1 hM fun a1 w hF1 hM=>wl (xS 10 0 #[.slice A ge.length gc,iv cyc,iv per,iv sh,iv t,.slice (some ⟨bb8,0,none⟩) 8 8,.bool false,iv 0,iv 0,iv 0,iv 0,iv 0,iv 0,.bool false,iv 0,iv 0,iv 0] hF1 hM fun w hM=>wpList_nil (hK20 _ _ (wp_ret (hR8 _ _ (ret_of hF1 hM (.cell (i:=10) rfl rfl (v:=.agg #[.slice A ge.length gc,iv cyc,iv per,iv sh,iv t,.slice (some ⟨bb8,0,none⟩) 8 8,.bool false,iv 0,iv 0,iv 0,iv 0,iv 0,iv 0,.bool false,iv 0,iv 0,iv 0]) (by kernel_rfl) (.nil)) ⟨_,rfl,?_⟩)))))))
 intro a hF
 refine wl (xS 4 0 #[.slice A ge.length gc,iv cyc,iv per,iv sh,iv t,.slice (some ⟨bb8,0,none⟩) 8 8,.bool false,iv 0,iv 0,iv 0,iv 0,iv 0,iv 0,.bool false,iv 0,iv 0,iv 0] hF hM fun w hM=>wpList_nil (hK7 _ _ (wp_seq_k fun K21 hK21=>wp_region_lit (wl (xL 39 4 0 (v:=.agg #[.slice A ge.length gc,iv cyc,iv per,iv sh,iv t,.slice (some ⟨bb8,0,none⟩) 8 8,.bool false,iv 0,iv 0,iv 0,iv 0,iv 0,iv 0,.bool false,iv 0,iv 0,iv 0]) hF hM fun a w hF hM=>xB 1 [(40,.agg #[iv 0,iv 0,iv 0,iv 0,iv 0])] hF fun a hF=>wl (xS 5 0 #[.slice A ge.length gc,iv cyc,iv per,iv sh,iv t,.slice (some ⟨bb8,0,none⟩) 8 8,.bool false,iv 0,iv 0,iv 0,iv 0,iv 0,iv 0,.bool false,iv 0,iv 0,iv 0] hF hM fun w hM=>wl (xS 6 0 #[iv 0,iv 0,iv 0,iv 0,iv 0] hF hM fun w hM=>xB 1 [(6,.bool false)] hF fun a hF=>wpList_nil (hK21 _ _ ?_))))))))
 refine wp_ret (hR0 _ _ (ret_of hF hM (.cell (i:=5) rfl rfl (v:=.agg #[.slice A ge.length gc,iv cyc,iv per,iv sh,iv t,.slice (some ⟨bb8,0,none⟩) 8 8,.bool false,iv 0,iv 0,iv 0,iv 0,iv 0,iv 0,.bool false,iv 0,iv 0,iv 0]) (by kernel_rfl) (.cell (i:=6) rfl rfl (v:=.agg #[iv 0,iv 0,iv 0,iv 0,iv 0]) (by kernel_rfl) (.tmp rfl (.nil)))) (retQ_upd (S:=Sq) (mk:=(fun s=>.tuple #[.agg #[.slice A ge.length gc,.int .i64 cyc,.int .i64 per,.int .i64 sh,.int .i64 t,s,.bool false,.int .i64 0,.int .i64 0,.int .i64 0,.int .i64 0,.int .i64 0,.int .i64 0,.bool false,.int .i64 0,.int .i64 0,.int .i64 0],.agg #[.int .i64 0,.int .i64 0,.int .i64 0,.int .i64 0,.int .i64 0],.bool false])) (k:=11) (c:=x2.toNat) hM rfl hqf ⟨hWp11,hlp11,hM.ok 15 _ rfl,hnp11⟩ hbp11 (by omega))))
set_option maxHeartbeats 4000000 in
theorem startE_w (A:Option Addr) (ge:List (Int × Int)) (gc:Nat) (cyc:Int) (per sh:Int) (Sq:Nat → Prop) (Aq:Option Addr) (gq:Nat) (cap:Nat → Int) (Q:Nat → List (List Int)) (now bz x0 x1 x2 x3 x4 x5 x6 bg fn rs:Int) (c:Nat) (t:Int) (w0:World) (hA:Ro w0 A (flat2 ge)) (hq:QM Sq Aq cap Q w0) (hv:∀ c,c < 8 → qkE (cap c) (Q c)=0) (hc8:c < 8) (hn1:1 ≤ (Q c).length) (hln:lnP per sh) (ht:0 ≤ t ∧ t ≤ 1099511627776) :
    Calls Tryz.prog 77 #[.agg #[.slice A ge.length gc,iv cyc,iv per,iv sh,iv now,.slice Aq 8 gq,.bool (decide (bz=1)),iv x0,iv x1,iv x2,iv x3,iv x4,iv x5,.bool (decide (x6=1)),iv bg,iv fn,iv rs],iv (c:Int),iv t] w0 (RetQ w0 Sq (fun s=>.agg #[.slice A ge.length gc,.int .i64 cyc,.int .i64 per,.int .i64 sh,.int .i64 now,s,.bool true,.int .i64 (rc (Q c) 0 0),.int .i64 (rc (Q c) 0 1),.int .i64 (rc (Q c) 0 2),.int .i64 (rc (Q c) 0 3),.int .i64 (rc (Q c) 0 4),.int .i64 (rc (Q c) 0 5),.bool (decide (rc (Q c) 0 6=1)),.int .i64 t,.int .i64 (t + rc (Q c) 0 5 * per),.int .i64 0]) cap (upd Q c (Q c).tail)):=by
 obtain ⟨qa,qg,⟨hqr,hqb⟩,hqf⟩:=hq
 have hqs:∀ c,c < 8 → QS w0 (qa c) (Q c) (qg c):=fun c hc=>(hqf c hc).1
 obtain ⟨hp1,hp2,hs1,hs2⟩:=hln
 refine enterK 38 Tryz.func77 rfl rfl rfl ?_
 intro a hF Q0 hR0 hN0
 have hM:=Mem.start w0
 replace hM:=hM.addOld 1 hA (Nat.le_refl _)
 replace hM:=hM.addOld 3 hqr (Nat.le_refl _)
 refine wp_seq_k fun K1 hK1=>wp_region_lit (wl (xN 3 4 (t:=95) (fun b=>.pointer (some ⟨b,0,none⟩)) #[.slice A ge.length gc,iv cyc,iv per,iv sh,iv now,.slice Aq 8 gq,.bool (decide (bz=1)),iv x0,iv x1,iv x2,iv x3,iv x4,iv x5,.bool (decide (x6=1)),iv bg,iv fn,iv rs] hF hM fun bb1 a w hF hM=>wl (xN 6 5 (t:=95) (fun b=>.pointer (some ⟨b,0,none⟩)) #[.slice none 0 0,iv 0,iv 0,iv 0,iv 0,.slice none 0 0,.bool false,iv 0,iv 0,iv 0,iv 0,iv 0,iv 0,.bool false,iv 0,iv 0,iv 0] hF hM fun bb2 a w hF hM=>wpList_nil (hK1 _ _ (wp_seq_k fun K2 hK2=>wp_region_lit (wl (xN 7 6 (t:=50) (fun b=>.pointer (some ⟨b,0,none⟩)) #[iv 0,iv 0,iv 0,iv 0,iv 0,iv 0,.bool false] hF hM fun bb3 a w hF hM=>wpList_nil (hK2 _ _ (wp_seq_k fun K3 hK3=>?_)))))))))
 refine wp_region_lit (wl (xL 8 4 0 (v:=.agg #[.slice A ge.length gc,iv cyc,iv per,iv sh,iv now,.slice Aq 8 gq,.bool (decide (bz=1)),iv x0,iv x1,iv x2,iv x3,iv x4,iv x5,.bool (decide (x6=1)),iv bg,iv fn,iv rs]) hF hM fun a w hF hM=>xB 2 [(9,iv (c:Int)),(10,.func (.func 93) #[] #[pt bb3 0])] hF fun a hF=>wl (sC (f:=70) (args:=#[.agg #[.slice A ge.length gc,iv cyc,iv per,iv sh,iv now,.slice Aq 8 gq,.bool (decide (bz=1)),iv x0,iv x1,iv x2,iv x3,iv x4,iv x5,.bool (decide (x6=1)),iv bg,iv fn,iv rs],iv (c:Int),.func (.func 93) #[] #[pt bb3 0]]) hF (by kernel_rfl) rfl (by decide) (by kernel_rfl) (fun _=>by kernel_rfl) (enterK 31 Tryz.func70 rfl rfl rfl ?_))))
 intro a1 hF1 QR4 hR4 hNR4
 refine wp_seq_k fun K5 hK5=>wp_region_lit (wl (xN 3 7 (t:=95) (fun b=>.pointer (some ⟨b,0,none⟩)) #[.slice A ge.length gc,iv cyc,iv per,iv sh,iv now,.slice Aq 8 gq,.bool (decide (bz=1)),iv x0,iv x1,iv x2,iv x3,iv x4,iv x5,.bool (decide (x6=1)),iv bg,iv fn,iv rs] hF1 hM fun bb4 a1 w hF1 hM=>wl (xN 6 8 (t:=95) (fun b=>.pointer (some ⟨b,0,none⟩)) #[.slice none 0 0,iv 0,iv 0,iv 0,iv 0,.slice none 0 0,.bool false,iv 0,iv 0,iv 0,iv 0,iv 0,iv 0,.bool false,iv 0,iv 0,iv 0] hF1 hM fun bb5 a1 w hF1 hM=>wpList_nil (hK5 _ _ (wp_seq_k fun K6 hK6=>wp_region_lit (xB 2 [(8,pt bb4 0),(9,pt bb4 5)] hF1 fun a1 hF1=>wl (xL 10 7 5 (v:=.slice Aq 8 gq) hF1 hM fun a1 w hF1 hM=>xB 1 [(11,iv 8)] hF1 fun a1 hF1=>wl (sMake 12 9 8 (e:=82) (size:=2) (bytes:=32) (z:=.agg #[iv 0,.slice none 0 0]) (qcells 8 (fun _=>0) (fun _=>none) (fun _=>[]) (fun _=>0)) hF1 hM (by kernel_rfl) rfl (by kernel_rfl) (by kernel_rfl) (by kernel_rfl) (by kernel_rfl) (by omega) (by unfold maxLen; omega) fun bb6 a1 w hF1 hM=>?_))))))))
 refine xB 1 [(7,.slice (some ⟨bb6,0,none⟩) 8 8)] hF1 fun a1 hF1=>wpList_nil (hK6 _ _ (wp_seq_k fun K7 hK7=>wp_region_lit (xB 3 [(13,.slice (some ⟨bb6,0,none⟩) 8 8),(14,pt bb4 0),(15,pt bb4 5)] hF1 fun a1 hF1=>wl (xL 16 7 5 (v:=.slice Aq 8 gq) hF1 hM fun a1 w hF1 hM=>wl (sCopyO 17 9 (e:=82) (size:=2) (bytes:=32) (z:=.agg #[iv 0,.slice none 0 0]) (m:=8) (cap:=8) (c:=gq) (news:=(qcells 8 cap qa Q qg)) hF1 hM (by kernel_rfl) rfl (by kernel_rfl) (by kernel_rfl) (by kernel_rfl) rfl rfl (qcells_length _) (roK 3 rfl) (qcells_one _) fun a1 w hF1 hM=>wpList_nil (hK7 _ _ (wp_seq_k fun K8 hK8=>wp_region_lit ?_)))))))
 refine xB 5 [(18,.slice (some ⟨bb6,0,none⟩) 8 8),(19,iv (c:Int)),(20,.func (.func 93) #[] #[pt bb3 0]),(21,.slice (some ⟨bb6,0,none⟩) 8 8),(22,iv (c:Int))] hF1 fun a1 hF1=>wl (xM 23 (v:=.pointer (some (ea (some ⟨bb6,0,none⟩) (c * 2)))) hF1 hM (yld_ix (kd:=.i64) (e:=82) (len:=8) (cap:=8) (i:=(c:Int)) (size:=2) (A:=(some ⟨bb6,0,none⟩)) hF1 rfl (by kernel_rfl) (by kernel_rfl) (by kernel_rfl) (by kernel_rfl) (by kernel_rfl) (roO 9 rfl) (by omega) (by omega) (by rw [qcells_length]; (try simp only [List.length_map,List.length_append,List.length_replicate,List.length_set,List.length_cons,List.length_nil,flat2_length,List.length_take]); omega)) fun a1 w hF1 hM=>?_)
 replace hM:=hM.addOld 10 (hqs c (by omega)).2.2.1 (Nat.le_refl _)
 refine wl (xM 24 (v:=.agg #[iv (cap c),.slice (qa c) ((Q c).length) (qg c)]) hF1 hM (yld_roM (A:=(some ⟨bb6,0,none⟩)) (j:=c * 2) (us:=[iv (cap c),.slice (qa c) ((Q c).length) (qg c)]) hF1 rfl (by kernel_rfl) (by kernel_rfl) (roO 9 rfl) (by kernel_rfl) rfl (qcells_sub (k:=c) (by omega) rfl)) fun a1 w hF1 hM=>wl (sC (f:=93) (args:=#[.agg #[iv (cap c),.slice (qa c) ((Q c).length) (qg c)],pt bb3 0]) hF1 (by kernel_rfl) rfl (by decide) (by kernel_rfl) (fun _=>by kernel_rfl) (enterK 18 Tryz.func93 rfl rfl rfl ?_)))
 intro a2 hF2 QR9 hR9 hNR9
 refine wp_seq_k fun K10 hK10=>wp_region_lit (wl (xN 2 11 (t:=82) (fun b=>.pointer (some ⟨b,0,none⟩)) #[iv (cap c),.slice (qa c) ((Q c).length) (qg c)] hF2 hM fun bb7 a2 w hF2 hM=>wl (xN 3 12 (t:=82) (fun b=>.pointer (some ⟨b,0,none⟩)) #[iv 0,.slice none 0 0] hF2 hM fun bb8 a2 w hF2 hM=>wpList_nil (hK10 _ _ (wp_seq_k fun K11 hK11=>wp_region_lit (wl (xL 8 11 0 (v:=.agg #[iv (cap c),.slice (qa c) ((Q c).length) (qg c)]) hF2 hM fun a2 w hF2 hM=>?_)))))))
 have hpo:=qk_oct (hv c (by omega)) 0 (by omega)
 refine wl (sRp 13 10 (f:=94) (args:=#[.agg #[iv (cap c),.slice (qa c) ((Q c).length) (qg c)]]) (mk:=(fun s=>.tuple #[.agg #[.int .i64 (cap c),s],.agg #[iv (rc (Q c) 0 0),iv (rc (Q c) 0 1),iv (rc (Q c) 0 2),iv (rc (Q c) 0 3),iv (rc (Q c) 0 4),iv (rc (Q c) 0 5),.bool (decide (rc (Q c) 0 6=1))],.int .i64 0])) (A0:=(qa c)) (xs0:=(flatE pE (Q c))) (l:=((Q c).tail)) hF2 hM rfl (by kernel_rfl) rfl (by decide) (by kernel_rfl) (fun _=>by kernel_rfl) (pop_w (cap c) (qa c) (Q c) (qg c) w (hM.ok 10 _ rfl) (hqs c (by omega)).1 (hqs c (by omega)).2.1 (hqs c (by omega)).2.2.2 (hv c (by omega)) hn1) fun AA9 cc9 a2 w hWp9 hlp9 hnp9 hbp9 hF2 hM=>xB 4 [(7,.tuple #[.agg #[iv (cap c),.slice AA9 (((Q c).tail).length) cc9],.agg #[iv (rc (Q c) 0 0),iv (rc (Q c) 0 1),iv (rc (Q c) 0 2),iv (rc (Q c) 0 3),iv (rc (Q c) 0 4),iv (rc (Q c) 0 5),.bool (decide (rc (Q c) 0 6=1))],iv 0]),(10,.agg #[iv (cap c),.slice AA9 (((Q c).tail).length) cc9]),(11,.agg #[iv (rc (Q c) 0 0),iv (rc (Q c) 0 1),iv (rc (Q c) 0 2),iv (rc (Q c) 0 3),iv (rc (Q c) 0 4),iv (rc (Q c) 0 5),.bool (decide (rc (Q c) 0 6=1))]),(12,iv 0)] hF2 fun a2 hF2=>wl (xN 4 14 (t:=82) (fun b=>.pointer (some ⟨b,0,none⟩)) #[iv 0,.slice none 0 0] hF2 hM fun bb10 a2 w hF2 hM=>wl (xN 5 15 (t:=50) (fun b=>.pointer (some ⟨b,0,none⟩)) #[iv 0,iv 0,iv 0,iv 0,iv 0,iv 0,.bool false] hF2 hM fun bb11 a2 w hF2 hM=>?_)))
 refine wl (xS 14 0 #[iv (cap c),.slice AA9 (((Q c).tail).length) cc9] hF2 hM fun w hM=>wl (xS 15 0 #[iv (rc (Q c) 0 0),iv (rc (Q c) 0 1),iv (rc (Q c) 0 2),iv (rc (Q c) 0 3),iv (rc (Q c) 0 4),iv (rc (Q c) 0 5),.bool (decide (rc (Q c) 0 6=1))] hF2 hM fun w hM=>xB 1 [(6,iv 0)] hF2 fun a2 hF2=>wpList_nil (hK11 _ _ (wp_seq_k fun K12 hK12=>wp_seq_k fun K13 hK13=>wp_region_lit (xB 1 [(13,iv 0)] hF2 fun a2 hF2=>wl (xP 14 (v0:=.bool (!decide (0=0))) (v:=.bool false) hF2 (nT (by omega)) fun a2 hF2=>wpList_nil (hK13 _ _ ?_)))))))
 refine xF hF2 (wp_skip (hK12 _ _ (wp_seq_k fun K14 hK14=>wp_region_lit (wl (xL 16 15 0 (v:=.agg #[iv (rc (Q c) 0 0),iv (rc (Q c) 0 1),iv (rc (Q c) 0 2),iv (rc (Q c) 0 3),iv (rc (Q c) 0 4),iv (rc (Q c) 0 5),.bool (decide (rc (Q c) 0 6=1))]) hF2 hM fun a2 w hF2 hM=>wl (xS 6 0 #[iv (rc (Q c) 0 0),iv (rc (Q c) 0 1),iv (rc (Q c) 0 2),iv (rc (Q c) 0 3),iv (rc (Q c) 0 4),iv (rc (Q c) 0 5),.bool (decide (rc (Q c) 0 6=1))] hF2 hM fun w hM=>wpList_nil (hK14 _ _ (wp_seq_k fun K15 hK15=>wp_region_lit (wl (xL 17 14 0 (v:=.agg #[iv (cap c),.slice AA9 (((Q c).tail).length) cc9]) hF2 hM fun a2 w hF2 hM=>?_))))))))))
 refine wl (xS 12 0 #[iv (cap c),.slice AA9 (((Q c).tail).length) cc9] hF2 hM fun w hM=>wpList_nil (hK15 _ _ (wp_ret (hR9 _ _ (ret_of hF2 hM (.cell (i:=12) rfl rfl (v:=.agg #[iv (cap c),.slice AA9 (((Q c).tail).length) cc9]) (by kernel_rfl) (.nil)) ⟨_,rfl,?_⟩)))))
 intro a1 hF1
 refine wl (xM 26 (v:=.pointer (some (ea (some ⟨bb6,0,none⟩) (c * 2)))) hF1 hM (yld_ix (kd:=.i64) (e:=82) (len:=8) (cap:=8) (i:=(c:Int)) (size:=2) (A:=(some ⟨bb6,0,none⟩)) hF1 rfl (by kernel_rfl) (by kernel_rfl) (by kernel_rfl) (by kernel_rfl) (by kernel_rfl) (roO 9 rfl) (by omega) (by omega) (by rw [qcells_length]; (try simp only [List.length_map,List.length_append,List.length_replicate,List.length_set,List.length_cons,List.length_nil,flat2_length,List.length_take]); omega)) fun a1 w hF1 hM=>wl (sStoreOM 9 (j:=c * 2) (A:=(some ⟨bb6,0,none⟩)) [iv (cap c),.slice AA9 ((Q c).tail).length cc9] (qcells 8 (upd cap c (cap c)) (upd qa c AA9) (upd Q c ((Q c).tail)) (upd qg c cc9)) hF1 hM (by kernel_rfl) rfl rfl (by kernel_rfl) (by kernel_rfl) rfl (by kernel_rfl) rfl (by intro u hu; simp only [List.mem_cons,List.not_mem_nil,or_false] at hu; rcases hu with rfl | rfl <;> rfl) (Nat.succ_pos _) (by rw [qcells_length]; (try simp only [List.length_map,List.length_append,List.length_replicate,List.length_set,List.length_cons,List.length_nil,flat2_length,List.length_take]); omega) (qcells_set (k:=c) (by omega)) fun w hM=>wpList_nil (hK8 _ _ (wp_seq_k fun K16 hK16=>wp_region_lit (xB 3 [(27,.slice (some ⟨bb6,0,none⟩) 8 8),(28,pt bb4 0),(29,pt bb4 5)] hF1 fun a1 hF1=>wl (xS 7 5 #[.slice A ge.length gc,iv cyc,iv per,iv sh,iv now,.slice (some ⟨bb6,0,none⟩) 8 8,.bool (decide (bz=1)),iv x0,iv x1,iv x2,iv x3,iv x4,iv x5,.bool (decide (x6=1)),iv bg,iv fn,iv rs] hF1 hM fun w hM=>wpList_nil (hK16 _ _ (wp_seq_k fun K17 hK17=>wp_region_lit ?_))))))))
 refine wl (xL 30 7 0 (v:=.agg #[.slice A ge.length gc,iv cyc,iv per,iv sh,iv now,.slice (some ⟨bb6,0,none⟩) 8 8,.bool (decide (bz=1)),iv x0,iv x1,iv x2,iv x3,iv x4,iv x5,.bool (decide (x6=1)),iv bg,iv fn,iv rs]) hF1 hM fun a1 w hF1 hM=>wl (xS 8 0 #[.slice A ge.length gc,iv cyc,iv per,iv sh,iv now,.slice (some ⟨bb6,0,none⟩) 8 8,.bool (decide (bz=1)),iv x0,iv x1,iv x2,iv x3,iv x4,iv x5,.bool (decide (x6=1)),iv bg,iv fn,iv rs] hF1 hM fun w hM=>wpList_nil (hK17 _ _ (wp_ret (hR4 _ _ (ret_of hF1 hM (.cell (i:=8) rfl rfl (v:=.agg #[.slice A ge.length gc,iv cyc,iv per,iv sh,iv now,.slice (some ⟨bb6,0,none⟩) 8 8,.bool (decide (bz=1)),iv x0,iv x1,iv x2,iv x3,iv x4,iv x5,.bool (decide (x6=1)),iv bg,iv fn,iv rs]) (by kernel_rfl) (.nil)) ⟨_,rfl,?_⟩))))))
 intro a hF
 refine wl (xS 4 0 #[.slice A ge.length gc,iv cyc,iv per,iv sh,iv now,.slice (some ⟨bb6,0,none⟩) 8 8,.bool (decide (bz=1)),iv x0,iv x1,iv x2,iv x3,iv x4,iv x5,.bool (decide (x6=1)),iv bg,iv fn,iv rs] hF hM fun w hM=>wpList_nil (hK3 _ _ (wp_seq_k fun K18 hK18=>wp_seq_k fun K19 hK19=>wp_region_lit (wl (xL 12 6 0 (v:=.agg #[iv (rc (Q c) 0 0),iv (rc (Q c) 0 1),iv (rc (Q c) 0 2),iv (rc (Q c) 0 3),iv (rc (Q c) 0 4),iv (rc (Q c) 0 5),.bool (decide (rc (Q c) 0 6=1))]) hF hM fun a w hF hM=>xB 1 [(13,.agg #[iv 0,iv 0,iv 0,iv 0,iv 0,iv 0,.bool false])] hF fun a hF=>wl (xM 14 (v:=.bool false) hF hM ((yld_eqlP (C:=Mem _ _ _) (rc (Q c) 0 0) (rc (Q c) 0 1) (rc (Q c) 0 2) (rc (Q c) 0 3) (rc (Q c) 0 4) (rc (Q c) 0 5) 0 0 0 0 0 0 (decide (rc (Q c) 0 6=1)) false hF rfl (by kernel_rfl) (by kernel_rfl) (by kernel_rfl)).to (bF (fun h=>by have h:=h.1; simp only [List.cons.injEq] at h; omega))) fun a w hF hM=>wpList_nil (hK19 _ _ (xF hF ?_))))))))
 refine wp_skip (hK18 _ _ (wp_seq_k fun K20 hK20=>?_))
 refine rF (by kernel_rfl) (by kernel_rfl) (fun S a w=>Fr 38 [(2,some (iv t)),(3,some (pt bb1 0)),(6,some (pt bb2 0)),(7,some (pt bb3 0)),(16,(cond (S.getD 0 false) (some (.agg #[iv (rc (Q c) 0 0),iv (rc (Q c) 0 1),iv (rc (Q c) 0 2),iv (rc (Q c) 0 3),iv (rc (Q c) 0 4),iv (rc (Q c) 0 5),.bool (decide (rc (Q c) 0 6=1))])) none)),(17,(cond (S.getD 1 false) (some (pt bb1 0)) none)),(18,(cond (S.getD 2 false) (some (pt bb1 6)) none)),(19,(cond (S.getD 4 false) (some (pt bb1 0)) none)),(20,(cond (S.getD 5 false) (some (pt bb1 7)) none))] a ∧ Mem w0.heap.size w0 [(1,some (.ro A (flat2 ge))),(3,some (.ro Aq (qcells 8 cap qa Q qg))),(4,(cond (S.getD 6 false) (some (.row bb1 95 #[.slice A ge.length gc,iv cyc,iv per,iv sh,iv now,.slice (some ⟨bb6,0,none⟩) 8 8,.bool true,iv (rc (Q c) 0 0),iv (rc (Q c) 0 1),iv (rc (Q c) 0 2),iv (rc (Q c) 0 3),iv (rc (Q c) 0 4),iv (rc (Q c) 0 5),.bool (decide (rc (Q c) 0 6=1)),iv bg,iv fn,iv rs])) (cond (S.getD 3 false) (some (.row bb1 95 #[.slice A ge.length gc,iv cyc,iv per,iv sh,iv now,.slice (some ⟨bb6,0,none⟩) 8 8,.bool true,iv x0,iv x1,iv x2,iv x3,iv x4,iv x5,.bool (decide (x6=1)),iv bg,iv fn,iv rs])) (some (.row bb1 95 #[.slice A ge.length gc,iv cyc,iv per,iv sh,iv now,.slice (some ⟨bb6,0,none⟩) 8 8,.bool (decide (bz=1)),iv x0,iv x1,iv x2,iv x3,iv x4,iv x5,.bool (decide (x6=1)),iv bg,iv fn,iv rs]))))),(5,some (.row bb2 95 #[.slice none 0 0,iv 0,iv 0,iv 0,iv 0,.slice none 0 0,.bool false,iv 0,iv 0,iv 0,iv 0,iv 0,iv 0,.bool false,iv 0,iv 0,iv 0])),(6,some (.row bb3 50 #[iv (rc (Q c) 0 0),iv (rc (Q c) 0 1),iv (rc (Q c) 0 2),iv (rc (Q c) 0 3),iv (rc (Q c) 0 4),iv (rc (Q c) 0 5),.bool (decide (rc (Q c) 0 6=1))])),(9,some (.own (.slice (some ⟨bb6,0,none⟩) 8 8) 82 2 8 (qcells 8 (upd cap c (cap c)) (upd qa c AA9) (upd Q c ((Q c).tail)) (upd qg c cc9)))),(10,some (.ro (qa c) (flatE pE (Q c)))),(13,some (.ro AA9 (flatE pE ((Q c).tail))))] w) ?_ ?_ ?_
 ·exact ⟨hF.pk,hM.dk⟩
 ·refine stC ?_ (stC ?_ (stC ?_ (stC ?_ (stC ?_ (stC ?_ (stC ?_ (trivial)))))))
  ·intro s0 s1 s2 s3 s4 s5 s6 hc hi hp a w hS
   obtain rfl:s0=false:=hi
   obtain ⟨hF,hM⟩:=hS
   refine xL 16 6 0 (v:=.agg #[iv (rc (Q c) 0 0),iv (rc (Q c) 0 1),iv (rc (Q c) 0 2),iv (rc (Q c) 0 3),iv (rc (Q c) 0 4),iv (rc (Q c) 0 5),.bool (decide (rc (Q c) 0 6=1))]) hF hM fun a w hF hM=>⟨hF.rc 4,hM.k⟩
  ·intro s0 s1 s2 s3 s4 s5 s6 hc hi hp a w hS
   obtain rfl:s1=false:=hi
   obtain rfl:s2=false:=hc.f 2 1 (by kernel_rfl) rfl
   obtain rfl:s3=false:=hc.f 3 2 (by kernel_rfl) rfl
   obtain rfl:s6=false:=hc.f 6 1 (by kernel_rfl) rfl
   obtain ⟨hF,hM⟩:=hS
   refine xP 17 (v0:=pt bb1 0) (v:=pt bb1 0) hF rfl fun a hF=>⟨hF.rc 5,hM.k⟩
  ·intro s0 s1 s2 s3 s4 s5 s6 hc hi hp a w hS
   obtain rfl:s2=false:=hi
   obtain rfl:s1=true:=hp 1 (by kernel_rfl)
   obtain rfl:s3=false:=hc.f 3 2 (by kernel_rfl) rfl
   obtain rfl:s6=false:=hc.f 6 2 (by kernel_rfl) rfl
   obtain ⟨hF,hM⟩:=hS
   refine xP 18 (v0:=pt bb1 6) (v:=pt bb1 6) hF rfl fun a hF=>⟨hF.rc 6,hM.k⟩
  ·intro s0 s1 s2 s3 s4 s5 s6 hc hi hp a w hS
   obtain rfl:s3=false:=hi
   obtain rfl:s2=true:=hp 2 (by kernel_rfl)
   obtain rfl:s6=false:=hc.f 6 3 (by kernel_rfl) rfl
   obtain ⟨hF,hM⟩:=hS
   refine xS 4 6 #[.slice A ge.length gc,iv cyc,iv per,iv sh,iv now,.slice (some ⟨bb6,0,none⟩) 8 8,.bool true,iv x0,iv x1,iv x2,iv x3,iv x4,iv x5,.bool (decide (x6=1)),iv bg,iv fn,iv rs] hF hM fun w hM=>⟨hF.k,hM.rc 2⟩
  ·intro s0 s1 s2 s3 s4 s5 s6 hc hi hp a w hS
   obtain rfl:s4=false:=hi
   obtain rfl:s3=true:=hp 3 (by kernel_rfl)
   obtain rfl:s5=false:=hc.f 5 4 (by kernel_rfl) rfl
   obtain rfl:s6=false:=hc.f 6 5 (by kernel_rfl) rfl
   obtain ⟨hF,hM⟩:=hS
   refine xP 19 (v0:=pt bb1 0) (v:=pt bb1 0) hF rfl fun a hF=>⟨hF.rc 7,hM.k⟩
  ·intro s0 s1 s2 s3 s4 s5 s6 hc hi hp a w hS
   obtain rfl:s5=false:=hi
   obtain rfl:s4=true:=hp 4 (by kernel_rfl)
   obtain rfl:s3=true:=hp 3 (by kernel_rfl)
   obtain rfl:s6=false:=hc.f 6 5 (by kernel_rfl) rfl
   obtain ⟨hF,hM⟩:=hS
   refine xP 20 (v0:=pt bb1 7) (v:=pt bb1 7) hF rfl fun a hF=>⟨hF.rc 8,hM.k⟩
  intro s0 s1 s2 s3 s4 s5 s6 hc hi hp a w hS
  obtain rfl:s6=false:=hi
  obtain rfl:s5=true:=hp 5 (by kernel_rfl)
  obtain rfl:s3=true:=hp 3 (by kernel_rfl)
  obtain rfl:s0=true:=hp 0 (by kernel_rfl)
  obtain ⟨hF,hM⟩:=hS
  refine xS 4 7 #[.slice A ge.length gc,iv cyc,iv per,iv sh,iv now,.slice (some ⟨bb6,0,none⟩) 8 8,.bool true,iv (rc (Q c) 0 0),iv (rc (Q c) 0 1),iv (rc (Q c) 0 2),iv (rc (Q c) 0 3),iv (rc (Q c) 0 4),iv (rc (Q c) 0 5),.bool (decide (rc (Q c) 0 6=1)),iv bg,iv fn,iv rs] hF hM fun w hM=>⟨hF.k,hM.rc 2⟩
 intro a w hS
 obtain ⟨hF,hM⟩:=hS
 replace hF:Fr 38 [(2,some (iv t)),(3,some (pt bb1 0)),(6,some (pt bb2 0)),(7,some (pt bb3 0)),(16,some (.agg #[iv (rc (Q c) 0 0),iv (rc (Q c) 0 1),iv (rc (Q c) 0 2),iv (rc (Q c) 0 3),iv (rc (Q c) 0 4),iv (rc (Q c) 0 5),.bool (decide (rc (Q c) 0 6=1))])),(17,some (pt bb1 0)),(18,some (pt bb1 6)),(19,some (pt bb1 0)),(20,some (pt bb1 7))] a:=hF.cast (by kernel_rfl)
 replace hM:Mem w0.heap.size w0 [(1,some (.ro A (flat2 ge))),(3,some (.ro Aq (qcells 8 cap qa Q qg))),(4,some (.row bb1 95 #[.slice A ge.length gc,iv cyc,iv per,iv sh,iv now,.slice (some ⟨bb6,0,none⟩) 8 8,.bool true,iv (rc (Q c) 0 0),iv (rc (Q c) 0 1),iv (rc (Q c) 0 2),iv (rc (Q c) 0 3),iv (rc (Q c) 0 4),iv (rc (Q c) 0 5),.bool (decide (rc (Q c) 0 6=1)),iv bg,iv fn,iv rs])),(5,some (.row bb2 95 #[.slice none 0 0,iv 0,iv 0,iv 0,iv 0,.slice none 0 0,.bool false,iv 0,iv 0,iv 0,iv 0,iv 0,iv 0,.bool false,iv 0,iv 0,iv 0])),(6,some (.row bb3 50 #[iv (rc (Q c) 0 0),iv (rc (Q c) 0 1),iv (rc (Q c) 0 2),iv (rc (Q c) 0 3),iv (rc (Q c) 0 4),iv (rc (Q c) 0 5),.bool (decide (rc (Q c) 0 6=1))])),(9,some (.own (.slice (some ⟨bb6,0,none⟩) 8 8) 82 2 8 (qcells 8 (upd cap c (cap c)) (upd qa c AA9) (upd Q c ((Q c).tail)) (upd qg c cc9)))),(10,some (.ro (qa c) (flatE pE (Q c)))),(13,some (.ro AA9 (flatE pE ((Q c).tail))))] w:=hM.cast (by kernel_rfl)
 refine hK20 _ _ (wp_seq_k fun K21 hK21=>?_)
 have hz1:84 ≤ rc (Q c) 0 5 * per ∧ rc (Q c) 0 5 * per ≤ 1542000:=mul_bd (84) (1542) (1) (1000) (by omega) (by omega) (by omega) (by omega) (by decide)
 refine rF (by kernel_rfl) (by kernel_rfl) (fun S a w=>Fr 38 [(2,some (iv t)),(3,some (pt bb1 0)),(6,some (pt bb2 0)),(7,some (pt bb3 0)),(21,(cond (S.getD 0 false) (some (iv t)) none)),(22,(cond (S.getD 1 false) (some (iv t)) none)),(23,(cond (S.getD 2 false) (some (pt bb3 5)) none)),(24,(cond (S.getD 3 false) (some (iv (rc (Q c) 0 5))) none)),(25,(cond (S.getD 4 false) (some (pt bb1 0)) none)),(26,(cond (S.getD 5 false) (some (pt bb1 0)) none)),(27,(cond (S.getD 6 false) (some (pt bb1 2)) none)),(28,(cond (S.getD 7 false) (some (iv per)) none)),(29,(cond (S.getD 8 false) (some (iv (rc (Q c) 0 5 * per))) none)),(30,(cond (S.getD 9 false) (some (iv (t + rc (Q c) 0 5 * per))) none)),(31,(cond (S.getD 10 false) (some (pt bb1 0)) none)),(32,(cond (S.getD 11 false) (some (pt bb1 14)) none)),(33,(cond (S.getD 13 false) (some (pt bb1 0)) none)),(34,(cond (S.getD 14 false) (some (pt bb1 15)) none)),(35,(cond (S.getD 16 false) (some (pt bb1 0)) none)),(36,(cond (S.getD 17 false) (some (pt bb1 16)) none))] a ∧ Mem w0.heap.size w0 [(1,some (.ro A (flat2 ge))),(3,some (.ro Aq (qcells 8 cap qa Q qg))),(4,(cond (S.getD 18 false) (some (.row bb1 95 #[.slice A ge.length gc,iv cyc,iv per,iv sh,iv now,.slice (some ⟨bb6,0,none⟩) 8 8,.bool true,iv (rc (Q c) 0 0),iv (rc (Q c) 0 1),iv (rc (Q c) 0 2),iv (rc (Q c) 0 3),iv (rc (Q c) 0 4),iv (rc (Q c) 0 5),.bool (decide (rc (Q c) 0 6=1)),iv t,iv (t + rc (Q c) 0 5 * per),iv 0])) (cond (S.getD 15 false) (some (.row bb1 95 #[.slice A ge.length gc,iv cyc,iv per,iv sh,iv now,.slice (some ⟨bb6,0,none⟩) 8 8,.bool true,iv (rc (Q c) 0 0),iv (rc (Q c) 0 1),iv (rc (Q c) 0 2),iv (rc (Q c) 0 3),iv (rc (Q c) 0 4),iv (rc (Q c) 0 5),.bool (decide (rc (Q c) 0 6=1)),iv t,iv (t + rc (Q c) 0 5 * per),iv rs])) (cond (S.getD 12 false) (some (.row bb1 95 #[.slice A ge.length gc,iv cyc,iv per,iv sh,iv now,.slice (some ⟨bb6,0,none⟩) 8 8,.bool true,iv (rc (Q c) 0 0),iv (rc (Q c) 0 1),iv (rc (Q c) 0 2),iv (rc (Q c) 0 3),iv (rc (Q c) 0 4),iv (rc (Q c) 0 5),.bool (decide (rc (Q c) 0 6=1)),iv t,iv fn,iv rs])) (some (.row bb1 95 #[.slice A ge.length gc,iv cyc,iv per,iv sh,iv now,.slice (some ⟨bb6,0,none⟩) 8 8,.bool true,iv (rc (Q c) 0 0),iv (rc (Q c) 0 1),iv (rc (Q c) 0 2),iv (rc (Q c) 0 3),iv (rc (Q c) 0 4),iv (rc (Q c) 0 5),.bool (decide (rc (Q c) 0 6=1)),iv bg,iv fn,iv rs])))))),(5,some (.row bb2 95 #[.slice none 0 0,iv 0,iv 0,iv 0,iv 0,.slice none 0 0,.bool false,iv 0,iv 0,iv 0,iv 0,iv 0,iv 0,.bool false,iv 0,iv 0,iv 0])),(6,some (.row bb3 50 #[iv (rc (Q c) 0 0),iv (rc (Q c) 0 1),iv (rc (Q c) 0 2),iv (rc (Q c) 0 3),iv (rc (Q c) 0 4),iv (rc (Q c) 0 5),.bool (decide (rc (Q c) 0 6=1))])),(9,some (.own (.slice (some ⟨bb6,0,none⟩) 8 8) 82 2 8 (qcells 8 (upd cap c (cap c)) (upd qa c AA9) (upd Q c ((Q c).tail)) (upd qg c cc9)))),(10,some (.ro (qa c) (flatE pE (Q c)))),(13,some (.ro AA9 (flatE pE ((Q c).tail))))] w) ?_ ?_ ?_
 ·exact ⟨hF.pk,hM.dk⟩
 ·refine stC ?_ (stC ?_ (stC ?_ (stC ?_ (stC ?_ (stC ?_ (stC ?_ (stC ?_ (stC ?_ (stC ?_ (stC ?_ (stC ?_ (stC ?_ (stC ?_ (stC ?_ (stC ?_ (stC ?_ (stC ?_ (stC ?_ (trivial)))))))))))))))))))
  ·intro s0 s1 s2 s3 s4 s5 s6 s7 s8 s9 s10 s11 s12 s13 s14 s15 s16 s17 s18 hc hi hp a w hS
   obtain rfl:s0=false:=hi
   obtain ⟨hF,hM⟩:=hS
   refine xP 21 (v0:=iv t) (v:=iv t) hF rfl fun a hF=>⟨hF.rc 4,hM.k⟩
  ·intro s0 s1 s2 s3 s4 s5 s6 s7 s8 s9 s10 s11 s12 s13 s14 s15 s16 s17 s18 hc hi hp a w hS
   obtain rfl:s1=false:=hi
   obtain ⟨hF,hM⟩:=hS
   refine xP 22 (v0:=iv t) (v:=iv t) hF rfl fun a hF=>⟨hF.rc 5,hM.k⟩
  ·intro s0 s1 s2 s3 s4 s5 s6 s7 s8 s9 s10 s11 s12 s13 s14 s15 s16 s17 s18 hc hi hp a w hS
   obtain rfl:s2=false:=hi
   obtain ⟨hF,hM⟩:=hS
   refine xP 23 (v0:=pt bb3 5) (v:=pt bb3 5) hF rfl fun a hF=>⟨hF.rc 6,hM.k⟩
  ·intro s0 s1 s2 s3 s4 s5 s6 s7 s8 s9 s10 s11 s12 s13 s14 s15 s16 s17 s18 hc hi hp a w hS
   obtain rfl:s3=false:=hi
   obtain rfl:s2=true:=hp 2 (by kernel_rfl)
   obtain ⟨hF,hM⟩:=hS
   refine xL 24 6 5 (v:=iv (rc (Q c) 0 5)) hF hM fun a w hF hM=>⟨hF.rc 7,hM.k⟩
  ·intro s0 s1 s2 s3 s4 s5 s6 s7 s8 s9 s10 s11 s12 s13 s14 s15 s16 s17 s18 hc hi hp a w hS
   obtain rfl:s4=false:=hi
   obtain rfl:s12=false:=hc.f 12 4 (by kernel_rfl) rfl
   obtain rfl:s15=false:=hc.f 15 4 (by kernel_rfl) rfl
   obtain rfl:s18=false:=hc.f 18 4 (by kernel_rfl) rfl
   obtain ⟨hF,hM⟩:=hS
   refine xP 25 (v0:=pt bb1 0) (v:=pt bb1 0) hF rfl fun a hF=>⟨hF.rc 8,hM.k⟩
  ·intro s0 s1 s2 s3 s4 s5 s6 s7 s8 s9 s10 s11 s12 s13 s14 s15 s16 s17 s18 hc hi hp a w hS
   obtain rfl:s5=false:=hi
   obtain rfl:s4=true:=hp 4 (by kernel_rfl)
   obtain rfl:s12=false:=hc.f 12 5 (by kernel_rfl) rfl
   obtain rfl:s15=false:=hc.f 15 5 (by kernel_rfl) rfl
   obtain rfl:s18=false:=hc.f 18 5 (by kernel_rfl) rfl
   obtain ⟨hF,hM⟩:=hS
   refine xP 26 (v0:=pt bb1 0) (v:=pt bb1 0) hF rfl fun a hF=>⟨hF.rc 9,hM.k⟩
  ·intro s0 s1 s2 s3 s4 s5 s6 s7 s8 s9 s10 s11 s12 s13 s14 s15 s16 s17 s18 hc hi hp a w hS
   obtain rfl:s6=false:=hi
   obtain rfl:s5=true:=hp 5 (by kernel_rfl)
   obtain rfl:s12=false:=hc.f 12 6 (by kernel_rfl) rfl
   obtain rfl:s15=false:=hc.f 15 6 (by kernel_rfl) rfl
   obtain rfl:s18=false:=hc.f 18 6 (by kernel_rfl) rfl
   obtain ⟨hF,hM⟩:=hS
   refine xP 27 (v0:=pt bb1 2) (v:=pt bb1 2) hF rfl fun a hF=>⟨hF.rc 10,hM.k⟩
  ·intro s0 s1 s2 s3 s4 s5 s6 s7 s8 s9 s10 s11 s12 s13 s14 s15 s16 s17 s18 hc hi hp a w hS
   obtain rfl:s7=false:=hi
   obtain rfl:s6=true:=hp 6 (by kernel_rfl)
   obtain rfl:s12=false:=hc.f 12 7 (by kernel_rfl) rfl
   obtain rfl:s15=false:=hc.f 15 7 (by kernel_rfl) rfl
   obtain rfl:s18=false:=hc.f 18 7 (by kernel_rfl) rfl
   obtain ⟨hF,hM⟩:=hS
   refine xL 28 4 2 (v:=iv per) hF hM fun a w hF hM=>⟨hF.rc 11,hM.k⟩
  ·intro s0 s1 s2 s3 s4 s5 s6 s7 s8 s9 s10 s11 s12 s13 s14 s15 s16 s17 s18 hc hi hp a w hS
   obtain rfl:s8=false:=hi
   obtain rfl:s7=true:=hp 7 (by kernel_rfl)
   obtain rfl:s3=true:=hp 3 (by kernel_rfl)
   obtain ⟨hF,hM⟩:=hS
   refine xP 29 (v0:=.int .i64 (IntKind.i64.wrap (rc (Q c) 0 5 * per))) (v:=iv (rc (Q c) 0 5 * per)) hF (wi (by omega)) fun a hF=>⟨hF.rc 12,hM.k⟩
  ·intro s0 s1 s2 s3 s4 s5 s6 s7 s8 s9 s10 s11 s12 s13 s14 s15 s16 s17 s18 hc hi hp a w hS
   obtain rfl:s9=false:=hi
   obtain rfl:s8=true:=hp 8 (by kernel_rfl)
   obtain rfl:s1=true:=hp 1 (by kernel_rfl)
   obtain ⟨hF,hM⟩:=hS
   refine xP 30 (v0:=.int .i64 (IntKind.i64.wrap (t + rc (Q c) 0 5 * per))) (v:=iv (t + rc (Q c) 0 5 * per)) hF (wi (by omega)) fun a hF=>⟨hF.rc 13,hM.k⟩
  ·intro s0 s1 s2 s3 s4 s5 s6 s7 s8 s9 s10 s11 s12 s13 s14 s15 s16 s17 s18 hc hi hp a w hS
   obtain rfl:s10=false:=hi
   obtain rfl:s11=false:=hc.f 11 10 (by kernel_rfl) rfl
   obtain rfl:s12=false:=hc.f 12 11 (by kernel_rfl) rfl
   obtain rfl:s15=false:=hc.f 15 10 (by kernel_rfl) rfl
   obtain rfl:s18=false:=hc.f 18 10 (by kernel_rfl) rfl
   obtain ⟨hF,hM⟩:=hS
   refine xP 31 (v0:=pt bb1 0) (v:=pt bb1 0) hF rfl fun a hF=>⟨hF.rc 14,hM.k⟩
  ·intro s0 s1 s2 s3 s4 s5 s6 s7 s8 s9 s10 s11 s12 s13 s14 s15 s16 s17 s18 hc hi hp a w hS
   obtain rfl:s11=false:=hi
   obtain rfl:s10=true:=hp 10 (by kernel_rfl)
   obtain rfl:s12=false:=hc.f 12 11 (by kernel_rfl) rfl
   obtain rfl:s15=false:=hc.f 15 11 (by kernel_rfl) rfl
   obtain rfl:s18=false:=hc.f 18 11 (by kernel_rfl) rfl
   obtain ⟨hF,hM⟩:=hS
   refine xP 32 (v0:=pt bb1 14) (v:=pt bb1 14) hF rfl fun a hF=>⟨hF.rc 15,hM.k⟩
  ·intro s0 s1 s2 s3 s4 s5 s6 s7 s8 s9 s10 s11 s12 s13 s14 s15 s16 s17 s18 hc hi hp a w hS
   obtain rfl:s12=false:=hi
   obtain rfl:s11=true:=hp 11 (by kernel_rfl)
   obtain rfl:s0=true:=hp 0 (by kernel_rfl)
   obtain rfl:s15=false:=hc.f 15 12 (by kernel_rfl) rfl
   obtain rfl:s18=false:=hc.f 18 12 (by kernel_rfl) rfl
   obtain ⟨hF,hM⟩:=hS
   refine xS 4 14 #[.slice A ge.length gc,iv cyc,iv per,iv sh,iv now,.slice (some ⟨bb6,0,none⟩) 8 8,.bool true,iv (rc (Q c) 0 0),iv (rc (Q c) 0 1),iv (rc (Q c) 0 2),iv (rc (Q c) 0 3),iv (rc (Q c) 0 4),iv (rc (Q c) 0 5),.bool (decide (rc (Q c) 0 6=1)),iv t,iv fn,iv rs] hF hM fun w hM=>⟨hF.k,hM.rc 2⟩
  ·intro s0 s1 s2 s3 s4 s5 s6 s7 s8 s9 s10 s11 s12 s13 s14 s15 s16 s17 s18 hc hi hp a w hS
   obtain rfl:s13=false:=hi
   obtain rfl:s12=true:=hp 12 (by kernel_rfl)
   obtain rfl:s14=false:=hc.f 14 13 (by kernel_rfl) rfl
   obtain rfl:s15=false:=hc.f 15 14 (by kernel_rfl) rfl
   obtain rfl:s18=false:=hc.f 18 13 (by kernel_rfl) rfl
   obtain ⟨hF,hM⟩:=hS
   refine xP 33 (v0:=pt bb1 0) (v:=pt bb1 0) hF rfl fun a hF=>⟨hF.rc 16,hM.k⟩
  ·intro s0 s1 s2 s3 s4 s5 s6 s7 s8 s9 s10 s11 s12 s13 s14 s15 s16 s17 s18 hc hi hp a w hS
   obtain rfl:s14=false:=hi
   obtain rfl:s13=true:=hp 13 (by kernel_rfl)
   obtain rfl:s12=true:=hp 12 (by kernel_rfl)
   obtain rfl:s15=false:=hc.f 15 14 (by kernel_rfl) rfl
   obtain rfl:s18=false:=hc.f 18 14 (by kernel_rfl) rfl
   obtain ⟨hF,hM⟩:=hS
   refine xP 34 (v0:=pt bb1 15) (v:=pt bb1 15) hF rfl fun a hF=>⟨hF.rc 17,hM.k⟩
  ·intro s0 s1 s2 s3 s4 s5 s6 s7 s8 s9 s10 s11 s12 s13 s14 s15 s16 s17 s18 hc hi hp a w hS
   obtain rfl:s15=false:=hi
   obtain rfl:s14=true:=hp 14 (by kernel_rfl)
   obtain rfl:s12=true:=hp 12 (by kernel_rfl)
   obtain rfl:s9=true:=hp 9 (by kernel_rfl)
   obtain rfl:s18=false:=hc.f 18 15 (by kernel_rfl) rfl
   obtain ⟨hF,hM⟩:=hS
   refine xS 4 15 #[.slice A ge.length gc,iv cyc,iv per,iv sh,iv now,.slice (some ⟨bb6,0,none⟩) 8 8,.bool true,iv (rc (Q c) 0 0),iv (rc (Q c) 0 1),iv (rc (Q c) 0 2),iv (rc (Q c) 0 3),iv (rc (Q c) 0 4),iv (rc (Q c) 0 5),.bool (decide (rc (Q c) 0 6=1)),iv t,iv (t + rc (Q c) 0 5 * per),iv rs] hF hM fun w hM=>⟨hF.k,hM.rc 2⟩
  ·intro s0 s1 s2 s3 s4 s5 s6 s7 s8 s9 s10 s11 s12 s13 s14 s15 s16 s17 s18 hc hi hp a w hS
   obtain rfl:s16=false:=hi
   obtain rfl:s15=true:=hp 15 (by kernel_rfl)
   obtain rfl:s12=true:=hp 12 (by kernel_rfl)
   obtain rfl:s17=false:=hc.f 17 16 (by kernel_rfl) rfl
   obtain rfl:s18=false:=hc.f 18 17 (by kernel_rfl) rfl
   obtain ⟨hF,hM⟩:=hS
   refine xP 35 (v0:=pt bb1 0) (v:=pt bb1 0) hF rfl fun a hF=>⟨hF.rc 18,hM.k⟩
  ·intro s0 s1 s2 s3 s4 s5 s6 s7 s8 s9 s10 s11 s12 s13 s14 s15 s16 s17 s18 hc hi hp a w hS
   obtain rfl:s17=false:=hi
   obtain rfl:s16=true:=hp 16 (by kernel_rfl)
   obtain rfl:s15=true:=hp 15 (by kernel_rfl)
   obtain rfl:s12=true:=hp 12 (by kernel_rfl)
   obtain rfl:s18=false:=hc.f 18 17 (by kernel_rfl) rfl
   obtain ⟨hF,hM⟩:=hS
   refine xP 36 (v0:=pt bb1 16) (v:=pt bb1 16) hF rfl fun a hF=>⟨hF.rc 19,hM.k⟩
  intro s0 s1 s2 s3 s4 s5 s6 s7 s8 s9 s10 s11 s12 s13 s14 s15 s16 s17 s18 hc hi hp a w hS
  obtain rfl:s18=false:=hi
  obtain rfl:s17=true:=hp 17 (by kernel_rfl)
  obtain rfl:s15=true:=hp 15 (by kernel_rfl)
  obtain rfl:s12=true:=hp 12 (by kernel_rfl)
  obtain ⟨hF,hM⟩:=hS
  refine xS 4 16 #[.slice A ge.length gc,iv cyc,iv per,iv sh,iv now,.slice (some ⟨bb6,0,none⟩) 8 8,.bool true,iv (rc (Q c) 0 0),iv (rc (Q c) 0 1),iv (rc (Q c) 0 2),iv (rc (Q c) 0 3),iv (rc (Q c) 0 4),iv (rc (Q c) 0 5),.bool (decide (rc (Q c) 0 6=1)),iv t,iv (t + rc (Q c) 0 5 * per),iv 0] hF hM fun w hM=>⟨hF.k,hM.rc 2⟩
 intro a w hS
 obtain ⟨hF,hM⟩:=hS
 replace hF:Fr 38 [(2,some (iv t)),(3,some (pt bb1 0)),(6,some (pt bb2 0)),(7,some (pt bb3 0)),(21,some (iv t)),(22,some (iv t)),(23,some (pt bb3 5)),(24,some (iv (rc (Q c) 0 5))),(25,some (pt bb1 0)),(26,some (pt bb1 0)),(27,some (pt bb1 2)),(28,some (iv per)),(29,some (iv (rc (Q c) 0 5 * per))),(30,some (iv (t + rc (Q c) 0 5 * per))),(31,some (pt bb1 0)),(32,some (pt bb1 14)),(33,some (pt bb1 0)),(34,some (pt bb1 15)),(35,some (pt bb1 0)),(36,some (pt bb1 16))] a:=hF.cast (by kernel_rfl)
 replace hM:Mem w0.heap.size w0 [(1,some (.ro A (flat2 ge))),(3,some (.ro Aq (qcells 8 cap qa Q qg))),(4,some (.row bb1 95 #[.slice A ge.length gc,iv cyc,iv per,iv sh,iv now,.slice (some ⟨bb6,0,none⟩) 8 8,.bool true,iv (rc (Q c) 0 0),iv (rc (Q c) 0 1),iv (rc (Q c) 0 2),iv (rc (Q c) 0 3),iv (rc (Q c) 0 4),iv (rc (Q c) 0 5),.bool (decide (rc (Q c) 0 6=1)),iv t,iv (t + rc (Q c) 0 5 * per),iv 0])),(5,some (.row bb2 95 #[.slice none 0 0,iv 0,iv 0,iv 0,iv 0,.slice none 0 0,.bool false,iv 0,iv 0,iv 0,iv 0,iv 0,iv 0,.bool false,iv 0,iv 0,iv 0])),(6,some (.row bb3 50 #[iv (rc (Q c) 0 0),iv (rc (Q c) 0 1),iv (rc (Q c) 0 2),iv (rc (Q c) 0 3),iv (rc (Q c) 0 4),iv (rc (Q c) 0 5),.bool (decide (rc (Q c) 0 6=1))])),(9,some (.own (.slice (some ⟨bb6,0,none⟩) 8 8) 82 2 8 (qcells 8 (upd cap c (cap c)) (upd qa c AA9) (upd Q c ((Q c).tail)) (upd qg c cc9)))),(10,some (.ro (qa c) (flatE pE (Q c)))),(13,some (.ro AA9 (flatE pE ((Q c).tail))))] w:=hM.cast (by kernel_rfl)
 refine hK21 _ _ (wp_seq_k fun K22 hK22=>wp_region_lit (wl (xL 37 4 0 (v:=.agg #[.slice A ge.length gc,iv cyc,iv per,iv sh,iv now,.slice (some ⟨bb6,0,none⟩) 8 8,.bool true,iv (rc (Q c) 0 0),iv (rc (Q c) 0 1),iv (rc (Q c) 0 2),iv (rc (Q c) 0 3),iv (rc (Q c) 0 4),iv (rc (Q c) 0 5),.bool (decide (rc (Q c) 0 6=1)),iv t,iv (t + rc (Q c) 0 5 * per),iv 0]) hF hM fun a w hF hM=>wl (xS 5 0 #[.slice A ge.length gc,iv cyc,iv per,iv sh,iv now,.slice (some ⟨bb6,0,none⟩) 8 8,.bool true,iv (rc (Q c) 0 0),iv (rc (Q c) 0 1),iv (rc (Q c) 0 2),iv (rc (Q c) 0 3),iv (rc (Q c) 0 4),iv (rc (Q c) 0 5),.bool (decide (rc (Q c) 0 6=1)),iv t,iv (t + rc (Q c) 0 5 * per),iv 0] hF hM fun w hM=>wpList_nil (hK22 _ _ (wp_ret (hR0 _ _ (ret_of hF hM (.cell (i:=5) rfl rfl (v:=.agg #[.slice A ge.length gc,iv cyc,iv per,iv sh,iv now,.slice (some ⟨bb6,0,none⟩) 8 8,.bool true,iv (rc (Q c) 0 0),iv (rc (Q c) 0 1),iv (rc (Q c) 0 2),iv (rc (Q c) 0 3),iv (rc (Q c) 0 4),iv (rc (Q c) 0 5),.bool (decide (rc (Q c) 0 6=1)),iv t,iv (t + rc (Q c) 0 5 * per),iv 0]) (by kernel_rfl) (.nil)) (retQ_upd (S:=Sq) (mk:=(fun s=>.agg #[.slice A ge.length gc,.int .i64 cyc,.int .i64 per,.int .i64 sh,.int .i64 now,s,.bool true,.int .i64 (rc (Q c) 0 0),.int .i64 (rc (Q c) 0 1),.int .i64 (rc (Q c) 0 2),.int .i64 (rc (Q c) 0 3),.int .i64 (rc (Q c) 0 4),.int .i64 (rc (Q c) 0 5),.bool (decide (rc (Q c) 0 6=1)),.int .i64 t,.int .i64 (t + rc (Q c) 0 5 * per),.int .i64 0])) (k:=9) (c:=c) hM rfl hqf ⟨hWp9,hlp9,hM.ok 13 _ rfl,hnp9⟩ hbp9 hc8)))))))))
end Go.Proofs.YtlngflbamkgjlaaGreat
namespace Go.Proofs.YtlngflbamkgjlaaGreat
open Go.RowKit
set_option linter.unusedVariables false
set_option linter.unusedSimpArgs false
set_option maxRecDepth 100000
theorem hdL_len (Q:Nat → List (List Int)):(hdL Q).length=8:=by simp [hdL]
theorem hdL_wr {Q:Nat → List (List Int)} (h:∀ c,c < 8 → WR 7 (Q c)):WR 7 (hdL Q):=by rw [← hdK_8]; exact hdK_wr h 8
theorem rc_hdL {Q:Nat → List (List Int)} {c i:Nat} (hc:c < 8):rc (hdL Q) c i=(headP (Q c)).getD i 0:=by
  unfold rc hdL
  rw [List.getElem?_map,List.getElem?_range hc]
  rfl
theorem rc_head {l:List (List Int)} {i:Nat} (h:1 ≤ l.length):(headP l).getD i 0=rc l 0 i:=by
  match l,h with
  | x :: r, _ => rfl
theorem hd_pos {Q:Nat → List (List Int)} {c:Nat} (hc:c < 8) (hz:¬ zH (hdL Q) c):1 ≤ (Q c).length:=by
  rcases Nat.eq_zero_or_pos (Q c).length with h | h
  · exact absurd ⟨by simp only [rc_hdL hc,List.length_eq_zero_iff.1 h]; rfl,by rw [rc_hdL hc,List.length_eq_zero_iff.1 h]; rfl⟩ hz
  · exact h
theorem stF_some {p:Nat → Prop} [DecidablePred p] {c:Nat}:∀ {k:Nat},stF p k=some c → c < k ∧ p c ∧ ∀ i,c < i → i < k → ¬ p i
  | 0, h => by cases h
  | k + 1, h => by
    rw [stF] at h
    split at h
    · injection h with h
      subst h
      exact ⟨by omega,by assumption,fun i h1 h2=>by omega⟩
    · obtain ⟨h1,h2,h3⟩:=stF_some h
      refine ⟨by omega,h2,fun i q1 q2=>?_⟩
      by_cases e:i=k
      · subst e; assumption
      · exact h3 i q1 (by omega)
theorem stF_none {p:Nat → Prop} [DecidablePred p]:∀ {k:Nat},stF p k=none → ∀ i,i < k → ¬ p i
  | 0, _ => fun i h => by omega
  | k + 1, h => by
    rw [stF] at h
    split at h
    · cases h
    · intro i hi
      by_cases e:i=k
      · subst e; assumption
      · exact stF_none h i (by omega)
set_option maxHeartbeats 4000000 in
theorem ch_none (A:Option Addr) (ge:List (Int × Int)) (gc:Nat) (cyc:Int) (per sh:Int) (Sq:Nat → Prop) (Aq:Option Addr) (gq:Nat) (cap:Nat → Int) (Q:Nat → List (List Int)) (now bz x0 x1 x2 x3 x4 x5 x6 bg fn rs:Int) (t:Int) (w0:World) (hA:Ro w0 A (flat2 ge)) (hq:QM Sq Aq cap Q w0) (hv:∀ c,c < 8 → qkE (cap c) (Q c)=0) (hga:gaE ge cyc=0) (hln:lnP per sh) (hh:hdP (hdL Q)) (ht:0 ≤ t ∧ t ≤ 549755813888) (hb:bz ≠ 1) (hs:stF (fun c=>mayP ge cyc per sh (hdL Q) c t) 8=none) :
    Calls Tryz.prog 53 #[.agg #[.slice A ge.length gc,iv cyc,iv per,iv sh,iv now,.slice Aq 8 gq,.bool (decide (bz=1)),iv x0,iv x1,iv x2,iv x3,iv x4,iv x5,.bool (decide (x6=1)),iv bg,iv fn,iv rs],iv t] w0 (Ret w0 (.agg #[.slice A ge.length gc,.int .i64 cyc,.int .i64 per,.int .i64 sh,.int .i64 t,.slice Aq 8 gq,.bool (decide (bz=1)),.int .i64 x0,.int .i64 x1,.int .i64 x2,.int .i64 x3,.int .i64 x4,.int .i64 x5,.bool (decide (x6=1)),.int .i64 bg,.int .i64 fn,.int .i64 rs])):=by
 have hq0:=hq
 obtain ⟨qa,qg,⟨hqr,hqb⟩,hqf⟩:=hq
 have hqs:∀ c,c < 8 → QS w0 (qa c) (Q c) (qg c):=fun c hc=>(hqf c hc).1
 obtain ⟨hp1,hp2,hs1,hs2⟩:=hln
 have hgp:=(ga_p hga).2.2.1
 have hgs:=ga_pos hga
 refine enterK 69 Tryz.func53 rfl rfl rfl ?_
 intro a hF Q0 hR0 hN0
 have hM:=Mem.start w0
 replace hM:=hM.addOld 1 hA (Nat.le_refl _)
 replace hM:=hM.addOld 3 hqr (Nat.le_refl _)
 refine wp_seq_k fun K1 hK1=>wp_region_lit (wl (xN 2 4 (t:=95) (fun b=>.pointer (some ⟨b,0,none⟩)) #[.slice A ge.length gc,iv cyc,iv per,iv sh,iv now,.slice Aq 8 gq,.bool (decide (bz=1)),iv x0,iv x1,iv x2,iv x3,iv x4,iv x5,.bool (decide (x6=1)),iv bg,iv fn,iv rs] hF hM fun bb1 a w hF hM=>wl (xN 4 5 (t:=95) (fun b=>.pointer (some ⟨b,0,none⟩)) #[.slice none 0 0,iv 0,iv 0,iv 0,iv 0,.slice none 0 0,.bool false,iv 0,iv 0,iv 0,iv 0,iv 0,iv 0,.bool false,iv 0,iv 0,iv 0] hF hM fun bb2 a w hF hM=>wpList_nil (hK1 _ _ (wp_seq_k fun K2 hK2=>wp_region_lit (xB 3 [(10,iv t),(11,pt bb1 0),(12,pt bb1 4)] hF fun a hF=>?_))))))
 refine wl (xS 4 4 #[.slice A ge.length gc,iv cyc,iv per,iv sh,iv t,.slice Aq 8 gq,.bool (decide (bz=1)),iv x0,iv x1,iv x2,iv x3,iv x4,iv x5,.bool (decide (x6=1)),iv bg,iv fn,iv rs] hF hM fun w hM=>wpList_nil (hK2 _ _ (wp_seq_k fun K3 hK3=>wp_seq_k fun K4 hK4=>wp_region_lit (xB 2 [(13,pt bb1 0),(14,pt bb1 6)] hF fun a hF=>wl (xM 15 (v:=.bool false) hF hM (Yld.to (v:=.bool (decide (bz=1))) (yld_row (i:=4) (off:=6) hF rfl (by kernel_rfl) (by kernel_rfl) rfl (by kernel_rfl)) (bF hb)) fun a w hF hM=>xB 1 [(16,.bool true)] hF fun a hF=>wpList_nil (hK4 _ _ (xT hF ?_)))))))
 refine wp_seq_k fun K5 hK5=>rF (by kernel_rfl) (by kernel_rfl) (fun S a w=>∃ AA3:Option Addr,∃ cc3:Nat,Fr 69 [(1,some (iv t)),(2,some (pt bb1 0)),(4,some (pt bb2 0)),(5,(cond (S.getD 10 false) (some (iv 0)) none)),(6,(cond (S.getD 11 false) (some (iv 4)) none)),(17,(cond (S.getD 7 false) (some (.tuple #[iv 0,iv 4])) none)),(18,(cond (S.getD 0 false) (some (pt bb1 0)) none)),(19,(cond (S.getD 1 false) (some (pt bb1 0)) none)),(20,(cond (S.getD 2 false) (some (.agg #[.slice A ge.length gc,iv cyc,iv per,iv sh])) none)),(21,(cond (S.getD 3 false) (some (.agg #[.slice A ge.length gc,iv cyc,iv per,iv sh,iv t,.slice Aq 8 gq,.bool (decide (bz=1)),iv x0,iv x1,iv x2,iv x3,iv x4,iv x5,.bool (decide (x6=1)),iv bg,iv fn,iv rs])) none)),(22,(cond (S.getD 4 false) (some (.slice AA3 8 cc3)) none)),(23,(cond (S.getD 5 false) (some (iv t)) none)),(24,(cond (S.getD 6 false) (some (.tuple #[iv 0,iv 4])) none)),(25,(cond (S.getD 8 false) (some (iv 0)) none)),(26,(cond (S.getD 9 false) (some (iv 4)) none))] a ∧ Mem w0.heap.size w0 [(1,some (.ro A (flat2 ge))),(3,some (.ro Aq (qcells 8 cap qa Q qg))),(4,some (.row bb1 95 #[.slice A ge.length gc,iv cyc,iv per,iv sh,iv t,.slice Aq 8 gq,.bool (decide (bz=1)),iv x0,iv x1,iv x2,iv x3,iv x4,iv x5,.bool (decide (x6=1)),iv bg,iv fn,iv rs])),(5,some (.row bb2 95 #[.slice none 0 0,iv 0,iv 0,iv 0,iv 0,.slice none 0 0,.bool false,iv 0,iv 0,iv 0,iv 0,iv 0,iv 0,.bool false,iv 0,iv 0,iv 0])),(6,(cond (S.getD 4 false) (some (.own (.slice AA3 8 cc3) 50 7 8 (flatE pE (hdL Q)))) none))] w) ?_ ?_ ?_
 ·exact ⟨none,0,hF.pk,hM.dk⟩
 ·refine stC ?_ (stC ?_ (stC ?_ (stC ?_ (stC ?_ (stC ?_ (stC ?_ (stC ?_ (stC ?_ (stC ?_ (stC ?_ (stC ?_ (trivial))))))))))))
  ·intro s0 s1 s2 s3 s4 s5 s6 s7 s8 s9 s10 s11 hc hi hp a w hS
   obtain rfl:s0=false:=hi
   obtain ⟨AA3,cc3,hF,hM⟩:=hS
   refine xP 18 (v0:=pt bb1 0) (v:=pt bb1 0) hF rfl fun a hF=>⟨AA3,cc3,hF.rc 6,hM.k⟩
  ·intro s0 s1 s2 s3 s4 s5 s6 s7 s8 s9 s10 s11 hc hi hp a w hS
   obtain rfl:s1=false:=hi
   obtain rfl:s0=true:=hp 0 (by kernel_rfl)
   obtain ⟨AA3,cc3,hF,hM⟩:=hS
   refine xP 19 (v0:=pt bb1 0) (v:=pt bb1 0) hF rfl fun a hF=>⟨AA3,cc3,hF.rc 7,hM.k⟩
  ·intro s0 s1 s2 s3 s4 s5 s6 s7 s8 s9 s10 s11 hc hi hp a w hS
   obtain rfl:s2=false:=hi
   obtain rfl:s1=true:=hp 1 (by kernel_rfl)
   obtain ⟨AA3,cc3,hF,hM⟩:=hS
   refine xL 20 4 0 (v:=.agg #[.slice A ge.length gc,iv cyc,iv per,iv sh]) hF hM fun a w hF hM=>⟨AA3,cc3,hF.rc 8,hM.k⟩
  ·intro s0 s1 s2 s3 s4 s5 s6 s7 s8 s9 s10 s11 hc hi hp a w hS
   obtain rfl:s3=false:=hi
   obtain ⟨AA3,cc3,hF,hM⟩:=hS
   refine xL 21 4 0 (v:=.agg #[.slice A ge.length gc,iv cyc,iv per,iv sh,iv t,.slice Aq 8 gq,.bool (decide (bz=1)),iv x0,iv x1,iv x2,iv x3,iv x4,iv x5,.bool (decide (x6=1)),iv bg,iv fn,iv rs]) hF hM fun a w hF hM=>⟨AA3,cc3,hF.rc 9,hM.k⟩
  ·intro s0 s1 s2 s3 s4 s5 s6 s7 s8 s9 s10 s11 hc hi hp a w hS
   obtain rfl:s4=false:=hi
   obtain rfl:s3=true:=hp 3 (by kernel_rfl)
   obtain ⟨AA3,cc3,hF,hM⟩:=hS
   refine sOwn 6 (f:=76) (args:=#[.agg #[.slice A ge.length gc,iv cyc,iv per,iv sh,iv t,.slice Aq 8 gq,.bool (decide (bz=1)),iv x0,iv x1,iv x2,iv x3,iv x4,iv x5,.bool (decide (x6=1)),iv bg,iv fn,iv rs]]) (mk:=(fun v=>v)) (e:=50) (size:=7) (m:=8) (xs:=(flatE pE (hdL Q))) hF hM (by kernel_rfl) rfl (by decide) (by kernel_rfl) (fun _=>by kernel_rfl) (heads_w A ge gc cyc per sh Sq Aq gq cap Q t bz x0 x1 x2 x3 x4 x5 x6 bg fn rs w (hM.ok 1 _ rfl) (hq0.below hM.bel) hv) fun AA3 cc3 a w hF hM=>⟨AA3,cc3,hF.rc 10,hM.rc 4⟩
  ·intro s0 s1 s2 s3 s4 s5 s6 s7 s8 s9 s10 s11 hc hi hp a w hS
   obtain rfl:s5=false:=hi
   obtain ⟨AA3,cc3,hF,hM⟩:=hS
   refine xP 23 (v0:=iv t) (v:=iv t) hF rfl fun a hF=>⟨AA3,cc3,hF.rc 11,hM.k⟩
  ·intro s0 s1 s2 s3 s4 s5 s6 s7 s8 s9 s10 s11 hc hi hp a w hS
   obtain rfl:s6=false:=hi
   obtain rfl:s5=true:=hp 5 (by kernel_rfl)
   obtain rfl:s4=true:=hp 4 (by kernel_rfl)
   obtain rfl:s2=true:=hp 2 (by kernel_rfl)
   obtain ⟨AA3,cc3,hF,hM⟩:=hS
   refine xM 24 (v:=.tuple #[iv 0,iv 4]) hF hM (xC 75 #[.agg #[.slice A ge.length gc,iv cyc,iv per,iv sh],.slice AA3 8 cc3,iv t] hF (fun w hM=>by have:=start_w A ge gc cyc per sh AA3 (hdL Q) cc3 t w (hM.ok 1 _ rfl) hga ⟨hp1,hp2,hs1,hs2⟩ (ro_of_own (hM.ok 6 _ rfl)) hh (by omega); rw [hs] at this; exact this)) fun a w hF hM=>⟨AA3,cc3,hF.rc 12,hM.k⟩
  ·intro s0 s1 s2 s3 s4 s5 s6 s7 s8 s9 s10 s11 hc hi hp a w hS
   obtain rfl:s7=false:=hi
   obtain rfl:s6=true:=hp 6 (by kernel_rfl)
   obtain ⟨AA3,cc3,hF,hM⟩:=hS
   refine xP 17 (v0:=.tuple #[iv 0,iv 4]) (v:=.tuple #[iv 0,iv 4]) hF rfl fun a hF=>⟨AA3,cc3,hF.rc 5,hM.k⟩
  ·intro s0 s1 s2 s3 s4 s5 s6 s7 s8 s9 s10 s11 hc hi hp a w hS
   obtain rfl:s8=false:=hi
   obtain rfl:s7=true:=hp 7 (by kernel_rfl)
   obtain ⟨AA3,cc3,hF,hM⟩:=hS
   refine xP 25 (v0:=iv 0) (v:=iv 0) hF rfl fun a hF=>⟨AA3,cc3,hF.rc 13,hM.k⟩
  ·intro s0 s1 s2 s3 s4 s5 s6 s7 s8 s9 s10 s11 hc hi hp a w hS
   obtain rfl:s9=false:=hi
   obtain rfl:s7=true:=hp 7 (by kernel_rfl)
   obtain ⟨AA3,cc3,hF,hM⟩:=hS
   refine xP 26 (v0:=iv 4) (v:=iv 4) hF rfl fun a hF=>⟨AA3,cc3,hF.rc 14,hM.k⟩
  ·intro s0 s1 s2 s3 s4 s5 s6 s7 s8 s9 s10 s11 hc hi hp a w hS
   obtain rfl:s10=false:=hi
   obtain rfl:s8=true:=hp 8 (by kernel_rfl)
   obtain ⟨AA3,cc3,hF,hM⟩:=hS
   refine xP 5 (v0:=iv 0) (v:=iv 0) hF rfl fun a hF=>⟨AA3,cc3,hF.rc 3,hM.k⟩
  intro s0 s1 s2 s3 s4 s5 s6 s7 s8 s9 s10 s11 hc hi hp a w hS
  obtain rfl:s11=false:=hi
  obtain rfl:s9=true:=hp 9 (by kernel_rfl)
  obtain ⟨AA3,cc3,hF,hM⟩:=hS
  refine xP 6 (v0:=iv 4) (v:=iv 4) hF rfl fun a hF=>⟨AA3,cc3,hF.rc 4,hM.k⟩
 intro a w hS
 obtain ⟨AA3,cc3,hF,hM⟩:=hS
 replace hF:Fr 69 [(1,some (iv t)),(2,some (pt bb1 0)),(4,some (pt bb2 0)),(5,some (iv 0)),(6,some (iv 4)),(17,some (.tuple #[iv 0,iv 4])),(18,some (pt bb1 0)),(19,some (pt bb1 0)),(20,some (.agg #[.slice A ge.length gc,iv cyc,iv per,iv sh])),(21,some (.agg #[.slice A ge.length gc,iv cyc,iv per,iv sh,iv t,.slice Aq 8 gq,.bool (decide (bz=1)),iv x0,iv x1,iv x2,iv x3,iv x4,iv x5,.bool (decide (x6=1)),iv bg,iv fn,iv rs])),(22,some (.slice AA3 8 cc3)),(23,some (iv t)),(24,some (.tuple #[iv 0,iv 4])),(25,some (iv 0)),(26,some (iv 4))] a:=hF.cast (by kernel_rfl)
 replace hM:Mem w0.heap.size w0 [(1,some (.ro A (flat2 ge))),(3,some (.ro Aq (qcells 8 cap qa Q qg))),(4,some (.row bb1 95 #[.slice A ge.length gc,iv cyc,iv per,iv sh,iv t,.slice Aq 8 gq,.bool (decide (bz=1)),iv x0,iv x1,iv x2,iv x3,iv x4,iv x5,.bool (decide (x6=1)),iv bg,iv fn,iv rs])),(5,some (.row bb2 95 #[.slice none 0 0,iv 0,iv 0,iv 0,iv 0,.slice none 0 0,.bool false,iv 0,iv 0,iv 0,iv 0,iv 0,iv 0,.bool false,iv 0,iv 0,iv 0])),(6,some (.own (.slice AA3 8 cc3) 50 7 8 (flatE pE (hdL Q))))] w:=hM.cast (by kernel_rfl)
 refine hK5 _ _ (wp_seq_k fun K6 hK6=>wp_seq_k fun K7 hK7=>wp_region_lit (xB 1 [(27,iv 4)] hF fun a hF=>wl (xP 28 (v0:=.bool (!decide (4=0))) (v:=.bool true) hF (nF (by omega)) fun a hF=>wpList_nil (hK7 _ _ (xT hF (wp_seq_k fun K8 hK8=>wp_region_lit (wl (xL 29 4 0 (v:=.agg #[.slice A ge.length gc,iv cyc,iv per,iv sh,iv t,.slice Aq 8 gq,.bool (decide (bz=1)),iv x0,iv x1,iv x2,iv x3,iv x4,iv x5,.bool (decide (x6=1)),iv bg,iv fn,iv rs]) hF hM fun a w hF hM=>?_))))))))
 refine wl (xS 5 0 #[.slice A ge.length gc,iv cyc,iv per,iv sh,iv t,.slice Aq 8 gq,.bool (decide (bz=1)),iv x0,iv x1,iv x2,iv x3,iv x4,iv x5,.bool (decide (x6=1)),iv bg,iv fn,iv rs] hF hM fun w hM=>wpList_nil (hK8 _ _ (wp_ret (hR0 _ _ (ret_of hF hM (.cell (i:=5) rfl rfl (v:=.agg #[.slice A ge.length gc,iv cyc,iv per,iv sh,iv t,.slice Aq 8 gq,.bool (decide (bz=1)),iv x0,iv x1,iv x2,iv x3,iv x4,iv x5,.bool (decide (x6=1)),iv bg,iv fn,iv rs]) (by kernel_rfl) (.nil)) (⟨rfl,hM.bel⟩))))))
set_option maxHeartbeats 4000000 in
theorem ch_some (A:Option Addr) (ge:List (Int × Int)) (gc:Nat) (cyc:Int) (per sh:Int) (Sq:Nat → Prop) (Aq:Option Addr) (gq:Nat) (cap:Nat → Int) (Q:Nat → List (List Int)) (now bz x0 x1 x2 x3 x4 x5 x6 bg fn rs:Int) (c:Nat) (t:Int) (w0:World) (hA:Ro w0 A (flat2 ge)) (hq:QM Sq Aq cap Q w0) (hv:∀ c,c < 8 → qkE (cap c) (Q c)=0) (hga:gaE ge cyc=0) (hln:lnP per sh) (hh:hdP (hdL Q)) (ht:0 ≤ t ∧ t ≤ 549755813888) (hb:bz ≠ 1) (hs:stF (fun c=>mayP ge cyc per sh (hdL Q) c t) 8=some c) :
    Calls Tryz.prog 53 #[.agg #[.slice A ge.length gc,iv cyc,iv per,iv sh,iv now,.slice Aq 8 gq,.bool (decide (bz=1)),iv x0,iv x1,iv x2,iv x3,iv x4,iv x5,.bool (decide (x6=1)),iv bg,iv fn,iv rs],iv t] w0 (RetQ w0 Sq (fun s=>.agg #[.slice A ge.length gc,.int .i64 cyc,.int .i64 per,.int .i64 sh,.int .i64 t,s,.bool true,.int .i64 (rc (Q c) 0 0),.int .i64 (rc (Q c) 0 1),.int .i64 (rc (Q c) 0 2),.int .i64 (rc (Q c) 0 3),.int .i64 (rc (Q c) 0 4),.int .i64 (rc (Q c) 0 5),.bool (decide (rc (Q c) 0 6=1)),.int .i64 t,.int .i64 (t + rc (Q c) 0 5 * per),.int .i64 0]) cap (upd Q c (Q c).tail)):=by
 have hq0:=hq
 obtain ⟨qa,qg,⟨hqr,hqb⟩,hqf⟩:=hq
 have hqs:∀ c,c < 8 → QS w0 (qa c) (Q c) (qg c):=fun c hc=>(hqf c hc).1
 obtain ⟨hp1,hp2,hs1,hs2⟩:=hln
 have hgp:=(ga_p hga).2.2.1
 have hgs:=ga_pos hga
 have hc8:c < 8:=(stF_some hs).1
 have hn1:1 ≤ (Q c).length:=hd_pos hc8 (stF_some hs).2.1.1
 refine enterK 69 Tryz.func53 rfl rfl rfl ?_
 intro a hF Q0 hR0 hN0
 have hM:=Mem.start w0
 replace hM:=hM.addOld 1 hA (Nat.le_refl _)
 replace hM:=hM.addOld 3 hqr (Nat.le_refl _)
 replace hM:=hM.addQ 9 hq0
 refine wp_seq_k fun K1 hK1=>wp_region_lit (wl (xN 2 10 (t:=95) (fun b=>.pointer (some ⟨b,0,none⟩)) #[.slice A ge.length gc,iv cyc,iv per,iv sh,iv now,.slice Aq 8 gq,.bool (decide (bz=1)),iv x0,iv x1,iv x2,iv x3,iv x4,iv x5,.bool (decide (x6=1)),iv bg,iv fn,iv rs] hF hM fun bb1 a w hF hM=>wl (xN 4 11 (t:=95) (fun b=>.pointer (some ⟨b,0,none⟩)) #[.slice none 0 0,iv 0,iv 0,iv 0,iv 0,.slice none 0 0,.bool false,iv 0,iv 0,iv 0,iv 0,iv 0,iv 0,.bool false,iv 0,iv 0,iv 0] hF hM fun bb2 a w hF hM=>wpList_nil (hK1 _ _ (wp_seq_k fun K2 hK2=>wp_region_lit (xB 3 [(10,iv t),(11,pt bb1 0),(12,pt bb1 4)] hF fun a hF=>?_))))))
 refine wl (xS 10 4 #[.slice A ge.length gc,iv cyc,iv per,iv sh,iv t,.slice Aq 8 gq,.bool (decide (bz=1)),iv x0,iv x1,iv x2,iv x3,iv x4,iv x5,.bool (decide (x6=1)),iv bg,iv fn,iv rs] hF hM fun w hM=>wpList_nil (hK2 _ _ (wp_seq_k fun K3 hK3=>wp_seq_k fun K4 hK4=>wp_region_lit (xB 2 [(13,pt bb1 0),(14,pt bb1 6)] hF fun a hF=>wl (xM 15 (v:=.bool false) hF hM (Yld.to (v:=.bool (decide (bz=1))) (yld_row (i:=10) (off:=6) hF rfl (by kernel_rfl) (by kernel_rfl) rfl (by kernel_rfl)) (bF hb)) fun a w hF hM=>xB 1 [(16,.bool true)] hF fun a hF=>wpList_nil (hK4 _ _ (xT hF ?_)))))))
 refine wp_seq_k fun K5 hK5=>rF (by kernel_rfl) (by kernel_rfl) (fun S a w=>∃ AA3:Option Addr,∃ cc3:Nat,Fr 69 [(1,some (iv t)),(2,some (pt bb1 0)),(4,some (pt bb2 0)),(5,(cond (S.getD 10 false) (some (iv (c:Int))) none)),(6,(cond (S.getD 11 false) (some (iv 0)) none)),(17,(cond (S.getD 7 false) (some (.tuple #[iv (c:Int),iv 0])) none)),(18,(cond (S.getD 0 false) (some (pt bb1 0)) none)),(19,(cond (S.getD 1 false) (some (pt bb1 0)) none)),(20,(cond (S.getD 2 false) (some (.agg #[.slice A ge.length gc,iv cyc,iv per,iv sh])) none)),(21,(cond (S.getD 3 false) (some (.agg #[.slice A ge.length gc,iv cyc,iv per,iv sh,iv t,.slice Aq 8 gq,.bool (decide (bz=1)),iv x0,iv x1,iv x2,iv x3,iv x4,iv x5,.bool (decide (x6=1)),iv bg,iv fn,iv rs])) none)),(22,(cond (S.getD 4 false) (some (.slice AA3 8 cc3)) none)),(23,(cond (S.getD 5 false) (some (iv t)) none)),(24,(cond (S.getD 6 false) (some (.tuple #[iv (c:Int),iv 0])) none)),(25,(cond (S.getD 8 false) (some (iv (c:Int))) none)),(26,(cond (S.getD 9 false) (some (iv 0)) none))] a ∧ Mem w0.heap.size w0 [(1,some (.ro A (flat2 ge))),(3,some (.ro Aq (qcells 8 cap qa Q qg))),(9,some (.sep (fun b=>Sq b ∧ b < w0.heap.size) (QM (fun b=>Sq b ∧ b < w0.heap.size) Aq cap Q))),(10,some (.row bb1 95 #[.slice A ge.length gc,iv cyc,iv per,iv sh,iv t,.slice Aq 8 gq,.bool (decide (bz=1)),iv x0,iv x1,iv x2,iv x3,iv x4,iv x5,.bool (decide (x6=1)),iv bg,iv fn,iv rs])),(11,some (.row bb2 95 #[.slice none 0 0,iv 0,iv 0,iv 0,iv 0,.slice none 0 0,.bool false,iv 0,iv 0,iv 0,iv 0,iv 0,iv 0,.bool false,iv 0,iv 0,iv 0])),(12,(cond (S.getD 4 false) (some (.own (.slice AA3 8 cc3) 50 7 8 (flatE pE (hdL Q)))) none))] w) ?_ ?_ ?_
 ·exact ⟨none,0,hF.pk,hM.dk⟩
 ·refine stC ?_ (stC ?_ (stC ?_ (stC ?_ (stC ?_ (stC ?_ (stC ?_ (stC ?_ (stC ?_ (stC ?_ (stC ?_ (stC ?_ (trivial))))))))))))
  ·intro s0 s1 s2 s3 s4 s5 s6 s7 s8 s9 s10 s11 hc hi hp a w hS
   obtain rfl:s0=false:=hi
   obtain ⟨AA3,cc3,hF,hM⟩:=hS
   refine xP 18 (v0:=pt bb1 0) (v:=pt bb1 0) hF rfl fun a hF=>⟨AA3,cc3,hF.rc 6,hM.k⟩
  ·intro s0 s1 s2 s3 s4 s5 s6 s7 s8 s9 s10 s11 hc hi hp a w hS
   obtain rfl:s1=false:=hi
   obtain rfl:s0=true:=hp 0 (by kernel_rfl)
   obtain ⟨AA3,cc3,hF,hM⟩:=hS
   refine xP 19 (v0:=pt bb1 0) (v:=pt bb1 0) hF rfl fun a hF=>⟨AA3,cc3,hF.rc 7,hM.k⟩
  ·intro s0 s1 s2 s3 s4 s5 s6 s7 s8 s9 s10 s11 hc hi hp a w hS
   obtain rfl:s2=false:=hi
   obtain rfl:s1=true:=hp 1 (by kernel_rfl)
   obtain ⟨AA3,cc3,hF,hM⟩:=hS
   refine xL 20 10 0 (v:=.agg #[.slice A ge.length gc,iv cyc,iv per,iv sh]) hF hM fun a w hF hM=>⟨AA3,cc3,hF.rc 8,hM.k⟩
  ·intro s0 s1 s2 s3 s4 s5 s6 s7 s8 s9 s10 s11 hc hi hp a w hS
   obtain rfl:s3=false:=hi
   obtain ⟨AA3,cc3,hF,hM⟩:=hS
   refine xL 21 10 0 (v:=.agg #[.slice A ge.length gc,iv cyc,iv per,iv sh,iv t,.slice Aq 8 gq,.bool (decide (bz=1)),iv x0,iv x1,iv x2,iv x3,iv x4,iv x5,.bool (decide (x6=1)),iv bg,iv fn,iv rs]) hF hM fun a w hF hM=>⟨AA3,cc3,hF.rc 9,hM.k⟩
  ·intro s0 s1 s2 s3 s4 s5 s6 s7 s8 s9 s10 s11 hc hi hp a w hS
   obtain rfl:s4=false:=hi
   obtain rfl:s3=true:=hp 3 (by kernel_rfl)
   obtain ⟨AA3,cc3,hF,hM⟩:=hS
   refine sOwn 12 (f:=76) (args:=#[.agg #[.slice A ge.length gc,iv cyc,iv per,iv sh,iv t,.slice Aq 8 gq,.bool (decide (bz=1)),iv x0,iv x1,iv x2,iv x3,iv x4,iv x5,.bool (decide (x6=1)),iv bg,iv fn,iv rs]]) (mk:=(fun v=>v)) (e:=50) (size:=7) (m:=8) (xs:=(flatE pE (hdL Q))) hF hM (by kernel_rfl) rfl (by decide) (by kernel_rfl) (fun _=>by kernel_rfl) (heads_w A ge gc cyc per sh Sq Aq gq cap Q t bz x0 x1 x2 x3 x4 x5 x6 bg fn rs w (hM.ok 1 _ rfl) (hq0.below hM.bel) hv) fun AA3 cc3 a w hF hM=>⟨AA3,cc3,hF.rc 10,hM.rc 5⟩
  ·intro s0 s1 s2 s3 s4 s5 s6 s7 s8 s9 s10 s11 hc hi hp a w hS
   obtain rfl:s5=false:=hi
   obtain ⟨AA3,cc3,hF,hM⟩:=hS
   refine xP 23 (v0:=iv t) (v:=iv t) hF rfl fun a hF=>⟨AA3,cc3,hF.rc 11,hM.k⟩
  ·intro s0 s1 s2 s3 s4 s5 s6 s7 s8 s9 s10 s11 hc hi hp a w hS
   obtain rfl:s6=false:=hi
   obtain rfl:s5=true:=hp 5 (by kernel_rfl)
   obtain rfl:s4=true:=hp 4 (by kernel_rfl)
   obtain rfl:s2=true:=hp 2 (by kernel_rfl)
   obtain ⟨AA3,cc3,hF,hM⟩:=hS
   refine xM 24 (v:=.tuple #[iv (c:Int),iv 0]) hF hM (xC 75 #[.agg #[.slice A ge.length gc,iv cyc,iv per,iv sh],.slice AA3 8 cc3,iv t] hF (fun w hM=>by have:=start_w A ge gc cyc per sh AA3 (hdL Q) cc3 t w (hM.ok 1 _ rfl) hga ⟨hp1,hp2,hs1,hs2⟩ (ro_of_own (hM.ok 12 _ rfl)) hh (by omega); rw [hs] at this; exact this)) fun a w hF hM=>⟨AA3,cc3,hF.rc 12,hM.k⟩
  ·intro s0 s1 s2 s3 s4 s5 s6 s7 s8 s9 s10 s11 hc hi hp a w hS
   obtain rfl:s7=false:=hi
   obtain rfl:s6=true:=hp 6 (by kernel_rfl)
   obtain ⟨AA3,cc3,hF,hM⟩:=hS
   refine xP 17 (v0:=.tuple #[iv (c:Int),iv 0]) (v:=.tuple #[iv (c:Int),iv 0]) hF rfl fun a hF=>⟨AA3,cc3,hF.rc 5,hM.k⟩
  ·intro s0 s1 s2 s3 s4 s5 s6 s7 s8 s9 s10 s11 hc hi hp a w hS
   obtain rfl:s8=false:=hi
   obtain rfl:s7=true:=hp 7 (by kernel_rfl)
   obtain ⟨AA3,cc3,hF,hM⟩:=hS
   refine xP 25 (v0:=iv (c:Int)) (v:=iv (c:Int)) hF rfl fun a hF=>⟨AA3,cc3,hF.rc 13,hM.k⟩
  ·intro s0 s1 s2 s3 s4 s5 s6 s7 s8 s9 s10 s11 hc hi hp a w hS
   obtain rfl:s9=false:=hi
   obtain rfl:s7=true:=hp 7 (by kernel_rfl)
   obtain ⟨AA3,cc3,hF,hM⟩:=hS
   refine xP 26 (v0:=iv 0) (v:=iv 0) hF rfl fun a hF=>⟨AA3,cc3,hF.rc 14,hM.k⟩
  ·intro s0 s1 s2 s3 s4 s5 s6 s7 s8 s9 s10 s11 hc hi hp a w hS
   obtain rfl:s10=false:=hi
   obtain rfl:s8=true:=hp 8 (by kernel_rfl)
   obtain ⟨AA3,cc3,hF,hM⟩:=hS
   refine xP 5 (v0:=iv (c:Int)) (v:=iv (c:Int)) hF rfl fun a hF=>⟨AA3,cc3,hF.rc 3,hM.k⟩
  intro s0 s1 s2 s3 s4 s5 s6 s7 s8 s9 s10 s11 hc hi hp a w hS
  obtain rfl:s11=false:=hi
  obtain rfl:s9=true:=hp 9 (by kernel_rfl)
  obtain ⟨AA3,cc3,hF,hM⟩:=hS
  refine xP 6 (v0:=iv 0) (v:=iv 0) hF rfl fun a hF=>⟨AA3,cc3,hF.rc 4,hM.k⟩
 intro a w hS
 obtain ⟨AA3,cc3,hF,hM⟩:=hS
 replace hF:Fr 69 [(1,some (iv t)),(2,some (pt bb1 0)),(4,some (pt bb2 0)),(5,some (iv (c:Int))),(6,some (iv 0)),(17,some (.tuple #[iv (c:Int),iv 0])),(18,some (pt bb1 0)),(19,some (pt bb1 0)),(20,some (.agg #[.slice A ge.length gc,iv cyc,iv per,iv sh])),(21,some (.agg #[.slice A ge.length gc,iv cyc,iv per,iv sh,iv t,.slice Aq 8 gq,.bool (decide (bz=1)),iv x0,iv x1,iv x2,iv x3,iv x4,iv x5,.bool (decide (x6=1)),iv bg,iv fn,iv rs])),(22,some (.slice AA3 8 cc3)),(23,some (iv t)),(24,some (.tuple #[iv (c:Int),iv 0])),(25,some (iv (c:Int))),(26,some (iv 0))] a:=hF.cast (by kernel_rfl)
 replace hM:Mem w0.heap.size w0 [(1,some (.ro A (flat2 ge))),(3,some (.ro Aq (qcells 8 cap qa Q qg))),(9,some (.sep (fun b=>Sq b ∧ b < w0.heap.size) (QM (fun b=>Sq b ∧ b < w0.heap.size) Aq cap Q))),(10,some (.row bb1 95 #[.slice A ge.length gc,iv cyc,iv per,iv sh,iv t,.slice Aq 8 gq,.bool (decide (bz=1)),iv x0,iv x1,iv x2,iv x3,iv x4,iv x5,.bool (decide (x6=1)),iv bg,iv fn,iv rs])),(11,some (.row bb2 95 #[.slice none 0 0,iv 0,iv 0,iv 0,iv 0,.slice none 0 0,.bool false,iv 0,iv 0,iv 0,iv 0,iv 0,iv 0,.bool false,iv 0,iv 0,iv 0])),(12,some (.own (.slice AA3 8 cc3) 50 7 8 (flatE pE (hdL Q))))] w:=hM.cast (by kernel_rfl)
 refine hK5 _ _ (wp_seq_k fun K6 hK6=>wp_seq_k fun K7 hK7=>wp_region_lit (xB 1 [(27,iv 0)] hF fun a hF=>wl (xP 28 (v0:=.bool (!decide (0=0))) (v:=.bool false) hF (nT (by omega)) fun a hF=>wpList_nil (hK7 _ _ (xF hF (wp_skip (hK6 _ _ (wp_seq_k fun K8 hK8=>?_))))))))
 refine wp_region_lit (wl (xL 30 10 0 (v:=.agg #[.slice A ge.length gc,iv cyc,iv per,iv sh,iv t,.slice Aq 8 gq,.bool (decide (bz=1)),iv x0,iv x1,iv x2,iv x3,iv x4,iv x5,.bool (decide (x6=1)),iv bg,iv fn,iv rs]) hF hM fun a w hF hM=>xB 2 [(31,iv (c:Int)),(32,iv t)] hF fun a hF=>wl (sQ 9 (f:=77) (args:=#[.agg #[.slice A ge.length gc,iv cyc,iv per,iv sh,iv t,.slice Aq 8 gq,.bool (decide (bz=1)),iv x0,iv x1,iv x2,iv x3,iv x4,iv x5,.bool (decide (x6=1)),iv bg,iv fn,iv rs],iv (c:Int),iv t]) (mk:=(fun s=>.agg #[.slice A ge.length gc,.int .i64 cyc,.int .i64 per,.int .i64 sh,.int .i64 t,s,.bool true,.int .i64 (rc (Q c) 0 0),.int .i64 (rc (Q c) 0 1),.int .i64 (rc (Q c) 0 2),.int .i64 (rc (Q c) 0 3),.int .i64 (rc (Q c) 0 4),.int .i64 (rc (Q c) 0 5),.bool (decide (rc (Q c) 0 6=1)),.int .i64 t,.int .i64 (t + rc (Q c) 0 5 * per),.int .i64 0])) (cap':=cap) (Q':=(upd Q c (Q c).tail)) hF hM rfl (by kernel_rfl) rfl (by decide) (by kernel_rfl) (fun _=>by kernel_rfl) (startE_w A ge gc cyc per sh _ Aq gq cap Q t bz x0 x1 x2 x3 x4 x5 x6 bg fn rs c t w (hM.ok 1 _ rfl) (hM.ok 9 _ rfl).1 hv hc8 hn1 ⟨hp1,hp2,hs1,hs2⟩ (by omega)) fun AA4 cc4 SS4 a w hSS4 hF hM=>wl (xS 11 0 #[.slice A ge.length gc,iv cyc,iv per,iv sh,iv t,.slice AA4 8 cc4,.bool true,iv (rc (Q c) 0 0),iv (rc (Q c) 0 1),iv (rc (Q c) 0 2),iv (rc (Q c) 0 3),iv (rc (Q c) 0 4),iv (rc (Q c) 0 5),.bool (decide (rc (Q c) 0 6=1)),iv t,iv (t + rc (Q c) 0 5 * per),iv 0] hF hM fun w hM=>wpList_nil (hK8 _ _ (wp_ret (hR0 _ _ ?_)))))))
 refine ret_of hF hM (.cell (i:=11) rfl rfl (v:=.agg #[.slice A ge.length gc,iv cyc,iv per,iv sh,iv t,.slice AA4 8 cc4,.bool true,iv (rc (Q c) 0 0),iv (rc (Q c) 0 1),iv (rc (Q c) 0 2),iv (rc (Q c) 0 3),iv (rc (Q c) 0 4),iv (rc (Q c) 0 5),.bool (decide (rc (Q c) 0 6=1)),iv t,iv (t + rc (Q c) 0 5 * per),iv 0]) (by kernel_rfl) (.nil)) (⟨_,_,rfl,QM.mono (hM.ok 9 _ rfl).1 fun b _ hb=>(hSS4 b hb).imp And.left id,hM.bel⟩)
set_option maxHeartbeats 4000000 in
theorem ch_pre (A:Option Addr) (ge:List (Int × Int)) (gc:Nat) (cyc:Int) (per sh:Int) (Sq:Nat → Prop) (Aq:Option Addr) (gq:Nat) (cap:Nat → Int) (Q:Nat → List (List Int)) (now bz x0 x1 x2 x3 x4 x5 x6 bg fn rs:Int) (t:Int) (w0:World) (hA:Ro w0 A (flat2 ge)) (hq:QM Sq Aq cap Q w0) (hv:∀ c,c < 8 → qkE (cap c) (Q c)=0) (hga:gaE ge cyc=0) (hln:lnP per sh) (hh:hdP (hdL Q)) (ht:0 ≤ t ∧ t ≤ 549755813888) (hb:bz=1) (hoc:rs=0 → (84 ≤ x5 ∧ x5 ≤ 1542) ∧ 0 ≤ bg ∧ bg ≤ t ∧ t ≤ bg + x5 * per) (hpc:(x2 < 6 ∧ rs=0 ∧ prP ge cyc per sh (hdL Q) x5 bg t)) :
    Calls Tryz.prog 53 #[.agg #[.slice A ge.length gc,iv cyc,iv per,iv sh,iv now,.slice Aq 8 gq,.bool (decide (bz=1)),iv x0,iv x1,iv x2,iv x3,iv x4,iv x5,.bool (decide (x6=1)),iv bg,iv fn,iv rs],iv t] w0 (Ret w0 (.agg #[.slice A ge.length gc,.int .i64 cyc,.int .i64 per,.int .i64 sh,.int .i64 t,.slice Aq 8 gq,.bool (decide (bz=1)),.int .i64 x0,.int .i64 x1,.int .i64 x2,.int .i64 x3,.int .i64 x4,.int .i64 x5,.bool (decide (x6=1)),.int .i64 bg,.int .i64 (prE per bg t),.int .i64 (x5 - prK per bg t + 24)])):=by
 have hq0:=hq
 obtain ⟨qa,qg,⟨hqr,hqb⟩,hqf⟩:=hq
 have hqs:∀ c,c < 8 → QS w0 (qa c) (Q c) (qg c):=fun c hc=>(hqf c hc).1
 obtain ⟨hp1,hp2,hs1,hs2⟩:=hln
 have hgp:=(ga_p hga).2.2.1
 have hgs:=ga_pos hga
 have hxc:=hoc hpc.2.1
 have hpx:=hpc.1
 have hpr:=hpc.2.1
 refine enterK 69 Tryz.func53 rfl rfl rfl ?_
 intro a hF Q0 hR0 hN0
 have hM:=Mem.start w0
 replace hM:=hM.addOld 1 hA (Nat.le_refl _)
 replace hM:=hM.addOld 3 hqr (Nat.le_refl _)
 refine wp_seq_k fun K1 hK1=>wp_region_lit (wl (xN 2 4 (t:=95) (fun b=>.pointer (some ⟨b,0,none⟩)) #[.slice A ge.length gc,iv cyc,iv per,iv sh,iv now,.slice Aq 8 gq,.bool (decide (bz=1)),iv x0,iv x1,iv x2,iv x3,iv x4,iv x5,.bool (decide (x6=1)),iv bg,iv fn,iv rs] hF hM fun bb1 a w hF hM=>wl (xN 4 5 (t:=95) (fun b=>.pointer (some ⟨b,0,none⟩)) #[.slice none 0 0,iv 0,iv 0,iv 0,iv 0,.slice none 0 0,.bool false,iv 0,iv 0,iv 0,iv 0,iv 0,iv 0,.bool false,iv 0,iv 0,iv 0] hF hM fun bb2 a w hF hM=>wpList_nil (hK1 _ _ (wp_seq_k fun K2 hK2=>wp_region_lit (xB 3 [(10,iv t),(11,pt bb1 0),(12,pt bb1 4)] hF fun a hF=>?_))))))
 refine wl (xS 4 4 #[.slice A ge.length gc,iv cyc,iv per,iv sh,iv t,.slice Aq 8 gq,.bool (decide (bz=1)),iv x0,iv x1,iv x2,iv x3,iv x4,iv x5,.bool (decide (x6=1)),iv bg,iv fn,iv rs] hF hM fun w hM=>wpList_nil (hK2 _ _ (wp_seq_k fun K3 hK3=>wp_seq_k fun K4 hK4=>wp_region_lit (xB 2 [(13,pt bb1 0),(14,pt bb1 6)] hF fun a hF=>wl (xM 15 (v:=.bool true) hF hM (Yld.to (v:=.bool (decide (bz=1))) (yld_row (i:=4) (off:=6) hF rfl (by kernel_rfl) (by kernel_rfl) rfl (by kernel_rfl)) (bT hb)) fun a w hF hM=>xB 1 [(16,.bool false)] hF fun a hF=>wpList_nil (hK4 _ _ (xF hF ?_)))))))
 refine wp_skip (hK3 _ _ (wp_seq_k fun K5 hK5=>wp_seq_k fun K6 hK6=>wp_region_lit (wl (xL 34 4 0 (v:=.agg #[.slice A ge.length gc,iv cyc,iv per,iv sh,iv t,.slice Aq 8 gq,.bool (decide (bz=1)),iv x0,iv x1,iv x2,iv x3,iv x4,iv x5,.bool (decide (x6=1)),iv bg,iv fn,iv rs]) hF hM fun a w hF hM=>wl (sC (f:=68) (args:=#[.agg #[.slice A ge.length gc,iv cyc,iv per,iv sh,iv t,.slice Aq 8 gq,.bool (decide (bz=1)),iv x0,iv x1,iv x2,iv x3,iv x4,iv x5,.bool (decide (x6=1)),iv bg,iv fn,iv rs]]) hF (by kernel_rfl) rfl (by decide) (by kernel_rfl) (fun _=>by kernel_rfl) (enterK 14 Tryz.func68 rfl rfl rfl ?_))))))
 intro a1 hF1 QR7 hR7 hNR7
 refine wp_seq_k fun K8 hK8=>wp_region_lit (wl (xN 1 6 (t:=95) (fun b=>.pointer (some ⟨b,0,none⟩)) #[.slice A ge.length gc,iv cyc,iv per,iv sh,iv t,.slice Aq 8 gq,.bool (decide (bz=1)),iv x0,iv x1,iv x2,iv x3,iv x4,iv x5,.bool (decide (x6=1)),iv bg,iv fn,iv rs] hF1 hM fun bb3 a1 w hF1 hM=>xB 1 [(2,.bool false)] hF1 fun a1 hF1=>wpList_nil (hK8 _ _ (wp_seq_k fun K9 hK9=>wp_region_lit (xB 2 [(3,pt bb3 0),(4,pt bb3 6)] hF1 fun a1 hF1=>wl (xM 5 (v:=.bool true) hF1 hM (Yld.to (v:=.bool (decide (bz=1))) (yld_row (i:=6) (off:=6) hF1 rfl (by kernel_rfl) (by kernel_rfl) rfl (by kernel_rfl)) (bT hb)) fun a1 w hF1 hM=>xB 5 [(6,.bool true),(7,pt bb3 0),(8,pt bb3 7),(9,pt bb3 7),(10,pt bb3 9)] hF1 fun a1 hF1=>wl (xL 11 6 9 (v:=iv x2) hF1 hM fun a1 w hF1 hM=>?_)))))))
 refine wl (xP 12 (v0:=.bool (decide (x2 < 6))) (v:=.bool true) hF1 (bT (by omega)) fun a1 hF1=>xB 2 [(13,.bool true),(2,.bool true)] hF1 fun a1 hF1=>wpList_nil (hK9 _ _ (wp_ret (hR7 _ _ (ret_of hF1 hM (.tmp rfl (.nil)) ⟨_,rfl,?_⟩)))))
 intro a hF
 refine xB 3 [(36,.bool true),(37,pt bb1 0),(38,pt bb1 16)] hF fun a hF=>wl (xL 39 4 16 (v:=iv rs) hF hM fun a w hF hM=>wl (xP 40 (v0:=.bool (decide (rs=0))) (v:=.bool true) hF (bT (by omega)) fun a hF=>xB 1 [(41,.bool true)] hF fun a hF=>wpList_nil (hK6 _ _ (xT hF (wp_seq_k fun K10 hK10=>?_)))))
 refine rF (by kernel_rfl) (by kernel_rfl) (fun S a w=>∃ AA4:Option Addr,∃ cc4:Nat,Fr 69 [(1,some (iv t)),(2,some (pt bb1 0)),(4,some (pt bb2 0)),(7,(cond (S.getD 18 false) (some (iv (prE per bg t))) none)),(8,(cond (S.getD 19 false) (some (iv (x5 - prK per bg t + 24))) none)),(9,(cond (S.getD 20 false) (some (iv 0)) none)),(42,(cond (S.getD 14 false) (some (.tuple #[iv (prE per bg t),iv (x5 - prK per bg t + 24),iv 0])) none)),(43,(cond (S.getD 0 false) (some (pt bb1 0)) none)),(44,(cond (S.getD 1 false) (some (pt bb1 0)) none)),(45,(cond (S.getD 2 false) (some (.agg #[.slice A ge.length gc,iv cyc,iv per,iv sh])) none)),(46,(cond (S.getD 3 false) (some (.agg #[.slice A ge.length gc,iv cyc,iv per,iv sh,iv t,.slice Aq 8 gq,.bool (decide (bz=1)),iv x0,iv x1,iv x2,iv x3,iv x4,iv x5,.bool (decide (x6=1)),iv bg,iv fn,iv rs])) none)),(47,(cond (S.getD 4 false) (some (.slice AA4 8 cc4)) none)),(48,(cond (S.getD 5 false) (some (pt bb1 0)) none)),(49,(cond (S.getD 6 false) (some (pt bb1 7)) none)),(50,(cond (S.getD 7 false) (some (pt bb1 12)) none)),(51,(cond (S.getD 8 false) (some (iv x5)) none)),(52,(cond (S.getD 9 false) (some (pt bb1 0)) none)),(53,(cond (S.getD 10 false) (some (pt bb1 14)) none)),(54,(cond (S.getD 11 false) (some (iv bg)) none)),(55,(cond (S.getD 12 false) (some (iv t)) none)),(56,(cond (S.getD 13 false) (some (.tuple #[iv (prE per bg t),iv (x5 - prK per bg t + 24),iv 0])) none)),(57,(cond (S.getD 15 false) (some (iv (prE per bg t))) none)),(58,(cond (S.getD 16 false) (some (iv (x5 - prK per bg t + 24))) none)),(59,(cond (S.getD 17 false) (some (iv 0)) none))] a ∧ Mem w0.heap.size w0 [(1,some (.ro A (flat2 ge))),(3,some (.ro Aq (qcells 8 cap qa Q qg))),(4,some (.row bb1 95 #[.slice A ge.length gc,iv cyc,iv per,iv sh,iv t,.slice Aq 8 gq,.bool (decide (bz=1)),iv x0,iv x1,iv x2,iv x3,iv x4,iv x5,.bool (decide (x6=1)),iv bg,iv fn,iv rs])),(5,some (.row bb2 95 #[.slice none 0 0,iv 0,iv 0,iv 0,iv 0,.slice none 0 0,.bool false,iv 0,iv 0,iv 0,iv 0,iv 0,iv 0,.bool false,iv 0,iv 0,iv 0])),(7,(cond (S.getD 4 false) (some (.own (.slice AA4 8 cc4) 50 7 8 (flatE pE (hdL Q)))) none))] w) ?_ ?_ ?_
 ·exact ⟨none,0,hF.pk,hM.dk⟩
 ·refine stC ?_ (stC ?_ (stC ?_ (stC ?_ (stC ?_ (stC ?_ (stC ?_ (stC ?_ (stC ?_ (stC ?_ (stC ?_ (stC ?_ (stC ?_ (stC ?_ (stC ?_ (stC ?_ (stC ?_ (stC ?_ (stC ?_ (stC ?_ (stC ?_ (trivial)))))))))))))))))))))
  ·intro s0 s1 s2 s3 s4 s5 s6 s7 s8 s9 s10 s11 s12 s13 s14 s15 s16 s17 s18 s19 s20 hc hi hp a w hS
   obtain rfl:s0=false:=hi
   obtain ⟨AA4,cc4,hF,hM⟩:=hS
   refine xP 43 (v0:=pt bb1 0) (v:=pt bb1 0) hF rfl fun a hF=>⟨AA4,cc4,hF.rc 7,hM.k⟩
  ·intro s0 s1 s2 s3 s4 s5 s6 s7 s8 s9 s10 s11 s12 s13 s14 s15 s16 s17 s18 s19 s20 hc hi hp a w hS
   obtain rfl:s1=false:=hi
   obtain rfl:s0=true:=hp 0 (by kernel_rfl)
   obtain ⟨AA4,cc4,hF,hM⟩:=hS
   refine xP 44 (v0:=pt bb1 0) (v:=pt bb1 0) hF rfl fun a hF=>⟨AA4,cc4,hF.rc 8,hM.k⟩
  ·intro s0 s1 s2 s3 s4 s5 s6 s7 s8 s9 s10 s11 s12 s13 s14 s15 s16 s17 s18 s19 s20 hc hi hp a w hS
   obtain rfl:s2=false:=hi
   obtain rfl:s1=true:=hp 1 (by kernel_rfl)
   obtain ⟨AA4,cc4,hF,hM⟩:=hS
   refine xL 45 4 0 (v:=.agg #[.slice A ge.length gc,iv cyc,iv per,iv sh]) hF hM fun a w hF hM=>⟨AA4,cc4,hF.rc 9,hM.k⟩
  ·intro s0 s1 s2 s3 s4 s5 s6 s7 s8 s9 s10 s11 s12 s13 s14 s15 s16 s17 s18 s19 s20 hc hi hp a w hS
   obtain rfl:s3=false:=hi
   obtain ⟨AA4,cc4,hF,hM⟩:=hS
   refine xL 46 4 0 (v:=.agg #[.slice A ge.length gc,iv cyc,iv per,iv sh,iv t,.slice Aq 8 gq,.bool (decide (bz=1)),iv x0,iv x1,iv x2,iv x3,iv x4,iv x5,.bool (decide (x6=1)),iv bg,iv fn,iv rs]) hF hM fun a w hF hM=>⟨AA4,cc4,hF.rc 10,hM.k⟩
  ·intro s0 s1 s2 s3 s4 s5 s6 s7 s8 s9 s10 s11 s12 s13 s14 s15 s16 s17 s18 s19 s20 hc hi hp a w hS
   obtain rfl:s4=false:=hi
   obtain rfl:s3=true:=hp 3 (by kernel_rfl)
   obtain ⟨AA4,cc4,hF,hM⟩:=hS
   refine sOwn 7 (f:=76) (args:=#[.agg #[.slice A ge.length gc,iv cyc,iv per,iv sh,iv t,.slice Aq 8 gq,.bool (decide (bz=1)),iv x0,iv x1,iv x2,iv x3,iv x4,iv x5,.bool (decide (x6=1)),iv bg,iv fn,iv rs]]) (mk:=(fun v=>v)) (e:=50) (size:=7) (m:=8) (xs:=(flatE pE (hdL Q))) hF hM (by kernel_rfl) rfl (by decide) (by kernel_rfl) (fun _=>by kernel_rfl) (heads_w A ge gc cyc per sh Sq Aq gq cap Q t bz x0 x1 x2 x3 x4 x5 x6 bg fn rs w (hM.ok 1 _ rfl) (hq0.below hM.bel) hv) fun AA4 cc4 a w hF hM=>⟨AA4,cc4,hF.rc 11,hM.rc 4⟩
  ·intro s0 s1 s2 s3 s4 s5 s6 s7 s8 s9 s10 s11 s12 s13 s14 s15 s16 s17 s18 s19 s20 hc hi hp a w hS
   obtain rfl:s5=false:=hi
   obtain ⟨AA4,cc4,hF,hM⟩:=hS
   refine xP 48 (v0:=pt bb1 0) (v:=pt bb1 0) hF rfl fun a hF=>⟨AA4,cc4,hF.rc 12,hM.k⟩
  ·intro s0 s1 s2 s3 s4 s5 s6 s7 s8 s9 s10 s11 s12 s13 s14 s15 s16 s17 s18 s19 s20 hc hi hp a w hS
   obtain rfl:s6=false:=hi
   obtain rfl:s5=true:=hp 5 (by kernel_rfl)
   obtain ⟨AA4,cc4,hF,hM⟩:=hS
   refine xP 49 (v0:=pt bb1 7) (v:=pt bb1 7) hF rfl fun a hF=>⟨AA4,cc4,hF.rc 13,hM.k⟩
  ·intro s0 s1 s2 s3 s4 s5 s6 s7 s8 s9 s10 s11 s12 s13 s14 s15 s16 s17 s18 s19 s20 hc hi hp a w hS
   obtain rfl:s7=false:=hi
   obtain rfl:s6=true:=hp 6 (by kernel_rfl)
   obtain ⟨AA4,cc4,hF,hM⟩:=hS
   refine xP 50 (v0:=pt bb1 12) (v:=pt bb1 12) hF rfl fun a hF=>⟨AA4,cc4,hF.rc 14,hM.k⟩
  ·intro s0 s1 s2 s3 s4 s5 s6 s7 s8 s9 s10 s11 s12 s13 s14 s15 s16 s17 s18 s19 s20 hc hi hp a w hS
   obtain rfl:s8=false:=hi
   obtain rfl:s7=true:=hp 7 (by kernel_rfl)
   obtain ⟨AA4,cc4,hF,hM⟩:=hS
   refine xL 51 4 12 (v:=iv x5) hF hM fun a w hF hM=>⟨AA4,cc4,hF.rc 15,hM.k⟩
  ·intro s0 s1 s2 s3 s4 s5 s6 s7 s8 s9 s10 s11 s12 s13 s14 s15 s16 s17 s18 s19 s20 hc hi hp a w hS
   obtain rfl:s9=false:=hi
   obtain ⟨AA4,cc4,hF,hM⟩:=hS
   refine xP 52 (v0:=pt bb1 0) (v:=pt bb1 0) hF rfl fun a hF=>⟨AA4,cc4,hF.rc 16,hM.k⟩
  ·intro s0 s1 s2 s3 s4 s5 s6 s7 s8 s9 s10 s11 s12 s13 s14 s15 s16 s17 s18 s19 s20 hc hi hp a w hS
   obtain rfl:s10=false:=hi
   obtain rfl:s9=true:=hp 9 (by kernel_rfl)
   obtain ⟨AA4,cc4,hF,hM⟩:=hS
   refine xP 53 (v0:=pt bb1 14) (v:=pt bb1 14) hF rfl fun a hF=>⟨AA4,cc4,hF.rc 17,hM.k⟩
  ·intro s0 s1 s2 s3 s4 s5 s6 s7 s8 s9 s10 s11 s12 s13 s14 s15 s16 s17 s18 s19 s20 hc hi hp a w hS
   obtain rfl:s11=false:=hi
   obtain rfl:s10=true:=hp 10 (by kernel_rfl)
   obtain ⟨AA4,cc4,hF,hM⟩:=hS
   refine xL 54 4 14 (v:=iv bg) hF hM fun a w hF hM=>⟨AA4,cc4,hF.rc 18,hM.k⟩
  ·intro s0 s1 s2 s3 s4 s5 s6 s7 s8 s9 s10 s11 s12 s13 s14 s15 s16 s17 s18 s19 s20 hc hi hp a w hS
   obtain rfl:s12=false:=hi
   obtain ⟨AA4,cc4,hF,hM⟩:=hS
   refine xP 55 (v0:=iv t) (v:=iv t) hF rfl fun a hF=>⟨AA4,cc4,hF.rc 19,hM.k⟩
  ·intro s0 s1 s2 s3 s4 s5 s6 s7 s8 s9 s10 s11 s12 s13 s14 s15 s16 s17 s18 s19 s20 hc hi hp a w hS
   obtain rfl:s13=false:=hi
   obtain rfl:s12=true:=hp 12 (by kernel_rfl)
   obtain rfl:s11=true:=hp 11 (by kernel_rfl)
   obtain rfl:s8=true:=hp 8 (by kernel_rfl)
   obtain rfl:s4=true:=hp 4 (by kernel_rfl)
   obtain rfl:s2=true:=hp 2 (by kernel_rfl)
   obtain ⟨AA4,cc4,hF,hM⟩:=hS
   refine xM 56 (v:=.tuple #[iv (prE per bg t),iv (x5 - prK per bg t + 24),iv 0]) hF hM (xC 78 #[.agg #[.slice A ge.length gc,iv cyc,iv per,iv sh],.slice AA4 8 cc4,iv x5,iv bg,iv t] hF (fun w hM=>by have:=preempt_w A ge gc cyc per sh AA4 (hdL Q) cc4 x5 bg t w (hM.ok 1 _ rfl) hga ⟨hp1,hp2,hs1,hs2⟩ (ro_of_own (hM.ok 7 _ rfl)) hh (by omega) (by omega) (by omega); rw [if_pos hpc.2.2,if_pos hpc.2.2,if_pos hpc.2.2] at this; exact this)) fun a w hF hM=>⟨AA4,cc4,hF.rc 20,hM.k⟩
  ·intro s0 s1 s2 s3 s4 s5 s6 s7 s8 s9 s10 s11 s12 s13 s14 s15 s16 s17 s18 s19 s20 hc hi hp a w hS
   obtain rfl:s14=false:=hi
   obtain rfl:s13=true:=hp 13 (by kernel_rfl)
   obtain ⟨AA4,cc4,hF,hM⟩:=hS
   refine xP 42 (v0:=.tuple #[iv (prE per bg t),iv (x5 - prK per bg t + 24),iv 0]) (v:=.tuple #[iv (prE per bg t),iv (x5 - prK per bg t + 24),iv 0]) hF rfl fun a hF=>⟨AA4,cc4,hF.rc 6,hM.k⟩
  ·intro s0 s1 s2 s3 s4 s5 s6 s7 s8 s9 s10 s11 s12 s13 s14 s15 s16 s17 s18 s19 s20 hc hi hp a w hS
   obtain rfl:s15=false:=hi
   obtain rfl:s14=true:=hp 14 (by kernel_rfl)
   obtain ⟨AA4,cc4,hF,hM⟩:=hS
   refine xP 57 (v0:=iv (prE per bg t)) (v:=iv (prE per bg t)) hF rfl fun a hF=>⟨AA4,cc4,hF.rc 21,hM.k⟩
  ·intro s0 s1 s2 s3 s4 s5 s6 s7 s8 s9 s10 s11 s12 s13 s14 s15 s16 s17 s18 s19 s20 hc hi hp a w hS
   obtain rfl:s16=false:=hi
   obtain rfl:s14=true:=hp 14 (by kernel_rfl)
   obtain ⟨AA4,cc4,hF,hM⟩:=hS
   refine xP 58 (v0:=iv (x5 - prK per bg t + 24)) (v:=iv (x5 - prK per bg t + 24)) hF rfl fun a hF=>⟨AA4,cc4,hF.rc 22,hM.k⟩
  ·intro s0 s1 s2 s3 s4 s5 s6 s7 s8 s9 s10 s11 s12 s13 s14 s15 s16 s17 s18 s19 s20 hc hi hp a w hS
   obtain rfl:s17=false:=hi
   obtain rfl:s14=true:=hp 14 (by kernel_rfl)
   obtain ⟨AA4,cc4,hF,hM⟩:=hS
   refine xP 59 (v0:=iv 0) (v:=iv 0) hF rfl fun a hF=>⟨AA4,cc4,hF.rc 23,hM.k⟩
  ·intro s0 s1 s2 s3 s4 s5 s6 s7 s8 s9 s10 s11 s12 s13 s14 s15 s16 s17 s18 s19 s20 hc hi hp a w hS
   obtain rfl:s18=false:=hi
   obtain rfl:s15=true:=hp 15 (by kernel_rfl)
   obtain ⟨AA4,cc4,hF,hM⟩:=hS
   refine xP 7 (v0:=iv (prE per bg t)) (v:=iv (prE per bg t)) hF rfl fun a hF=>⟨AA4,cc4,hF.rc 3,hM.k⟩
  ·intro s0 s1 s2 s3 s4 s5 s6 s7 s8 s9 s10 s11 s12 s13 s14 s15 s16 s17 s18 s19 s20 hc hi hp a w hS
   obtain rfl:s19=false:=hi
   obtain rfl:s16=true:=hp 16 (by kernel_rfl)
   obtain ⟨AA4,cc4,hF,hM⟩:=hS
   refine xP 8 (v0:=iv (x5 - prK per bg t + 24)) (v:=iv (x5 - prK per bg t + 24)) hF rfl fun a hF=>⟨AA4,cc4,hF.rc 4,hM.k⟩
  intro s0 s1 s2 s3 s4 s5 s6 s7 s8 s9 s10 s11 s12 s13 s14 s15 s16 s17 s18 s19 s20 hc hi hp a w hS
  obtain rfl:s20=false:=hi
  obtain rfl:s17=true:=hp 17 (by kernel_rfl)
  obtain ⟨AA4,cc4,hF,hM⟩:=hS
  refine xP 9 (v0:=iv 0) (v:=iv 0) hF rfl fun a hF=>⟨AA4,cc4,hF.rc 5,hM.k⟩
 intro a w hS
 obtain ⟨AA4,cc4,hF,hM⟩:=hS
 replace hF:Fr 69 [(1,some (iv t)),(2,some (pt bb1 0)),(4,some (pt bb2 0)),(7,some (iv (prE per bg t))),(8,some (iv (x5 - prK per bg t + 24))),(9,some (iv 0)),(42,some (.tuple #[iv (prE per bg t),iv (x5 - prK per bg t + 24),iv 0])),(43,some (pt bb1 0)),(44,some (pt bb1 0)),(45,some (.agg #[.slice A ge.length gc,iv cyc,iv per,iv sh])),(46,some (.agg #[.slice A ge.length gc,iv cyc,iv per,iv sh,iv t,.slice Aq 8 gq,.bool (decide (bz=1)),iv x0,iv x1,iv x2,iv x3,iv x4,iv x5,.bool (decide (x6=1)),iv bg,iv fn,iv rs])),(47,some (.slice AA4 8 cc4)),(48,some (pt bb1 0)),(49,some (pt bb1 7)),(50,some (pt bb1 12)),(51,some (iv x5)),(52,some (pt bb1 0)),(53,some (pt bb1 14)),(54,some (iv bg)),(55,some (iv t)),(56,some (.tuple #[iv (prE per bg t),iv (x5 - prK per bg t + 24),iv 0])),(57,some (iv (prE per bg t))),(58,some (iv (x5 - prK per bg t + 24))),(59,some (iv 0))] a:=hF.cast (by kernel_rfl)
 replace hM:Mem w0.heap.size w0 [(1,some (.ro A (flat2 ge))),(3,some (.ro Aq (qcells 8 cap qa Q qg))),(4,some (.row bb1 95 #[.slice A ge.length gc,iv cyc,iv per,iv sh,iv t,.slice Aq 8 gq,.bool (decide (bz=1)),iv x0,iv x1,iv x2,iv x3,iv x4,iv x5,.bool (decide (x6=1)),iv bg,iv fn,iv rs])),(5,some (.row bb2 95 #[.slice none 0 0,iv 0,iv 0,iv 0,iv 0,.slice none 0 0,.bool false,iv 0,iv 0,iv 0,iv 0,iv 0,iv 0,.bool false,iv 0,iv 0,iv 0])),(7,some (.own (.slice AA4 8 cc4) 50 7 8 (flatE pE (hdL Q))))] w:=hM.cast (by kernel_rfl)
 refine hK10 _ _ (wp_seq_k fun K11 hK11=>wp_region_lit (xB 1 [(60,iv 0)] hF fun a hF=>wl (xP 61 (v0:=.bool (decide (0=0))) (v:=.bool true) hF (bT (by omega)) fun a hF=>wpList_nil (hK11 _ _ (xT hF (wp_region_lit (xB 4 [(62,iv (prE per bg t)),(63,iv (x5 - prK per bg t + 24)),(64,pt bb1 0),(65,pt bb1 15)] hF fun a hF=>wl (xS 4 15 #[.slice A ge.length gc,iv cyc,iv per,iv sh,iv t,.slice Aq 8 gq,.bool (decide (bz=1)),iv x0,iv x1,iv x2,iv x3,iv x4,iv x5,.bool (decide (x6=1)),iv bg,iv (prE per bg t),iv rs] hF hM fun w hM=>xB 2 [(66,pt bb1 0),(67,pt bb1 16)] hF fun a hF=>?_))))))))
 refine wl (xS 4 16 #[.slice A ge.length gc,iv cyc,iv per,iv sh,iv t,.slice Aq 8 gq,.bool (decide (bz=1)),iv x0,iv x1,iv x2,iv x3,iv x4,iv x5,.bool (decide (x6=1)),iv bg,iv (prE per bg t),iv (x5 - prK per bg t + 24)] hF hM fun w hM=>wpList_nil (hK5 _ _ (wp_seq_k fun K12 hK12=>wp_region_lit (wl (xL 68 4 0 (v:=.agg #[.slice A ge.length gc,iv cyc,iv per,iv sh,iv t,.slice Aq 8 gq,.bool (decide (bz=1)),iv x0,iv x1,iv x2,iv x3,iv x4,iv x5,.bool (decide (x6=1)),iv bg,iv (prE per bg t),iv (x5 - prK per bg t + 24)]) hF hM fun a w hF hM=>wl (xS 5 0 #[.slice A ge.length gc,iv cyc,iv per,iv sh,iv t,.slice Aq 8 gq,.bool (decide (bz=1)),iv x0,iv x1,iv x2,iv x3,iv x4,iv x5,.bool (decide (x6=1)),iv bg,iv (prE per bg t),iv (x5 - prK per bg t + 24)] hF hM fun w hM=>wpList_nil (hK12 _ _ (wp_ret (hR0 _ _ (ret_of hF hM (.cell (i:=5) rfl rfl (v:=.agg #[.slice A ge.length gc,iv cyc,iv per,iv sh,iv t,.slice Aq 8 gq,.bool (decide (bz=1)),iv x0,iv x1,iv x2,iv x3,iv x4,iv x5,.bool (decide (x6=1)),iv bg,iv (prE per bg t),iv (x5 - prK per bg t + 24)]) (by kernel_rfl) (.nil)) ?_))))))))))
 exact ⟨rfl,hM.bel⟩
set_option maxHeartbeats 4000000 in
theorem ch_keep (A:Option Addr) (ge:List (Int × Int)) (gc:Nat) (cyc:Int) (per sh:Int) (Sq:Nat → Prop) (Aq:Option Addr) (gq:Nat) (cap:Nat → Int) (Q:Nat → List (List Int)) (now bz x0 x1 x2 x3 x4 x5 x6 bg fn rs:Int) (t:Int) (w0:World) (hA:Ro w0 A (flat2 ge)) (hq:QM Sq Aq cap Q w0) (hv:∀ c,c < 8 → qkE (cap c) (Q c)=0) (hga:gaE ge cyc=0) (hln:lnP per sh) (hh:hdP (hdL Q)) (ht:0 ≤ t ∧ t ≤ 549755813888) (hb:bz=1) (hoc:rs=0 → (84 ≤ x5 ∧ x5 ≤ 1542) ∧ 0 ≤ bg ∧ bg ≤ t ∧ t ≤ bg + x5 * per) (hpc:¬ (x2 < 6 ∧ rs=0 ∧ prP ge cyc per sh (hdL Q) x5 bg t)) :
    Calls Tryz.prog 53 #[.agg #[.slice A ge.length gc,iv cyc,iv per,iv sh,iv now,.slice Aq 8 gq,.bool (decide (bz=1)),iv x0,iv x1,iv x2,iv x3,iv x4,iv x5,.bool (decide (x6=1)),iv bg,iv fn,iv rs],iv t] w0 (Ret w0 (.agg #[.slice A ge.length gc,.int .i64 cyc,.int .i64 per,.int .i64 sh,.int .i64 t,.slice Aq 8 gq,.bool (decide (bz=1)),.int .i64 x0,.int .i64 x1,.int .i64 x2,.int .i64 x3,.int .i64 x4,.int .i64 x5,.bool (decide (x6=1)),.int .i64 bg,.int .i64 fn,.int .i64 rs])):=by
 have hq0:=hq
 obtain ⟨qa,qg,⟨hqr,hqb⟩,hqf⟩:=hq
 have hqs:∀ c,c < 8 → QS w0 (qa c) (Q c) (qg c):=fun c hc=>(hqf c hc).1
 obtain ⟨hp1,hp2,hs1,hs2⟩:=hln
 have hgp:=(ga_p hga).2.2.1
 have hgs:=ga_pos hga
 refine enterK 69 Tryz.func53 rfl rfl rfl ?_
 intro a hF Q0 hR0 hN0
 have hM:=Mem.start w0
 replace hM:=hM.addOld 1 hA (Nat.le_refl _)
 replace hM:=hM.addOld 3 hqr (Nat.le_refl _)
 refine wp_seq_k fun K1 hK1=>wp_region_lit (wl (xN 2 4 (t:=95) (fun b=>.pointer (some ⟨b,0,none⟩)) #[.slice A ge.length gc,iv cyc,iv per,iv sh,iv now,.slice Aq 8 gq,.bool (decide (bz=1)),iv x0,iv x1,iv x2,iv x3,iv x4,iv x5,.bool (decide (x6=1)),iv bg,iv fn,iv rs] hF hM fun bb1 a w hF hM=>wl (xN 4 5 (t:=95) (fun b=>.pointer (some ⟨b,0,none⟩)) #[.slice none 0 0,iv 0,iv 0,iv 0,iv 0,.slice none 0 0,.bool false,iv 0,iv 0,iv 0,iv 0,iv 0,iv 0,.bool false,iv 0,iv 0,iv 0] hF hM fun bb2 a w hF hM=>wpList_nil (hK1 _ _ (wp_seq_k fun K2 hK2=>wp_region_lit (xB 3 [(10,iv t),(11,pt bb1 0),(12,pt bb1 4)] hF fun a hF=>?_))))))
 refine wl (xS 4 4 #[.slice A ge.length gc,iv cyc,iv per,iv sh,iv t,.slice Aq 8 gq,.bool (decide (bz=1)),iv x0,iv x1,iv x2,iv x3,iv x4,iv x5,.bool (decide (x6=1)),iv bg,iv fn,iv rs] hF hM fun w hM=>wpList_nil (hK2 _ _ (wp_seq_k fun K3 hK3=>wp_seq_k fun K4 hK4=>wp_region_lit (xB 2 [(13,pt bb1 0),(14,pt bb1 6)] hF fun a hF=>wl (xM 15 (v:=.bool true) hF hM (Yld.to (v:=.bool (decide (bz=1))) (yld_row (i:=4) (off:=6) hF rfl (by kernel_rfl) (by kernel_rfl) rfl (by kernel_rfl)) (bT hb)) fun a w hF hM=>xB 1 [(16,.bool false)] hF fun a hF=>wpList_nil (hK4 _ _ (xF hF ?_)))))))
 refine wp_skip (hK3 _ _ (wp_seq_k fun K5 hK5=>wp_seq_k fun K6 hK6=>wp_region_lit (wl (xL 34 4 0 (v:=.agg #[.slice A ge.length gc,iv cyc,iv per,iv sh,iv t,.slice Aq 8 gq,.bool (decide (bz=1)),iv x0,iv x1,iv x2,iv x3,iv x4,iv x5,.bool (decide (x6=1)),iv bg,iv fn,iv rs]) hF hM fun a w hF hM=>wl (sC (f:=68) (args:=#[.agg #[.slice A ge.length gc,iv cyc,iv per,iv sh,iv t,.slice Aq 8 gq,.bool (decide (bz=1)),iv x0,iv x1,iv x2,iv x3,iv x4,iv x5,.bool (decide (x6=1)),iv bg,iv fn,iv rs]]) hF (by kernel_rfl) rfl (by decide) (by kernel_rfl) (fun _=>by kernel_rfl) (enterK 14 Tryz.func68 rfl rfl rfl ?_))))))
 intro a1 hF1 QR7 hR7 hNR7
 refine wp_seq_k fun K8 hK8=>wp_region_lit (wl (xN 1 6 (t:=95) (fun b=>.pointer (some ⟨b,0,none⟩)) #[.slice A ge.length gc,iv cyc,iv per,iv sh,iv t,.slice Aq 8 gq,.bool (decide (bz=1)),iv x0,iv x1,iv x2,iv x3,iv x4,iv x5,.bool (decide (x6=1)),iv bg,iv fn,iv rs] hF1 hM fun bb3 a1 w hF1 hM=>xB 1 [(2,.bool false)] hF1 fun a1 hF1=>wpList_nil (hK8 _ _ (wp_seq_k fun K9 hK9=>wp_region_lit (xB 2 [(3,pt bb3 0),(4,pt bb3 6)] hF1 fun a1 hF1=>wl (xM 5 (v:=.bool true) hF1 hM (Yld.to (v:=.bool (decide (bz=1))) (yld_row (i:=6) (off:=6) hF1 rfl (by kernel_rfl) (by kernel_rfl) rfl (by kernel_rfl)) (bT hb)) fun a1 w hF1 hM=>xB 5 [(6,.bool true),(7,pt bb3 0),(8,pt bb3 7),(9,pt bb3 7),(10,pt bb3 9)] hF1 fun a1 hF1=>wl (xL 11 6 9 (v:=iv x2) hF1 hM fun a1 w hF1 hM=>?_)))))))
 refine xB 3 [(12,.bool (decide (x2 < 6))),(13,.bool (decide (x2 < 6))),(2,.bool (decide (x2 < 6)))] hF1 fun a1 hF1=>wpList_nil (hK9 _ _ (wp_ret (hR7 _ _ (ret_of hF1 hM (.tmp rfl (.nil)) ⟨_,rfl,?_⟩))))
 intro a hF
 refine xB 1 [(36,.bool (decide (x2 < 6)))] hF fun a hF=>?_
 by_cases hz1:x2 < 6
 ·replace hF:=hF.c hF (i:=35) (v:=.bool true) rfl (bT hz1)
  replace hF:=hF.c hF (i:=36) (v:=.bool true) rfl (bT hz1)
  refine xB 2 [(37,pt bb1 0),(38,pt bb1 16)] hF fun a hF=>wl (xL 39 4 16 (v:=iv rs) hF hM fun a w hF hM=>xB 2 [(40,.bool (decide (rs=0))),(41,.bool (decide (rs=0)))] hF fun a hF=>wpList_nil (hK6 _ _ ?_))
  by_cases hz2:rs=0
  ·replace hF:=hF.c hF (i:=40) (v:=.bool true) rfl (bT hz2)
   replace hF:=hF.c hF (i:=41) (v:=.bool true) rfl (bT hz2)
   refine xT hF (wp_seq_k fun K10 hK10=>?_)
   have hxc:=hoc (by omega)
   by_cases hz3:prP ge cyc per sh (hdL Q) x5 bg t
   ·exact absurd ⟨by omega,by omega,by assumption⟩ hpc
   have hxc:=hoc (by omega)
   refine rF (by kernel_rfl) (by kernel_rfl) (fun S a w=>∃ AA5:Option Addr,∃ cc5:Nat,Fr 69 [(1,some (iv t)),(2,some (pt bb1 0)),(4,some (pt bb2 0)),(7,(cond (S.getD 18 false) (some (iv 0)) none)),(8,(cond (S.getD 19 false) (some (iv 0)) none)),(9,(cond (S.getD 20 false) (some (iv 4)) none)),(42,(cond (S.getD 14 false) (some (.tuple #[iv 0,iv 0,iv 4])) none)),(43,(cond (S.getD 0 false) (some (pt bb1 0)) none)),(44,(cond (S.getD 1 false) (some (pt bb1 0)) none)),(45,(cond (S.getD 2 false) (some (.agg #[.slice A ge.length gc,iv cyc,iv per,iv sh])) none)),(46,(cond (S.getD 3 false) (some (.agg #[.slice A ge.length gc,iv cyc,iv per,iv sh,iv t,.slice Aq 8 gq,.bool (decide (bz=1)),iv x0,iv x1,iv x2,iv x3,iv x4,iv x5,.bool (decide (x6=1)),iv bg,iv fn,iv rs])) none)),(47,(cond (S.getD 4 false) (some (.slice AA5 8 cc5)) none)),(48,(cond (S.getD 5 false) (some (pt bb1 0)) none)),(49,(cond (S.getD 6 false) (some (pt bb1 7)) none)),(50,(cond (S.getD 7 false) (some (pt bb1 12)) none)),(51,(cond (S.getD 8 false) (some (iv x5)) none)),(52,(cond (S.getD 9 false) (some (pt bb1 0)) none)),(53,(cond (S.getD 10 false) (some (pt bb1 14)) none)),(54,(cond (S.getD 11 false) (some (iv bg)) none)),(55,(cond (S.getD 12 false) (some (iv t)) none)),(56,(cond (S.getD 13 false) (some (.tuple #[iv 0,iv 0,iv 4])) none)),(57,(cond (S.getD 15 false) (some (iv 0)) none)),(58,(cond (S.getD 16 false) (some (iv 0)) none)),(59,(cond (S.getD 17 false) (some (iv 4)) none))] a ∧ Mem w0.heap.size w0 [(1,some (.ro A (flat2 ge))),(3,some (.ro Aq (qcells 8 cap qa Q qg))),(4,some (.row bb1 95 #[.slice A ge.length gc,iv cyc,iv per,iv sh,iv t,.slice Aq 8 gq,.bool (decide (bz=1)),iv x0,iv x1,iv x2,iv x3,iv x4,iv x5,.bool (decide (x6=1)),iv bg,iv fn,iv rs])),(5,some (.row bb2 95 #[.slice none 0 0,iv 0,iv 0,iv 0,iv 0,.slice none 0 0,.bool false,iv 0,iv 0,iv 0,iv 0,iv 0,iv 0,.bool false,iv 0,iv 0,iv 0])),(8,(cond (S.getD 4 false) (some (.own (.slice AA5 8 cc5) 50 7 8 (flatE pE (hdL Q)))) none))] w) ?_ ?_ ?_
   ·exact ⟨none,0,hF.pk,hM.dk⟩
   ·refine stC ?_ (stC ?_ (stC ?_ (stC ?_ (stC ?_ (stC ?_ (stC ?_ (stC ?_ (stC ?_ (stC ?_ (stC ?_ (stC ?_ (stC ?_ (stC ?_ (stC ?_ (stC ?_ (stC ?_ (stC ?_ (stC ?_ (stC ?_ (stC ?_ (trivial)))))))))))))))))))))
    ·intro s0 s1 s2 s3 s4 s5 s6 s7 s8 s9 s10 s11 s12 s13 s14 s15 s16 s17 s18 s19 s20 hc hi hp a w hS
     obtain rfl:s0=false:=hi
     obtain ⟨AA5,cc5,hF,hM⟩:=hS
     refine xP 43 (v0:=pt bb1 0) (v:=pt bb1 0) hF rfl fun a hF=>⟨AA5,cc5,hF.rc 7,hM.k⟩
    ·intro s0 s1 s2 s3 s4 s5 s6 s7 s8 s9 s10 s11 s12 s13 s14 s15 s16 s17 s18 s19 s20 hc hi hp a w hS
     obtain rfl:s1=false:=hi
     obtain rfl:s0=true:=hp 0 (by kernel_rfl)
     obtain ⟨AA5,cc5,hF,hM⟩:=hS
     refine xP 44 (v0:=pt bb1 0) (v:=pt bb1 0) hF rfl fun a hF=>⟨AA5,cc5,hF.rc 8,hM.k⟩
    ·intro s0 s1 s2 s3 s4 s5 s6 s7 s8 s9 s10 s11 s12 s13 s14 s15 s16 s17 s18 s19 s20 hc hi hp a w hS
     obtain rfl:s2=false:=hi
     obtain rfl:s1=true:=hp 1 (by kernel_rfl)
     obtain ⟨AA5,cc5,hF,hM⟩:=hS
     refine xL 45 4 0 (v:=.agg #[.slice A ge.length gc,iv cyc,iv per,iv sh]) hF hM fun a w hF hM=>⟨AA5,cc5,hF.rc 9,hM.k⟩
    ·intro s0 s1 s2 s3 s4 s5 s6 s7 s8 s9 s10 s11 s12 s13 s14 s15 s16 s17 s18 s19 s20 hc hi hp a w hS
     obtain rfl:s3=false:=hi
     obtain ⟨AA5,cc5,hF,hM⟩:=hS
     refine xL 46 4 0 (v:=.agg #[.slice A ge.length gc,iv cyc,iv per,iv sh,iv t,.slice Aq 8 gq,.bool (decide (bz=1)),iv x0,iv x1,iv x2,iv x3,iv x4,iv x5,.bool (decide (x6=1)),iv bg,iv fn,iv rs]) hF hM fun a w hF hM=>⟨AA5,cc5,hF.rc 10,hM.k⟩
    ·intro s0 s1 s2 s3 s4 s5 s6 s7 s8 s9 s10 s11 s12 s13 s14 s15 s16 s17 s18 s19 s20 hc hi hp a w hS
     obtain rfl:s4=false:=hi
     obtain rfl:s3=true:=hp 3 (by kernel_rfl)
     obtain ⟨AA5,cc5,hF,hM⟩:=hS
     refine sOwn 8 (f:=76) (args:=#[.agg #[.slice A ge.length gc,iv cyc,iv per,iv sh,iv t,.slice Aq 8 gq,.bool (decide (bz=1)),iv x0,iv x1,iv x2,iv x3,iv x4,iv x5,.bool (decide (x6=1)),iv bg,iv fn,iv rs]]) (mk:=(fun v=>v)) (e:=50) (size:=7) (m:=8) (xs:=(flatE pE (hdL Q))) hF hM (by kernel_rfl) rfl (by decide) (by kernel_rfl) (fun _=>by kernel_rfl) (heads_w A ge gc cyc per sh Sq Aq gq cap Q t bz x0 x1 x2 x3 x4 x5 x6 bg fn rs w (hM.ok 1 _ rfl) (hq0.below hM.bel) hv) fun AA5 cc5 a w hF hM=>⟨AA5,cc5,hF.rc 11,hM.rc 4⟩
    ·intro s0 s1 s2 s3 s4 s5 s6 s7 s8 s9 s10 s11 s12 s13 s14 s15 s16 s17 s18 s19 s20 hc hi hp a w hS
     obtain rfl:s5=false:=hi
     obtain ⟨AA5,cc5,hF,hM⟩:=hS
     refine xP 48 (v0:=pt bb1 0) (v:=pt bb1 0) hF rfl fun a hF=>⟨AA5,cc5,hF.rc 12,hM.k⟩
    ·intro s0 s1 s2 s3 s4 s5 s6 s7 s8 s9 s10 s11 s12 s13 s14 s15 s16 s17 s18 s19 s20 hc hi hp a w hS
     obtain rfl:s6=false:=hi
     obtain rfl:s5=true:=hp 5 (by kernel_rfl)
     obtain ⟨AA5,cc5,hF,hM⟩:=hS
     refine xP 49 (v0:=pt bb1 7) (v:=pt bb1 7) hF rfl fun a hF=>⟨AA5,cc5,hF.rc 13,hM.k⟩
    ·intro s0 s1 s2 s3 s4 s5 s6 s7 s8 s9 s10 s11 s12 s13 s14 s15 s16 s17 s18 s19 s20 hc hi hp a w hS
     obtain rfl:s7=false:=hi
     obtain rfl:s6=true:=hp 6 (by kernel_rfl)
     obtain ⟨AA5,cc5,hF,hM⟩:=hS
     refine xP 50 (v0:=pt bb1 12) (v:=pt bb1 12) hF rfl fun a hF=>⟨AA5,cc5,hF.rc 14,hM.k⟩
    ·intro s0 s1 s2 s3 s4 s5 s6 s7 s8 s9 s10 s11 s12 s13 s14 s15 s16 s17 s18 s19 s20 hc hi hp a w hS
     obtain rfl:s8=false:=hi
     obtain rfl:s7=true:=hp 7 (by kernel_rfl)
     obtain ⟨AA5,cc5,hF,hM⟩:=hS
     refine xL 51 4 12 (v:=iv x5) hF hM fun a w hF hM=>⟨AA5,cc5,hF.rc 15,hM.k⟩
    ·intro s0 s1 s2 s3 s4 s5 s6 s7 s8 s9 s10 s11 s12 s13 s14 s15 s16 s17 s18 s19 s20 hc hi hp a w hS
     obtain rfl:s9=false:=hi
     obtain ⟨AA5,cc5,hF,hM⟩:=hS
     refine xP 52 (v0:=pt bb1 0) (v:=pt bb1 0) hF rfl fun a hF=>⟨AA5,cc5,hF.rc 16,hM.k⟩
    ·intro s0 s1 s2 s3 s4 s5 s6 s7 s8 s9 s10 s11 s12 s13 s14 s15 s16 s17 s18 s19 s20 hc hi hp a w hS
     obtain rfl:s10=false:=hi
     obtain rfl:s9=true:=hp 9 (by kernel_rfl)
     obtain ⟨AA5,cc5,hF,hM⟩:=hS
     refine xP 53 (v0:=pt bb1 14) (v:=pt bb1 14) hF rfl fun a hF=>⟨AA5,cc5,hF.rc 17,hM.k⟩
    ·intro s0 s1 s2 s3 s4 s5 s6 s7 s8 s9 s10 s11 s12 s13 s14 s15 s16 s17 s18 s19 s20 hc hi hp a w hS
     obtain rfl:s11=false:=hi
     obtain rfl:s10=true:=hp 10 (by kernel_rfl)
     obtain ⟨AA5,cc5,hF,hM⟩:=hS
     refine xL 54 4 14 (v:=iv bg) hF hM fun a w hF hM=>⟨AA5,cc5,hF.rc 18,hM.k⟩
    ·intro s0 s1 s2 s3 s4 s5 s6 s7 s8 s9 s10 s11 s12 s13 s14 s15 s16 s17 s18 s19 s20 hc hi hp a w hS
     obtain rfl:s12=false:=hi
     obtain ⟨AA5,cc5,hF,hM⟩:=hS
     refine xP 55 (v0:=iv t) (v:=iv t) hF rfl fun a hF=>⟨AA5,cc5,hF.rc 19,hM.k⟩
    ·intro s0 s1 s2 s3 s4 s5 s6 s7 s8 s9 s10 s11 s12 s13 s14 s15 s16 s17 s18 s19 s20 hc hi hp a w hS
     obtain rfl:s13=false:=hi
     obtain rfl:s12=true:=hp 12 (by kernel_rfl)
     obtain rfl:s11=true:=hp 11 (by kernel_rfl)
     obtain rfl:s8=true:=hp 8 (by kernel_rfl)
     obtain rfl:s4=true:=hp 4 (by kernel_rfl)
     obtain rfl:s2=true:=hp 2 (by kernel_rfl)
     obtain ⟨AA5,cc5,hF,hM⟩:=hS
     refine xM 56 (v:=.tuple #[iv 0,iv 0,iv 4]) hF hM (xC 78 #[.agg #[.slice A ge.length gc,iv cyc,iv per,iv sh],.slice AA5 8 cc5,iv x5,iv bg,iv t] hF (fun w hM=>by have:=preempt_w A ge gc cyc per sh AA5 (hdL Q) cc5 x5 bg t w (hM.ok 1 _ rfl) hga ⟨hp1,hp2,hs1,hs2⟩ (ro_of_own (hM.ok 8 _ rfl)) hh (by omega) (by omega) (by omega); rw [if_neg hz3,if_neg hz3,if_neg hz3] at this; exact this)) fun a w hF hM=>⟨AA5,cc5,hF.rc 20,hM.k⟩
    ·intro s0 s1 s2 s3 s4 s5 s6 s7 s8 s9 s10 s11 s12 s13 s14 s15 s16 s17 s18 s19 s20 hc hi hp a w hS
     obtain rfl:s14=false:=hi
     obtain rfl:s13=true:=hp 13 (by kernel_rfl)
     obtain ⟨AA5,cc5,hF,hM⟩:=hS
     refine xP 42 (v0:=.tuple #[iv 0,iv 0,iv 4]) (v:=.tuple #[iv 0,iv 0,iv 4]) hF rfl fun a hF=>⟨AA5,cc5,hF.rc 6,hM.k⟩
    ·intro s0 s1 s2 s3 s4 s5 s6 s7 s8 s9 s10 s11 s12 s13 s14 s15 s16 s17 s18 s19 s20 hc hi hp a w hS
     obtain rfl:s15=false:=hi
     obtain rfl:s14=true:=hp 14 (by kernel_rfl)
     obtain ⟨AA5,cc5,hF,hM⟩:=hS
     refine xP 57 (v0:=iv 0) (v:=iv 0) hF rfl fun a hF=>⟨AA5,cc5,hF.rc 21,hM.k⟩
    ·intro s0 s1 s2 s3 s4 s5 s6 s7 s8 s9 s10 s11 s12 s13 s14 s15 s16 s17 s18 s19 s20 hc hi hp a w hS
     obtain rfl:s16=false:=hi
     obtain rfl:s14=true:=hp 14 (by kernel_rfl)
     obtain ⟨AA5,cc5,hF,hM⟩:=hS
     refine xP 58 (v0:=iv 0) (v:=iv 0) hF rfl fun a hF=>⟨AA5,cc5,hF.rc 22,hM.k⟩
    ·intro s0 s1 s2 s3 s4 s5 s6 s7 s8 s9 s10 s11 s12 s13 s14 s15 s16 s17 s18 s19 s20 hc hi hp a w hS
     obtain rfl:s17=false:=hi
     obtain rfl:s14=true:=hp 14 (by kernel_rfl)
     obtain ⟨AA5,cc5,hF,hM⟩:=hS
     refine xP 59 (v0:=iv 4) (v:=iv 4) hF rfl fun a hF=>⟨AA5,cc5,hF.rc 23,hM.k⟩
    ·intro s0 s1 s2 s3 s4 s5 s6 s7 s8 s9 s10 s11 s12 s13 s14 s15 s16 s17 s18 s19 s20 hc hi hp a w hS
     obtain rfl:s18=false:=hi
     obtain rfl:s15=true:=hp 15 (by kernel_rfl)
     obtain ⟨AA5,cc5,hF,hM⟩:=hS
     refine xP 7 (v0:=iv 0) (v:=iv 0) hF rfl fun a hF=>⟨AA5,cc5,hF.rc 3,hM.k⟩
    ·intro s0 s1 s2 s3 s4 s5 s6 s7 s8 s9 s10 s11 s12 s13 s14 s15 s16 s17 s18 s19 s20 hc hi hp a w hS
     obtain rfl:s19=false:=hi
     obtain rfl:s16=true:=hp 16 (by kernel_rfl)
     obtain ⟨AA5,cc5,hF,hM⟩:=hS
     refine xP 8 (v0:=iv 0) (v:=iv 0) hF rfl fun a hF=>⟨AA5,cc5,hF.rc 4,hM.k⟩
    intro s0 s1 s2 s3 s4 s5 s6 s7 s8 s9 s10 s11 s12 s13 s14 s15 s16 s17 s18 s19 s20 hc hi hp a w hS
    obtain rfl:s20=false:=hi
    obtain rfl:s17=true:=hp 17 (by kernel_rfl)
    obtain ⟨AA5,cc5,hF,hM⟩:=hS
    refine xP 9 (v0:=iv 4) (v:=iv 4) hF rfl fun a hF=>⟨AA5,cc5,hF.rc 5,hM.k⟩
   intro a w hS
   obtain ⟨AA5,cc5,hF,hM⟩:=hS
   replace hF:Fr 69 [(1,some (iv t)),(2,some (pt bb1 0)),(4,some (pt bb2 0)),(7,some (iv 0)),(8,some (iv 0)),(9,some (iv 4)),(42,some (.tuple #[iv 0,iv 0,iv 4])),(43,some (pt bb1 0)),(44,some (pt bb1 0)),(45,some (.agg #[.slice A ge.length gc,iv cyc,iv per,iv sh])),(46,some (.agg #[.slice A ge.length gc,iv cyc,iv per,iv sh,iv t,.slice Aq 8 gq,.bool (decide (bz=1)),iv x0,iv x1,iv x2,iv x3,iv x4,iv x5,.bool (decide (x6=1)),iv bg,iv fn,iv rs])),(47,some (.slice AA5 8 cc5)),(48,some (pt bb1 0)),(49,some (pt bb1 7)),(50,some (pt bb1 12)),(51,some (iv x5)),(52,some (pt bb1 0)),(53,some (pt bb1 14)),(54,some (iv bg)),(55,some (iv t)),(56,some (.tuple #[iv 0,iv 0,iv 4])),(57,some (iv 0)),(58,some (iv 0)),(59,some (iv 4))] a:=hF.cast (by kernel_rfl)
   replace hM:Mem w0.heap.size w0 [(1,some (.ro A (flat2 ge))),(3,some (.ro Aq (qcells 8 cap qa Q qg))),(4,some (.row bb1 95 #[.slice A ge.length gc,iv cyc,iv per,iv sh,iv t,.slice Aq 8 gq,.bool (decide (bz=1)),iv x0,iv x1,iv x2,iv x3,iv x4,iv x5,.bool (decide (x6=1)),iv bg,iv fn,iv rs])),(5,some (.row bb2 95 #[.slice none 0 0,iv 0,iv 0,iv 0,iv 0,.slice none 0 0,.bool false,iv 0,iv 0,iv 0,iv 0,iv 0,iv 0,.bool false,iv 0,iv 0,iv 0])),(8,some (.own (.slice AA5 8 cc5) 50 7 8 (flatE pE (hdL Q))))] w:=hM.cast (by kernel_rfl)
   refine hK10 _ _ (wp_seq_k fun K11 hK11=>wp_region_lit (xB 1 [(60,iv 4)] hF fun a hF=>wl (xP 61 (v0:=.bool (decide (4=0))) (v:=.bool false) hF (bF (by omega)) fun a hF=>wpList_nil (hK11 _ _ (xF hF (wp_skip (hK5 _ _ (wp_seq_k fun K12 hK12=>wp_region_lit ?_))))))))
   refine wl (xL 68 4 0 (v:=.agg #[.slice A ge.length gc,iv cyc,iv per,iv sh,iv t,.slice Aq 8 gq,.bool (decide (bz=1)),iv x0,iv x1,iv x2,iv x3,iv x4,iv x5,.bool (decide (x6=1)),iv bg,iv fn,iv rs]) hF hM fun a w hF hM=>wl (xS 5 0 #[.slice A ge.length gc,iv cyc,iv per,iv sh,iv t,.slice Aq 8 gq,.bool (decide (bz=1)),iv x0,iv x1,iv x2,iv x3,iv x4,iv x5,.bool (decide (x6=1)),iv bg,iv fn,iv rs] hF hM fun w hM=>wpList_nil (hK12 _ _ (wp_ret (hR0 _ _ (ret_of hF hM (.cell (i:=5) rfl rfl (v:=.agg #[.slice A ge.length gc,iv cyc,iv per,iv sh,iv t,.slice Aq 8 gq,.bool (decide (bz=1)),iv x0,iv x1,iv x2,iv x3,iv x4,iv x5,.bool (decide (x6=1)),iv bg,iv fn,iv rs]) (by kernel_rfl) (.nil)) (⟨rfl,hM.bel⟩)))))))
  replace hF:=hF.c hF (i:=40) (v:=.bool false) rfl (bF hz2)
  replace hF:=hF.c hF (i:=41) (v:=.bool false) rfl (bF hz2)
  refine xF hF (wp_skip (hK5 _ _ (wp_seq_k fun K13 hK13=>wp_region_lit (wl (xL 68 4 0 (v:=.agg #[.slice A ge.length gc,iv cyc,iv per,iv sh,iv t,.slice Aq 8 gq,.bool (decide (bz=1)),iv x0,iv x1,iv x2,iv x3,iv x4,iv x5,.bool (decide (x6=1)),iv bg,iv fn,iv rs]) hF hM fun a w hF hM=>wl (xS 5 0 #[.slice A ge.length gc,iv cyc,iv per,iv sh,iv t,.slice Aq 8 gq,.bool (decide (bz=1)),iv x0,iv x1,iv x2,iv x3,iv x4,iv x5,.bool (decide (x6=1)),iv bg,iv fn,iv rs] hF hM fun w hM=>wpList_nil (hK13 _ _ (wp_ret (hR0 _ _ (ret_of hF hM (.cell (i:=5) rfl rfl (v:=.agg #[.slice A ge.length gc,iv cyc,iv per,iv sh,iv t,.slice Aq 8 gq,.bool (decide (bz=1)),iv x0,iv x1,iv x2,iv x3,iv x4,iv x5,.bool (decide (x6=1)),iv bg,iv fn,iv rs]) (by kernel_rfl) (.nil)) ?_))))))))))
  exact ⟨rfl,hM.bel⟩
 replace hF:=hF.c hF (i:=35) (v:=.bool false) rfl (bF hz1)
 replace hF:=hF.c hF (i:=36) (v:=.bool false) rfl (bF hz1)
 refine xB 5 [(37,undef),(38,undef),(39,undef),(40,undef),(41,.bool false)] hF fun a hF=>wpList_nil (hK6 _ _ (xF hF (wp_skip (hK5 _ _ (wp_seq_k fun K14 hK14=>wp_region_lit (wl (xL 68 4 0 (v:=.agg #[.slice A ge.length gc,iv cyc,iv per,iv sh,iv t,.slice Aq 8 gq,.bool (decide (bz=1)),iv x0,iv x1,iv x2,iv x3,iv x4,iv x5,.bool (decide (x6=1)),iv bg,iv fn,iv rs]) hF hM fun a w hF hM=>wl (xS 5 0 #[.slice A ge.length gc,iv cyc,iv per,iv sh,iv t,.slice Aq 8 gq,.bool (decide (bz=1)),iv x0,iv x1,iv x2,iv x3,iv x4,iv x5,.bool (decide (x6=1)),iv bg,iv fn,iv rs] hF hM fun w hM=>wpList_nil (hK14 _ _ ?_)))))))))
 refine wp_ret (hR0 _ _ (ret_of hF hM (.cell (i:=5) rfl rfl (v:=.agg #[.slice A ge.length gc,iv cyc,iv per,iv sh,iv t,.slice Aq 8 gq,.bool (decide (bz=1)),iv x0,iv x1,iv x2,iv x3,iv x4,iv x5,.bool (decide (x6=1)),iv bg,iv fn,iv rs]) (by kernel_rfl) (.nil)) (⟨rfl,hM.bel⟩)))
end Go.Proofs.YtlngflbamkgjlaaGreat
namespace Go.Proofs.YtlngflbamkgjlaaGreat
open Go.RowKit
set_option linter.unusedVariables false
set_option linter.unusedSimpArgs false
set_option maxRecDepth 100000
def cmP (l:List (List Int)) (un:Int):Prop:=WR 6 l ∧ ∀ k,k < l.length → 0 ≤ rc l k 0 ∧ rc l k 0 ≤ un ∧ (∀ j,j < k → rc l j 0 ≤ rc l k 0) ∧ ckI (rc l k 1) (rc l k 2) (rc l k 3) (rc l k 4) (rc l k 5)=0
theorem qk_nil {c:Int} (h:0 ≤ c ∧ c ≤ 65536):qkE c []=0:=(qk_0 ⟨h,fun k hk=>by simp at hk,by simpa [freshL] using h.1⟩).symm
set_option maxHeartbeats 4000000 in
theorem next_busy (A:Option Addr) (ge:List (Int × Int)) (gc:Nat) (cyc:Int) (per sh:Int) (Sq:Nat → Prop) (Aq:Option Addr) (gq:Nat) (cap:Nat → Int) (Q:Nat → List (List Int)) (now bz x0 x1 x2 x3 x4 x5 x6 bg fn rs:Int) (w0:World) (hA:Ro w0 A (flat2 ge)) (hq:QM Sq Aq cap Q w0) (hv:∀ c,c < 8 → qkE (cap c) (Q c)=0) (hb:bz=1) :
    Calls Tryz.prog 55 #[.agg #[.slice A ge.length gc,iv cyc,iv per,iv sh,iv now,.slice Aq 8 gq,.bool (decide (bz=1)),iv x0,iv x1,iv x2,iv x3,iv x4,iv x5,.bool (decide (x6=1)),iv bg,iv fn,iv rs]] w0 (Ret w0 (.tuple #[.int .i64 fn,.int .i64 0])):=by
 obtain ⟨qa,qg,⟨hqr,hqb⟩,hqf⟩:=hq
 have hqs:∀ c,c < 8 → QS w0 (qa c) (Q c) (qg c):=fun c hc=>(hqf c hc).1
 refine enterK 21 Tryz.func55 rfl rfl rfl ?_
 intro a hF Q0 hR0 hN0
 have hM:=Mem.start w0
 replace hM:=hM.addOld 1 hA (Nat.le_refl _)
 replace hM:=hM.addOld 3 hqr (Nat.le_refl _)
 refine wp_seq_k fun K1 hK1=>wp_region_lit (wl (xN 1 4 (t:=95) (fun b=>.pointer (some ⟨b,0,none⟩)) #[.slice A ge.length gc,iv cyc,iv per,iv sh,iv now,.slice Aq 8 gq,.bool (decide (bz=1)),iv x0,iv x1,iv x2,iv x3,iv x4,iv x5,.bool (decide (x6=1)),iv bg,iv fn,iv rs] hF hM fun bb1 a w hF hM=>xB 2 [(2,iv 0),(3,iv 0)] hF fun a hF=>wpList_nil (hK1 _ _ (wp_seq_k fun K2 hK2=>wp_seq_k fun K3 hK3=>wp_region_lit (xB 2 [(4,pt bb1 0),(5,pt bb1 6)] hF fun a hF=>wl (xM 6 (v:=.bool true) hF hM (Yld.to (v:=.bool (decide (bz=1))) (yld_row (i:=4) (off:=6) hF rfl (by kernel_rfl) (by kernel_rfl) rfl (by kernel_rfl)) (bT hb)) fun a w hF hM=>wpList_nil ?_))))))
 refine hK3 _ _ (xT hF (wp_seq_k fun K4 hK4=>wp_region_lit (xB 2 [(7,pt bb1 0),(8,pt bb1 15)] hF fun a hF=>wl (xL 9 4 15 (v:=iv fn) hF hM fun a w hF hM=>xB 2 [(2,iv fn),(3,iv 0)] hF fun a hF=>wpList_nil (hK4 _ _ (wp_ret (hR0 _ _ (ret_of hF hM (.tmp rfl (.tmp rfl (.nil))) ?_))))))))
 exact ⟨rfl,hM.bel⟩
set_option maxHeartbeats 4000000 in
theorem next_idle (A:Option Addr) (ge:List (Int × Int)) (gc:Nat) (cyc:Int) (per sh:Int) (Sq:Nat → Prop) (Aq:Option Addr) (gq:Nat) (cap:Nat → Int) (Q:Nat → List (List Int)) (now bz x0 x1 x2 x3 x4 x5 x6 bg fn rs:Int) (w0:World) (hA:Ro w0 A (flat2 ge)) (hq:QM Sq Aq cap Q w0) (hv:∀ c,c < 8 → qkE (cap c) (Q c)=0) (hga:gaE ge cyc=0) (hln:lnP per sh) (hh:hdP (hdL Q)) (ht:0 ≤ now ∧ now ≤ 549755813888) (hb:bz ≠ 1) :
    Calls Tryz.prog 55 #[.agg #[.slice A ge.length gc,iv cyc,iv per,iv sh,iv now,.slice Aq 8 gq,.bool (decide (bz=1)),iv x0,iv x1,iv x2,iv x3,iv x4,iv x5,.bool (decide (x6=1)),iv bg,iv fn,iv rs]] w0 (Ret w0 (.tuple #[.int .i64 ((whG (fun c=>whnO ge cyc per sh (hdL Q) now c) 8).getD 0),.int .i64 (eO (whG (fun c=>whnO ge cyc per sh (hdL Q) now c) 8))])):=by
 have hq0:=hq
 obtain ⟨qa,qg,⟨hqr,hqb⟩,hqf⟩:=hq
 have hqs:∀ c,c < 8 → QS w0 (qa c) (Q c) (qg c):=fun c hc=>(hqf c hc).1
 obtain ⟨hp1,hp2,hs1,hs2⟩:=hln
 have hgp:=(ga_p hga).2.2.1
 have hgs:=ga_pos hga
 refine enterK 21 Tryz.func55 rfl rfl rfl ?_
 intro a hF Q0 hR0 hN0
 have hM:=Mem.start w0
 replace hM:=hM.addOld 1 hA (Nat.le_refl _)
 replace hM:=hM.addOld 3 hqr (Nat.le_refl _)
 refine wp_seq_k fun K1 hK1=>wp_region_lit (wl (xN 1 4 (t:=95) (fun b=>.pointer (some ⟨b,0,none⟩)) #[.slice A ge.length gc,iv cyc,iv per,iv sh,iv now,.slice Aq 8 gq,.bool (decide (bz=1)),iv x0,iv x1,iv x2,iv x3,iv x4,iv x5,.bool (decide (x6=1)),iv bg,iv fn,iv rs] hF hM fun bb1 a w hF hM=>xB 2 [(2,iv 0),(3,iv 0)] hF fun a hF=>wpList_nil (hK1 _ _ (wp_seq_k fun K2 hK2=>wp_seq_k fun K3 hK3=>wp_region_lit (xB 2 [(4,pt bb1 0),(5,pt bb1 6)] hF fun a hF=>wl (xM 6 (v:=.bool false) hF hM (Yld.to (v:=.bool (decide (bz=1))) (yld_row (i:=4) (off:=6) hF rfl (by kernel_rfl) (by kernel_rfl) rfl (by kernel_rfl)) (bF hb)) fun a w hF hM=>wpList_nil ?_))))))
 refine hK3 _ _ (xF hF (wp_skip (hK2 _ _ (wp_seq_k fun K4 hK4=>?_))))
 obtain ⟨wgt,hwgt⟩:∃ z:Int,(whG (fun c=>whnO ge cyc per sh (hdL Q) now c) 8).getD 0=z:=⟨_,rfl⟩
 obtain ⟨wge,hwge⟩:∃ z:Int,eO (whG (fun c=>whnO ge cyc per sh (hdL Q) now c) 8)=z:=⟨_,rfl⟩
 refine rF (by kernel_rfl) (by kernel_rfl) (fun S a w=>∃ AA2:Option Addr,∃ cc2:Nat,Fr 21 [(1,some (pt bb1 0)),(2,(cond (S.getD 11 false) (some (iv wgt)) (some (iv 0)))),(3,(cond (S.getD 12 false) (some (iv wge)) (some (iv 0)))),(10,(cond (S.getD 0 false) (some (pt bb1 0)) none)),(11,(cond (S.getD 1 false) (some (pt bb1 0)) none)),(12,(cond (S.getD 2 false) (some (.agg #[.slice A ge.length gc,iv cyc,iv per,iv sh])) none)),(13,(cond (S.getD 3 false) (some (.agg #[.slice A ge.length gc,iv cyc,iv per,iv sh,iv now,.slice Aq 8 gq,.bool (decide (bz=1)),iv x0,iv x1,iv x2,iv x3,iv x4,iv x5,.bool (decide (x6=1)),iv bg,iv fn,iv rs])) none)),(14,(cond (S.getD 4 false) (some (.slice AA2 8 cc2)) none)),(15,(cond (S.getD 5 false) (some (pt bb1 0)) none)),(16,(cond (S.getD 6 false) (some (pt bb1 4)) none)),(17,(cond (S.getD 7 false) (some (iv now)) none)),(18,(cond (S.getD 8 false) (some (.tuple #[iv wgt,iv wge])) none)),(19,(cond (S.getD 9 false) (some (iv wgt)) none)),(20,(cond (S.getD 10 false) (some (iv wge)) none))] a ∧ Mem w0.heap.size w0 [(1,some (.ro A (flat2 ge))),(3,some (.ro Aq (qcells 8 cap qa Q qg))),(4,some (.row bb1 95 #[.slice A ge.length gc,iv cyc,iv per,iv sh,iv now,.slice Aq 8 gq,.bool (decide (bz=1)),iv x0,iv x1,iv x2,iv x3,iv x4,iv x5,.bool (decide (x6=1)),iv bg,iv fn,iv rs])),(5,(cond (S.getD 4 false) (some (.own (.slice AA2 8 cc2) 50 7 8 (flatE pE (hdL Q)))) none))] w) ?_ ?_ ?_
 ·exact ⟨none,0,hF.pk,hM.dk⟩
 ·refine stC ?_ (stC ?_ (stC ?_ (stC ?_ (stC ?_ (stC ?_ (stC ?_ (stC ?_ (stC ?_ (stC ?_ (stC ?_ (stC ?_ (stC ?_ (trivial)))))))))))))
  ·intro s0 s1 s2 s3 s4 s5 s6 s7 s8 s9 s10 s11 s12 hc hi hp a w hS
   obtain rfl:s0=false:=hi
   obtain ⟨AA2,cc2,hF,hM⟩:=hS
   refine xP 10 (v0:=pt bb1 0) (v:=pt bb1 0) hF rfl fun a hF=>⟨AA2,cc2,hF.rc 3,hM.k⟩
  ·intro s0 s1 s2 s3 s4 s5 s6 s7 s8 s9 s10 s11 s12 hc hi hp a w hS
   obtain rfl:s1=false:=hi
   obtain rfl:s0=true:=hp 0 (by kernel_rfl)
   obtain ⟨AA2,cc2,hF,hM⟩:=hS
   refine xP 11 (v0:=pt bb1 0) (v:=pt bb1 0) hF rfl fun a hF=>⟨AA2,cc2,hF.rc 4,hM.k⟩
  ·intro s0 s1 s2 s3 s4 s5 s6 s7 s8 s9 s10 s11 s12 hc hi hp a w hS
   obtain rfl:s2=false:=hi
   obtain rfl:s1=true:=hp 1 (by kernel_rfl)
   obtain ⟨AA2,cc2,hF,hM⟩:=hS
   refine xL 12 4 0 (v:=.agg #[.slice A ge.length gc,iv cyc,iv per,iv sh]) hF hM fun a w hF hM=>⟨AA2,cc2,hF.rc 5,hM.k⟩
  ·intro s0 s1 s2 s3 s4 s5 s6 s7 s8 s9 s10 s11 s12 hc hi hp a w hS
   obtain rfl:s3=false:=hi
   obtain ⟨AA2,cc2,hF,hM⟩:=hS
   refine xL 13 4 0 (v:=.agg #[.slice A ge.length gc,iv cyc,iv per,iv sh,iv now,.slice Aq 8 gq,.bool (decide (bz=1)),iv x0,iv x1,iv x2,iv x3,iv x4,iv x5,.bool (decide (x6=1)),iv bg,iv fn,iv rs]) hF hM fun a w hF hM=>⟨AA2,cc2,hF.rc 6,hM.k⟩
  ·intro s0 s1 s2 s3 s4 s5 s6 s7 s8 s9 s10 s11 s12 hc hi hp a w hS
   obtain rfl:s4=false:=hi
   obtain rfl:s3=true:=hp 3 (by kernel_rfl)
   obtain ⟨AA2,cc2,hF,hM⟩:=hS
   refine sOwn 5 (f:=76) (args:=#[.agg #[.slice A ge.length gc,iv cyc,iv per,iv sh,iv now,.slice Aq 8 gq,.bool (decide (bz=1)),iv x0,iv x1,iv x2,iv x3,iv x4,iv x5,.bool (decide (x6=1)),iv bg,iv fn,iv rs]]) (mk:=(fun v=>v)) (e:=50) (size:=7) (m:=8) (xs:=(flatE pE (hdL Q))) hF hM (by kernel_rfl) rfl (by decide) (by kernel_rfl) (fun _=>by kernel_rfl) (heads_w A ge gc cyc per sh Sq Aq gq cap Q now bz x0 x1 x2 x3 x4 x5 x6 bg fn rs w (hM.ok 1 _ rfl) (hq0.below hM.bel) hv) fun AA2 cc2 a w hF hM=>⟨AA2,cc2,hF.rc 7,hM.rc 3⟩
  ·intro s0 s1 s2 s3 s4 s5 s6 s7 s8 s9 s10 s11 s12 hc hi hp a w hS
   obtain rfl:s5=false:=hi
   obtain ⟨AA2,cc2,hF,hM⟩:=hS
   refine xP 15 (v0:=pt bb1 0) (v:=pt bb1 0) hF rfl fun a hF=>⟨AA2,cc2,hF.rc 8,hM.k⟩
  ·intro s0 s1 s2 s3 s4 s5 s6 s7 s8 s9 s10 s11 s12 hc hi hp a w hS
   obtain rfl:s6=false:=hi
   obtain rfl:s5=true:=hp 5 (by kernel_rfl)
   obtain ⟨AA2,cc2,hF,hM⟩:=hS
   refine xP 16 (v0:=pt bb1 4) (v:=pt bb1 4) hF rfl fun a hF=>⟨AA2,cc2,hF.rc 9,hM.k⟩
  ·intro s0 s1 s2 s3 s4 s5 s6 s7 s8 s9 s10 s11 s12 hc hi hp a w hS
   obtain rfl:s7=false:=hi
   obtain rfl:s6=true:=hp 6 (by kernel_rfl)
   obtain ⟨AA2,cc2,hF,hM⟩:=hS
   refine xL 17 4 4 (v:=iv now) hF hM fun a w hF hM=>⟨AA2,cc2,hF.rc 10,hM.k⟩
  ·intro s0 s1 s2 s3 s4 s5 s6 s7 s8 s9 s10 s11 s12 hc hi hp a w hS
   obtain rfl:s8=false:=hi
   obtain rfl:s7=true:=hp 7 (by kernel_rfl)
   obtain rfl:s4=true:=hp 4 (by kernel_rfl)
   obtain rfl:s2=true:=hp 2 (by kernel_rfl)
   obtain ⟨AA2,cc2,hF,hM⟩:=hS
   refine xM 18 (v:=.tuple #[iv wgt,iv wge]) hF hM (xC 79 #[.agg #[.slice A ge.length gc,iv cyc,iv per,iv sh],.slice AA2 8 cc2,iv now] hF (fun w hM=>by have:=whenA_w A ge gc cyc per sh AA2 (hdL Q) cc2 now w (hM.ok 1 _ rfl) hga ⟨hp1,hp2,hs1,hs2⟩ (ro_of_own (hM.ok 5 _ rfl)) hh (by omega); rw [hwgt,hwge] at this; exact this)) fun a w hF hM=>⟨AA2,cc2,hF.rc 11,hM.k⟩
  ·intro s0 s1 s2 s3 s4 s5 s6 s7 s8 s9 s10 s11 s12 hc hi hp a w hS
   obtain rfl:s9=false:=hi
   obtain rfl:s8=true:=hp 8 (by kernel_rfl)
   obtain ⟨AA2,cc2,hF,hM⟩:=hS
   refine xP 19 (v0:=iv wgt) (v:=iv wgt) hF rfl fun a hF=>⟨AA2,cc2,hF.rc 12,hM.k⟩
  ·intro s0 s1 s2 s3 s4 s5 s6 s7 s8 s9 s10 s11 s12 hc hi hp a w hS
   obtain rfl:s10=false:=hi
   obtain rfl:s8=true:=hp 8 (by kernel_rfl)
   obtain ⟨AA2,cc2,hF,hM⟩:=hS
   refine xP 20 (v0:=iv wge) (v:=iv wge) hF rfl fun a hF=>⟨AA2,cc2,hF.rc 13,hM.k⟩
  ·intro s0 s1 s2 s3 s4 s5 s6 s7 s8 s9 s10 s11 s12 hc hi hp a w hS
   obtain rfl:s11=false:=hi
   obtain rfl:s9=true:=hp 9 (by kernel_rfl)
   obtain ⟨AA2,cc2,hF,hM⟩:=hS
   refine xP 2 (v0:=iv wgt) (v:=iv wgt) hF rfl fun a hF=>⟨AA2,cc2,hF.rc 1,hM.k⟩
  intro s0 s1 s2 s3 s4 s5 s6 s7 s8 s9 s10 s11 s12 hc hi hp a w hS
  obtain rfl:s12=false:=hi
  obtain rfl:s10=true:=hp 10 (by kernel_rfl)
  obtain ⟨AA2,cc2,hF,hM⟩:=hS
  refine xP 3 (v0:=iv wge) (v:=iv wge) hF rfl fun a hF=>⟨AA2,cc2,hF.rc 2,hM.k⟩
 intro a w hS
 obtain ⟨AA2,cc2,hF,hM⟩:=hS
 replace hF:Fr 21 [(1,some (pt bb1 0)),(2,some (iv wgt)),(3,some (iv wge)),(10,some (pt bb1 0)),(11,some (pt bb1 0)),(12,some (.agg #[.slice A ge.length gc,iv cyc,iv per,iv sh])),(13,some (.agg #[.slice A ge.length gc,iv cyc,iv per,iv sh,iv now,.slice Aq 8 gq,.bool (decide (bz=1)),iv x0,iv x1,iv x2,iv x3,iv x4,iv x5,.bool (decide (x6=1)),iv bg,iv fn,iv rs])),(14,some (.slice AA2 8 cc2)),(15,some (pt bb1 0)),(16,some (pt bb1 4)),(17,some (iv now)),(18,some (.tuple #[iv wgt,iv wge])),(19,some (iv wgt)),(20,some (iv wge))] a:=hF.cast (by kernel_rfl)
 replace hM:Mem w0.heap.size w0 [(1,some (.ro A (flat2 ge))),(3,some (.ro Aq (qcells 8 cap qa Q qg))),(4,some (.row bb1 95 #[.slice A ge.length gc,iv cyc,iv per,iv sh,iv now,.slice Aq 8 gq,.bool (decide (bz=1)),iv x0,iv x1,iv x2,iv x3,iv x4,iv x5,.bool (decide (x6=1)),iv bg,iv fn,iv rs])),(5,some (.own (.slice AA2 8 cc2) 50 7 8 (flatE pE (hdL Q))))] w:=hM.cast (by kernel_rfl)
 refine hK4 _ _ (wp_ret (hR0 _ _ (ret_of hF hM (.tmp rfl (.tmp rfl (.nil))) (⟨ret_eq (by rw [hwgt,hwge]; rfl),hM.bel⟩))))
set_option maxHeartbeats 4000000 in
theorem pCheck_w (A:Option Addr) (ge:List (Int × Int)) (gc:Nat) (cyc:Int) (per sh:Int) (Sq:Nat → Prop) (Aq:Option Addr) (gq:Nat) (cap:Nat → Int) (Q:Nat → List (List Int)) (w0:World) (hA:Ro w0 A (flat2 ge)) (hq:QM Sq Aq cap Q w0) (hv:∀ c,c < 8 → qkE (cap c) (Q c)=0) (hga:gaE ge cyc=0) (hln:lnP per sh) (hQ0:∀ c,c < 8 → Q c=[]) :
    Calls Tryz.prog 29 #[.agg #[.slice A ge.length gc,iv cyc,iv per,iv sh,iv 0,.slice Aq 8 gq,.bool false,iv 0,iv 0,iv 0,iv 0,iv 0,iv 0,.bool false,iv 0,iv 0,iv 0]] w0 (Ret w0 (.int .i64 0)):=by
 obtain ⟨qa,qg,⟨hqr,hqb⟩,hqf⟩:=hq
 have hqs:∀ c,c < 8 → QS w0 (qa c) (Q c) (qg c):=fun c hc=>(hqf c hc).1
 obtain ⟨hp1,hp2,hs1,hs2⟩:=hln
 have hgp:=(ga_p hga).2.2.1
 have hgs:=ga_pos hga
 refine enterK 28 Tryz.func29 rfl rfl rfl ?_
 intro a hF Q0 hR0 hN0
 have hM:=Mem.start w0
 replace hM:=hM.addOld 1 hA (Nat.le_refl _)
 replace hM:=hM.addOld 3 hqr (Nat.le_refl _)
 refine wp_seq_k fun K1 hK1=>wp_region_lit (wl (xN 1 4 (t:=52) (fun b=>.pointer (some ⟨b,0,none⟩)) #[.slice A ge.length gc,iv cyc,iv per,iv sh,iv 0,.slice Aq 8 gq,.bool false,iv 0,iv 0,iv 0,iv 0,iv 0,iv 0,.bool false,iv 0,iv 0,iv 0] hF hM fun bb1 a w hF hM=>xB 1 [(2,iv 0)] hF fun a hF=>wpList_nil (hK1 _ _ (wp_seq_k fun K2 hK2=>wp_seq_k fun K3 hK3=>wp_region_lit (xB 1 [(4,pt bb1 0)] hF fun a hF=>wl (xL 5 4 0 (v:=.agg #[.slice A ge.length gc,iv cyc,iv per,iv sh]) hF hM fun a w hF hM=>wl (xM 6 (v:=iv 0) hF hM (xC 26 #[.agg #[.slice A ge.length gc,iv cyc,iv per,iv sh]] hF (fun w hM=>ckLine_w A ge gc cyc per sh w (hM.ok 1 _ rfl) hga ⟨hp1,hp2,hs1,hs2⟩)) fun a w hF hM=>?_)))))))
 refine wl (xP 7 (v0:=.bool (!decide (0=0))) (v:=.bool false) hF (nT (by omega)) fun a hF=>xB 2 [(8,.bool false),(9,pt bb1 4)] hF fun a hF=>wl (xL 10 4 4 (v:=iv 0) hF hM fun a w hF hM=>wl (xP 11 (v0:=.bool (decide (0 < 0))) (v:=.bool false) hF (bF (by omega)) fun a hF=>xB 3 [(12,.bool false),(13,.bool false),(14,pt bb1 4)] hF fun a hF=>wl (xL 15 4 4 (v:=iv 0) hF hM fun a w hF hM=>wl (xP 16 (v0:=.bool (decide (549755813888 < 0))) (v:=.bool false) hF (bF (by omega)) fun a hF=>xB 1 [(17,.bool false)] hF fun a hF=>wpList_nil (hK3 _ _ (xF hF (wp_skip ?_))))))))
 refine hK2 _ _ (wp_seq_k fun K4 hK4=>wp_seq_k fun K5 hK5=>wp_region_lit (wl (xL 18 4 0 (v:=.agg #[.slice A ge.length gc,iv cyc,iv per,iv sh,iv 0,.slice Aq 8 gq,.bool false,iv 0,iv 0,iv 0,iv 0,iv 0,iv 0,.bool false,iv 0,iv 0,iv 0]) hF hM fun a w hF hM=>xB 1 [(19,.agg #[.slice A ge.length gc,iv cyc,iv per,iv sh,iv 0,.slice Aq 8 gq,.bool false,iv 0,iv 0,iv 0,iv 0,iv 0,iv 0,.bool false,iv 0,iv 0,iv 0])] hF fun a hF=>wl (xN 3 5 (t:=95) (fun b=>.pointer (some ⟨b,0,none⟩)) #[.slice none 0 0,iv 0,iv 0,iv 0,iv 0,.slice none 0 0,.bool false,iv 0,iv 0,iv 0,iv 0,iv 0,iv 0,.bool false,iv 0,iv 0,iv 0] hF hM fun bb2 a w hF hM=>?_))))
 refine wl (xS 5 0 #[.slice A ge.length gc,iv cyc,iv per,iv sh,iv 0,.slice Aq 8 gq,.bool false,iv 0,iv 0,iv 0,iv 0,iv 0,iv 0,.bool false,iv 0,iv 0,iv 0] hF hM fun w hM=>wpList_nil (hK5 _ _ (wp_seq_k fun K6 hK6=>wp_region_lit (wl (xL 20 5 0 (v:=.agg #[.slice A ge.length gc,iv cyc,iv per,iv sh,iv 0,.slice Aq 8 gq,.bool false,iv 0,iv 0,iv 0,iv 0,iv 0,iv 0,.bool false,iv 0,iv 0,iv 0]) hF hM fun a w hF hM=>wl (sC (f:=48) (args:=#[.agg #[.slice A ge.length gc,iv cyc,iv per,iv sh,iv 0,.slice Aq 8 gq,.bool false,iv 0,iv 0,iv 0,iv 0,iv 0,iv 0,.bool false,iv 0,iv 0,iv 0]]) hF (by kernel_rfl) rfl (by decide) (by kernel_rfl) (fun _=>by kernel_rfl) (enterK 122 Tryz.func48 rfl rfl rfl ?_)))))))
 intro a1 hF1 QR7 hR7 hNR7
 refine wp_seq_k fun K8 hK8=>wp_region_lit (wl (xN 1 6 (t:=95) (fun b=>.pointer (some ⟨b,0,none⟩)) #[.slice A ge.length gc,iv cyc,iv per,iv sh,iv 0,.slice Aq 8 gq,.bool false,iv 0,iv 0,iv 0,iv 0,iv 0,iv 0,.bool false,iv 0,iv 0,iv 0] hF1 hM fun bb3 a1 w hF1 hM=>xB 1 [(2,.bool false)] hF1 fun a1 hF1=>wpList_nil (hK8 _ _ (wp_seq_k fun K9 hK9=>wp_seq_k fun K10 hK10=>wp_region_lit (xB 2 [(3,pt bb3 0),(4,pt bb3 6)] hF1 fun a1 hF1=>wl (xL 5 6 6 (v:=.bool false) hF1 hM fun a1 w hF1 hM=>xB 1 [(6,.bool true)] hF1 fun a1 hF1=>?_))))))
 refine wpList_nil (hK10 _ _ (xT hF1 (wp_seq_k fun K11 hK11=>wp_region_lit (xB 2 [(7,pt bb3 0),(8,pt bb3 7)] hF1 fun a1 hF1=>wl (xL 9 6 7 (v:=.agg #[iv 0,iv 0,iv 0,iv 0,iv 0,iv 0,.bool false]) hF1 hM fun a1 w hF1 hM=>xB 1 [(10,.agg #[iv 0,iv 0,iv 0,iv 0,iv 0,iv 0,.bool false])] hF1 fun a1 hF1=>wl (xM 11 (v:=.bool true) hF1 hM ((yld_eqlP (C:=Mem _ _ _) 0 0 0 0 0 0 0 0 0 0 0 0 false false hF1 rfl (by kernel_rfl) (by kernel_rfl) (by kernel_rfl)).to (bT ⟨rfl,rfl⟩)) fun a1 w hF1 hM=>xB 3 [(12,.bool true),(13,pt bb3 0),(14,pt bb3 14)] hF1 fun a1 hF1=>wl (xL 15 6 14 (v:=iv 0) hF1 hM fun a1 w hF1 hM=>wl (xP 16 (v0:=.bool (decide (0=0))) (v:=.bool true) hF1 (bT (by omega)) fun a1 hF1=>?_))))))))
 refine xB 4 [(17,.bool true),(18,.bool true),(19,pt bb3 0),(20,pt bb3 15)] hF1 fun a1 hF1=>wl (xL 21 6 15 (v:=iv 0) hF1 hM fun a1 w hF1 hM=>wl (xP 22 (v0:=.bool (decide (0=0))) (v:=.bool true) hF1 (bT (by omega)) fun a1 hF1=>xB 4 [(23,.bool true),(24,.bool true),(25,pt bb3 0),(26,pt bb3 16)] hF1 fun a1 hF1=>wl (xL 27 6 16 (v:=iv 0) hF1 hM fun a1 w hF1 hM=>wl (xP 28 (v0:=.bool (decide (0=0))) (v:=.bool true) hF1 (bT (by omega)) fun a1 hF1=>xB 2 [(29,.bool true),(2,.bool true)] hF1 fun a1 hF1=>wpList_nil (hK11 _ _ (wp_ret (hR7 _ _ (ret_of hF1 hM (.tmp rfl (.nil)) ⟨_,rfl,?_⟩))))))))
 intro a hF
 refine xB 2 [(22,.bool false),(23,.bool false)] hF fun a hF=>wl (xL 24 5 0 (v:=.agg #[.slice A ge.length gc,iv cyc,iv per,iv sh,iv 0,.slice Aq 8 gq,.bool false,iv 0,iv 0,iv 0,iv 0,iv 0,iv 0,.bool false,iv 0,iv 0,iv 0]) hF hM fun a w hF hM=>wl (sC (f:=49) (args:=#[.agg #[.slice A ge.length gc,iv cyc,iv per,iv sh,iv 0,.slice Aq 8 gq,.bool false,iv 0,iv 0,iv 0,iv 0,iv 0,iv 0,.bool false,iv 0,iv 0,iv 0]]) hF (by kernel_rfl) rfl (by decide) (by kernel_rfl) (fun _=>by kernel_rfl) (enterK 54 Tryz.func49 rfl rfl rfl ?_)))
 intro a1 hF1 QR12 hR12 hNR12
 refine wp_seq_k fun K13 hK13=>wp_region_lit (wl (xN 1 7 (t:=95) (fun b=>.pointer (some ⟨b,0,none⟩)) #[.slice A ge.length gc,iv cyc,iv per,iv sh,iv 0,.slice Aq 8 gq,.bool false,iv 0,iv 0,iv 0,iv 0,iv 0,iv 0,.bool false,iv 0,iv 0,iv 0] hF1 hM fun bb4 a1 w hF1 hM=>xB 1 [(2,.bool false)] hF1 fun a1 hF1=>wpList_nil (hK13 _ _ (wp_seq_k fun K14 hK14=>wp_seq_k fun K15 hK15=>wp_region_lit (xB 2 [(8,pt bb4 0),(9,pt bb4 5)] hF1 fun a1 hF1=>wl (xL 10 7 5 (v:=.slice Aq 8 gq) hF1 hM fun a1 w hF1 hM=>xB 1 [(11,iv 8)] hF1 fun a1 hF1=>?_))))))
 refine wl (xP 12 (v0:=.bool (!decide (8=8))) (v:=.bool false) hF1 (nT (by omega)) fun a1 hF1=>wpList_nil (hK15 _ _ (xF hF1 (wp_skip (hK14 _ _ (wp_seq_k fun K16 hK16=>wp_region_lit (xB 1 [(3,iv 0)] hF1 fun a1 hF1=>wpList_nil (hK16 _ _ (wp_seq_k fun K17 hK17=>?_)))))))))
 refine wp_seq_k fun K18 hK18=>wp_region_lit (xB 2 [(13,pt bb4 0),(14,pt bb4 5)] hF1 fun a1 hF1=>wl (xL 15 7 5 (v:=.slice Aq 8 gq) hF1 hM fun a1 w hF1 hM=>xB 2 [(16,iv 8),(17,iv 0)] hF1 fun a1 hF1=>wpList_nil (hK18 _ _ (wp_block (wp_loop_k (G:=Nat) (fun gg a w=>Fr 54 [(3,some (iv 0)),(17,some (iv (gg:Int))),(1,some (pt bb4 0)),(15,some (.slice Aq 8 gq)),(16,some (iv 8))] a ∧ Mem w0.heap.size w0 [(1,some (.ro A (flat2 ge))),(3,some (.ro Aq (qcells 8 cap qa Q qg))),(4,some (.row bb1 52 #[.slice A ge.length gc,iv cyc,iv per,iv sh,iv 0,.slice Aq 8 gq,.bool false,iv 0,iv 0,iv 0,iv 0,iv 0,iv 0,.bool false,iv 0,iv 0,iv 0])),(5,some (.row bb2 95 #[.slice A ge.length gc,iv cyc,iv per,iv sh,iv 0,.slice Aq 8 gq,.bool false,iv 0,iv 0,iv 0,iv 0,iv 0,iv 0,.bool false,iv 0,iv 0,iv 0])),(7,some (.row bb4 95 #[.slice A ge.length gc,iv cyc,iv per,iv sh,iv 0,.slice Aq 8 gq,.bool false,iv 0,iv 0,iv 0,iv 0,iv 0,iv 0,.bool false,iv 0,iv 0,iv 0]))] w ∧ ((gg:Int) ≤ 8)) (fun gg=>8 - gg) (0) ?_ ?_)))))
 ·refine ⟨((((((Fr.nil hF1).c hF1 (i:=16) rfl rfl).c hF1 (i:=15) rfl rfl).c hF1 (i:=1) rfl rfl).c hF1 (i:=17) rfl (vi (show (0:Int)=(0:Int) from by omega))).c hF1 (i:=3) rfl rfl),(hM.sub (((((Sub.nil.c (k:=7) rfl rfl).c (k:=5) rfl rfl).c (k:=4) rfl rfl).c (k:=3) rfl rfl).c (k:=1) rfl rfl)),(show (0:Int) ≤ 8 from by omega)⟩
 intro gg a1 w hI
 intro K19 hK19
 obtain ⟨k,rfl⟩:∃ x,x=gg:=⟨_,rfl⟩
 try dsimp only at hI hK19
 obtain ⟨hF1,hM,hz1⟩:=hI
 refine wp_seq_k fun K20 hK20=>wp_region_lit (xB 1 [(18,.bool (decide ((k:Int) < 8)))] hF1 fun a1 hF1=>wpList_nil (hK20 _ _ (wp_seq_k fun K21 hK21=>?_)))
 by_cases hz2:(k:Int) < 8
 ·replace hF1:=hF1.c hF1 (i:=18) (v:=.bool true) rfl (bT hz2)
  refine xT hF1 (wp_skip (hK21 _ _ (wp_seq_k fun K22 hK22=>wp_block (wp_seq_k fun K23 hK23=>wp_region_lit (xB 1 [(19,iv (k:Int))] hF1 fun a1 hF1=>wl (xM 20 (v:=.pointer (some (ea Aq (k * 2)))) hF1 hM (yld_ix (kd:=.i64) (e:=82) (len:=8) (cap:=gq) (i:=(k:Int)) (size:=2) (A:=Aq) hF1 rfl (by kernel_rfl) (by kernel_rfl) (by kernel_rfl) (by kernel_rfl) (by kernel_rfl) (roK 3 rfl) (by omega) (by omega) (by rw [qcells_length]; (try simp only [List.length_map,List.length_append,List.length_replicate,List.length_set,List.length_cons,List.length_nil,flat2_length,List.length_take]); omega)) fun a1 w hF1 hM=>?_))))))
  replace hM:=hM.addOld 8 (hqs k (by omega)).2.2.1 (Nat.le_refl _)
  refine wl (xM 21 (v:=.agg #[iv (cap k),.slice (qa k) ((Q k).length) (qg k)]) hF1 hM (yld_roM (A:=Aq) (j:=k * 2) (us:=[iv (cap k),.slice (qa k) ((Q k).length) (qg k)]) hF1 rfl (by kernel_rfl) (by kernel_rfl) (roK 3 rfl) (by kernel_rfl) rfl (qcells_sub (k:=k) (by omega) rfl)) fun a1 w hF1 hM=>wl (xN 5 9 (t:=82) (fun b=>.pointer (some ⟨b,0,none⟩)) #[iv 0,.slice none 0 0] hF1 hM fun bb5 a1 w hF1 hM=>xB 1 [(4,iv (k:Int))] hF1 fun a1 hF1=>?_))
  refine wl (xS 9 0 #[iv (cap k),.slice (qa k) ((Q k).length) (qg k)] hF1 hM fun w hM=>wpList_nil (hK23 _ _ (wp_seq_k fun K24 hK24=>wp_seq_k fun K25 hK25=>wp_region_lit (wl (xL 22 9 0 (v:=.agg #[iv (cap k),.slice (qa k) ((Q k).length) (qg k)]) hF1 hM fun a1 w hF1 hM=>wl (xM 23 (v:=iv 0) hF1 hM (xC 69 #[.agg #[iv (cap k),.slice (qa k) ((Q k).length) (qg k)]] hF1 (fun w hM=>qChk_w (cap k) (qa k) (Q k) (qg k) w (hM.ok 8 _ rfl) (hqs k (by omega)).1 (hv k (by omega)))) fun a1 w hF1 hM=>wl (xP 24 (v0:=.bool (!decide (0=0))) (v:=.bool false) hF1 (nT (by omega)) fun a1 hF1=>wpList_nil (hK25 _ _ (xF hF1 ?_)))))))))
  refine wp_skip (hK24 _ _ (wp_seq_k fun K26 hK26=>?_))
  have hl0:(Q k).length=0:=by rw [hQ0 k (by omega)]; rfl
  refine wp_region_lit (xB 1 [(25,pt bb5 1)] hF1 fun a1 hF1=>wl (xL 26 9 1 (v:=.slice (qa k) ((Q k).length) (qg k)) hF1 hM fun a1 w hF1 hM=>xB 2 [(27,iv ((Q k).length:Int)),(28,iv 0)] hF1 fun a1 hF1=>wpList_nil (hK26 _ _ (wp_block (wp_loop_rounds 1 (rounds_k fun K27 hK27=>wp_seq_k fun K28 hK28=>wp_region_lit (wl (xP 29 (v0:=.bool (decide (0 < ((Q k).length:Int)))) (v:=.bool false) hF1 (bF (by omega)) fun a1 hF1=>?_))))))))
  refine wpList_nil (hK28 _ _ (wp_seq_k fun K29 hK29=>xF hF1 (wp_exit (hK22 _ _ (wp_region_lit (wl (xP 42 (v0:=.int .i64 (IntKind.i64.wrap ((k:Int) + 1))) (v:=iv ((k:Int) + 1)) hF1 (wi (by omega)) fun a1 hF1=>xB 1 [(17,iv ((k:Int) + 1))] hF1 fun a1 hF1=>wpList_nil (hK19 _ _ ⟨(k + 1),⟨((((((Fr.nil hF1).c hF1 (i:=16) rfl rfl).c hF1 (i:=15) rfl rfl).c hF1 (i:=1) rfl rfl).c hF1 (i:=17) rfl (vi (show ((k:Int) + 1:Int)=((k + 1):Int) from by omega))).c hF1 (i:=3) rfl rfl),(hM.sub (((((Sub.nil.c (k:=7) rfl rfl).c (k:=5) rfl rfl).c (k:=4) rfl rfl).c (k:=3) rfl rfl).c (k:=1) rfl rfl)),(show ((k + 1):Int) ≤ 8 from by omega)⟩,(show 8 - (k + 1) < 8 - k from by omega)⟩))))))))
 replace hF1:=hF1.c hF1 (i:=18) (v:=.bool false) rfl (bF hz2)
 refine xF hF1 (wp_exit (hK17 _ _ (wp_seq_k fun K30 hK30=>wp_region_lit (xB 1 [(43,iv 0)] hF1 fun a1 hF1=>wl (xP 44 (v0:=.bool (decide (0=0))) (v:=.bool true) hF1 (bT (by omega)) fun a1 hF1=>xB 10 [(45,.bool true),(46,undef),(47,undef),(48,undef),(49,undef),(50,undef),(51,undef),(52,undef),(53,.bool true),(2,.bool true)] hF1 fun a1 hF1=>wpList_nil (hK30 _ _ (wp_ret (hR12 _ _ ?_))))))))
 refine ret_of hF1 hM (.tmp rfl (.nil)) ⟨_,rfl,?_⟩
 intro a hF
 refine xB 2 [(26,.bool false),(27,.bool false)] hF fun a hF=>wpList_nil (hK6 _ _ (xF hF (wp_skip (hK4 _ _ (wp_seq_k fun K31 hK31=>wp_region_lit (xB 1 [(2,iv 0)] hF fun a hF=>wpList_nil (hK31 _ _ (wp_ret ?_))))))))
 refine hR0 _ _ (ret_of hF hM (.tmp rfl (.nil)) (⟨rfl,hM.bel⟩))
set_option maxHeartbeats 4000000 in
theorem pNew_w (A:Option Addr) (ge:List (Int × Int)) (gc:Nat) (cyc:Int) (per sh:Int) (cA:Option Addr) (cl:List Int) (cg:Nat) (w0:World) (hA:Ro w0 A (flat2 ge)) (hga:gaE ge cyc=0) (hln:lnP per sh) (hC:Ro w0 cA (cl.map (Value.int .i64))) (hcl:cl.length=8) (hcb:∀ k,k < 8 → 0 ≤ nt cl k ∧ nt cl k ≤ 65536) :
    Calls Tryz.prog 8 #[.agg #[.slice A ge.length gc,iv cyc,iv per,iv sh],.slice cA 8 cg] w0 (RetQ w0 (fun _=>False) (fun s=>.tuple #[.agg #[.slice A ge.length gc,.int .i64 cyc,.int .i64 per,.int .i64 sh,.int .i64 0,s,.bool false,.int .i64 0,.int .i64 0,.int .i64 0,.int .i64 0,.int .i64 0,.int .i64 0,.bool false,.int .i64 0,.int .i64 0,.int .i64 0],.int .i64 0]) (fun c=>nt cl c) (fun _=>[])):=by
 obtain ⟨hp1,hp2,hs1,hs2⟩:=hln
 have hgp:=(ga_p hga).2.2.1
 have hgs:=ga_pos hga
 refine enterK 45 Tryz.func8 rfl rfl rfl ?_
 intro a hF Q0 hR0 hN0
 have hM:=Mem.start w0
 replace hM:=hM.addOld 1 hA (Nat.le_refl _)
 replace hM:=hM.addOld 2 hC (Nat.le_refl _)
 refine wp_seq_k fun K1 hK1=>wp_region_lit (wl (xN 2 3 (t:=45) (fun b=>.pointer (some ⟨b,0,none⟩)) #[.slice A ge.length gc,iv cyc,iv per,iv sh] hF hM fun bb1 a w hF hM=>wl (xN 4 4 (t:=52) (fun b=>.pointer (some ⟨b,0,none⟩)) #[.slice none 0 0,iv 0,iv 0,iv 0,iv 0,.slice none 0 0,.bool false,iv 0,iv 0,iv 0,iv 0,iv 0,iv 0,.bool false,iv 0,iv 0,iv 0] hF hM fun bb2 a w hF hM=>xB 1 [(5,iv 0)] hF fun a hF=>wpList_nil (hK1 _ _ (wp_seq_k fun K2 hK2=>wp_seq_k fun K3 hK3=>wp_region_lit (wl (xL 12 3 0 (v:=.agg #[.slice A ge.length gc,iv cyc,iv per,iv sh]) hF hM fun a w hF hM=>wl (xM 13 (v:=iv 0) hF hM (xC 26 #[.agg #[.slice A ge.length gc,iv cyc,iv per,iv sh]] hF (fun w hM=>ckLine_w A ge gc cyc per sh w (hM.ok 1 _ rfl) hga ⟨hp1,hp2,hs1,hs2⟩)) fun a w hF hM=>?_))))))))
 refine xB 1 [(6,iv 0)] hF fun a hF=>wpList_nil (hK3 _ _ (wp_seq_k fun K4 hK4=>wp_region_lit (xB 1 [(14,iv 0)] hF fun a hF=>wl (xP 15 (v0:=.bool (!decide (0=0))) (v:=.bool false) hF (nT (by omega)) fun a hF=>wpList_nil (hK4 _ _ (xF hF (wp_skip (hK2 _ _ ?_))))))))
 refine wp_seq_k fun K5 hK5=>wp_seq_k fun K6 hK6=>wp_region_lit (xB 2 [(18,.slice cA 8 cg),(19,iv 8)] hF fun a hF=>wl (xP 20 (v0:=.bool (!decide (8=8))) (v:=.bool false) hF (nT (by omega)) fun a hF=>wpList_nil (hK6 _ _ (xF hF (wp_skip (hK5 _ _ (wp_seq_k fun K7 hK7=>wp_region_lit ?_)))))))
 refine wl (sMake0 22 5 8 (e:=82) (size:=2) (bytes:=32) (z:=.agg #[iv 0,.slice none 0 0]) hF hM (by kernel_rfl) rfl (by kernel_rfl) (by kernel_rfl) (by kernel_rfl) (by omega) (by unfold maxLen; omega) fun bb3 a w hF hM=>xB 1 [(7,.slice (some ⟨bb3,0,none⟩) 0 8)] hF fun a hF=>wpList_nil (hK7 _ _ (wp_seq_k fun K8 hK8=>wp_seq_k fun K9 hK9=>wp_region_lit (xB 3 [(23,.slice cA 8 cg),(24,iv 8),(25,iv 0)] hF fun a hF=>wpList_nil (hK9 _ _ (wp_block (wp_loop_k (G:=Nat × Option Addr × Nat) (fun gg a w=>Fr 45 [(7,some (.slice gg.2.1 gg.1 gg.2.2)),(25,some (iv (gg.1:Int))),(2,some (pt bb1 0)),(4,some (pt bb2 0)),(23,some (.slice cA 8 cg)),(24,some (iv 8))] a ∧ Mem w0.heap.size w0 [(1,some (.ro A (flat2 ge))),(2,some (.ro cA (cl.map (Value.int .i64)))),(3,some (.row bb1 45 #[.slice A ge.length gc,iv cyc,iv per,iv sh])),(4,some (.row bb2 52 #[.slice none 0 0,iv 0,iv 0,iv 0,iv 0,.slice none 0 0,.bool false,iv 0,iv 0,iv 0,iv 0,iv 0,iv 0,.bool false,iv 0,iv 0,iv 0])),(5,some (.own (.slice gg.2.1 gg.1 gg.2.2) 82 2 gg.1 (qcells gg.1 (fun c=>nt cl c) (fun _=>none) (fun _=>[]) (fun _=>0))))] w ∧ ((gg.1:Int) ≤ 8)) (fun gg=>8 - gg.1) (0,(some ⟨bb3,0,none⟩),8) ?_ ?_)))))))
 ·refine ⟨(((((((Fr.nil hF).c hF (i:=24) rfl rfl).c hF (i:=23) rfl rfl).c hF (i:=4) rfl rfl).c hF (i:=2) rfl rfl).c hF (i:=25) rfl (vi (show (0:Int)=(0:Int) from by omega))).c hF (i:=7) rfl rfl),(hM.sub (((((Sub.nil.c (k:=5) rfl rfl).c (k:=4) rfl rfl).c (k:=3) rfl rfl).c (k:=2) rfl rfl).c (k:=1) rfl rfl)),(show (0:Int) ≤ 8 from by omega)⟩
 intro gg a w hI
 intro K10 hK10
 obtain ⟨k,qA,qc_⟩:=gg
 try dsimp only at hI hK10
 obtain ⟨hF,hM,hz1⟩:=hI
 refine wp_seq_k fun K11 hK11=>wp_region_lit (xB 1 [(26,.bool (decide ((k:Int) < 8)))] hF fun a hF=>wpList_nil (hK11 _ _ (wp_seq_k fun K12 hK12=>?_)))
 by_cases hz2:(k:Int) < 8
 ·replace hF:=hF.c hF (i:=26) (v:=.bool true) rfl (bT hz2)
  refine xT hF (wp_skip (hK12 _ _ (wp_seq_k fun K13 hK13=>wp_block (wp_seq_k fun K14 hK14=>wp_region_lit (wl (xM 27 (v:=.pointer (some (ea cA (k)))) hF hM (yld_ix (kd:=.i64) (e:=3) (len:=8) (cap:=cg) (i:=(k:Int)) (size:=1) (A:=cA) hF rfl (by kernel_rfl) (by kernel_rfl) (by kernel_rfl) (by kernel_rfl) (by kernel_rfl) (roK 2 rfl) (by omega) (by omega) (by rw [List.length_map]; omega)) fun a w hF hM=>wl (xM 28 (v:=iv (nt cl k)) hF hM (yld_ro1 (A:=cA) (j:=k) hF rfl (by kernel_rfl) (by kernel_rfl) (roK 2 rfl) (by kernel_rfl) (nt_at (by omega))) fun a w hF hM=>?_)))))))
  have:=hcb k (by omega)
  refine xB 1 [(9,iv (nt cl k))] hF fun a hF=>wpList_nil (hK14 _ _ (wp_seq_k fun K15 hK15=>wp_region_lit (xB 1 [(30,iv (nt cl k))] hF fun a hF=>wl (xM 31 (v:=.tuple #[.agg #[iv (nt cl k),.slice none 0 0],iv 0]) hF hM (xC 27 #[iv (nt cl k)] hF (fun w hM=>qNew_w (nt cl k) w (by omega))) fun a w hF hM=>xB 3 [(29,.tuple #[.agg #[iv (nt cl k),.slice none 0 0],iv 0]),(32,.agg #[iv (nt cl k),.slice none 0 0]),(33,iv 0)] hF fun a hF=>wl (xN 10 6 (t:=82) (fun b=>.pointer (some ⟨b,0,none⟩)) #[iv 0,.slice none 0 0] hF hM fun bb4 a w hF hM=>?_)))))
  refine wl (xS 6 0 #[iv (nt cl k),.slice none 0 0] hF hM fun w hM=>xB 1 [(11,iv 0)] hF fun a hF=>wpList_nil (hK15 _ _ (wp_seq_k fun K16 hK16=>wp_seq_k fun K17 hK17=>wp_region_lit (xB 1 [(34,iv 0)] hF fun a hF=>wl (xP 35 (v0:=.bool (!decide (0=0))) (v:=.bool false) hF (nT (by omega)) fun a hF=>wpList_nil (hK17 _ _ (xF hF ?_)))))))
  refine wp_skip (hK16 _ _ (wp_region_lit (xB 1 [(37,.slice qA k qc_)] hF fun a hF=>wl (xL 38 6 0 (v:=.agg #[iv (nt cl k),.slice none 0 0]) hF hM fun a w hF hM=>wl (xN 39 7 (t:=82) (fun b=>.slice (some ⟨b,0,none⟩) 1 1) #[iv (nt cl k),.slice none 0 0] hF hM fun bb5 a w hF hM=>wl (sApp 40 5 (e:=82) (size:=2) (bytes:=32) (z:=.agg #[iv 0,.slice none 0 0]) (m:=1) (c:=1) (l:=k) (cap:=qc_) (A:=qA) (news:=[iv (nt cl k),.slice none 0 0]) (qcells (k + 1) (fun c=>nt cl c) (fun _=>none) (fun _=>[]) (fun _=>0)) hF hM (by kernel_rfl) rfl (by kernel_rfl) (by kernel_rfl) (by kernel_rfl) rfl rfl rfl rfl (roR 7 rfl) (by simp [Value.oneCell']) (by omega) (by decide) (qcells_succ _).symm fun AA6 cc6 a w hF hM=>xB 1 [(7,.slice AA6 (k + 1) cc6)] hF fun a hF=>wpList_nil (hK13 _ _ (wp_region_lit (wl (xP 41 (v0:=.int .i64 (IntKind.i64.wrap ((k:Int) + 1))) (v:=iv ((k:Int) + 1)) hF (wi (by omega)) fun a hF=>?_))))))))))
  refine xB 1 [(25,iv ((k:Int) + 1))] hF fun a hF=>wpList_nil (hK10 _ _ ⟨(k + 1,AA6,cc6),⟨(((((((Fr.nil hF).c hF (i:=24) rfl rfl).c hF (i:=23) rfl rfl).c hF (i:=4) rfl rfl).c hF (i:=2) rfl rfl).c hF (i:=25) rfl (vi (show ((k:Int) + 1:Int)=((k + 1):Int) from by omega))).c hF (i:=7) rfl rfl),(hM.sub (((((Sub.nil.c (k:=5) rfl rfl).c (k:=4) rfl rfl).c (k:=3) rfl rfl).c (k:=2) rfl rfl).c (k:=1) rfl rfl)),(show ((k + 1):Int) ≤ 8 from by omega)⟩,(show 8 - (k + 1) < 8 - k from by omega)⟩)
 replace hF:=hF.c hF (i:=26) (v:=.bool false) rfl (bF hz2)
 refine xF hF (wp_exit (hK8 _ _ (wp_seq_k fun K18 hK18=>wp_region_lit (wl (xL 42 3 0 (v:=.agg #[.slice A ge.length gc,iv cyc,iv per,iv sh]) hF hM fun a w hF hM=>xB 2 [(43,.slice qA k qc_),(44,.agg #[.slice A ge.length gc,iv cyc,iv per,iv sh,iv 0,.slice qA k qc_,.bool false,iv 0,iv 0,iv 0,iv 0,iv 0,iv 0,.bool false,iv 0,iv 0,iv 0])] hF fun a hF=>wl (xS 4 0 #[.slice A ge.length gc,iv cyc,iv per,iv sh,iv 0,.slice qA k qc_,.bool false,iv 0,iv 0,iv 0,iv 0,iv 0,iv 0,.bool false,iv 0,iv 0,iv 0] hF hM fun w hM=>xB 1 [(5,iv 0)] hF fun a hF=>wpList_nil (hK18 _ _ (wp_ret ?_))))))))
 refine hR0 _ _ (ret_of hF hM (.cell (i:=4) rfl rfl (v:=.agg #[.slice A ge.length gc,iv cyc,iv per,iv sh,iv 0,.slice qA k qc_,.bool false,iv 0,iv 0,iv 0,iv 0,iv 0,iv 0,.bool false,iv 0,iv 0,iv 0]) (by kernel_rfl) (.tmp rfl (.nil))) ?_)
 obtain rfl:k=8:=by omega
 exact retQ_new (mk:=(fun s=>.tuple #[.agg #[.slice A ge.length gc,.int .i64 cyc,.int .i64 per,.int .i64 sh,.int .i64 0,s,.bool false,.int .i64 0,.int .i64 0,.int .i64 0,.int .i64 0,.int .i64 0,.int .i64 0,.bool false,.int .i64 0,.int .i64 0,.int .i64 0],.int .i64 0])) (k:=5) hM rfl
end Go.Proofs.YtlngflbamkgjlaaGreat
namespace Go.Proofs.YtlngflbamkgjlaaGreat
open Go.RowKit
set_option linter.unusedVariables false
set_option linter.unusedSimpArgs false
set_option maxRecDepth 100000
structure PS where
  now:Int
  bz:Int
  x0:Int
  x1:Int
  x2:Int
  x3:Int
  x4:Int
  x5:Int
  x6:Int
  bg:Int
  fn:Int
  rs:Int
  Q:Nat → List (List Int)
  l:List (List Int)
  g:List (List Int)
def nxS (ge:List (Int × Int)) (cyc per sh:Int) (s:PS):Option Int:=if s.bz=1 then some s.fn else whG (fun c=>whnO ge cyc per sh (hdL s.Q) s.now c) 8
def tmS (ge:List (Int × Int)) (cyc per sh:Int) (s:PS):Option Int:=if 1 ≤ s.l.length ∧ (nxS ge cyc per sh s=none ∨ rc s.l 0 0 < (nxS ge cyc per sh s).getD 0) then some (rc s.l 0 0) else nxS ge cyc per sh s
structure WFS (cap:Nat → Int) (un:Int) (s:PS):Prop where
  hv:∀ c,c < 8 → qkE (cap c) (s.Q c)=0
  hh:hdP (hdL s.Q)
  hn:0 ≤ s.now ∧ s.now ≤ un
  he:s.bz=1 → s.rs ≠ 0 → ckP s.x0 s.x1 s.x2 s.x3 s.x4 s.rs 1=0 ∧ (1 ≤ (s.Q s.x2.toNat).length → rc (s.Q s.x2.toNat) 0 6 ≠ 1)
  hl:∀ k,k < s.l.length → ckI (rc s.l k 1) (rc s.l k 2) (rc s.l k 3) (rc s.l k 4) (rc s.l k 5)=0
  hg:s.g.length ≤ 50 ∧ WR 6 s.g
def pcS (ge:List (Int × Int)) (cyc per sh:Int) (s:PS) (t:Int):Prop:=s.x2 < 6 ∧ s.rs=0 ∧ prP ge cyc per sh (hdL s.Q) s.x5 s.bg t
structure RunSteps (ge:List (Int × Int)) (cyc per sh:Int) (cap:Nat → Int) (un:Int) (J:PS → Prop) (J1:Int → PS → Prop):Prop where
  wf:∀ s,J s → WFS cap un s
  wf1:∀ t s,J1 t s → WFS cap un s ∧ (0 ≤ t ∧ t ≤ un) ∧ (s.bz=1 → s.rs=0 → (84 ≤ s.x5 ∧ s.x5 ≤ 1542) ∧ 0 ≤ s.bg ∧ s.bg ≤ t ∧ t ≤ s.bg + s.x5 * per)
  le:∀ s t,J s → tmS ge cyc per sh s=some t → s.now ≤ t
  e0:∀ s t,J s → tmS ge cyc per sh s=some t → t ≤ un → ¬ (s.bz=1 ∧ s.fn=t) → J1 t s
  e1:∀ s t,J s → tmS ge cyc per sh s=some t → t ≤ un → s.bz=1 → s.fn=t → s.rs=0 → J1 t ⟨t,0,0,0,0,0,0,0,0,0,0,0,s.Q,s.l,s.g ++ [[t,s.x0,s.x1,s.x2,s.x3,s.x4]]⟩
  e2:∀ s t,J s → tmS ge cyc per sh s=some t → t ≤ un → s.bz=1 → s.fn=t → s.rs ≠ 0 → J1 t ⟨t,0,0,0,0,0,0,0,0,0,0,0,upd s.Q s.x2.toNat ([[s.x0,s.x1,s.x2,s.x3,s.x4,s.rs,1]] ++ s.Q s.x2.toNat),s.l,s.g⟩
  ar:∀ s t,J1 t s → 1 ≤ s.l.length → rc s.l 0 0=t → J1 t { s with now:=t,Q:=arQ cap s.Q (rc s.l 0 3).toNat [rc s.l 0 1,rc s.l 0 2,rc s.l 0 3,rc s.l 0 4,rc s.l 0 5,rc s.l 0 4,0] (rc s.l 0 4),l:=s.l.tail }
  c0:∀ s t,J1 t s → ¬ (1 ≤ s.l.length ∧ rc s.l 0 0=t) → s.bz ≠ 1 → stF (fun c=>mayP ge cyc per sh (hdL s.Q) c t) 8=none → J { s with now:=t } ∧ tmS ge cyc per sh { s with now:=t } ≠ some t
  c1:∀ s t c,J1 t s → ¬ (1 ≤ s.l.length ∧ rc s.l 0 0=t) → s.bz ≠ 1 → stF (fun c=>mayP ge cyc per sh (hdL s.Q) c t) 8=some c →
    J ⟨t,1,rc (s.Q c) 0 0,rc (s.Q c) 0 1,rc (s.Q c) 0 2,rc (s.Q c) 0 3,rc (s.Q c) 0 4,rc (s.Q c) 0 5,rc (s.Q c) 0 6,t,t + rc (s.Q c) 0 5 * per,0,upd s.Q c (s.Q c).tail,s.l,s.g⟩ ∧
    tmS ge cyc per sh ⟨t,1,rc (s.Q c) 0 0,rc (s.Q c) 0 1,rc (s.Q c) 0 2,rc (s.Q c) 0 3,rc (s.Q c) 0 4,rc (s.Q c) 0 5,rc (s.Q c) 0 6,t,t + rc (s.Q c) 0 5 * per,0,upd s.Q c (s.Q c).tail,s.l,s.g⟩ ≠ some t
  c2:∀ s t,J1 t s → ¬ (1 ≤ s.l.length ∧ rc s.l 0 0=t) → s.bz=1 → pcS ge cyc per sh s t → J { s with now:=t,fn:=prE per s.bg t,rs:=s.x5 - prK per s.bg t + 24 } ∧ tmS ge cyc per sh { s with now:=t,fn:=prE per s.bg t,rs:=s.x5 - prK per s.bg t + 24 } ≠ some t
  c3:∀ s t,J1 t s → ¬ (1 ≤ s.l.length ∧ rc s.l 0 0=t) → s.bz=1 → ¬ pcS ge cyc per sh s t → J { s with now:=t } ∧ tmS ge cyc per sh { s with now:=t } ≠ some t
def muS (ge:List (Int × Int)) (cyc per sh un:Int) (s:PS):Nat:=2 * (un + 1 - s.now).toNat + if tmS ge cyc per sh s=some s.now then 1 else 0
theorem mu_lt {ge:List (Int × Int)} {cyc per sh un t:Int} {s s':PS} (h:tmS ge cyc per sh s=some t) (h1:s.now ≤ t) (h2:t ≤ un) (hn:s'.now=t) (h3:tmS ge cyc per sh s' ≠ some t):muS ge cyc per sh un s' < muS ge cyc per sh un s:=by
  unfold muS
  rw [hn,if_neg h3]
  by_cases e:s.now=t
  · rw [e,if_pos h]; omega
  · split <;> omega
theorem tm_come {ge:List (Int × Int)} {cyc per sh x e:Int} {s:PS} (hl:1 ≤ s.l.length) (hx:(nxS ge cyc per sh s).getD 0=x) (he:eO (nxS ge cyc per sh s)=e) (h:e ≠ 0 ∨ rc s.l 0 0 < x):tmS ge cyc per sh s=some (rc s.l 0 0):=by
  unfold tmS
  refine if_pos ⟨hl,?_⟩
  cases hn:nxS ge cyc per sh s with
  | none => exact .inl rfl
  | some y =>
    rw [hn] at hx he
    refine .inr ?_
    simp [eO] at hx he
    simp only [Option.getD_some]
    rcases h with h | h <;> omega
theorem tm_next {ge:List (Int × Int)} {cyc per sh x e:Int} {s:PS} (hx:(nxS ge cyc per sh s).getD 0=x) (he:eO (nxS ge cyc per sh s)=e) (h0:e=0) (h:¬ 1 ≤ s.l.length ∨ ¬ rc s.l 0 0 < x):tmS ge cyc per sh s=some x:=by
  subst h0
  obtain ⟨y,hy⟩:=eO_0 he
  unfold tmS
  rw [hy] at hx ⊢
  simp only [Option.getD_some] at hx ⊢
  subst hx
  refine if_neg fun z=>?_
  rcases z with ⟨z1,z2 | z2⟩
  · cases z2
  · rcases h with h | h <;> omega
theorem tm_none {ge:List (Int × Int)} {cyc per sh e:Int} {s:PS} (he:eO (nxS ge cyc per sh s)=e) (h0:e ≠ 0) (hl:¬ 1 ≤ s.l.length):tmS ge cyc per sh s=none:=by
  unfold tmS
  rw [if_neg fun z=>hl z.1]
  cases hn:nxS ge cyc per sh s with
  | none => rfl
  | some y => rw [hn] at he; exact absurd he.symm h0
def stopS (ge:List (Int × Int)) (cyc per sh un:Int) (s:PS):Prop:=tmS ge cyc per sh s=none ∨ ∃ t,tmS ge cyc per sh s=some t ∧ un < t
def RunR (A:Option Addr) (ge:List (Int × Int)) (gc:Nat) (cyc per sh un:Int) (J:PS → Prop) (w:World) (en:Ending) (w':World):Prop :=
  ∃ (s:PS) (Aq:Option Addr) (gq:Nat) (gA:Option Addr) (gg:Nat),J s ∧ stopS ge cyc per sh un s ∧ en=.returned (.tuple #[.agg #[.slice A ge.length gc,.int .i64 cyc,.int .i64 per,.int .i64 sh,.int .i64 un,.slice Aq 8 gq,.bool (decide (s.bz=1)),.int .i64 s.x0,.int .i64 s.x1,.int .i64 s.x2,.int .i64 s.x3,.int .i64 s.x4,.int .i64 s.x5,.bool (decide (s.x6=1)),.int .i64 s.bg,.int .i64 s.fn,.int .i64 s.rs],.slice gA s.g.length gg,.int .i64 0]) ∧ WR 6 s.g ∧ Ro w' gA (flatR s.g) ∧ (∀ b,(Ent.ro gA (flatR s.g)).blk=some b → w.heap.size ≤ b) ∧ Below w.heap.size w w'
theorem next_w (A : Option Addr) (ge : List (Int × Int)) (gc : Nat) (cyc : Int) (per sh : Int) (Sq : Nat → Prop) (Aq : Option Addr) (gq : Nat) (cap : Nat → Int) (Q : Nat → List (List Int)) (now bz x0 x1 x2 x3 x4 x5 x6 bg fn rs : Int) (l g : List (List Int))  (w0 : World) (hA : Ro w0 A (flat2 ge)) (hq : QM Sq Aq cap Q w0) (hv : ∀ c, c < 8 → qkE (cap c) (Q c) = 0) (hga : gaE ge cyc = 0) (hln : lnP per sh) (hh : hdP (hdL Q)) (ht : 0 ≤ now ∧ now ≤ 549755813888) : Calls Tryz.prog 55 #[.agg #[.slice A ge.length gc, iv cyc, iv per, iv sh, iv now, .slice Aq 8 gq, .bool (decide (bz = 1)), iv x0, iv x1, iv x2, iv x3, iv x4, iv x5, .bool (decide (x6 = 1)), iv bg, iv fn, iv rs]] w0 (Ret w0 (.tuple #[.int .i64 ((nxS ge cyc per sh ⟨now, bz, x0, x1, x2, x3, x4, x5, x6, bg, fn, rs, Q, l, g⟩).getD 0), .int .i64 (eO (nxS ge cyc per sh ⟨now, bz, x0, x1, x2, x3, x4, x5, x6, bg, fn, rs, Q, l, g⟩))])) := by
  by_cases hb:bz=1
  · have:=next_busy A ge gc cyc per sh Sq Aq gq cap Q now bz x0 x1 x2 x3 x4 x5 x6 bg fn rs w0 hA hq hv hb
    simp only [nxS,if_pos hb]
    exact this
  · have:=next_idle A ge gc cyc per sh Sq Aq gq cap Q now bz x0 x1 x2 x3 x4 x5 x6 bg fn rs w0 hA hq hv hga hln hh ht hb
    simp only [nxS,if_neg hb]
    exact this
end Go.Proofs.YtlngflbamkgjlaaGreat
namespace Go.Proofs.YtlngflbamkgjlaaGreat
open Go.RowKit
set_option linter.unusedVariables false
set_option linter.unusedSimpArgs false
set_option maxRecDepth 100000
set_option maxHeartbeats 4000000 in
theorem ckRun_w (A:Option Addr) (ge:List (Int × Int)) (gc:Nat) (cyc:Int) (per sh:Int) (Aq:Option Addr) (gq:Nat) (ca:Option Addr) (l:List (List Int)) (cc:Nat) (un:Int) (w0:World) (hL:Ro w0 ca (flatE cE l)) (hcc:l.length ≤ cc) (hcm:cmP l un) (hun:0 ≤ un ∧ un ≤ 549755813888) (hlen:l.length ≤ 40) :
    Calls Tryz.prog 30 #[.agg #[.slice A ge.length gc,iv cyc,iv per,iv sh,iv 0,.slice Aq 8 gq,.bool false,iv 0,iv 0,iv 0,iv 0,iv 0,iv 0,.bool false,iv 0,iv 0,iv 0],.slice ca l.length cc,iv un] w0 (Ret w0 (.int .i64 0)):=by
 refine enterK 55 Tryz.func30 rfl rfl rfl ?_
 intro a hF Q0 hR0 hN0
 have hM:=Mem.start w0
 replace hM:=hM.addOld 2 hL (Nat.le_refl _)
 refine wp_seq_k fun K1 hK1=>wp_region_lit (wl (xN 3 3 (t:=52) (fun b=>.pointer (some ⟨b,0,none⟩)) #[.slice A ge.length gc,iv cyc,iv per,iv sh,iv 0,.slice Aq 8 gq,.bool false,iv 0,iv 0,iv 0,iv 0,iv 0,iv 0,.bool false,iv 0,iv 0,iv 0] hF hM fun bb1 a w hF hM=>xB 1 [(6,iv 0)] hF fun a hF=>wpList_nil (hK1 _ _ (wp_seq_k fun K2 hK2=>wp_region_lit (xB 1 [(13,pt bb1 4)] hF fun a hF=>wl (xL 14 3 4 (v:=iv 0) hF hM fun a w hF hM=>xB 1 [(7,iv 0)] hF fun a hF=>wpList_nil ?_))))))
 refine hK2 _ _ (wp_seq_k fun K3 hK3=>wp_seq_k fun K4 hK4=>wp_region_lit (xB 3 [(15,.slice ca l.length cc),(16,iv (l.length:Int)),(17,iv 0)] hF fun a hF=>wpList_nil (hK4 _ _ (wp_block (wp_loop_k (G:=Nat × Int) (fun gg a w=>Fr 55 [(7,some (iv gg.2)),(17,some (iv (gg.1:Int))),(1,some (.slice ca l.length cc)),(2,some (iv un)),(3,some (pt bb1 0)),(15,some (.slice ca l.length cc)),(16,some (iv (l.length:Int)))] a ∧ Mem w0.heap.size w0 [(2,some (.ro ca (flatE cE l))),(3,some (.row bb1 52 #[.slice A ge.length gc,iv cyc,iv per,iv sh,iv 0,.slice Aq 8 gq,.bool false,iv 0,iv 0,iv 0,iv 0,iv 0,iv 0,.bool false,iv 0,iv 0,iv 0]))] w ∧ ((gg.1:Int) ≤ (l.length:Int)) ∧ (∀ j,j < l.length → gg.1 ≤ j → gg.2 ≤ rc l j 0)) (fun gg=>l.length - gg.1) (0,0) ?_ ?_)))))
 ·refine ⟨((((((((Fr.nil hF).c hF (i:=16) rfl rfl).c hF (i:=15) rfl rfl).c hF (i:=3) rfl rfl).c hF (i:=2) rfl rfl).c hF (i:=1) rfl rfl).c hF (i:=17) rfl (vi (show (0:Int)=(0:Int) from by omega))).c hF (i:=7) rfl rfl),(hM.sub ((Sub.nil.c (k:=3) rfl rfl).c (k:=2) rfl rfl)),(show (0:Int) ≤ (l.length:Int) from by omega),(show ∀ j,j < l.length → 0 ≤ j → 0 ≤ rc l j 0 from by exact fun j hj _=>(hcm.2 j hj).1)⟩
 intro gg a w hI
 intro K5 hK5
 obtain ⟨k,b⟩:=gg
 try dsimp only at hI hK5
 obtain ⟨hF,hM,hz1,hz2⟩:=hI
 refine wp_seq_k fun K6 hK6=>wp_region_lit (xB 1 [(18,.bool (decide ((k:Int) < (l.length:Int))))] hF fun a hF=>wpList_nil (hK6 _ _ (wp_seq_k fun K7 hK7=>?_)))
 by_cases hz3:(k:Int) < (l.length:Int)
 ·replace hF:=hF.c hF (i:=18) (v:=.bool true) rfl (bT hz3)
  refine xT hF (wp_skip (hK7 _ _ (wp_seq_k fun K8 hK8=>wp_block (wp_seq_k fun K9 hK9=>wp_region_lit (wl (xM 19 (v:=.pointer (some (ea ca (k * 6)))) hF hM (yld_ix (kd:=.i64) (e:=63) (len:=l.length) (cap:=cc) (i:=(k:Int)) (size:=6) (A:=ca) hF rfl (by kernel_rfl) (by kernel_rfl) (by kernel_rfl) (by kernel_rfl) (by kernel_rfl) (roK 2 rfl) (by omega) (by omega) (by rw [flatE_length (es:=cE) hcm.1,show cE.length=6 from rfl]; (try simp only [List.length_map,List.length_append,List.length_replicate,List.length_set,List.length_cons,List.length_nil,flat2_length,List.length_take]); omega)) fun a w hF hM=>wl (xM 20 (v:=.agg #[iv (rc l k 0),iv (rc l k 1),iv (rc l k 2),iv (rc l k 3),iv (rc l k 4),iv (rc l k 5)]) hF hM (yld_roM (A:=ca) (j:=k * 6) (us:=[iv (rc l k 0),iv (rc l k 1),iv (rc l k 2),iv (rc l k 3),iv (rc l k 4),iv (rc l k 5)]) hF rfl (by kernel_rfl) (by kernel_rfl) (roK 2 rfl) (by kernel_rfl) rfl (rcE_sub (es:=cE) (k:=k) (f:=0) (m:=6) hcm.1 (by omega) rfl)) fun a w hF hM=>wl (xN 9 4 (t:=63) (fun b=>.pointer (some ⟨b,0,none⟩)) #[iv 0,iv 0,iv 0,iv 0,iv 0,iv 0] hF hM fun bb2 a w hF hM=>?_))))))))
  refine wl (xS 4 0 #[iv (rc l k 0),iv (rc l k 1),iv (rc l k 2),iv (rc l k 3),iv (rc l k 4),iv (rc l k 5)] hF hM fun w hM=>wpList_nil (hK9 _ _ (wp_seq_k fun K10 hK10=>wp_seq_k fun K11 hK11=>?_)))
  have hbk:b ≤ rc l k 0:=‹∀ j,j < l.length → k ≤ j → b ≤ rc l j 0› k (by omega) (Nat.le_refl k)
  have hbu:=hcm.2 k (by omega)
  refine wp_region_lit (xB 1 [(21,pt bb2 0)] hF fun a hF=>wl (xL 22 4 0 (v:=iv (rc l k 0)) hF hM fun a w hF hM=>xB 1 [(23,iv b)] hF fun a hF=>wl (xP 24 (v0:=.bool (decide (rc l k 0 < b))) (v:=.bool false) hF (bF (by omega)) fun a hF=>xB 2 [(25,.bool false),(26,pt bb2 0)] hF fun a hF=>wl (xL 27 4 0 (v:=iv (rc l k 0)) hF hM fun a w hF hM=>xB 1 [(28,iv un)] hF fun a hF=>wl (xP 29 (v0:=.bool (decide (un < rc l k 0))) (v:=.bool false) hF (bF (by omega)) fun a hF=>xB 1 [(30,.bool false)] hF fun a hF=>wpList_nil (hK11 _ _ ?_))))))
  refine xF hF (wp_skip (hK10 _ _ (wp_region_lit (xB 1 [(31,pt bb2 0)] hF fun a hF=>wl (xL 32 4 0 (v:=iv (rc l k 0)) hF hM fun a w hF hM=>xB 1 [(7,iv (rc l k 0))] hF fun a hF=>wpList_nil (hK8 _ _ (wp_region_lit (wl (xP 33 (v0:=.int .i64 (IntKind.i64.wrap ((k:Int) + 1))) (v:=iv ((k:Int) + 1)) hF (wi (by omega)) fun a hF=>xB 1 [(17,iv ((k:Int) + 1))] hF fun a hF=>?_)))))))))
  refine wpList_nil (hK5 _ _ ⟨(k + 1,rc l k 0),⟨((((((((Fr.nil hF).c hF (i:=16) rfl rfl).c hF (i:=15) rfl rfl).c hF (i:=3) rfl rfl).c hF (i:=2) rfl rfl).c hF (i:=1) rfl rfl).c hF (i:=17) rfl (vi (show ((k:Int) + 1:Int)=((k + 1):Int) from by omega))).c hF (i:=7) rfl rfl),(hM.sub ((Sub.nil.c (k:=3) rfl rfl).c (k:=2) rfl rfl)),(show ((k + 1):Int) ≤ (l.length:Int) from by omega),(show ∀ j,j < l.length → (k + 1) ≤ j → (rc l k 0) ≤ rc l j 0 from by exact fun j hj hk=>(hcm.2 j hj).2.2.1 k (by omega))⟩,(show l.length - (k + 1) < l.length - k from by omega)⟩)
 replace hF:=hF.c hF (i:=18) (v:=.bool false) rfl (bF hz3)
 refine xF hF (wp_exit (hK3 _ _ (wp_seq_k fun K12 hK12=>wp_seq_k fun K13 hK13=>wp_region_lit (xB 2 [(34,iv un),(35,pt bb1 4)] hF fun a hF=>wl (xL 36 3 4 (v:=iv 0) hF hM fun a w hF hM=>wl (xP 37 (v0:=.bool (decide (un < 0))) (v:=.bool false) hF (bF (by omega)) fun a hF=>xB 2 [(38,.bool false),(39,iv un)] hF fun a hF=>wl (xP 40 (v0:=.bool (decide (549755813888 < un))) (v:=.bool false) hF (bF (by omega)) fun a hF=>xB 1 [(41,.bool false)] hF fun a hF=>?_)))))))
 refine wpList_nil (hK13 _ _ (xF hF (wp_skip (hK12 _ _ (wp_seq_k fun K14 hK14=>wp_seq_k fun K15 hK15=>wp_region_lit (xB 3 [(42,.slice ca l.length cc),(43,iv (l.length:Int)),(44,iv 0)] hF fun a hF=>wpList_nil (hK15 _ _ (wp_block ?_))))))))
 refine wp_loop_k (G:=Nat) (fun gg a w=>Fr 55 [(44,some (iv (gg:Int))),(42,some (.slice ca l.length cc)),(43,some (iv (l.length:Int)))] a ∧ Mem w0.heap.size w0 [(2,some (.ro ca (flatE cE l)))] w ∧ ((gg:Int) ≤ (l.length:Int))) (fun gg=>l.length - gg) (0) ?_ ?_
 ·refine ⟨((((Fr.nil hF).c hF (i:=43) rfl rfl).c hF (i:=42) rfl rfl).c hF (i:=44) rfl (vi (show (0:Int)=(0:Int) from by omega))),(hM.sub (Sub.nil.c (k:=2) rfl rfl)),(show (0:Int) ≤ (l.length:Int) from by omega)⟩
 intro gg a w hI
 intro K16 hK16
 obtain ⟨q,rfl⟩:∃ x,x=gg:=⟨_,rfl⟩
 try dsimp only at hI hK16
 obtain ⟨hF,hM,hz4⟩:=hI
 refine wp_seq_k fun K17 hK17=>wp_region_lit (xB 1 [(45,.bool (decide ((q:Int) < (l.length:Int))))] hF fun a hF=>wpList_nil (hK17 _ _ (wp_seq_k fun K18 hK18=>?_)))
 by_cases hz5:(q:Int) < (l.length:Int)
 ·replace hF:=hF.c hF (i:=45) (v:=.bool true) rfl (bT hz5)
  refine xT hF (wp_skip (hK18 _ _ (wp_seq_k fun K19 hK19=>wp_block (wp_seq_k fun K20 hK20=>wp_region_lit (wl (xM 46 (v:=.pointer (some (ea ca (q * 6)))) hF hM (yld_ix (kd:=.i64) (e:=63) (len:=l.length) (cap:=cc) (i:=(q:Int)) (size:=6) (A:=ca) hF rfl (by kernel_rfl) (by kernel_rfl) (by kernel_rfl) (by kernel_rfl) (by kernel_rfl) (roK 2 rfl) (by omega) (by omega) (by rw [flatE_length (es:=cE) hcm.1,show cE.length=6 from rfl]; (try simp only [List.length_map,List.length_append,List.length_replicate,List.length_set,List.length_cons,List.length_nil,flat2_length,List.length_take]); omega)) fun a w hF hM=>wl (xM 47 (v:=.agg #[iv (rc l q 0),iv (rc l q 1),iv (rc l q 2),iv (rc l q 3),iv (rc l q 4),iv (rc l q 5)]) hF hM (yld_roM (A:=ca) (j:=q * 6) (us:=[iv (rc l q 0),iv (rc l q 1),iv (rc l q 2),iv (rc l q 3),iv (rc l q 4),iv (rc l q 5)]) hF rfl (by kernel_rfl) (by kernel_rfl) (roK 2 rfl) (by kernel_rfl) rfl (rcE_sub (es:=cE) (k:=q) (f:=0) (m:=6) hcm.1 (by omega) rfl)) fun a w hF hM=>wl (xN 11 5 (t:=63) (fun b=>.pointer (some ⟨b,0,none⟩)) #[iv 0,iv 0,iv 0,iv 0,iv 0,iv 0] hF hM fun bb3 a w hF hM=>?_))))))))
  refine wl (xS 5 0 #[iv (rc l q 0),iv (rc l q 1),iv (rc l q 2),iv (rc l q 3),iv (rc l q 4),iv (rc l q 5)] hF hM fun w hM=>wpList_nil (hK20 _ _ (wp_seq_k fun K21 hK21=>wp_region_lit (xB 1 [(48,pt bb3 1)] hF fun a hF=>wl (xL 49 5 1 (v:=.agg #[iv (rc l q 1),iv (rc l q 2),iv (rc l q 3),iv (rc l q 4),iv (rc l q 5)]) hF hM fun a w hF hM=>wl (xM 50 (v:=iv 0) hF hM (xC 50 #[.agg #[iv (rc l q 1),iv (rc l q 2),iv (rc l q 3),iv (rc l q 4),iv (rc l q 5)]] hF (fun w hM=>by have:=ckItem_w (rc l q 1) (rc l q 2) (rc l q 3) (rc l q 4) (rc l q 5) w; rw [(hcm.2 q (by omega)).2.2.2] at this; exact this)) fun a w hF hM=>xB 1 [(12,iv 0)] hF fun a hF=>wpList_nil (hK21 _ _ (wp_seq_k fun K22 hK22=>?_))))))))
  refine wp_region_lit (xB 1 [(51,iv 0)] hF fun a hF=>wl (xP 52 (v0:=.bool (!decide (0=0))) (v:=.bool false) hF (nT (by omega)) fun a hF=>wpList_nil (hK22 _ _ (xF hF (wp_skip (hK19 _ _ (wp_region_lit (wl (xP 54 (v0:=.int .i64 (IntKind.i64.wrap ((q:Int) + 1))) (v:=iv ((q:Int) + 1)) hF (wi (by omega)) fun a hF=>xB 1 [(44,iv ((q:Int) + 1))] hF fun a hF=>wpList_nil ?_)))))))))
  refine hK16 _ _ ⟨(q + 1),⟨((((Fr.nil hF).c hF (i:=43) rfl rfl).c hF (i:=42) rfl rfl).c hF (i:=44) rfl (vi (show ((q:Int) + 1:Int)=((q + 1):Int) from by omega))),(hM.sub (Sub.nil.c (k:=2) rfl rfl)),(show ((q + 1):Int) ≤ (l.length:Int) from by omega)⟩,(show l.length - (q + 1) < l.length - q from by omega)⟩
 replace hF:=hF.c hF (i:=45) (v:=.bool false) rfl (bF hz5)
 refine xF hF (wp_exit (hK14 _ _ (wp_seq_k fun K23 hK23=>wp_region_lit (xB 1 [(6,iv 0)] hF fun a hF=>wpList_nil (hK23 _ _ (wp_ret (hR0 _ _ (ret_of hF hM (.tmp rfl (.nil)) (⟨rfl,hM.bel⟩)))))))))
end Go.Proofs.YtlngflbamkgjlaaGreat
