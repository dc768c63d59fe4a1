/-
  Part 4 of the proof of TopService: TsS, TsT, TsU, TsV, First, MeterPlain, CfA, ConfPlain.
-/
import Derived.RangeFuncBox
import Derived.RangeFuncLeaves
import Derived.RangeFuncNested
import Derived.Shelf.Abstract
import Derived.WalkKit
import Derived.OwnWalkIn
import Derived.TacticsInMore
import Derived.LoopNIn
import Derived.LoopIn
import Derived.Test.YtlngflbamkgjlaaGreatP3
namespace Go.Proofs.YtlngflbamkgjlaaGreat
open Go.RowKit
set_option linter.unusedVariables false
set_option linter.unusedSimpArgs false
set_option maxRecDepth 100000
set_option maxHeartbeats 16000000 in
theorem run_w (A:Option Addr) (ge:List (Int × Int)) (gc:Nat) (cyc:Int) (per sh:Int) (Sq:Nat → Prop) (Aq:Option Addr) (gq:Nat) (cap:Nat → Int) (Qz:Nat → List (List Int)) (ca:Option Addr) (l0:List (List Int)) (cc:Nat) (un:Int) (J:PS → Prop) (J1:Int → PS → Prop) (w0:World) (hA:Ro w0 A (flat2 ge)) (hq:QM Sq Aq cap Qz w0) (hv0:∀ c,c < 8 → qkE (cap c) (Qz c)=0) (hga:gaE ge cyc=0) (hln:lnP per sh) (hQ0:∀ c,c < 8 → Qz c=[]) (hL:Ro w0 ca (flatE cE l0)) (hcc:l0.length ≤ cc) (hcm:cmP l0 un) (hun:0 ≤ un ∧ un ≤ 549755813888) (hlen:l0.length ≤ 40) (hR:RunSteps ge cyc per sh cap un J J1) (hJ0:J ⟨0,0,0,0,0,0,0,0,0,0,0,0,Qz,l0,[]⟩) :
    Calls Tryz.prog 10 #[.agg #[.slice A ge.length gc,iv cyc,iv per,iv sh,iv 0,.slice Aq 8 gq,.bool false,iv 0,iv 0,iv 0,iv 0,iv 0,iv 0,.bool false,iv 0,iv 0,iv 0],.slice ca l0.length cc,iv un] w0 (RunR A ge gc cyc per sh un J w0):=by
 obtain ⟨hp1,hp2,hs1,hs2⟩:=hln
 have hgp:=(ga_p hga).2.2.1
 have hgs:=ga_pos hga
 refine enterKM 57 Tryz.func10 rfl rfl rfl ?_
 intro a hF Q0 hR0 hN0
 have hM:=Mem.start w0
 replace hM:=hM.addOld 1 hA (Nat.le_refl _)
 replace hM:=hM.addOld 2 hL (Nat.le_refl _)
 replace hM:=hM.addQ 9 hq
 refine wp_seq_k fun K1 hK1=>wp_region_lit (wl (xN 3 10 (t:=52) (fun b=>.pointer (some ⟨b,0,none⟩)) #[.slice A ge.length gc,iv cyc,iv per,iv sh,iv 0,.slice Aq 8 gq,.bool false,iv 0,iv 0,iv 0,iv 0,iv 0,iv 0,.bool false,iv 0,iv 0,iv 0] hF hM fun bb1 a w hF hM=>wl (xN 5 11 (t:=3) (fun b=>.pointer (some ⟨b,0,none⟩)) #[iv un] hF hM fun bb2 a w hF hM=>wl (xN 6 12 (t:=52) (fun b=>.pointer (some ⟨b,0,none⟩)) #[.slice none 0 0,iv 0,iv 0,iv 0,iv 0,.slice none 0 0,.bool false,iv 0,iv 0,iv 0,iv 0,iv 0,iv 0,.bool false,iv 0,iv 0,iv 0] hF hM fun bb3 a w hF hM=>xB 2 [(7,.slice none 0 0),(8,iv 0)] hF fun a hF=>wpList_nil (hK1 _ _ (wp_scope_straight (wp_seq_k fun K2 hK2=>wp_seq_k fun K3 hK3=>wp_region_lit ?_)))))))
 refine wl (xL 16 10 0 (v:=.agg #[.slice A ge.length gc,iv cyc,iv per,iv sh,iv 0,.slice Aq 8 gq,.bool false,iv 0,iv 0,iv 0,iv 0,iv 0,iv 0,.bool false,iv 0,iv 0,iv 0]) hF hM fun a w hF hM=>wl (xM 17 (v:=iv 0) hF hM (xC 29 #[.agg #[.slice A ge.length gc,iv cyc,iv per,iv sh,iv 0,.slice Aq 8 gq,.bool false,iv 0,iv 0,iv 0,iv 0,iv 0,iv 0,.bool false,iv 0,iv 0,iv 0]] hF (fun w hM=>pCheck_w A ge gc cyc per sh _ Aq gq cap Qz w (hM.ok 1 _ rfl) (hM.ok 9 _ rfl).1 hv0 hga ⟨hp1,hp2,hs1,hs2⟩ hQ0)) fun a w hF hM=>xB 1 [(9,iv 0)] hF fun a hF=>wpList_nil (hK3 _ _ (wp_seq_k fun K4 hK4=>wp_region_lit (xB 1 [(18,iv 0)] hF fun a hF=>wl (xP 19 (v0:=.bool (!decide (0=0))) (v:=.bool false) hF (nT (by omega)) fun a hF=>wpList_nil (hK4 _ _ (xF hF ?_))))))))
 refine wp_skip (hK2 _ _ (wp_seq_k fun K5 hK5=>wp_seq_k fun K6 hK6=>wp_region_lit (wl (xL 22 10 0 (v:=.agg #[.slice A ge.length gc,iv cyc,iv per,iv sh,iv 0,.slice Aq 8 gq,.bool false,iv 0,iv 0,iv 0,iv 0,iv 0,iv 0,.bool false,iv 0,iv 0,iv 0]) hF hM fun a w hF hM=>xB 1 [(23,.slice ca l0.length cc)] hF fun a hF=>wl (xL 24 11 0 (v:=iv un) hF hM fun a w hF hM=>wl (xM 25 (v:=iv 0) hF hM (xC 30 #[.agg #[.slice A ge.length gc,iv cyc,iv per,iv sh,iv 0,.slice Aq 8 gq,.bool false,iv 0,iv 0,iv 0,iv 0,iv 0,iv 0,.bool false,iv 0,iv 0,iv 0],.slice ca l0.length cc,iv un] hF (fun w hM=>ckRun_w A ge gc cyc per sh Aq gq ca l0 cc un w (hM.ok 2 _ rfl) hcc hcm hun hlen)) fun a w hF hM=>xB 1 [(10,iv 0)] hF fun a hF=>wpList_nil (hK6 _ _ ?_)))))))
 refine wp_seq_k fun K7 hK7=>wp_region_lit (xB 1 [(26,iv 0)] hF fun a hF=>wl (xP 27 (v0:=.bool (!decide (0=0))) (v:=.bool false) hF (nT (by omega)) fun a hF=>wpList_nil (hK7 _ _ (xF hF (wp_skip (hK5 _ _ (wp_seq_k fun K8 hK8=>wp_region_lit (wl (xL 30 10 0 (v:=.agg #[.slice A ge.length gc,iv cyc,iv per,iv sh,iv 0,.slice Aq 8 gq,.bool false,iv 0,iv 0,iv 0,iv 0,iv 0,iv 0,.bool false,iv 0,iv 0,iv 0]) hF hM fun a w hF hM=>?_)))))))))
 refine xB 3 [(31,.agg #[.slice A ge.length gc,iv cyc,iv per,iv sh,iv 0,.slice Aq 8 gq,.bool false,iv 0,iv 0,iv 0,iv 0,iv 0,iv 0,.bool false,iv 0,iv 0,iv 0]),(32,.slice ca l0.length cc),(33,.agg #[.slice A ge.length gc,iv cyc,iv per,iv sh,iv 0,.slice Aq 8 gq,.bool false,iv 0,iv 0,iv 0,iv 0,iv 0,iv 0,.bool false,iv 0,iv 0,iv 0,.slice ca l0.length cc,.slice none 0 0])] hF fun a hF=>wl (xN 11 13 (t:=97) (fun b=>.pointer (some ⟨b,0,none⟩)) #[.slice none 0 0,iv 0,iv 0,iv 0,iv 0,.slice none 0 0,.bool false,iv 0,iv 0,iv 0,iv 0,iv 0,iv 0,.bool false,iv 0,iv 0,iv 0,.slice none 0 0,.slice none 0 0] hF hM fun bb4 a w hF hM=>?_)
 refine wl (xS 13 0 #[.slice A ge.length gc,iv cyc,iv per,iv sh,iv 0,.slice Aq 8 gq,.bool false,iv 0,iv 0,iv 0,iv 0,iv 0,iv 0,.bool false,iv 0,iv 0,iv 0,.slice ca l0.length cc,.slice none 0 0] hF hM fun w hM=>wpList_nil (hK8 _ _ (wp_seq_k fun K9 hK9=>wp_region_lit (xB 1 [(34,.agg #[.func (.func 31) #[] #[],.func (.func 32) #[] #[],.func (.func 33) #[] #[]])] hF fun a hF=>wl (xN 12 14 (t:=101) (fun b=>.pointer (some ⟨b,0,none⟩)) #[.nilFunc,.nilFunc,.nilFunc] hF hM fun bb5 a w hF hM=>?_)))))
 refine wl (xS 14 0 #[.func (.func 31) #[] #[],.func (.func 32) #[] #[],.func (.func 33) #[] #[]] hF hM fun w hM=>wpList_nil (hK9 _ _ (wp_seq_k fun K10 hK10=>wp_label (hK10 _ _ (wp_seq_k fun K11 hK11=>wp_seq_k fun K12 hK12=>?_)))))
 replace hM:=hM.addNil 15 62 6
 refine wp_region_lit (wl (sC (f:=34) (args:=#[pt bb4 0]) hF (by kernel_rfl) rfl (by decide) (by kernel_rfl) (fun _=>by kernel_rfl) (enterK 4 Tryz.func34 rfl rfl rfl ?_)))
 intro a1 hF1 QR13 hR13 hNR13
 refine wp_seq_k fun K14 hK14=>wp_region_lit (wl (xN 1 16 (t:=100) (fun b=>.pointer (some ⟨b,0,none⟩)) #[pt bb4 0] hF1 hM fun bb6 a1 w hF1 hM=>xB 1 [(2,.nilFunc)] hF1 fun a1 hF1=>wpList_nil (hK14 _ _ (wp_seq_k fun K15 hK15=>wp_region_lit (xB 2 [(3,.func (.func 54) #[] #[pt bb6 0]),(2,.func (.func 54) #[] #[pt bb6 0])] hF1 fun a1 hF1=>wpList_nil (hK15 _ _ (wp_ret ?_)))))))
 refine hR13 _ _ (ret_of hF1 hM (.tmp rfl (.nil)) ⟨_,rfl,?_⟩)
 intro a hF
 refine wpList_nil (hK12 _ _ (wp_block (rangeK (gf:=54) (lb:=#[pt bb6 0]) 9 17 18 hF hM (by kernel_rfl) (by kernel_rfl) (enters_of Tryz.func54 (by kernel_rfl) rfl) fun fn7 DD7 ll7 OO7 hO7 w hM=>enterKQ 49 Tryz.func54 rfl rfl rfl ?_)))
 intro a1 hF1 QR16 hR16 hNR16 hqR16
 refine wp_block ?_
 refine wp_loop_k (G:=Int × Int × Int × Int × Int × Int × Int × Int × Int × Int × Int × Int × (Nat → List (List Int)) × List (List Int) × List (List Int) × Nat × Option Addr × Nat × (Nat → Prop) × Option Addr × Nat × Option Addr × Nat) (fun gg a w=>Fr 49 [(0,some (.func (.yield ll7) #[] #[])),(1,some (pt bb6 0))] a ∧ Mem w0.heap.size w0 [(1,some (.ro A (flat2 ge))),(2,some (.ro gg.2.2.2.2.2.2.2.2.2.2.2.2.2.2.2.2.2.2.2.1 (flatE cE gg.2.2.2.2.2.2.2.2.2.2.2.2.2.1))),(9,some (.sep gg.2.2.2.2.2.2.2.2.2.2.2.2.2.2.2.2.2.2.1 (QM gg.2.2.2.2.2.2.2.2.2.2.2.2.2.2.2.2.2.2.1 gg.2.2.2.2.2.2.2.2.2.2.2.2.2.2.2.2.1 cap gg.2.2.2.2.2.2.2.2.2.2.2.2.1))),(10,some (.row bb1 52 #[.slice A ge.length gc,iv cyc,iv per,iv sh,iv 0,.slice Aq 8 gq,.bool false,iv 0,iv 0,iv 0,iv 0,iv 0,iv 0,.bool false,iv 0,iv 0,iv 0])),(11,some (.row bb2 3 #[iv un])),(12,some (.row bb3 52 #[.slice none 0 0,iv 0,iv 0,iv 0,iv 0,.slice none 0 0,.bool false,iv 0,iv 0,iv 0,iv 0,iv 0,iv 0,.bool false,iv 0,iv 0,iv 0])),(13,some (.row bb4 97 #[.slice A ge.length gc,iv cyc,iv per,iv sh,iv gg.1,.slice gg.2.2.2.2.2.2.2.2.2.2.2.2.2.2.2.2.1 8 gg.2.2.2.2.2.2.2.2.2.2.2.2.2.2.2.2.2.1,.bool (decide (gg.2.1=1)),iv gg.2.2.1,iv gg.2.2.2.1,iv gg.2.2.2.2.1,iv gg.2.2.2.2.2.1,iv gg.2.2.2.2.2.2.1,iv gg.2.2.2.2.2.2.2.1,.bool (decide (gg.2.2.2.2.2.2.2.2.1=1)),iv gg.2.2.2.2.2.2.2.2.2.1,iv gg.2.2.2.2.2.2.2.2.2.2.1,iv gg.2.2.2.2.2.2.2.2.2.2.2.1,.slice gg.2.2.2.2.2.2.2.2.2.2.2.2.2.2.2.2.2.2.2.1 gg.2.2.2.2.2.2.2.2.2.2.2.2.2.1.length gg.2.2.2.2.2.2.2.2.2.2.2.2.2.2.2.2.2.2.2.2.1,.slice gg.2.2.2.2.2.2.2.2.2.2.2.2.2.2.2.2.2.2.2.2.2.1 gg.2.2.2.2.2.2.2.2.2.2.2.2.2.2.2.1 gg.2.2.2.2.2.2.2.2.2.2.2.2.2.2.2.2.2.2.2.2.2.2])),(14,some (.row bb5 101 #[.func (.func 31) #[] #[],.func (.func 32) #[] #[],.func (.func 33) #[] #[]])),(15,some (.own (.slice gg.2.2.2.2.2.2.2.2.2.2.2.2.2.2.2.2.2.2.2.2.2.1 gg.2.2.2.2.2.2.2.2.2.2.2.2.2.2.2.1 gg.2.2.2.2.2.2.2.2.2.2.2.2.2.2.2.2.2.2.2.2.2.2) 62 6 gg.2.2.2.2.2.2.2.2.2.2.2.2.2.2.2.1 (flatR gg.2.2.2.2.2.2.2.2.2.2.2.2.2.2.1))),(16,some (.row bb6 100 #[pt bb4 0])),(17,some (.obj DD7 (.deferred (some [])))),(18,some (.obj ll7 (OO7 .ready none)))] w ∧ (J ⟨gg.1,gg.2.1,gg.2.2.1,gg.2.2.2.1,gg.2.2.2.2.1,gg.2.2.2.2.2.1,gg.2.2.2.2.2.2.1,gg.2.2.2.2.2.2.2.1,gg.2.2.2.2.2.2.2.2.1,gg.2.2.2.2.2.2.2.2.2.1,gg.2.2.2.2.2.2.2.2.2.2.1,gg.2.2.2.2.2.2.2.2.2.2.2.1,gg.2.2.2.2.2.2.2.2.2.2.2.2.1,gg.2.2.2.2.2.2.2.2.2.2.2.2.2.1,gg.2.2.2.2.2.2.2.2.2.2.2.2.2.2.1⟩) ∧ (WR 6 gg.2.2.2.2.2.2.2.2.2.2.2.2.2.1) ∧ (gg.2.2.2.2.2.2.2.2.2.2.2.2.2.1.length ≤ gg.2.2.2.2.2.2.2.2.2.2.2.2.2.2.2.2.2.2.2.2.1) ∧ (gg.2.2.2.2.2.2.2.2.2.2.2.2.2.2.2.1=gg.2.2.2.2.2.2.2.2.2.2.2.2.2.2.1.length)) (fun gg=>muS ge cyc per sh un ⟨gg.1,gg.2.1,gg.2.2.1,gg.2.2.2.1,gg.2.2.2.2.1,gg.2.2.2.2.2.1,gg.2.2.2.2.2.2.1,gg.2.2.2.2.2.2.2.1,gg.2.2.2.2.2.2.2.2.1,gg.2.2.2.2.2.2.2.2.2.1,gg.2.2.2.2.2.2.2.2.2.2.1,gg.2.2.2.2.2.2.2.2.2.2.2.1,gg.2.2.2.2.2.2.2.2.2.2.2.2.1,gg.2.2.2.2.2.2.2.2.2.2.2.2.2.1,gg.2.2.2.2.2.2.2.2.2.2.2.2.2.2.1⟩) (0,0,0,0,0,0,0,0,0,0,0,0,Qz,l0,[],0,Aq,gq,(fun b=>Sq b ∧ b < w0.heap.size),ca,cc,none,0) ?_ ?_
 ·refine ⟨(((Fr.nil hF1).c hF1 (i:=1) rfl rfl).c hF1 (i:=0) rfl rfl),(hM.sub ((((((((((((Sub.nil.c (k:=18) rfl rfl).c (k:=17) rfl rfl).c (k:=16) rfl rfl).c (k:=15) rfl rfl).c (k:=14) rfl rfl).c (k:=13) rfl rfl).c (k:=12) rfl rfl).c (k:=11) rfl rfl).c (k:=10) rfl rfl).c (k:=9) rfl rfl).c (k:=2) rfl rfl).c (k:=1) rfl rfl)),(show J ⟨0,0,0,0,0,0,0,0,0,0,0,0,Qz,l0,([])⟩ from by exact hJ0),(show WR 6 l0 from by exact hcm.1),(show l0.length ≤ cc from by exact hcc),(show 0=([]).length from by rfl)⟩
 intro gg a1 w hI
 intro K17 hK17
 obtain ⟨now,bz,x0,x1,x2,x3,x4,x5,x6,bg,fn,rs,Q,l,g,gn,qA,qg,qS,lA,lg,gA,gC⟩:=gg
 try dsimp only at hI hK17
 obtain ⟨hF1,hM,hz1,hz2,hz3,hz4⟩:=hI
 have hJs:=(show J ⟨now,bz,x0,x1,x2,x3,x4,x5,x6,bg,fn,rs,Q,l,g⟩ from by assumption)
 have hw:=hR.wf _ hJs
 have hWl:WR 6 l:=by assumption
 have hlg:l.length ≤ lg:=by assumption
 have hgn:gn=g.length:=by assumption
 have hgb:g.length ≤ 50:=hw.hg.1
 refine wp_block (wp_seq_k fun K18 hK18=>wp_region_lit (wl (xL 6 16 0 (v:=pt bb4 0) hF1 hM fun a1 w hF1 hM=>xB 2 [(7,pt bb4 0),(8,pt bb4 0)] hF1 fun a1 hF1=>wl (xL 9 13 0 (v:=.agg #[.slice A ge.length gc,iv cyc,iv per,iv sh,iv now,.slice qA 8 qg,.bool (decide (bz=1)),iv x0,iv x1,iv x2,iv x3,iv x4,iv x5,.bool (decide (x6=1)),iv bg,iv fn,iv rs]) hF1 hM fun a1 w hF1 hM=>?_))))
 obtain ⟨nt_,hnt⟩:∃ z:Int,(nxS ge cyc per sh ⟨now,bz,x0,x1,x2,x3,x4,x5,x6,bg,fn,rs,Q,l,g⟩).getD 0=z:=⟨_,rfl⟩
 obtain ⟨ne_,hne⟩:∃ z:Int,eO (nxS ge cyc per sh ⟨now,bz,x0,x1,x2,x3,x4,x5,x6,bg,fn,rs,Q,l,g⟩)=z:=⟨_,rfl⟩
 refine wl (xM 10 (v:=.tuple #[iv nt_,iv ne_]) hF1 hM (xC 55 #[.agg #[.slice A ge.length gc,iv cyc,iv per,iv sh,iv now,.slice qA 8 qg,.bool (decide (bz=1)),iv x0,iv x1,iv x2,iv x3,iv x4,iv x5,.bool (decide (x6=1)),iv bg,iv fn,iv rs]] hF1 (fun w hM=>by have:=next_w A ge gc cyc per sh _ qA qg cap Q now bz x0 x1 x2 x3 x4 x5 x6 bg fn rs l g w (hM.ok 1 _ rfl) (hM.ok 9 _ rfl).1 hw.hv hga ⟨hp1,hp2,hs1,hs2⟩ hw.hh (by have:=hw.hn; dsimp only at this; omega); rw [hnt,hne] at this; exact this)) fun a1 w hF1 hM=>xB 5 [(5,.tuple #[iv nt_,iv ne_]),(11,iv nt_),(12,iv ne_),(3,iv nt_),(4,iv ne_)] hF1 fun a1 hF1=>wpList_nil (hK18 _ _ (wp_seq_k fun K19 hK19=>?_)))
 have hJ19:∀ (t:Int) (er:Int) (a:Act) (w:World),Fr 49 [(3,some (iv t)),(4,some (iv er)),(0,some (.func (.yield ll7) #[] #[])),(1,some (pt bb6 0))] a → Mem w0.heap.size w0 [(1,some (.ro A (flat2 ge))),(2,some (.ro lA (flatE cE l))),(9,some (.sep qS (QM qS qA cap Q))),(10,some (.row bb1 52 #[.slice A ge.length gc,iv cyc,iv per,iv sh,iv 0,.slice Aq 8 gq,.bool false,iv 0,iv 0,iv 0,iv 0,iv 0,iv 0,.bool false,iv 0,iv 0,iv 0])),(11,some (.row bb2 3 #[iv un])),(12,some (.row bb3 52 #[.slice none 0 0,iv 0,iv 0,iv 0,iv 0,.slice none 0 0,.bool false,iv 0,iv 0,iv 0,iv 0,iv 0,iv 0,.bool false,iv 0,iv 0,iv 0])),(13,some (.row bb4 97 #[.slice A ge.length gc,iv cyc,iv per,iv sh,iv now,.slice qA 8 qg,.bool (decide (bz=1)),iv x0,iv x1,iv x2,iv x3,iv x4,iv x5,.bool (decide (x6=1)),iv bg,iv fn,iv rs,.slice lA l.length lg,.slice gA gn gC])),(14,some (.row bb5 101 #[.func (.func 31) #[] #[],.func (.func 32) #[] #[],.func (.func 33) #[] #[]])),(15,some (.own (.slice gA gn gC) 62 6 gn (flatR g))),(16,some (.row bb6 100 #[pt bb4 0])),(17,some (.obj DD7 (.deferred (some [])))),(18,some (.obj ll7 (OO7 .ready none)))] w → (er=0 → tmS ge cyc per sh ⟨now,bz,x0,x1,x2,x3,x4,x5,x6,bg,fn,rs,Q,l,g⟩=some t) → (er ≠ 0 → tmS ge cyc per sh ⟨now,bz,x0,x1,x2,x3,x4,x5,x6,bg,fn,rs,Q,l,g⟩=none) → K19 a w:=by
  intro t er a1 w hF1 hM hz5 hz6
  refine hK19 _ _ (wp_seq_k fun K20 hK20=>?_)
  by_cases hz7:er=0
  ·skip
   refine (wpIn_wide (n:=9)).1 (wpR_region (wr (xP 41 (v0:=iv er) (v:=iv er) hF1 rfl fun a1 hF1=>wr (xP 42 (v0:=.bool (!decide (er=0))) (v:=.bool false) hF1 (nT hz7) fun a1 hF1=>wr (xP 43 (v0:=.bool false) (v:=.bool false) hF1 rfl fun a1 hF1=>wr (xP 44 (v0:=.func (.yield ll7) #[] #[]) (v:=.func (.yield ll7) #[] #[]) hF1 rfl fun a1 hF1=>wr (xP 45 (v0:=iv t) (v:=iv t) hF1 rfl fun a1 hF1=>sYield (n:=49) (d:=46) (args:=#[iv t]) 18 hF1 OO7 hO7 hM (by kernel_rfl) rfl (by decide) (by kernel_rfl) rfl (fun _=>by kernel_rfl) rfl rfl fun KB21 QB21 hB21 hBn21 hBe21 hBr21 hqB21=>?_) hqR16 rfl) hqR16 rfl) hqR16 rfl) hqR16 rfl) hqR16 rfl))
   have hF2:=hF.round1 (p:=36) (by decide) (iv t)
   refine wpR_region (wr (xP 13 (v0:=iv t) (v:=iv t) hF2 rfl fun a2 hF2=>wpLi_nil (hB21 _ _ _ hM rfl fun w hM=>wpIn_block (wpIn_seq_k fun K22 hK22=>?_))) (fun ⟨_,_,h⟩=>h) rfl)
   have htm:tmS ge cyc per sh ⟨now,bz,x0,x1,x2,x3,x4,x5,x6,bg,fn,rs,Q,l,g⟩=some t:=(by assumption:er=0 → tmS ge cyc per sh ⟨now,bz,x0,x1,x2,x3,x4,x5,x6,bg,fn,rs,Q,l,g⟩=some t) (by assumption)
   refine wpR_region (wr (xL 37 14 0 (v:=.agg #[.func (.func 31) #[] #[],.func (.func 32) #[] #[],.func (.func 33) #[] #[]]) hF2 hM fun a2 w hF2 hM=>wr (xP 38 (v0:=iv 0) (v:=iv 0) hF2 rfl fun a2 hF2=>wpLi_nil (hK22 _ _ (wpIn_block (wpIn_loop_rounds 4 (roundsI_k fun K23 hK23=>wpIn_seq_k fun K24 hK24=>wpR_region (wr (xP 39 (v0:=.bool (decide (0 < 3))) (v:=.bool true) hF2 (bT (by omega)) fun a2 hF2=>wpLi_nil ?_) hqB21 rfl)))))) hqB21 rfl) hqB21 rfl)
   refine hK24 _ _ (wpIn_seq_k fun K25 hK25=>cTi hF2 (by kernel_rfl) (by kernel_rfl) (wpIn_skip (hK25 _ _ (wpIn_seq_k fun K26 hK26=>?_))))
   have hJ26:∀ (now2:Int) (bz2:Int) (x02:Int) (x12:Int) (x22:Int) (x32:Int) (x42:Int) (x52:Int) (x62:Int) (bg2:Int) (fn2:Int) (rs2:Int) (Q2:(Nat → List (List Int))) (g2:List (List Int)) (gn2:Nat) (qA2:Option Addr) (qg2:Nat) (qS2:(Nat → Prop)) (gA2:Option Addr) (gC2:Nat) (a:Act) (w:World),Fr 57 [(5,some (pt bb2 0)),(6,some (pt bb3 0)),(7,some (.slice none 0 0)),(8,some (iv 0)),(11,some (pt bb4 0)),(13,some (iv t)),(37,some (.agg #[.func (.func 31) #[] #[],.func (.func 32) #[] #[],.func (.func 33) #[] #[]])),(38,some (iv 0))] a → Mem w0.heap.size w0 [(1,some (.ro A (flat2 ge))),(2,some (.ro lA (flatE cE l))),(9,some (.sep qS2 (QM qS2 qA2 cap Q2))),(10,some (.row bb1 52 #[.slice A ge.length gc,iv cyc,iv per,iv sh,iv 0,.slice Aq 8 gq,.bool false,iv 0,iv 0,iv 0,iv 0,iv 0,iv 0,.bool false,iv 0,iv 0,iv 0])),(11,some (.row bb2 3 #[iv un])),(12,some (.row bb3 52 #[.slice none 0 0,iv 0,iv 0,iv 0,iv 0,.slice none 0 0,.bool false,iv 0,iv 0,iv 0,iv 0,iv 0,iv 0,.bool false,iv 0,iv 0,iv 0])),(13,some (.row bb4 97 #[.slice A ge.length gc,iv cyc,iv per,iv sh,iv now2,.slice qA2 8 qg2,.bool (decide (bz2=1)),iv x02,iv x12,iv x22,iv x32,iv x42,iv x52,.bool (decide (x62=1)),iv bg2,iv fn2,iv rs2,.slice lA l.length lg,.slice gA2 gn2 gC2])),(14,some (.row bb5 101 #[.func (.func 31) #[] #[],.func (.func 32) #[] #[],.func (.func 33) #[] #[]])),(15,some (.own (.slice gA2 gn2 gC2) 62 6 gn2 (flatR g2))),(16,some (.row bb6 100 #[pt bb4 0])),(17,some (.obj DD7 (.deferred (some [])))),(18,some (.obj ll7 (OO7 .busy none)))] w → (J1 t ⟨now2,bz2,x02,x12,x22,x32,x42,x52,x62,bg2,fn2,rs2,Q2,l,g2⟩) → (gn2=g2.length) → K26 a w:=by
    intro now2 bz2 x02 x12 x22 x32 x42 x52 x62 bg2 fn2 rs2 Q2 g2 gn2 qA2 qg2 qS2 gA2 gC2 a2 w hF2 hM hz8 hz9
    refine hK26 _ _ ?_
    have hw2:=hR.wf1 _ _ (show J1 t ⟨now2,bz2,x02,x12,x22,x32,x42,x52,x62,bg2,fn2,rs2,Q2,l,g2⟩ from by assumption)
    have hgn2:gn2=g2.length:=by assumption
    have ht2:=hw2.2.1
    refine wpR_region (wr (xP 47 (v0:=.int .i64 (IntKind.i64.wrap (0 + 1))) (v:=iv 1) hF2 (vi (by decide)) fun a2 hF2=>wr (xP 38 (v0:=iv 1) (v:=iv 1) hF2 rfl fun a2 hF2=>wpLi_nil (hK23 _ _ (roundsI_k fun K27 hK27=>wpIn_seq_k fun K28 hK28=>wpR_region (wr (xP 39 (v0:=.bool (decide (1 < 3))) (v:=.bool true) hF2 (bT (by omega)) fun a2 hF2=>wpLi_nil (hK28 _ _ (wpIn_seq_k fun K29 hK29=>?_))) hqB21 rfl)))) hqB21 rfl) hqB21 rfl)
    refine cTi hF2 (by kernel_rfl) (by kernel_rfl) (wpIn_skip (hK29 _ _ (wpIn_seq_k fun K30 hK30=>?_)))
    have hJ30:∀ (now3:Int) (Q3:(Nat → List (List Int))) (l3:List (List Int)) (lA3:Option Addr) (lg3:Nat) (qA3:Option Addr) (qg3:Nat) (qS3:(Nat → Prop)) (a:Act) (w:World),Fr 57 [(5,some (pt bb2 0)),(6,some (pt bb3 0)),(7,some (.slice none 0 0)),(8,some (iv 0)),(11,some (pt bb4 0)),(13,some (iv t)),(37,some (.agg #[.func (.func 31) #[] #[],.func (.func 32) #[] #[],.func (.func 33) #[] #[]])),(38,some (iv 1))] a → Mem w0.heap.size w0 [(1,some (.ro A (flat2 ge))),(2,some (.ro lA3 (flatE cE l3))),(9,some (.sep qS3 (QM qS3 qA3 cap Q3))),(10,some (.row bb1 52 #[.slice A ge.length gc,iv cyc,iv per,iv sh,iv 0,.slice Aq 8 gq,.bool false,iv 0,iv 0,iv 0,iv 0,iv 0,iv 0,.bool false,iv 0,iv 0,iv 0])),(11,some (.row bb2 3 #[iv un])),(12,some (.row bb3 52 #[.slice none 0 0,iv 0,iv 0,iv 0,iv 0,.slice none 0 0,.bool false,iv 0,iv 0,iv 0,iv 0,iv 0,iv 0,.bool false,iv 0,iv 0,iv 0])),(13,some (.row bb4 97 #[.slice A ge.length gc,iv cyc,iv per,iv sh,iv now3,.slice qA3 8 qg3,.bool (decide (bz2=1)),iv x02,iv x12,iv x22,iv x32,iv x42,iv x52,.bool (decide (x62=1)),iv bg2,iv fn2,iv rs2,.slice lA3 l3.length lg3,.slice gA2 gn2 gC2])),(14,some (.row bb5 101 #[.func (.func 31) #[] #[],.func (.func 32) #[] #[],.func (.func 33) #[] #[]])),(15,some (.own (.slice gA2 gn2 gC2) 62 6 gn2 (flatR g2))),(16,some (.row bb6 100 #[pt bb4 0])),(17,some (.obj DD7 (.deferred (some [])))),(18,some (.obj ll7 (OO7 .busy none)))] w → (J1 t ⟨now3,bz2,x02,x12,x22,x32,x42,x52,x62,bg2,fn2,rs2,Q3,l3,g2⟩) → (WR 6 l3) → (l3.length ≤ lg3) → (¬ (1 ≤ l3.length ∧ rc l3 0 0=t)) → K30 a w:=by
     intro now3 Q3 l3 lA3 lg3 qA3 qg3 qS3 a2 w hF2 hM hz10 hz11 hz12 hz13
     refine hK30 _ _ ?_
     have hw1:=hR.wf1 _ _ (show J1 t ⟨now3,bz2,x02,x12,x22,x32,x42,x52,x62,bg2,fn2,rs2,Q3,l3,g2⟩ from by assumption)
     have hWl3:WR 6 l3:=by assumption
     have hlg3:l3.length ≤ lg3:=by assumption
     have hno3:¬ (1 ≤ l3.length ∧ rc l3 0 0=t):=by assumption
     have ht1:=hw1.2.1
     refine wpR_region (wr (xP 47 (v0:=.int .i64 (IntKind.i64.wrap (1 + 1))) (v:=iv 2) hF2 (vi (by decide)) fun a2 hF2=>wr (xP 38 (v0:=iv 2) (v:=iv 2) hF2 rfl fun a2 hF2=>wpLi_nil (hK27 _ _ (roundsI_k fun K31 hK31=>wpIn_seq_k fun K32 hK32=>wpR_region (wr (xP 39 (v0:=.bool (decide (2 < 3))) (v:=.bool true) hF2 (bT (by omega)) fun a2 hF2=>wpLi_nil (hK32 _ _ (wpIn_seq_k fun K33 hK33=>?_))) hqB21 rfl)))) hqB21 rfl) hqB21 rfl)
     refine cTi hF2 (by kernel_rfl) (by kernel_rfl) (wpIn_skip (hK33 _ _ (wpIn_seq_k fun K34 hK34=>wpIn_block (wpIn_seq_k fun K35 hK35=>wpR_region (wr (xP 40 (v0:=.func (.func 33) #[] #[]) (v:=.func (.func 33) #[] #[]) hF2 rfl fun a2 hF2=>wr (xP 15 (v0:=.func (.func 33) #[] #[]) (v:=.func (.func 33) #[] #[]) hF2 rfl fun a2 hF2=>wpLi_nil (hK35 _ _ (wpIn_seq_k fun K36 hK36=>?_))) hqB21 rfl) hqB21 rfl)))))
     refine wpIn_seq_k fun K37 hK37=>wpR_region (wr (xP 41 (v0:=iv t) (v:=iv t) hF2 rfl fun a2 hF2=>wr (xL 42 11 0 (v:=iv un) hF2 hM fun a2 w hF2 hM=>wr (xP 43 (v0:=.bool (decide (un < t))) (v:=.bool false) hF2 (bF (by omega)) fun a2 hF2=>wpLi_nil (hK37 _ _ (cFi hF2 (by kernel_rfl) (by kernel_rfl) (wpIn_skip (hK36 _ _ (wpR_region (wr (xP 44 (v0:=.func (.func 33) #[] #[]) (v:=.func (.func 33) #[] #[]) hF2 rfl fun a2 hF2=>?_) hqB21 rfl))))))) hqB21 rfl) hqB21 rfl) hqB21 rfl)
     refine wr (xP 45 (v0:=iv t) (v:=iv t) hF2 rfl fun a2 hF2=>wr (sC (f:=33) (args:=#[pt bb4 0,iv t]) hF2 (by kernel_rfl) rfl (by decide) (by kernel_rfl) (fun _=>by kernel_rfl) (enterK 13 Tryz.func33 rfl rfl rfl ?_)) hqB21 rfl) hqB21 rfl
     intro a3 hF3 QR38 hR38 hNR38
     by_cases hz14:bz2=1
     ·skip
      by_cases hz15:pcS ge cyc per sh ⟨now3,bz2,x02,x12,x22,x32,x42,x52,x62,bg2,fn2,rs2,Q3,l3,g2⟩ t
      ·skip
       refine wp_region_lit (xB 4 [(4,pt bb4 0),(5,pt bb4 0),(6,pt bb4 0),(7,pt bb4 0)] hF3 fun a3 hF3=>wl (xL 8 13 0 (v:=.agg #[.slice A ge.length gc,iv cyc,iv per,iv sh,iv now3,.slice qA3 8 qg3,.bool (decide (bz2=1)),iv x02,iv x12,iv x22,iv x32,iv x42,iv x52,.bool (decide (x62=1)),iv bg2,iv fn2,iv rs2]) hF3 hM fun a3 w hF3 hM=>xB 1 [(9,iv t)] hF3 fun a3 hF3=>wl (xM 10 (v:=.agg #[.slice A ge.length gc,iv cyc,iv per,iv sh,iv t,.slice qA3 8 qg3,.bool (decide (bz2=1)),iv x02,iv x12,iv x22,iv x32,iv x42,iv x52,.bool (decide (x62=1)),iv bg2,iv (prE per bg2 t),iv (x52 - prK per bg2 t + 24)]) hF3 hM (xC 53 #[.agg #[.slice A ge.length gc,iv cyc,iv per,iv sh,iv now3,.slice qA3 8 qg3,.bool (decide (bz2=1)),iv x02,iv x12,iv x22,iv x32,iv x42,iv x52,.bool (decide (x62=1)),iv bg2,iv fn2,iv rs2],iv t] hF3 (fun w hM=>ch_pre A ge gc cyc per sh _ qA3 qg3 cap Q3 now3 bz2 x02 x12 x22 x32 x42 x52 x62 bg2 fn2 rs2 t w (hM.ok 1 _ rfl) (hM.ok 9 _ rfl).1 hw1.1.hv hga ⟨hp1,hp2,hs1,hs2⟩ hw1.1.hh (by omega) hz14 (fun z=>hw1.2.2 hz14 z) hz15)) fun a3 w hF3 hM=>xB 2 [(11,pt bb4 0),(12,pt bb4 0)] hF3 fun a3 hF3=>wl (xS 13 0 #[.slice A ge.length gc,iv cyc,iv per,iv sh,iv t,.slice qA3 8 qg3,.bool (decide (bz2=1)),iv x02,iv x12,iv x22,iv x32,iv x42,iv x52,.bool (decide (x62=1)),iv bg2,iv (prE per bg2 t),iv (x52 - prK per bg2 t + 24),.slice lA3 l3.length lg3,.slice gA2 gn2 gC2] hF3 hM fun w hM=>wpList_nil (hNR38 _ _ (ret_ofN hF3 hM (.nil) ⟨_,rfl,?_⟩))))))
       intro a2 hF2
       refine wpLi_nil (hK34 _ _ (wpR_region (wr (xP 47 (v0:=.int .i64 (IntKind.i64.wrap (2 + 1))) (v:=iv 3) hF2 (vi (by decide)) fun a2 hF2=>wr (xP 38 (v0:=iv 3) (v:=iv 3) hF2 rfl fun a2 hF2=>wpLi_nil (hK31 _ _ (roundsI_k fun K39 hK39=>wpIn_seq_k fun K40 hK40=>wpR_region (wr (xP 39 (v0:=.bool (decide (3 < 3))) (v:=.bool false) hF2 (bF (by omega)) fun a2 hF2=>wpLi_nil ?_) hqB21 rfl)))) hqB21 rfl) hqB21 rfl)))
       refine hK40 _ _ (wpIn_seq_k fun K41 hK41=>cFi hF2 (by kernel_rfl) (by kernel_rfl) (wpIn_exit (hBn21 _ _ _ hM rfl fun a1 w hF1 hM=>wr (xP 47 (v0:=.bool false) (v:=.bool false) hF1 rfl fun a1 hF1=>wr (xP 48 (v0:=.bool false) (v:=.bool false) hF1 rfl fun a1 hF1=>wpLi_nil (hK20 _ _ (xF hF1 (wp_skip ?_)))) hqR16 rfl) hqR16 rfl)))
       have hcx:=hR.c2 _ _ (show J1 t ⟨now3,bz2,x02,x12,x22,x32,x42,x52,x62,bg2,fn2,rs2,Q3,l3,g2⟩ from by assumption) hno3 (by first | assumption | (dsimp only; omega)) hz15
       have hmu:muS ge cyc per sh un ⟨t,bz2,x02,x12,x22,x32,x42,x52,x62,bg2,prE per bg2 t,x52 - prK per bg2 t + 24,Q3,l3,g2⟩ < muS ge cyc per sh un ⟨now,bz,x0,x1,x2,x3,x4,x5,x6,bg,fn,rs,Q,l,g⟩:=mu_lt htm (hR.le _ _ hJs htm) (by omega) rfl hcx.2
       refine hK17 _ _ ⟨(t,bz2,x02,x12,x22,x32,x42,x52,x62,bg2,prE per bg2 t,x52 - prK per bg2 t + 24,Q3,l3,g2,gn2,qA3,qg3,qS3,lA3,lg3,gA2,gC2),⟨(((Fr.nil hF1).c hF1 (i:=1) rfl rfl).c hF1 (i:=0) rfl rfl),(hM.sub ((((((((((((Sub.nil.c (k:=18) rfl rfl).c (k:=17) rfl rfl).c (k:=16) rfl rfl).c (k:=15) rfl rfl).c (k:=14) rfl rfl).c (k:=13) rfl rfl).c (k:=12) rfl rfl).c (k:=11) rfl rfl).c (k:=10) rfl rfl).c (k:=9) rfl rfl).c (k:=2) rfl rfl).c (k:=1) rfl rfl)),(show J ⟨t,bz2,x02,x12,x22,x32,x42,x52,x62,bg2,(prE per bg2 t),(x52 - prK per bg2 t + 24),Q3,l3,g2⟩ from by exact hcx.1),(show WR 6 l3 from by assumption),(show l3.length ≤ lg3 from by assumption),(show gn2=g2.length from by first | assumption | (rw [List.length_append,← hgn]; rfl))⟩,(show muS ge cyc per sh un ⟨t,bz2,x02,x12,x22,x32,x42,x52,x62,bg2,(prE per bg2 t),(x52 - prK per bg2 t + 24),Q3,l3,g2⟩ < muS ge cyc per sh un ⟨now,bz,x0,x1,x2,x3,x4,x5,x6,bg,fn,rs,Q,l,g⟩ from by exact hmu)⟩
      ·skip
       refine wp_region_lit (xB 4 [(4,pt bb4 0),(5,pt bb4 0),(6,pt bb4 0),(7,pt bb4 0)] hF3 fun a3 hF3=>wl (xL 8 13 0 (v:=.agg #[.slice A ge.length gc,iv cyc,iv per,iv sh,iv now3,.slice qA3 8 qg3,.bool (decide (bz2=1)),iv x02,iv x12,iv x22,iv x32,iv x42,iv x52,.bool (decide (x62=1)),iv bg2,iv fn2,iv rs2]) hF3 hM fun a3 w hF3 hM=>xB 1 [(9,iv t)] hF3 fun a3 hF3=>wl (xM 10 (v:=.agg #[.slice A ge.length gc,iv cyc,iv per,iv sh,iv t,.slice qA3 8 qg3,.bool (decide (bz2=1)),iv x02,iv x12,iv x22,iv x32,iv x42,iv x52,.bool (decide (x62=1)),iv bg2,iv fn2,iv rs2]) hF3 hM (xC 53 #[.agg #[.slice A ge.length gc,iv cyc,iv per,iv sh,iv now3,.slice qA3 8 qg3,.bool (decide (bz2=1)),iv x02,iv x12,iv x22,iv x32,iv x42,iv x52,.bool (decide (x62=1)),iv bg2,iv fn2,iv rs2],iv t] hF3 (fun w hM=>ch_keep A ge gc cyc per sh _ qA3 qg3 cap Q3 now3 bz2 x02 x12 x22 x32 x42 x52 x62 bg2 fn2 rs2 t w (hM.ok 1 _ rfl) (hM.ok 9 _ rfl).1 hw1.1.hv hga ⟨hp1,hp2,hs1,hs2⟩ hw1.1.hh (by omega) hz14 (fun z=>hw1.2.2 hz14 z) hz15)) fun a3 w hF3 hM=>xB 2 [(11,pt bb4 0),(12,pt bb4 0)] hF3 fun a3 hF3=>wl (xS 13 0 #[.slice A ge.length gc,iv cyc,iv per,iv sh,iv t,.slice qA3 8 qg3,.bool (decide (bz2=1)),iv x02,iv x12,iv x22,iv x32,iv x42,iv x52,.bool (decide (x62=1)),iv bg2,iv fn2,iv rs2,.slice lA3 l3.length lg3,.slice gA2 gn2 gC2] hF3 hM fun w hM=>wpList_nil (hNR38 _ _ (ret_ofN hF3 hM (.nil) ⟨_,rfl,?_⟩))))))
       intro a2 hF2
       refine wpLi_nil (hK34 _ _ (wpR_region (wr (xP 47 (v0:=.int .i64 (IntKind.i64.wrap (2 + 1))) (v:=iv 3) hF2 (vi (by decide)) fun a2 hF2=>wr (xP 38 (v0:=iv 3) (v:=iv 3) hF2 rfl fun a2 hF2=>wpLi_nil (hK31 _ _ (roundsI_k fun K42 hK42=>wpIn_seq_k fun K43 hK43=>wpR_region (wr (xP 39 (v0:=.bool (decide (3 < 3))) (v:=.bool false) hF2 (bF (by omega)) fun a2 hF2=>wpLi_nil ?_) hqB21 rfl)))) hqB21 rfl) hqB21 rfl)))
       refine hK43 _ _ (wpIn_seq_k fun K44 hK44=>cFi hF2 (by kernel_rfl) (by kernel_rfl) (wpIn_exit (hBn21 _ _ _ hM rfl fun a1 w hF1 hM=>wr (xP 47 (v0:=.bool false) (v:=.bool false) hF1 rfl fun a1 hF1=>wr (xP 48 (v0:=.bool false) (v:=.bool false) hF1 rfl fun a1 hF1=>wpLi_nil (hK20 _ _ (xF hF1 (wp_skip ?_)))) hqR16 rfl) hqR16 rfl)))
       have hcx:=hR.c3 _ _ (show J1 t ⟨now3,bz2,x02,x12,x22,x32,x42,x52,x62,bg2,fn2,rs2,Q3,l3,g2⟩ from by assumption) hno3 (by first | assumption | (dsimp only; omega)) hz15
       have hmu:muS ge cyc per sh un ⟨t,bz2,x02,x12,x22,x32,x42,x52,x62,bg2,fn2,rs2,Q3,l3,g2⟩ < muS ge cyc per sh un ⟨now,bz,x0,x1,x2,x3,x4,x5,x6,bg,fn,rs,Q,l,g⟩:=mu_lt htm (hR.le _ _ hJs htm) (by omega) rfl hcx.2
       refine hK17 _ _ ⟨(t,bz2,x02,x12,x22,x32,x42,x52,x62,bg2,fn2,rs2,Q3,l3,g2,gn2,qA3,qg3,qS3,lA3,lg3,gA2,gC2),⟨(((Fr.nil hF1).c hF1 (i:=1) rfl rfl).c hF1 (i:=0) rfl rfl),(hM.sub ((((((((((((Sub.nil.c (k:=18) rfl rfl).c (k:=17) rfl rfl).c (k:=16) rfl rfl).c (k:=15) rfl rfl).c (k:=14) rfl rfl).c (k:=13) rfl rfl).c (k:=12) rfl rfl).c (k:=11) rfl rfl).c (k:=10) rfl rfl).c (k:=9) rfl rfl).c (k:=2) rfl rfl).c (k:=1) rfl rfl)),(show J ⟨t,bz2,x02,x12,x22,x32,x42,x52,x62,bg2,fn2,rs2,Q3,l3,g2⟩ from by exact hcx.1),(show WR 6 l3 from by assumption),(show l3.length ≤ lg3 from by assumption),(show gn2=g2.length from by first | assumption | (rw [List.length_append,← hgn]; rfl))⟩,(show muS ge cyc per sh un ⟨t,bz2,x02,x12,x22,x32,x42,x52,x62,bg2,fn2,rs2,Q3,l3,g2⟩ < muS ge cyc per sh un ⟨now,bz,x0,x1,x2,x3,x4,x5,x6,bg,fn,rs,Q,l,g⟩ from by exact hmu)⟩
     ·skip
      by_cases hz16:stF (fun c=>mayP ge cyc per sh (hdL Q3) c t) 8=none
      ·skip
       refine wp_region_lit (xB 4 [(4,pt bb4 0),(5,pt bb4 0),(6,pt bb4 0),(7,pt bb4 0)] hF3 fun a3 hF3=>wl (xL 8 13 0 (v:=.agg #[.slice A ge.length gc,iv cyc,iv per,iv sh,iv now3,.slice qA3 8 qg3,.bool (decide (bz2=1)),iv x02,iv x12,iv x22,iv x32,iv x42,iv x52,.bool (decide (x62=1)),iv bg2,iv fn2,iv rs2]) hF3 hM fun a3 w hF3 hM=>xB 1 [(9,iv t)] hF3 fun a3 hF3=>wl (xM 10 (v:=.agg #[.slice A ge.length gc,iv cyc,iv per,iv sh,iv t,.slice qA3 8 qg3,.bool (decide (bz2=1)),iv x02,iv x12,iv x22,iv x32,iv x42,iv x52,.bool (decide (x62=1)),iv bg2,iv fn2,iv rs2]) hF3 hM (xC 53 #[.agg #[.slice A ge.length gc,iv cyc,iv per,iv sh,iv now3,.slice qA3 8 qg3,.bool (decide (bz2=1)),iv x02,iv x12,iv x22,iv x32,iv x42,iv x52,.bool (decide (x62=1)),iv bg2,iv fn2,iv rs2],iv t] hF3 (fun w hM=>ch_none A ge gc cyc per sh _ qA3 qg3 cap Q3 now3 bz2 x02 x12 x22 x32 x42 x52 x62 bg2 fn2 rs2 t w (hM.ok 1 _ rfl) (hM.ok 9 _ rfl).1 hw1.1.hv hga ⟨hp1,hp2,hs1,hs2⟩ hw1.1.hh (by omega) hz14 hz16)) fun a3 w hF3 hM=>xB 2 [(11,pt bb4 0),(12,pt bb4 0)] hF3 fun a3 hF3=>wl (xS 13 0 #[.slice A ge.length gc,iv cyc,iv per,iv sh,iv t,.slice qA3 8 qg3,.bool (decide (bz2=1)),iv x02,iv x12,iv x22,iv x32,iv x42,iv x52,.bool (decide (x62=1)),iv bg2,iv fn2,iv rs2,.slice lA3 l3.length lg3,.slice gA2 gn2 gC2] hF3 hM fun w hM=>wpList_nil (hNR38 _ _ (ret_ofN hF3 hM (.nil) ⟨_,rfl,?_⟩))))))
       intro a2 hF2
       refine wpLi_nil (hK34 _ _ (wpR_region (wr (xP 47 (v0:=.int .i64 (IntKind.i64.wrap (2 + 1))) (v:=iv 3) hF2 (vi (by decide)) fun a2 hF2=>wr (xP 38 (v0:=iv 3) (v:=iv 3) hF2 rfl fun a2 hF2=>wpLi_nil (hK31 _ _ (roundsI_k fun K45 hK45=>wpIn_seq_k fun K46 hK46=>wpR_region (wr (xP 39 (v0:=.bool (decide (3 < 3))) (v:=.bool false) hF2 (bF (by omega)) fun a2 hF2=>wpLi_nil ?_) hqB21 rfl)))) hqB21 rfl) hqB21 rfl)))
       refine hK46 _ _ (wpIn_seq_k fun K47 hK47=>cFi hF2 (by kernel_rfl) (by kernel_rfl) (wpIn_exit (hBn21 _ _ _ hM rfl fun a1 w hF1 hM=>wr (xP 47 (v0:=.bool false) (v:=.bool false) hF1 rfl fun a1 hF1=>wr (xP 48 (v0:=.bool false) (v:=.bool false) hF1 rfl fun a1 hF1=>wpLi_nil (hK20 _ _ (xF hF1 (wp_skip ?_)))) hqR16 rfl) hqR16 rfl)))
       have hcx:=hR.c0 _ _ (show J1 t ⟨now3,bz2,x02,x12,x22,x32,x42,x52,x62,bg2,fn2,rs2,Q3,l3,g2⟩ from by assumption) hno3 (by first | assumption | (dsimp only; omega)) hz16
       have hmu:muS ge cyc per sh un ⟨t,bz2,x02,x12,x22,x32,x42,x52,x62,bg2,fn2,rs2,Q3,l3,g2⟩ < muS ge cyc per sh un ⟨now,bz,x0,x1,x2,x3,x4,x5,x6,bg,fn,rs,Q,l,g⟩:=mu_lt htm (hR.le _ _ hJs htm) (by omega) rfl hcx.2
       refine hK17 _ _ ⟨(t,bz2,x02,x12,x22,x32,x42,x52,x62,bg2,fn2,rs2,Q3,l3,g2,gn2,qA3,qg3,qS3,lA3,lg3,gA2,gC2),⟨(((Fr.nil hF1).c hF1 (i:=1) rfl rfl).c hF1 (i:=0) rfl rfl),(hM.sub ((((((((((((Sub.nil.c (k:=18) rfl rfl).c (k:=17) rfl rfl).c (k:=16) rfl rfl).c (k:=15) rfl rfl).c (k:=14) rfl rfl).c (k:=13) rfl rfl).c (k:=12) rfl rfl).c (k:=11) rfl rfl).c (k:=10) rfl rfl).c (k:=9) rfl rfl).c (k:=2) rfl rfl).c (k:=1) rfl rfl)),(show J ⟨t,bz2,x02,x12,x22,x32,x42,x52,x62,bg2,fn2,rs2,Q3,l3,g2⟩ from by exact hcx.1),(show WR 6 l3 from by assumption),(show l3.length ≤ lg3 from by assumption),(show gn2=g2.length from by first | assumption | (rw [List.length_append,← hgn]; rfl))⟩,(show muS ge cyc per sh un ⟨t,bz2,x02,x12,x22,x32,x42,x52,x62,bg2,fn2,rs2,Q3,l3,g2⟩ < muS ge cyc per sh un ⟨now,bz,x0,x1,x2,x3,x4,x5,x6,bg,fn,rs,Q,l,g⟩ from by exact hmu)⟩
      ·skip
       refine wp_region_lit (xB 4 [(4,pt bb4 0),(5,pt bb4 0),(6,pt bb4 0),(7,pt bb4 0)] hF3 fun a3 hF3=>wl (xL 8 13 0 (v:=.agg #[.slice A ge.length gc,iv cyc,iv per,iv sh,iv now3,.slice qA3 8 qg3,.bool (decide (bz2=1)),iv x02,iv x12,iv x22,iv x32,iv x42,iv x52,.bool (decide (x62=1)),iv bg2,iv fn2,iv rs2]) hF3 hM fun a3 w hF3 hM=>xB 1 [(9,iv t)] hF3 fun a3 hF3=>?_))
       obtain ⟨cl_,hcl_⟩:=Option.ne_none_iff_exists'.1 hz16
       refine wl (sQ 9 (f:=53) (args:=#[.agg #[.slice A ge.length gc,iv cyc,iv per,iv sh,iv now3,.slice qA3 8 qg3,.bool (decide (bz2=1)),iv x02,iv x12,iv x22,iv x32,iv x42,iv x52,.bool (decide (x62=1)),iv bg2,iv fn2,iv rs2],iv t]) (mk:=(fun s=>.agg #[.slice A ge.length gc,.int .i64 cyc,.int .i64 per,.int .i64 sh,.int .i64 t,s,.bool true,.int .i64 (rc (Q3 cl_) 0 0),.int .i64 (rc (Q3 cl_) 0 1),.int .i64 (rc (Q3 cl_) 0 2),.int .i64 (rc (Q3 cl_) 0 3),.int .i64 (rc (Q3 cl_) 0 4),.int .i64 (rc (Q3 cl_) 0 5),.bool (decide (rc (Q3 cl_) 0 6=1)),.int .i64 t,.int .i64 (t + rc (Q3 cl_) 0 5 * per),.int .i64 0])) (cap':=cap) (Q':=(upd Q3 cl_ (Q3 cl_).tail)) hF3 hM rfl (by kernel_rfl) rfl (by decide) (by kernel_rfl) (fun _=>by kernel_rfl) (ch_some A ge gc cyc per sh _ qA3 qg3 cap Q3 now3 bz2 x02 x12 x22 x32 x42 x52 x62 bg2 fn2 rs2 cl_ t w (hM.ok 1 _ rfl) (hM.ok 9 _ rfl).1 hw1.1.hv hga ⟨hp1,hp2,hs1,hs2⟩ hw1.1.hh (by omega) hz14 hcl_) fun AA8 cc8 SS8 a3 w hSS8 hF3 hM=>xB 2 [(11,pt bb4 0),(12,pt bb4 0)] hF3 fun a3 hF3=>wl (xS 13 0 #[.slice A ge.length gc,iv cyc,iv per,iv sh,iv t,.slice AA8 8 cc8,.bool true,iv (rc (Q3 cl_) 0 0),iv (rc (Q3 cl_) 0 1),iv (rc (Q3 cl_) 0 2),iv (rc (Q3 cl_) 0 3),iv (rc (Q3 cl_) 0 4),iv (rc (Q3 cl_) 0 5),.bool (decide (rc (Q3 cl_) 0 6=1)),iv t,iv (t + rc (Q3 cl_) 0 5 * per),iv 0,.slice lA3 l3.length lg3,.slice gA2 gn2 gC2] hF3 hM fun w hM=>wpList_nil (hNR38 _ _ (ret_ofN hF3 hM (.nil) ⟨_,rfl,?_⟩))))
       intro a2 hF2
       refine wpLi_nil (hK34 _ _ (wpR_region (wr (xP 47 (v0:=.int .i64 (IntKind.i64.wrap (2 + 1))) (v:=iv 3) hF2 (vi (by decide)) fun a2 hF2=>wr (xP 38 (v0:=iv 3) (v:=iv 3) hF2 rfl fun a2 hF2=>wpLi_nil (hK31 _ _ (roundsI_k fun K48 hK48=>wpIn_seq_k fun K49 hK49=>wpR_region (wr (xP 39 (v0:=.bool (decide (3 < 3))) (v:=.bool false) hF2 (bF (by omega)) fun a2 hF2=>wpLi_nil ?_) hqB21 rfl)))) hqB21 rfl) hqB21 rfl)))
       refine hK49 _ _ (wpIn_seq_k fun K50 hK50=>cFi hF2 (by kernel_rfl) (by kernel_rfl) (wpIn_exit (hBn21 _ _ _ hM rfl fun a1 w hF1 hM=>wr (xP 47 (v0:=.bool false) (v:=.bool false) hF1 rfl fun a1 hF1=>wr (xP 48 (v0:=.bool false) (v:=.bool false) hF1 rfl fun a1 hF1=>wpLi_nil (hK20 _ _ (xF hF1 (wp_skip ?_)))) hqR16 rfl) hqR16 rfl)))
       have hcx:=hR.c1 _ _ _ (show J1 t ⟨now3,bz2,x02,x12,x22,x32,x42,x52,x62,bg2,fn2,rs2,Q3,l3,g2⟩ from by assumption) hno3 (by first | assumption | (dsimp only; omega)) hcl_
       have hmu:muS ge cyc per sh un ⟨t,1,rc (Q3 cl_) 0 0,rc (Q3 cl_) 0 1,rc (Q3 cl_) 0 2,rc (Q3 cl_) 0 3,rc (Q3 cl_) 0 4,rc (Q3 cl_) 0 5,rc (Q3 cl_) 0 6,t,t + rc (Q3 cl_) 0 5 * per,0,upd Q3 cl_ (Q3 cl_).tail,l3,g2⟩ < muS ge cyc per sh un ⟨now,bz,x0,x1,x2,x3,x4,x5,x6,bg,fn,rs,Q,l,g⟩:=mu_lt htm (hR.le _ _ hJs htm) (by omega) rfl hcx.2
       refine hK17 _ _ ⟨(t,1,rc (Q3 cl_) 0 0,rc (Q3 cl_) 0 1,rc (Q3 cl_) 0 2,rc (Q3 cl_) 0 3,rc (Q3 cl_) 0 4,rc (Q3 cl_) 0 5,rc (Q3 cl_) 0 6,t,t + rc (Q3 cl_) 0 5 * per,0,upd Q3 cl_ (Q3 cl_).tail,l3,g2,gn2,AA8,cc8,SS8,lA3,lg3,gA2,gC2),⟨(((Fr.nil hF1).c hF1 (i:=1) rfl rfl).c hF1 (i:=0) rfl rfl),(hM.sub ((((((((((((Sub.nil.c (k:=18) rfl rfl).c (k:=17) rfl rfl).c (k:=16) rfl rfl).c (k:=15) rfl rfl).c (k:=14) rfl rfl).c (k:=13) rfl rfl).c (k:=12) rfl rfl).c (k:=11) rfl rfl).c (k:=10) rfl rfl).c (k:=9) rfl rfl).c (k:=2) rfl rfl).c (k:=1) rfl rfl)),(show J ⟨t,1,(rc (Q3 cl_) 0 0),(rc (Q3 cl_) 0 1),(rc (Q3 cl_) 0 2),(rc (Q3 cl_) 0 3),(rc (Q3 cl_) 0 4),(rc (Q3 cl_) 0 5),(rc (Q3 cl_) 0 6),t,(t + rc (Q3 cl_) 0 5 * per),0,(upd Q3 cl_ (Q3 cl_).tail),l3,g2⟩ from by exact hcx.1),(show WR 6 l3 from by assumption),(show l3.length ≤ lg3 from by assumption),(show gn2=g2.length from by first | assumption | (rw [List.length_append,← hgn]; rfl))⟩,(show muS ge cyc per sh un ⟨t,1,(rc (Q3 cl_) 0 0),(rc (Q3 cl_) 0 1),(rc (Q3 cl_) 0 2),(rc (Q3 cl_) 0 3),(rc (Q3 cl_) 0 4),(rc (Q3 cl_) 0 5),(rc (Q3 cl_) 0 6),t,(t + rc (Q3 cl_) 0 5 * per),0,(upd Q3 cl_ (Q3 cl_).tail),l3,g2⟩ < muS ge cyc per sh un ⟨now,bz,x0,x1,x2,x3,x4,x5,x6,bg,fn,rs,Q,l,g⟩ from by exact hmu)⟩
    refine wpIn_block (wpIn_seq_k fun K51 hK51=>wpR_region (wr (xP 40 (v0:=.func (.func 32) #[] #[]) (v:=.func (.func 32) #[] #[]) hF2 rfl fun a2 hF2=>wr (xP 15 (v0:=.func (.func 32) #[] #[]) (v:=.func (.func 32) #[] #[]) hF2 rfl fun a2 hF2=>wpLi_nil (hK51 _ _ (wpIn_seq_k fun K52 hK52=>wpIn_seq_k fun K53 hK53=>wpR_region (wr (xP 41 (v0:=iv t) (v:=iv t) hF2 rfl fun a2 hF2=>wr (xL 42 11 0 (v:=iv un) hF2 hM fun a2 w hF2 hM=>?_) hqB21 rfl) hqB21 rfl)))) hqB21 rfl) hqB21 rfl))
    refine wr (xP 43 (v0:=.bool (decide (un < t))) (v:=.bool false) hF2 (bF (by omega)) fun a2 hF2=>wpLi_nil (hK53 _ _ (cFi hF2 (by kernel_rfl) (by kernel_rfl) (wpIn_skip (hK52 _ _ (wpR_region (wr (xP 44 (v0:=.func (.func 32) #[] #[]) (v:=.func (.func 32) #[] #[]) hF2 rfl fun a2 hF2=>wr (xP 45 (v0:=iv t) (v:=iv t) hF2 rfl fun a2 hF2=>wr (sC (f:=32) (args:=#[pt bb4 0,iv t]) hF2 (by kernel_rfl) rfl (by decide) (by kernel_rfl) (fun _=>by kernel_rfl) (enterK 48 Tryz.func32 rfl rfl rfl ?_)) hqB21 rfl) hqB21 rfl) hqB21 rfl))))))) hqB21 rfl
    intro a3 hF3 QR54 hR54 hNR54
    refine wp_block (wp_loop_k (G:=Int × (Nat → List (List Int)) × List (List Int) × Option Addr × Nat × Option Addr × Nat × (Nat → Prop)) (fun gg a w=>Fr 48 [(0,some (pt bb4 0)),(1,some (iv t))] a ∧ Mem w0.heap.size w0 [(1,some (.ro A (flat2 ge))),(2,some (.ro gg.2.2.2.1 (flatE cE gg.2.2.1))),(9,some (.sep gg.2.2.2.2.2.2.2 (QM gg.2.2.2.2.2.2.2 gg.2.2.2.2.2.1 cap gg.2.1))),(10,some (.row bb1 52 #[.slice A ge.length gc,iv cyc,iv per,iv sh,iv 0,.slice Aq 8 gq,.bool false,iv 0,iv 0,iv 0,iv 0,iv 0,iv 0,.bool false,iv 0,iv 0,iv 0])),(11,some (.row bb2 3 #[iv un])),(12,some (.row bb3 52 #[.slice none 0 0,iv 0,iv 0,iv 0,iv 0,.slice none 0 0,.bool false,iv 0,iv 0,iv 0,iv 0,iv 0,iv 0,.bool false,iv 0,iv 0,iv 0])),(13,some (.row bb4 97 #[.slice A ge.length gc,iv cyc,iv per,iv sh,iv gg.1,.slice gg.2.2.2.2.2.1 8 gg.2.2.2.2.2.2.1,.bool (decide (bz2=1)),iv x02,iv x12,iv x22,iv x32,iv x42,iv x52,.bool (decide (x62=1)),iv bg2,iv fn2,iv rs2,.slice gg.2.2.2.1 gg.2.2.1.length gg.2.2.2.2.1,.slice gA2 gn2 gC2])),(14,some (.row bb5 101 #[.func (.func 31) #[] #[],.func (.func 32) #[] #[],.func (.func 33) #[] #[]])),(15,some (.own (.slice gA2 gn2 gC2) 62 6 gn2 (flatR g2))),(16,some (.row bb6 100 #[pt bb4 0])),(17,some (.obj DD7 (.deferred (some [])))),(18,some (.obj ll7 (OO7 .busy none)))] w ∧ (J1 t ⟨gg.1,bz2,x02,x12,x22,x32,x42,x52,x62,bg2,fn2,rs2,gg.2.1,gg.2.2.1,g2⟩) ∧ (WR 6 gg.2.2.1) ∧ (gg.2.2.1.length ≤ gg.2.2.2.2.1)) (fun gg=>gg.2.2.1.length) (now2,Q2,l,lA,lg,qA2,qg2,qS2) ?_ ?_)
    ·refine ⟨(((Fr.nil hF3).c hF3 (i:=1) rfl rfl).c hF3 (i:=0) rfl rfl),(hM.sub ((((((((((((Sub.nil.c (k:=18) rfl rfl).c (k:=17) rfl rfl).c (k:=16) rfl rfl).c (k:=15) rfl rfl).c (k:=14) rfl rfl).c (k:=13) rfl rfl).c (k:=12) rfl rfl).c (k:=11) rfl rfl).c (k:=10) rfl rfl).c (k:=9) rfl rfl).c (k:=2) rfl rfl).c (k:=1) rfl rfl)),(show J1 t ⟨now2,bz2,x02,x12,x22,x32,x42,x52,x62,bg2,fn2,rs2,Q2,l,g2⟩ from by assumption),(show WR 6 l from by assumption),(show l.length ≤ lg from by assumption)⟩
    ·intro gg a3 w hI
     intro K55 hK55
     obtain ⟨now1,Q1,l1,lA1,lg1,qA1,qg1,qS1⟩:=gg
     try dsimp only at hI hK55
     obtain ⟨hF3,hM,hz17,hz18,hz19⟩:=hI
     have hw1:=hR.wf1 _ _ (show J1 t ⟨now1,bz2,x02,x12,x22,x32,x42,x52,x62,bg2,fn2,rs2,Q1,l1,g2⟩ from by assumption)
     have hWl1:WR 6 l1:=by assumption
     have hlg1:l1.length ≤ lg1:=by assumption
     have ht1:=hw1.2.1
     refine wp_seq_k fun K56 hK56=>wp_seq_k fun K57 hK57=>?_
     by_cases hz20:0 < (l1.length:Int)
     ·skip
      refine wp_region_lit (xB 3 [(4,pt bb4 0),(5,pt bb4 0),(6,pt bb4 17)] hF3 fun a3 hF3=>wl (xL 7 13 17 (v:=.slice lA1 l1.length lg1) hF3 hM fun a3 w hF3 hM=>xB 1 [(8,iv (l1.length:Int))] hF3 fun a3 hF3=>wl (xP 9 (v0:=.bool (decide (0 < (l1.length:Int)))) (v:=.bool true) hF3 (bT hz20) fun a3 hF3=>xB 4 [(10,.bool true),(11,pt bb4 0),(12,pt bb4 0),(13,pt bb4 17)] hF3 fun a3 hF3=>wl (xL 14 13 17 (v:=.slice lA1 l1.length lg1) hF3 hM fun a3 w hF3 hM=>wl (xM 15 (v:=.pointer (some (ea lA1 (0 * 6)))) hF3 hM (yld_ix (kd:=.i64) (e:=63) (len:=l1.length) (cap:=lg1) (i:=0) (size:=6) (A:=lA1) hF3 rfl (by kernel_rfl) (by kernel_rfl) (by kernel_rfl) (by kernel_rfl) (by kernel_rfl) (roK 2 rfl) (by omega) (by omega) (by rw [flatE_length (es:=cE) hWl1,show cE.length=6 from rfl]; (try simp only [List.length_map,List.length_append,List.length_replicate,List.length_set,List.length_cons,List.length_nil,flat2_length,List.length_take]); omega)) fun a3 w hF3 hM=>xB 1 [(16,.pointer (some (ea lA1 (0 * 6))))] hF3 fun a3 hF3=>wl (xM 17 (v:=iv (rc l1 0 0)) hF3 hM (yld_ro1 (A:=lA1) (j:=0 * 6) hF3 rfl (by kernel_rfl) (by kernel_rfl) (roK 2 rfl) (by kernel_rfl) (rcE_at (es:=cE) (k:=0) (i:=0) hWl1 (by omega) rfl)) fun a3 w hF3 hM=>xB 3 [(18,iv t),(19,.bool (decide (rc l1 0 0=t))),(20,.bool (decide (rc l1 0 0=t)))] hF3 fun a3 hF3=>wpList_nil ?_))))))
      refine hK57 _ _ ?_
      by_cases hz21:rc l1 0 0=t
      ·skip
       replace hF3:=hF3.c hF3 (i:=19) (v:=.bool true) rfl (bT hz21)
       replace hF3:=hF3.c hF3 (i:=20) (v:=.bool true) rfl (bT hz21)
       refine xT hF3 (wp_skip (hK56 _ _ (wp_block (wp_seq_k fun K58 hK58=>?_))))
       refine rF (by kernel_rfl) (by kernel_rfl) (fun S a w=>∃ AA9:Option Addr,∃ cc9:Nat,∃ SS9:Nat → Prop,Fr 48 [(0,some (pt bb4 0)),(1,some (iv t)),(21,(cond (S.getD 14 false) (some (.tuple #[.agg #[.slice A ge.length gc,iv cyc,iv per,iv sh,iv t,.slice AA9 8 cc9,.bool (decide (bz2=1)),iv x02,iv x12,iv x22,iv x32,iv x42,iv x52,.bool (decide (x62=1)),iv bg2,iv fn2,iv rs2],(.bool (decide (octL (Q1 (rc l1 0 3).toNat) (Q1 (rc l1 0 3).toNat).length + rc l1 0 4 ≤ cap (rc l1 0 3).toNat)))])) none)),(22,(cond (S.getD 0 false) (some (pt bb4 0)) none)),(23,(cond (S.getD 1 false) (some (pt bb4 0)) none)),(24,(cond (S.getD 2 false) (some (pt bb4 0)) none)),(25,(cond (S.getD 3 false) (some (pt bb4 0)) none)),(26,(cond (S.getD 4 false) (some (.agg #[.slice A ge.length gc,iv cyc,iv per,iv sh,iv now1,.slice qA1 8 qg1,.bool (decide (bz2=1)),iv x02,iv x12,iv x22,iv x32,iv x42,iv x52,.bool (decide (x62=1)),iv bg2,iv fn2,iv rs2])) none)),(27,(cond (S.getD 5 false) (some (iv t)) none)),(28,(cond (S.getD 6 false) (some (pt bb4 0)) none)),(29,(cond (S.getD 7 false) (some (pt bb4 0)) none)),(30,(cond (S.getD 8 false) (some (pt bb4 17)) none)),(31,(cond (S.getD 9 false) (some (.slice lA1 l1.length lg1)) none)),(32,(cond (S.getD 10 false) (some (.pointer (some (ea lA1 (0 * 6))))) none)),(33,(cond (S.getD 11 false) (some (.pointer (some (ea lA1 (0 * 6 + 1))))) none)),(34,(cond (S.getD 12 false) (some (.agg #[iv (rc l1 0 1),iv (rc l1 0 2),iv (rc l1 0 3),iv (rc l1 0 4),iv (rc l1 0 5)])) none)),(35,(cond (S.getD 13 false) (some (.tuple #[.agg #[.slice A ge.length gc,iv cyc,iv per,iv sh,iv t,.slice AA9 8 cc9,.bool (decide (bz2=1)),iv x02,iv x12,iv x22,iv x32,iv x42,iv x52,.bool (decide (x62=1)),iv bg2,iv fn2,iv rs2],(.bool (decide (octL (Q1 (rc l1 0 3).toNat) (Q1 (rc l1 0 3).toNat).length + rc l1 0 4 ≤ cap (rc l1 0 3).toNat)))])) none)),(36,(cond (S.getD 15 false) (some (.agg #[.slice A ge.length gc,iv cyc,iv per,iv sh,iv t,.slice AA9 8 cc9,.bool (decide (bz2=1)),iv x02,iv x12,iv x22,iv x32,iv x42,iv x52,.bool (decide (x62=1)),iv bg2,iv fn2,iv rs2])) none)),(37,(cond (S.getD 16 false) (some ((.bool (decide (octL (Q1 (rc l1 0 3).toNat) (Q1 (rc l1 0 3).toNat).length + rc l1 0 4 ≤ cap (rc l1 0 3).toNat))))) none)),(38,(cond (S.getD 17 false) (some (pt bb4 0)) none)),(39,(cond (S.getD 18 false) (some (pt bb4 0)) none))] a ∧ Mem w0.heap.size w0 [(1,some (.ro A (flat2 ge))),(2,some (.ro lA1 (flatE cE l1))),(9,(cond (S.getD 13 false) (some (.sep SS9 (QM SS9 AA9 cap (arQ cap Q1 (rc l1 0 3).toNat [rc l1 0 1,rc l1 0 2,rc l1 0 3,rc l1 0 4,rc l1 0 5,rc l1 0 4,0] (rc l1 0 4))))) (some (.sep qS1 (QM qS1 qA1 cap Q1))))),(10,some (.row bb1 52 #[.slice A ge.length gc,iv cyc,iv per,iv sh,iv 0,.slice Aq 8 gq,.bool false,iv 0,iv 0,iv 0,iv 0,iv 0,iv 0,.bool false,iv 0,iv 0,iv 0])),(11,some (.row bb2 3 #[iv un])),(12,some (.row bb3 52 #[.slice none 0 0,iv 0,iv 0,iv 0,iv 0,.slice none 0 0,.bool false,iv 0,iv 0,iv 0,iv 0,iv 0,iv 0,.bool false,iv 0,iv 0,iv 0])),(13,(cond (S.getD 19 false) (some (.row bb4 97 #[.slice A ge.length gc,iv cyc,iv per,iv sh,iv t,.slice AA9 8 cc9,.bool (decide (bz2=1)),iv x02,iv x12,iv x22,iv x32,iv x42,iv x52,.bool (decide (x62=1)),iv bg2,iv fn2,iv rs2,.slice lA1 l1.length lg1,.slice gA2 gn2 gC2])) (some (.row bb4 97 #[.slice A ge.length gc,iv cyc,iv per,iv sh,iv now1,.slice qA1 8 qg1,.bool (decide (bz2=1)),iv x02,iv x12,iv x22,iv x32,iv x42,iv x52,.bool (decide (x62=1)),iv bg2,iv fn2,iv rs2,.slice lA1 l1.length lg1,.slice gA2 gn2 gC2])))),(14,some (.row bb5 101 #[.func (.func 31) #[] #[],.func (.func 32) #[] #[],.func (.func 33) #[] #[]])),(15,some (.own (.slice gA2 gn2 gC2) 62 6 gn2 (flatR g2))),(16,some (.row bb6 100 #[pt bb4 0])),(17,some (.obj DD7 (.deferred (some [])))),(18,some (.obj ll7 (OO7 .busy none)))] w) ?_ ?_ ?_
       ·exact ⟨none,0,(fun _=>True),hF3.pk,hM.dk⟩
       ·refine stC ?_ (stC ?_ (stC ?_ (stC ?_ (stC ?_ (stC ?_ (stC ?_ (stC ?_ (stC ?_ (stC ?_ (stC ?_ (stC ?_ (stC ?_ (stC ?_ (stC ?_ (stC ?_ (stC ?_ (stC ?_ (stC ?_ (stC ?_ (trivial))))))))))))))))))))
        ·intro s0 s1 s2 s3 s4 s5 s6 s7 s8 s9 s10 s11 s12 s13 s14 s15 s16 s17 s18 s19 hc hi hp a w hS
         obtain rfl:s0=false:=hi
         obtain rfl:s19=false:=hc.f 19 0 (by kernel_rfl) rfl
         obtain ⟨AA9,cc9,SS9,hF3,hM⟩:=hS
         refine xP 22 (v0:=pt bb4 0) (v:=pt bb4 0) hF3 rfl fun a3 hF3=>⟨AA9,cc9,SS9,hF3.rc 3,hM.k⟩
        ·intro s0 s1 s2 s3 s4 s5 s6 s7 s8 s9 s10 s11 s12 s13 s14 s15 s16 s17 s18 s19 hc hi hp a w hS
         obtain rfl:s1=false:=hi
         obtain rfl:s19=false:=hc.f 19 1 (by kernel_rfl) rfl
         obtain ⟨AA9,cc9,SS9,hF3,hM⟩:=hS
         refine xP 23 (v0:=pt bb4 0) (v:=pt bb4 0) hF3 rfl fun a3 hF3=>⟨AA9,cc9,SS9,hF3.rc 4,hM.k⟩
        ·intro s0 s1 s2 s3 s4 s5 s6 s7 s8 s9 s10 s11 s12 s13 s14 s15 s16 s17 s18 s19 hc hi hp a w hS
         obtain rfl:s2=false:=hi
         obtain rfl:s1=true:=hp 1 (by kernel_rfl)
         obtain rfl:s19=false:=hc.f 19 2 (by kernel_rfl) rfl
         obtain ⟨AA9,cc9,SS9,hF3,hM⟩:=hS
         refine xP 24 (v0:=pt bb4 0) (v:=pt bb4 0) hF3 rfl fun a3 hF3=>⟨AA9,cc9,SS9,hF3.rc 5,hM.k⟩
        ·intro s0 s1 s2 s3 s4 s5 s6 s7 s8 s9 s10 s11 s12 s13 s14 s15 s16 s17 s18 s19 hc hi hp a w hS
         obtain rfl:s3=false:=hi
         obtain rfl:s2=true:=hp 2 (by kernel_rfl)
         obtain rfl:s19=false:=hc.f 19 3 (by kernel_rfl) rfl
         obtain ⟨AA9,cc9,SS9,hF3,hM⟩:=hS
         refine xP 25 (v0:=pt bb4 0) (v:=pt bb4 0) hF3 rfl fun a3 hF3=>⟨AA9,cc9,SS9,hF3.rc 6,hM.k⟩
        ·intro s0 s1 s2 s3 s4 s5 s6 s7 s8 s9 s10 s11 s12 s13 s14 s15 s16 s17 s18 s19 hc hi hp a w hS
         obtain rfl:s4=false:=hi
         obtain rfl:s3=true:=hp 3 (by kernel_rfl)
         obtain rfl:s13=false:=hc.f 13 4 (by kernel_rfl) rfl
         obtain rfl:s19=false:=hc.f 19 4 (by kernel_rfl) rfl
         obtain ⟨AA9,cc9,SS9,hF3,hM⟩:=hS
         refine xL 26 13 0 (v:=.agg #[.slice A ge.length gc,iv cyc,iv per,iv sh,iv now1,.slice qA1 8 qg1,.bool (decide (bz2=1)),iv x02,iv x12,iv x22,iv x32,iv x42,iv x52,.bool (decide (x62=1)),iv bg2,iv fn2,iv rs2]) hF3 hM fun a3 w hF3 hM=>⟨AA9,cc9,SS9,hF3.rc 7,hM.k⟩
        ·intro s0 s1 s2 s3 s4 s5 s6 s7 s8 s9 s10 s11 s12 s13 s14 s15 s16 s17 s18 s19 hc hi hp a w hS
         obtain rfl:s5=false:=hi
         obtain ⟨AA9,cc9,SS9,hF3,hM⟩:=hS
         refine xP 27 (v0:=iv t) (v:=iv t) hF3 rfl fun a3 hF3=>⟨AA9,cc9,SS9,hF3.rc 8,hM.k⟩
        ·intro s0 s1 s2 s3 s4 s5 s6 s7 s8 s9 s10 s11 s12 s13 s14 s15 s16 s17 s18 s19 hc hi hp a w hS
         obtain rfl:s6=false:=hi
         obtain rfl:s19=false:=hc.f 19 6 (by kernel_rfl) rfl
         obtain ⟨AA9,cc9,SS9,hF3,hM⟩:=hS
         refine xP 28 (v0:=pt bb4 0) (v:=pt bb4 0) hF3 rfl fun a3 hF3=>⟨AA9,cc9,SS9,hF3.rc 9,hM.k⟩
        ·intro s0 s1 s2 s3 s4 s5 s6 s7 s8 s9 s10 s11 s12 s13 s14 s15 s16 s17 s18 s19 hc hi hp a w hS
         obtain rfl:s7=false:=hi
         obtain rfl:s6=true:=hp 6 (by kernel_rfl)
         obtain rfl:s19=false:=hc.f 19 7 (by kernel_rfl) rfl
         obtain ⟨AA9,cc9,SS9,hF3,hM⟩:=hS
         refine xP 29 (v0:=pt bb4 0) (v:=pt bb4 0) hF3 rfl fun a3 hF3=>⟨AA9,cc9,SS9,hF3.rc 10,hM.k⟩
        ·intro s0 s1 s2 s3 s4 s5 s6 s7 s8 s9 s10 s11 s12 s13 s14 s15 s16 s17 s18 s19 hc hi hp a w hS
         obtain rfl:s8=false:=hi
         obtain rfl:s7=true:=hp 7 (by kernel_rfl)
         obtain rfl:s19=false:=hc.f 19 8 (by kernel_rfl) rfl
         obtain ⟨AA9,cc9,SS9,hF3,hM⟩:=hS
         refine xP 30 (v0:=pt bb4 17) (v:=pt bb4 17) hF3 rfl fun a3 hF3=>⟨AA9,cc9,SS9,hF3.rc 11,hM.k⟩
        ·intro s0 s1 s2 s3 s4 s5 s6 s7 s8 s9 s10 s11 s12 s13 s14 s15 s16 s17 s18 s19 hc hi hp a w hS
         obtain rfl:s9=false:=hi
         obtain rfl:s8=true:=hp 8 (by kernel_rfl)
         obtain rfl:s19=false:=hc.f 19 9 (by kernel_rfl) rfl
         obtain ⟨AA9,cc9,SS9,hF3,hM⟩:=hS
         refine xL 31 13 17 (v:=.slice lA1 l1.length lg1) hF3 hM fun a3 w hF3 hM=>⟨AA9,cc9,SS9,hF3.rc 12,hM.k⟩
        ·intro s0 s1 s2 s3 s4 s5 s6 s7 s8 s9 s10 s11 s12 s13 s14 s15 s16 s17 s18 s19 hc hi hp a w hS
         obtain rfl:s10=false:=hi
         obtain rfl:s9=true:=hp 9 (by kernel_rfl)
         obtain ⟨AA9,cc9,SS9,hF3,hM⟩:=hS
         refine xM 32 (v:=.pointer (some (ea lA1 (0 * 6)))) hF3 hM (yld_ix (kd:=.i64) (e:=63) (len:=l1.length) (cap:=lg1) (i:=0) (size:=6) (A:=lA1) hF3 rfl (by kernel_rfl) (by kernel_rfl) (by kernel_rfl) (by kernel_rfl) (by kernel_rfl) (roK 2 rfl) (by omega) (by omega) (by rw [flatE_length (es:=cE) hWl1,show cE.length=6 from rfl]; (try simp only [List.length_map,List.length_append,List.length_replicate,List.length_set,List.length_cons,List.length_nil,flat2_length,List.length_take]); omega)) fun a3 w hF3 hM=>⟨AA9,cc9,SS9,hF3.rc 13,hM.k⟩
        ·intro s0 s1 s2 s3 s4 s5 s6 s7 s8 s9 s10 s11 s12 s13 s14 s15 s16 s17 s18 s19 hc hi hp a w hS
         obtain rfl:s11=false:=hi
         obtain rfl:s10=true:=hp 10 (by kernel_rfl)
         obtain ⟨AA9,cc9,SS9,hF3,hM⟩:=hS
         refine xP 33 (v0:=.pointer (some (ea lA1 (0 * 6 + 1)))) (v:=.pointer (some (ea lA1 (0 * 6 + 1)))) hF3 rfl fun a3 hF3=>⟨AA9,cc9,SS9,hF3.rc 14,hM.k⟩
        ·intro s0 s1 s2 s3 s4 s5 s6 s7 s8 s9 s10 s11 s12 s13 s14 s15 s16 s17 s18 s19 hc hi hp a w hS
         obtain rfl:s12=false:=hi
         obtain rfl:s11=true:=hp 11 (by kernel_rfl)
         obtain ⟨AA9,cc9,SS9,hF3,hM⟩:=hS
         refine xM 34 (v:=.agg #[iv (rc l1 0 1),iv (rc l1 0 2),iv (rc l1 0 3),iv (rc l1 0 4),iv (rc l1 0 5)]) hF3 hM (yld_roM (A:=lA1) (j:=0 * 6 + 1) (us:=[iv (rc l1 0 1),iv (rc l1 0 2),iv (rc l1 0 3),iv (rc l1 0 4),iv (rc l1 0 5)]) hF3 rfl (by kernel_rfl) (by kernel_rfl) (roK 2 rfl) (by kernel_rfl) rfl (rcE_sub (es:=cE) (k:=0) (f:=1) (m:=5) hWl1 (by omega) rfl)) fun a3 w hF3 hM=>⟨AA9,cc9,SS9,hF3.rc 15,hM.k⟩
        ·intro s0 s1 s2 s3 s4 s5 s6 s7 s8 s9 s10 s11 s12 s13 s14 s15 s16 s17 s18 s19 hc hi hp a w hS
         obtain rfl:s13=false:=hi
         obtain rfl:s12=true:=hp 12 (by kernel_rfl)
         obtain rfl:s5=true:=hp 5 (by kernel_rfl)
         obtain rfl:s4=true:=hp 4 (by kernel_rfl)
         obtain rfl:s14=false:=hc.f 14 13 (by kernel_rfl) rfl
         obtain rfl:s15=false:=hc.f 15 14 (by kernel_rfl) rfl
         obtain rfl:s19=false:=hc.f 19 13 (by kernel_rfl) rfl
         obtain ⟨AA9,cc9,SS9,hF3,hM⟩:=hS
         refine sQ 9 (f:=52) (args:=#[.agg #[.slice A ge.length gc,iv cyc,iv per,iv sh,iv now1,.slice qA1 8 qg1,.bool (decide (bz2=1)),iv x02,iv x12,iv x22,iv x32,iv x42,iv x52,.bool (decide (x62=1)),iv bg2,iv fn2,iv rs2],iv t,.agg #[iv (rc l1 0 1),iv (rc l1 0 2),iv (rc l1 0 3),iv (rc l1 0 4),iv (rc l1 0 5)]]) (mk:=(fun s=>.tuple #[.agg #[.slice A ge.length gc,.int .i64 cyc,.int .i64 per,.int .i64 sh,.int .i64 t,s,.bool (decide (bz2=1)),.int .i64 x02,.int .i64 x12,.int .i64 x22,.int .i64 x32,.int .i64 x42,.int .i64 x52,.bool (decide (x62=1)),.int .i64 bg2,.int .i64 fn2,.int .i64 rs2],.bool (decide (octL (Q1 (rc l1 0 3).toNat) (Q1 (rc l1 0 3).toNat).length + rc l1 0 4 ≤ cap (rc l1 0 3).toNat))])) (cap':=cap) (Q':=(arQ cap Q1 (rc l1 0 3).toNat [rc l1 0 1,rc l1 0 2,rc l1 0 3,rc l1 0 4,rc l1 0 5,rc l1 0 4,0] (rc l1 0 4))) hF3 hM rfl (by kernel_rfl) rfl (by decide) (by kernel_rfl) (fun _=>by kernel_rfl) (arrive_w A ge gc cyc per sh _ qA1 qg1 cap Q1 now1 bz2 x02 x12 x22 x32 x42 x52 x62 bg2 fn2 rs2 t (rc l1 0 1) (rc l1 0 2) (rc l1 0 3) (rc l1 0 4) (rc l1 0 5) w (hM.ok 1 _ rfl) (hM.ok 9 _ rfl).1 hw1.1.hv (hw1.1.hl 0 (by dsimp only; omega))) fun AA9 cc9 SS9 a3 w hSS9 hF3 hM=>⟨AA9,cc9,SS9,hF3.rc 16,hM.rc 2⟩
        ·intro s0 s1 s2 s3 s4 s5 s6 s7 s8 s9 s10 s11 s12 s13 s14 s15 s16 s17 s18 s19 hc hi hp a w hS
         obtain rfl:s14=false:=hi
         obtain rfl:s13=true:=hp 13 (by kernel_rfl)
         obtain ⟨AA9,cc9,SS9,hF3,hM⟩:=hS
         refine xP 21 (v0:=.tuple #[.agg #[.slice A ge.length gc,iv cyc,iv per,iv sh,iv t,.slice AA9 8 cc9,.bool (decide (bz2=1)),iv x02,iv x12,iv x22,iv x32,iv x42,iv x52,.bool (decide (x62=1)),iv bg2,iv fn2,iv rs2],(.bool (decide (octL (Q1 (rc l1 0 3).toNat) (Q1 (rc l1 0 3).toNat).length + rc l1 0 4 ≤ cap (rc l1 0 3).toNat)))]) (v:=.tuple #[.agg #[.slice A ge.length gc,iv cyc,iv per,iv sh,iv t,.slice AA9 8 cc9,.bool (decide (bz2=1)),iv x02,iv x12,iv x22,iv x32,iv x42,iv x52,.bool (decide (x62=1)),iv bg2,iv fn2,iv rs2],(.bool (decide (octL (Q1 (rc l1 0 3).toNat) (Q1 (rc l1 0 3).toNat).length + rc l1 0 4 ≤ cap (rc l1 0 3).toNat)))]) hF3 rfl fun a3 hF3=>⟨AA9,cc9,SS9,hF3.rc 2,hM.k⟩
        ·intro s0 s1 s2 s3 s4 s5 s6 s7 s8 s9 s10 s11 s12 s13 s14 s15 s16 s17 s18 s19 hc hi hp a w hS
         obtain rfl:s15=false:=hi
         obtain rfl:s14=true:=hp 14 (by kernel_rfl)
         obtain rfl:s13=true:=hc 14 13 (by kernel_rfl) rfl
         obtain ⟨AA9,cc9,SS9,hF3,hM⟩:=hS
         refine xP 36 (v0:=.agg #[.slice A ge.length gc,iv cyc,iv per,iv sh,iv t,.slice AA9 8 cc9,.bool (decide (bz2=1)),iv x02,iv x12,iv x22,iv x32,iv x42,iv x52,.bool (decide (x62=1)),iv bg2,iv fn2,iv rs2]) (v:=.agg #[.slice A ge.length gc,iv cyc,iv per,iv sh,iv t,.slice AA9 8 cc9,.bool (decide (bz2=1)),iv x02,iv x12,iv x22,iv x32,iv x42,iv x52,.bool (decide (x62=1)),iv bg2,iv fn2,iv rs2]) hF3 rfl fun a3 hF3=>⟨AA9,cc9,SS9,hF3.rc 17,hM.k⟩
        ·intro s0 s1 s2 s3 s4 s5 s6 s7 s8 s9 s10 s11 s12 s13 s14 s15 s16 s17 s18 s19 hc hi hp a w hS
         obtain rfl:s16=false:=hi
         obtain rfl:s14=true:=hp 14 (by kernel_rfl)
         obtain rfl:s13=true:=hc 14 13 (by kernel_rfl) rfl
         obtain ⟨AA9,cc9,SS9,hF3,hM⟩:=hS
         refine xP 37 (v0:=(.bool (decide (octL (Q1 (rc l1 0 3).toNat) (Q1 (rc l1 0 3).toNat).length + rc l1 0 4 ≤ cap (rc l1 0 3).toNat)))) (v:=(.bool (decide (octL (Q1 (rc l1 0 3).toNat) (Q1 (rc l1 0 3).toNat).length + rc l1 0 4 ≤ cap (rc l1 0 3).toNat)))) hF3 rfl fun a3 hF3=>⟨AA9,cc9,SS9,hF3.rc 18,hM.k⟩
        ·intro s0 s1 s2 s3 s4 s5 s6 s7 s8 s9 s10 s11 s12 s13 s14 s15 s16 s17 s18 s19 hc hi hp a w hS
         obtain rfl:s17=false:=hi
         obtain rfl:s0=true:=hp 0 (by kernel_rfl)
         obtain rfl:s18=false:=hc.f 18 17 (by kernel_rfl) rfl
         obtain rfl:s19=false:=hc.f 19 18 (by kernel_rfl) rfl
         obtain ⟨AA9,cc9,SS9,hF3,hM⟩:=hS
         refine xP 38 (v0:=pt bb4 0) (v:=pt bb4 0) hF3 rfl fun a3 hF3=>⟨AA9,cc9,SS9,hF3.rc 19,hM.k⟩
        ·intro s0 s1 s2 s3 s4 s5 s6 s7 s8 s9 s10 s11 s12 s13 s14 s15 s16 s17 s18 s19 hc hi hp a w hS
         obtain rfl:s18=false:=hi
         obtain rfl:s17=true:=hp 17 (by kernel_rfl)
         obtain rfl:s19=false:=hc.f 19 18 (by kernel_rfl) rfl
         obtain ⟨AA9,cc9,SS9,hF3,hM⟩:=hS
         refine xP 39 (v0:=pt bb4 0) (v:=pt bb4 0) hF3 rfl fun a3 hF3=>⟨AA9,cc9,SS9,hF3.rc 20,hM.k⟩
        ·intro s0 s1 s2 s3 s4 s5 s6 s7 s8 s9 s10 s11 s12 s13 s14 s15 s16 s17 s18 s19 hc hi hp a w hS
         obtain rfl:s19=false:=hi
         obtain rfl:s18=true:=hp 18 (by kernel_rfl)
         obtain rfl:s15=true:=hp 15 (by kernel_rfl)
         obtain rfl:s13=true:=hp 13 (by kernel_rfl)
         obtain ⟨AA9,cc9,SS9,hF3,hM⟩:=hS
         refine xS 13 0 #[.slice A ge.length gc,iv cyc,iv per,iv sh,iv t,.slice AA9 8 cc9,.bool (decide (bz2=1)),iv x02,iv x12,iv x22,iv x32,iv x42,iv x52,.bool (decide (x62=1)),iv bg2,iv fn2,iv rs2,.slice lA1 l1.length lg1,.slice gA2 gn2 gC2] hF3 hM fun w hM=>⟨AA9,cc9,SS9,hF3.k,hM.rc 6⟩
       ·intro a3 w hS
        obtain ⟨AA9,cc9,SS9,hF3,hM⟩:=hS
        replace hF3:Fr 48 [(0,some (pt bb4 0)),(1,some (iv t)),(21,some (.tuple #[.agg #[.slice A ge.length gc,iv cyc,iv per,iv sh,iv t,.slice AA9 8 cc9,.bool (decide (bz2=1)),iv x02,iv x12,iv x22,iv x32,iv x42,iv x52,.bool (decide (x62=1)),iv bg2,iv fn2,iv rs2],(.bool (decide (octL (Q1 (rc l1 0 3).toNat) (Q1 (rc l1 0 3).toNat).length + rc l1 0 4 ≤ cap (rc l1 0 3).toNat)))])),(22,some (pt bb4 0)),(23,some (pt bb4 0)),(24,some (pt bb4 0)),(25,some (pt bb4 0)),(26,some (.agg #[.slice A ge.length gc,iv cyc,iv per,iv sh,iv now1,.slice qA1 8 qg1,.bool (decide (bz2=1)),iv x02,iv x12,iv x22,iv x32,iv x42,iv x52,.bool (decide (x62=1)),iv bg2,iv fn2,iv rs2])),(27,some (iv t)),(28,some (pt bb4 0)),(29,some (pt bb4 0)),(30,some (pt bb4 17)),(31,some (.slice lA1 l1.length lg1)),(32,some (.pointer (some (ea lA1 (0 * 6))))),(33,some (.pointer (some (ea lA1 (0 * 6 + 1))))),(34,some (.agg #[iv (rc l1 0 1),iv (rc l1 0 2),iv (rc l1 0 3),iv (rc l1 0 4),iv (rc l1 0 5)])),(35,some (.tuple #[.agg #[.slice A ge.length gc,iv cyc,iv per,iv sh,iv t,.slice AA9 8 cc9,.bool (decide (bz2=1)),iv x02,iv x12,iv x22,iv x32,iv x42,iv x52,.bool (decide (x62=1)),iv bg2,iv fn2,iv rs2],(.bool (decide (octL (Q1 (rc l1 0 3).toNat) (Q1 (rc l1 0 3).toNat).length + rc l1 0 4 ≤ cap (rc l1 0 3).toNat)))])),(36,some (.agg #[.slice A ge.length gc,iv cyc,iv per,iv sh,iv t,.slice AA9 8 cc9,.bool (decide (bz2=1)),iv x02,iv x12,iv x22,iv x32,iv x42,iv x52,.bool (decide (x62=1)),iv bg2,iv fn2,iv rs2])),(37,some ((.bool (decide (octL (Q1 (rc l1 0 3).toNat) (Q1 (rc l1 0 3).toNat).length + rc l1 0 4 ≤ cap (rc l1 0 3).toNat))))),(38,some (pt bb4 0)),(39,some (pt bb4 0))] a3:=hF3.cast (by kernel_rfl)
        replace hM:Mem w0.heap.size w0 [(1,some (.ro A (flat2 ge))),(2,some (.ro lA1 (flatE cE l1))),(9,some (.sep SS9 (QM SS9 AA9 cap (arQ cap Q1 (rc l1 0 3).toNat [rc l1 0 1,rc l1 0 2,rc l1 0 3,rc l1 0 4,rc l1 0 5,rc l1 0 4,0] (rc l1 0 4))))),(10,some (.row bb1 52 #[.slice A ge.length gc,iv cyc,iv per,iv sh,iv 0,.slice Aq 8 gq,.bool false,iv 0,iv 0,iv 0,iv 0,iv 0,iv 0,.bool false,iv 0,iv 0,iv 0])),(11,some (.row bb2 3 #[iv un])),(12,some (.row bb3 52 #[.slice none 0 0,iv 0,iv 0,iv 0,iv 0,.slice none 0 0,.bool false,iv 0,iv 0,iv 0,iv 0,iv 0,iv 0,.bool false,iv 0,iv 0,iv 0])),(13,some (.row bb4 97 #[.slice A ge.length gc,iv cyc,iv per,iv sh,iv t,.slice AA9 8 cc9,.bool (decide (bz2=1)),iv x02,iv x12,iv x22,iv x32,iv x42,iv x52,.bool (decide (x62=1)),iv bg2,iv fn2,iv rs2,.slice lA1 l1.length lg1,.slice gA2 gn2 gC2])),(14,some (.row bb5 101 #[.func (.func 31) #[] #[],.func (.func 32) #[] #[],.func (.func 33) #[] #[]])),(15,some (.own (.slice gA2 gn2 gC2) 62 6 gn2 (flatR g2))),(16,some (.row bb6 100 #[pt bb4 0])),(17,some (.obj DD7 (.deferred (some [])))),(18,some (.obj ll7 (OO7 .busy none)))] w:=hM.cast (by kernel_rfl)
        refine hK58 _ _ (wp_region_lit (xB 4 [(40,pt bb4 0),(41,pt bb4 0),(42,pt bb4 0),(43,pt bb4 17)] hF3 fun a3 hF3=>wl (xL 44 13 17 (v:=.slice lA1 l1.length lg1) hF3 hM fun a3 w hF3 hM=>?_)))
        replace hM:=hM.roTail (es:=cE) (cap:=lg1) 19 2 rfl hWl1 (by omega) hlg1
        refine wl (xM 45 (v:=.slice (advA lA1 6 lg1 1) l1.tail.length (lg1 - 1)) hF3 hM (yld_tail (e:=63) (len:=l1.length) (cap:=lg1) (size:=6) (A:=lA1) hF3 rfl (by kernel_rfl) (by kernel_rfl) (by kernel_rfl) (by kernel_rfl) (by kernel_rfl) (by omega) (List.length_tail ..)) fun a3 w hF3 hM=>xB 2 [(46,pt bb4 0),(47,pt bb4 17)] hF3 fun a3 hF3=>wl (xS 13 17 #[.slice A ge.length gc,iv cyc,iv per,iv sh,iv t,.slice AA9 8 cc9,.bool (decide (bz2=1)),iv x02,iv x12,iv x22,iv x32,iv x42,iv x52,.bool (decide (x62=1)),iv bg2,iv fn2,iv rs2,.slice (advA lA1 6 lg1 1) l1.tail.length (lg1 - 1),.slice gA2 gn2 gC2] hF3 hM fun w hM=>wpList_nil ?_))
        replace hM:=hM.move 2 19 rfl (by decide)
        refine hK55 _ _ ⟨(t,arQ cap Q1 (rc l1 0 3).toNat [rc l1 0 1,rc l1 0 2,rc l1 0 3,rc l1 0 4,rc l1 0 5,rc l1 0 4,0] (rc l1 0 4),l1.tail,(advA lA1 6 lg1 1),(lg1 - 1),AA9,cc9,SS9),⟨(((Fr.nil hF3).c hF3 (i:=1) rfl rfl).c hF3 (i:=0) rfl rfl),(hM.sub ((((((((((((Sub.nil.c (k:=18) rfl rfl).c (k:=17) rfl rfl).c (k:=16) rfl rfl).c (k:=15) rfl rfl).c (k:=14) rfl rfl).c (k:=13) rfl rfl).c (k:=12) rfl rfl).c (k:=11) rfl rfl).c (k:=10) rfl rfl).c (k:=9) rfl rfl).c (k:=2) rfl rfl).c (k:=1) rfl rfl)),(show J1 t ⟨t,bz2,x02,x12,x22,x32,x42,x52,x62,bg2,fn2,rs2,(arQ cap Q1 (rc l1 0 3).toNat [rc l1 0 1,rc l1 0 2,rc l1 0 3,rc l1 0 4,rc l1 0 5,rc l1 0 4,0] (rc l1 0 4)),l1.tail,g2⟩ from by exact hR.ar _ _ (by assumption) (by dsimp only; omega) (by assumption)),(show WR 6 l1.tail from by exact WR.tl hWl1),(show l1.tail.length ≤ (lg1 - 1) from by rw [List.length_tail]; omega)⟩,(show l1.tail.length < l1.length from by rw [List.length_tail]; omega)⟩
      ·skip
       replace hF3:=hF3.c hF3 (i:=19) (v:=.bool false) rfl (bF hz21)
       replace hF3:=hF3.c hF3 (i:=20) (v:=.bool false) rfl (bF hz21)
       refine xF hF3 (wp_exit (hNR54 _ _ (ret_ofN hF3 hM (.nil) ⟨_,rfl,?_⟩)))
       intro a2 hF2
       refine wpLi_nil (hJ30 now1 Q1 l1 lA1 lg1 qA1 qg1 qS1 _ _ (((((((((Fr.nil hF2).c hF2 (i:=38) rfl rfl).c hF2 (i:=37) rfl rfl).c hF2 (i:=13) rfl rfl).c hF2 (i:=11) rfl rfl).c hF2 (i:=8) rfl rfl).c hF2 (i:=7) rfl rfl).c hF2 (i:=6) rfl rfl).c hF2 (i:=5) rfl rfl) (hM.sub ((((((((((((Sub.nil.c (k:=18) rfl rfl).c (k:=17) rfl rfl).c (k:=16) rfl rfl).c (k:=15) rfl rfl).c (k:=14) rfl rfl).c (k:=13) rfl rfl).c (k:=12) rfl rfl).c (k:=11) rfl rfl).c (k:=10) rfl rfl).c (k:=9) rfl rfl).c (k:=2) rfl rfl).c (k:=1) rfl rfl)) (show J1 t ⟨now1,bz2,x02,x12,x22,x32,x42,x52,x62,bg2,fn2,rs2,Q1,l1,g2⟩ from by assumption) (show WR 6 l1 from by assumption) (show l1.length ≤ lg1 from by assumption) (show ¬ (1 ≤ l1.length ∧ rc l1 0 0=t) from by exact fun z=>by obtain ⟨z1,z2⟩:=z; omega))
     ·skip
      refine wp_region_lit (xB 3 [(4,pt bb4 0),(5,pt bb4 0),(6,pt bb4 17)] hF3 fun a3 hF3=>wl (xL 7 13 17 (v:=.slice lA1 l1.length lg1) hF3 hM fun a3 w hF3 hM=>xB 1 [(8,iv (l1.length:Int))] hF3 fun a3 hF3=>wl (xP 9 (v0:=.bool (decide (0 < (l1.length:Int)))) (v:=.bool false) hF3 (bF hz20) fun a3 hF3=>xB 11 [(10,.bool false),(11,undef),(12,undef),(13,undef),(14,undef),(15,undef),(16,undef),(17,undef),(18,undef),(19,undef),(20,.bool false)] hF3 fun a3 hF3=>wpList_nil (hK57 _ _ (xF hF3 (wp_exit (hNR54 _ _ (ret_ofN hF3 hM (.nil) ⟨_,rfl,?_⟩))))))))
      intro a2 hF2
      refine wpLi_nil (hJ30 now1 Q1 l1 lA1 lg1 qA1 qg1 qS1 _ _ (((((((((Fr.nil hF2).c hF2 (i:=38) rfl rfl).c hF2 (i:=37) rfl rfl).c hF2 (i:=13) rfl rfl).c hF2 (i:=11) rfl rfl).c hF2 (i:=8) rfl rfl).c hF2 (i:=7) rfl rfl).c hF2 (i:=6) rfl rfl).c hF2 (i:=5) rfl rfl) (hM.sub ((((((((((((Sub.nil.c (k:=18) rfl rfl).c (k:=17) rfl rfl).c (k:=16) rfl rfl).c (k:=15) rfl rfl).c (k:=14) rfl rfl).c (k:=13) rfl rfl).c (k:=12) rfl rfl).c (k:=11) rfl rfl).c (k:=10) rfl rfl).c (k:=9) rfl rfl).c (k:=2) rfl rfl).c (k:=1) rfl rfl)) (show J1 t ⟨now1,bz2,x02,x12,x22,x32,x42,x52,x62,bg2,fn2,rs2,Q1,l1,g2⟩ from by assumption) (show WR 6 l1 from by assumption) (show l1.length ≤ lg1 from by assumption) (show ¬ (1 ≤ l1.length ∧ rc l1 0 0=t) from by exact fun z=>by obtain ⟨z1,z2⟩:=z; omega))
   refine wpIn_block (wpIn_seq_k fun K59 hK59=>wpR_region (wr (xP 40 (v0:=.func (.func 31) #[] #[]) (v:=.func (.func 31) #[] #[]) hF2 rfl fun a2 hF2=>wr (xP 15 (v0:=.func (.func 31) #[] #[]) (v:=.func (.func 31) #[] #[]) hF2 rfl fun a2 hF2=>wpLi_nil (hK59 _ _ (wpIn_seq_k fun K60 hK60=>wpIn_seq_k fun K61 hK61=>wpR_region (wr (xP 41 (v0:=iv t) (v:=iv t) hF2 rfl fun a2 hF2=>wr (xL 42 11 0 (v:=iv un) hF2 hM fun a2 w hF2 hM=>?_) hqB21 rfl) hqB21 rfl)))) hqB21 rfl) hqB21 rfl))
   refine wr (xP 43 (v0:=.bool (decide (un < t))) (v:=.bool (decide (un < t))) hF2 rfl fun a2 hF2=>wpLi_nil (hK61 _ _ ?_)) hqB21 rfl
   by_cases hz22:un < t
   ·skip
    replace hF2:=hF2.c hF2 (i:=43) (v:=.bool true) rfl (bT hz22)
    refine cTi hF2 (by kernel_rfl) (by kernel_rfl) (wpIn_exit (hBe21 0 _ _ _ hM rfl fun a1 w hF1 hM=>wr (xP 47 (v0:=.bool true) (v:=.bool true) hF1 rfl fun a1 hF1=>wr (xP 48 (v0:=.bool true) (v:=.bool true) hF1 rfl fun a1 hF1=>wpLi_nil (hK20 _ _ (xT hF1 (wp_ret (hR16 _ _ (ret_of hF1 hM (.nil) (rangeEndJ (kl:=18) OO7 hO7 hM rfl (by decide) fun w hM=>?_))))))) hqR16 rfl) hqR16 rfl))
    replace hF:=hF.defer { target:=.collected DD7,args:=#[] }
    refine wp_exit (hK11 _ _ (wp_seq_k fun K62 hK62=>wp_region_lit (wl (xL 48 11 0 (v:=iv un) hF hM fun a w hF hM=>xB 3 [(49,pt bb4 0),(50,pt bb4 0),(51,pt bb4 4)] hF fun a hF=>wl (xS 13 4 #[.slice A ge.length gc,iv cyc,iv per,iv sh,iv un,.slice qA 8 qg,.bool (decide (bz=1)),iv x0,iv x1,iv x2,iv x3,iv x4,iv x5,.bool (decide (x6=1)),iv bg,iv fn,iv rs,.slice lA l.length lg,.slice gA gn gC] hF hM fun w hM=>wpList_nil (hK62 _ _ (wp_seq_k fun K63 hK63=>?_)))))))
    refine rF (by kernel_rfl) (by kernel_rfl) (fun S a w=>Fr (⟨57,[{ target:=.collected DD7,args:=#[] }]⟩:NF) [(6,some (pt bb3 0)),(7,(cond (S.getD 6 false) (some (.slice gA gn gC)) (some (.slice none 0 0)))),(8,(cond (S.getD 7 false) (some (iv 0)) (some (iv 0)))),(11,some (pt bb4 0)),(52,(cond (S.getD 0 false) (some (pt bb4 0)) none)),(53,(cond (S.getD 1 false) (some (pt bb4 0)) none)),(54,(cond (S.getD 2 false) (some (.agg #[.slice A ge.length gc,iv cyc,iv per,iv sh,iv un,.slice qA 8 qg,.bool (decide (bz=1)),iv x0,iv x1,iv x2,iv x3,iv x4,iv x5,.bool (decide (x6=1)),iv bg,iv fn,iv rs])) none)),(55,(cond (S.getD 3 false) (some (pt bb4 18)) none)),(56,(cond (S.getD 4 false) (some (.slice gA gn gC)) none))] a ∧ Mem w0.heap.size w0 [(1,some (.ro A (flat2 ge))),(2,some (.ro lA (flatE cE l))),(9,some (.sep qS (QM qS qA cap Q))),(12,(cond (S.getD 5 false) (some (.row bb3 52 #[.slice A ge.length gc,iv cyc,iv per,iv sh,iv un,.slice qA 8 qg,.bool (decide (bz=1)),iv x0,iv x1,iv x2,iv x3,iv x4,iv x5,.bool (decide (x6=1)),iv bg,iv fn,iv rs])) (some (.row bb3 52 #[.slice none 0 0,iv 0,iv 0,iv 0,iv 0,.slice none 0 0,.bool false,iv 0,iv 0,iv 0,iv 0,iv 0,iv 0,.bool false,iv 0,iv 0,iv 0])))),(13,some (.row bb4 97 #[.slice A ge.length gc,iv cyc,iv per,iv sh,iv un,.slice qA 8 qg,.bool (decide (bz=1)),iv x0,iv x1,iv x2,iv x3,iv x4,iv x5,.bool (decide (x6=1)),iv bg,iv fn,iv rs,.slice lA l.length lg,.slice gA gn gC])),(15,some (.own (.slice gA gn gC) 62 6 gn (flatR g))),(17,some (.obj DD7 (.deferred (some [])))),(18,some (.obj ll7 (OO7 .exhausted (some (.exit 0)))))] w) ?_ ?_ ?_
    ·exact ⟨hF.pk,hM.dk⟩
    ·refine stC ?_ (stC ?_ (stC ?_ (stC ?_ (stC ?_ (stC ?_ (stC ?_ (stC ?_ (trivial))))))))
     ·intro s0 s1 s2 s3 s4 s5 s6 s7 hc hi hp a w hS
      obtain rfl:s0=false:=hi
      obtain ⟨hF,hM⟩:=hS
      refine xP 52 (v0:=pt bb4 0) (v:=pt bb4 0) hF rfl fun a hF=>⟨hF.rc 4,hM.k⟩
     ·intro s0 s1 s2 s3 s4 s5 s6 s7 hc hi hp a w hS
      obtain rfl:s1=false:=hi
      obtain rfl:s0=true:=hp 0 (by kernel_rfl)
      obtain ⟨hF,hM⟩:=hS
      refine xP 53 (v0:=pt bb4 0) (v:=pt bb4 0) hF rfl fun a hF=>⟨hF.rc 5,hM.k⟩
     ·intro s0 s1 s2 s3 s4 s5 s6 s7 hc hi hp a w hS
      obtain rfl:s2=false:=hi
      obtain rfl:s1=true:=hp 1 (by kernel_rfl)
      obtain ⟨hF,hM⟩:=hS
      refine xL 54 13 0 (v:=.agg #[.slice A ge.length gc,iv cyc,iv per,iv sh,iv un,.slice qA 8 qg,.bool (decide (bz=1)),iv x0,iv x1,iv x2,iv x3,iv x4,iv x5,.bool (decide (x6=1)),iv bg,iv fn,iv rs]) hF hM fun a w hF hM=>⟨hF.rc 6,hM.k⟩
     ·intro s0 s1 s2 s3 s4 s5 s6 s7 hc hi hp a w hS
      obtain rfl:s3=false:=hi
      obtain ⟨hF,hM⟩:=hS
      refine xP 55 (v0:=pt bb4 18) (v:=pt bb4 18) hF rfl fun a hF=>⟨hF.rc 7,hM.k⟩
     ·intro s0 s1 s2 s3 s4 s5 s6 s7 hc hi hp a w hS
      obtain rfl:s4=false:=hi
      obtain rfl:s3=true:=hp 3 (by kernel_rfl)
      obtain ⟨hF,hM⟩:=hS
      refine xL 56 13 18 (v:=.slice gA gn gC) hF hM fun a w hF hM=>⟨hF.rc 8,hM.k⟩
     ·intro s0 s1 s2 s3 s4 s5 s6 s7 hc hi hp a w hS
      obtain rfl:s5=false:=hi
      obtain rfl:s2=true:=hp 2 (by kernel_rfl)
      obtain ⟨hF,hM⟩:=hS
      refine xS 12 0 #[.slice A ge.length gc,iv cyc,iv per,iv sh,iv un,.slice qA 8 qg,.bool (decide (bz=1)),iv x0,iv x1,iv x2,iv x3,iv x4,iv x5,.bool (decide (x6=1)),iv bg,iv fn,iv rs] hF hM fun w hM=>⟨hF.k,hM.rc 3⟩
     ·intro s0 s1 s2 s3 s4 s5 s6 s7 hc hi hp a w hS
      obtain rfl:s6=false:=hi
      obtain rfl:s4=true:=hp 4 (by kernel_rfl)
      obtain ⟨hF,hM⟩:=hS
      refine xP 7 (v0:=.slice gA gn gC) (v:=.slice gA gn gC) hF rfl fun a hF=>⟨hF.rc 1,hM.k⟩
     ·intro s0 s1 s2 s3 s4 s5 s6 s7 hc hi hp a w hS
      obtain rfl:s7=false:=hi
      obtain ⟨hF,hM⟩:=hS
      refine xP 8 (v0:=iv 0) (v:=iv 0) hF rfl fun a hF=>⟨hF.rc 2,hM.k⟩
    ·intro a w hS
     obtain ⟨hF,hM⟩:=hS
     replace hF:Fr (⟨57,[{ target:=.collected DD7,args:=#[] }]⟩:NF) [(6,some (pt bb3 0)),(7,some (.slice gA gn gC)),(8,some (iv 0)),(11,some (pt bb4 0)),(52,some (pt bb4 0)),(53,some (pt bb4 0)),(54,some (.agg #[.slice A ge.length gc,iv cyc,iv per,iv sh,iv un,.slice qA 8 qg,.bool (decide (bz=1)),iv x0,iv x1,iv x2,iv x3,iv x4,iv x5,.bool (decide (x6=1)),iv bg,iv fn,iv rs])),(55,some (pt bb4 18)),(56,some (.slice gA gn gC))] a:=hF.cast (by kernel_rfl)
     replace hM:Mem w0.heap.size w0 [(1,some (.ro A (flat2 ge))),(2,some (.ro lA (flatE cE l))),(9,some (.sep qS (QM qS qA cap Q))),(12,some (.row bb3 52 #[.slice A ge.length gc,iv cyc,iv per,iv sh,iv un,.slice qA 8 qg,.bool (decide (bz=1)),iv x0,iv x1,iv x2,iv x3,iv x4,iv x5,.bool (decide (x6=1)),iv bg,iv fn,iv rs])),(13,some (.row bb4 97 #[.slice A ge.length gc,iv cyc,iv per,iv sh,iv un,.slice qA 8 qg,.bool (decide (bz=1)),iv x0,iv x1,iv x2,iv x3,iv x4,iv x5,.bool (decide (x6=1)),iv bg,iv fn,iv rs,.slice lA l.length lg,.slice gA gn gC])),(15,some (.own (.slice gA gn gC) 62 6 gn (flatR g))),(17,some (.obj DD7 (.deferred (some [])))),(18,some (.obj ll7 (OO7 .exhausted (some (.exit 0)))))] w:=hM.cast (by kernel_rfl)
     refine hK63 _ _ (wp_ret (hR0 _ _ (retM1 (kD:=17) hF hM rfl (.cell (i:=12) rfl rfl (v:=.agg #[.slice A ge.length gc,iv cyc,iv per,iv sh,iv un,.slice qA 8 qg,.bool (decide (bz=1)),iv x0,iv x1,iv x2,iv x3,iv x4,iv x5,.bool (decide (x6=1)),iv bg,iv fn,iv rs]) (by kernel_rfl) (.tmp rfl (.tmp rfl (.nil)))) fun w hM=>?_)))
     subst hgn
     have hfr:=own_fresh hM (k:=15) rfl
     exact ⟨⟨now,bz,x0,x1,x2,x3,x4,x5,x6,bg,fn,rs,Q,l,g⟩,_,_,_,_,hJs,by first | exact .inl ((by assumption:er ≠ 0 → tmS ge cyc per sh ⟨now,bz,x0,x1,x2,x3,x4,x5,x6,bg,fn,rs,Q,l,g⟩=none) (by assumption)) | exact .inr ⟨t,htm,by omega⟩,rfl,hw.hg.2,hfr.1,hfr.2,hM.bel⟩
   ·skip
    replace hF2:=hF2.c hF2 (i:=43) (v:=.bool false) rfl (bF hz22)
    refine cFi hF2 (by kernel_rfl) (by kernel_rfl) (wpIn_skip (hK60 _ _ (wpR_region (wr (xP 44 (v0:=.func (.func 31) #[] #[]) (v:=.func (.func 31) #[] #[]) hF2 rfl fun a2 hF2=>wr (xP 45 (v0:=iv t) (v:=iv t) hF2 rfl fun a2 hF2=>wr (sC (f:=31) (args:=#[pt bb4 0,iv t]) hF2 (by kernel_rfl) rfl (by (try dsimp only); decide) (by kernel_rfl) (fun _=>by kernel_rfl) (enterK 51 Tryz.func31 rfl rfl rfl ?_)) hqB21 rfl) hqB21 rfl) hqB21 rfl))))
    intro a3 hF3 QR64 hR64 hNR64
    refine wp_seq_k fun K65 hK65=>wp_seq_k fun K66 hK66=>?_
    by_cases hz23:bz=1
    ·skip
     refine wp_region_lit (xB 5 [(7,pt bb4 0),(8,pt bb4 0),(9,pt bb4 0),(10,pt bb4 0),(11,pt bb4 6)] hF3 fun a3 hF3=>wl (xM 12 (v:=.bool true) hF3 hM (Yld.to (v:=.bool (decide (bz=1))) (yld_row (i:=13) (off:=6) hF3 rfl (by kernel_rfl) (by kernel_rfl) rfl (by kernel_rfl)) (bT hz23)) fun a3 w hF3 hM=>xB 7 [(13,.bool false),(14,.bool false),(15,pt bb4 0),(16,pt bb4 0),(17,pt bb4 0),(18,pt bb4 0),(19,pt bb4 15)] hF3 fun a3 hF3=>wl (xL 20 13 15 (v:=iv fn) hF3 hM fun a3 w hF3 hM=>xB 3 [(21,iv t),(22,.bool (!decide (fn=t))),(23,.bool (!decide (fn=t)))] hF3 fun a3 hF3=>wpList_nil (hK66 _ _ ?_))))
     by_cases hz24:fn=t
     ·skip
      replace hF3:=hF3.c hF3 (i:=22) (v:=.bool false) rfl (nT hz24)
      replace hF3:=hF3.c hF3 (i:=23) (v:=.bool false) rfl (nT hz24)
      refine xF hF3 (wp_skip (hK65 _ _ (wp_seq_k fun K67 hK67=>?_)))
      by_cases hz25:rs=0
      ·skip
       refine wp_region_lit (xB 3 [(25,pt bb4 0),(26,pt bb4 0),(27,pt bb4 0)] hF3 fun a3 hF3=>wl (xL 28 13 0 (v:=.agg #[.slice A ge.length gc,iv cyc,iv per,iv sh,iv now,.slice qA 8 qg,.bool (decide (bz=1)),iv x0,iv x1,iv x2,iv x3,iv x4,iv x5,.bool (decide (x6=1)),iv bg,iv fn,iv rs]) hF3 hM fun a3 w hF3 hM=>xB 1 [(29,iv t)] hF3 fun a3 hF3=>wl (xM 30 (v:=.tuple #[.agg #[.slice A ge.length gc,iv cyc,iv per,iv sh,iv t,.slice qA 8 qg,.bool false,iv 0,iv 0,iv 0,iv 0,iv 0,iv 0,.bool false,iv 0,iv 0,iv 0],.agg #[iv x0,iv x1,iv x2,iv x3,iv x4],.bool true]) hF3 hM (xC 51 #[.agg #[.slice A ge.length gc,iv cyc,iv per,iv sh,iv now,.slice qA 8 qg,.bool (decide (bz=1)),iv x0,iv x1,iv x2,iv x3,iv x4,iv x5,.bool (decide (x6=1)),iv bg,iv fn,iv rs],iv t] hF3 (fun w hM=>end_0 A ge gc cyc per sh _ qA qg cap Q now bz x0 x1 x2 x3 x4 x5 x6 bg fn rs t w (hM.ok 1 _ rfl) (hM.ok 9 _ rfl).1 hw.hv hz25)) fun a3 w hF3 hM=>xB 4 [(24,.tuple #[.agg #[.slice A ge.length gc,iv cyc,iv per,iv sh,iv t,.slice qA 8 qg,.bool false,iv 0,iv 0,iv 0,iv 0,iv 0,iv 0,.bool false,iv 0,iv 0,iv 0],.agg #[iv x0,iv x1,iv x2,iv x3,iv x4],.bool true]),(31,.agg #[.slice A ge.length gc,iv cyc,iv per,iv sh,iv t,.slice qA 8 qg,.bool false,iv 0,iv 0,iv 0,iv 0,iv 0,iv 0,.bool false,iv 0,iv 0,iv 0]),(32,.agg #[iv x0,iv x1,iv x2,iv x3,iv x4]),(33,.bool true)] hF3 fun a3 hF3=>wl (xN 4 20 (t:=95) (fun b=>.pointer (some ⟨b,0,none⟩)) #[.slice none 0 0,iv 0,iv 0,iv 0,iv 0,.slice none 0 0,.bool false,iv 0,iv 0,iv 0,iv 0,iv 0,iv 0,.bool false,iv 0,iv 0,iv 0] hF3 hM fun bb10 a3 w hF3 hM=>?_))))
       refine wl (xN 5 21 (t:=48) (fun b=>.pointer (some ⟨b,0,none⟩)) #[iv 0,iv 0,iv 0,iv 0,iv 0] hF3 hM fun bb11 a3 w hF3 hM=>?_)
       refine wl (xS 20 0 #[.slice A ge.length gc,iv cyc,iv per,iv sh,iv t,.slice qA 8 qg,.bool false,iv 0,iv 0,iv 0,iv 0,iv 0,iv 0,.bool false,iv 0,iv 0,iv 0] hF3 hM fun w hM=>wl (xS 21 0 #[iv x0,iv x1,iv x2,iv x3,iv x4] hF3 hM fun w hM=>xB 1 [(6,.bool true)] hF3 fun a3 hF3=>wpList_nil (hK67 _ _ (wp_seq_k fun K68 hK68=>wp_region_lit (xB 1 [(34,pt bb4 0)] hF3 fun a3 hF3=>wl (xL 35 20 0 (v:=.agg #[.slice A ge.length gc,iv cyc,iv per,iv sh,iv t,.slice qA 8 qg,.bool false,iv 0,iv 0,iv 0,iv 0,iv 0,iv 0,.bool false,iv 0,iv 0,iv 0]) hF3 hM fun a3 w hF3 hM=>xB 2 [(36,pt bb4 0),(37,pt bb4 0)] hF3 fun a3 hF3=>wl (xS 13 0 #[.slice A ge.length gc,iv cyc,iv per,iv sh,iv t,.slice qA 8 qg,.bool false,iv 0,iv 0,iv 0,iv 0,iv 0,iv 0,.bool false,iv 0,iv 0,iv 0,.slice lA l.length lg,.slice gA gn gC] hF3 hM fun w hM=>wpList_nil ?_)))))))
       refine hK68 _ _ (wp_seq_k fun K69 hK69=>wp_region_lit (xB 1 [(38,.bool true)] hF3 fun a3 hF3=>wpList_nil (hK69 _ _ (xT hF3 ?_))))
       refine rF (by kernel_rfl) (by kernel_rfl) (fun S a w=>∃ bb12:Nat,∃ AA13:Option Addr,∃ cc13:Nat,Fr 51 [(0,some (pt bb4 0)),(1,some (iv t)),(5,some (pt bb11 0)),(39,(cond (S.getD 0 false) (some (pt bb4 0)) none)),(40,(cond (S.getD 1 false) (some (pt bb4 0)) none)),(41,(cond (S.getD 2 false) (some (pt bb4 0)) none)),(42,(cond (S.getD 3 false) (some (pt bb4 18)) none)),(43,(cond (S.getD 4 false) (some (.slice gA gn gC)) none)),(44,(cond (S.getD 5 false) (some (iv t)) none)),(45,(cond (S.getD 6 false) (some (.agg #[iv x0,iv x1,iv x2,iv x3,iv x4])) none)),(46,(cond (S.getD 7 false) (some (.agg #[iv t,iv x0,iv x1,iv x2,iv x3,iv x4])) none)),(47,(cond (S.getD 8 false) (some (.slice (some ⟨bb12,0,none⟩) 1 1)) none)),(48,(cond (S.getD 9 false) (some (.slice AA13 (gn + 1) cc13)) none)),(49,(cond (S.getD 10 false) (some (pt bb4 0)) none)),(50,(cond (S.getD 11 false) (some (pt bb4 18)) none))] a ∧ Mem w0.heap.size w0 [(1,some (.ro A (flat2 ge))),(2,some (.ro lA (flatE cE l))),(9,some (.sep qS (QM qS qA cap Q))),(10,some (.row bb1 52 #[.slice A ge.length gc,iv cyc,iv per,iv sh,iv 0,.slice Aq 8 gq,.bool false,iv 0,iv 0,iv 0,iv 0,iv 0,iv 0,.bool false,iv 0,iv 0,iv 0])),(11,some (.row bb2 3 #[iv un])),(12,some (.row bb3 52 #[.slice none 0 0,iv 0,iv 0,iv 0,iv 0,.slice none 0 0,.bool false,iv 0,iv 0,iv 0,iv 0,iv 0,iv 0,.bool false,iv 0,iv 0,iv 0])),(13,(cond (S.getD 12 false) (some (.row bb4 97 #[.slice A ge.length gc,iv cyc,iv per,iv sh,iv t,.slice qA 8 qg,.bool false,iv 0,iv 0,iv 0,iv 0,iv 0,iv 0,.bool false,iv 0,iv 0,iv 0,.slice lA l.length lg,.slice AA13 (gn + 1) cc13])) (some (.row bb4 97 #[.slice A ge.length gc,iv cyc,iv per,iv sh,iv t,.slice qA 8 qg,.bool false,iv 0,iv 0,iv 0,iv 0,iv 0,iv 0,.bool false,iv 0,iv 0,iv 0,.slice lA l.length lg,.slice gA gn gC])))),(14,some (.row bb5 101 #[.func (.func 31) #[] #[],.func (.func 32) #[] #[],.func (.func 33) #[] #[]])),(15,(cond (S.getD 9 false) (some (.own (.slice AA13 (gn + 1) cc13) 62 6 (gn + 1) (flatR (g ++ [[t,x0,x1,x2,x3,x4]])))) (some (.own (.slice gA gn gC) 62 6 gn (flatR g))))),(16,some (.row bb6 100 #[pt bb4 0])),(17,some (.obj DD7 (.deferred (some [])))),(18,some (.obj ll7 (OO7 .busy none))),(21,some (.row bb11 48 #[iv x0,iv x1,iv x2,iv x3,iv x4])),(22,(cond (S.getD 8 false) (some (.row bb12 62 #[iv t,iv x0,iv x1,iv x2,iv x3,iv x4])) none))] w) ?_ ?_ ?_
       ·exact ⟨0,none,0,hF3.pk,hM.dk⟩
       ·refine stC ?_ (stC ?_ (stC ?_ (stC ?_ (stC ?_ (stC ?_ (stC ?_ (stC ?_ (stC ?_ (stC ?_ (stC ?_ (stC ?_ (stC ?_ (trivial)))))))))))))
        ·intro s0 s1 s2 s3 s4 s5 s6 s7 s8 s9 s10 s11 s12 hc hi hp a w hS
         obtain rfl:s0=false:=hi
         obtain rfl:s12=false:=hc.f 12 0 (by kernel_rfl) rfl
         obtain ⟨bb12,AA13,cc13,hF3,hM⟩:=hS
         refine xP 39 (v0:=pt bb4 0) (v:=pt bb4 0) hF3 rfl fun a3 hF3=>⟨bb12,AA13,cc13,hF3.rc 3,hM.k⟩
        ·intro s0 s1 s2 s3 s4 s5 s6 s7 s8 s9 s10 s11 s12 hc hi hp a w hS
         obtain rfl:s1=false:=hi
         obtain rfl:s12=false:=hc.f 12 1 (by kernel_rfl) rfl
         obtain ⟨bb12,AA13,cc13,hF3,hM⟩:=hS
         refine xP 40 (v0:=pt bb4 0) (v:=pt bb4 0) hF3 rfl fun a3 hF3=>⟨bb12,AA13,cc13,hF3.rc 4,hM.k⟩
        ·intro s0 s1 s2 s3 s4 s5 s6 s7 s8 s9 s10 s11 s12 hc hi hp a w hS
         obtain rfl:s2=false:=hi
         obtain rfl:s1=true:=hp 1 (by kernel_rfl)
         obtain rfl:s12=false:=hc.f 12 2 (by kernel_rfl) rfl
         obtain ⟨bb12,AA13,cc13,hF3,hM⟩:=hS
         refine xP 41 (v0:=pt bb4 0) (v:=pt bb4 0) hF3 rfl fun a3 hF3=>⟨bb12,AA13,cc13,hF3.rc 5,hM.k⟩
        ·intro s0 s1 s2 s3 s4 s5 s6 s7 s8 s9 s10 s11 s12 hc hi hp a w hS
         obtain rfl:s3=false:=hi
         obtain rfl:s2=true:=hp 2 (by kernel_rfl)
         obtain rfl:s12=false:=hc.f 12 3 (by kernel_rfl) rfl
         obtain ⟨bb12,AA13,cc13,hF3,hM⟩:=hS
         refine xP 42 (v0:=pt bb4 18) (v:=pt bb4 18) hF3 rfl fun a3 hF3=>⟨bb12,AA13,cc13,hF3.rc 6,hM.k⟩
        ·intro s0 s1 s2 s3 s4 s5 s6 s7 s8 s9 s10 s11 s12 hc hi hp a w hS
         obtain rfl:s4=false:=hi
         obtain rfl:s3=true:=hp 3 (by kernel_rfl)
         obtain rfl:s9=false:=hc.f 9 4 (by kernel_rfl) rfl
         obtain rfl:s12=false:=hc.f 12 4 (by kernel_rfl) rfl
         obtain ⟨bb12,AA13,cc13,hF3,hM⟩:=hS
         refine xL 43 13 18 (v:=.slice gA gn gC) hF3 hM fun a3 w hF3 hM=>⟨bb12,AA13,cc13,hF3.rc 7,hM.k⟩
        ·intro s0 s1 s2 s3 s4 s5 s6 s7 s8 s9 s10 s11 s12 hc hi hp a w hS
         obtain rfl:s5=false:=hi
         obtain ⟨bb12,AA13,cc13,hF3,hM⟩:=hS
         refine xP 44 (v0:=iv t) (v:=iv t) hF3 rfl fun a3 hF3=>⟨bb12,AA13,cc13,hF3.rc 8,hM.k⟩
        ·intro s0 s1 s2 s3 s4 s5 s6 s7 s8 s9 s10 s11 s12 hc hi hp a w hS
         obtain rfl:s6=false:=hi
         obtain ⟨bb12,AA13,cc13,hF3,hM⟩:=hS
         refine xL 45 21 0 (v:=.agg #[iv x0,iv x1,iv x2,iv x3,iv x4]) hF3 hM fun a3 w hF3 hM=>⟨bb12,AA13,cc13,hF3.rc 9,hM.k⟩
        ·intro s0 s1 s2 s3 s4 s5 s6 s7 s8 s9 s10 s11 s12 hc hi hp a w hS
         obtain rfl:s7=false:=hi
         obtain rfl:s6=true:=hp 6 (by kernel_rfl)
         obtain rfl:s5=true:=hp 5 (by kernel_rfl)
         obtain ⟨bb12,AA13,cc13,hF3,hM⟩:=hS
         refine xP 46 (v0:=.agg #[iv t,iv x0,iv x1,iv x2,iv x3,iv x4]) (v:=.agg #[iv t,iv x0,iv x1,iv x2,iv x3,iv x4]) hF3 rfl fun a3 hF3=>⟨bb12,AA13,cc13,hF3.rc 10,hM.k⟩
        ·intro s0 s1 s2 s3 s4 s5 s6 s7 s8 s9 s10 s11 s12 hc hi hp a w hS
         obtain rfl:s8=false:=hi
         obtain rfl:s7=true:=hp 7 (by kernel_rfl)
         obtain ⟨bb12,AA13,cc13,hF3,hM⟩:=hS
         refine xN 47 22 (t:=62) (fun b=>.slice (some ⟨b,0,none⟩) 1 1) #[iv t,iv x0,iv x1,iv x2,iv x3,iv x4] hF3 hM fun bb12 a3 w hF3 hM=>⟨bb12,AA13,cc13,hF3.rc 11,hM.rc 13⟩
        ·intro s0 s1 s2 s3 s4 s5 s6 s7 s8 s9 s10 s11 s12 hc hi hp a w hS
         obtain rfl:s9=false:=hi
         obtain rfl:s8=true:=hp 8 (by kernel_rfl)
         obtain rfl:s4=true:=hp 4 (by kernel_rfl)
         obtain rfl:s12=false:=hc.f 12 9 (by kernel_rfl) rfl
         obtain ⟨bb12,AA13,cc13,hF3,hM⟩:=hS
         refine sApp 48 15 (e:=62) (size:=6) (bytes:=48) (z:=.agg #[iv 0,iv 0,iv 0,iv 0,iv 0,iv 0]) (m:=1) (c:=1) (l:=gn) (cap:=gC) (A:=gA) (news:=[iv t,iv x0,iv x1,iv x2,iv x3,iv x4]) (flatR (g ++ [[t,x0,x1,x2,x3,x4]])) hF3 hM (by kernel_rfl) rfl (by kernel_rfl) (by kernel_rfl) (by kernel_rfl) rfl rfl rfl rfl (roR 22 rfl) (by simp [Value.oneCell']) (by omega) (by (try dsimp only); decide) (flatR_append g [[t,x0,x1,x2,x3,x4]]).symm fun AA13 cc13 a3 w hF3 hM=>⟨bb12,AA13,cc13,hF3.rc 12,hM.rc 8⟩
        ·intro s0 s1 s2 s3 s4 s5 s6 s7 s8 s9 s10 s11 s12 hc hi hp a w hS
         obtain rfl:s10=false:=hi
         obtain rfl:s0=true:=hp 0 (by kernel_rfl)
         obtain rfl:s11=false:=hc.f 11 10 (by kernel_rfl) rfl
         obtain rfl:s12=false:=hc.f 12 11 (by kernel_rfl) rfl
         obtain ⟨bb12,AA13,cc13,hF3,hM⟩:=hS
         refine xP 49 (v0:=pt bb4 0) (v:=pt bb4 0) hF3 rfl fun a3 hF3=>⟨bb12,AA13,cc13,hF3.rc 13,hM.k⟩
        ·intro s0 s1 s2 s3 s4 s5 s6 s7 s8 s9 s10 s11 s12 hc hi hp a w hS
         obtain rfl:s11=false:=hi
         obtain rfl:s10=true:=hp 10 (by kernel_rfl)
         obtain rfl:s12=false:=hc.f 12 11 (by kernel_rfl) rfl
         obtain ⟨bb12,AA13,cc13,hF3,hM⟩:=hS
         refine xP 50 (v0:=pt bb4 18) (v:=pt bb4 18) hF3 rfl fun a3 hF3=>⟨bb12,AA13,cc13,hF3.rc 14,hM.k⟩
        ·intro s0 s1 s2 s3 s4 s5 s6 s7 s8 s9 s10 s11 s12 hc hi hp a w hS
         obtain rfl:s12=false:=hi
         obtain rfl:s11=true:=hp 11 (by kernel_rfl)
         obtain rfl:s9=true:=hp 9 (by kernel_rfl)
         obtain ⟨bb12,AA13,cc13,hF3,hM⟩:=hS
         refine xS 13 18 #[.slice A ge.length gc,iv cyc,iv per,iv sh,iv t,.slice qA 8 qg,.bool false,iv 0,iv 0,iv 0,iv 0,iv 0,iv 0,.bool false,iv 0,iv 0,iv 0,.slice lA l.length lg,.slice AA13 (gn + 1) cc13] hF3 hM fun w hM=>⟨bb12,AA13,cc13,hF3.k,hM.rc 6⟩
       ·intro a3 w hS
        obtain ⟨bb12,AA13,cc13,hF3,hM⟩:=hS
        replace hF3:Fr 51 [(0,some (pt bb4 0)),(1,some (iv t)),(5,some (pt bb11 0)),(39,some (pt bb4 0)),(40,some (pt bb4 0)),(41,some (pt bb4 0)),(42,some (pt bb4 18)),(43,some (.slice gA gn gC)),(44,some (iv t)),(45,some (.agg #[iv x0,iv x1,iv x2,iv x3,iv x4])),(46,some (.agg #[iv t,iv x0,iv x1,iv x2,iv x3,iv x4])),(47,some (.slice (some ⟨bb12,0,none⟩) 1 1)),(48,some (.slice AA13 (gn + 1) cc13)),(49,some (pt bb4 0)),(50,some (pt bb4 18))] a3:=hF3.cast (by kernel_rfl)
        replace hM:Mem w0.heap.size w0 [(1,some (.ro A (flat2 ge))),(2,some (.ro lA (flatE cE l))),(9,some (.sep qS (QM qS qA cap Q))),(10,some (.row bb1 52 #[.slice A ge.length gc,iv cyc,iv per,iv sh,iv 0,.slice Aq 8 gq,.bool false,iv 0,iv 0,iv 0,iv 0,iv 0,iv 0,.bool false,iv 0,iv 0,iv 0])),(11,some (.row bb2 3 #[iv un])),(12,some (.row bb3 52 #[.slice none 0 0,iv 0,iv 0,iv 0,iv 0,.slice none 0 0,.bool false,iv 0,iv 0,iv 0,iv 0,iv 0,iv 0,.bool false,iv 0,iv 0,iv 0])),(13,some (.row bb4 97 #[.slice A ge.length gc,iv cyc,iv per,iv sh,iv t,.slice qA 8 qg,.bool false,iv 0,iv 0,iv 0,iv 0,iv 0,iv 0,.bool false,iv 0,iv 0,iv 0,.slice lA l.length lg,.slice AA13 (gn + 1) cc13])),(14,some (.row bb5 101 #[.func (.func 31) #[] #[],.func (.func 32) #[] #[],.func (.func 33) #[] #[]])),(15,some (.own (.slice AA13 (gn + 1) cc13) 62 6 (gn + 1) (flatR (g ++ [[t,x0,x1,x2,x3,x4]])))),(16,some (.row bb6 100 #[pt bb4 0])),(17,some (.obj DD7 (.deferred (some [])))),(18,some (.obj ll7 (OO7 .busy none))),(21,some (.row bb11 48 #[iv x0,iv x1,iv x2,iv x3,iv x4])),(22,some (.row bb12 62 #[iv t,iv x0,iv x1,iv x2,iv x3,iv x4]))] w:=hM.cast (by kernel_rfl)
        refine hNR64 _ _ (ret_ofN hF3 hM (.nil) ⟨_,rfl,?_⟩)
        intro a2 hF2
        refine wpLi_nil (hJ26 t 0 0 0 0 0 0 0 0 0 0 0 Q (g ++ [[t,x0,x1,x2,x3,x4]]) (gn + 1) qA qg qS AA13 cc13 _ _ (((((((((Fr.nil hF2).c hF2 (i:=38) rfl rfl).c hF2 (i:=37) rfl rfl).c hF2 (i:=13) rfl rfl).c hF2 (i:=11) rfl rfl).c hF2 (i:=8) rfl rfl).c hF2 (i:=7) rfl rfl).c hF2 (i:=6) rfl rfl).c hF2 (i:=5) rfl rfl) (hM.sub ((((((((((((Sub.nil.c (k:=18) rfl rfl).c (k:=17) rfl rfl).c (k:=16) rfl rfl).c (k:=15) rfl rfl).c (k:=14) rfl rfl).c (k:=13) rfl rfl).c (k:=12) rfl rfl).c (k:=11) rfl rfl).c (k:=10) rfl rfl).c (k:=9) rfl rfl).c (k:=2) rfl rfl).c (k:=1) rfl rfl)) (show J1 t ⟨t,0,0,0,0,0,0,0,0,0,0,0,Q,l,(g ++ [[t,x0,x1,x2,x3,x4]])⟩ from by first | exact hR.e0 _ _ hJs htm (by omega) (fun z=>by obtain ⟨z1,z2⟩:=z; dsimp only at z1 z2; omega) | exact hR.e1 _ _ hJs htm (by omega) (by first | assumption | omega) (by first | assumption | omega) (by first | assumption | omega) | exact hR.e2 _ _ hJs htm (by omega) (by first | assumption | omega) (by first | assumption | omega) (by first | assumption | omega)) (show (gn + 1)=(g ++ [[t,x0,x1,x2,x3,x4]]).length from by first | assumption | (rw [List.length_append,← hgn]; rfl)))
      ·skip
       refine wp_region_lit (xB 3 [(25,pt bb4 0),(26,pt bb4 0),(27,pt bb4 0)] hF3 fun a3 hF3=>wl (xL 28 13 0 (v:=.agg #[.slice A ge.length gc,iv cyc,iv per,iv sh,iv now,.slice qA 8 qg,.bool (decide (bz=1)),iv x0,iv x1,iv x2,iv x3,iv x4,iv x5,.bool (decide (x6=1)),iv bg,iv fn,iv rs]) hF3 hM fun a3 w hF3 hM=>xB 1 [(29,iv t)] hF3 fun a3 hF3=>wl (sQ 9 (f:=51) (args:=#[.agg #[.slice A ge.length gc,iv cyc,iv per,iv sh,iv now,.slice qA 8 qg,.bool (decide (bz=1)),iv x0,iv x1,iv x2,iv x3,iv x4,iv x5,.bool (decide (x6=1)),iv bg,iv fn,iv rs],iv t]) (mk:=(fun s=>.tuple #[.agg #[.slice A ge.length gc,.int .i64 cyc,.int .i64 per,.int .i64 sh,.int .i64 t,s,.bool false,.int .i64 0,.int .i64 0,.int .i64 0,.int .i64 0,.int .i64 0,.int .i64 0,.bool false,.int .i64 0,.int .i64 0,.int .i64 0],.agg #[.int .i64 0,.int .i64 0,.int .i64 0,.int .i64 0,.int .i64 0],.bool false])) (cap':=cap) (Q':=(upd Q x2.toNat ([[x0,x1,x2,x3,x4,rs,1]] ++ Q x2.toNat))) hF3 hM rfl (by kernel_rfl) rfl (by (try dsimp only); decide) (by kernel_rfl) (fun _=>by kernel_rfl) (end_1 A ge gc cyc per sh _ qA qg cap Q now bz x0 x1 x2 x3 x4 x5 x6 bg fn rs t w (hM.ok 1 _ rfl) (hM.ok 9 _ rfl).1 hw.hv hz25 (hw.he hz23 hz25).1 (hw.he hz23 hz25).2) fun AA14 cc14 SS14 a3 w hSS14 hF3 hM=>?_)))
       refine xB 4 [(24,.tuple #[.agg #[.slice A ge.length gc,iv cyc,iv per,iv sh,iv t,.slice AA14 8 cc14,.bool false,iv 0,iv 0,iv 0,iv 0,iv 0,iv 0,.bool false,iv 0,iv 0,iv 0],.agg #[iv 0,iv 0,iv 0,iv 0,iv 0],.bool false]),(31,.agg #[.slice A ge.length gc,iv cyc,iv per,iv sh,iv t,.slice AA14 8 cc14,.bool false,iv 0,iv 0,iv 0,iv 0,iv 0,iv 0,.bool false,iv 0,iv 0,iv 0]),(32,.agg #[iv 0,iv 0,iv 0,iv 0,iv 0]),(33,.bool false)] hF3 fun a3 hF3=>wl (xN 4 23 (t:=95) (fun b=>.pointer (some ⟨b,0,none⟩)) #[.slice none 0 0,iv 0,iv 0,iv 0,iv 0,.slice none 0 0,.bool false,iv 0,iv 0,iv 0,iv 0,iv 0,iv 0,.bool false,iv 0,iv 0,iv 0] hF3 hM fun bb15 a3 w hF3 hM=>wl (xN 5 24 (t:=48) (fun b=>.pointer (some ⟨b,0,none⟩)) #[iv 0,iv 0,iv 0,iv 0,iv 0] hF3 hM fun bb16 a3 w hF3 hM=>?_))
       refine wl (xS 23 0 #[.slice A ge.length gc,iv cyc,iv per,iv sh,iv t,.slice AA14 8 cc14,.bool false,iv 0,iv 0,iv 0,iv 0,iv 0,iv 0,.bool false,iv 0,iv 0,iv 0] hF3 hM fun w hM=>wl (xS 24 0 #[iv 0,iv 0,iv 0,iv 0,iv 0] hF3 hM fun w hM=>xB 1 [(6,.bool false)] hF3 fun a3 hF3=>wpList_nil (hK67 _ _ (wp_seq_k fun K70 hK70=>wp_region_lit (xB 1 [(34,pt bb4 0)] hF3 fun a3 hF3=>wl (xL 35 23 0 (v:=.agg #[.slice A ge.length gc,iv cyc,iv per,iv sh,iv t,.slice AA14 8 cc14,.bool false,iv 0,iv 0,iv 0,iv 0,iv 0,iv 0,.bool false,iv 0,iv 0,iv 0]) hF3 hM fun a3 w hF3 hM=>xB 2 [(36,pt bb4 0),(37,pt bb4 0)] hF3 fun a3 hF3=>wl (xS 13 0 #[.slice A ge.length gc,iv cyc,iv per,iv sh,iv t,.slice AA14 8 cc14,.bool false,iv 0,iv 0,iv 0,iv 0,iv 0,iv 0,.bool false,iv 0,iv 0,iv 0,.slice lA l.length lg,.slice gA gn gC] hF3 hM fun w hM=>wpList_nil ?_)))))))
       refine hK70 _ _ (wp_seq_k fun K71 hK71=>wp_region_lit (xB 1 [(38,.bool false)] hF3 fun a3 hF3=>wpList_nil (hK71 _ _ (xF hF3 (wp_skip (hNR64 _ _ (ret_ofN hF3 hM (.nil) ⟨_,rfl,?_⟩)))))))
       intro a2 hF2
       refine wpLi_nil (hJ26 t 0 0 0 0 0 0 0 0 0 0 0 (upd Q x2.toNat ([[x0,x1,x2,x3,x4,rs,1]] ++ Q x2.toNat)) g gn AA14 cc14 SS14 gA gC _ _ (((((((((Fr.nil hF2).c hF2 (i:=38) rfl rfl).c hF2 (i:=37) rfl rfl).c hF2 (i:=13) rfl rfl).c hF2 (i:=11) rfl rfl).c hF2 (i:=8) rfl rfl).c hF2 (i:=7) rfl rfl).c hF2 (i:=6) rfl rfl).c hF2 (i:=5) rfl rfl) (hM.sub ((((((((((((Sub.nil.c (k:=18) rfl rfl).c (k:=17) rfl rfl).c (k:=16) rfl rfl).c (k:=15) rfl rfl).c (k:=14) rfl rfl).c (k:=13) rfl rfl).c (k:=12) rfl rfl).c (k:=11) rfl rfl).c (k:=10) rfl rfl).c (k:=9) rfl rfl).c (k:=2) rfl rfl).c (k:=1) rfl rfl)) (show J1 t ⟨t,0,0,0,0,0,0,0,0,0,0,0,(upd Q x2.toNat ([[x0,x1,x2,x3,x4,rs,1]] ++ Q x2.toNat)),l,g⟩ from by first | exact hR.e0 _ _ hJs htm (by omega) (fun z=>by obtain ⟨z1,z2⟩:=z; dsimp only at z1 z2; omega) | exact hR.e1 _ _ hJs htm (by omega) (by first | assumption | omega) (by first | assumption | omega) (by first | assumption | omega) | exact hR.e2 _ _ hJs htm (by omega) (by first | assumption | omega) (by first | assumption | omega) (by first | assumption | omega)) (show gn=g.length from by first | assumption | (rw [List.length_append,← hgn]; rfl)))
     ·skip
      replace hF3:=hF3.c hF3 (i:=22) (v:=.bool true) rfl (nF hz24)
      replace hF3:=hF3.c hF3 (i:=23) (v:=.bool true) rfl (nF hz24)
      refine xT hF3 (wp_ret (hR64 _ _ (ret_of hF3 hM (.nil) ⟨_,rfl,?_⟩)))
      intro a2 hF2
      refine wpLi_nil (hJ26 now bz x0 x1 x2 x3 x4 x5 x6 bg fn rs Q g gn qA qg qS gA gC _ _ (((((((((Fr.nil hF2).c hF2 (i:=38) rfl rfl).c hF2 (i:=37) rfl rfl).c hF2 (i:=13) rfl rfl).c hF2 (i:=11) rfl rfl).c hF2 (i:=8) rfl rfl).c hF2 (i:=7) rfl rfl).c hF2 (i:=6) rfl rfl).c hF2 (i:=5) rfl rfl) (hM.sub ((((((((((((Sub.nil.c (k:=18) rfl rfl).c (k:=17) rfl rfl).c (k:=16) rfl rfl).c (k:=15) rfl rfl).c (k:=14) rfl rfl).c (k:=13) rfl rfl).c (k:=12) rfl rfl).c (k:=11) rfl rfl).c (k:=10) rfl rfl).c (k:=9) rfl rfl).c (k:=2) rfl rfl).c (k:=1) rfl rfl)) (show J1 t ⟨now,bz,x0,x1,x2,x3,x4,x5,x6,bg,fn,rs,Q,l,g⟩ from by first | exact hR.e0 _ _ hJs htm (by omega) (fun z=>by obtain ⟨z1,z2⟩:=z; dsimp only at z1 z2; omega) | exact hR.e1 _ _ hJs htm (by omega) (by first | assumption | omega) (by first | assumption | omega) (by first | assumption | omega) | exact hR.e2 _ _ hJs htm (by omega) (by first | assumption | omega) (by first | assumption | omega) (by first | assumption | omega)) (show gn=g.length from by first | assumption | (rw [List.length_append,← hgn]; rfl)))
    ·skip
     refine wp_region_lit (xB 5 [(7,pt bb4 0),(8,pt bb4 0),(9,pt bb4 0),(10,pt bb4 0),(11,pt bb4 6)] hF3 fun a3 hF3=>wl (xM 12 (v:=.bool false) hF3 hM (Yld.to (v:=.bool (decide (bz=1))) (yld_row (i:=13) (off:=6) hF3 rfl (by kernel_rfl) (by kernel_rfl) rfl (by kernel_rfl)) (bF hz23)) fun a3 w hF3 hM=>xB 11 [(13,.bool true),(14,.bool true),(15,undef),(16,undef),(17,undef),(18,undef),(19,undef),(20,undef),(21,undef),(22,undef),(23,.bool true)] hF3 fun a3 hF3=>wpList_nil (hK66 _ _ (xT hF3 (wp_ret (hR64 _ _ (ret_of hF3 hM (.nil) ⟨_,rfl,?_⟩)))))))
     intro a2 hF2
     refine wpLi_nil (hJ26 now bz x0 x1 x2 x3 x4 x5 x6 bg fn rs Q g gn qA qg qS gA gC _ _ (((((((((Fr.nil hF2).c hF2 (i:=38) rfl rfl).c hF2 (i:=37) rfl rfl).c hF2 (i:=13) rfl rfl).c hF2 (i:=11) rfl rfl).c hF2 (i:=8) rfl rfl).c hF2 (i:=7) rfl rfl).c hF2 (i:=6) rfl rfl).c hF2 (i:=5) rfl rfl) (hM.sub ((((((((((((Sub.nil.c (k:=18) rfl rfl).c (k:=17) rfl rfl).c (k:=16) rfl rfl).c (k:=15) rfl rfl).c (k:=14) rfl rfl).c (k:=13) rfl rfl).c (k:=12) rfl rfl).c (k:=11) rfl rfl).c (k:=10) rfl rfl).c (k:=9) rfl rfl).c (k:=2) rfl rfl).c (k:=1) rfl rfl)) (show J1 t ⟨now,bz,x0,x1,x2,x3,x4,x5,x6,bg,fn,rs,Q,l,g⟩ from by first | exact hR.e0 _ _ hJs htm (by omega) (fun z=>by obtain ⟨z1,z2⟩:=z; dsimp only at z1 z2; omega) | exact hR.e1 _ _ hJs htm (by omega) (by first | assumption | omega) (by first | assumption | omega) (by first | assumption | omega) | exact hR.e2 _ _ hJs htm (by omega) (by first | assumption | omega) (by first | assumption | omega) (by first | assumption | omega)) (show gn=g.length from by first | assumption | (rw [List.length_append,← hgn]; rfl)))
  ·skip
   refine (wpIn_wide (n:=9)).1 (wpR_region (wr (xP 41 (v0:=iv er) (v:=iv er) hF1 rfl fun a1 hF1=>wr (xP 42 (v0:=.bool (!decide (er=0))) (v:=.bool true) hF1 (nF hz7) fun a1 hF1=>wr (xP 43 (v0:=.bool true) (v:=.bool true) hF1 rfl fun a1 hF1=>wr (sSkip hF1 (by kernel_rfl) rfl (by (try dsimp only); decide) fun a1 hF1=>wr (sSkip hF1 (by kernel_rfl) rfl (by (try dsimp only); decide) fun a1 hF1=>wr (sSkip hF1 (by kernel_rfl) rfl (by (try dsimp only); decide) fun a1 hF1=>wr (sSkip hF1 (by kernel_rfl) rfl (by (try dsimp only); decide) fun a1 hF1=>wr (xP 48 (v0:=.bool true) (v:=.bool true) hF1 rfl fun a1 hF1=>wpLi_nil (hK20 _ _ (xT hF1 ?_))) hqR16 rfl) hqR16 rfl) hqR16 rfl) hqR16 rfl) hqR16 rfl) hqR16 rfl) hqR16 rfl) hqR16 rfl))
   refine wp_ret (hR16 _ _ (ret_of hF1 hM (.nil) (rangeEnd (kl:=18) OO7 hO7 hM rfl (by (try dsimp only); decide) fun w hM=>?_)))
   replace hF:=hF.defer { target:=.collected DD7,args:=#[] }
   refine hK11 _ _ (wp_seq_k fun K72 hK72=>wp_region_lit (wl (xL 48 11 0 (v:=iv un) hF hM fun a w hF hM=>xB 3 [(49,pt bb4 0),(50,pt bb4 0),(51,pt bb4 4)] hF fun a hF=>wl (xS 13 4 #[.slice A ge.length gc,iv cyc,iv per,iv sh,iv un,.slice qA 8 qg,.bool (decide (bz=1)),iv x0,iv x1,iv x2,iv x3,iv x4,iv x5,.bool (decide (x6=1)),iv bg,iv fn,iv rs,.slice lA l.length lg,.slice gA gn gC] hF hM fun w hM=>wpList_nil (hK72 _ _ (wp_seq_k fun K73 hK73=>?_))))))
   refine rF (by kernel_rfl) (by kernel_rfl) (fun S a w=>Fr (⟨57,[{ target:=.collected DD7,args:=#[] }]⟩:NF) [(6,some (pt bb3 0)),(7,(cond (S.getD 6 false) (some (.slice gA gn gC)) (some (.slice none 0 0)))),(8,(cond (S.getD 7 false) (some (iv 0)) (some (iv 0)))),(11,some (pt bb4 0)),(52,(cond (S.getD 0 false) (some (pt bb4 0)) none)),(53,(cond (S.getD 1 false) (some (pt bb4 0)) none)),(54,(cond (S.getD 2 false) (some (.agg #[.slice A ge.length gc,iv cyc,iv per,iv sh,iv un,.slice qA 8 qg,.bool (decide (bz=1)),iv x0,iv x1,iv x2,iv x3,iv x4,iv x5,.bool (decide (x6=1)),iv bg,iv fn,iv rs])) none)),(55,(cond (S.getD 3 false) (some (pt bb4 18)) none)),(56,(cond (S.getD 4 false) (some (.slice gA gn gC)) none))] a ∧ Mem w0.heap.size w0 [(1,some (.ro A (flat2 ge))),(2,some (.ro lA (flatE cE l))),(9,some (.sep qS (QM qS qA cap Q))),(12,(cond (S.getD 5 false) (some (.row bb3 52 #[.slice A ge.length gc,iv cyc,iv per,iv sh,iv un,.slice qA 8 qg,.bool (decide (bz=1)),iv x0,iv x1,iv x2,iv x3,iv x4,iv x5,.bool (decide (x6=1)),iv bg,iv fn,iv rs])) (some (.row bb3 52 #[.slice none 0 0,iv 0,iv 0,iv 0,iv 0,.slice none 0 0,.bool false,iv 0,iv 0,iv 0,iv 0,iv 0,iv 0,.bool false,iv 0,iv 0,iv 0])))),(13,some (.row bb4 97 #[.slice A ge.length gc,iv cyc,iv per,iv sh,iv un,.slice qA 8 qg,.bool (decide (bz=1)),iv x0,iv x1,iv x2,iv x3,iv x4,iv x5,.bool (decide (x6=1)),iv bg,iv fn,iv rs,.slice lA l.length lg,.slice gA gn gC])),(15,some (.own (.slice gA gn gC) 62 6 gn (flatR g))),(17,some (.obj DD7 (.deferred (some [])))),(18,some (.obj ll7 (OO7 .exhausted none)))] w) ?_ ?_ ?_
   ·exact ⟨hF.pk,hM.dk⟩
   ·refine stC ?_ (stC ?_ (stC ?_ (stC ?_ (stC ?_ (stC ?_ (stC ?_ (stC ?_ (trivial))))))))
    ·intro s0 s1 s2 s3 s4 s5 s6 s7 hc hi hp a w hS
     obtain rfl:s0=false:=hi
     obtain ⟨hF,hM⟩:=hS
     refine xP 52 (v0:=pt bb4 0) (v:=pt bb4 0) hF rfl fun a hF=>⟨hF.rc 4,hM.k⟩
    ·intro s0 s1 s2 s3 s4 s5 s6 s7 hc hi hp a w hS
     obtain rfl:s1=false:=hi
     obtain rfl:s0=true:=hp 0 (by kernel_rfl)
     obtain ⟨hF,hM⟩:=hS
     refine xP 53 (v0:=pt bb4 0) (v:=pt bb4 0) hF rfl fun a hF=>⟨hF.rc 5,hM.k⟩
    ·intro s0 s1 s2 s3 s4 s5 s6 s7 hc hi hp a w hS
     obtain rfl:s2=false:=hi
     obtain rfl:s1=true:=hp 1 (by kernel_rfl)
     obtain ⟨hF,hM⟩:=hS
     refine xL 54 13 0 (v:=.agg #[.slice A ge.length gc,iv cyc,iv per,iv sh,iv un,.slice qA 8 qg,.bool (decide (bz=1)),iv x0,iv x1,iv x2,iv x3,iv x4,iv x5,.bool (decide (x6=1)),iv bg,iv fn,iv rs]) hF hM fun a w hF hM=>⟨hF.rc 6,hM.k⟩
    ·intro s0 s1 s2 s3 s4 s5 s6 s7 hc hi hp a w hS
     obtain rfl:s3=false:=hi
     obtain ⟨hF,hM⟩:=hS
     refine xP 55 (v0:=pt bb4 18) (v:=pt bb4 18) hF rfl fun a hF=>⟨hF.rc 7,hM.k⟩
    ·intro s0 s1 s2 s3 s4 s5 s6 s7 hc hi hp a w hS
     obtain rfl:s4=false:=hi
     obtain rfl:s3=true:=hp 3 (by kernel_rfl)
     obtain ⟨hF,hM⟩:=hS
     refine xL 56 13 18 (v:=.slice gA gn gC) hF hM fun a w hF hM=>⟨hF.rc 8,hM.k⟩
    ·intro s0 s1 s2 s3 s4 s5 s6 s7 hc hi hp a w hS
     obtain rfl:s5=false:=hi
     obtain rfl:s2=true:=hp 2 (by kernel_rfl)
     obtain ⟨hF,hM⟩:=hS
     refine xS 12 0 #[.slice A ge.length gc,iv cyc,iv per,iv sh,iv un,.slice qA 8 qg,.bool (decide (bz=1)),iv x0,iv x1,iv x2,iv x3,iv x4,iv x5,.bool (decide (x6=1)),iv bg,iv fn,iv rs] hF hM fun w hM=>⟨hF.k,hM.rc 3⟩
    ·intro s0 s1 s2 s3 s4 s5 s6 s7 hc hi hp a w hS
     obtain rfl:s6=false:=hi
     obtain rfl:s4=true:=hp 4 (by kernel_rfl)
     obtain ⟨hF,hM⟩:=hS
     refine xP 7 (v0:=.slice gA gn gC) (v:=.slice gA gn gC) hF rfl fun a hF=>⟨hF.rc 1,hM.k⟩
    ·intro s0 s1 s2 s3 s4 s5 s6 s7 hc hi hp a w hS
     obtain rfl:s7=false:=hi
     obtain ⟨hF,hM⟩:=hS
     refine xP 8 (v0:=iv 0) (v:=iv 0) hF rfl fun a hF=>⟨hF.rc 2,hM.k⟩
   ·intro a w hS
    obtain ⟨hF,hM⟩:=hS
    replace hF:Fr (⟨57,[{ target:=.collected DD7,args:=#[] }]⟩:NF) [(6,some (pt bb3 0)),(7,some (.slice gA gn gC)),(8,some (iv 0)),(11,some (pt bb4 0)),(52,some (pt bb4 0)),(53,some (pt bb4 0)),(54,some (.agg #[.slice A ge.length gc,iv cyc,iv per,iv sh,iv un,.slice qA 8 qg,.bool (decide (bz=1)),iv x0,iv x1,iv x2,iv x3,iv x4,iv x5,.bool (decide (x6=1)),iv bg,iv fn,iv rs])),(55,some (pt bb4 18)),(56,some (.slice gA gn gC))] a:=hF.cast (by kernel_rfl)
    replace hM:Mem w0.heap.size w0 [(1,some (.ro A (flat2 ge))),(2,some (.ro lA (flatE cE l))),(9,some (.sep qS (QM qS qA cap Q))),(12,some (.row bb3 52 #[.slice A ge.length gc,iv cyc,iv per,iv sh,iv un,.slice qA 8 qg,.bool (decide (bz=1)),iv x0,iv x1,iv x2,iv x3,iv x4,iv x5,.bool (decide (x6=1)),iv bg,iv fn,iv rs])),(13,some (.row bb4 97 #[.slice A ge.length gc,iv cyc,iv per,iv sh,iv un,.slice qA 8 qg,.bool (decide (bz=1)),iv x0,iv x1,iv x2,iv x3,iv x4,iv x5,.bool (decide (x6=1)),iv bg,iv fn,iv rs,.slice lA l.length lg,.slice gA gn gC])),(15,some (.own (.slice gA gn gC) 62 6 gn (flatR g))),(17,some (.obj DD7 (.deferred (some [])))),(18,some (.obj ll7 (OO7 .exhausted none)))] w:=hM.cast (by kernel_rfl)
    refine hK73 _ _ (wp_ret (hR0 _ _ (retM1 (kD:=17) hF hM rfl (.cell (i:=12) rfl rfl (v:=.agg #[.slice A ge.length gc,iv cyc,iv per,iv sh,iv un,.slice qA 8 qg,.bool (decide (bz=1)),iv x0,iv x1,iv x2,iv x3,iv x4,iv x5,.bool (decide (x6=1)),iv bg,iv fn,iv rs]) (by kernel_rfl) (.tmp rfl (.tmp rfl (.nil)))) fun w hM=>?_)))
    subst hgn
    have hfr:=own_fresh hM (k:=15) rfl
    exact ⟨⟨now,bz,x0,x1,x2,x3,x4,x5,x6,bg,fn,rs,Q,l,g⟩,_,_,_,_,hJs,by first | exact .inl ((by assumption:er ≠ 0 → tmS ge cyc per sh ⟨now,bz,x0,x1,x2,x3,x4,x5,x6,bg,fn,rs,Q,l,g⟩=none) (by assumption)) | exact .inr ⟨t,htm,by omega⟩,rfl,hw.hg.2,hfr.1,hfr.2,hM.bel⟩
 refine wp_seq_k fun K74 hK74=>?_
 by_cases hz26:0 < (l.length:Int)
 ·by_cases hz27:ne_=0
  ·refine wp_region_lit (wl (xL 13 16 0 (v:=pt bb4 0) hF1 hM fun a1 w hF1 hM=>xB 2 [(14,pt bb4 0),(15,pt bb4 17)] hF1 fun a1 hF1=>wl (xL 16 13 17 (v:=.slice lA l.length lg) hF1 hM fun a1 w hF1 hM=>xB 1 [(17,iv (l.length:Int))] hF1 fun a1 hF1=>wl (xP 18 (v0:=.bool (decide (0 < (l.length:Int)))) (v:=.bool true) hF1 (bT hz26) fun a1 hF1=>xB 2 [(19,.bool true),(20,iv ne_)] hF1 fun a1 hF1=>wl (xP 21 (v0:=.bool (!decide (ne_=0))) (v:=.bool false) hF1 (nT hz27) fun a1 hF1=>xB 1 [(22,.bool false)] hF1 fun a1 hF1=>wl (xL 23 16 0 (v:=pt bb4 0) hF1 hM fun a1 w hF1 hM=>xB 2 [(24,pt bb4 0),(25,pt bb4 17)] hF1 fun a1 hF1=>wl (xL 26 13 17 (v:=.slice lA l.length lg) hF1 hM fun a1 w hF1 hM=>?_)))))))
   refine wl (xM 27 (v:=.pointer (some (ea lA (0 * 6)))) hF1 hM (yld_ix (kd:=.i64) (e:=63) (len:=l.length) (cap:=lg) (i:=0) (size:=6) (A:=lA) hF1 rfl (by kernel_rfl) (by kernel_rfl) (by kernel_rfl) (by kernel_rfl) (by kernel_rfl) (roK 2 rfl) (by omega) (by omega) (by rw [flatE_length (es:=cE) hWl,show cE.length=6 from rfl]; (try simp only [List.length_map,List.length_append,List.length_replicate,List.length_set,List.length_cons,List.length_nil,flat2_length,List.length_take]); omega)) fun a1 w hF1 hM=>xB 1 [(28,.pointer (some (ea lA (0 * 6))))] hF1 fun a1 hF1=>wl (xM 29 (v:=iv (rc l 0 0)) hF1 hM (yld_ro1 (A:=lA) (j:=0 * 6) hF1 rfl (by kernel_rfl) (by kernel_rfl) (roK 2 rfl) (by kernel_rfl) (rcE_at (es:=cE) (k:=0) (i:=0) hWl (by omega) rfl)) fun a1 w hF1 hM=>xB 4 [(30,iv nt_),(31,.bool (decide (rc l 0 0 < nt_))),(32,.bool (decide (rc l 0 0 < nt_))),(33,.bool (decide (rc l 0 0 < nt_)))] hF1 fun a1 hF1=>wpList_nil (hK74 _ _ ?_)))
   by_cases hz28:rc l 0 0 < nt_
   ·replace hF1:=hF1.c hF1 (i:=31) (v:=.bool true) rfl (bT hz28)
    replace hF1:=hF1.c hF1 (i:=32) (v:=.bool true) rfl (bT hz28)
    replace hF1:=hF1.c hF1 (i:=33) (v:=.bool true) rfl (bT hz28)
    refine xT hF1 (wp_region_lit (wl (xL 34 16 0 (v:=pt bb4 0) hF1 hM fun a1 w hF1 hM=>xB 2 [(35,pt bb4 0),(36,pt bb4 17)] hF1 fun a1 hF1=>wl (xL 37 13 17 (v:=.slice lA l.length lg) hF1 hM fun a1 w hF1 hM=>wl (xM 38 (v:=.pointer (some (ea lA (0 * 6)))) hF1 hM (yld_ix (kd:=.i64) (e:=63) (len:=l.length) (cap:=lg) (i:=0) (size:=6) (A:=lA) hF1 rfl (by kernel_rfl) (by kernel_rfl) (by kernel_rfl) (by kernel_rfl) (by kernel_rfl) (roK 2 rfl) (by omega) (by omega) (by rw [flatE_length (es:=cE) hWl,show cE.length=6 from rfl]; (try simp only [List.length_map,List.length_append,List.length_replicate,List.length_set,List.length_cons,List.length_nil,flat2_length,List.length_take]); omega)) fun a1 w hF1 hM=>xB 1 [(39,.pointer (some (ea lA (0 * 6))))] hF1 fun a1 hF1=>wl (xM 40 (v:=iv (rc l 0 0)) hF1 hM (yld_ro1 (A:=lA) (j:=0 * 6) hF1 rfl (by kernel_rfl) (by kernel_rfl) (roK 2 rfl) (by kernel_rfl) (rcE_at (es:=cE) (k:=0) (i:=0) hWl (by omega) rfl)) fun a1 w hF1 hM=>xB 2 [(3,iv (rc l 0 0)),(4,iv 0)] hF1 fun a1 hF1=>wpList_nil ?_))))))
    exact hJ19 (rc l 0 0) 0 _ _ (((((Fr.nil hF1).c hF1 (i:=1) rfl rfl).c hF1 (i:=0) rfl rfl).c hF1 (i:=4) rfl rfl).c hF1 (i:=3) rfl rfl) (hM.sub ((((((((((((Sub.nil.c (k:=18) rfl rfl).c (k:=17) rfl rfl).c (k:=16) rfl rfl).c (k:=15) rfl rfl).c (k:=14) rfl rfl).c (k:=13) rfl rfl).c (k:=12) rfl rfl).c (k:=11) rfl rfl).c (k:=10) rfl rfl).c (k:=9) rfl rfl).c (k:=2) rfl rfl).c (k:=1) rfl rfl)) (show 0=0 → tmS ge cyc per sh ⟨now,bz,x0,x1,x2,x3,x4,x5,x6,bg,fn,rs,Q,l,g⟩=some (rc l 0 0) from by exact fun _=>tm_come (by dsimp only; omega) hnt hne (by first | exact .inl (by assumption) | exact .inr (by assumption))) (show 0 ≠ 0 → tmS ge cyc per sh ⟨now,bz,x0,x1,x2,x3,x4,x5,x6,bg,fn,rs,Q,l,g⟩=none from by exact fun z=>absurd rfl z)
   replace hF1:=hF1.c hF1 (i:=31) (v:=.bool false) rfl (bF hz28)
   replace hF1:=hF1.c hF1 (i:=32) (v:=.bool false) rfl (bF hz28)
   replace hF1:=hF1.c hF1 (i:=33) (v:=.bool false) rfl (bF hz28)
   refine xF hF1 (wp_skip (hJ19 nt_ ne_ _ _ (((((Fr.nil hF1).c hF1 (i:=1) rfl rfl).c hF1 (i:=0) rfl rfl).c hF1 (i:=4) rfl rfl).c hF1 (i:=3) rfl rfl) (hM.sub ((((((((((((Sub.nil.c (k:=18) rfl rfl).c (k:=17) rfl rfl).c (k:=16) rfl rfl).c (k:=15) rfl rfl).c (k:=14) rfl rfl).c (k:=13) rfl rfl).c (k:=12) rfl rfl).c (k:=11) rfl rfl).c (k:=10) rfl rfl).c (k:=9) rfl rfl).c (k:=2) rfl rfl).c (k:=1) rfl rfl)) (show ne_=0 → tmS ge cyc per sh ⟨now,bz,x0,x1,x2,x3,x4,x5,x6,bg,fn,rs,Q,l,g⟩=some nt_ from by exact fun z=>tm_next hnt hne z (by dsimp only; first | exact .inl (by omega) | exact .inr (by first | assumption | omega))) (show ne_ ≠ 0 → tmS ge cyc per sh ⟨now,bz,x0,x1,x2,x3,x4,x5,x6,bg,fn,rs,Q,l,g⟩=none from by exact fun z=>by first | exact tm_none hne z (by dsimp only; omega) | exact absurd (by assumption) z)))
  refine wp_region_lit (wl (xL 13 16 0 (v:=pt bb4 0) hF1 hM fun a1 w hF1 hM=>xB 2 [(14,pt bb4 0),(15,pt bb4 17)] hF1 fun a1 hF1=>wl (xL 16 13 17 (v:=.slice lA l.length lg) hF1 hM fun a1 w hF1 hM=>xB 1 [(17,iv (l.length:Int))] hF1 fun a1 hF1=>wl (xP 18 (v0:=.bool (decide (0 < (l.length:Int)))) (v:=.bool true) hF1 (bT hz26) fun a1 hF1=>xB 2 [(19,.bool true),(20,iv ne_)] hF1 fun a1 hF1=>wl (xP 21 (v0:=.bool (!decide (ne_=0))) (v:=.bool true) hF1 (nF hz27) fun a1 hF1=>xB 12 [(22,.bool true),(23,undef),(24,undef),(25,undef),(26,undef),(27,undef),(28,undef),(29,undef),(30,undef),(31,undef),(32,.bool true),(33,.bool true)] hF1 fun a1 hF1=>wpList_nil (hK74 _ _ (xT hF1 ?_)))))))
  refine wp_region_lit (wl (xL 34 16 0 (v:=pt bb4 0) hF1 hM fun a1 w hF1 hM=>xB 2 [(35,pt bb4 0),(36,pt bb4 17)] hF1 fun a1 hF1=>wl (xL 37 13 17 (v:=.slice lA l.length lg) hF1 hM fun a1 w hF1 hM=>wl (xM 38 (v:=.pointer (some (ea lA (0 * 6)))) hF1 hM (yld_ix (kd:=.i64) (e:=63) (len:=l.length) (cap:=lg) (i:=0) (size:=6) (A:=lA) hF1 rfl (by kernel_rfl) (by kernel_rfl) (by kernel_rfl) (by kernel_rfl) (by kernel_rfl) (roK 2 rfl) (by omega) (by omega) (by rw [flatE_length (es:=cE) hWl,show cE.length=6 from rfl]; (try simp only [List.length_map,List.length_append,List.length_replicate,List.length_set,List.length_cons,List.length_nil,flat2_length,List.length_take]); omega)) fun a1 w hF1 hM=>xB 1 [(39,.pointer (some (ea lA (0 * 6))))] hF1 fun a1 hF1=>wl (xM 40 (v:=iv (rc l 0 0)) hF1 hM (yld_ro1 (A:=lA) (j:=0 * 6) hF1 rfl (by kernel_rfl) (by kernel_rfl) (roK 2 rfl) (by kernel_rfl) (rcE_at (es:=cE) (k:=0) (i:=0) hWl (by omega) rfl)) fun a1 w hF1 hM=>xB 2 [(3,iv (rc l 0 0)),(4,iv 0)] hF1 fun a1 hF1=>wpList_nil ?_)))))
  exact hJ19 (rc l 0 0) 0 _ _ (((((Fr.nil hF1).c hF1 (i:=1) rfl rfl).c hF1 (i:=0) rfl rfl).c hF1 (i:=4) rfl rfl).c hF1 (i:=3) rfl rfl) (hM.sub ((((((((((((Sub.nil.c (k:=18) rfl rfl).c (k:=17) rfl rfl).c (k:=16) rfl rfl).c (k:=15) rfl rfl).c (k:=14) rfl rfl).c (k:=13) rfl rfl).c (k:=12) rfl rfl).c (k:=11) rfl rfl).c (k:=10) rfl rfl).c (k:=9) rfl rfl).c (k:=2) rfl rfl).c (k:=1) rfl rfl)) (show 0=0 → tmS ge cyc per sh ⟨now,bz,x0,x1,x2,x3,x4,x5,x6,bg,fn,rs,Q,l,g⟩=some (rc l 0 0) from by exact fun _=>tm_come (by dsimp only; omega) hnt hne (by first | exact .inl (by assumption) | exact .inr (by assumption))) (show 0 ≠ 0 → tmS ge cyc per sh ⟨now,bz,x0,x1,x2,x3,x4,x5,x6,bg,fn,rs,Q,l,g⟩=none from by exact fun z=>absurd rfl z)
 refine wp_region_lit (wl (xL 13 16 0 (v:=pt bb4 0) hF1 hM fun a1 w hF1 hM=>xB 2 [(14,pt bb4 0),(15,pt bb4 17)] hF1 fun a1 hF1=>wl (xL 16 13 17 (v:=.slice lA l.length lg) hF1 hM fun a1 w hF1 hM=>xB 1 [(17,iv (l.length:Int))] hF1 fun a1 hF1=>wl (xP 18 (v0:=.bool (decide (0 < (l.length:Int)))) (v:=.bool false) hF1 (bF hz26) fun a1 hF1=>xB 15 [(19,.bool false),(20,undef),(21,undef),(22,undef),(23,undef),(24,undef),(25,undef),(26,undef),(27,undef),(28,undef),(29,undef),(30,undef),(31,undef),(32,undef),(33,.bool false)] hF1 fun a1 hF1=>wpList_nil (hK74 _ _ (xF hF1 (wp_skip (hJ19 nt_ ne_ _ _ (((((Fr.nil hF1).c hF1 (i:=1) rfl rfl).c hF1 (i:=0) rfl rfl).c hF1 (i:=4) rfl rfl).c hF1 (i:=3) rfl rfl) (hM.sub ((((((((((((Sub.nil.c (k:=18) rfl rfl).c (k:=17) rfl rfl).c (k:=16) rfl rfl).c (k:=15) rfl rfl).c (k:=14) rfl rfl).c (k:=13) rfl rfl).c (k:=12) rfl rfl).c (k:=11) rfl rfl).c (k:=10) rfl rfl).c (k:=9) rfl rfl).c (k:=2) rfl rfl).c (k:=1) rfl rfl)) (show ne_=0 → tmS ge cyc per sh ⟨now,bz,x0,x1,x2,x3,x4,x5,x6,bg,fn,rs,Q,l,g⟩=some nt_ from by exact fun z=>tm_next hnt hne z (by dsimp only; first | exact .inl (by omega) | exact .inr (by first | assumption | omega))) (show ne_ ≠ 0 → tmS ge cyc per sh ⟨now,bz,x0,x1,x2,x3,x4,x5,x6,bg,fn,rs,Q,l,g⟩=none from by exact fun z=>by first | exact tm_none hne z (by dsimp only; omega) | exact absurd (by assumption) z)))))))))
end Go.Proofs.YtlngflbamkgjlaaGreat
namespace Go.Proofs.YtlngflbamkgjlaaGreat
open Go.RowKit
set_option linter.unusedVariables false
set_option linter.unusedSimpArgs false
set_option maxRecDepth 100000
def oP (ge:List (Int × Int)) (k:Nat):Prop:=bitI (pr ge k).1 6=1
instance (ge:List (Int × Int)) (k:Nat):Decidable (oP ge k):=by unfold oP; infer_instance
def ldN (ge:List (Int × Int)):Nat:=((List.range ge.length).find? fun i=>decide (¬ oP ge i)).getD ge.length
theorem ld_eq {ge:List (Int × Int)} {k:Nat} (hk:k ≤ ge.length) (h1:∀ j,j < k → oP ge j) (h2:k < ge.length → ¬ oP ge k):ldN ge=k:=by
  unfold ldN
  by_cases e:k=ge.length
  · have:(List.range ge.length).find? (fun i=>decide (¬ oP ge i))=none:=by
      rw [List.find?_eq_none]
      intro j hj
      have:=h1 j (by have:=List.mem_range.1 hj; omega)
      simpa using this
    rw [this,e]
    rfl
  · have:(List.range ge.length).find? (fun i=>decide (¬ oP ge i))=some k:=by
      rw [List.find?_range_eq_some]
      refine ⟨by simpa using h2 (by omega),by simp; omega,fun j hj=>by have:=h1 j hj; simpa using this⟩
    rw [this]
    rfl
def osF (ge:List (Int × Int)) (c:Nat):Nat → Int × Int × Int
  | 0 => (0, 0, sumL ge (c + 1))
  | i + 1 => if oP ge ((c + 1 + i) % ge.length) then ((if (osF ge c i).2.1 = 0 then (osF ge c i).2.2 else (osF ge c i).1), (osF ge c i).2.1 + (pr ge ((c + 1 + i) % ge.length)).2, (osF ge c i).2.2 + (pr ge ((c + 1 + i) % ge.length)).2) else (0, 0, (osF ge c i).2.2 + (pr ge ((c + 1 + i) % ge.length)).2)
def oeF (ge:List (Int × Int)) (c:Nat):Nat → List (Int × Int)
  | 0 => []
  | i + 1 => oeF ge c i ++ if ¬ oP ge ((c + 1 + i) % ge.length) ∧ 0 < (osF ge c i).2.1 then [((osF ge c i).1, (osF ge c i).2.1)] else []
def opsL (ge:List (Int × Int)):List (Int × Int):=if ldN ge=ge.length then [] else oeF ge (ldN ge) ge.length
theorem os_open {ge:List (Int × Int)} {c i m:Nat} {f o t:Int} (h:osF ge c i=(f,o,t)) (hm:(c + 1 + i) % ge.length=m) (hp:oP ge m):osF ge c (i + 1)=((if o=0 then t else f),o + (pr ge m).2,t + (pr ge m).2) ∧ oeF ge c (i + 1)=oeF ge c i:=by
  subst hm
  exact ⟨by rw [osF,if_pos hp,h],by rw [oeF,if_neg fun z=>z.1 hp,List.append_nil]⟩
theorem os_shut {ge:List (Int × Int)} {c i m:Nat} {f o t:Int} (h:osF ge c i=(f,o,t)) (hm:(c + 1 + i) % ge.length=m) (hp:¬ oP ge m):osF ge c (i + 1)=(0,0,t + (pr ge m).2) ∧ (0 < o → oeF ge c (i + 1)=oeF ge c i ++ [(f,o)]) ∧ (¬ 0 < o → oeF ge c (i + 1)=oeF ge c i):=by
  subst hm
  rw [osF,oeF,if_neg hp,h]
  exact ⟨rfl,fun ho=>by rw [if_pos ⟨hp,ho⟩],fun ho=>by rw [if_neg fun z=>ho z.2,List.append_nil]⟩
theorem modC2 (a n:Nat):(a:Int).tmod (n:Int)=((a % n:Nat):Int):=by
  rw [Int.tmod_eq_emod_of_nonneg (by omega)]
  simp [Int.natCast_emod]
def yldF (lost:Int):List (Int × Int) → Int
  | [] => 0
  | x :: r => max 0 (x.2 - lost) + yldF lost r
theorem yldF_app (lost:Int) (l:List (Int × Int)) (x:Int × Int):yldF lost (l ++ [x])=yldF lost l + max 0 (x.2 - lost):=by
  induction l with
  | nil => simp [yldF]
  | cons y r ih => simp only [List.cons_append, yldF, ih]; omega
def alwP (ge:List (Int × Int)) (cyc:Int):Prop:=opN ge cyc 6 0=1099511627776
instance (ge:List (Int × Int)) (cyc:Int):Decidable (alwP ge cyc):=by unfold alwP; infer_instance
def yofI (ge:List (Int × Int)) (cyc lost:Int):Int:=if alwP ge cyc then cyc else yldF lost (opsL ge)
theorem isOpen_w (m lg:Int) (w0:World) (hm:0 ≤ m ∧ m ≤ 255) :
    Calls Tryz.prog 58 #[.agg #[iv m,iv lg]] w0 (Ret w0 (.bool (decide (bitI m 6=1)))):=by
 refine enterK 8 Tryz.func58 rfl rfl rfl ?_
 intro a hF Q0 hR0 hN0
 have hM:=Mem.start w0
 refine wp_seq_k fun K1 hK1=>wp_region_lit (wl (xN 1 1 (t:=31) (fun b=>.pointer (some ⟨b,0,none⟩)) #[iv m,iv lg] hF hM fun bb1 a w hF hM=>xB 1 [(2,.bool false)] hF fun a hF=>wpList_nil (hK1 _ _ (wp_seq_k fun K2 hK2=>wp_region_lit (xB 1 [(3,pt bb1 0)] hF fun a hF=>wl (xL 4 1 0 (v:=iv m) hF hM fun a w hF hM=>?_))))))
 have hfd:=fdiv_bd (m:=m) (by omega) (min (6:Int).toNat 64)
 obtain ⟨sb,hsb⟩:∃ z:Int,m.fdiv (2 ^ min (6:Int).toNat 64)=z:=⟨_,rfl⟩
 rw [hsb] at hfd
 refine wl (xM 5 (v:=iv sb) hF hM (yld_shr (yk:=.u64) m 6 hF rfl (by kernel_rfl) (by kernel_rfl) (by kernel_rfl) (by omega) (hsb)) fun a w hF hM=>wl (xP 6 (v0:=.int .i64 (IntKind.i64.wrap ((BitVec.ofInt 64 sb &&& BitVec.ofInt 64 1).toNat:Int))) (v:=iv (bitI m 6)) hF (vi ((and_one (by omega) (by omega)).trans (by rw [← hsb]; rfl))) fun a hF=>xB 2 [(7,.bool (decide (bitI m 6=1))),(2,.bool (decide (bitI m 6=1)))] hF fun a hF=>wpList_nil (hK2 _ _ (wp_ret (hR0 _ _ (ret_of hF hM (.tmp rfl (.nil)) (⟨rfl,hM.bel⟩)))))))
theorem always_w (A:Option Addr) (ge:List (Int × Int)) (gc:Nat) (cyc:Int) (w0:World) (hA:Ro w0 A (flat2 ge)) (hga:gaE ge cyc=0) :
    Calls Tryz.prog 36 #[.agg #[.slice A ge.length gc,iv cyc]] w0 (Ret w0 (.bool (decide (alwP ge cyc)))):=by
 have hgp:=(ga_p hga).2.2.1
 have hgs:=ga_pos hga
 have hs0:sumL ge 0=0:=rfl
 refine enterK 16 Tryz.func36 rfl rfl rfl ?_
 intro a hF Q0 hR0 hN0
 have hM:=Mem.start w0
 replace hM:=hM.addOld 1 hA (Nat.le_refl _)
 refine wp_seq_k fun K1 hK1=>wp_region_lit (wl (xN 1 2 (t:=29) (fun b=>.pointer (some ⟨b,0,none⟩)) #[.slice A ge.length gc,iv cyc] hF hM fun bb1 a w hF hM=>xB 1 [(2,.bool false)] hF fun a hF=>wpList_nil (hK1 _ _ (wp_seq_k fun K2 hK2=>wp_region_lit (wl (xL 6 2 0 (v:=.agg #[.slice A ge.length gc,iv cyc]) hF hM fun a w hF hM=>wl (xM 7 (v:=.tuple #[iv (opN ge cyc 6 0),iv 0]) hF hM (xC 56 #[.agg #[.slice A ge.length gc,iv cyc],iv 6,iv 0] hF (fun w hM=>gaOpenE_w A ge gc cyc 6 0 w (hM.ok 1 _ rfl) hga (by omega))) fun a w hF hM=>xB 5 [(5,.tuple #[iv (opN ge cyc 6 0),iv 0]),(8,iv (opN ge cyc 6 0)),(9,iv 0),(3,iv (opN ge cyc 6 0)),(4,iv 0)] hF fun a hF=>wpList_nil ?_)))))))
 refine hK2 _ _ (wp_seq_k fun K3 hK3=>wp_region_lit (xB 1 [(10,iv 0)] hF fun a hF=>wl (xP 11 (v0:=.bool (decide (0=0))) (v:=.bool true) hF (bT (by omega)) fun a hF=>xB 5 [(12,.bool true),(13,iv (opN ge cyc 6 0)),(14,.bool (decide (opN ge cyc 6 0=1099511627776))),(15,.bool (decide (opN ge cyc 6 0=1099511627776))),(2,.bool (decide (opN ge cyc 6 0=1099511627776)))] hF fun a hF=>wpList_nil (hK3 _ _ (wp_ret (hR0 _ _ (ret_of hF hM (.tmp rfl (.nil)) (⟨rfl,hM.bel⟩))))))))
set_option maxHeartbeats 4000000 in
theorem yieldOf_w (A:Option Addr) (ge:List (Int × Int)) (gc:Nat) (cyc:Int) (lost:Int) (w0:World) (hA:Ro w0 A (flat2 ge)) (hga:gaE ge cyc=0) (hl:0 ≤ lost ∧ lost ≤ 1542000) :
    Calls Tryz.prog 12 #[.agg #[.slice A ge.length gc,iv cyc],iv lost] w0 (Ret w0 (.int .i64 (yofI ge cyc lost))):=by
 have hgp:=(ga_p hga).2.2.1
 have hgs:=ga_pos hga
 have hs0:sumL ge 0=0:=rfl
 refine enterKM 22 Tryz.func12 rfl rfl rfl ?_
 intro a hF Q0 hR0 hN0
 have hM:=Mem.start w0
 replace hM:=hM.addOld 1 hA (Nat.le_refl _)
 refine wp_seq_k fun K1 hK1=>wp_region_lit (wl (xN 2 2 (t:=29) (fun b=>.pointer (some ⟨b,0,none⟩)) #[.slice A ge.length gc,iv cyc] hF hM fun bb1 a w hF hM=>wl (xN 3 3 (t:=3) (fun b=>.pointer (some ⟨b,0,none⟩)) #[iv lost] hF hM fun bb2 a w hF hM=>xB 1 [(4,iv 0)] hF fun a hF=>wpList_nil (hK1 _ _ (wp_seq_k fun K2 hK2=>wp_seq_k fun K3 hK3=>wp_region_lit (wl (xL 7 2 0 (v:=.agg #[.slice A ge.length gc,iv cyc]) hF hM fun a w hF hM=>wl (xM 8 (v:=.bool (decide (alwP ge cyc))) hF hM (xC 36 #[.agg #[.slice A ge.length gc,iv cyc]] hF (fun w hM=>always_w A ge gc cyc w (hM.ok 1 _ rfl) hga)) fun a w hF hM=>?_))))))))
 refine wpList_nil (hK3 _ _ ?_)
 by_cases hz1:alwP ge cyc
 ·replace hF:=hF.c hF (i:=8) (v:=.bool true) rfl (bT hz1)
  refine xT hF (wp_seq_k fun K4 hK4=>wp_region_lit (xB 1 [(9,pt bb1 1)] hF fun a hF=>wl (xL 10 2 1 (v:=iv cyc) hF hM fun a w hF hM=>xB 1 [(4,iv cyc)] hF fun a hF=>wpList_nil (hK4 _ _ (wp_ret (hR0 _ _ (retM0 hF hM (.tmp rfl (.nil)) (⟨ret_int (by unfold yofI; rw [if_pos (by assumption)]),hM.bel⟩))))))))
 replace hF:=hF.c hF (i:=8) (v:=.bool false) rfl (bF hz1)
 refine xF hF (wp_skip (hK2 _ _ (wp_seq_k fun K5 hK5=>wp_region_lit (wl (xN 5 4 (t:=3) (fun b=>.pointer (some ⟨b,0,none⟩)) #[iv 0] hF hM fun bb3 a w hF hM=>?_)))))
 refine wl (xS 4 0 #[iv 0] hF hM fun w hM=>wpList_nil (hK5 _ _ (wp_seq_k fun K6 hK6=>wp_seq_k fun K7 hK7=>wp_region_lit (wl (xL 11 2 0 (v:=.agg #[.slice A ge.length gc,iv cyc]) hF hM fun a w hF hM=>wl (sC (f:=37) (args:=#[.agg #[.slice A ge.length gc,iv cyc]]) hF (by kernel_rfl) rfl (by decide) (by kernel_rfl) (fun _=>by kernel_rfl) (enterK 4 Tryz.func37 rfl rfl rfl ?_)))))))
 intro a1 hF1 QR8 hR8 hNR8
 refine wp_seq_k fun K9 hK9=>wp_region_lit (wl (xN 1 5 (t:=29) (fun b=>.pointer (some ⟨b,0,none⟩)) #[.slice A ge.length gc,iv cyc] hF1 hM fun bb4 a1 w hF1 hM=>xB 1 [(2,.nilFunc)] hF1 fun a1 hF1=>wpList_nil (hK9 _ _ (wp_seq_k fun K10 hK10=>wp_region_lit (xB 2 [(3,.func (.func 57) #[] #[pt bb4 0]),(2,.func (.func 57) #[] #[pt bb4 0])] hF1 fun a1 hF1=>wpList_nil (hK10 _ _ (wp_ret ?_)))))))
 refine hR8 _ _ (ret_of hF1 hM (.tmp rfl (.nil)) ⟨_,rfl,?_⟩)
 intro a hF
 refine wpList_nil (hK7 _ _ (wp_block (rangeK (gf:=57) (lb:=#[pt bb4 0]) 9 6 7 hF hM (by kernel_rfl) (by kernel_rfl) (enters_of Tryz.func57 (by kernel_rfl) rfl) fun fn5 DD5 ll5 OO5 hO5 w hM=>enterKQ 90 Tryz.func57 rfl rfl rfl ?_)))
 intro a1 hF1 QR11 hR11 hNR11 hqR11
 refine wp_scope_straight (wp_seq_k fun K12 hK12=>wp_region_lit (xB 1 [(9,pt bb4 0)] hF1 fun a1 hF1=>wl (xL 10 5 0 (v:=.slice A ge.length gc) hF1 hM fun a1 w hF1 hM=>xB 2 [(11,iv (ge.length:Int)),(3,iv (ge.length:Int))] hF1 fun a1 hF1=>wpList_nil (hK12 _ _ (wp_seq_k fun K13 hK13=>wp_region_lit (xB 2 [(4,iv 0),(5,iv 0)] hF1 fun a1 hF1=>wpList_nil ?_))))))
 refine hK13 _ _ (wp_seq_k fun K14 hK14=>wp_block (wp_loop_k (G:=Nat) (fun gg a w=>Fr 90 [(4,some (iv (gg:Int))),(5,some (iv (sumL ge gg))),(0,some (.func (.yield ll5) #[] #[])),(1,some (pt bb4 0)),(3,some (iv (ge.length:Int)))] a ∧ Mem w0.heap.size w0 [(1,some (.ro A (flat2 ge))),(2,some (.row bb1 29 #[.slice A ge.length gc,iv cyc])),(3,some (.row bb2 3 #[iv lost])),(4,some (.row bb3 3 #[iv 0])),(5,some (.row bb4 29 #[.slice A ge.length gc,iv cyc])),(6,some (.obj DD5 (.deferred (some [])))),(7,some (.obj ll5 (OO5 .ready none)))] w ∧ ((gg:Int) ≤ (ge.length:Int)) ∧ (∀ j,j < gg → oP ge j) ∧ (0 ≤ sumL ge gg) ∧ (sumL ge gg ≤ 9600000 * (gg:Int))) (fun gg=>ge.length - gg) (0) ?_ ?_))
 ·refine ⟨((((((Fr.nil hF1).c hF1 (i:=3) rfl rfl).c hF1 (i:=1) rfl rfl).c hF1 (i:=0) rfl rfl).c hF1 (i:=5) rfl (vi (show (0:Int)=sumL ge 0 from by omega))).c hF1 (i:=4) rfl (vi (show (0:Int)=(0:Int) from by omega))),(hM.sub (((((((Sub.nil.c (k:=7) rfl rfl).c (k:=6) rfl rfl).c (k:=5) rfl rfl).c (k:=4) rfl rfl).c (k:=3) rfl rfl).c (k:=2) rfl rfl).c (k:=1) rfl rfl)),(show (0:Int) ≤ (ge.length:Int) from by omega),(show ∀ j,j < 0 → oP ge j from by exact fun j hj=>by omega),(show 0 ≤ sumL ge 0 from by omega),(show sumL ge 0 ≤ 9600000 * (0:Int) from by omega)⟩
 intro gg a1 w hI
 intro K15 hK15
 obtain ⟨k,rfl⟩:∃ x,x=gg:=⟨_,rfl⟩
 try dsimp only at hI hK15
 obtain ⟨hF1,hM,hz2,hz3,hz4,hz5⟩:=hI
 refine wp_seq_k fun K16 hK16=>wp_seq_k fun K17 hK17=>?_
 by_cases hz6:(k:Int) < (ge.length:Int)
 ·refine wp_region_lit (xB 2 [(12,iv (k:Int)),(13,iv (ge.length:Int))] hF1 fun a1 hF1=>wl (xP 14 (v0:=.bool (decide ((k:Int) < (ge.length:Int)))) (v:=.bool true) hF1 (bT hz6) fun a1 hF1=>xB 2 [(15,.bool true),(16,pt bb4 0)] hF1 fun a1 hF1=>wl (xL 17 5 0 (v:=.slice A ge.length gc) hF1 hM fun a1 w hF1 hM=>xB 1 [(18,iv (k:Int))] hF1 fun a1 hF1=>wl (xM 19 (v:=.pointer (some (ea A (k * 2)))) hF1 hM (yld_ix (kd:=.i64) (e:=31) (len:=ge.length) (cap:=gc) (i:=(k:Int)) (size:=2) (A:=A) hF1 rfl (by kernel_rfl) (by kernel_rfl) (by kernel_rfl) (by kernel_rfl) (by kernel_rfl) (roK 1 rfl) (by omega) (by omega) (by rw [flat2_length]; omega)) fun a1 w hF1 hM=>wl (xM 20 (v:=.agg #[iv (pr ge k).1,iv (pr ge k).2]) hF1 hM (yld_roM (A:=A) (j:=k * 2) (us:=[iv (pr ge k).1,iv (pr ge k).2]) hF1 rfl (by kernel_rfl) (by kernel_rfl) (roK 1 rfl) (by kernel_rfl) rfl (pr_both (k:=k) (by omega) (by omega))) fun a1 w hF1 hM=>?_)))))
  have:=hgp k (by omega)
  refine wl (xM 21 (v:=.bool (decide (oP ge k))) hF1 hM (xC 58 #[.agg #[iv (pr ge k).1,iv (pr ge k).2]] hF1 (fun w hM=>isOpen_w (pr ge k).1 (pr ge k).2 w (by omega))) fun a1 w hF1 hM=>xB 1 [(22,.bool (decide (oP ge k)))] hF1 fun a1 hF1=>wpList_nil (hK17 _ _ ?_))
  by_cases hz7:oP ge k
  ·replace hF1:=hF1.c hF1 (i:=21) (v:=.bool true) rfl (bT hz7)
   replace hF1:=hF1.c hF1 (i:=22) (v:=.bool true) rfl (bT hz7)
   refine xT hF1 (wp_skip (hK16 _ _ (wp_block (wp_seq_k fun K18 hK18=>wp_region_lit (xB 2 [(23,iv (sumL ge k)),(24,pt bb4 0)] hF1 fun a1 hF1=>wl (xL 25 5 0 (v:=.slice A ge.length gc) hF1 hM fun a1 w hF1 hM=>xB 1 [(26,iv (k:Int))] hF1 fun a1 hF1=>wl (xM 27 (v:=.pointer (some (ea A (k * 2)))) hF1 hM (yld_ix (kd:=.i64) (e:=31) (len:=ge.length) (cap:=gc) (i:=(k:Int)) (size:=2) (A:=A) hF1 rfl (by kernel_rfl) (by kernel_rfl) (by kernel_rfl) (by kernel_rfl) (by kernel_rfl) (roK 1 rfl) (by omega) (by omega) (by rw [flat2_length]; omega)) fun a1 w hF1 hM=>xB 1 [(28,.pointer (some (ea A (k * 2 + 1))))] hF1 fun a1 hF1=>wl (xM 29 (v:=iv (pr ge k).2) hF1 hM (yld_ro1 (A:=A) (j:=k * 2 + 1) hF1 rfl (by kernel_rfl) (by kernel_rfl) (roK 1 rfl) (by kernel_rfl) (pr_snd (k:=k) (by omega) (by omega))) fun a1 w hF1 hM=>?_))))))))
   have:=hgp k (by omega)
   refine wl (xP 30 (v0:=.int .i64 (IntKind.i64.wrap (sumL ge k + (pr ge k).2))) (v:=iv (sumL ge k + (pr ge k).2)) hF1 (wi (by omega)) fun a1 hF1=>xB 1 [(5,iv (sumL ge k + (pr ge k).2))] hF1 fun a1 hF1=>wpList_nil (hK18 _ _ (wp_region_lit (xB 1 [(31,iv (k:Int))] hF1 fun a1 hF1=>wl (xP 32 (v0:=.int .i64 (IntKind.i64.wrap ((k:Int) + 1))) (v:=iv ((k:Int) + 1)) hF1 (wi (by omega)) fun a1 hF1=>xB 1 [(4,iv ((k:Int) + 1))] hF1 fun a1 hF1=>wpList_nil ?_)))))
   have hsn:sumL ge (k + 1)=sumL ge k + (pr ge k).2:=rfl
   refine hK15 _ _ ⟨(k + 1),⟨((((((Fr.nil hF1).c hF1 (i:=3) rfl rfl).c hF1 (i:=1) rfl rfl).c hF1 (i:=0) rfl rfl).c hF1 (i:=5) rfl (vi (show (sumL ge k + (pr ge k).2:Int)=sumL ge (k + 1) from by omega))).c hF1 (i:=4) rfl (vi (show ((k:Int) + 1:Int)=((k + 1):Int) from by omega))),(hM.sub (((((((Sub.nil.c (k:=7) rfl rfl).c (k:=6) rfl rfl).c (k:=5) rfl rfl).c (k:=4) rfl rfl).c (k:=3) rfl rfl).c (k:=2) rfl rfl).c (k:=1) rfl rfl)),(show ((k + 1):Int) ≤ (ge.length:Int) from by omega),(show ∀ j,j < (k + 1) → oP ge j from by exact fun j hj=>by by_cases e:j=k; (subst e; assumption); exact ‹∀ j,j < k → oP ge j› j (by omega)),(show 0 ≤ sumL ge (k + 1) from by omega),(show sumL ge (k + 1) ≤ 9600000 * ((k + 1):Int) from by omega)⟩,(show ge.length - (k + 1) < ge.length - k from by omega)⟩
  replace hF1:=hF1.c hF1 (i:=21) (v:=.bool false) rfl (bF hz7)
  replace hF1:=hF1.c hF1 (i:=22) (v:=.bool false) rfl (bF hz7)
  refine xF hF1 (wp_exit (hK14 _ _ (wp_seq_k fun K19 hK19=>wp_seq_k fun K20 hK20=>wp_region_lit (xB 2 [(33,iv (k:Int)),(34,iv (ge.length:Int))] hF1 fun a1 hF1=>wl (xP 35 (v0:=.bool (decide ((k:Int)=(ge.length:Int)))) (v:=.bool false) hF1 (bF (by omega)) fun a1 hF1=>wpList_nil (hK20 _ _ (xF hF1 (wp_skip ?_))))))))
  refine hK19 _ _ (wp_seq_k fun K21 hK21=>wp_region_lit (xB 2 [(36,iv (sumL ge k)),(37,pt bb4 0)] hF1 fun a1 hF1=>wl (xL 38 5 0 (v:=.slice A ge.length gc) hF1 hM fun a1 w hF1 hM=>xB 1 [(39,iv (k:Int))] hF1 fun a1 hF1=>wl (xM 40 (v:=.pointer (some (ea A (k * 2)))) hF1 hM (yld_ix (kd:=.i64) (e:=31) (len:=ge.length) (cap:=gc) (i:=(k:Int)) (size:=2) (A:=A) hF1 rfl (by kernel_rfl) (by kernel_rfl) (by kernel_rfl) (by kernel_rfl) (by kernel_rfl) (roK 1 rfl) (by omega) (by omega) (by rw [flat2_length]; omega)) fun a1 w hF1 hM=>xB 1 [(41,.pointer (some (ea A (k * 2 + 1))))] hF1 fun a1 hF1=>wl (xM 42 (v:=iv (pr ge k).2) hF1 hM (yld_ro1 (A:=A) (j:=k * 2 + 1) hF1 rfl (by kernel_rfl) (by kernel_rfl) (roK 1 rfl) (by kernel_rfl) (pr_snd (k:=k) (by omega) (by omega))) fun a1 w hF1 hM=>?_)))))
  have:=hgp k (by omega)
  refine wl (xP 43 (v0:=.int .i64 (IntKind.i64.wrap (sumL ge k + (pr ge k).2))) (v:=iv (sumL ge k + (pr ge k).2)) hF1 (wi (by omega)) fun a1 hF1=>xB 1 [(5,iv (sumL ge k + (pr ge k).2))] hF1 fun a1 hF1=>wpList_nil (hK21 _ _ (wp_seq_k fun K22 hK22=>wp_region_lit (wl (xN 6 8 (t:=110) (fun b=>.pointer (some ⟨b,0,none⟩)) #[iv 0,iv 0] hF1 hM fun bb6 a1 w hF1 hM=>wpList_nil (hK22 _ _ (wp_seq_k fun K23 hK23=>wp_label (hK23 _ _ ?_))))))))
  refine wp_seq_k fun K24 hK24=>wp_region_lit (xB 2 [(44,iv (ge.length:Int)),(45,iv 0)] hF1 fun a1 hF1=>wpList_nil (hK24 _ _ (wp_block (wp_loop_k (G:=Nat × Int × Int × Int × Int) (fun gg a w=>Fr 90 [(5,some (iv gg.2.2.2.1)),(45,some (iv (gg.1:Int))),(0,some (.func (.yield ll5) #[] #[])),(1,some (pt bb4 0)),(3,some (iv (ge.length:Int))),(4,some (iv (k:Int))),(6,some (pt bb6 0)),(44,some (iv (ge.length:Int)))] a ∧ Mem w0.heap.size w0 [(1,some (.ro A (flat2 ge))),(2,some (.row bb1 29 #[.slice A ge.length gc,iv cyc])),(3,some (.row bb2 3 #[iv lost])),(4,some (.row bb3 3 #[iv gg.2.2.2.2])),(5,some (.row bb4 29 #[.slice A ge.length gc,iv cyc])),(6,some (.obj DD5 (.deferred (some [])))),(7,some (.obj ll5 (OO5 .ready none))),(8,some (.row bb6 110 #[iv gg.2.1,iv gg.2.2.1]))] w ∧ ((gg.1:Int) ≤ (ge.length:Int)) ∧ (osF ge k gg.1=(gg.2.1,gg.2.2.1,gg.2.2.2.1)) ∧ (0 ≤ gg.2.2.1 ∧ gg.2.2.1 ≤ 9600000 * (gg.1:Int)) ∧ (0 ≤ gg.2.1 ∧ gg.2.1 ≤ 9600000 * 257) ∧ (0 ≤ gg.2.2.2.1) ∧ (gg.2.2.2.1 ≤ 9600000 * (k:Int) + 9600000 + 9600000 * (gg.1:Int)) ∧ (yldF lost (oeF ge k gg.1)=gg.2.2.2.2) ∧ (0 ≤ gg.2.2.2.2) ∧ (gg.2.2.2.2 ≤ 1228800000 * (gg.1:Int))) (fun gg=>ge.length - gg.1) (0,0,0,sumL ge k + (pr ge k).2,0) ?_ ?_))))
  ·refine ⟨(((((((((Fr.nil hF1).c hF1 (i:=44) rfl rfl).c hF1 (i:=6) rfl rfl).c hF1 (i:=4) rfl rfl).c hF1 (i:=3) rfl rfl).c hF1 (i:=1) rfl rfl).c hF1 (i:=0) rfl rfl).c hF1 (i:=45) rfl (vi (show (0:Int)=(0:Int) from by omega))).c hF1 (i:=5) rfl rfl),(hM.sub ((((((((Sub.nil.c (k:=8) rfl rfl).c (k:=7) rfl rfl).c (k:=6) rfl rfl).c (k:=5) rfl rfl).c (k:=4) rfl rfl).c (k:=3) rfl rfl).c (k:=2) rfl rfl).c (k:=1) rfl rfl)),(show (0:Int) ≤ (ge.length:Int) from by omega),(show osF ge k 0=(0,0,(sumL ge k + (pr ge k).2)) from by rfl),(show 0 ≤ 0 ∧ 0 ≤ 9600000 * (0:Int) from by omega),(show 0 ≤ 0 ∧ 0 ≤ 9600000 * 257 from by omega),(show 0 ≤ (sumL ge k + (pr ge k).2) from by omega),(show (sumL ge k + (pr ge k).2) ≤ 9600000 * (k:Int) + 9600000 + 9600000 * (0:Int) from by omega),(show yldF lost (oeF ge k 0)=0 from by rfl),(show 0 ≤ 0 from by omega),(show 0 ≤ 1228800000 * (0:Int) from by omega)⟩
  intro gg a1 w hI
  intro K25 hK25
  obtain ⟨i,fr,lo,at_,su⟩:=gg
  try dsimp only at hI hK25
  obtain ⟨hF1,hM,hz8,hz9,hz10,hz11,hz12,hz13,hz14,hz15,hz16⟩:=hI
  refine wp_seq_k fun K26 hK26=>wp_region_lit (xB 1 [(46,.bool (decide ((i:Int) < (ge.length:Int))))] hF1 fun a1 hF1=>wpList_nil (hK26 _ _ (wp_seq_k fun K27 hK27=>?_)))
  by_cases hz17:(i:Int) < (ge.length:Int)
  ·replace hF1:=hF1.c hF1 (i:=46) (v:=.bool true) rfl (bT hz17)
   refine xT hF1 (wp_skip (hK27 _ _ (wp_seq_k fun K28 hK28=>wp_block (wp_seq_k fun K29 hK29=>wp_region_lit (xB 2 [(47,iv (i:Int)),(7,iv (i:Int))] hF1 fun a1 hF1=>wpList_nil (hK29 _ _ (wp_seq_k fun K30 hK30=>?_)))))))
   obtain ⟨m_,hm_⟩:∃ z:Nat,(k + 1 + i) % ge.length=z:=⟨_,rfl⟩
   have hml:m_ < ge.length:=by rw [← hm_]; exact Nat.mod_lt _ (by omega)
   have:=hgp m_ (by omega)
   refine rF (by kernel_rfl) (by kernel_rfl) (fun S a w=>∃ bb7:Nat,Fr 90 [(0,some (.func (.yield ll5) #[] #[])),(1,some (pt bb4 0)),(3,some (iv (ge.length:Int))),(4,some (iv (k:Int))),(5,some (iv at_)),(6,some (pt bb6 0)),(7,some (iv (i:Int))),(8,(cond (S.getD 10 false) (some (pt bb7 0)) none)),(44,some (iv (ge.length:Int))),(45,some (iv (i:Int))),(48,(cond (S.getD 0 false) (some (pt bb4 0)) none)),(49,(cond (S.getD 1 false) (some (.slice A ge.length gc)) none)),(50,(cond (S.getD 2 false) (some (iv (k:Int))) none)),(51,(cond (S.getD 3 false) (some (iv ((k:Int) + 1))) none)),(52,(cond (S.getD 4 false) (some (iv (i:Int))) none)),(53,(cond (S.getD 5 false) (some (iv ((k:Int) + 1 + (i:Int)))) none)),(54,(cond (S.getD 6 false) (some (iv (ge.length:Int))) none)),(55,(cond (S.getD 7 false) (some (iv (m_:Int))) none)),(56,(cond (S.getD 8 false) (some (.pointer (some (ea A (m_ * 2))))) none)),(57,(cond (S.getD 9 false) (some (.agg #[iv (pr ge m_).1,iv (pr ge m_).2])) none))] a ∧ Mem w0.heap.size w0 [(1,some (.ro A (flat2 ge))),(2,some (.row bb1 29 #[.slice A ge.length gc,iv cyc])),(3,some (.row bb2 3 #[iv lost])),(4,some (.row bb3 3 #[iv su])),(5,some (.row bb4 29 #[.slice A ge.length gc,iv cyc])),(6,some (.obj DD5 (.deferred (some [])))),(7,some (.obj ll5 (OO5 .ready none))),(8,some (.row bb6 110 #[iv fr,iv lo])),(9,(cond (S.getD 11 false) (some (.row bb7 31 #[iv (pr ge m_).1,iv (pr ge m_).2])) (cond (S.getD 10 false) (some (.row bb7 31 #[iv 0,iv 0])) none)))] w) ?_ ?_ ?_
   ·exact ⟨0,hF1.pk,hM.dk⟩
   ·refine stC ?_ (stC ?_ (stC ?_ (stC ?_ (stC ?_ (stC ?_ (stC ?_ (stC ?_ (stC ?_ (stC ?_ (stC ?_ (stC ?_ (trivial))))))))))))
    ·intro s0 s1 s2 s3 s4 s5 s6 s7 s8 s9 s10 s11 hc hi hp a w hS
     obtain rfl:s0=false:=hi
     obtain ⟨bb7,hF1,hM⟩:=hS
     refine xP 48 (v0:=pt bb4 0) (v:=pt bb4 0) hF1 rfl fun a1 hF1=>⟨bb7,hF1.rc 10,hM.k⟩
    ·intro s0 s1 s2 s3 s4 s5 s6 s7 s8 s9 s10 s11 hc hi hp a w hS
     obtain rfl:s1=false:=hi
     obtain rfl:s0=true:=hp 0 (by kernel_rfl)
     obtain ⟨bb7,hF1,hM⟩:=hS
     refine xL 49 5 0 (v:=.slice A ge.length gc) hF1 hM fun a1 w hF1 hM=>⟨bb7,hF1.rc 11,hM.k⟩
    ·intro s0 s1 s2 s3 s4 s5 s6 s7 s8 s9 s10 s11 hc hi hp a w hS
     obtain rfl:s2=false:=hi
     obtain ⟨bb7,hF1,hM⟩:=hS
     refine xP 50 (v0:=iv (k:Int)) (v:=iv (k:Int)) hF1 rfl fun a1 hF1=>⟨bb7,hF1.rc 12,hM.k⟩
    ·intro s0 s1 s2 s3 s4 s5 s6 s7 s8 s9 s10 s11 hc hi hp a w hS
     obtain rfl:s3=false:=hi
     obtain rfl:s2=true:=hp 2 (by kernel_rfl)
     obtain ⟨bb7,hF1,hM⟩:=hS
     refine xP 51 (v0:=.int .i64 (IntKind.i64.wrap ((k:Int) + 1))) (v:=iv ((k:Int) + 1)) hF1 (wi (by omega)) fun a1 hF1=>⟨bb7,hF1.rc 13,hM.k⟩
    ·intro s0 s1 s2 s3 s4 s5 s6 s7 s8 s9 s10 s11 hc hi hp a w hS
     obtain rfl:s4=false:=hi
     obtain ⟨bb7,hF1,hM⟩:=hS
     refine xP 52 (v0:=iv (i:Int)) (v:=iv (i:Int)) hF1 rfl fun a1 hF1=>⟨bb7,hF1.rc 14,hM.k⟩
    ·intro s0 s1 s2 s3 s4 s5 s6 s7 s8 s9 s10 s11 hc hi hp a w hS
     obtain rfl:s5=false:=hi
     obtain rfl:s4=true:=hp 4 (by kernel_rfl)
     obtain rfl:s3=true:=hp 3 (by kernel_rfl)
     obtain ⟨bb7,hF1,hM⟩:=hS
     refine xP 53 (v0:=.int .i64 (IntKind.i64.wrap ((k:Int) + 1 + (i:Int)))) (v:=iv ((k:Int) + 1 + (i:Int))) hF1 (wi (by omega)) fun a1 hF1=>⟨bb7,hF1.rc 15,hM.k⟩
    ·intro s0 s1 s2 s3 s4 s5 s6 s7 s8 s9 s10 s11 hc hi hp a w hS
     obtain rfl:s6=false:=hi
     obtain ⟨bb7,hF1,hM⟩:=hS
     refine xP 54 (v0:=iv (ge.length:Int)) (v:=iv (ge.length:Int)) hF1 rfl fun a1 hF1=>⟨bb7,hF1.rc 16,hM.k⟩
    ·intro s0 s1 s2 s3 s4 s5 s6 s7 s8 s9 s10 s11 hc hi hp a w hS
     obtain rfl:s7=false:=hi
     obtain rfl:s6=true:=hp 6 (by kernel_rfl)
     obtain rfl:s5=true:=hp 5 (by kernel_rfl)
     obtain ⟨bb7,hF1,hM⟩:=hS
     refine xM 55 (v:=iv (m_:Int)) hF1 hM (yld_rem ((k:Int) + 1 + (i:Int)) (ge.length:Int) hF1 rfl (by kernel_rfl) (by kernel_rfl) (by kernel_rfl) (by omega) ((show _=_ from by rw [show (k:Int) + 1 + (i:Int)=((k + 1 + i:Nat):Int) by omega,modC2,hm_]))) fun a1 w hF1 hM=>⟨bb7,hF1.rc 17,hM.k⟩
    ·intro s0 s1 s2 s3 s4 s5 s6 s7 s8 s9 s10 s11 hc hi hp a w hS
     obtain rfl:s8=false:=hi
     obtain rfl:s7=true:=hp 7 (by kernel_rfl)
     obtain rfl:s1=true:=hp 1 (by kernel_rfl)
     obtain ⟨bb7,hF1,hM⟩:=hS
     refine xM 56 (v:=.pointer (some (ea A (m_ * 2)))) hF1 hM (yld_ix (kd:=.i64) (e:=31) (len:=ge.length) (cap:=gc) (i:=(m_:Int)) (size:=2) (A:=A) hF1 rfl (by kernel_rfl) (by kernel_rfl) (by kernel_rfl) (by kernel_rfl) (by kernel_rfl) (roK 1 rfl) (by omega) (by omega) (by rw [flat2_length]; omega)) fun a1 w hF1 hM=>⟨bb7,hF1.rc 18,hM.k⟩
    ·intro s0 s1 s2 s3 s4 s5 s6 s7 s8 s9 s10 s11 hc hi hp a w hS
     obtain rfl:s9=false:=hi
     obtain rfl:s8=true:=hp 8 (by kernel_rfl)
     obtain ⟨bb7,hF1,hM⟩:=hS
     refine xM 57 (v:=.agg #[iv (pr ge m_).1,iv (pr ge m_).2]) hF1 hM (yld_roM (A:=A) (j:=m_ * 2) (us:=[iv (pr ge m_).1,iv (pr ge m_).2]) hF1 rfl (by kernel_rfl) (by kernel_rfl) (roK 1 rfl) (by kernel_rfl) rfl (pr_both (k:=m_) (by omega) (by omega))) fun a1 w hF1 hM=>⟨bb7,hF1.rc 19,hM.k⟩
    ·intro s0 s1 s2 s3 s4 s5 s6 s7 s8 s9 s10 s11 hc hi hp a w hS
     obtain rfl:s10=false:=hi
     obtain rfl:s11=false:=hc.f 11 10 (by kernel_rfl) rfl
     obtain ⟨bb7,hF1,hM⟩:=hS
     refine xN 8 9 (t:=31) (fun b=>.pointer (some ⟨b,0,none⟩)) #[iv 0,iv 0] hF1 hM fun bb7 a1 w hF1 hM=>⟨bb7,hF1.rc 7,hM.rc 8⟩
    intro s0 s1 s2 s3 s4 s5 s6 s7 s8 s9 s10 s11 hc hi hp a w hS
    obtain rfl:s11=false:=hi
    obtain rfl:s10=true:=hp 10 (by kernel_rfl)
    obtain rfl:s9=true:=hp 9 (by kernel_rfl)
    obtain ⟨bb7,hF1,hM⟩:=hS
    refine xS 9 0 #[iv (pr ge m_).1,iv (pr ge m_).2] hF1 hM fun w hM=>⟨bb7,hF1.k,hM.rc 8⟩
   intro a1 w hS
   obtain ⟨bb7,hF1,hM⟩:=hS
   replace hF1:Fr 90 [(0,some (.func (.yield ll5) #[] #[])),(1,some (pt bb4 0)),(3,some (iv (ge.length:Int))),(4,some (iv (k:Int))),(5,some (iv at_)),(6,some (pt bb6 0)),(7,some (iv (i:Int))),(8,some (pt bb7 0)),(44,some (iv (ge.length:Int))),(45,some (iv (i:Int))),(48,some (pt bb4 0)),(49,some (.slice A ge.length gc)),(50,some (iv (k:Int))),(51,some (iv ((k:Int) + 1))),(52,some (iv (i:Int))),(53,some (iv ((k:Int) + 1 + (i:Int)))),(54,some (iv (ge.length:Int))),(55,some (iv (m_:Int))),(56,some (.pointer (some (ea A (m_ * 2))))),(57,some (.agg #[iv (pr ge m_).1,iv (pr ge m_).2]))] a1:=hF1.cast (by kernel_rfl)
   replace hM:Mem w0.heap.size w0 [(1,some (.ro A (flat2 ge))),(2,some (.row bb1 29 #[.slice A ge.length gc,iv cyc])),(3,some (.row bb2 3 #[iv lost])),(4,some (.row bb3 3 #[iv su])),(5,some (.row bb4 29 #[.slice A ge.length gc,iv cyc])),(6,some (.obj DD5 (.deferred (some [])))),(7,some (.obj ll5 (OO5 .ready none))),(8,some (.row bb6 110 #[iv fr,iv lo])),(9,some (.row bb7 31 #[iv (pr ge m_).1,iv (pr ge m_).2]))] w:=hM.cast (by kernel_rfl)
   refine hK30 _ _ (wp_seq_k fun K31 hK31=>wp_seq_k fun K32 hK32=>wp_region_lit (wl (xL 58 9 0 (v:=.agg #[iv (pr ge m_).1,iv (pr ge m_).2]) hF1 hM fun a1 w hF1 hM=>wl (xM 59 (v:=.bool (decide (oP ge m_))) hF1 hM (xC 58 #[.agg #[iv (pr ge m_).1,iv (pr ge m_).2]] hF1 (fun w hM=>isOpen_w (pr ge m_).1 (pr ge m_).2 w (by omega))) fun a1 w hF1 hM=>wpList_nil (hK32 _ _ ?_)))))
   by_cases hz18:oP ge m_
   ·replace hF1:=hF1.c hF1 (i:=59) (v:=.bool true) rfl (bT hz18)
    refine xT hF1 (wp_seq_k fun K33 hK33=>wp_seq_k fun K34 hK34=>wp_region_lit (xB 1 [(60,pt bb6 1)] hF1 fun a1 hF1=>wl (xL 61 8 1 (v:=iv lo) hF1 hM fun a1 w hF1 hM=>xB 1 [(62,.bool (decide (lo=0)))] hF1 fun a1 hF1=>wpList_nil (hK34 _ _ ?_))))
    by_cases hz19:lo=0
    ·replace hF1:=hF1.c hF1 (i:=62) (v:=.bool true) rfl (bT hz19)
     refine xT hF1 (wp_region_lit (xB 2 [(63,iv at_),(64,pt bb6 0)] hF1 fun a1 hF1=>wl (xS 8 0 #[iv at_,iv lo] hF1 hM fun w hM=>wpList_nil (hK33 _ _ (wp_seq_k fun K35 hK35=>wp_region_lit (xB 1 [(65,pt bb6 1)] hF1 fun a1 hF1=>wl (xL 66 8 1 (v:=iv lo) hF1 hM fun a1 w hF1 hM=>xB 1 [(67,pt bb7 1)] hF1 fun a1 hF1=>wl (xL 68 9 1 (v:=iv (pr ge m_).2) hF1 hM fun a1 w hF1 hM=>?_))))))))
     refine wl (xP 69 (v0:=.int .i64 (IntKind.i64.wrap (lo + (pr ge m_).2))) (v:=iv (lo + (pr ge m_).2)) hF1 (wi (by omega)) fun a1 hF1=>xB 1 [(70,pt bb6 1)] hF1 fun a1 hF1=>wl (xS 8 1 #[iv at_,iv (lo + (pr ge m_).2)] hF1 hM fun w hM=>wpList_nil (hK35 _ _ (wp_seq_k fun K36 hK36=>wp_region_lit (xB 2 [(71,iv at_),(72,pt bb7 1)] hF1 fun a1 hF1=>wl (xL 73 9 1 (v:=iv (pr ge m_).2) hF1 hM fun a1 w hF1 hM=>wl (xP 74 (v0:=.int .i64 (IntKind.i64.wrap (at_ + (pr ge m_).2))) (v:=iv (at_ + (pr ge m_).2)) hF1 (wi (by omega)) fun a1 hF1=>xB 1 [(5,iv (at_ + (pr ge m_).2))] hF1 fun a1 hF1=>wpList_nil ?_)))))))
     refine hK36 _ _ (wp_exit (hK28 _ _ (wp_region_lit (wl (xP 89 (v0:=.int .i64 (IntKind.i64.wrap ((i:Int) + 1))) (v:=iv ((i:Int) + 1)) hF1 (wi (by omega)) fun a1 hF1=>xB 1 [(45,iv ((i:Int) + 1))] hF1 fun a1 hF1=>wpList_nil ?_)))))
     have hox:=(os_open ‹osF ge k i=(fr,lo,at_)› hm_ (by assumption))
     have hoy:=hox.1
     first | rw [if_pos (by assumption)] at hoy | rw [if_neg (by assumption)] at hoy
     refine hK25 _ _ ⟨(i + 1,at_,lo + (pr ge m_).2,at_ + (pr ge m_).2,su),⟨(((((((((Fr.nil hF1).c hF1 (i:=44) rfl rfl).c hF1 (i:=6) rfl rfl).c hF1 (i:=4) rfl rfl).c hF1 (i:=3) rfl rfl).c hF1 (i:=1) rfl rfl).c hF1 (i:=0) rfl rfl).c hF1 (i:=45) rfl (vi (show ((i:Int) + 1:Int)=((i + 1):Int) from by omega))).c hF1 (i:=5) rfl rfl),(hM.sub ((((((((Sub.nil.c (k:=8) rfl rfl).c (k:=7) rfl rfl).c (k:=6) rfl rfl).c (k:=5) rfl rfl).c (k:=4) rfl rfl).c (k:=3) rfl rfl).c (k:=2) rfl rfl).c (k:=1) rfl rfl)),(show ((i + 1):Int) ≤ (ge.length:Int) from by omega),(show osF ge k (i + 1)=(at_,(lo + (pr ge m_).2),(at_ + (pr ge m_).2)) from by exact hoy),(show 0 ≤ (lo + (pr ge m_).2) ∧ (lo + (pr ge m_).2) ≤ 9600000 * ((i + 1):Int) from by omega),(show 0 ≤ at_ ∧ at_ ≤ 9600000 * 257 from by omega),(show 0 ≤ (at_ + (pr ge m_).2) from by omega),(show (at_ + (pr ge m_).2) ≤ 9600000 * (k:Int) + 9600000 + 9600000 * ((i + 1):Int) from by omega),(show yldF lost (oeF ge k (i + 1))=su from by rw [hox.2]; assumption),(show 0 ≤ su from by omega),(show su ≤ 1228800000 * ((i + 1):Int) from by omega)⟩,(show ge.length - (i + 1) < ge.length - i from by omega)⟩
    replace hF1:=hF1.c hF1 (i:=62) (v:=.bool false) rfl (bF hz19)
    refine xF hF1 (wp_skip (hK33 _ _ (wp_seq_k fun K37 hK37=>wp_region_lit (xB 1 [(65,pt bb6 1)] hF1 fun a1 hF1=>wl (xL 66 8 1 (v:=iv lo) hF1 hM fun a1 w hF1 hM=>xB 1 [(67,pt bb7 1)] hF1 fun a1 hF1=>wl (xL 68 9 1 (v:=iv (pr ge m_).2) hF1 hM fun a1 w hF1 hM=>wl (xP 69 (v0:=.int .i64 (IntKind.i64.wrap (lo + (pr ge m_).2))) (v:=iv (lo + (pr ge m_).2)) hF1 (wi (by omega)) fun a1 hF1=>xB 1 [(70,pt bb6 1)] hF1 fun a1 hF1=>wl (xS 8 1 #[iv fr,iv (lo + (pr ge m_).2)] hF1 hM fun w hM=>?_))))))))
    refine wpList_nil (hK37 _ _ (wp_seq_k fun K38 hK38=>wp_region_lit (xB 2 [(71,iv at_),(72,pt bb7 1)] hF1 fun a1 hF1=>wl (xL 73 9 1 (v:=iv (pr ge m_).2) hF1 hM fun a1 w hF1 hM=>wl (xP 74 (v0:=.int .i64 (IntKind.i64.wrap (at_ + (pr ge m_).2))) (v:=iv (at_ + (pr ge m_).2)) hF1 (wi (by omega)) fun a1 hF1=>xB 1 [(5,iv (at_ + (pr ge m_).2))] hF1 fun a1 hF1=>wpList_nil (hK38 _ _ (wp_exit (hK28 _ _ ?_))))))))
    refine wp_region_lit (wl (xP 89 (v0:=.int .i64 (IntKind.i64.wrap ((i:Int) + 1))) (v:=iv ((i:Int) + 1)) hF1 (wi (by omega)) fun a1 hF1=>xB 1 [(45,iv ((i:Int) + 1))] hF1 fun a1 hF1=>wpList_nil ?_))
    have hox:=(os_open ‹osF ge k i=(fr,lo,at_)› hm_ (by assumption))
    have hoy:=hox.1
    first | rw [if_pos (by assumption)] at hoy | rw [if_neg (by assumption)] at hoy
    refine hK25 _ _ ⟨(i + 1,fr,lo + (pr ge m_).2,at_ + (pr ge m_).2,su),⟨(((((((((Fr.nil hF1).c hF1 (i:=44) rfl rfl).c hF1 (i:=6) rfl rfl).c hF1 (i:=4) rfl rfl).c hF1 (i:=3) rfl rfl).c hF1 (i:=1) rfl rfl).c hF1 (i:=0) rfl rfl).c hF1 (i:=45) rfl (vi (show ((i:Int) + 1:Int)=((i + 1):Int) from by omega))).c hF1 (i:=5) rfl rfl),(hM.sub ((((((((Sub.nil.c (k:=8) rfl rfl).c (k:=7) rfl rfl).c (k:=6) rfl rfl).c (k:=5) rfl rfl).c (k:=4) rfl rfl).c (k:=3) rfl rfl).c (k:=2) rfl rfl).c (k:=1) rfl rfl)),(show ((i + 1):Int) ≤ (ge.length:Int) from by omega),(show osF ge k (i + 1)=(fr,(lo + (pr ge m_).2),(at_ + (pr ge m_).2)) from by exact hoy),(show 0 ≤ (lo + (pr ge m_).2) ∧ (lo + (pr ge m_).2) ≤ 9600000 * ((i + 1):Int) from by omega),(show 0 ≤ fr ∧ fr ≤ 9600000 * 257 from by omega),(show 0 ≤ (at_ + (pr ge m_).2) from by omega),(show (at_ + (pr ge m_).2) ≤ 9600000 * (k:Int) + 9600000 + 9600000 * ((i + 1):Int) from by omega),(show yldF lost (oeF ge k (i + 1))=su from by rw [hox.2]; assumption),(show 0 ≤ su from by omega),(show su ≤ 1228800000 * ((i + 1):Int) from by omega)⟩,(show ge.length - (i + 1) < ge.length - i from by omega)⟩
   replace hF1:=hF1.c hF1 (i:=59) (v:=.bool false) rfl (bF hz18)
   refine xF hF1 (wp_skip (hK31 _ _ (wp_seq_k fun K39 hK39=>wp_region_lit (xB 2 [(75,iv at_),(76,pt bb7 1)] hF1 fun a1 hF1=>wl (xL 77 9 1 (v:=iv (pr ge m_).2) hF1 hM fun a1 w hF1 hM=>wl (xP 78 (v0:=.int .i64 (IntKind.i64.wrap (at_ + (pr ge m_).2))) (v:=iv (at_ + (pr ge m_).2)) hF1 (wi (by omega)) fun a1 hF1=>xB 1 [(5,iv (at_ + (pr ge m_).2))] hF1 fun a1 hF1=>wpList_nil (hK39 _ _ (wp_seq_k fun K40 hK40=>?_))))))))
   refine wp_seq_k fun K41 hK41=>?_
   by_cases hz20:0 < lo
   ·refine (wpIn_wide (n:=9)).1 (wpR_region (wr (xP 79 (v0:=pt bb6 1) (v:=pt bb6 1) hF1 rfl fun a1 hF1=>wr (xL 80 8 1 (v:=iv lo) hF1 hM fun a1 w hF1 hM=>wr (xP 81 (v0:=.bool (decide (0 < lo))) (v:=.bool true) hF1 (bT hz20) fun a1 hF1=>wr (xP 82 (v0:=.bool true) (v:=.bool true) hF1 rfl fun a1 hF1=>wr (xP 83 (v0:=.func (.yield ll5) #[] #[]) (v:=.func (.yield ll5) #[] #[]) hF1 rfl fun a1 hF1=>wr (xL 84 8 0 (v:=.agg #[iv fr,iv lo]) hF1 hM fun a1 w hF1 hM=>sYield (n:=90) (d:=85) (args:=#[.agg #[iv fr,iv lo]]) 7 hF1 OO5 hO5 hM (by kernel_rfl) rfl (by decide) (by kernel_rfl) rfl (fun _=>by kernel_rfl) rfl rfl fun KB42 QB42 hB42 hBn42 hBe42 hBr42 hqB42=>?_) hqR11 rfl) hqR11 rfl) hqR11 rfl) hqR11 rfl) hqR11 rfl) hqR11 rfl))
    have hF2:=hF.round1 (p:=13) (by decide) (.agg #[iv fr,iv lo])
    refine wpR_region (wr (xN 6 10 (t:=110) (fun b=>.pointer (some ⟨b,0,none⟩)) #[iv 0,iv 0] hF2 hM fun bb8 a2 w hF2 hM=>?_) (fun ⟨_,_,h⟩=>h) rfl)
    refine wr (xS 10 0 #[iv fr,iv lo] hF2 hM fun w hM=>wpLi_nil (hB42 _ _ _ hM rfl fun w hM=>wpIn_block (wpR_region (wr (xL 14 4 0 (v:=iv su) hF2 hM fun a2 w hF2 hM=>wr (xP 15 (v0:=pt bb8 1) (v:=pt bb8 1) hF2 rfl fun a2 hF2=>wr (xL 16 10 1 (v:=iv lo) hF2 hM fun a2 w hF2 hM=>wr (xL 17 3 0 (v:=iv lost) hF2 hM fun a2 w hF2 hM=>wr (xP 18 (v0:=.int .i64 (IntKind.i64.wrap (lo - lost))) (v:=iv (lo - lost)) hF2 (wi (by omega)) fun a2 hF2=>wr (xP 19 (v0:=.int .i64 (if lo - lost > 0 then lo - lost else 0)) (v:=iv (max 0 (lo - lost))) hF2 (vi (max_if _ _)) fun a2 hF2=>wr (xP 20 (v0:=.int .i64 (IntKind.i64.wrap (su + max 0 (lo - lost)))) (v:=iv (su + max 0 (lo - lost))) hF2 (wi (by omega)) fun a2 hF2=>?_) hqB42 rfl) hqB42 rfl) hqB42 rfl) hqB42 rfl) hqB42 rfl) hqB42 rfl) hqB42 rfl)))) (fun ⟨_,_,h⟩=>h) rfl
    refine wr (xS 4 0 #[iv (su + max 0 (lo - lost))] hF2 hM fun w hM=>wpLi_nil (hBn42 _ _ _ hM rfl fun a1 w hF1 hM=>wr (xP 86 (v0:=.bool false) (v:=.bool false) hF1 rfl fun a1 hF1=>wr (xP 87 (v0:=.bool false) (v:=.bool false) hF1 rfl fun a1 hF1=>wpLi_nil (hK41 _ _ (xF hF1 (wp_skip (hK40 _ _ (wp_region_lit (xB 1 [(88,.agg #[iv 0,iv 0])] hF1 fun a1 hF1=>?_))))))) hqR11 rfl) hqR11 rfl)) hqB42 rfl
    refine wl (xS 8 0 #[iv 0,iv 0] hF1 hM fun w hM=>wpList_nil (hK28 _ _ (wp_region_lit (wl (xP 89 (v0:=.int .i64 (IntKind.i64.wrap ((i:Int) + 1))) (v:=iv ((i:Int) + 1)) hF1 (wi (by omega)) fun a1 hF1=>xB 1 [(45,iv ((i:Int) + 1))] hF1 fun a1 hF1=>wpList_nil ?_)))))
    have hox:=(os_shut ‹osF ge k i=(fr,lo,at_)› hm_ (by assumption))
    refine hK25 _ _ ⟨(i + 1,0,0,at_ + (pr ge m_).2,su + max 0 (lo - lost)),⟨(((((((((Fr.nil hF1).c hF1 (i:=44) rfl rfl).c hF1 (i:=6) rfl rfl).c hF1 (i:=4) rfl rfl).c hF1 (i:=3) rfl rfl).c hF1 (i:=1) rfl rfl).c hF1 (i:=0) rfl rfl).c hF1 (i:=45) rfl (vi (show ((i:Int) + 1:Int)=((i + 1):Int) from by omega))).c hF1 (i:=5) rfl rfl),(hM.sub ((((((((Sub.nil.c (k:=8) rfl rfl).c (k:=7) rfl rfl).c (k:=6) rfl rfl).c (k:=5) rfl rfl).c (k:=4) rfl rfl).c (k:=3) rfl rfl).c (k:=2) rfl rfl).c (k:=1) rfl rfl)),(show ((i + 1):Int) ≤ (ge.length:Int) from by omega),(show osF ge k (i + 1)=(0,0,(at_ + (pr ge m_).2)) from by exact hox.1),(show 0 ≤ 0 ∧ 0 ≤ 9600000 * ((i + 1):Int) from by omega),(show 0 ≤ 0 ∧ 0 ≤ 9600000 * 257 from by omega),(show 0 ≤ (at_ + (pr ge m_).2) from by omega),(show (at_ + (pr ge m_).2) ≤ 9600000 * (k:Int) + 9600000 + 9600000 * ((i + 1):Int) from by omega),(show yldF lost (oeF ge k (i + 1))=(su + max 0 (lo - lost)) from by rw [hox.2.1 (by assumption)]; rw [yldF_app]; omega),(show 0 ≤ (su + max 0 (lo - lost)) from by omega),(show (su + max 0 (lo - lost)) ≤ 1228800000 * ((i + 1):Int) from by omega)⟩,(show ge.length - (i + 1) < ge.length - i from by omega)⟩
   refine (wpIn_wide (n:=9)).1 (wpR_region (wr (xP 79 (v0:=pt bb6 1) (v:=pt bb6 1) hF1 rfl fun a1 hF1=>wr (xL 80 8 1 (v:=iv lo) hF1 hM fun a1 w hF1 hM=>wr (xP 81 (v0:=.bool (decide (0 < lo))) (v:=.bool false) hF1 (bF hz20) fun a1 hF1=>wr (xP 82 (v0:=.bool false) (v:=.bool false) hF1 rfl fun a1 hF1=>wr (sSkip hF1 (by kernel_rfl) rfl (by decide) fun a1 hF1=>wr (sSkip hF1 (by kernel_rfl) rfl (by decide) fun a1 hF1=>wr (sSkip hF1 (by kernel_rfl) rfl (by decide) fun a1 hF1=>wr (sSkip hF1 (by kernel_rfl) rfl (by decide) fun a1 hF1=>wr (xP 87 (v0:=.bool false) (v:=.bool false) hF1 rfl fun a1 hF1=>wpLi_nil (hK41 _ _ ?_)) hqR11 rfl) hqR11 rfl) hqR11 rfl) hqR11 rfl) hqR11 rfl) hqR11 rfl) hqR11 rfl) hqR11 rfl) hqR11 rfl))
   refine xF hF1 (wp_skip (hK40 _ _ (wp_region_lit (xB 1 [(88,.agg #[iv 0,iv 0])] hF1 fun a1 hF1=>wl (xS 8 0 #[iv 0,iv 0] hF1 hM fun w hM=>wpList_nil (hK28 _ _ (wp_region_lit (wl (xP 89 (v0:=.int .i64 (IntKind.i64.wrap ((i:Int) + 1))) (v:=iv ((i:Int) + 1)) hF1 (wi (by omega)) fun a1 hF1=>xB 1 [(45,iv ((i:Int) + 1))] hF1 fun a1 hF1=>wpList_nil ?_)))))))))
   have hox:=(os_shut ‹osF ge k i=(fr,lo,at_)› hm_ (by assumption))
   refine hK25 _ _ ⟨(i + 1,0,0,at_ + (pr ge m_).2,su),⟨(((((((((Fr.nil hF1).c hF1 (i:=44) rfl rfl).c hF1 (i:=6) rfl rfl).c hF1 (i:=4) rfl rfl).c hF1 (i:=3) rfl rfl).c hF1 (i:=1) rfl rfl).c hF1 (i:=0) rfl rfl).c hF1 (i:=45) rfl (vi (show ((i:Int) + 1:Int)=((i + 1):Int) from by omega))).c hF1 (i:=5) rfl rfl),(hM.sub ((((((((Sub.nil.c (k:=8) rfl rfl).c (k:=7) rfl rfl).c (k:=6) rfl rfl).c (k:=5) rfl rfl).c (k:=4) rfl rfl).c (k:=3) rfl rfl).c (k:=2) rfl rfl).c (k:=1) rfl rfl)),(show ((i + 1):Int) ≤ (ge.length:Int) from by omega),(show osF ge k (i + 1)=(0,0,(at_ + (pr ge m_).2)) from by exact hox.1),(show 0 ≤ 0 ∧ 0 ≤ 9600000 * ((i + 1):Int) from by omega),(show 0 ≤ 0 ∧ 0 ≤ 9600000 * 257 from by omega),(show 0 ≤ (at_ + (pr ge m_).2) from by omega),(show (at_ + (pr ge m_).2) ≤ 9600000 * (k:Int) + 9600000 + 9600000 * ((i + 1):Int) from by omega),(show yldF lost (oeF ge k (i + 1))=su from by rw [hox.2.2 (by omega)]; assumption),(show 0 ≤ su from by omega),(show su ≤ 1228800000 * ((i + 1):Int) from by omega)⟩,(show ge.length - (i + 1) < ge.length - i from by omega)⟩
  replace hF1:=hF1.c hF1 (i:=46) (v:=.bool false) rfl (bF hz17)
  refine xF hF1 (wp_exit (hNR11 _ _ (ret_ofN hF1 hM (.nil) (rangeEnd (kl:=7) OO5 hO5 hM rfl (by decide) fun w hM=>?_))))
  replace hF:=hF.defer { target:=.collected DD5,args:=#[] }
  refine hK6 _ _ (wp_seq_k fun K43 hK43=>wp_region_lit (wl (xL 21 4 0 (v:=iv su) hF hM fun a w hF hM=>xB 1 [(4,iv su)] hF fun a hF=>wpList_nil (hK43 _ _ (wp_ret (hR0 _ _ (retM1 (kD:=6) hF hM rfl (.tmp rfl (.nil)) fun w hM=>?_)))))))
  obtain rfl:i=ge.length:=by omega
  have hld:=ld_eq (ge:=ge) (k:=k) (by omega) (by assumption) (fun q=>by assumption)
  exact ⟨ret_int (by unfold yofI opsL; rw [hld,if_neg (by assumption),if_neg (by omega)]; omega),hM.bel⟩
 refine wp_region_lit (xB 2 [(12,iv (k:Int)),(13,iv (ge.length:Int))] hF1 fun a1 hF1=>wl (xP 14 (v0:=.bool (decide ((k:Int) < (ge.length:Int)))) (v:=.bool false) hF1 (bF hz6) fun a1 hF1=>xB 8 [(15,.bool false),(16,undef),(17,undef),(18,undef),(19,undef),(20,undef),(21,undef),(22,.bool false)] hF1 fun a1 hF1=>wpList_nil (hK17 _ _ (xF hF1 (wp_exit (hK14 _ _ (wp_seq_k fun K44 hK44=>wp_seq_k fun K45 hK45=>wp_region_lit ?_)))))))
 refine xB 2 [(33,iv (k:Int)),(34,iv (ge.length:Int))] hF1 fun a1 hF1=>wl (xP 35 (v0:=.bool (decide ((k:Int)=(ge.length:Int)))) (v:=.bool true) hF1 (bT (by omega)) fun a1 hF1=>wpList_nil (hK45 _ _ (xT hF1 (wp_ret (hR11 _ _ (ret_of hF1 hM (.nil) (rangeEnd (kl:=7) OO5 hO5 hM rfl (by (try dsimp only); decide) fun w hM=>?_)))))))
 replace hF:=hF.defer { target:=.collected DD5,args:=#[] }
 refine hK6 _ _ (wp_seq_k fun K46 hK46=>wp_region_lit (wl (xL 21 4 0 (v:=iv 0) hF hM fun a w hF hM=>xB 1 [(4,iv 0)] hF fun a hF=>wpList_nil (hK46 _ _ (wp_ret (hR0 _ _ (retM1 (kD:=6) hF hM rfl (.tmp rfl (.nil)) fun w hM=>?_)))))))
 have hld:=ld_eq (ge:=ge) (k:=k) (by omega) (by assumption) (fun q=>by omega)
 exact ⟨ret_int (by unfold yofI opsL; rw [if_neg (by assumption),if_pos (by omega)]; rfl),hM.bel⟩
end Go.Proofs.YtlngflbamkgjlaaGreat
namespace Go.Proofs.YtlngflbamkgjlaaGreat
open Go.RowKit
set_option linter.unusedVariables false
set_option linter.unusedSimpArgs false
set_option maxRecDepth 100000
theorem os_bd {ge:List (Int × Int)} {c:Nat} {lost:Int} (h:∀ j,j < ge.length → 1 ≤ (pr ge j).2 ∧ (pr ge j).2 ≤ 9600000) (hn:1 ≤ ge.length) (hl:0 ≤ lost):∀ i,i ≤ 128 → 0 ≤ (osF ge c i).2.1 ∧ (osF ge c i).2.1 ≤ 9600000 * (i:Int) ∧ 0 ≤ yldF lost (oeF ge c i) ∧ yldF lost (oeF ge c i) ≤ 1228800000 * (i:Int)
  | 0, _ => ⟨Int.le_refl _, Int.le_refl _, Int.le_refl _, Int.le_refl _⟩
  | i + 1, hi => by
    obtain ⟨h1,h2,h3,h4⟩:=os_bd (c:=c) h hn hl i (by omega)
    have h5:=h ((c + 1 + i) % ge.length) (Nat.mod_lt _ (by omega))
    obtain ⟨f,o,t,e⟩:∃ f o t,osF ge c i=(f,o,t):=⟨_,_,_,rfl⟩
    rw [e] at h1 h2
    dsimp only at h1 h2
    by_cases hp:oP ge ((c + 1 + i) % ge.length)
    · obtain ⟨e1,e2⟩:=os_open e rfl hp
      rw [e1,e2]
      dsimp only
      omega
    · obtain ⟨e1,e2,e3⟩:=os_shut e rfl hp
      rw [e1]
      by_cases ho:0 < o
      · rw [e2 ho,yldF_app]
        dsimp only
        omega
      · rw [e3 ho]
        dsimp only
        omega
theorem yof_bd {ge:List (Int × Int)} {cyc lost:Int} (h:gaE ge cyc=0) (hl:0 ≤ lost):0 ≤ yofI ge cyc lost ∧ yofI ge cyc lost ≤ 157286400000:=by
  have hp:=ga_pos h
  have hb:=os_bd (c:=ldN ge) (fun j hj=>⟨((ga_p h).2.2.1 j hj).2.2.1,((ga_p h).2.2.1 j hj).2.2.2⟩) hp.1.1 hl ge.length hp.1.2
  unfold yofI opsL
  split
  · omega
  · split
    · simp [yldF]
    · omega
def ofRt (ge:List (Int × Int)) (cyc per lost:Int):Int:=yofI ge cyc lost * 1048576 / (cyc * per)
theorem rt_bd {y cyc per rt:Int} (hy:0 ≤ y ∧ y ≤ 157286400000) (hc:1 ≤ cyc) (hp:1 ≤ per) (h:y * 1048576 / (cyc * per)=rt):0 ≤ rt ∧ rt ≤ 164926744166400000 ∧ 0 ≤ rt * per ∧ rt * per ≤ 164926744166400000:=by
  have h1:1 ≤ cyc * per:=Int.le_trans hp (by have:=Int.mul_le_mul_of_nonneg_right hc (show 0 ≤ per by omega); omega)
  have h2:rt * (cyc * per) ≤ y * 1048576:=by rw [← h]; exact Int.ediv_mul_le _ (by omega)
  have h3:0 ≤ rt:=by rw [← h]; exact Int.ediv_nonneg (by omega) (by omega)
  have h4:0 ≤ rt * per:=Int.mul_nonneg h3 (by omega)
  have h5:rt * per ≤ rt * (cyc * per):=by
    have:=Int.mul_le_mul_of_nonneg_left hc h4
    rw [show rt * (cyc * per)=rt * per * cyc by rw [Int.mul_comm cyc per,Int.mul_assoc]]
    omega
  have h6:rt ≤ rt * per:=by have:=Int.mul_le_mul_of_nonneg_left hp h3; omega
  omega
theorem fd_bd {a b:Int} (hb:1 ≤ b):(0 ≤ a → 0 ≤ a / b ∧ a / b ≤ a) ∧ (a ≤ 0 → a ≤ a / b ∧ a / b ≤ 0):=by
  refine ⟨fun h=>⟨Int.ediv_nonneg h (by omega),Int.ediv_le_self _ h⟩,fun h=>⟨?_,?_⟩⟩
  · rw [Int.le_ediv_iff_mul_le (by omega)]
    have:=Int.mul_nonneg (show 0 ≤ -a by omega) (show 0 ≤ b - 1 by omega)
    rw [Int.mul_sub,Int.neg_mul,Int.mul_one] at this
    omega
  · have:a / b < 1:=Int.ediv_lt_of_lt_mul (by omega) (by omega)
    omega
def bgI (L:List (Int × Int)) (lost:Int) (i:Nat):Int:=(pr L i).1 + (pr L i).2 - min lost (pr L i).2
def snI (L:List (Int × Int)) (lost:Int) (i:Nat):Nat → Int
  | 0 => 0
  | k + 1 => snI L lost i k + max 0 ((pr L ((i + 1 + k) % L.length)).2 - lost)
def lvI (L:List (Int × Int)) (cyc per lost rp:Int) (i k:Nat):Int:=(pr L ((i + 1 + k) % L.length)).1 + ((i + 1 + k) / L.length:Nat) * cyc + min lost (pr L ((i + 1 + k) % L.length)).2 - bgI L lost i - (snI L lost i k - 127 * per) * 1048576 / rp
def lt0 (per rp:Int):Int:=max 0 (0 - -127 * per * 1048576 / rp)
def inI (L:List (Int × Int)) (cyc per lost rp x:Int):Prop:=x=lt0 per rp ∨ ∃ i k,i < L.length ∧ k < L.length ∧ x=lvI L cyc per lost rp i k
theorem in_max {L:List (Int × Int)} {cyc per lost rp a b:Int} (ha:inI L cyc per lost rp a) (hb:inI L cyc per lost rp b):inI L cyc per lost rp (max a b):=by
  rcases Int.le_total a b with h | h
  · rw [Int.max_eq_right h]; exact hb
  · rw [Int.max_eq_left h]; exact ha
def latP (ge:List (Int × Int)) (cyc per lost rt lt:Int):Prop:=(0 ≤ lt ∧ lt ≤ 1000000000000) ∧ lt0 per (rt * per) ≤ lt ∧ (∀ i k,i < (opsL ge).length → k < (opsL ge).length → lvI (opsL ge) cyc per lost (rt * per) i k ≤ lt) ∧ inI (opsL ge) cyc per lost (rt * per) lt
theorem smod_w (x y:Int) (w0:World) (hb:(-1000000000000000000 ≤ x ∧ x ≤ 1000000000000000000) ∧ 1 ≤ y ∧ y ≤ 1000000000000000000) :
    Calls Tryz.prog 38 #[iv x,iv y] w0 (Ret w0 (.int .i64 (x % y))):=by
 refine enterK 12 Tryz.func38 rfl rfl rfl ?_
 intro a hF Q0 hR0 hN0
 have hM:=Mem.start w0
 refine wp_seq_k fun K1 hK1=>wp_region_lit (xB 1 [(4,iv 0)] hF fun a hF=>wpList_nil (hK1 _ _ (wp_seq_k fun K2 hK2=>wp_region_lit (xB 2 [(5,iv x),(6,iv y)] hF fun a hF=>?_))))
 have htm:=tmod_bd (p:=x) (q:=y) (by omega)
 refine wl (xM 7 (v:=iv (x.tmod y)) hF hM (yld_rem x y hF rfl (by kernel_rfl) (by kernel_rfl) (by kernel_rfl) (by omega) (rfl)) fun a w hF hM=>xB 1 [(8,iv y)] hF fun a hF=>wl (xP 9 (v0:=.int .i64 (IntKind.i64.wrap (x.tmod y + y))) (v:=iv (x.tmod y + y)) hF (wi (by omega)) fun a hF=>xB 1 [(10,iv y)] hF fun a hF=>wl (xM 11 (v:=iv (x % y)) hF hM (yld_rem (x.tmod y + y) y hF rfl (by kernel_rfl) (by kernel_rfl) (by kernel_rfl) (by omega) ((Int.tmod_eq_emod_of_nonneg (by omega)).trans (mod_fix (by omega)))) fun a w hF hM=>xB 1 [(4,iv (x % y))] hF fun a hF=>wpList_nil (hK2 _ _ (wp_ret (hR0 _ _ (ret_of hF hM (.tmp rfl (.nil)) (⟨rfl,hM.bel⟩))))))))
theorem floorDiv_w (x y:Int) (w0:World) (hb:(-1000000000000000000 ≤ x ∧ x ≤ 1000000000000000000) ∧ 1 ≤ y ∧ y ≤ 1000000000000000000) :
    Calls Tryz.prog 14 #[iv x,iv y] w0 (Ret w0 (.int .i64 (x / y))):=by
 refine enterK 12 Tryz.func14 rfl rfl rfl ?_
 intro a hF Q0 hR0 hN0
 have hM:=Mem.start w0
 refine wp_seq_k fun K1 hK1=>wp_region_lit (xB 1 [(4,iv 0)] hF fun a hF=>wpList_nil (hK1 _ _ (wp_seq_k fun K2 hK2=>wp_region_lit (xB 3 [(5,iv x),(6,iv x),(7,iv y)] hF fun a hF=>?_))))
 obtain ⟨xy_,hxy⟩:∃ z:Int,x % y=z:=⟨_,rfl⟩
 have hxb:0 ≤ xy_ ∧ xy_ < y:=by rw [← hxy]; exact ⟨Int.emod_nonneg _ (by omega),Int.emod_lt_of_pos _ (by omega)⟩
 refine wl (xM 8 (v:=iv xy_) hF hM (xC 38 #[iv x,iv y] hF (fun w hM=>by have:=smod_w x y w (by omega); rw [hxy] at this; exact this)) fun a w hF hM=>wl (xP 9 (v0:=.int .i64 (IntKind.i64.wrap (x - xy_))) (v:=iv (x - xy_)) hF (wi (by omega)) fun a hF=>xB 1 [(10,iv y)] hF fun a hF=>wl (xM 11 (v:=iv (x / y)) hF hM (yld_quo (x - xy_) y hF rfl (by kernel_rfl) (by kernel_rfl) (by kernel_rfl) (by omega) ((show _=_ from by rw [show x - xy_=y * (x / y) by have:=Int.mul_ediv_add_emod x y; omega,Int.mul_tdiv_cancel_left _ (by omega)]; exact w64 (by have:=fd_bd (a:=x) (b:=y) (by omega); rcases Int.le_total 0 x with q | q; have:=this.1 q; omega; have:=this.2 q; omega)))) fun a w hF hM=>xB 1 [(4,iv (x / y))] hF fun a hF=>wpList_nil (hK2 _ _ (wp_ret (hR0 _ _ (ret_of hF hM (.tmp rfl (.nil)) (⟨rfl,hM.bel⟩))))))))
end Go.Proofs.YtlngflbamkgjlaaGreat
namespace Go.Proofs.YtlngflbamkgjlaaGreat
open Go.RowKit
set_option linter.unusedVariables false
set_option linter.unusedSimpArgs false
set_option maxRecDepth 100000
theorem srvCheck_w (A:Option Addr) (ge:List (Int × Int)) (gc:Nat) (cyc:Int) (per most:Int) (w0:World) (hA:Ro w0 A (flat2 ge)) (hpm:(1 ≤ per ∧ per ≤ 1000) ∧ 84 ≤ most ∧ most ≤ 1542) :
    Calls Tryz.prog 11 #[.agg #[.slice A ge.length gc,iv cyc],iv per,iv most] w0 (Ret w0 (.int .i64 (gaE ge cyc))):=by
 refine enterK 27 Tryz.func11 rfl rfl rfl ?_
 intro a hF Q0 hR0 hN0
 have hM:=Mem.start w0
 replace hM:=hM.addOld 1 hA (Nat.le_refl _)
 refine wp_seq_k fun K1 hK1=>wp_region_lit (wl (xN 3 2 (t:=29) (fun b=>.pointer (some ⟨b,0,none⟩)) #[.slice A ge.length gc,iv cyc] hF hM fun bb1 a w hF hM=>xB 1 [(6,iv 0)] hF fun a hF=>wpList_nil (hK1 _ _ (wp_seq_k fun K2 hK2=>wp_seq_k fun K3 hK3=>wp_region_lit (wl (xL 8 2 0 (v:=.agg #[.slice A ge.length gc,iv cyc]) hF hM fun a w hF hM=>?_))))))
 obtain ⟨gx_,hgx⟩:∃ z:Int,gaE ge cyc=z:=⟨_,rfl⟩
 refine wl (xM 9 (v:=iv gx_) hF hM (xC 35 #[.agg #[.slice A ge.length gc,iv cyc]] hF (fun w hM=>by have:=gaCheck_w A ge gc cyc w (hM.ok 1 _ rfl); rw [hgx] at this; exact this)) fun a w hF hM=>xB 1 [(7,iv gx_)] hF fun a hF=>wpList_nil (hK3 _ _ (wp_seq_k fun K4 hK4=>wp_region_lit (xB 2 [(10,iv gx_),(11,.bool (!decide (gx_=0)))] hF fun a hF=>wpList_nil (hK4 _ _ ?_)))))
 by_cases hz1:gx_=0
 ·replace hF:=hF.c hF (i:=11) (v:=.bool false) rfl (nT hz1)
  refine xF hF (wp_skip (hK2 _ _ (wp_seq_k fun K5 hK5=>wp_seq_k fun K6 hK6=>wp_region_lit (xB 1 [(13,iv per)] hF fun a hF=>wl (xP 14 (v0:=.bool (decide (per < 1))) (v:=.bool false) hF (bF (by omega)) fun a hF=>xB 2 [(15,.bool false),(16,iv per)] hF fun a hF=>wl (xP 17 (v0:=.bool (decide (1000 < per))) (v:=.bool false) hF (bF (by omega)) fun a hF=>xB 3 [(18,.bool false),(19,.bool false),(20,iv most)] hF fun a hF=>wl (xP 21 (v0:=.bool (decide (most < 84))) (v:=.bool false) hF (bF (by omega)) fun a hF=>?_)))))))
  refine xB 3 [(22,.bool false),(23,.bool false),(24,iv most)] hF fun a hF=>wl (xP 25 (v0:=.bool (decide (1542 < most))) (v:=.bool false) hF (bF (by omega)) fun a hF=>xB 1 [(26,.bool false)] hF fun a hF=>wpList_nil (hK6 _ _ (xF hF (wp_skip (hK5 _ _ (wp_seq_k fun K7 hK7=>wp_region_lit (xB 1 [(6,iv 0)] hF fun a hF=>wpList_nil ?_)))))))
  refine hK7 _ _ (wp_ret (hR0 _ _ (ret_of hF hM (.tmp rfl (.nil)) (⟨ret_int (by omega),hM.bel⟩))))
 replace hF:=hF.c hF (i:=11) (v:=.bool true) rfl (nF hz1)
 refine xT hF (wp_seq_k fun K8 hK8=>wp_region_lit (xB 2 [(12,iv gx_),(6,iv gx_)] hF fun a hF=>wpList_nil (hK8 _ _ (wp_ret (hR0 _ _ (ret_of hF hM (.tmp rfl (.nil)) (⟨ret_int (by omega),hM.bel⟩)))))))
theorem of_bad (A:Option Addr) (ge:List (Int × Int)) (gc:Nat) (cyc:Int) (per most:Int) (w0:World) (hA:Ro w0 A (flat2 ge)) (hpm:(1 ≤ per ∧ per ≤ 1000) ∧ 84 ≤ most ∧ most ≤ 1542) (hb:gaE ge cyc ≠ 0) :
    Calls Tryz.prog 5 #[.agg #[.slice A ge.length gc,iv cyc],iv per,iv most] w0 (Ret w0 (.tuple #[.agg #[.int .i64 0,.int .i64 0],.int .i64 (gaE ge cyc)])):=by
 refine enterK 48 Tryz.func5 rfl rfl rfl ?_
 intro a hF Q0 hR0 hN0
 have hM:=Mem.start w0
 replace hM:=hM.addOld 1 hA (Nat.le_refl _)
 refine wp_seq_k fun K1 hK1=>wp_region_lit (wl (xN 3 2 (t:=29) (fun b=>.pointer (some ⟨b,0,none⟩)) #[.slice A ge.length gc,iv cyc] hF hM fun bb1 a w hF hM=>wl (xN 4 3 (t:=3) (fun b=>.pointer (some ⟨b,0,none⟩)) #[iv per] hF hM fun bb2 a w hF hM=>wl (xN 6 4 (t:=35) (fun b=>.pointer (some ⟨b,0,none⟩)) #[iv 0,iv 0] hF hM fun bb3 a w hF hM=>xB 1 [(7,iv 0)] hF fun a hF=>wpList_nil (hK1 _ _ (wp_seq_k fun K2 hK2=>wp_seq_k fun K3 hK3=>wp_region_lit (wl (xL 13 2 0 (v:=.agg #[.slice A ge.length gc,iv cyc]) hF hM fun a w hF hM=>?_))))))))
 refine wl (xL 14 3 0 (v:=iv per) hF hM fun a w hF hM=>xB 1 [(15,iv most)] hF fun a hF=>?_)
 obtain ⟨gx_,hgx⟩:∃ z:Int,gaE ge cyc=z:=⟨_,rfl⟩
 have hgn:gx_ ≠ 0:=by omega
 refine wl (xM 16 (v:=iv gx_) hF hM (xC 11 #[.agg #[.slice A ge.length gc,iv cyc],iv per,iv most] hF (fun w hM=>by have:=srvCheck_w A ge gc cyc per most w (hM.ok 1 _ rfl) hpm; rw [hgx] at this; exact this)) fun a w hF hM=>xB 1 [(8,iv gx_)] hF fun a hF=>wpList_nil (hK3 _ _ (wp_seq_k fun K4 hK4=>wp_region_lit (xB 1 [(17,iv gx_)] hF fun a hF=>wl (xP 18 (v0:=.bool (!decide (gx_=0))) (v:=.bool true) hF (nF hgn) fun a hF=>wpList_nil (hK4 _ _ (xT hF (wp_seq_k fun K5 hK5=>?_))))))))
 refine wp_region_lit (xB 2 [(19,.agg #[iv 0,iv 0]),(20,iv gx_)] hF fun a hF=>wl (xS 4 0 #[iv 0,iv 0] hF hM fun w hM=>xB 1 [(7,iv gx_)] hF fun a hF=>wpList_nil (hK5 _ _ (wp_ret (hR0 _ _ (ret_of hF hM (.cell (i:=4) rfl rfl (v:=.agg #[iv 0,iv 0]) (by kernel_rfl) (.tmp rfl (.nil))) (⟨ret_eq (by rw [hgx]; rfl),hM.bel⟩)))))))
theorem divC2 (a n:Nat):(a:Int).tdiv (n:Int)=((a / n:Nat):Int):=by
  rw [Int.tdiv_eq_ediv_of_nonneg (by omega)]
  simp
theorem pr_left {L M:List (Int × Int)} {q:Nat} (h:q < L.length):pr (L ++ M) q=pr L q:=by
  simp [pr,List.getD_eq_getElem?_getD,List.getElem?_append_left h]
theorem pr_last {L:List (Int × Int)} {x:Int × Int} {q:Nat} (h:q=L.length):pr (L ++ [x]) q=x:=by
  subst h
  simp [pr]
theorem lb_app {L:List (Int × Int)} {f o:Int} (h:∀ q,q < L.length → (0 ≤ (pr L q).1 ∧ (pr L q).1 ≤ 2467200000) ∧ 1 ≤ (pr L q).2 ∧ (pr L q).2 ≤ 1228800000) (h1:0 ≤ f ∧ f ≤ 2467200000) (h2:1 ≤ o ∧ o ≤ 1228800000):∀ q,q < (L ++ [(f,o)]).length → (0 ≤ (pr (L ++ [(f,o)]) q).1 ∧ (pr (L ++ [(f,o)]) q).1 ≤ 2467200000) ∧ 1 ≤ (pr (L ++ [(f,o)]) q).2 ∧ (pr (L ++ [(f,o)]) q).2 ≤ 1228800000:=fun q hq=>by
  rw [List.length_append] at hq
  by_cases e:q=L.length
  · rw [pr_last e]; exact ⟨h1,h2⟩
  · rw [pr_left (by simp at hq; omega)]; exact h q (by simp at hq; omega)
def OfS (ge:List (Int × Int)) (cyc per lost rt:Int) (w:World) (en:Ending) (w':World):Prop:=∃ lt,latP ge cyc per lost rt lt ∧ en=.returned (.tuple #[.agg #[.int .i64 rt,.int .i64 lt],.int .i64 0]) ∧ Below w.heap.size w w'
set_option maxHeartbeats 8000000 in
theorem of_none (A:Option Addr) (ge:List (Int × Int)) (gc:Nat) (cyc:Int) (per most:Int) (w0:World) (hA:Ro w0 A (flat2 ge)) (hpm:(1 ≤ per ∧ per ≤ 1000) ∧ 84 ≤ most ∧ most ≤ 1542) (hga:gaE ge cyc=0) (hr:ofRt ge cyc per (most * per) < 1) :
    Calls Tryz.prog 5 #[.agg #[.slice A ge.length gc,iv cyc],iv per,iv most] w0 (Ret w0 (.tuple #[.agg #[.int .i64 0,.int .i64 0],.int .i64 4])):=by
 have hgp:=(ga_p hga).2.2.1
 have hgs:=ga_pos hga
 have hs0:sumL ge 0=0:=rfl
 refine enterK 48 Tryz.func5 rfl rfl rfl ?_
 intro a hF Q0 hR0 hN0
 have hM:=Mem.start w0
 replace hM:=hM.addOld 1 hA (Nat.le_refl _)
 refine wp_seq_k fun K1 hK1=>wp_region_lit (wl (xN 3 2 (t:=29) (fun b=>.pointer (some ⟨b,0,none⟩)) #[.slice A ge.length gc,iv cyc] hF hM fun bb1 a w hF hM=>wl (xN 4 3 (t:=3) (fun b=>.pointer (some ⟨b,0,none⟩)) #[iv per] hF hM fun bb2 a w hF hM=>wl (xN 6 4 (t:=35) (fun b=>.pointer (some ⟨b,0,none⟩)) #[iv 0,iv 0] hF hM fun bb3 a w hF hM=>xB 1 [(7,iv 0)] hF fun a hF=>wpList_nil (hK1 _ _ (wp_seq_k fun K2 hK2=>wp_seq_k fun K3 hK3=>wp_region_lit (wl (xL 13 2 0 (v:=.agg #[.slice A ge.length gc,iv cyc]) hF hM fun a w hF hM=>?_))))))))
 refine wl (xL 14 3 0 (v:=iv per) hF hM fun a w hF hM=>xB 1 [(15,iv most)] hF fun a hF=>wl (xM 16 (v:=iv 0) hF hM (xC 11 #[.agg #[.slice A ge.length gc,iv cyc],iv per,iv most] hF (fun w hM=>by have:=srvCheck_w A ge gc cyc per most w (hM.ok 1 _ rfl) hpm; rw [hga] at this; exact this)) fun a w hF hM=>xB 1 [(8,iv 0)] hF fun a hF=>wpList_nil (hK3 _ _ (wp_seq_k fun K4 hK4=>wp_region_lit (xB 1 [(17,iv 0)] hF fun a hF=>wl (xP 18 (v0:=.bool (!decide (0=0))) (v:=.bool false) hF (nT (by omega)) fun a hF=>wpList_nil (hK4 _ _ ?_)))))))
 refine xF hF (wp_skip (hK2 _ _ (wp_seq_k fun K5 hK5=>wp_region_lit (xB 1 [(21,iv most)] hF fun a hF=>wl (xL 22 3 0 (v:=iv per) hF hM fun a w hF hM=>?_)))))
 have hz1:84 ≤ most * per ∧ most * per ≤ 1542000:=mul_bd (84) (1542) (1) (1000) (by omega) (by omega) (by omega) (by omega) (by decide)
 refine wl (xP 23 (v0:=.int .i64 (IntKind.i64.wrap (most * per))) (v:=iv (most * per)) hF (wi (by omega)) fun a hF=>xB 1 [(9,iv (most * per))] hF fun a hF=>wpList_nil (hK5 _ _ (wp_seq_k fun K6 hK6=>?_)))
 obtain ⟨yv_,hyv⟩:∃ z:Int,yofI ge cyc (most * per)=z:=⟨_,rfl⟩
 have hyb:=yof_bd (lost:=most * per) hga (by omega)
 rw [hyv] at hyb
 have hz2:1 ≤ cyc * per ∧ cyc * per ≤ 9600000000:=mul_bd (1) (9600000) (1) (1000) (by omega) (by omega) (by omega) (by omega) (by decide)
 obtain ⟨rt_,hrt⟩:∃ z:Int,yv_ * 1048576 / (cyc * per)=z:=⟨_,rfl⟩
 have hrb:=rt_bd hyb (by omega) (by omega) hrt
 refine rF (by kernel_rfl) (by kernel_rfl) (fun S a w=>∃ bb4:Nat,Fr 48 [(3,some (pt bb1 0)),(4,some (pt bb2 0)),(6,some (pt bb3 0)),(7,some (iv 0)),(9,some (iv (most * per))),(10,(cond (S.getD 9 false) (some (pt bb4 0)) none)),(24,(cond (S.getD 0 false) (some (.agg #[.slice A ge.length gc,iv cyc])) none)),(25,(cond (S.getD 1 false) (some (iv (most * per))) none)),(26,(cond (S.getD 2 false) (some (iv yv_)) none)),(27,(cond (S.getD 3 false) (some (iv (yv_ * 1048576))) none)),(28,(cond (S.getD 4 false) (some (pt bb1 1)) none)),(29,(cond (S.getD 5 false) (some (iv cyc)) none)),(30,(cond (S.getD 6 false) (some (iv per)) none)),(31,(cond (S.getD 7 false) (some (iv (cyc * per))) none)),(32,(cond (S.getD 8 false) (some (iv rt_)) none))] a ∧ Mem w0.heap.size w0 [(1,some (.ro A (flat2 ge))),(2,some (.row bb1 29 #[.slice A ge.length gc,iv cyc])),(3,some (.row bb2 3 #[iv per])),(4,some (.row bb3 35 #[iv 0,iv 0])),(5,(cond (S.getD 10 false) (some (.row bb4 3 #[iv rt_])) (cond (S.getD 9 false) (some (.row bb4 3 #[iv 0])) none)))] w) ?_ ?_ ?_
 ·exact ⟨0,hF.pk,hM.dk⟩
 ·refine stC ?_ (stC ?_ (stC ?_ (stC ?_ (stC ?_ (stC ?_ (stC ?_ (stC ?_ (stC ?_ (stC ?_ (stC ?_ (trivial)))))))))))
  ·intro s0 s1 s2 s3 s4 s5 s6 s7 s8 s9 s10 hc hi hp a w hS
   obtain rfl:s0=false:=hi
   obtain ⟨bb4,hF,hM⟩:=hS
   refine xL 24 2 0 (v:=.agg #[.slice A ge.length gc,iv cyc]) hF hM fun a w hF hM=>⟨bb4,hF.rc 6,hM.k⟩
  ·intro s0 s1 s2 s3 s4 s5 s6 s7 s8 s9 s10 hc hi hp a w hS
   obtain rfl:s1=false:=hi
   obtain ⟨bb4,hF,hM⟩:=hS
   refine xP 25 (v0:=iv (most * per)) (v:=iv (most * per)) hF rfl fun a hF=>⟨bb4,hF.rc 7,hM.k⟩
  ·intro s0 s1 s2 s3 s4 s5 s6 s7 s8 s9 s10 hc hi hp a w hS
   obtain rfl:s2=false:=hi
   obtain rfl:s1=true:=hp 1 (by kernel_rfl)
   obtain rfl:s0=true:=hp 0 (by kernel_rfl)
   obtain ⟨bb4,hF,hM⟩:=hS
   refine xM 26 (v:=iv yv_) hF hM (xC 12 #[.agg #[.slice A ge.length gc,iv cyc],iv (most * per)] hF (fun w hM=>by have:=yieldOf_w A ge gc cyc (most * per) w (hM.ok 1 _ rfl) hga (by omega); rw [hyv] at this; exact this)) fun a w hF hM=>⟨bb4,hF.rc 8,hM.k⟩
  ·intro s0 s1 s2 s3 s4 s5 s6 s7 s8 s9 s10 hc hi hp a w hS
   obtain rfl:s3=false:=hi
   obtain rfl:s2=true:=hp 2 (by kernel_rfl)
   obtain ⟨bb4,hF,hM⟩:=hS
   refine xP 27 (v0:=.int .i64 (IntKind.i64.wrap (yv_ * 1048576))) (v:=iv (yv_ * 1048576)) hF (wi (by omega)) fun a hF=>⟨bb4,hF.rc 9,hM.k⟩
  ·intro s0 s1 s2 s3 s4 s5 s6 s7 s8 s9 s10 hc hi hp a w hS
   obtain rfl:s4=false:=hi
   obtain ⟨bb4,hF,hM⟩:=hS
   refine xP 28 (v0:=pt bb1 1) (v:=pt bb1 1) hF rfl fun a hF=>⟨bb4,hF.rc 10,hM.k⟩
  ·intro s0 s1 s2 s3 s4 s5 s6 s7 s8 s9 s10 hc hi hp a w hS
   obtain rfl:s5=false:=hi
   obtain rfl:s4=true:=hp 4 (by kernel_rfl)
   obtain ⟨bb4,hF,hM⟩:=hS
   refine xL 29 2 1 (v:=iv cyc) hF hM fun a w hF hM=>⟨bb4,hF.rc 11,hM.k⟩
  ·intro s0 s1 s2 s3 s4 s5 s6 s7 s8 s9 s10 hc hi hp a w hS
   obtain rfl:s6=false:=hi
   obtain ⟨bb4,hF,hM⟩:=hS
   refine xL 30 3 0 (v:=iv per) hF hM fun a w hF hM=>⟨bb4,hF.rc 12,hM.k⟩
  ·intro s0 s1 s2 s3 s4 s5 s6 s7 s8 s9 s10 hc hi hp a w hS
   obtain rfl:s7=false:=hi
   obtain rfl:s6=true:=hp 6 (by kernel_rfl)
   obtain rfl:s5=true:=hp 5 (by kernel_rfl)
   obtain ⟨bb4,hF,hM⟩:=hS
   refine xP 31 (v0:=.int .i64 (IntKind.i64.wrap (cyc * per))) (v:=iv (cyc * per)) hF (wi (by omega)) fun a hF=>⟨bb4,hF.rc 13,hM.k⟩
  ·intro s0 s1 s2 s3 s4 s5 s6 s7 s8 s9 s10 hc hi hp a w hS
   obtain rfl:s8=false:=hi
   obtain rfl:s7=true:=hp 7 (by kernel_rfl)
   obtain rfl:s3=true:=hp 3 (by kernel_rfl)
   obtain ⟨bb4,hF,hM⟩:=hS
   refine xM 32 (v:=iv rt_) hF hM (yld_quo (yv_ * 1048576) (cyc * per) hF rfl (by kernel_rfl) (by kernel_rfl) (by kernel_rfl) (by omega) ((qpos_i64 (by omega) (by omega) (by omega)).trans hrt)) fun a w hF hM=>⟨bb4,hF.rc 14,hM.k⟩
  ·intro s0 s1 s2 s3 s4 s5 s6 s7 s8 s9 s10 hc hi hp a w hS
   obtain rfl:s9=false:=hi
   obtain rfl:s10=false:=hc.f 10 9 (by kernel_rfl) rfl
   obtain ⟨bb4,hF,hM⟩:=hS
   refine xN 10 5 (t:=3) (fun b=>.pointer (some ⟨b,0,none⟩)) #[iv 0] hF hM fun bb4 a w hF hM=>⟨bb4,hF.rc 5,hM.rc 4⟩
  intro s0 s1 s2 s3 s4 s5 s6 s7 s8 s9 s10 hc hi hp a w hS
  obtain rfl:s10=false:=hi
  obtain rfl:s9=true:=hp 9 (by kernel_rfl)
  obtain rfl:s8=true:=hp 8 (by kernel_rfl)
  obtain ⟨bb4,hF,hM⟩:=hS
  refine xS 5 0 #[iv rt_] hF hM fun w hM=>⟨bb4,hF.k,hM.rc 4⟩
 intro a w hS
 obtain ⟨bb4,hF,hM⟩:=hS
 replace hF:Fr 48 [(3,some (pt bb1 0)),(4,some (pt bb2 0)),(6,some (pt bb3 0)),(7,some (iv 0)),(9,some (iv (most * per))),(10,some (pt bb4 0)),(24,some (.agg #[.slice A ge.length gc,iv cyc])),(25,some (iv (most * per))),(26,some (iv yv_)),(27,some (iv (yv_ * 1048576))),(28,some (pt bb1 1)),(29,some (iv cyc)),(30,some (iv per)),(31,some (iv (cyc * per))),(32,some (iv rt_))] a:=hF.cast (by kernel_rfl)
 replace hM:Mem w0.heap.size w0 [(1,some (.ro A (flat2 ge))),(2,some (.row bb1 29 #[.slice A ge.length gc,iv cyc])),(3,some (.row bb2 3 #[iv per])),(4,some (.row bb3 35 #[iv 0,iv 0])),(5,some (.row bb4 3 #[iv rt_]))] w:=hM.cast (by kernel_rfl)
 refine hK6 _ _ (wp_seq_k fun K7 hK7=>wp_seq_k fun K8 hK8=>wp_region_lit (wl (xL 33 5 0 (v:=iv rt_) hF hM fun a w hF hM=>xB 1 [(34,.bool (decide (rt_ < 1)))] hF fun a hF=>wpList_nil (hK8 _ _ ?_))))
 by_cases hz3:rt_ < 1
 ·replace hF:=hF.c hF (i:=34) (v:=.bool true) rfl (bT hz3)
  refine xT hF (wp_seq_k fun K9 hK9=>wp_region_lit (xB 1 [(35,.agg #[iv 0,iv 0])] hF fun a hF=>wl (xS 4 0 #[iv 0,iv 0] hF hM fun w hM=>xB 1 [(7,iv 4)] hF fun a hF=>wpList_nil (hK9 _ _ (wp_ret (hR0 _ _ (ret_of hF hM (.cell (i:=4) rfl rfl (v:=.agg #[iv 0,iv 0]) (by kernel_rfl) (.tmp rfl (.nil))) (⟨rfl,hM.bel⟩))))))))
 exact absurd (show ofRt ge cyc per (most * per)=rt_ by unfold ofRt; rw [hyv]; exact hrt) (by omega)
set_option maxHeartbeats 8000000 in
theorem of_some (A:Option Addr) (ge:List (Int × Int)) (gc:Nat) (cyc:Int) (per most:Int) (w0:World) (hA:Ro w0 A (flat2 ge)) (hpm:(1 ≤ per ∧ per ≤ 1000) ∧ 84 ≤ most ∧ most ≤ 1542) (hga:gaE ge cyc=0) (hr:1 ≤ ofRt ge cyc per (most * per)) :
    Calls Tryz.prog 5 #[.agg #[.slice A ge.length gc,iv cyc],iv per,iv most] w0 (OfS ge cyc per (most * per) (ofRt ge cyc per (most * per)) w0):=by
 have hgp:=(ga_p hga).2.2.1
 have hgs:=ga_pos hga
 have hs0:sumL ge 0=0:=rfl
 refine enterK 48 Tryz.func5 rfl rfl rfl ?_
 intro a hF Q0 hR0 hN0
 have hM:=Mem.start w0
 replace hM:=hM.addOld 1 hA (Nat.le_refl _)
 refine wp_seq_k fun K1 hK1=>wp_region_lit (wl (xN 3 2 (t:=29) (fun b=>.pointer (some ⟨b,0,none⟩)) #[.slice A ge.length gc,iv cyc] hF hM fun bb1 a w hF hM=>wl (xN 4 3 (t:=3) (fun b=>.pointer (some ⟨b,0,none⟩)) #[iv per] hF hM fun bb2 a w hF hM=>wl (xN 6 4 (t:=35) (fun b=>.pointer (some ⟨b,0,none⟩)) #[iv 0,iv 0] hF hM fun bb3 a w hF hM=>xB 1 [(7,iv 0)] hF fun a hF=>wpList_nil (hK1 _ _ (wp_seq_k fun K2 hK2=>wp_seq_k fun K3 hK3=>wp_region_lit (wl (xL 13 2 0 (v:=.agg #[.slice A ge.length gc,iv cyc]) hF hM fun a w hF hM=>?_))))))))
 refine wl (xL 14 3 0 (v:=iv per) hF hM fun a w hF hM=>xB 1 [(15,iv most)] hF fun a hF=>wl (xM 16 (v:=iv 0) hF hM (xC 11 #[.agg #[.slice A ge.length gc,iv cyc],iv per,iv most] hF (fun w hM=>by have:=srvCheck_w A ge gc cyc per most w (hM.ok 1 _ rfl) hpm; rw [hga] at this; exact this)) fun a w hF hM=>xB 1 [(8,iv 0)] hF fun a hF=>wpList_nil (hK3 _ _ (wp_seq_k fun K4 hK4=>wp_region_lit (xB 1 [(17,iv 0)] hF fun a hF=>wl (xP 18 (v0:=.bool (!decide (0=0))) (v:=.bool false) hF (nT (by omega)) fun a hF=>wpList_nil (hK4 _ _ ?_)))))))
 refine xF hF (wp_skip (hK2 _ _ (wp_seq_k fun K5 hK5=>wp_region_lit (xB 1 [(21,iv most)] hF fun a hF=>wl (xL 22 3 0 (v:=iv per) hF hM fun a w hF hM=>?_)))))
 have hz1:84 ≤ most * per ∧ most * per ≤ 1542000:=mul_bd (84) (1542) (1) (1000) (by omega) (by omega) (by omega) (by omega) (by decide)
 refine wl (xP 23 (v0:=.int .i64 (IntKind.i64.wrap (most * per))) (v:=iv (most * per)) hF (wi (by omega)) fun a hF=>xB 1 [(9,iv (most * per))] hF fun a hF=>wpList_nil (hK5 _ _ (wp_seq_k fun K6 hK6=>?_)))
 obtain ⟨yv_,hyv⟩:∃ z:Int,yofI ge cyc (most * per)=z:=⟨_,rfl⟩
 have hyb:=yof_bd (lost:=most * per) hga (by omega)
 rw [hyv] at hyb
 have hz2:1 ≤ cyc * per ∧ cyc * per ≤ 9600000000:=mul_bd (1) (9600000) (1) (1000) (by omega) (by omega) (by omega) (by omega) (by decide)
 obtain ⟨rt_,hrt⟩:∃ z:Int,yv_ * 1048576 / (cyc * per)=z:=⟨_,rfl⟩
 have hrb:=rt_bd hyb (by omega) (by omega) hrt
 refine rF (by kernel_rfl) (by kernel_rfl) (fun S a w=>∃ bb4:Nat,Fr 48 [(3,some (pt bb1 0)),(4,some (pt bb2 0)),(6,some (pt bb3 0)),(7,some (iv 0)),(9,some (iv (most * per))),(10,(cond (S.getD 9 false) (some (pt bb4 0)) none)),(24,(cond (S.getD 0 false) (some (.agg #[.slice A ge.length gc,iv cyc])) none)),(25,(cond (S.getD 1 false) (some (iv (most * per))) none)),(26,(cond (S.getD 2 false) (some (iv yv_)) none)),(27,(cond (S.getD 3 false) (some (iv (yv_ * 1048576))) none)),(28,(cond (S.getD 4 false) (some (pt bb1 1)) none)),(29,(cond (S.getD 5 false) (some (iv cyc)) none)),(30,(cond (S.getD 6 false) (some (iv per)) none)),(31,(cond (S.getD 7 false) (some (iv (cyc * per))) none)),(32,(cond (S.getD 8 false) (some (iv rt_)) none))] a ∧ Mem w0.heap.size w0 [(1,some (.ro A (flat2 ge))),(2,some (.row bb1 29 #[.slice A ge.length gc,iv cyc])),(3,some (.row bb2 3 #[iv per])),(4,some (.row bb3 35 #[iv 0,iv 0])),(5,(cond (S.getD 10 false) (some (.row bb4 3 #[iv rt_])) (cond (S.getD 9 false) (some (.row bb4 3 #[iv 0])) none)))] w) ?_ ?_ ?_
 ·exact ⟨0,hF.pk,hM.dk⟩
 ·refine stC ?_ (stC ?_ (stC ?_ (stC ?_ (stC ?_ (stC ?_ (stC ?_ (stC ?_ (stC ?_ (stC ?_ (stC ?_ (trivial)))))))))))
  ·intro s0 s1 s2 s3 s4 s5 s6 s7 s8 s9 s10 hc hi hp a w hS
   obtain rfl:s0=false:=hi
   obtain ⟨bb4,hF,hM⟩:=hS
   refine xL 24 2 0 (v:=.agg #[.slice A ge.length gc,iv cyc]) hF hM fun a w hF hM=>⟨bb4,hF.rc 6,hM.k⟩
  ·intro s0 s1 s2 s3 s4 s5 s6 s7 s8 s9 s10 hc hi hp a w hS
   obtain rfl:s1=false:=hi
   obtain ⟨bb4,hF,hM⟩:=hS
   refine xP 25 (v0:=iv (most * per)) (v:=iv (most * per)) hF rfl fun a hF=>⟨bb4,hF.rc 7,hM.k⟩
  ·intro s0 s1 s2 s3 s4 s5 s6 s7 s8 s9 s10 hc hi hp a w hS
   obtain rfl:s2=false:=hi
   obtain rfl:s1=true:=hp 1 (by kernel_rfl)
   obtain rfl:s0=true:=hp 0 (by kernel_rfl)
   obtain ⟨bb4,hF,hM⟩:=hS
   refine xM 26 (v:=iv yv_) hF hM (xC 12 #[.agg #[.slice A ge.length gc,iv cyc],iv (most * per)] hF (fun w hM=>by have:=yieldOf_w A ge gc cyc (most * per) w (hM.ok 1 _ rfl) hga (by omega); rw [hyv] at this; exact this)) fun a w hF hM=>⟨bb4,hF.rc 8,hM.k⟩
  ·intro s0 s1 s2 s3 s4 s5 s6 s7 s8 s9 s10 hc hi hp a w hS
   obtain rfl:s3=false:=hi
   obtain rfl:s2=true:=hp 2 (by kernel_rfl)
   obtain ⟨bb4,hF,hM⟩:=hS
   refine xP 27 (v0:=.int .i64 (IntKind.i64.wrap (yv_ * 1048576))) (v:=iv (yv_ * 1048576)) hF (wi (by omega)) fun a hF=>⟨bb4,hF.rc 9,hM.k⟩
  ·intro s0 s1 s2 s3 s4 s5 s6 s7 s8 s9 s10 hc hi hp a w hS
   obtain rfl:s4=false:=hi
   obtain ⟨bb4,hF,hM⟩:=hS
   refine xP 28 (v0:=pt bb1 1) (v:=pt bb1 1) hF rfl fun a hF=>⟨bb4,hF.rc 10,hM.k⟩
  ·intro s0 s1 s2 s3 s4 s5 s6 s7 s8 s9 s10 hc hi hp a w hS
   obtain rfl:s5=false:=hi
   obtain rfl:s4=true:=hp 4 (by kernel_rfl)
   obtain ⟨bb4,hF,hM⟩:=hS
   refine xL 29 2 1 (v:=iv cyc) hF hM fun a w hF hM=>⟨bb4,hF.rc 11,hM.k⟩
  ·intro s0 s1 s2 s3 s4 s5 s6 s7 s8 s9 s10 hc hi hp a w hS
   obtain rfl:s6=false:=hi
   obtain ⟨bb4,hF,hM⟩:=hS
   refine xL 30 3 0 (v:=iv per) hF hM fun a w hF hM=>⟨bb4,hF.rc 12,hM.k⟩
  ·intro s0 s1 s2 s3 s4 s5 s6 s7 s8 s9 s10 hc hi hp a w hS
   obtain rfl:s7=false:=hi
   obtain rfl:s6=true:=hp 6 (by kernel_rfl)
   obtain rfl:s5=true:=hp 5 (by kernel_rfl)
   obtain ⟨bb4,hF,hM⟩:=hS
   refine xP 31 (v0:=.int .i64 (IntKind.i64.wrap (cyc * per))) (v:=iv (cyc * per)) hF (wi (by omega)) fun a hF=>⟨bb4,hF.rc 13,hM.k⟩
  ·intro s0 s1 s2 s3 s4 s5 s6 s7 s8 s9 s10 hc hi hp a w hS
   obtain rfl:s8=false:=hi
   obtain rfl:s7=true:=hp 7 (by kernel_rfl)
   obtain rfl:s3=true:=hp 3 (by kernel_rfl)
   obtain ⟨bb4,hF,hM⟩:=hS
   refine xM 32 (v:=iv rt_) hF hM (yld_quo (yv_ * 1048576) (cyc * per) hF rfl (by kernel_rfl) (by kernel_rfl) (by kernel_rfl) (by omega) ((qpos_i64 (by omega) (by omega) (by omega)).trans hrt)) fun a w hF hM=>⟨bb4,hF.rc 14,hM.k⟩
  ·intro s0 s1 s2 s3 s4 s5 s6 s7 s8 s9 s10 hc hi hp a w hS
   obtain rfl:s9=false:=hi
   obtain rfl:s10=false:=hc.f 10 9 (by kernel_rfl) rfl
   obtain ⟨bb4,hF,hM⟩:=hS
   refine xN 10 5 (t:=3) (fun b=>.pointer (some ⟨b,0,none⟩)) #[iv 0] hF hM fun bb4 a w hF hM=>⟨bb4,hF.rc 5,hM.rc 4⟩
  intro s0 s1 s2 s3 s4 s5 s6 s7 s8 s9 s10 hc hi hp a w hS
  obtain rfl:s10=false:=hi
  obtain rfl:s9=true:=hp 9 (by kernel_rfl)
  obtain rfl:s8=true:=hp 8 (by kernel_rfl)
  obtain ⟨bb4,hF,hM⟩:=hS
  refine xS 5 0 #[iv rt_] hF hM fun w hM=>⟨bb4,hF.k,hM.rc 4⟩
 intro a w hS
 obtain ⟨bb4,hF,hM⟩:=hS
 replace hF:Fr 48 [(3,some (pt bb1 0)),(4,some (pt bb2 0)),(6,some (pt bb3 0)),(7,some (iv 0)),(9,some (iv (most * per))),(10,some (pt bb4 0)),(24,some (.agg #[.slice A ge.length gc,iv cyc])),(25,some (iv (most * per))),(26,some (iv yv_)),(27,some (iv (yv_ * 1048576))),(28,some (pt bb1 1)),(29,some (iv cyc)),(30,some (iv per)),(31,some (iv (cyc * per))),(32,some (iv rt_))] a:=hF.cast (by kernel_rfl)
 replace hM:Mem w0.heap.size w0 [(1,some (.ro A (flat2 ge))),(2,some (.row bb1 29 #[.slice A ge.length gc,iv cyc])),(3,some (.row bb2 3 #[iv per])),(4,some (.row bb3 35 #[iv 0,iv 0])),(5,some (.row bb4 3 #[iv rt_]))] w:=hM.cast (by kernel_rfl)
 refine hK6 _ _ (wp_seq_k fun K7 hK7=>wp_seq_k fun K8 hK8=>wp_region_lit (wl (xL 33 5 0 (v:=iv rt_) hF hM fun a w hF hM=>xB 1 [(34,.bool (decide (rt_ < 1)))] hF fun a hF=>wpList_nil (hK8 _ _ ?_))))
 by_cases hz3:rt_ < 1
 ·exact absurd (show ofRt ge cyc per (most * per)=rt_ by unfold ofRt; rw [hyv]; exact hrt) (by omega)
 replace hF:=hF.c hF (i:=34) (v:=.bool false) rfl (bF hz3)
 refine xF hF (wp_skip (hK7 _ _ (wp_seq_k fun K9 hK9=>?_)))
 have hr1:1 ≤ rt_ * per:=by have:=Int.mul_le_mul_of_nonneg_left (show 1 ≤ per by omega) (show 0 ≤ rt_ by omega); omega
 refine wp_region_lit (wl (xN 11 6 (t:=3) (fun b=>.pointer (some ⟨b,0,none⟩)) #[iv 0] hF hM fun bb5 a w hF hM=>?_))
 refine wl (xS 6 0 #[iv 0] hF hM fun w hM=>wpList_nil (hK9 _ _ (wp_seq_k fun K10 hK10=>wp_region_lit (xB 1 [(36,.func (.func 13) #[] #[pt bb5 0,pt bb4 0,pt bb2 0])] hF fun a hF=>wl (xN 12 7 (t:=68) (fun b=>.pointer (some ⟨b,0,none⟩)) #[.nilFunc] hF hM fun bb6 a w hF hM=>?_)))))
 refine wl (xS 7 0 #[.func (.func 13) #[] #[pt bb5 0,pt bb4 0,pt bb2 0]] hF hM fun w hM=>wpList_nil (hK10 _ _ (wp_seq_k fun K11 hK11=>wp_region_lit (wl (xL 37 7 0 (v:=.func (.func 13) #[] #[pt bb5 0,pt bb4 0,pt bb2 0]) hF hM fun a w hF hM=>wl (xL 38 3 0 (v:=iv per) hF hM fun a w hF hM=>wl (xP 39 (v0:=.int .i64 (IntKind.i64.wrap (-127 * per))) (v:=iv (-127 * per)) hF (wi (by omega)) fun a hF=>wl (sC (f:=13) (args:=#[iv 0,iv (-127 * per),pt bb5 0,pt bb4 0,pt bb2 0]) hF (by kernel_rfl) rfl (by decide) (by kernel_rfl) (fun _=>by kernel_rfl) (enterK 17 Tryz.func13 rfl rfl rfl ?_)))))))))
 intro a1 hF1 QR12 hR12 hNR12
 refine rT 10 (by kernel_rfl) (by kernel_rfl) hM.drew (xK 7 6 0 (v:=iv 0) hF1 fun a1 hF1=>xQ 8 (v0:=iv 0) (v:=iv 0) hF1 rfl fun a1 hF1=>xQ 9 (v0:=iv (-127 * per)) (v:=iv (-127 * per)) hF1 rfl fun a1 hF1=>xQ 10 (v0:=.int .i64 (IntKind.i64.wrap (-127 * per * 1048576))) (v:=iv (-127 * per * 1048576)) hF1 (wi (by omega)) fun a1 hF1=>xK 11 5 0 (v:=iv rt_) hF1 fun a1 hF1=>xK 12 3 0 (v:=iv per) hF1 fun a1 hF1=>xQ 13 (v0:=.int .i64 (IntKind.i64.wrap (rt_ * per))) (v:=iv (rt_ * per)) hF1 (wi (by omega)) fun a1 hF1=>?_)
 obtain ⟨fq2,hfq2⟩:∃ z:Int,-127 * per * 1048576 / (rt_ * per)=z:=⟨_,rfl⟩
 have hbfq2:-133169152000 ≤ fq2 ∧ fq2 ≤ 200000000000000000:=by rw [← hfq2]; have:=fd_bd (a:=-127 * per * 1048576) (b:=rt_ * per) (by omega); rcases Int.le_total 0 (-127 * per * 1048576) with z | z; (have:=this.1 z; omega); (have:=this.2 z; omega)
 refine xR 14 (v:=iv fq2) hF1 (xC 14 #[iv (-127 * per * 1048576),iv (rt_ * per)] hF1 (fun w hM=>by have:=floorDiv_w (-127 * per * 1048576) (rt_ * per) w (by omega); rw [hfq2] at this; exact this)) fun a1 hF1=>xQ 15 (v0:=.int .i64 (IntKind.i64.wrap (0 - fq2))) (v:=iv (0 - fq2)) hF1 (wi (by omega)) fun a1 hF1=>xQ 16 (v0:=.int .i64 (if 0 - fq2 > 0 then 0 - fq2 else 0)) (v:=iv (max 0 (0 - fq2))) hF1 (vi (max_if _ _)) fun a1 hF1=>wpQuiet_nil ?_
 intro w hM
 refine wl (xS 6 0 #[iv (max 0 (0 - fq2))] hF1 hM fun w hM=>wpList_nil (hNR12 _ _ (ret_ofN hF1 hM (.nil) ⟨_,rfl,?_⟩)))
 intro a hF
 refine wpList_nil (hK11 _ _ (wp_seq_k fun K13 hK13=>wp_region_lit (wl (xL 41 2 0 (v:=.agg #[.slice A ge.length gc,iv cyc]) hF hM fun a w hF hM=>xB 2 [(42,iv (most * per)),(43,.func (.func 16) #[] #[pt bb6 0,pt bb2 0])] hF fun a hF=>wl (sC (f:=15) (args:=#[.agg #[.slice A ge.length gc,iv cyc],iv (most * per),.func (.func 16) #[] #[pt bb6 0,pt bb2 0]]) hF (by kernel_rfl) rfl (by decide) (by kernel_rfl) (fun _=>by kernel_rfl) (enterKM 87 Tryz.func15 rfl rfl rfl ?_))))))
 intro a1 hF1 QR14 hR14 hNR14
 refine wp_seq_k fun K15 hK15=>wp_region_lit (wl (xN 3 8 (t:=29) (fun b=>.pointer (some ⟨b,0,none⟩)) #[.slice A ge.length gc,iv cyc] hF1 hM fun bb7 a1 w hF1 hM=>wpList_nil (hK15 _ _ (wp_seq_k fun K16 hK16=>wp_region_lit (wl (xN 6 9 (t:=111) (fun b=>.pointer (some ⟨b,0,none⟩)) #[.slice none 0 0] hF1 hM fun bb8 a1 w hF1 hM=>wpList_nil (hK16 _ _ (wp_seq_k fun K17 hK17=>wp_seq_k fun K18 hK18=>?_))))))))
 replace hM:=hM.addNil 10 110 2
 refine wp_region_lit (wl (xL 16 8 0 (v:=.agg #[.slice A ge.length gc,iv cyc]) hF1 hM fun a1 w hF1 hM=>wl (sC (f:=37) (args:=#[.agg #[.slice A ge.length gc,iv cyc]]) hF1 (by kernel_rfl) rfl (by decide) (by kernel_rfl) (fun _=>by kernel_rfl) (enterK 4 Tryz.func37 rfl rfl rfl ?_))))
 intro a2 hF2 QR19 hR19 hNR19
 refine wp_seq_k fun K20 hK20=>wp_region_lit (wl (xN 1 11 (t:=29) (fun b=>.pointer (some ⟨b,0,none⟩)) #[.slice A ge.length gc,iv cyc] hF2 hM fun bb9 a2 w hF2 hM=>xB 1 [(2,.nilFunc)] hF2 fun a2 hF2=>wpList_nil (hK20 _ _ (wp_seq_k fun K21 hK21=>wp_region_lit (xB 2 [(3,.func (.func 57) #[] #[pt bb9 0]),(2,.func (.func 57) #[] #[pt bb9 0])] hF2 fun a2 hF2=>wpList_nil (hK21 _ _ (wp_ret ?_)))))))
 refine hR19 _ _ (ret_of hF2 hM (.tmp rfl (.nil)) ⟨_,rfl,?_⟩)
 intro a1 hF1
 refine wpList_nil (hK18 _ _ (wp_block (rangeK (gf:=57) (lb:=#[pt bb9 0]) 9 12 13 hF1 hM (by kernel_rfl) (by kernel_rfl) (enters_of Tryz.func57 (by kernel_rfl) rfl) fun fn10 DD10 ll10 OO10 hO10 w hM=>enterKQ 90 Tryz.func57 rfl rfl rfl ?_)))
 intro a2 hF2 QR22 hR22 hNR22 hqR22
 refine wp_scope_straight (wp_seq_k fun K23 hK23=>wp_region_lit (xB 1 [(9,pt bb9 0)] hF2 fun a2 hF2=>wl (xL 10 11 0 (v:=.slice A ge.length gc) hF2 hM fun a2 w hF2 hM=>xB 2 [(11,iv (ge.length:Int)),(3,iv (ge.length:Int))] hF2 fun a2 hF2=>wpList_nil (hK23 _ _ (wp_seq_k fun K24 hK24=>wp_region_lit (xB 2 [(4,iv 0),(5,iv 0)] hF2 fun a2 hF2=>wpList_nil ?_))))))
 refine hK24 _ _ (wp_seq_k fun K25 hK25=>wp_block (wp_loop_k (G:=Nat) (fun gg a w=>Fr 90 [(4,some (iv (gg:Int))),(5,some (iv (sumL ge gg))),(0,some (.func (.yield ll10) #[] #[])),(1,some (pt bb9 0)),(3,some (iv (ge.length:Int)))] a ∧ Mem w0.heap.size w0 [(1,some (.ro A (flat2 ge))),(2,some (.row bb1 29 #[.slice A ge.length gc,iv cyc])),(3,some (.row bb2 3 #[iv per])),(4,some (.row bb3 35 #[iv 0,iv 0])),(5,some (.row bb4 3 #[iv rt_])),(6,some (.row bb5 3 #[iv (max 0 (0 - fq2))])),(7,some (.row bb6 68 #[.func (.func 13) #[] #[pt bb5 0,pt bb4 0,pt bb2 0]])),(8,some (.row bb7 29 #[.slice A ge.length gc,iv cyc])),(9,some (.row bb8 111 #[.slice none 0 0])),(10,some (.own (.slice none 0 0) 110 2 0 (flat2 ([]:List (Int × Int))))),(11,some (.row bb9 29 #[.slice A ge.length gc,iv cyc])),(12,some (.obj DD10 (.deferred (some [])))),(13,some (.obj ll10 (OO10 .ready none)))] w ∧ ((gg:Int) ≤ (ge.length:Int)) ∧ (∀ j,j < gg → oP ge j) ∧ (0 ≤ sumL ge gg) ∧ (sumL ge gg ≤ 9600000 * (gg:Int))) (fun gg=>ge.length - gg) (0) ?_ ?_))
 ·refine ⟨((((((Fr.nil hF2).c hF2 (i:=3) rfl rfl).c hF2 (i:=1) rfl rfl).c hF2 (i:=0) rfl rfl).c hF2 (i:=5) rfl (vi (show (0:Int)=sumL ge 0 from by omega))).c hF2 (i:=4) rfl (vi (show (0:Int)=(0:Int) from by omega))),(hM.sub (((((((((((((Sub.nil.c (k:=13) rfl rfl).c (k:=12) rfl rfl).c (k:=11) rfl rfl).c (k:=10) rfl rfl).c (k:=9) rfl rfl).c (k:=8) rfl rfl).c (k:=7) rfl rfl).c (k:=6) rfl rfl).c (k:=5) rfl rfl).c (k:=4) rfl rfl).c (k:=3) rfl rfl).c (k:=2) rfl rfl).c (k:=1) rfl rfl)),(show (0:Int) ≤ (ge.length:Int) from by omega),(show ∀ j,j < 0 → oP ge j from by exact fun j hj=>by omega),(show 0 ≤ sumL ge 0 from by omega),(show sumL ge 0 ≤ 9600000 * (0:Int) from by omega)⟩
 intro gg a2 w hI
 intro K26 hK26
 obtain ⟨k,rfl⟩:∃ x,x=gg:=⟨_,rfl⟩
 try dsimp only at hI hK26
 obtain ⟨hF2,hM,hz4,hz5,hz6,hz7⟩:=hI
 refine wp_seq_k fun K27 hK27=>wp_seq_k fun K28 hK28=>?_
 by_cases hz8:(k:Int) < (ge.length:Int)
 ·refine wp_region_lit (xB 2 [(12,iv (k:Int)),(13,iv (ge.length:Int))] hF2 fun a2 hF2=>wl (xP 14 (v0:=.bool (decide ((k:Int) < (ge.length:Int)))) (v:=.bool true) hF2 (bT hz8) fun a2 hF2=>xB 2 [(15,.bool true),(16,pt bb9 0)] hF2 fun a2 hF2=>wl (xL 17 11 0 (v:=.slice A ge.length gc) hF2 hM fun a2 w hF2 hM=>xB 1 [(18,iv (k:Int))] hF2 fun a2 hF2=>wl (xM 19 (v:=.pointer (some (ea A (k * 2)))) hF2 hM (yld_ix (kd:=.i64) (e:=31) (len:=ge.length) (cap:=gc) (i:=(k:Int)) (size:=2) (A:=A) hF2 rfl (by kernel_rfl) (by kernel_rfl) (by kernel_rfl) (by kernel_rfl) (by kernel_rfl) (roK 1 rfl) (by omega) (by omega) (by rw [flat2_length]; omega)) fun a2 w hF2 hM=>wl (xM 20 (v:=.agg #[iv (pr ge k).1,iv (pr ge k).2]) hF2 hM (yld_roM (A:=A) (j:=k * 2) (us:=[iv (pr ge k).1,iv (pr ge k).2]) hF2 rfl (by kernel_rfl) (by kernel_rfl) (roK 1 rfl) (by kernel_rfl) rfl (pr_both (k:=k) (by omega) (by omega))) fun a2 w hF2 hM=>?_)))))
  have:=hgp k (by omega)
  refine wl (xM 21 (v:=.bool (decide (oP ge k))) hF2 hM (xC 58 #[.agg #[iv (pr ge k).1,iv (pr ge k).2]] hF2 (fun w hM=>isOpen_w (pr ge k).1 (pr ge k).2 w (by omega))) fun a2 w hF2 hM=>xB 1 [(22,.bool (decide (oP ge k)))] hF2 fun a2 hF2=>wpList_nil (hK28 _ _ ?_))
  by_cases hz9:oP ge k
  ·replace hF2:=hF2.c hF2 (i:=21) (v:=.bool true) rfl (bT hz9)
   replace hF2:=hF2.c hF2 (i:=22) (v:=.bool true) rfl (bT hz9)
   refine xT hF2 (wp_skip (hK27 _ _ (wp_block (wp_seq_k fun K29 hK29=>wp_region_lit (xB 2 [(23,iv (sumL ge k)),(24,pt bb9 0)] hF2 fun a2 hF2=>wl (xL 25 11 0 (v:=.slice A ge.length gc) hF2 hM fun a2 w hF2 hM=>xB 1 [(26,iv (k:Int))] hF2 fun a2 hF2=>wl (xM 27 (v:=.pointer (some (ea A (k * 2)))) hF2 hM (yld_ix (kd:=.i64) (e:=31) (len:=ge.length) (cap:=gc) (i:=(k:Int)) (size:=2) (A:=A) hF2 rfl (by kernel_rfl) (by kernel_rfl) (by kernel_rfl) (by kernel_rfl) (by kernel_rfl) (roK 1 rfl) (by omega) (by omega) (by rw [flat2_length]; omega)) fun a2 w hF2 hM=>xB 1 [(28,.pointer (some (ea A (k * 2 + 1))))] hF2 fun a2 hF2=>wl (xM 29 (v:=iv (pr ge k).2) hF2 hM (yld_ro1 (A:=A) (j:=k * 2 + 1) hF2 rfl (by kernel_rfl) (by kernel_rfl) (roK 1 rfl) (by kernel_rfl) (pr_snd (k:=k) (by omega) (by omega))) fun a2 w hF2 hM=>?_))))))))
   have:=hgp k (by omega)
   refine wl (xP 30 (v0:=.int .i64 (IntKind.i64.wrap (sumL ge k + (pr ge k).2))) (v:=iv (sumL ge k + (pr ge k).2)) hF2 (wi (by omega)) fun a2 hF2=>xB 1 [(5,iv (sumL ge k + (pr ge k).2))] hF2 fun a2 hF2=>wpList_nil (hK29 _ _ (wp_region_lit (xB 1 [(31,iv (k:Int))] hF2 fun a2 hF2=>wl (xP 32 (v0:=.int .i64 (IntKind.i64.wrap ((k:Int) + 1))) (v:=iv ((k:Int) + 1)) hF2 (wi (by omega)) fun a2 hF2=>xB 1 [(4,iv ((k:Int) + 1))] hF2 fun a2 hF2=>wpList_nil ?_)))))
   have hsn:sumL ge (k + 1)=sumL ge k + (pr ge k).2:=rfl
   refine hK26 _ _ ⟨(k + 1),⟨((((((Fr.nil hF2).c hF2 (i:=3) rfl rfl).c hF2 (i:=1) rfl rfl).c hF2 (i:=0) rfl rfl).c hF2 (i:=5) rfl (vi (show (sumL ge k + (pr ge k).2:Int)=sumL ge (k + 1) from by omega))).c hF2 (i:=4) rfl (vi (show ((k:Int) + 1:Int)=((k + 1):Int) from by omega))),(hM.sub (((((((((((((Sub.nil.c (k:=13) rfl rfl).c (k:=12) rfl rfl).c (k:=11) rfl rfl).c (k:=10) rfl rfl).c (k:=9) rfl rfl).c (k:=8) rfl rfl).c (k:=7) rfl rfl).c (k:=6) rfl rfl).c (k:=5) rfl rfl).c (k:=4) rfl rfl).c (k:=3) rfl rfl).c (k:=2) rfl rfl).c (k:=1) rfl rfl)),(show ((k + 1):Int) ≤ (ge.length:Int) from by omega),(show ∀ j,j < (k + 1) → oP ge j from by exact fun j hj=>by by_cases e:j=k; (subst e; assumption); exact ‹∀ j,j < k → oP ge j› j (by omega)),(show 0 ≤ sumL ge (k + 1) from by omega),(show sumL ge (k + 1) ≤ 9600000 * ((k + 1):Int) from by omega)⟩,(show ge.length - (k + 1) < ge.length - k from by omega)⟩
  replace hF2:=hF2.c hF2 (i:=21) (v:=.bool false) rfl (bF hz9)
  replace hF2:=hF2.c hF2 (i:=22) (v:=.bool false) rfl (bF hz9)
  refine xF hF2 (wp_exit (hK25 _ _ (wp_seq_k fun K30 hK30=>wp_seq_k fun K31 hK31=>wp_region_lit (xB 2 [(33,iv (k:Int)),(34,iv (ge.length:Int))] hF2 fun a2 hF2=>wl (xP 35 (v0:=.bool (decide ((k:Int)=(ge.length:Int)))) (v:=.bool false) hF2 (bF (by omega)) fun a2 hF2=>wpList_nil (hK31 _ _ (xF hF2 (wp_skip ?_))))))))
  refine hK30 _ _ (wp_seq_k fun K32 hK32=>wp_region_lit (xB 2 [(36,iv (sumL ge k)),(37,pt bb9 0)] hF2 fun a2 hF2=>wl (xL 38 11 0 (v:=.slice A ge.length gc) hF2 hM fun a2 w hF2 hM=>xB 1 [(39,iv (k:Int))] hF2 fun a2 hF2=>wl (xM 40 (v:=.pointer (some (ea A (k * 2)))) hF2 hM (yld_ix (kd:=.i64) (e:=31) (len:=ge.length) (cap:=gc) (i:=(k:Int)) (size:=2) (A:=A) hF2 rfl (by kernel_rfl) (by kernel_rfl) (by kernel_rfl) (by kernel_rfl) (by kernel_rfl) (roK 1 rfl) (by omega) (by omega) (by rw [flat2_length]; omega)) fun a2 w hF2 hM=>xB 1 [(41,.pointer (some (ea A (k * 2 + 1))))] hF2 fun a2 hF2=>wl (xM 42 (v:=iv (pr ge k).2) hF2 hM (yld_ro1 (A:=A) (j:=k * 2 + 1) hF2 rfl (by kernel_rfl) (by kernel_rfl) (roK 1 rfl) (by kernel_rfl) (pr_snd (k:=k) (by omega) (by omega))) fun a2 w hF2 hM=>?_)))))
  have:=hgp k (by omega)
  refine wl (xP 43 (v0:=.int .i64 (IntKind.i64.wrap (sumL ge k + (pr ge k).2))) (v:=iv (sumL ge k + (pr ge k).2)) hF2 (wi (by omega)) fun a2 hF2=>xB 1 [(5,iv (sumL ge k + (pr ge k).2))] hF2 fun a2 hF2=>wpList_nil (hK32 _ _ (wp_seq_k fun K33 hK33=>wp_region_lit (wl (xN 6 14 (t:=110) (fun b=>.pointer (some ⟨b,0,none⟩)) #[iv 0,iv 0] hF2 hM fun bb11 a2 w hF2 hM=>wpList_nil (hK33 _ _ (wp_seq_k fun K34 hK34=>wp_label (hK34 _ _ ?_))))))))
  refine wp_seq_k fun K35 hK35=>wp_region_lit (xB 2 [(44,iv (ge.length:Int)),(45,iv 0)] hF2 fun a2 hF2=>wpList_nil (hK35 _ _ (wp_block ?_)))
  refine wp_loop_k (G:=Nat × Int × Int × Int × Nat × Option Addr × Nat × List (Int × Int)) (fun gg a w=>Fr 90 [(5,some (iv gg.2.2.2.1)),(45,some (iv (gg.1:Int))),(0,some (.func (.yield ll10) #[] #[])),(1,some (pt bb9 0)),(3,some (iv (ge.length:Int))),(4,some (iv (k:Int))),(6,some (pt bb11 0)),(44,some (iv (ge.length:Int)))] a ∧ Mem w0.heap.size w0 [(1,some (.ro A (flat2 ge))),(2,some (.row bb1 29 #[.slice A ge.length gc,iv cyc])),(3,some (.row bb2 3 #[iv per])),(4,some (.row bb3 35 #[iv 0,iv 0])),(5,some (.row bb4 3 #[iv rt_])),(6,some (.row bb5 3 #[iv (max 0 (0 - fq2))])),(7,some (.row bb6 68 #[.func (.func 13) #[] #[pt bb5 0,pt bb4 0,pt bb2 0]])),(8,some (.row bb7 29 #[.slice A ge.length gc,iv cyc])),(9,some (.row bb8 111 #[.slice gg.2.2.2.2.2.1 gg.2.2.2.2.1 gg.2.2.2.2.2.2.1])),(10,some (.own (.slice gg.2.2.2.2.2.1 gg.2.2.2.2.1 gg.2.2.2.2.2.2.1) 110 2 gg.2.2.2.2.1 (flat2 gg.2.2.2.2.2.2.2))),(11,some (.row bb9 29 #[.slice A ge.length gc,iv cyc])),(12,some (.obj DD10 (.deferred (some [])))),(13,some (.obj ll10 (OO10 .ready none))),(14,some (.row bb11 110 #[iv gg.2.1,iv gg.2.2.1]))] w ∧ ((gg.1:Int) ≤ (ge.length:Int)) ∧ (osF ge k gg.1=(gg.2.1,gg.2.2.1,gg.2.2.2.1)) ∧ (0 ≤ gg.2.2.1 ∧ gg.2.2.1 ≤ 9600000 * (gg.1:Int)) ∧ (0 ≤ gg.2.1 ∧ gg.2.1 ≤ 9600000 * 257) ∧ (0 ≤ gg.2.2.2.1) ∧ (gg.2.2.2.1 ≤ 9600000 * (k:Int) + 9600000 + 9600000 * (gg.1:Int)) ∧ (oeF ge k gg.1=gg.2.2.2.2.2.2.2) ∧ (gg.2.2.2.2.1=gg.2.2.2.2.2.2.2.length) ∧ ((gg.2.2.2.2.1:Int) ≤ (gg.1:Int)) ∧ (∀ q,q < gg.2.2.2.2.2.2.2.length → (0 ≤ (pr gg.2.2.2.2.2.2.2 q).1 ∧ (pr gg.2.2.2.2.2.2.2 q).1 ≤ 2467200000) ∧ 1 ≤ (pr gg.2.2.2.2.2.2.2 q).2 ∧ (pr gg.2.2.2.2.2.2.2 q).2 ≤ 1228800000)) (fun gg=>ge.length - gg.1) (0,0,0,sumL ge k + (pr ge k).2,0,none,0,[]) ?_ ?_
  ·refine ⟨(((((((((Fr.nil hF2).c hF2 (i:=44) rfl rfl).c hF2 (i:=6) rfl rfl).c hF2 (i:=4) rfl rfl).c hF2 (i:=3) rfl rfl).c hF2 (i:=1) rfl rfl).c hF2 (i:=0) rfl rfl).c hF2 (i:=45) rfl (vi (show (0:Int)=(0:Int) from by omega))).c hF2 (i:=5) rfl rfl),(hM.sub ((((((((((((((Sub.nil.c (k:=14) rfl rfl).c (k:=13) rfl rfl).c (k:=12) rfl rfl).c (k:=11) rfl rfl).c (k:=10) rfl rfl).c (k:=9) rfl rfl).c (k:=8) rfl rfl).c (k:=7) rfl rfl).c (k:=6) rfl rfl).c (k:=5) rfl rfl).c (k:=4) rfl rfl).c (k:=3) rfl rfl).c (k:=2) rfl rfl).c (k:=1) rfl rfl)),(show (0:Int) ≤ (ge.length:Int) from by omega),(show osF ge k 0=(0,0,(sumL ge k + (pr ge k).2)) from by rfl),(show 0 ≤ 0 ∧ 0 ≤ 9600000 * (0:Int) from by omega),(show 0 ≤ 0 ∧ 0 ≤ 9600000 * 257 from by omega),(show 0 ≤ (sumL ge k + (pr ge k).2) from by omega),(show (sumL ge k + (pr ge k).2) ≤ 9600000 * (k:Int) + 9600000 + 9600000 * (0:Int) from by omega),(show oeF ge k 0=([]) from by rfl),(show 0=([]).length from by rfl),(show (0:Int) ≤ (0:Int) from by omega),(show ∀ q,q < ([]).length → (0 ≤ (pr ([]) q).1 ∧ (pr ([]) q).1 ≤ 2467200000) ∧ 1 ≤ (pr ([]) q).2 ∧ (pr ([]) q).2 ≤ 1228800000 from by exact fun q hq=>absurd hq (Nat.not_lt_zero q))⟩
  intro gg a2 w hI
  intro K36 hK36
  obtain ⟨i,fr,lo,at_,ln,lA,lC,L⟩:=gg
  try dsimp only at hI hK36
  obtain ⟨hF2,hM,hz10,hz11,hz12,hz13,hz14,hz15,hz16,hz17,hz18,hz19⟩:=hI
  refine wp_seq_k fun K37 hK37=>wp_region_lit (xB 1 [(46,.bool (decide ((i:Int) < (ge.length:Int))))] hF2 fun a2 hF2=>wpList_nil (hK37 _ _ (wp_seq_k fun K38 hK38=>?_)))
  by_cases hz20:(i:Int) < (ge.length:Int)
  ·replace hF2:=hF2.c hF2 (i:=46) (v:=.bool true) rfl (bT hz20)
   refine xT hF2 (wp_skip (hK38 _ _ (wp_seq_k fun K39 hK39=>wp_block (wp_seq_k fun K40 hK40=>wp_region_lit (xB 2 [(47,iv (i:Int)),(7,iv (i:Int))] hF2 fun a2 hF2=>wpList_nil (hK40 _ _ (wp_seq_k fun K41 hK41=>?_)))))))
   obtain ⟨m_,hm_⟩:∃ z:Nat,(k + 1 + i) % ge.length=z:=⟨_,rfl⟩
   have hml:m_ < ge.length:=by rw [← hm_]; exact Nat.mod_lt _ (by omega)
   have:=hgp m_ (by omega)
   refine rF (by kernel_rfl) (by kernel_rfl) (fun S a w=>∃ bb12:Nat,Fr 90 [(0,some (.func (.yield ll10) #[] #[])),(1,some (pt bb9 0)),(3,some (iv (ge.length:Int))),(4,some (iv (k:Int))),(5,some (iv at_)),(6,some (pt bb11 0)),(7,some (iv (i:Int))),(8,(cond (S.getD 10 false) (some (pt bb12 0)) none)),(44,some (iv (ge.length:Int))),(45,some (iv (i:Int))),(48,(cond (S.getD 0 false) (some (pt bb9 0)) none)),(49,(cond (S.getD 1 false) (some (.slice A ge.length gc)) none)),(50,(cond (S.getD 2 false) (some (iv (k:Int))) none)),(51,(cond (S.getD 3 false) (some (iv ((k:Int) + 1))) none)),(52,(cond (S.getD 4 false) (some (iv (i:Int))) none)),(53,(cond (S.getD 5 false) (some (iv ((k:Int) + 1 + (i:Int)))) none)),(54,(cond (S.getD 6 false) (some (iv (ge.length:Int))) none)),(55,(cond (S.getD 7 false) (some (iv (m_:Int))) none)),(56,(cond (S.getD 8 false) (some (.pointer (some (ea A (m_ * 2))))) none)),(57,(cond (S.getD 9 false) (some (.agg #[iv (pr ge m_).1,iv (pr ge m_).2])) none))] a ∧ Mem w0.heap.size w0 [(1,some (.ro A (flat2 ge))),(2,some (.row bb1 29 #[.slice A ge.length gc,iv cyc])),(3,some (.row bb2 3 #[iv per])),(4,some (.row bb3 35 #[iv 0,iv 0])),(5,some (.row bb4 3 #[iv rt_])),(6,some (.row bb5 3 #[iv (max 0 (0 - fq2))])),(7,some (.row bb6 68 #[.func (.func 13) #[] #[pt bb5 0,pt bb4 0,pt bb2 0]])),(8,some (.row bb7 29 #[.slice A ge.length gc,iv cyc])),(9,some (.row bb8 111 #[.slice lA ln lC])),(10,some (.own (.slice lA ln lC) 110 2 ln (flat2 L))),(11,some (.row bb9 29 #[.slice A ge.length gc,iv cyc])),(12,some (.obj DD10 (.deferred (some [])))),(13,some (.obj ll10 (OO10 .ready none))),(14,some (.row bb11 110 #[iv fr,iv lo])),(15,(cond (S.getD 11 false) (some (.row bb12 31 #[iv (pr ge m_).1,iv (pr ge m_).2])) (cond (S.getD 10 false) (some (.row bb12 31 #[iv 0,iv 0])) none)))] w) ?_ ?_ ?_
   ·exact ⟨0,hF2.pk,hM.dk⟩
   ·refine stC ?_ (stC ?_ (stC ?_ (stC ?_ (stC ?_ (stC ?_ (stC ?_ (stC ?_ (stC ?_ (stC ?_ (stC ?_ (stC ?_ (trivial))))))))))))
    ·intro s0 s1 s2 s3 s4 s5 s6 s7 s8 s9 s10 s11 hc hi hp a w hS
     obtain rfl:s0=false:=hi
     obtain ⟨bb12,hF2,hM⟩:=hS
     refine xP 48 (v0:=pt bb9 0) (v:=pt bb9 0) hF2 rfl fun a2 hF2=>⟨bb12,hF2.rc 10,hM.k⟩
    ·intro s0 s1 s2 s3 s4 s5 s6 s7 s8 s9 s10 s11 hc hi hp a w hS
     obtain rfl:s1=false:=hi
     obtain rfl:s0=true:=hp 0 (by kernel_rfl)
     obtain ⟨bb12,hF2,hM⟩:=hS
     refine xL 49 11 0 (v:=.slice A ge.length gc) hF2 hM fun a2 w hF2 hM=>⟨bb12,hF2.rc 11,hM.k⟩
    ·intro s0 s1 s2 s3 s4 s5 s6 s7 s8 s9 s10 s11 hc hi hp a w hS
     obtain rfl:s2=false:=hi
     obtain ⟨bb12,hF2,hM⟩:=hS
     refine xP 50 (v0:=iv (k:Int)) (v:=iv (k:Int)) hF2 rfl fun a2 hF2=>⟨bb12,hF2.rc 12,hM.k⟩
    ·intro s0 s1 s2 s3 s4 s5 s6 s7 s8 s9 s10 s11 hc hi hp a w hS
     obtain rfl:s3=false:=hi
     obtain rfl:s2=true:=hp 2 (by kernel_rfl)
     obtain ⟨bb12,hF2,hM⟩:=hS
     refine xP 51 (v0:=.int .i64 (IntKind.i64.wrap ((k:Int) + 1))) (v:=iv ((k:Int) + 1)) hF2 (wi (by omega)) fun a2 hF2=>⟨bb12,hF2.rc 13,hM.k⟩
    ·intro s0 s1 s2 s3 s4 s5 s6 s7 s8 s9 s10 s11 hc hi hp a w hS
     obtain rfl:s4=false:=hi
     obtain ⟨bb12,hF2,hM⟩:=hS
     refine xP 52 (v0:=iv (i:Int)) (v:=iv (i:Int)) hF2 rfl fun a2 hF2=>⟨bb12,hF2.rc 14,hM.k⟩
    ·intro s0 s1 s2 s3 s4 s5 s6 s7 s8 s9 s10 s11 hc hi hp a w hS
     obtain rfl:s5=false:=hi
     obtain rfl:s4=true:=hp 4 (by kernel_rfl)
     obtain rfl:s3=true:=hp 3 (by kernel_rfl)
     obtain ⟨bb12,hF2,hM⟩:=hS
     refine xP 53 (v0:=.int .i64 (IntKind.i64.wrap ((k:Int) + 1 + (i:Int)))) (v:=iv ((k:Int) + 1 + (i:Int))) hF2 (wi (by omega)) fun a2 hF2=>⟨bb12,hF2.rc 15,hM.k⟩
    ·intro s0 s1 s2 s3 s4 s5 s6 s7 s8 s9 s10 s11 hc hi hp a w hS
     obtain rfl:s6=false:=hi
     obtain ⟨bb12,hF2,hM⟩:=hS
     refine xP 54 (v0:=iv (ge.length:Int)) (v:=iv (ge.length:Int)) hF2 rfl fun a2 hF2=>⟨bb12,hF2.rc 16,hM.k⟩
    ·intro s0 s1 s2 s3 s4 s5 s6 s7 s8 s9 s10 s11 hc hi hp a w hS
     obtain rfl:s7=false:=hi
     obtain rfl:s6=true:=hp 6 (by kernel_rfl)
     obtain rfl:s5=true:=hp 5 (by kernel_rfl)
     obtain ⟨bb12,hF2,hM⟩:=hS
     refine xM 55 (v:=iv (m_:Int)) hF2 hM (yld_rem ((k:Int) + 1 + (i:Int)) (ge.length:Int) hF2 rfl (by kernel_rfl) (by kernel_rfl) (by kernel_rfl) (by omega) ((show _=_ from by rw [show (k:Int) + 1 + (i:Int)=((k + 1 + i:Nat):Int) by omega,modC2,hm_]))) fun a2 w hF2 hM=>⟨bb12,hF2.rc 17,hM.k⟩
    ·intro s0 s1 s2 s3 s4 s5 s6 s7 s8 s9 s10 s11 hc hi hp a w hS
     obtain rfl:s8=false:=hi
     obtain rfl:s7=true:=hp 7 (by kernel_rfl)
     obtain rfl:s1=true:=hp 1 (by kernel_rfl)
     obtain ⟨bb12,hF2,hM⟩:=hS
     refine xM 56 (v:=.pointer (some (ea A (m_ * 2)))) hF2 hM (yld_ix (kd:=.i64) (e:=31) (len:=ge.length) (cap:=gc) (i:=(m_:Int)) (size:=2) (A:=A) hF2 rfl (by kernel_rfl) (by kernel_rfl) (by kernel_rfl) (by kernel_rfl) (by kernel_rfl) (roK 1 rfl) (by omega) (by omega) (by rw [flat2_length]; omega)) fun a2 w hF2 hM=>⟨bb12,hF2.rc 18,hM.k⟩
    ·intro s0 s1 s2 s3 s4 s5 s6 s7 s8 s9 s10 s11 hc hi hp a w hS
     obtain rfl:s9=false:=hi
     obtain rfl:s8=true:=hp 8 (by kernel_rfl)
     obtain ⟨bb12,hF2,hM⟩:=hS
     refine xM 57 (v:=.agg #[iv (pr ge m_).1,iv (pr ge m_).2]) hF2 hM (yld_roM (A:=A) (j:=m_ * 2) (us:=[iv (pr ge m_).1,iv (pr ge m_).2]) hF2 rfl (by kernel_rfl) (by kernel_rfl) (roK 1 rfl) (by kernel_rfl) rfl (pr_both (k:=m_) (by omega) (by omega))) fun a2 w hF2 hM=>⟨bb12,hF2.rc 19,hM.k⟩
    ·intro s0 s1 s2 s3 s4 s5 s6 s7 s8 s9 s10 s11 hc hi hp a w hS
     obtain rfl:s10=false:=hi
     obtain rfl:s11=false:=hc.f 11 10 (by kernel_rfl) rfl
     obtain ⟨bb12,hF2,hM⟩:=hS
     refine xN 8 15 (t:=31) (fun b=>.pointer (some ⟨b,0,none⟩)) #[iv 0,iv 0] hF2 hM fun bb12 a2 w hF2 hM=>⟨bb12,hF2.rc 7,hM.rc 14⟩
    intro s0 s1 s2 s3 s4 s5 s6 s7 s8 s9 s10 s11 hc hi hp a w hS
    obtain rfl:s11=false:=hi
    obtain rfl:s10=true:=hp 10 (by kernel_rfl)
    obtain rfl:s9=true:=hp 9 (by kernel_rfl)
    obtain ⟨bb12,hF2,hM⟩:=hS
    refine xS 15 0 #[iv (pr ge m_).1,iv (pr ge m_).2] hF2 hM fun w hM=>⟨bb12,hF2.k,hM.rc 14⟩
   intro a2 w hS
   obtain ⟨bb12,hF2,hM⟩:=hS
   replace hF2:Fr 90 [(0,some (.func (.yield ll10) #[] #[])),(1,some (pt bb9 0)),(3,some (iv (ge.length:Int))),(4,some (iv (k:Int))),(5,some (iv at_)),(6,some (pt bb11 0)),(7,some (iv (i:Int))),(8,some (pt bb12 0)),(44,some (iv (ge.length:Int))),(45,some (iv (i:Int))),(48,some (pt bb9 0)),(49,some (.slice A ge.length gc)),(50,some (iv (k:Int))),(51,some (iv ((k:Int) + 1))),(52,some (iv (i:Int))),(53,some (iv ((k:Int) + 1 + (i:Int)))),(54,some (iv (ge.length:Int))),(55,some (iv (m_:Int))),(56,some (.pointer (some (ea A (m_ * 2))))),(57,some (.agg #[iv (pr ge m_).1,iv (pr ge m_).2]))] a2:=hF2.cast (by kernel_rfl)
   replace hM:Mem w0.heap.size w0 [(1,some (.ro A (flat2 ge))),(2,some (.row bb1 29 #[.slice A ge.length gc,iv cyc])),(3,some (.row bb2 3 #[iv per])),(4,some (.row bb3 35 #[iv 0,iv 0])),(5,some (.row bb4 3 #[iv rt_])),(6,some (.row bb5 3 #[iv (max 0 (0 - fq2))])),(7,some (.row bb6 68 #[.func (.func 13) #[] #[pt bb5 0,pt bb4 0,pt bb2 0]])),(8,some (.row bb7 29 #[.slice A ge.length gc,iv cyc])),(9,some (.row bb8 111 #[.slice lA ln lC])),(10,some (.own (.slice lA ln lC) 110 2 ln (flat2 L))),(11,some (.row bb9 29 #[.slice A ge.length gc,iv cyc])),(12,some (.obj DD10 (.deferred (some [])))),(13,some (.obj ll10 (OO10 .ready none))),(14,some (.row bb11 110 #[iv fr,iv lo])),(15,some (.row bb12 31 #[iv (pr ge m_).1,iv (pr ge m_).2]))] w:=hM.cast (by kernel_rfl)
   refine hK41 _ _ (wp_seq_k fun K42 hK42=>wp_seq_k fun K43 hK43=>wp_region_lit (wl (xL 58 15 0 (v:=.agg #[iv (pr ge m_).1,iv (pr ge m_).2]) hF2 hM fun a2 w hF2 hM=>wl (xM 59 (v:=.bool (decide (oP ge m_))) hF2 hM (xC 58 #[.agg #[iv (pr ge m_).1,iv (pr ge m_).2]] hF2 (fun w hM=>isOpen_w (pr ge m_).1 (pr ge m_).2 w (by omega))) fun a2 w hF2 hM=>wpList_nil (hK43 _ _ ?_)))))
   by_cases hz21:oP ge m_
   ·replace hF2:=hF2.c hF2 (i:=59) (v:=.bool true) rfl (bT hz21)
    refine xT hF2 (wp_seq_k fun K44 hK44=>wp_seq_k fun K45 hK45=>wp_region_lit (xB 1 [(60,pt bb11 1)] hF2 fun a2 hF2=>wl (xL 61 14 1 (v:=iv lo) hF2 hM fun a2 w hF2 hM=>xB 1 [(62,.bool (decide (lo=0)))] hF2 fun a2 hF2=>wpList_nil (hK45 _ _ ?_))))
    by_cases hz22:lo=0
    ·replace hF2:=hF2.c hF2 (i:=62) (v:=.bool true) rfl (bT hz22)
     refine xT hF2 (wp_region_lit (xB 2 [(63,iv at_),(64,pt bb11 0)] hF2 fun a2 hF2=>wl (xS 14 0 #[iv at_,iv lo] hF2 hM fun w hM=>wpList_nil (hK44 _ _ (wp_seq_k fun K46 hK46=>wp_region_lit (xB 1 [(65,pt bb11 1)] hF2 fun a2 hF2=>wl (xL 66 14 1 (v:=iv lo) hF2 hM fun a2 w hF2 hM=>xB 1 [(67,pt bb12 1)] hF2 fun a2 hF2=>wl (xL 68 15 1 (v:=iv (pr ge m_).2) hF2 hM fun a2 w hF2 hM=>?_))))))))
     refine wl (xP 69 (v0:=.int .i64 (IntKind.i64.wrap (lo + (pr ge m_).2))) (v:=iv (lo + (pr ge m_).2)) hF2 (wi (by omega)) fun a2 hF2=>xB 1 [(70,pt bb11 1)] hF2 fun a2 hF2=>wl (xS 14 1 #[iv at_,iv (lo + (pr ge m_).2)] hF2 hM fun w hM=>wpList_nil (hK46 _ _ (wp_seq_k fun K47 hK47=>wp_region_lit (xB 2 [(71,iv at_),(72,pt bb12 1)] hF2 fun a2 hF2=>wl (xL 73 15 1 (v:=iv (pr ge m_).2) hF2 hM fun a2 w hF2 hM=>wl (xP 74 (v0:=.int .i64 (IntKind.i64.wrap (at_ + (pr ge m_).2))) (v:=iv (at_ + (pr ge m_).2)) hF2 (wi (by omega)) fun a2 hF2=>xB 1 [(5,iv (at_ + (pr ge m_).2))] hF2 fun a2 hF2=>wpList_nil ?_)))))))
     refine hK47 _ _ (wp_exit (hK39 _ _ (wp_region_lit (wl (xP 89 (v0:=.int .i64 (IntKind.i64.wrap ((i:Int) + 1))) (v:=iv ((i:Int) + 1)) hF2 (wi (by omega)) fun a2 hF2=>xB 1 [(45,iv ((i:Int) + 1))] hF2 fun a2 hF2=>wpList_nil ?_)))))
     have hox:=(os_open ‹osF ge k i=(fr,lo,at_)› hm_ (by assumption))
     have hoy:=hox.1
     first | rw [if_pos (by assumption)] at hoy | rw [if_neg (by assumption)] at hoy
     refine hK36 _ _ ⟨(i + 1,at_,lo + (pr ge m_).2,at_ + (pr ge m_).2,ln,lA,lC,L),⟨(((((((((Fr.nil hF2).c hF2 (i:=44) rfl rfl).c hF2 (i:=6) rfl rfl).c hF2 (i:=4) rfl rfl).c hF2 (i:=3) rfl rfl).c hF2 (i:=1) rfl rfl).c hF2 (i:=0) rfl rfl).c hF2 (i:=45) rfl (vi (show ((i:Int) + 1:Int)=((i + 1):Int) from by omega))).c hF2 (i:=5) rfl rfl),(hM.sub ((((((((((((((Sub.nil.c (k:=14) rfl rfl).c (k:=13) rfl rfl).c (k:=12) rfl rfl).c (k:=11) rfl rfl).c (k:=10) rfl rfl).c (k:=9) rfl rfl).c (k:=8) rfl rfl).c (k:=7) rfl rfl).c (k:=6) rfl rfl).c (k:=5) rfl rfl).c (k:=4) rfl rfl).c (k:=3) rfl rfl).c (k:=2) rfl rfl).c (k:=1) rfl rfl)),(show ((i + 1):Int) ≤ (ge.length:Int) from by omega),(show osF ge k (i + 1)=(at_,(lo + (pr ge m_).2),(at_ + (pr ge m_).2)) from by exact hoy),(show 0 ≤ (lo + (pr ge m_).2) ∧ (lo + (pr ge m_).2) ≤ 9600000 * ((i + 1):Int) from by omega),(show 0 ≤ at_ ∧ at_ ≤ 9600000 * 257 from by omega),(show 0 ≤ (at_ + (pr ge m_).2) from by omega),(show (at_ + (pr ge m_).2) ≤ 9600000 * (k:Int) + 9600000 + 9600000 * ((i + 1):Int) from by omega),(show oeF ge k (i + 1)=L from by rw [hox.2]; assumption),(show ln=L.length from by first | assumption | (rw [List.length_append]; (try simp only [List.length_cons,List.length_nil]); omega)),(show (ln:Int) ≤ ((i + 1):Int) from by omega),(show ∀ q,q < L.length → (0 ≤ (pr L q).1 ∧ (pr L q).1 ≤ 2467200000) ∧ 1 ≤ (pr L q).2 ∧ (pr L q).2 ≤ 1228800000 from by assumption)⟩,(show ge.length - (i + 1) < ge.length - i from by omega)⟩
    replace hF2:=hF2.c hF2 (i:=62) (v:=.bool false) rfl (bF hz22)
    refine xF hF2 (wp_skip (hK44 _ _ (wp_seq_k fun K48 hK48=>wp_region_lit (xB 1 [(65,pt bb11 1)] hF2 fun a2 hF2=>wl (xL 66 14 1 (v:=iv lo) hF2 hM fun a2 w hF2 hM=>xB 1 [(67,pt bb12 1)] hF2 fun a2 hF2=>wl (xL 68 15 1 (v:=iv (pr ge m_).2) hF2 hM fun a2 w hF2 hM=>wl (xP 69 (v0:=.int .i64 (IntKind.i64.wrap (lo + (pr ge m_).2))) (v:=iv (lo + (pr ge m_).2)) hF2 (wi (by omega)) fun a2 hF2=>xB 1 [(70,pt bb11 1)] hF2 fun a2 hF2=>wl (xS 14 1 #[iv fr,iv (lo + (pr ge m_).2)] hF2 hM fun w hM=>?_))))))))
    refine wpList_nil (hK48 _ _ (wp_seq_k fun K49 hK49=>wp_region_lit (xB 2 [(71,iv at_),(72,pt bb12 1)] hF2 fun a2 hF2=>wl (xL 73 15 1 (v:=iv (pr ge m_).2) hF2 hM fun a2 w hF2 hM=>wl (xP 74 (v0:=.int .i64 (IntKind.i64.wrap (at_ + (pr ge m_).2))) (v:=iv (at_ + (pr ge m_).2)) hF2 (wi (by omega)) fun a2 hF2=>xB 1 [(5,iv (at_ + (pr ge m_).2))] hF2 fun a2 hF2=>wpList_nil (hK49 _ _ (wp_exit (hK39 _ _ ?_))))))))
    refine wp_region_lit (wl (xP 89 (v0:=.int .i64 (IntKind.i64.wrap ((i:Int) + 1))) (v:=iv ((i:Int) + 1)) hF2 (wi (by omega)) fun a2 hF2=>xB 1 [(45,iv ((i:Int) + 1))] hF2 fun a2 hF2=>wpList_nil ?_))
    have hox:=(os_open ‹osF ge k i=(fr,lo,at_)› hm_ (by assumption))
    have hoy:=hox.1
    first | rw [if_pos (by assumption)] at hoy | rw [if_neg (by assumption)] at hoy
    refine hK36 _ _ ⟨(i + 1,fr,lo + (pr ge m_).2,at_ + (pr ge m_).2,ln,lA,lC,L),⟨(((((((((Fr.nil hF2).c hF2 (i:=44) rfl rfl).c hF2 (i:=6) rfl rfl).c hF2 (i:=4) rfl rfl).c hF2 (i:=3) rfl rfl).c hF2 (i:=1) rfl rfl).c hF2 (i:=0) rfl rfl).c hF2 (i:=45) rfl (vi (show ((i:Int) + 1:Int)=((i + 1):Int) from by omega))).c hF2 (i:=5) rfl rfl),(hM.sub ((((((((((((((Sub.nil.c (k:=14) rfl rfl).c (k:=13) rfl rfl).c (k:=12) rfl rfl).c (k:=11) rfl rfl).c (k:=10) rfl rfl).c (k:=9) rfl rfl).c (k:=8) rfl rfl).c (k:=7) rfl rfl).c (k:=6) rfl rfl).c (k:=5) rfl rfl).c (k:=4) rfl rfl).c (k:=3) rfl rfl).c (k:=2) rfl rfl).c (k:=1) rfl rfl)),(show ((i + 1):Int) ≤ (ge.length:Int) from by omega),(show osF ge k (i + 1)=(fr,(lo + (pr ge m_).2),(at_ + (pr ge m_).2)) from by exact hoy),(show 0 ≤ (lo + (pr ge m_).2) ∧ (lo + (pr ge m_).2) ≤ 9600000 * ((i + 1):Int) from by omega),(show 0 ≤ fr ∧ fr ≤ 9600000 * 257 from by omega),(show 0 ≤ (at_ + (pr ge m_).2) from by omega),(show (at_ + (pr ge m_).2) ≤ 9600000 * (k:Int) + 9600000 + 9600000 * ((i + 1):Int) from by omega),(show oeF ge k (i + 1)=L from by rw [hox.2]; assumption),(show ln=L.length from by first | assumption | (rw [List.length_append]; (try simp only [List.length_cons,List.length_nil]); omega)),(show (ln:Int) ≤ ((i + 1):Int) from by omega),(show ∀ q,q < L.length → (0 ≤ (pr L q).1 ∧ (pr L q).1 ≤ 2467200000) ∧ 1 ≤ (pr L q).2 ∧ (pr L q).2 ≤ 1228800000 from by assumption)⟩,(show ge.length - (i + 1) < ge.length - i from by omega)⟩
   replace hF2:=hF2.c hF2 (i:=59) (v:=.bool false) rfl (bF hz21)
   refine xF hF2 (wp_skip (hK42 _ _ (wp_seq_k fun K50 hK50=>wp_region_lit (xB 2 [(75,iv at_),(76,pt bb12 1)] hF2 fun a2 hF2=>wl (xL 77 15 1 (v:=iv (pr ge m_).2) hF2 hM fun a2 w hF2 hM=>wl (xP 78 (v0:=.int .i64 (IntKind.i64.wrap (at_ + (pr ge m_).2))) (v:=iv (at_ + (pr ge m_).2)) hF2 (wi (by omega)) fun a2 hF2=>xB 1 [(5,iv (at_ + (pr ge m_).2))] hF2 fun a2 hF2=>wpList_nil (hK50 _ _ (wp_seq_k fun K51 hK51=>?_))))))))
   refine wp_seq_k fun K52 hK52=>?_
   by_cases hz23:0 < lo
   ·refine (wpIn_wide (n:=9)).1 (wpR_region (wr (xP 79 (v0:=pt bb11 1) (v:=pt bb11 1) hF2 rfl fun a2 hF2=>wr (xL 80 14 1 (v:=iv lo) hF2 hM fun a2 w hF2 hM=>wr (xP 81 (v0:=.bool (decide (0 < lo))) (v:=.bool true) hF2 (bT hz23) fun a2 hF2=>wr (xP 82 (v0:=.bool true) (v:=.bool true) hF2 rfl fun a2 hF2=>wr (xP 83 (v0:=.func (.yield ll10) #[] #[]) (v:=.func (.yield ll10) #[] #[]) hF2 rfl fun a2 hF2=>wr (xL 84 14 0 (v:=.agg #[iv fr,iv lo]) hF2 hM fun a2 w hF2 hM=>sYield (n:=90) (d:=85) (args:=#[.agg #[iv fr,iv lo]]) 13 hF2 OO10 hO10 hM (by kernel_rfl) rfl (by decide) (by kernel_rfl) rfl (fun _=>by kernel_rfl) rfl rfl fun KB53 QB53 hB53 hBn53 hBe53 hBr53 hqB53=>?_) hqR22 rfl) hqR22 rfl) hqR22 rfl) hqR22 rfl) hqR22 rfl) hqR22 rfl))
    have hF3:=hF1.round1 (p:=18) (by decide) (.agg #[iv fr,iv lo])
    refine wpR_region (wr (xN 7 16 (t:=110) (fun b=>.pointer (some ⟨b,0,none⟩)) #[iv 0,iv 0] hF3 hM fun bb13 a3 w hF3 hM=>?_) (fun ⟨_,_,h⟩=>h) rfl)
    refine wr (xS 16 0 #[iv fr,iv lo] hF3 hM fun w hM=>wpLi_nil (hB53 _ _ _ hM rfl fun w hM=>wpIn_block (wpR_region (wr (xL 19 9 0 (v:=.slice lA ln lC) hF3 hM fun a3 w hF3 hM=>wr (xL 20 16 0 (v:=.agg #[iv fr,iv lo]) hF3 hM fun a3 w hF3 hM=>wr (xN 21 17 (t:=110) (fun b=>.slice (some ⟨b,0,none⟩) 1 1) #[iv fr,iv lo] hF3 hM fun bb14 a3 w hF3 hM=>wr (sApp 22 10 (e:=110) (size:=2) (bytes:=16) (z:=.agg #[iv 0,iv 0]) (m:=1) (c:=1) (l:=ln) (cap:=lC) (A:=lA) (news:=[iv fr,iv lo]) (flat2 (L ++ [(fr,lo)])) hF3 hM (by kernel_rfl) rfl (by kernel_rfl) (by kernel_rfl) (by kernel_rfl) rfl rfl rfl rfl (roR 17 rfl) (by simp [Value.oneCell']) (by omega) (by decide) (flat2_snoc' _ _ _) fun AA15 cc15 a3 w hF3 hM=>?_) hqB53 rfl) hqB53 rfl) hqB53 rfl) hqB53 rfl)))) (fun ⟨_,_,h⟩=>h) rfl
    refine wr (xS 9 0 #[.slice AA15 (ln + 1) cc15] hF3 hM fun w hM=>wpLi_nil (hBn53 _ _ _ hM rfl fun a2 w hF2 hM=>wr (xP 86 (v0:=.bool false) (v:=.bool false) hF2 rfl fun a2 hF2=>wr (xP 87 (v0:=.bool false) (v:=.bool false) hF2 rfl fun a2 hF2=>wpLi_nil (hK52 _ _ (xF hF2 (wp_skip (hK51 _ _ (wp_region_lit (xB 1 [(88,.agg #[iv 0,iv 0])] hF2 fun a2 hF2=>?_))))))) hqR22 rfl) hqR22 rfl)) hqB53 rfl
    refine wl (xS 14 0 #[iv 0,iv 0] hF2 hM fun w hM=>wpList_nil (hK39 _ _ (wp_region_lit (wl (xP 89 (v0:=.int .i64 (IntKind.i64.wrap ((i:Int) + 1))) (v:=iv ((i:Int) + 1)) hF2 (wi (by omega)) fun a2 hF2=>xB 1 [(45,iv ((i:Int) + 1))] hF2 fun a2 hF2=>wpList_nil ?_)))))
    have hox:=(os_shut ‹osF ge k i=(fr,lo,at_)› hm_ (by assumption))
    refine hK36 _ _ ⟨(i + 1,0,0,at_ + (pr ge m_).2,ln + 1,AA15,cc15,L ++ [(fr,lo)]),⟨(((((((((Fr.nil hF2).c hF2 (i:=44) rfl rfl).c hF2 (i:=6) rfl rfl).c hF2 (i:=4) rfl rfl).c hF2 (i:=3) rfl rfl).c hF2 (i:=1) rfl rfl).c hF2 (i:=0) rfl rfl).c hF2 (i:=45) rfl (vi (show ((i:Int) + 1:Int)=((i + 1):Int) from by omega))).c hF2 (i:=5) rfl rfl),(hM.sub ((((((((((((((Sub.nil.c (k:=14) rfl rfl).c (k:=13) rfl rfl).c (k:=12) rfl rfl).c (k:=11) rfl rfl).c (k:=10) rfl rfl).c (k:=9) rfl rfl).c (k:=8) rfl rfl).c (k:=7) rfl rfl).c (k:=6) rfl rfl).c (k:=5) rfl rfl).c (k:=4) rfl rfl).c (k:=3) rfl rfl).c (k:=2) rfl rfl).c (k:=1) rfl rfl)),(show ((i + 1):Int) ≤ (ge.length:Int) from by omega),(show osF ge k (i + 1)=(0,0,(at_ + (pr ge m_).2)) from by exact hox.1),(show 0 ≤ 0 ∧ 0 ≤ 9600000 * ((i + 1):Int) from by omega),(show 0 ≤ 0 ∧ 0 ≤ 9600000 * 257 from by omega),(show 0 ≤ (at_ + (pr ge m_).2) from by omega),(show (at_ + (pr ge m_).2) ≤ 9600000 * (k:Int) + 9600000 + 9600000 * ((i + 1):Int) from by omega),(show oeF ge k (i + 1)=(L ++ [(fr,lo)]) from by rw [hox.2.1 (by assumption)]; rw [‹oeF ge k i=L›]),(show (ln + 1)=(L ++ [(fr,lo)]).length from by first | assumption | (rw [List.length_append]; (try simp only [List.length_cons,List.length_nil]); omega)),(show ((ln + 1):Int) ≤ ((i + 1):Int) from by omega),(show ∀ q,q < (L ++ [(fr,lo)]).length → (0 ≤ (pr (L ++ [(fr,lo)]) q).1 ∧ (pr (L ++ [(fr,lo)]) q).1 ≤ 2467200000) ∧ 1 ≤ (pr (L ++ [(fr,lo)]) q).2 ∧ (pr (L ++ [(fr,lo)]) q).2 ≤ 1228800000 from by exact lb_app (by assumption) (by omega) (by omega))⟩,(show ge.length - (i + 1) < ge.length - i from by omega)⟩
   refine (wpIn_wide (n:=9)).1 (wpR_region (wr (xP 79 (v0:=pt bb11 1) (v:=pt bb11 1) hF2 rfl fun a2 hF2=>wr (xL 80 14 1 (v:=iv lo) hF2 hM fun a2 w hF2 hM=>wr (xP 81 (v0:=.bool (decide (0 < lo))) (v:=.bool false) hF2 (bF hz23) fun a2 hF2=>wr (xP 82 (v0:=.bool false) (v:=.bool false) hF2 rfl fun a2 hF2=>wr (sSkip hF2 (by kernel_rfl) rfl (by decide) fun a2 hF2=>wr (sSkip hF2 (by kernel_rfl) rfl (by decide) fun a2 hF2=>wr (sSkip hF2 (by kernel_rfl) rfl (by decide) fun a2 hF2=>wr (sSkip hF2 (by kernel_rfl) rfl (by decide) fun a2 hF2=>wr (xP 87 (v0:=.bool false) (v:=.bool false) hF2 rfl fun a2 hF2=>wpLi_nil (hK52 _ _ ?_)) hqR22 rfl) hqR22 rfl) hqR22 rfl) hqR22 rfl) hqR22 rfl) hqR22 rfl) hqR22 rfl) hqR22 rfl) hqR22 rfl))
   refine xF hF2 (wp_skip (hK51 _ _ (wp_region_lit (xB 1 [(88,.agg #[iv 0,iv 0])] hF2 fun a2 hF2=>wl (xS 14 0 #[iv 0,iv 0] hF2 hM fun w hM=>wpList_nil (hK39 _ _ (wp_region_lit (wl (xP 89 (v0:=.int .i64 (IntKind.i64.wrap ((i:Int) + 1))) (v:=iv ((i:Int) + 1)) hF2 (wi (by omega)) fun a2 hF2=>xB 1 [(45,iv ((i:Int) + 1))] hF2 fun a2 hF2=>wpList_nil ?_)))))))))
   have hox:=(os_shut ‹osF ge k i=(fr,lo,at_)› hm_ (by assumption))
   refine hK36 _ _ ⟨(i + 1,0,0,at_ + (pr ge m_).2,ln,lA,lC,L),⟨(((((((((Fr.nil hF2).c hF2 (i:=44) rfl rfl).c hF2 (i:=6) rfl rfl).c hF2 (i:=4) rfl rfl).c hF2 (i:=3) rfl rfl).c hF2 (i:=1) rfl rfl).c hF2 (i:=0) rfl rfl).c hF2 (i:=45) rfl (vi (show ((i:Int) + 1:Int)=((i + 1):Int) from by omega))).c hF2 (i:=5) rfl rfl),(hM.sub ((((((((((((((Sub.nil.c (k:=14) rfl rfl).c (k:=13) rfl rfl).c (k:=12) rfl rfl).c (k:=11) rfl rfl).c (k:=10) rfl rfl).c (k:=9) rfl rfl).c (k:=8) rfl rfl).c (k:=7) rfl rfl).c (k:=6) rfl rfl).c (k:=5) rfl rfl).c (k:=4) rfl rfl).c (k:=3) rfl rfl).c (k:=2) rfl rfl).c (k:=1) rfl rfl)),(show ((i + 1):Int) ≤ (ge.length:Int) from by omega),(show osF ge k (i + 1)=(0,0,(at_ + (pr ge m_).2)) from by exact hox.1),(show 0 ≤ 0 ∧ 0 ≤ 9600000 * ((i + 1):Int) from by omega),(show 0 ≤ 0 ∧ 0 ≤ 9600000 * 257 from by omega),(show 0 ≤ (at_ + (pr ge m_).2) from by omega),(show (at_ + (pr ge m_).2) ≤ 9600000 * (k:Int) + 9600000 + 9600000 * ((i + 1):Int) from by omega),(show oeF ge k (i + 1)=L from by rw [hox.2.2 (by omega)]; assumption),(show ln=L.length from by first | assumption | (rw [List.length_append]; (try simp only [List.length_cons,List.length_nil]); omega)),(show (ln:Int) ≤ ((i + 1):Int) from by omega),(show ∀ q,q < L.length → (0 ≤ (pr L q).1 ∧ (pr L q).1 ≤ 2467200000) ∧ 1 ≤ (pr L q).2 ∧ (pr L q).2 ≤ 1228800000 from by assumption)⟩,(show ge.length - (i + 1) < ge.length - i from by omega)⟩
  replace hF2:=hF2.c hF2 (i:=46) (v:=.bool false) rfl (bF hz20)
  refine xF hF2 (wp_exit (hNR22 _ _ (ret_ofN hF2 hM (.nil) (rangeEnd (kl:=13) OO10 hO10 hM rfl (by decide) fun w hM=>?_))))
  replace hF1:=hF1.defer { target:=.collected DD10,args:=#[] }
  refine hK17 _ _ (wp_seq_k fun K54 hK54=>wp_region_lit (wl (xL 23 9 0 (v:=.slice lA ln lC) hF1 hM fun a1 w hF1 hM=>xB 2 [(24,iv (ln:Int)),(8,iv (ln:Int))] hF1 fun a1 hF1=>wpList_nil (hK54 _ _ (wp_seq_k fun K55 hK55=>wp_region_lit (wl (xL 25 9 0 (v:=.slice lA ln lC) hF1 hM fun a1 w hF1 hM=>xB 2 [(26,iv (ln:Int)),(27,iv 0)] hF1 fun a1 hF1=>wpList_nil ?_)))))))
  refine hK55 _ _ (wp_block (wp_loop_k (G:=Nat × Int) (fun gg a w=>Fr (⟨87,[{ target:=.collected DD10,args:=#[] }]⟩:NF) [(27,some (iv (gg.1:Int))),(1,some (iv (most * per))),(2,some (.func (.func 16) #[] #[pt bb6 0,pt bb2 0])),(3,some (pt bb7 0)),(6,some (pt bb8 0)),(8,some (iv (ln:Int))),(25,some (.slice lA ln lC)),(26,some (iv (ln:Int)))] a ∧ Mem w0.heap.size w0 [(1,some (.ro A (flat2 ge))),(2,some (.row bb1 29 #[.slice A ge.length gc,iv cyc])),(3,some (.row bb2 3 #[iv per])),(4,some (.row bb3 35 #[iv 0,iv 0])),(5,some (.row bb4 3 #[iv rt_])),(6,some (.row bb5 3 #[iv gg.2])),(7,some (.row bb6 68 #[.func (.func 13) #[] #[pt bb5 0,pt bb4 0,pt bb2 0]])),(8,some (.row bb7 29 #[.slice A ge.length gc,iv cyc])),(9,some (.row bb8 111 #[.slice lA ln lC])),(10,some (.own (.slice lA ln lC) 110 2 ln (flat2 L))),(12,some (.obj DD10 (.deferred (some [])))),(13,some (.obj ll10 (OO10 .exhausted none)))] w ∧ ((gg.1:Int) ≤ (ln:Int)) ∧ (0 ≤ gg.2) ∧ (gg.2 ≤ 1000000000000) ∧ (lt0 per (rt_ * per) ≤ gg.2) ∧ (∀ i_ k_,i_ < gg.1 → k_ < L.length → lvI L cyc per (most * per) (rt_ * per) i_ k_ ≤ gg.2) ∧ (inI L cyc per (most * per) (rt_ * per) gg.2)) (fun gg=>ln - gg.1) (0,max 0 (0 - fq2)) ?_ ?_))
  ·refine ⟨(((((((((Fr.nil hF1).c hF1 (i:=26) rfl rfl).c hF1 (i:=25) rfl rfl).c hF1 (i:=8) rfl rfl).c hF1 (i:=6) rfl rfl).c hF1 (i:=3) rfl rfl).c hF1 (i:=2) rfl rfl).c hF1 (i:=1) rfl rfl).c hF1 (i:=27) rfl (vi (show (0:Int)=(0:Int) from by omega))),(hM.sub ((((((((((((Sub.nil.c (k:=13) rfl rfl).c (k:=12) rfl rfl).c (k:=10) rfl rfl).c (k:=9) rfl rfl).c (k:=8) rfl rfl).c (k:=7) rfl rfl).c (k:=6) rfl rfl).c (k:=5) rfl rfl).c (k:=4) rfl rfl).c (k:=3) rfl rfl).c (k:=2) rfl rfl).c (k:=1) rfl rfl)),(show (0:Int) ≤ (ln:Int) from by omega),(show 0 ≤ (max 0 (0 - fq2)) from by omega),(show (max 0 (0 - fq2)) ≤ 1000000000000 from by omega),(show lt0 per (rt_ * per) ≤ (max 0 (0 - fq2)) from by unfold lt0; omega),(show ∀ i_ k_,i_ < 0 → k_ < L.length → lvI L cyc per (most * per) (rt_ * per) i_ k_ ≤ (max 0 (0 - fq2)) from by exact fun i_ k_ h=>absurd h (Nat.not_lt_zero i_)),(show inI L cyc per (most * per) (rt_ * per) (max 0 (0 - fq2)) from by exact .inl (by unfold lt0; omega))⟩
  intro gg a1 w hI
  intro K56 hK56
  obtain ⟨iq,lt⟩:=gg
  try dsimp only at hI hK56
  obtain ⟨hF1,hM,hz24,hz25,hz26,hz27,hz28,hz29⟩:=hI
  refine wp_seq_k fun K57 hK57=>wp_region_lit (xB 1 [(28,.bool (decide ((iq:Int) < (ln:Int))))] hF1 fun a1 hF1=>wpList_nil (hK57 _ _ (wp_seq_k fun K58 hK58=>?_)))
  by_cases hz30:(iq:Int) < (ln:Int)
  ·replace hF1:=hF1.c hF1 (i:=28) (v:=.bool true) rfl (bT hz30)
   refine xT hF1 (wp_skip (hK58 _ _ (wp_seq_k fun K59 hK59=>wp_block (wp_seq_k fun K60 hK60=>wp_region_lit (xB 1 [(29,iv (iq:Int))] hF1 fun a1 hF1=>wl (xM 30 (v:=.pointer (some (ea lA (iq * 2)))) hF1 hM (yld_ix (kd:=.i64) (e:=110) (len:=ln) (cap:=lC) (i:=(iq:Int)) (size:=2) (A:=lA) hF1 rfl (by kernel_rfl) (by kernel_rfl) (by kernel_rfl) (by kernel_rfl) (by kernel_rfl) (roO 10 rfl) (by omega) (by omega) (by rw [flat2_length]; omega)) fun a1 w hF1 hM=>wl (xM 31 (v:=.agg #[iv (pr L iq).1,iv (pr L iq).2]) hF1 hM (yld_roM (A:=lA) (j:=iq * 2) (us:=[iv (pr L iq).1,iv (pr L iq).2]) hF1 rfl (by kernel_rfl) (by kernel_rfl) (roO 10 rfl) (by kernel_rfl) rfl (pr_both (k:=iq) (by omega) (by omega))) fun a1 w hF1 hM=>?_)))))))
   have:=(‹∀ q,q < L.length → (0 ≤ (pr L q).1 ∧ (pr L q).1 ≤ 2467200000) ∧ 1 ≤ (pr L q).2 ∧ (pr L q).2 ≤ 1228800000›:_) iq (by omega)
   refine wl (xN 10 18 (t:=110) (fun b=>.pointer (some ⟨b,0,none⟩)) #[iv 0,iv 0] hF1 hM fun bb16 a1 w hF1 hM=>xB 1 [(9,iv (iq:Int))] hF1 fun a1 hF1=>?_)
   refine wl (xS 18 0 #[iv (pr L iq).1,iv (pr L iq).2] hF1 hM fun w hM=>wpList_nil (hK60 _ _ (wp_seq_k fun K61 hK61=>wp_region_lit (xB 1 [(32,pt bb16 0)] hF1 fun a1 hF1=>wl (xL 33 18 0 (v:=iv (pr L iq).1) hF1 hM fun a1 w hF1 hM=>xB 1 [(34,pt bb16 1)] hF1 fun a1 hF1=>wl (xL 35 18 1 (v:=iv (pr L iq).2) hF1 hM fun a1 w hF1 hM=>wl (xP 36 (v0:=.int .i64 (IntKind.i64.wrap ((pr L iq).1 + (pr L iq).2))) (v:=iv ((pr L iq).1 + (pr L iq).2)) hF1 (wi (by omega)) fun a1 hF1=>xB 2 [(37,iv (most * per)),(38,pt bb16 1)] hF1 fun a1 hF1=>wl (xL 39 18 1 (v:=iv (pr L iq).2) hF1 hM fun a1 w hF1 hM=>?_))))))))
   refine wl (xP 40 (v0:=.int .i64 (if (pr L iq).2 < most * per then (pr L iq).2 else most * per)) (v:=iv (min (most * per) (pr L iq).2)) hF1 (vi (min_if _ _)) fun a1 hF1=>wl (xP 41 (v0:=.int .i64 (IntKind.i64.wrap ((pr L iq).1 + (pr L iq).2 - min (most * per) (pr L iq).2))) (v:=iv ((pr L iq).1 + (pr L iq).2 - min (most * per) (pr L iq).2)) hF1 (wi (by omega)) fun a1 hF1=>xB 1 [(11,iv ((pr L iq).1 + (pr L iq).2 - min (most * per) (pr L iq).2))] hF1 fun a1 hF1=>wpList_nil (hK61 _ _ (wp_seq_k fun K62 hK62=>wp_region_lit (xB 1 [(12,iv 0)] hF1 fun a1 hF1=>wpList_nil (hK62 _ _ (wp_seq_k fun K63 hK63=>wp_region_lit ?_)))))))
   refine xB 2 [(42,iv (ln:Int)),(43,iv 0)] hF1 fun a1 hF1=>wpList_nil (hK63 _ _ (wp_block (wp_loop_k (G:=Nat × Int × Int) (fun gg a w=>Fr (⟨87,[{ target:=.collected DD10,args:=#[] }]⟩:NF) [(12,some (iv gg.2.1)),(43,some (iv (gg.1:Int))),(1,some (iv (most * per))),(2,some (.func (.func 16) #[] #[pt bb6 0,pt bb2 0])),(3,some (pt bb7 0)),(6,some (pt bb8 0)),(8,some (iv (ln:Int))),(9,some (iv (iq:Int))),(11,some (iv ((pr L iq).1 + (pr L iq).2 - min (most * per) (pr L iq).2))),(25,some (.slice lA ln lC)),(26,some (iv (ln:Int))),(27,some (iv (iq:Int))),(42,some (iv (ln:Int)))] a ∧ Mem w0.heap.size w0 [(1,some (.ro A (flat2 ge))),(2,some (.row bb1 29 #[.slice A ge.length gc,iv cyc])),(3,some (.row bb2 3 #[iv per])),(4,some (.row bb3 35 #[iv 0,iv 0])),(5,some (.row bb4 3 #[iv rt_])),(6,some (.row bb5 3 #[iv gg.2.2])),(7,some (.row bb6 68 #[.func (.func 13) #[] #[pt bb5 0,pt bb4 0,pt bb2 0]])),(8,some (.row bb7 29 #[.slice A ge.length gc,iv cyc])),(9,some (.row bb8 111 #[.slice lA ln lC])),(10,some (.own (.slice lA ln lC) 110 2 ln (flat2 L))),(12,some (.obj DD10 (.deferred (some [])))),(13,some (.obj ll10 (OO10 .exhausted none)))] w ∧ ((gg.1:Int) ≤ (ln:Int)) ∧ (snI L (most * per) iq gg.1=gg.2.1) ∧ (0 ≤ gg.2.1) ∧ (gg.2.1 ≤ 1228800000 * (gg.1:Int)) ∧ (lt ≤ gg.2.2) ∧ (gg.2.2 ≤ 1000000000000) ∧ (∀ k_,k_ < gg.1 → lvI L cyc per (most * per) (rt_ * per) iq k_ ≤ gg.2.2) ∧ (inI L cyc per (most * per) (rt_ * per) gg.2.2)) (fun gg=>ln - gg.1) (0,0,lt) ?_ ?_)))
   ·refine ⟨((((((((((((((Fr.nil hF1).c hF1 (i:=42) rfl rfl).c hF1 (i:=27) rfl rfl).c hF1 (i:=26) rfl rfl).c hF1 (i:=25) rfl rfl).c hF1 (i:=11) rfl rfl).c hF1 (i:=9) rfl rfl).c hF1 (i:=8) rfl rfl).c hF1 (i:=6) rfl rfl).c hF1 (i:=3) rfl rfl).c hF1 (i:=2) rfl rfl).c hF1 (i:=1) rfl rfl).c hF1 (i:=43) rfl (vi (show (0:Int)=(0:Int) from by omega))).c hF1 (i:=12) rfl rfl),(hM.sub ((((((((((((Sub.nil.c (k:=13) rfl rfl).c (k:=12) rfl rfl).c (k:=10) rfl rfl).c (k:=9) rfl rfl).c (k:=8) rfl rfl).c (k:=7) rfl rfl).c (k:=6) rfl rfl).c (k:=5) rfl rfl).c (k:=4) rfl rfl).c (k:=3) rfl rfl).c (k:=2) rfl rfl).c (k:=1) rfl rfl)),(show (0:Int) ≤ (ln:Int) from by omega),(show snI L (most * per) iq 0=0 from by rfl),(show 0 ≤ 0 from by omega),(show 0 ≤ 1228800000 * (0:Int) from by omega),(show lt ≤ lt from by omega),(show lt ≤ 1000000000000 from by omega),(show ∀ k_,k_ < 0 → lvI L cyc per (most * per) (rt_ * per) iq k_ ≤ lt from by exact fun k_ h=>absurd h (Nat.not_lt_zero k_)),(show inI L cyc per (most * per) (rt_ * per) lt from by assumption)⟩
   intro gg a1 w hI
   intro K64 hK64
   obtain ⟨kq,sn,lq⟩:=gg
   try dsimp only at hI hK64
   obtain ⟨hF1,hM,hz31,hz32,hz33,hz34,hz35,hz36,hz37,hz38⟩:=hI
   refine wp_seq_k fun K65 hK65=>wp_region_lit (xB 1 [(44,.bool (decide ((kq:Int) < (ln:Int))))] hF1 fun a1 hF1=>wpList_nil (hK65 _ _ (wp_seq_k fun K66 hK66=>?_)))
   by_cases hz39:(kq:Int) < (ln:Int)
   ·replace hF1:=hF1.c hF1 (i:=44) (v:=.bool true) rfl (bT hz39)
    refine xT hF1 (wp_skip (hK66 _ _ (wp_seq_k fun K67 hK67=>wp_block (wp_seq_k fun K68 hK68=>wp_region_lit (xB 2 [(45,iv (kq:Int)),(13,iv (kq:Int))] hF1 fun a1 hF1=>wpList_nil (hK68 _ _ (wp_seq_k fun K69 hK69=>wp_region_lit ?_)))))))
    refine xB 1 [(46,iv (iq:Int))] hF1 fun a1 hF1=>wl (xP 47 (v0:=.int .i64 (IntKind.i64.wrap ((iq:Int) + 1))) (v:=iv ((iq:Int) + 1)) hF1 (wi (by omega)) fun a1 hF1=>xB 1 [(48,iv (kq:Int))] hF1 fun a1 hF1=>wl (xP 49 (v0:=.int .i64 (IntKind.i64.wrap ((iq:Int) + 1 + (kq:Int)))) (v:=iv ((iq:Int) + 1 + (kq:Int))) hF1 (wi (by omega)) fun a1 hF1=>xB 1 [(14,iv ((iq:Int) + 1 + (kq:Int)))] hF1 fun a1 hF1=>wpList_nil (hK69 _ _ (wp_seq_k fun K70 hK70=>?_))))
    have hln_:ln=L.length:=by first | assumption | rfl
    obtain ⟨mq_,hmq_⟩:∃ z:Nat,(iq + 1 + kq) % ln=z:=⟨_,rfl⟩
    have hmql:mq_ < ln:=by rw [← hmq_]; exact Nat.mod_lt _ (by omega)
    have:=(‹∀ q,q < L.length → (0 ≤ (pr L q).1 ∧ (pr L q).1 ≤ 2467200000) ∧ 1 ≤ (pr L q).2 ∧ (pr L q).2 ≤ 1228800000›:_) mq_ (by omega)
    refine rF (by kernel_rfl) (by kernel_rfl) (fun S a w=>∃ bb17:Nat,Fr (⟨87,[{ target:=.collected DD10,args:=#[] }]⟩:NF) [(1,some (iv (most * per))),(2,some (.func (.func 16) #[] #[pt bb6 0,pt bb2 0])),(3,some (pt bb7 0)),(6,some (pt bb8 0)),(8,some (iv (ln:Int))),(9,some (iv (iq:Int))),(11,some (iv ((pr L iq).1 + (pr L iq).2 - min (most * per) (pr L iq).2))),(12,some (iv sn)),(14,some (iv ((iq:Int) + 1 + (kq:Int)))),(15,(cond (S.getD 6 false) (some (pt bb17 0)) none)),(25,some (.slice lA ln lC)),(26,some (iv (ln:Int))),(27,some (iv (iq:Int))),(42,some (iv (ln:Int))),(43,some (iv (kq:Int))),(50,(cond (S.getD 0 false) (some (.slice lA ln lC)) none)),(51,(cond (S.getD 1 false) (some (iv ((iq:Int) + 1 + (kq:Int)))) none)),(52,(cond (S.getD 2 false) (some (iv (ln:Int))) none)),(53,(cond (S.getD 3 false) (some (iv (mq_:Int))) none)),(54,(cond (S.getD 4 false) (some (.pointer (some (ea lA (mq_ * 2))))) none)),(55,(cond (S.getD 5 false) (some (.agg #[iv (pr L mq_).1,iv (pr L mq_).2])) none))] a ∧ Mem w0.heap.size w0 [(1,some (.ro A (flat2 ge))),(2,some (.row bb1 29 #[.slice A ge.length gc,iv cyc])),(3,some (.row bb2 3 #[iv per])),(4,some (.row bb3 35 #[iv 0,iv 0])),(5,some (.row bb4 3 #[iv rt_])),(6,some (.row bb5 3 #[iv lq])),(7,some (.row bb6 68 #[.func (.func 13) #[] #[pt bb5 0,pt bb4 0,pt bb2 0]])),(8,some (.row bb7 29 #[.slice A ge.length gc,iv cyc])),(9,some (.row bb8 111 #[.slice lA ln lC])),(10,some (.own (.slice lA ln lC) 110 2 ln (flat2 L))),(12,some (.obj DD10 (.deferred (some [])))),(13,some (.obj ll10 (OO10 .exhausted none))),(19,(cond (S.getD 7 false) (some (.row bb17 110 #[iv (pr L mq_).1,iv (pr L mq_).2])) (cond (S.getD 6 false) (some (.row bb17 110 #[iv 0,iv 0])) none)))] w) ?_ ?_ ?_
    ·exact ⟨0,hF1.pk,hM.dk⟩
    ·refine stC ?_ (stC ?_ (stC ?_ (stC ?_ (stC ?_ (stC ?_ (stC ?_ (stC ?_ (trivial))))))))
     ·intro s0 s1 s2 s3 s4 s5 s6 s7 hc hi hp a w hS
      obtain rfl:s0=false:=hi
      obtain ⟨bb17,hF1,hM⟩:=hS
      refine xL 50 9 0 (v:=.slice lA ln lC) hF1 hM fun a1 w hF1 hM=>⟨bb17,hF1.rc 15,hM.k⟩
     ·intro s0 s1 s2 s3 s4 s5 s6 s7 hc hi hp a w hS
      obtain rfl:s1=false:=hi
      obtain ⟨bb17,hF1,hM⟩:=hS
      refine xP 51 (v0:=iv ((iq:Int) + 1 + (kq:Int))) (v:=iv ((iq:Int) + 1 + (kq:Int))) hF1 rfl fun a1 hF1=>⟨bb17,hF1.rc 16,hM.k⟩
     ·intro s0 s1 s2 s3 s4 s5 s6 s7 hc hi hp a w hS
      obtain rfl:s2=false:=hi
      obtain ⟨bb17,hF1,hM⟩:=hS
      refine xP 52 (v0:=iv (ln:Int)) (v:=iv (ln:Int)) hF1 rfl fun a1 hF1=>⟨bb17,hF1.rc 17,hM.k⟩
     ·intro s0 s1 s2 s3 s4 s5 s6 s7 hc hi hp a w hS
      obtain rfl:s3=false:=hi
      obtain rfl:s2=true:=hp 2 (by kernel_rfl)
      obtain rfl:s1=true:=hp 1 (by kernel_rfl)
      obtain ⟨bb17,hF1,hM⟩:=hS
      refine xM 53 (v:=iv (mq_:Int)) hF1 hM (yld_rem ((iq:Int) + 1 + (kq:Int)) (ln:Int) hF1 rfl (by kernel_rfl) (by kernel_rfl) (by kernel_rfl) (by omega) ((show _=_ from by rw [show (iq:Int) + 1 + (kq:Int)=((iq + 1 + kq:Nat):Int) by omega,modC2,hmq_]))) fun a1 w hF1 hM=>⟨bb17,hF1.rc 18,hM.k⟩
     ·intro s0 s1 s2 s3 s4 s5 s6 s7 hc hi hp a w hS
      obtain rfl:s4=false:=hi
      obtain rfl:s3=true:=hp 3 (by kernel_rfl)
      obtain rfl:s0=true:=hp 0 (by kernel_rfl)
      obtain ⟨bb17,hF1,hM⟩:=hS
      refine xM 54 (v:=.pointer (some (ea lA (mq_ * 2)))) hF1 hM (yld_ix (kd:=.i64) (e:=110) (len:=ln) (cap:=lC) (i:=(mq_:Int)) (size:=2) (A:=lA) hF1 rfl (by kernel_rfl) (by kernel_rfl) (by kernel_rfl) (by kernel_rfl) (by kernel_rfl) (roO 10 rfl) (by omega) (by omega) (by rw [flat2_length]; omega)) fun a1 w hF1 hM=>⟨bb17,hF1.rc 19,hM.k⟩
     ·intro s0 s1 s2 s3 s4 s5 s6 s7 hc hi hp a w hS
      obtain rfl:s5=false:=hi
      obtain rfl:s4=true:=hp 4 (by kernel_rfl)
      obtain ⟨bb17,hF1,hM⟩:=hS
      refine xM 55 (v:=.agg #[iv (pr L mq_).1,iv (pr L mq_).2]) hF1 hM (yld_roM (A:=lA) (j:=mq_ * 2) (us:=[iv (pr L mq_).1,iv (pr L mq_).2]) hF1 rfl (by kernel_rfl) (by kernel_rfl) (roO 10 rfl) (by kernel_rfl) rfl (pr_both (k:=mq_) (by omega) (by omega))) fun a1 w hF1 hM=>⟨bb17,hF1.rc 20,hM.k⟩
     ·intro s0 s1 s2 s3 s4 s5 s6 s7 hc hi hp a w hS
      obtain rfl:s6=false:=hi
      obtain rfl:s7=false:=hc.f 7 6 (by kernel_rfl) rfl
      obtain ⟨bb17,hF1,hM⟩:=hS
      refine xN 15 19 (t:=110) (fun b=>.pointer (some ⟨b,0,none⟩)) #[iv 0,iv 0] hF1 hM fun bb17 a1 w hF1 hM=>⟨bb17,hF1.rc 9,hM.rc 12⟩
     intro s0 s1 s2 s3 s4 s5 s6 s7 hc hi hp a w hS
     obtain rfl:s7=false:=hi
     obtain rfl:s6=true:=hp 6 (by kernel_rfl)
     obtain rfl:s5=true:=hp 5 (by kernel_rfl)
     obtain ⟨bb17,hF1,hM⟩:=hS
     refine xS 19 0 #[iv (pr L mq_).1,iv (pr L mq_).2] hF1 hM fun w hM=>⟨bb17,hF1.k,hM.rc 12⟩
    intro a1 w hS
    obtain ⟨bb17,hF1,hM⟩:=hS
    replace hF1:Fr (⟨87,[{ target:=.collected DD10,args:=#[] }]⟩:NF) [(1,some (iv (most * per))),(2,some (.func (.func 16) #[] #[pt bb6 0,pt bb2 0])),(3,some (pt bb7 0)),(6,some (pt bb8 0)),(8,some (iv (ln:Int))),(9,some (iv (iq:Int))),(11,some (iv ((pr L iq).1 + (pr L iq).2 - min (most * per) (pr L iq).2))),(12,some (iv sn)),(14,some (iv ((iq:Int) + 1 + (kq:Int)))),(15,some (pt bb17 0)),(25,some (.slice lA ln lC)),(26,some (iv (ln:Int))),(27,some (iv (iq:Int))),(42,some (iv (ln:Int))),(43,some (iv (kq:Int))),(50,some (.slice lA ln lC)),(51,some (iv ((iq:Int) + 1 + (kq:Int)))),(52,some (iv (ln:Int))),(53,some (iv (mq_:Int))),(54,some (.pointer (some (ea lA (mq_ * 2))))),(55,some (.agg #[iv (pr L mq_).1,iv (pr L mq_).2]))] a1:=hF1.cast (by kernel_rfl)
    replace hM:Mem w0.heap.size w0 [(1,some (.ro A (flat2 ge))),(2,some (.row bb1 29 #[.slice A ge.length gc,iv cyc])),(3,some (.row bb2 3 #[iv per])),(4,some (.row bb3 35 #[iv 0,iv 0])),(5,some (.row bb4 3 #[iv rt_])),(6,some (.row bb5 3 #[iv lq])),(7,some (.row bb6 68 #[.func (.func 13) #[] #[pt bb5 0,pt bb4 0,pt bb2 0]])),(8,some (.row bb7 29 #[.slice A ge.length gc,iv cyc])),(9,some (.row bb8 111 #[.slice lA ln lC])),(10,some (.own (.slice lA ln lC) 110 2 ln (flat2 L))),(12,some (.obj DD10 (.deferred (some [])))),(13,some (.obj ll10 (OO10 .exhausted none))),(19,some (.row bb17 110 #[iv (pr L mq_).1,iv (pr L mq_).2]))] w:=hM.cast (by kernel_rfl)
    refine hK70 _ _ (wp_seq_k fun K71 hK71=>rT 10 (by kernel_rfl) (by kernel_rfl) hM.drew (xQ 56 (v0:=pt bb17 0) (v:=pt bb17 0) hF1 rfl fun a1 hF1=>xK 57 19 0 (v:=iv (pr L mq_).1) hF1 fun a1 hF1=>xQ 58 (v0:=iv ((iq:Int) + 1 + (kq:Int))) (v:=iv ((iq:Int) + 1 + (kq:Int))) hF1 rfl fun a1 hF1=>xQ 59 (v0:=iv (ln:Int)) (v:=iv (ln:Int)) hF1 rfl fun a1 hF1=>?_))
    obtain ⟨jq_,hjq_⟩:∃ z:Nat,(iq + 1 + kq) / ln=z:=⟨_,rfl⟩
    have hjql:jq_ ≤ 256:=by rw [← hjq_]; exact Nat.le_trans (Nat.div_le_self _ _) (by omega)
    refine xR 60 (v:=iv (jq_:Int)) hF1 (yld_quo ((iq:Int) + 1 + (kq:Int)) (ln:Int) hF1 rfl (by kernel_rfl) (by kernel_rfl) (by kernel_rfl) (by omega) ((show _=_ from by rw [show (iq:Int) + 1 + (kq:Int)=((iq + 1 + kq:Nat):Int) by omega,divC2,hjq_]; exact w64 (by omega)))) fun a1 hF1=>xQ 61 (v0:=pt bb7 1) (v:=pt bb7 1) hF1 rfl fun a1 hF1=>xK 62 8 1 (v:=iv cyc) hF1 fun a1 hF1=>?_
    have hz40:0 ≤ (jq_:Int) * cyc ∧ (jq_:Int) * cyc ≤ 2457600000:=mul_bd (0) (256) (1) (9600000) (by omega) (by omega) (by omega) (by omega) (by (try dsimp only); decide)
    refine xQ 63 (v0:=.int .i64 (IntKind.i64.wrap ((jq_:Int) * cyc))) (v:=iv ((jq_:Int) * cyc)) hF1 (wi (by omega)) fun a1 hF1=>xQ 64 (v0:=.int .i64 (IntKind.i64.wrap ((pr L mq_).1 + (jq_:Int) * cyc))) (v:=iv ((pr L mq_).1 + (jq_:Int) * cyc)) hF1 (wi (by omega)) fun a1 hF1=>xQ 65 (v0:=pt bb17 0) (v:=pt bb17 0) hF1 rfl fun a1 hF1=>wpQuiet_nil ?_
    intro w hM
    refine wl (xS 19 0 #[iv ((pr L mq_).1 + (jq_:Int) * cyc),iv (pr L mq_).2] hF1 hM fun w hM=>wpList_nil (hK71 _ _ (wp_seq_k fun K72 hK72=>wp_region_lit (xB 2 [(66,.func (.func 16) #[] #[pt bb6 0,pt bb2 0]),(67,pt bb17 0)] hF1 fun a1 hF1=>wl (xL 68 19 0 (v:=iv ((pr L mq_).1 + (jq_:Int) * cyc)) hF1 hM fun a1 w hF1 hM=>xB 2 [(69,iv (most * per)),(70,pt bb17 1)] hF1 fun a1 hF1=>wl (xL 71 19 1 (v:=iv (pr L mq_).2) hF1 hM fun a1 w hF1 hM=>wl (xP 72 (v0:=.int .i64 (if (pr L mq_).2 < most * per then (pr L mq_).2 else most * per)) (v:=iv (min (most * per) (pr L mq_).2)) hF1 (vi (min_if _ _)) fun a1 hF1=>wl (xP 73 (v0:=.int .i64 (IntKind.i64.wrap ((pr L mq_).1 + (jq_:Int) * cyc + min (most * per) (pr L mq_).2))) (v:=iv ((pr L mq_).1 + (jq_:Int) * cyc + min (most * per) (pr L mq_).2)) hF1 (wi (by omega)) fun a1 hF1=>xB 1 [(74,iv ((pr L iq).1 + (pr L iq).2 - min (most * per) (pr L iq).2))] hF1 fun a1 hF1=>?_))))))))
    refine wl (xP 75 (v0:=.int .i64 (IntKind.i64.wrap ((pr L mq_).1 + (jq_:Int) * cyc + min (most * per) (pr L mq_).2 - ((pr L iq).1 + (pr L iq).2 - min (most * per) (pr L iq).2)))) (v:=iv ((pr L mq_).1 + (jq_:Int) * cyc + min (most * per) (pr L mq_).2 - ((pr L iq).1 + (pr L iq).2 - min (most * per) (pr L iq).2))) hF1 (wi (by omega)) fun a1 hF1=>xB 1 [(76,iv sn)] hF1 fun a1 hF1=>wl (sC (f:=16) (args:=#[iv ((pr L mq_).1 + (jq_:Int) * cyc + min (most * per) (pr L mq_).2 - ((pr L iq).1 + (pr L iq).2 - min (most * per) (pr L iq).2)),iv sn,pt bb6 0,pt bb2 0]) hF1 (by kernel_rfl) rfl (by (try dsimp only); decide) (by kernel_rfl) (fun _=>by kernel_rfl) (enterK 13 Tryz.func16 rfl rfl rfl ?_)))
    intro a2 hF2 QR73 hR73 hNR73
    refine wp_region_lit (wl (xL 6 7 0 (v:=.func (.func 13) #[] #[pt bb5 0,pt bb4 0,pt bb2 0]) hF2 hM fun a2 w hF2 hM=>xB 2 [(7,iv ((pr L mq_).1 + (jq_:Int) * cyc + min (most * per) (pr L mq_).2 - ((pr L iq).1 + (pr L iq).2 - min (most * per) (pr L iq).2))),(8,iv sn)] hF2 fun a2 hF2=>wl (xL 9 3 0 (v:=iv per) hF2 hM fun a2 w hF2 hM=>wl (xP 10 (v0:=.int .i64 (IntKind.i64.wrap (127 * per))) (v:=iv (127 * per)) hF2 (wi (by omega)) fun a2 hF2=>wl (xP 11 (v0:=.int .i64 (IntKind.i64.wrap (sn - 127 * per))) (v:=iv (sn - 127 * per)) hF2 (wi (by omega)) fun a2 hF2=>wl (sC (f:=13) (args:=#[iv ((pr L mq_).1 + (jq_:Int) * cyc + min (most * per) (pr L mq_).2 - ((pr L iq).1 + (pr L iq).2 - min (most * per) (pr L iq).2)),iv (sn - 127 * per),pt bb5 0,pt bb4 0,pt bb2 0]) hF2 (by kernel_rfl) rfl (by (try dsimp only); decide) (by kernel_rfl) (fun _=>by kernel_rfl) (enterK 17 Tryz.func13 rfl rfl rfl ?_)))))))
    intro a3 hF3 QR74 hR74 hNR74
    refine rT 10 (by kernel_rfl) (by kernel_rfl) hM.drew (xK 7 6 0 (v:=iv lq) hF3 fun a3 hF3=>xQ 8 (v0:=iv ((pr L mq_).1 + (jq_:Int) * cyc + min (most * per) (pr L mq_).2 - ((pr L iq).1 + (pr L iq).2 - min (most * per) (pr L iq).2))) (v:=iv ((pr L mq_).1 + (jq_:Int) * cyc + min (most * per) (pr L mq_).2 - ((pr L iq).1 + (pr L iq).2 - min (most * per) (pr L iq).2))) hF3 rfl fun a3 hF3=>xQ 9 (v0:=iv (sn - 127 * per)) (v:=iv (sn - 127 * per)) hF3 rfl fun a3 hF3=>xQ 10 (v0:=.int .i64 (IntKind.i64.wrap ((sn - 127 * per) * 1048576))) (v:=iv ((sn - 127 * per) * 1048576)) hF3 (wi (by omega)) fun a3 hF3=>xK 11 5 0 (v:=iv rt_) hF3 fun a3 hF3=>xK 12 3 0 (v:=iv per) hF3 fun a3 hF3=>xQ 13 (v0:=.int .i64 (IntKind.i64.wrap (rt_ * per))) (v:=iv (rt_ * per)) hF3 (wi (by omega)) fun a3 hF3=>?_)
    obtain ⟨fq4,hfq4⟩:∃ z:Int,(sn - 127 * per) * 1048576 / (rt_ * per)=z:=⟨_,rfl⟩
    have hbfq4:-133169152000 ≤ fq4 ∧ fq4 ≤ 200000000000000000:=by rw [← hfq4]; have:=fd_bd (a:=(sn - 127 * per) * 1048576) (b:=rt_ * per) (by omega); rcases Int.le_total 0 ((sn - 127 * per) * 1048576) with z | z; (have:=this.1 z; omega); (have:=this.2 z; omega)
    refine xR 14 (v:=iv fq4) hF3 (xC 14 #[iv ((sn - 127 * per) * 1048576),iv (rt_ * per)] hF3 (fun w hM=>by have:=floorDiv_w ((sn - 127 * per) * 1048576) (rt_ * per) w (by omega); rw [hfq4] at this; exact this)) fun a3 hF3=>xQ 15 (v0:=.int .i64 (IntKind.i64.wrap ((pr L mq_).1 + (jq_:Int) * cyc + min (most * per) (pr L mq_).2 - ((pr L iq).1 + (pr L iq).2 - min (most * per) (pr L iq).2) - fq4))) (v:=iv ((pr L mq_).1 + (jq_:Int) * cyc + min (most * per) (pr L mq_).2 - ((pr L iq).1 + (pr L iq).2 - min (most * per) (pr L iq).2) - fq4)) hF3 (wi (by omega)) fun a3 hF3=>xQ 16 (v0:=.int .i64 (if (pr L mq_).1 + (jq_:Int) * cyc + min (most * per) (pr L mq_).2 - ((pr L iq).1 + (pr L iq).2 - min (most * per) (pr L iq).2) - fq4 > lq then (pr L mq_).1 + (jq_:Int) * cyc + min (most * per) (pr L mq_).2 - ((pr L iq).1 + (pr L iq).2 - min (most * per) (pr L iq).2) - fq4 else lq)) (v:=iv (max lq ((pr L mq_).1 + (jq_:Int) * cyc + min (most * per) (pr L mq_).2 - ((pr L iq).1 + (pr L iq).2 - min (most * per) (pr L iq).2) - fq4))) hF3 (vi (max_if _ _)) fun a3 hF3=>wpQuiet_nil ?_
    intro w hM
    refine wl (xS 6 0 #[iv (max lq ((pr L mq_).1 + (jq_:Int) * cyc + min (most * per) (pr L mq_).2 - ((pr L iq).1 + (pr L iq).2 - min (most * per) (pr L iq).2) - fq4))] hF3 hM fun w hM=>wpList_nil (hNR74 _ _ (ret_ofN hF3 hM (.nil) ⟨_,rfl,?_⟩)))
    intro a2 hF2
    refine wpList_nil (hNR73 _ _ (ret_ofN hF2 hM (.nil) ⟨_,rfl,?_⟩))
    intro a1 hF1
    refine wpList_nil (hK72 _ _ (wp_region_lit (xB 2 [(78,iv sn),(79,pt bb17 1)] hF1 fun a1 hF1=>wl (xL 80 19 1 (v:=iv (pr L mq_).2) hF1 hM fun a1 w hF1 hM=>xB 1 [(81,iv (most * per))] hF1 fun a1 hF1=>wl (xP 82 (v0:=.int .i64 (IntKind.i64.wrap ((pr L mq_).2 - most * per))) (v:=iv ((pr L mq_).2 - most * per)) hF1 (wi (by omega)) fun a1 hF1=>wl (xP 83 (v0:=.int .i64 (if (pr L mq_).2 - most * per > 0 then (pr L mq_).2 - most * per else 0)) (v:=iv (max 0 ((pr L mq_).2 - most * per))) hF1 (vi (max_if _ _)) fun a1 hF1=>wl (xP 84 (v0:=.int .i64 (IntKind.i64.wrap (sn + max 0 ((pr L mq_).2 - most * per)))) (v:=iv (sn + max 0 ((pr L mq_).2 - most * per))) hF1 (wi (by omega)) fun a1 hF1=>xB 1 [(12,iv (sn + max 0 ((pr L mq_).2 - most * per)))] hF1 fun a1 hF1=>wpList_nil (hK67 _ _ ?_))))))))
    refine wp_region_lit (wl (xP 85 (v0:=.int .i64 (IntKind.i64.wrap ((kq:Int) + 1))) (v:=iv ((kq:Int) + 1)) hF1 (wi (by omega)) fun a1 hF1=>xB 1 [(43,iv ((kq:Int) + 1))] hF1 fun a1 hF1=>wpList_nil ?_))
    have hsx:snI L (most * per) iq (kq + 1)=snI L (most * per) iq kq + max 0 ((pr L ((iq + 1 + kq) % L.length)).2 - (most * per)):=rfl
    have hlx:lvI L cyc per (most * per) (rt_ * per) iq kq=(pr L ((iq + 1 + kq) % L.length)).1 + ((iq + 1 + kq) / L.length:Nat) * cyc + min (most * per) (pr L ((iq + 1 + kq) % L.length)).2 - bgI L (most * per) iq - (snI L (most * per) iq kq - 127 * per) * 1048576 / (rt_ * per):=rfl
    rw [← hln_,hmq_] at hsx hlx
    rw [hjq_,‹snI L (most * per) iq kq=sn›] at hlx
    unfold bgI at hlx
    refine hK64 _ _ ⟨(kq + 1,sn + max 0 ((pr L mq_).2 - most * per),max lq ((pr L mq_).1 + (jq_:Int) * cyc + min (most * per) (pr L mq_).2 - ((pr L iq).1 + (pr L iq).2 - min (most * per) (pr L iq).2) - fq4)),⟨((((((((((((((Fr.nil hF1).c hF1 (i:=42) rfl rfl).c hF1 (i:=27) rfl rfl).c hF1 (i:=26) rfl rfl).c hF1 (i:=25) rfl rfl).c hF1 (i:=11) rfl rfl).c hF1 (i:=9) rfl rfl).c hF1 (i:=8) rfl rfl).c hF1 (i:=6) rfl rfl).c hF1 (i:=3) rfl rfl).c hF1 (i:=2) rfl rfl).c hF1 (i:=1) rfl rfl).c hF1 (i:=43) rfl (vi (show ((kq:Int) + 1:Int)=((kq + 1):Int) from by omega))).c hF1 (i:=12) rfl rfl),(hM.sub ((((((((((((Sub.nil.c (k:=13) rfl rfl).c (k:=12) rfl rfl).c (k:=10) rfl rfl).c (k:=9) rfl rfl).c (k:=8) rfl rfl).c (k:=7) rfl rfl).c (k:=6) rfl rfl).c (k:=5) rfl rfl).c (k:=4) rfl rfl).c (k:=3) rfl rfl).c (k:=2) rfl rfl).c (k:=1) rfl rfl)),(show ((kq + 1):Int) ≤ (ln:Int) from by omega),(show snI L (most * per) iq (kq + 1)=(sn + max 0 ((pr L mq_).2 - most * per)) from by omega),(show 0 ≤ (sn + max 0 ((pr L mq_).2 - most * per)) from by omega),(show (sn + max 0 ((pr L mq_).2 - most * per)) ≤ 1228800000 * ((kq + 1):Int) from by omega),(show lt ≤ (max lq ((pr L mq_).1 + (jq_:Int) * cyc + min (most * per) (pr L mq_).2 - ((pr L iq).1 + (pr L iq).2 - min (most * per) (pr L iq).2) - fq4)) from by omega),(show (max lq ((pr L mq_).1 + (jq_:Int) * cyc + min (most * per) (pr L mq_).2 - ((pr L iq).1 + (pr L iq).2 - min (most * per) (pr L iq).2) - fq4)) ≤ 1000000000000 from by omega),(show ∀ k_,k_ < (kq + 1) → lvI L cyc per (most * per) (rt_ * per) iq k_ ≤ (max lq ((pr L mq_).1 + (jq_:Int) * cyc + min (most * per) (pr L mq_).2 - ((pr L iq).1 + (pr L iq).2 - min (most * per) (pr L iq).2) - fq4)) from by exact fun k_ h=>by by_cases e:k_=kq; (subst e; omega); exact Int.le_trans ((‹∀ k_,k_ < kq → lvI L cyc per (most * per) (rt_ * per) iq k_ ≤ lq›) k_ (by omega)) (by omega)),(show inI L cyc per (most * per) (rt_ * per) (max lq ((pr L mq_).1 + (jq_:Int) * cyc + min (most * per) (pr L mq_).2 - ((pr L iq).1 + (pr L iq).2 - min (most * per) (pr L iq).2) - fq4)) from by exact in_max (by assumption) (.inr ⟨iq,kq,by omega,by omega,by omega⟩))⟩,(show ln - (kq + 1) < ln - kq from by omega)⟩
   replace hF1:=hF1.c hF1 (i:=44) (v:=.bool false) rfl (bF hz39)
   refine xF hF1 (wp_exit (hK59 _ _ (wp_region_lit (wl (xP 86 (v0:=.int .i64 (IntKind.i64.wrap ((iq:Int) + 1))) (v:=iv ((iq:Int) + 1)) hF1 (wi (by omega)) fun a1 hF1=>xB 1 [(27,iv ((iq:Int) + 1))] hF1 fun a1 hF1=>wpList_nil (hK56 _ _ ⟨(iq + 1,lq),⟨(((((((((Fr.nil hF1).c hF1 (i:=26) rfl rfl).c hF1 (i:=25) rfl rfl).c hF1 (i:=8) rfl rfl).c hF1 (i:=6) rfl rfl).c hF1 (i:=3) rfl rfl).c hF1 (i:=2) rfl rfl).c hF1 (i:=1) rfl rfl).c hF1 (i:=27) rfl (vi (show ((iq:Int) + 1:Int)=((iq + 1):Int) from by omega))),(hM.sub ((((((((((((Sub.nil.c (k:=13) rfl rfl).c (k:=12) rfl rfl).c (k:=10) rfl rfl).c (k:=9) rfl rfl).c (k:=8) rfl rfl).c (k:=7) rfl rfl).c (k:=6) rfl rfl).c (k:=5) rfl rfl).c (k:=4) rfl rfl).c (k:=3) rfl rfl).c (k:=2) rfl rfl).c (k:=1) rfl rfl)),(show ((iq + 1):Int) ≤ (ln:Int) from by omega),(show 0 ≤ lq from by omega),(show lq ≤ 1000000000000 from by omega),(show lt0 per (rt_ * per) ≤ lq from by omega),(show ∀ i_ k_,i_ < (iq + 1) → k_ < L.length → lvI L cyc per (most * per) (rt_ * per) i_ k_ ≤ lq from by exact fun i_ k_ h1 h2=>by by_cases e:i_=iq; (subst e; exact (‹∀ k_,k_ < kq → lvI L cyc per (most * per) (rt_ * per) i_ k_ ≤ lq›) k_ (by omega)); exact Int.le_trans ((‹∀ i_ k_,i_ < iq → k_ < L.length → lvI L cyc per (most * per) (rt_ * per) i_ k_ ≤ lt›) i_ k_ (by omega) h2) (by omega)),(show inI L cyc per (most * per) (rt_ * per) lq from by assumption)⟩,(show ln - (iq + 1) < ln - iq from by omega)⟩))))))
  replace hF1:=hF1.c hF1 (i:=28) (v:=.bool false) rfl (bF hz30)
  refine xF hF1 (wp_exit (hNR14 _ _ (retM1N (kD:=12) hF1 hM rfl (.nil) fun w hM=>⟨_,rfl,?_⟩)))
  intro a hF
  refine wpList_nil (hK13 _ _ (wp_seq_k fun K75 hK75=>wp_region_lit (wl (xL 45 5 0 (v:=iv rt_) hF hM fun a w hF hM=>wl (xL 46 6 0 (v:=iv lt) hF hM fun a w hF hM=>xB 1 [(47,.agg #[iv rt_,iv lt])] hF fun a hF=>wl (xS 4 0 #[iv rt_,iv lt] hF hM fun w hM=>xB 1 [(7,iv 0)] hF fun a hF=>wpList_nil (hK75 _ _ (wp_ret ?_))))))))
  refine hR0 _ _ (ret_of hF hM (.cell (i:=4) rfl rfl (v:=.agg #[iv rt_,iv lt]) (by kernel_rfl) (.tmp rfl (.nil))) ?_)
  have hrt2:ofRt ge cyc per (most * per)=rt_:=by unfold ofRt; rw [hyv]; exact hrt
  obtain rfl:i=ge.length:=by omega
  have hld:=ld_eq (ge:=ge) (k:=k) (by omega) (by assumption) (fun q=>by assumption)
  have hop:opsL ge=L:=by unfold opsL; rw [hld,if_neg (by omega)]; assumption
  refine ⟨lt,⟨⟨by omega,by omega⟩,by rw [hrt2]; assumption,fun i_ k_ h1 h2=>?_,by rw [hop,hrt2]; assumption⟩,by rw [hrt2]; rfl,hM.bel⟩
  rw [hop] at h1 h2 ⊢; rw [hrt2]; exact (‹∀ i_ k_,i_ < iq → k_ < L.length → lvI L cyc per (most * per) (rt_ * per) i_ k_ ≤ lt›) i_ k_ (by omega) h2
 refine wp_region_lit (xB 2 [(12,iv (k:Int)),(13,iv (ge.length:Int))] hF2 fun a2 hF2=>wl (xP 14 (v0:=.bool (decide ((k:Int) < (ge.length:Int)))) (v:=.bool false) hF2 (bF hz8) fun a2 hF2=>xB 8 [(15,.bool false),(16,undef),(17,undef),(18,undef),(19,undef),(20,undef),(21,undef),(22,.bool false)] hF2 fun a2 hF2=>wpList_nil (hK28 _ _ (xF hF2 (wp_exit (hK25 _ _ (wp_seq_k fun K76 hK76=>wp_seq_k fun K77 hK77=>wp_region_lit ?_)))))))
 refine xB 2 [(33,iv (k:Int)),(34,iv (ge.length:Int))] hF2 fun a2 hF2=>wl (xP 35 (v0:=.bool (decide ((k:Int)=(ge.length:Int)))) (v:=.bool true) hF2 (bT (by omega)) fun a2 hF2=>wpList_nil (hK77 _ _ (xT hF2 (wp_ret (hR22 _ _ (ret_of hF2 hM (.nil) (rangeEnd (kl:=13) OO10 hO10 hM rfl (by (try dsimp only); decide) fun w hM=>?_)))))))
 replace hF1:=hF1.defer { target:=.collected DD10,args:=#[] }
 refine hK17 _ _ (wp_seq_k fun K78 hK78=>wp_region_lit (wl (xL 23 9 0 (v:=.slice none 0 0) hF1 hM fun a1 w hF1 hM=>xB 2 [(24,iv 0),(8,iv 0)] hF1 fun a1 hF1=>wpList_nil (hK78 _ _ (wp_seq_k fun K79 hK79=>wp_region_lit (wl (xL 25 9 0 (v:=.slice none 0 0) hF1 hM fun a1 w hF1 hM=>xB 2 [(26,iv 0),(27,iv 0)] hF1 fun a1 hF1=>wpList_nil ?_)))))))
 refine hK79 _ _ (wp_block (wp_loop_k (G:=Nat × Int) (fun gg a w=>Fr (⟨87,[{ target:=.collected DD10,args:=#[] }]⟩:NF) [(27,some (iv (gg.1:Int))),(1,some (iv (most * per))),(2,some (.func (.func 16) #[] #[pt bb6 0,pt bb2 0])),(3,some (pt bb7 0)),(6,some (pt bb8 0)),(8,some (iv 0)),(25,some (.slice none 0 0)),(26,some (iv 0))] a ∧ Mem w0.heap.size w0 [(1,some (.ro A (flat2 ge))),(2,some (.row bb1 29 #[.slice A ge.length gc,iv cyc])),(3,some (.row bb2 3 #[iv per])),(4,some (.row bb3 35 #[iv 0,iv 0])),(5,some (.row bb4 3 #[iv rt_])),(6,some (.row bb5 3 #[iv gg.2])),(7,some (.row bb6 68 #[.func (.func 13) #[] #[pt bb5 0,pt bb4 0,pt bb2 0]])),(8,some (.row bb7 29 #[.slice A ge.length gc,iv cyc])),(9,some (.row bb8 111 #[.slice none 0 0])),(10,some (.own (.slice none 0 0) 110 2 0 (flat2 ([]:List (Int × Int))))),(12,some (.obj DD10 (.deferred (some [])))),(13,some (.obj ll10 (OO10 .exhausted none)))] w ∧ ((gg.1:Int) ≤ (0:Int)) ∧ (0 ≤ gg.2) ∧ (gg.2 ≤ 1000000000000) ∧ (lt0 per (rt_ * per) ≤ gg.2) ∧ (∀ i_ k_,i_ < gg.1 → k_ < ([]:List (Int × Int)).length → lvI ([]:List (Int × Int)) cyc per (most * per) (rt_ * per) i_ k_ ≤ gg.2) ∧ (inI ([]:List (Int × Int)) cyc per (most * per) (rt_ * per) gg.2)) (fun gg=>0 - gg.1) (0,max 0 (0 - fq2)) ?_ ?_))
 ·refine ⟨(((((((((Fr.nil hF1).c hF1 (i:=26) rfl rfl).c hF1 (i:=25) rfl rfl).c hF1 (i:=8) rfl rfl).c hF1 (i:=6) rfl rfl).c hF1 (i:=3) rfl rfl).c hF1 (i:=2) rfl rfl).c hF1 (i:=1) rfl rfl).c hF1 (i:=27) rfl (vi (show (0:Int)=(0:Int) from by omega))),(hM.sub ((((((((((((Sub.nil.c (k:=13) rfl rfl).c (k:=12) rfl rfl).c (k:=10) rfl rfl).c (k:=9) rfl rfl).c (k:=8) rfl rfl).c (k:=7) rfl rfl).c (k:=6) rfl rfl).c (k:=5) rfl rfl).c (k:=4) rfl rfl).c (k:=3) rfl rfl).c (k:=2) rfl rfl).c (k:=1) rfl rfl)),(show (0:Int) ≤ (0:Int) from by omega),(show 0 ≤ (max 0 (0 - fq2)) from by omega),(show (max 0 (0 - fq2)) ≤ 1000000000000 from by omega),(show lt0 per (rt_ * per) ≤ (max 0 (0 - fq2)) from by unfold lt0; omega),(show ∀ i_ k_,i_ < 0 → k_ < ([]:List (Int × Int)).length → lvI ([]:List (Int × Int)) cyc per (most * per) (rt_ * per) i_ k_ ≤ (max 0 (0 - fq2)) from by exact fun i_ k_ h=>absurd h (Nat.not_lt_zero i_)),(show inI ([]:List (Int × Int)) cyc per (most * per) (rt_ * per) (max 0 (0 - fq2)) from by exact .inl (by unfold lt0; omega))⟩
 intro gg a1 w hI
 intro K80 hK80
 obtain ⟨iq,lt⟩:=gg
 try dsimp only at hI hK80
 obtain ⟨hF1,hM,hz41,hz42,hz43,hz44,hz45,hz46⟩:=hI
 refine wp_seq_k fun K81 hK81=>wp_region_lit (wl (xP 28 (v0:=.bool (decide ((iq:Int) < 0))) (v:=.bool false) hF1 (bF (by omega)) fun a1 hF1=>wpList_nil (hK81 _ _ (wp_seq_k fun K82 hK82=>xF hF1 (wp_exit (hNR14 _ _ (retM1N (kD:=12) hF1 hM rfl (.nil) fun w hM=>⟨_,rfl,?_⟩)))))))
 intro a hF
 refine wpList_nil (hK13 _ _ (wp_seq_k fun K83 hK83=>wp_region_lit (wl (xL 45 5 0 (v:=iv rt_) hF hM fun a w hF hM=>wl (xL 46 6 0 (v:=iv lt) hF hM fun a w hF hM=>xB 1 [(47,.agg #[iv rt_,iv lt])] hF fun a hF=>wl (xS 4 0 #[iv rt_,iv lt] hF hM fun w hM=>xB 1 [(7,iv 0)] hF fun a hF=>wpList_nil (hK83 _ _ (wp_ret ?_))))))))
 refine hR0 _ _ (ret_of hF hM (.cell (i:=4) rfl rfl (v:=.agg #[iv rt_,iv lt]) (by kernel_rfl) (.tmp rfl (.nil))) ?_)
 have hrt2:ofRt ge cyc per (most * per)=rt_:=by unfold ofRt; rw [hyv]; exact hrt
 have hld:=ld_eq (ge:=ge) (k:=k) (by omega) (by assumption) (fun q=>by omega)
 have hop:opsL ge=[]:=by unfold opsL; rw [if_pos (by omega)]
 refine ⟨lt,⟨⟨by omega,by omega⟩,by rw [hrt2]; assumption,fun i_ k_ h1 h2=>?_,by rw [hop,hrt2]; assumption⟩,by rw [hrt2]; rfl,hM.bel⟩
 rw [hop] at h1; exact absurd h1 (Nat.not_lt_zero i_)
end Go.Proofs.YtlngflbamkgjlaaGreat
namespace Go.Proofs.YtlngflbamkgjlaaGreat
open Go.RowKit Go.Shelf
set_option linter.unusedVariables false
set_option linter.unusedSimpArgs false
attribute [local go_sem] Oper.semAt_some
theorem abides_alloc {β:Type} {B:Nat} {J:β → World → Prop} (h:AbidesFrom B J) {s:β} {W:World} (o:Obj) (hs:J s W):J s (W.alloc o):=h s W _ none hs (World.grownBy_alloc W o none) (fun _ e=>by cases e)
set_option maxRecDepth 100000 in
set_option maxHeartbeats 4000000 in
theorem levels1_in (F:Fence) (n:Nat) (h8:F.fn 83) (hro:F.round=none) (hn:1 ≤ n) (l Bb Bs n₀:Nat) (A:Option Addr) (cap:Nat) (b r:Int) (tr:List (Int × Int))
    (hbk:1 ≤ b ∧ b ≤ 1048576 ∧ 1 ≤ r ∧ r ≤ 2097152) (htr:trE tr=0) (hn₀:Bb < n₀ ∧ Bs < n₀) (J Jx:List (Nat × Int) → World → Prop) (W:World) (hJa:AbidesFrom W.heap.size J)
    (hY:∀ pre x W,J pre W → pre.length < tr.length → YieldAt F (n - 1) Tryz.prog l #[.int .i64 (x.1:Int),.int .i64 x.2] W fun e W' =>
      (e=.returned (.bool true) ∧ J (pre ++ [x]) W' ∧ Below n₀ W W') ∨ (e=.returned (.bool false) ∧ Jx (pre ++ [x]) W'))
    (hB0:W.cell? ⟨Bb,0,none⟩=some (.int .i64 b)) (hB1:W.cell? ⟨Bb,1,none⟩=some (.int .i64 r)) (hBs:W.cell? ⟨Bs,0,none⟩=some (.slice A tr.length cap)) (hc:Arr2 W n₀ A tr) (h0:J [] W) (hsz:n₀ ≤ W.heap.size) :
    CallsIn F n Tryz.prog 83 #[.func (.yield l) #[] #[],.pointer (some ⟨Bb,0,none⟩),.pointer (some ⟨Bs,0,none⟩)] W fun e W'=>(∃ v,e=.returned v) ∧
      ((∃ ys,ys=lvUp b r tr tr.length ∧ J ys W') ∨ (∃ pre,(∃ k,k ≤ tr.length ∧ pre=lvUp b r tr k) ∧ Jx pre W')):=by
  have htl:=(trE_ok htr).1
  obtain ⟨len,hlen⟩:∃ n,tr.length=n:=⟨_,rfl⟩
  have HLEN:=hide hlen
  rw [hlen] at hBs hY htl ⊢
  clear hlen
  refine callsIn_of_wp Tryz.func83 rfl h8 ?_ hro
  simp only [Tryz.ntmps83,List.size_toArray,List.length_cons,List.length_nil,Nat.reduceAdd,Nat.reduceSub,Array.replicate_succ,Array.replicate_zero,List.push_toArray,List.append_toArray,List.nil_append,List.cons_append]
  gi_wp2
  gi_loopw [5,6,15] (fun lv la i wr=>∃ k:Nat,k ≤ len ∧ i=.int .i64 k ∧ lv=.int .i64 (lvN b r tr k) ∧ la=.int .i64 (laN tr k) ∧ J (lvUp b r tr k) wr ∧ Below n₀ W wr)
    (fun _ _ i _=>len - (intOf i).toNat)
  case atStart =>
    refine ⟨0,Nat.zero_le _,rfl,?_,rfl,h0,Below.refl _ _⟩
    rfl
  case round =>
    obtain ⟨k,hk,rfl,rfl,rfl,hJs,hnx⟩:=hrel
    have hws:=hnx.size
    have hb0:=(hnx.cell (p:=⟨Bb,0,none⟩) hn₀.1).trans hB0
    have hb1:=(hnx.cell (p:=⟨Bb,1,none⟩) hn₀.1).trans hB1
    have hbs:=(hnx.cell (p:=⟨Bs,0,none⟩) hn₀.2).trans hBs
    by_cases hlt:k < len
    · have hlt':k < tr.length:=by rw [HLEN.out]; exact hlt
      obtain ⟨bk,off,rfl,hbb,g1,g2⟩:=hc k _ (pr_some hlt')
      have g1':wr.cell? ⟨bk,off + k * 2,none⟩=some (.int .i64 (pr tr k).1):=(hnx.cell (p:=⟨bk,off + k * 2,none⟩) hbb).trans g1
      have g2':wr.cell? ⟨bk,off + k * 2 + 1,none⟩=some (.int .i64 (pr tr k).2):=(hnx.cell (p:=⟨bk,off + k * 2 + 1,none⟩) hbb).trans g2
      have t:=tr_all htr k hlt'
      have q:=lv_bd hbk htr k (by omega)
      have m:0 ≤ r * ((pr tr k).1 - laN tr k) ∧ r * ((pr tr k).1 - laN tr k) ≤ 2305843009213693952:=mul_bd 0 2097152 0 1099511627776 (by omega) (by omega) (by omega) (by omega) (by decide)
      have HV:=hide (show lvN b r tr (k + 1)=min (b * 1048576) (lvN b r tr k + r * ((pr tr k).1 - laN tr k)) - (pr tr k).2 * 1048576 from rfl)
      have HLA:=hide (show laN tr (k + 1)=(pr tr k).1 from rfl)
      obtain ⟨fn,tmps,assign,body,hy,hR⟩:=hY (lvUp b r tr k) (k,min (b * 1048576) (lvN b r tr k + r * ((pr tr k).1 - laN tr k)) - (pr tr k).2 * 1048576) (wr.alloc (.cells #[.int .i64 (pr tr k).1,.int .i64 (pr tr k).2] 89)) (abides_alloc hJa _ hJs) (by rw [lvUp_length]; exact hlt)
      dsimp only at hy
      have hb1a:=(((Below.refl n₀ wr).alloc (by omega) (.cells #[.int .i64 (pr tr k).1,.int .i64 (pr tr k).2] 89)).cell (p:=⟨Bb,1,none⟩) hn₀.1).trans hb1
      clear g1 g2
      gi_wp2
      refine hR.mono ?_
      rw [← HV.out]
      rintro e W3 (⟨rfl,hJ3,hk3⟩ | ⟨rfl,hJx3⟩)
      · gi_wp2
        go_roundw
        case rel=>exact ⟨k + 1,by omega,by simp,by rw [HV.out],by rw [HLA.out],by rw [lvUp_succ]; exact hJ3,(hnx.alloc (by omega) _).trans hk3⟩
        case measure=>simp [intOf]; omega
      · gi_wp2
        refine bodyPost_ret (results_none rfl _ _ _) rfl ?_
        exact ⟨⟨_,rfl⟩,.inr ⟨_,⟨k + 1,by omega,(lvUp_succ _ _ _ _).symm⟩,hJx3⟩⟩
    · obtain rfl:k=len:=by omega
      gi_wp2
      go_end0
      exact ⟨⟨_,rfl⟩,.inl ⟨_,rfl,hJs⟩⟩
set_option maxHeartbeats 1000000 in
theorem levels_in (F:Fence) (n:Nat) (h5:F.fn 66) (hro:F.round=none) (b r:Int) (A:Option Addr) (len cap:Nat) (w:World) :
    CallsIn F n Tryz.prog 66 #[.agg #[.int .i64 b,.int .i64 r],.slice A len cap] w fun e w'=>e=.returned (.func (.func 83) #[] #[.pointer (some ⟨w.heap.size,0,none⟩),.pointer (some ⟨w.heap.size + 1,0,none⟩)]) ∧
      w'=(w.alloc (.cells #[.int .i64 b,.int .i64 r] 33)).alloc (.cells #[.slice A len cap] 85):=by
  refine callsIn_of_wp Tryz.func66 rfl h5 ?_ hro
  simp only [Tryz.ntmps66,List.size_toArray,List.length_cons,List.length_nil,Nat.reduceAdd,Nat.reduceSub,Array.replicate_succ,Array.replicate_zero,List.push_toArray,List.append_toArray,List.nil_append,List.cons_append]
  gi_wp2
  go_ret
  exact ⟨rfl,rfl⟩
theorem levels_stops (F:Fence) (n:Nat) (h8:F.fn 83) (hro:F.round=none) (hn:1 ≤ n) (Bb Bs n₀:Nat) (A:Option Addr) (cap:Nat) (b r:Int) (tr:List (Int × Int))
    (hbk:1 ≤ b ∧ b ≤ 1048576 ∧ 1 ≤ r ∧ r ≤ 2097152) (htr:trE tr=0) (hn₁:Bb < n₀ ∧ Bs < n₀) (w:World) (hn₀:n₀ ≤ w.heap.size)
    (hB0:w.cell? ⟨Bb,0,none⟩=some (.int .i64 b)) (hB1:w.cell? ⟨Bb,1,none⟩=some (.int .i64 r)) (hBs:w.cell? ⟨Bs,0,none⟩=some (.slice A tr.length cap)) (hc:Arr2 w n₀ A tr) :
    SeqStopsK F n Tryz.prog 83 #[.pointer (some ⟨Bb,0,none⟩),.pointer (some ⟨Bs,0,none⟩)] (fun x:Nat × Int=>#[Value.int .i64 (x.1:Int),Value.int .i64 x.2]) (Below n₀) (fun ys=>ys=lvUp b r tr tr.length)
      (fun pre=>∃ k,k ≤ tr.length ∧ pre=lvUp b r tr k) tr.length w:=fun l J Jx W hW hJ _ hY h0=>by
  have hb:=hW.mono hn₀
  exact levels1_in F n h8 hro hn l Bb Bs n₀ A cap b r tr hbk htr hn₁ J Jx W hJ hY ((hb.cell (p:=⟨Bb,0,none⟩) hn₁.1).trans hB0) ((hb.cell (p:=⟨Bb,1,none⟩) hn₁.1).trans hB1) ((hb.cell (p:=⟨Bs,0,none⟩) hn₁.2).trans hBs) (hc.below hb (Nat.le_refl _)) h0 (Nat.le_trans hn₀ hW.size)
set_option maxRecDepth 100000 in
set_option maxHeartbeats 4000000 in
theorem first_in (F:Fence) (n:Nat) (h4:F.fn 47) (h6:F.fn 66) (h8:F.fn 83) (hro:F.round=none) (hn:3 ≤ n) (b r:Int) (A:Option Addr) (tr:List (Int × Int)) (cap:Nat)
    (hbk:1 ≤ b ∧ b ≤ 1048576 ∧ 1 ≤ r ∧ r ≤ 2097152) (htr:trE tr=0) (w:World) (hc:Arr2 w w.heap.size A tr) :
    CallsIn F n Tryz.prog 47 #[.agg #[.int .i64 b,.int .i64 r],.slice A tr.length cap] w (Ret w (.int .i64 (firstI b r tr))):=by
  have h1:1 ≤ n:=by omega
  have HC:=hide hc
  have HTR:=hide htr
  clear hc htr
  refine callsIn_of_wp_marks Tryz.func47 rfl h4 ?_ hro
  simp only [Tryz.ntmps47,List.size_toArray,List.length_cons,List.length_nil,Nat.reduceAdd,Nat.reduceSub,Array.replicate_succ,Array.replicate_zero,List.push_toArray,List.append_toArray,List.nil_append,List.cons_append]
  gi_wp2_with (gi_at_call 66; refine (levels_in F (n - 1) h6 hro _ _ _ _ _ _).mono ?_; rintro e w' ⟨rfl,rfl⟩)
  obtain ⟨W0,hW0⟩:∃ W0,(((w.alloc (.cells #[.int .i64 b,.int .i64 r] 33)).alloc (.cells #[.int .i64 0] 3)).alloc (.cells #[.int .i64 b,.int .i64 r] 33)).alloc (.cells #[.slice A tr.length cap] 85)=W0:=⟨_,rfl⟩
  have hsz:W0.heap.size=w.heap.size + 4:=by rw [← hW0]; simp
  have c0:W0.cell? ⟨w.heap.size + 1 + 1,0,none⟩=some (.int .i64 b):=by rw [← hW0,World.cell?_alloc_past _ _ _ (by simp),World.cell?_alloc_at _ _ _ _ (by simp)]; rfl
  have c1:W0.cell? ⟨w.heap.size + 1 + 1,1,none⟩=some (.int .i64 r):=by rw [← hW0,World.cell?_alloc_past _ _ _ (by simp),World.cell?_alloc_at _ _ _ _ (by simp)]; rfl
  have c2:W0.cell? ⟨w.heap.size + 1 + 1 + 1,0,none⟩=some (.slice A tr.length cap):=by rw [← hW0,World.cell?_alloc_at _ _ _ _ (by simp)]; rfl
  have bR:=((Boxed.new (w.alloc (.cells #[.int .i64 b,.int .i64 r] 33)) 3 (.int .i64 0)).alloc (.cells #[.int .i64 b,.int .i64 r] 33)).alloc (.cells #[.slice A tr.length cap] 85)
  rw [World.size_alloc,hW0] at bR
  have c3:=bR.cell
  have c4:=bR.frozen
  have hB0:Below w.heap.size w W0:=by
    rw [← hW0]
    exact ((((Below.refl _ w).alloc (by simp) _).alloc (by simp) _).alloc (by rw [World.size_alloc,World.size_alloc]; omega) _).alloc (by rw [World.size_alloc,World.size_alloc,World.size_alloc]; omega) _
  rw [hW0]
  clear hW0
  refine wpIn_rangeFunc_ownG hro h1 (gf:=83) (lb:=#[.pointer (some ⟨w.heap.size + 1 + 1,0,none⟩),.pointer (some ⟨w.heap.size + 1 + 1 + 1,0,none⟩)]) rfl h8 (enters_of Tryz.func83 (by kernel_rfl) rfl)
    (levels_stops F (n - 1) h8 hro (by omega) (w.heap.size + 1 + 1) (w.heap.size + 1 + 1 + 1) (w.heap.size + 4) A cap b r tr hbk HTR.out (by omega) W0 (by omega) c0 c1 c2 ((HC.out.below hB0 (Nat.le_refl _)).more (by omega))) belowK_t (belowK_b (by omega)) (Below.refl _ _) (fun _=>rfl)
    (fun pre W=>((∀ p ∈ pre,0 ≤ p.2) ∧ W.cell? ⟨w.heap.size + 1,0,none⟩=some (.int .i64 0) ∧ W.frozen? ⟨w.heap.size + 1,0,none⟩=false) ∧ Below w.heap.size w W)
    (fun c pre W=>(c=.ret ∧ ∃ ini last,pre=ini ++ [last] ∧ (∀ p ∈ ini,0 ≤ p.2) ∧ last.2 < 0 ∧ W.cell? ⟨w.heap.size + 1,0,none⟩=some (.int .i64 (last.1:Int))) ∧ Below w.heap.size w W)
    (OwnFrom.and (Own.from (fun s A B row hs hg hr=>⟨hs.1,cell_kept hs.2.1 hg hr,(frozen_kept hs.2.1 hg hr).trans hs.2.2⟩) _) (ownFrom_below (Nat.le_refl _) (by omega)))
    (fun c=>OwnFrom.and (Own.from (fun s A B row hs hg hr=>by obtain ⟨hc,ini,last,e1,e2,e3,e4⟩:=hs; exact ⟨hc,ini,last,e1,e2,e3,cell_kept e4 hg hr⟩) _) (ownFrom_below (Nat.le_refl _) (by omega)))
    ⟨⟨by simp,c3,c4⟩,hB0⟩
    (fun x=>{ tmps:=#[.agg #[.int .i64 b,.int .i64 r],.slice A tr.length cap,.pointer (some ⟨w.heap.size,0,none⟩),undef,.pointer (some ⟨w.heap.size + 1,0,none⟩),.int .i64 (x.1:Int),.int .i64 x.2,.agg #[.int .i64 b,.int .i64 r],.slice A tr.length cap,.func (.func 83) #[] #[.pointer (some ⟨w.heap.size + 1 + 1,0,none⟩),.pointer (some ⟨w.heap.size + 1 + 1 + 1,0,none⟩)],.int .i64 (x.1:Int),.int .i64 x.2,undef,undef,undef],defers:=[] }) ?assign ?body ?done ?stop
  case assign =>
    intro l x W K hK
    gi_wp2
    exact hK
  case body =>
    rintro l pre x W ⟨⟨hp,hcr,hfr⟩,hB⟩ _
    gi_wp2
    · have hx:x.2 < 0:=by assumption
      exact ⟨(KeepsOthers.setCell _ _ _).from _,⟨rfl,pre,x,rfl,hp,hx,World.cell?_setCell_same' _ _ _ (by rw [hcr]; rfl)⟩,hB.setCell (p:=⟨w.heap.size + 1,0,none⟩) (by simp) _⟩
    · have hx:0 ≤ x.2:=by assumption
      exact ⟨KeepsFrom.refl _ _,Below.refl _ _,⟨fun p hp'=>(List.mem_append.1 hp').elim (hp p) (fun e=>by simp at e; subst e; exact hx),hcr,hfr⟩,hB⟩
  case done =>
    rintro D ys W hD rfl ⟨⟨hne,hcr,hfr⟩,hB⟩ hK
    gi_wp2
    have hK':=(KeepsOthers.setCell W ⟨w.heap.size + 1,0,none⟩ (.int .i64 (-1))).same D _ hK rfl
    refine ⟨by simp,.inl ⟨_,_,rfl,run_takeDeferred hK',?_⟩⟩
    have hc5:=cell_kept (World.cell?_setCell_same' W ⟨w.heap.size + 1,0,none⟩ (.int .i64 (-1)) (by rw [hcr]; rfl)) (grownBy_putObj' _ D (.deferred none)) (fun r e=>by cases e; exact ⟨_,hK',rfl⟩)
    have hf:firstI b r tr=-1:=firstI_none fun j hj=>hne (j,lvN b r tr (j + 1)) (by simp only [lvUp,List.mem_map,List.mem_range]; exact ⟨j,hj,rfl⟩)
    refine ⟨.int .i64 (-1),?_,by rw [hf],(hB.setCell (p:=⟨w.heap.size + 1,0,none⟩) (by simp) _).trans (belowK_b (w:=w) (Nat.le_refl _) _ D _ _ (by omega) hK' rfl rfl)⟩
    simp [results,Tryz.f47,go_sem,hc5]
  case stop =>
    rintro D c pre W hD ⟨k,hk,rfl⟩ ⟨⟨rfl,ini,last,e1,e2,e3,hcr⟩,hB⟩ hK
    gi_wp2
    refine ⟨by simp,.inl ⟨_,_,rfl,run_takeDeferred hK,?_⟩⟩
    have hc5:=cell_kept hcr (grownBy_putObj' _ D (.deferred none)) (fun r e=>by cases e; exact ⟨_,hK,rfl⟩)
    obtain ⟨k',rfl⟩:∃ k',k=k' + 1:=by
      cases k with
      | zero => simp [lvUp] at e1
      | succ k' => exact ⟨k', rfl⟩
    rw [lvUp_succ] at e1
    obtain ⟨rfl,e5⟩:=List.append_inj' e1 rfl
    obtain rfl:(k',lvN b r tr (k' + 1))=last:=by simpa using e5
    have hf:firstI b r tr=k':=firstI_some (by omega) e3 fun j hj=>e2 (j,lvN b r tr (j + 1)) (by simp only [lvUp,List.mem_map,List.mem_range]; exact ⟨j,hj,rfl⟩)
    refine ⟨.int .i64 (k':Int),?_,by rw [hf],hB.trans (belowK_b (w:=w) (Nat.le_refl _) W D _ _ (by omega) hK rfl rfl)⟩
    simp [results,Tryz.f47,go_sem,hc5]
theorem first_w (b r:Int) (A:Option Addr) (tr:List (Int × Int)) (cap:Nat) (w:World) (hbk:1 ≤ b ∧ b ≤ 1048576 ∧ 1 ≤ r ∧ r ≤ 2097152) (htr:trE tr=0) (hc:Arr2 w w.heap.size A tr) :
    Calls Tryz.prog 47 #[.agg #[.int .i64 b,.int .i64 r],.slice A tr.length cap] w (Ret w (.int .i64 (firstI b r tr))) :=
  (callsIn_wide (n:=3)).1 (first_in Fence.wide 3 trivial trivial trivial rfl (by decide) b r A tr cap hbk htr w hc)
#print axioms first_w
end Go.Proofs.YtlngflbamkgjlaaGreat
namespace Go.Proofs.YtlngflbamkgjlaaGreat
def bkE (b r:Int):Int:=if 1 ≤ b ∧ b ≤ 1048576 ∧ 1 ≤ r ∧ r ≤ 2097152 then 0 else 130
theorem bkE_ok {b r:Int} (h:bkE b r=0):1 ≤ b ∧ b ≤ 1048576 ∧ 1 ≤ r ∧ r ≤ 2097152:=by
  unfold bkE at h; omega
theorem bkE_no {b r:Int} (h:¬ bkE b r=0):bkE b r=130:=by
  unfold bkE at *; omega
def up (b r n t:Int):Int:=min (b * 1048576) (n + r * t)
theorem up_up {b r n t u:Int} (hr:0 ≤ r) (ht:0 ≤ t) (hu:0 ≤ u):up b r (up b r n t) u=up b r n (t + u):=by
  have h1:=Int.mul_nonneg hr ht
  have h2:=Int.mul_nonneg hr hu
  unfold up
  rw [Int.mul_add]
  omega
end Go.Proofs.YtlngflbamkgjlaaGreat
namespace Go.Proofs.YtlngflbamkgjlaaGreat
open Go.RowKit
set_option linter.unusedVariables false
set_option linter.unusedSimpArgs false
set_option maxRecDepth 100000
def ckE (b r:Int) (l:List (Int × Int)):Int:=if bkE b r=0 then trE l else 130
theorem ckE_bk {b r:Int} {l:List (Int × Int)} (h:ckE b r l=0):1 ≤ b ∧ b ≤ 1048576 ∧ 1 ≤ r ∧ r ≤ 2097152:=by
  unfold ckE at h
  split at h
  · exact bkE_ok ‹_›
  · cases h
theorem ckE_tr {b r:Int} {l:List (Int × Int)} (h:ckE b r l=0):trE l=0:=by
  unfold ckE at h
  split at h
  · exact h
  · cases h
theorem ckE_zero {b r:Int} {l:List (Int × Int)} (h1:bkE b r=0) (h2:trE l=0):ckE b r l=0:=by unfold ckE; rw [if_pos h1,h2]
def cfB (b r:Int) (l:List (Int × Int)):Bool:=decide (ckE b r l=0 ∧ firstI b r l < 0)
theorem cfB_yes {b r:Int} {l:List (Int × Int)} (h:ckE b r l=0):cfB b r l=decide (firstI b r l < 0):=by simp [cfB,h]
theorem cfB_no {b r:Int} {l:List (Int × Int)} (h:¬ ckE b r l=0):cfB b r l=false:=by simp [cfB,h]
theorem bkCheck_w (b r:Int) (w0:World) :
    Calls Tryz.prog 20 #[.agg #[iv b,iv r]] w0 (Ret w0 (.int .i64 (bkE b r))):=by
 refine enterK 13 Tryz.func20 rfl rfl rfl ?_
 intro a hF Q0 hR0 hN0
 have hM:=Mem.start w0
 refine wp_seq_k fun K1 hK1=>wp_region_lit (wl (xN 1 1 (t:=33) (fun b=>.pointer (some ⟨b,0,none⟩)) #[iv b,iv r] hF hM fun bb1 a w hF hM=>xB 1 [(2,iv 0)] hF fun a hF=>wpList_nil (hK1 _ _ (wp_seq_k fun K2 hK2=>wp_seq_k fun K3 hK3=>?_))))
 by_cases hz1:1 ≤ b
 ·by_cases hz2:b ≤ 1048576
  ·by_cases hz3:1 ≤ r
   ·by_cases hz4:r ≤ 2097152
    ·refine wp_region_lit (xB 1 [(3,pt bb1 0)] hF fun a hF=>wl (xL 4 1 0 (v:=iv b) hF hM fun a w hF hM=>wl (xM 5 (v:=.bool true) hF hM (xC 39 #[iv b,iv 1,iv 1048576] hF (fun w hM=>inside_yes b 1 1048576 w hz1 hz2)) fun a w hF hM=>xB 3 [(6,.bool false),(7,.bool false),(8,pt bb1 1)] hF fun a hF=>wl (xL 9 1 1 (v:=iv r) hF hM fun a w hF hM=>wl (xM 10 (v:=.bool true) hF hM (xC 39 #[iv r,iv 1,iv 2097152] hF (fun w hM=>inside_yes r 1 2097152 w hz3 hz4)) fun a w hF hM=>xB 2 [(11,.bool false),(12,.bool false)] hF fun a hF=>wpList_nil (hK3 _ _ (xF hF (wp_skip ?_))))))))
     refine hK2 _ _ (wp_seq_k fun K4 hK4=>wp_region_lit (xB 1 [(2,iv 0)] hF fun a hF=>wpList_nil (hK4 _ _ (wp_ret (hR0 _ _ (ret_of hF hM (.tmp rfl (.nil)) (⟨ret_int (by unfold bkE; omega),hM.bel⟩)))))))
    refine wp_region_lit (xB 1 [(3,pt bb1 0)] hF fun a hF=>wl (xL 4 1 0 (v:=iv b) hF hM fun a w hF hM=>wl (xM 5 (v:=.bool true) hF hM (xC 39 #[iv b,iv 1,iv 1048576] hF (fun w hM=>inside_yes b 1 1048576 w hz1 hz2)) fun a w hF hM=>xB 3 [(6,.bool false),(7,.bool false),(8,pt bb1 1)] hF fun a hF=>wl (xL 9 1 1 (v:=iv r) hF hM fun a w hF hM=>wl (xM 10 (v:=.bool false) hF hM (xC 39 #[iv r,iv 1,iv 2097152] hF (fun w hM=>inside_no r 1 2097152 w (.inr hz4))) fun a w hF hM=>xB 2 [(11,.bool true),(12,.bool true)] hF fun a hF=>wpList_nil (hK3 _ _ (xT hF (wp_seq_k fun K5 hK5=>?_))))))))
    refine wp_region_lit (xB 1 [(2,iv 130)] hF fun a hF=>wpList_nil (hK5 _ _ (wp_ret (hR0 _ _ (ret_of hF hM (.tmp rfl (.nil)) (⟨ret_int (by unfold bkE; omega),hM.bel⟩))))))
   refine wp_region_lit (xB 1 [(3,pt bb1 0)] hF fun a hF=>wl (xL 4 1 0 (v:=iv b) hF hM fun a w hF hM=>wl (xM 5 (v:=.bool true) hF hM (xC 39 #[iv b,iv 1,iv 1048576] hF (fun w hM=>inside_yes b 1 1048576 w hz1 hz2)) fun a w hF hM=>xB 3 [(6,.bool false),(7,.bool false),(8,pt bb1 1)] hF fun a hF=>wl (xL 9 1 1 (v:=iv r) hF hM fun a w hF hM=>wl (xM 10 (v:=.bool false) hF hM (xC 39 #[iv r,iv 1,iv 2097152] hF (fun w hM=>inside_no r 1 2097152 w (.inl hz3))) fun a w hF hM=>xB 2 [(11,.bool true),(12,.bool true)] hF fun a hF=>wpList_nil (hK3 _ _ (xT hF (wp_seq_k fun K6 hK6=>?_))))))))
   refine wp_region_lit (xB 1 [(2,iv 130)] hF fun a hF=>wpList_nil (hK6 _ _ (wp_ret (hR0 _ _ (ret_of hF hM (.tmp rfl (.nil)) (⟨ret_int (by unfold bkE; omega),hM.bel⟩))))))
  refine wp_region_lit (xB 1 [(3,pt bb1 0)] hF fun a hF=>wl (xL 4 1 0 (v:=iv b) hF hM fun a w hF hM=>wl (xM 5 (v:=.bool false) hF hM (xC 39 #[iv b,iv 1,iv 1048576] hF (fun w hM=>inside_no b 1 1048576 w (.inr hz2))) fun a w hF hM=>xB 7 [(6,.bool true),(7,.bool true),(8,undef),(9,undef),(10,undef),(11,undef),(12,.bool true)] hF fun a hF=>wpList_nil (hK3 _ _ (xT hF (wp_seq_k fun K7 hK7=>wp_region_lit (xB 1 [(2,iv 130)] hF fun a hF=>wpList_nil ?_)))))))
  refine hK7 _ _ (wp_ret (hR0 _ _ (ret_of hF hM (.tmp rfl (.nil)) (⟨ret_int (by unfold bkE; omega),hM.bel⟩))))
 refine wp_region_lit (xB 1 [(3,pt bb1 0)] hF fun a hF=>wl (xL 4 1 0 (v:=iv b) hF hM fun a w hF hM=>wl (xM 5 (v:=.bool false) hF hM (xC 39 #[iv b,iv 1,iv 1048576] hF (fun w hM=>inside_no b 1 1048576 w (.inl hz1))) fun a w hF hM=>xB 7 [(6,.bool true),(7,.bool true),(8,undef),(9,undef),(10,undef),(11,undef),(12,.bool true)] hF fun a hF=>wpList_nil (hK3 _ _ (xT hF (wp_seq_k fun K8 hK8=>wp_region_lit (xB 1 [(2,iv 130)] hF fun a hF=>wpList_nil ?_)))))))
 refine hK8 _ _ (wp_ret (hR0 _ _ (ret_of hF hM (.tmp rfl (.nil)) (⟨ret_int (by unfold bkE; omega),hM.bel⟩))))
theorem bkcheck_w (b r:Int) (A:Option Addr) (l:List (Int × Int)) (c:Nat) (w0:World) (hA:Ro w0 A (flat2 l)) :
    Calls Tryz.prog 46 #[.agg #[iv b,iv r],.slice A l.length c] w0 (Ret w0 (.int .i64 (ckE b r l))):=by
 refine enterK 13 Tryz.func46 rfl rfl rfl ?_
 intro a hF Q0 hR0 hN0
 have hM:=Mem.start w0
 replace hM:=hM.addOld 1 hA (Nat.le_refl _)
 refine wp_seq_k fun K1 hK1=>wp_region_lit (wl (xN 2 2 (t:=33) (fun b=>.pointer (some ⟨b,0,none⟩)) #[iv b,iv r] hF hM fun bb1 a w hF hM=>xB 1 [(4,iv 0)] hF fun a hF=>wpList_nil (hK1 _ _ (wp_seq_k fun K2 hK2=>wp_seq_k fun K3 hK3=>wp_region_lit (wl (xL 6 2 0 (v:=.agg #[iv b,iv r]) hF hM fun a w hF hM=>wl (xM 7 (v:=iv (bkE b r)) hF hM (xC 20 #[.agg #[iv b,iv r]] hF (fun w hM=>bkCheck_w b r w)) fun a w hF hM=>xB 1 [(5,iv (bkE b r))] hF fun a hF=>?_)))))))
 refine wpList_nil (hK3 _ _ (wp_seq_k fun K4 hK4=>wp_region_lit (xB 2 [(8,iv (bkE b r)),(9,.bool (!decide (bkE b r=0)))] hF fun a hF=>wpList_nil (hK4 _ _ ?_))))
 by_cases hz1:bkE b r=0
 ·have hz2:=bkE_ok hz1
  replace hF:=hF.c hF (i:=9) (v:=.bool false) rfl (nT hz1)
  refine xF hF (wp_skip (hK2 _ _ (wp_seq_k fun K5 hK5=>wp_region_lit (xB 1 [(11,.slice A l.length c)] hF fun a hF=>wl (xM 12 (v:=iv (trE l)) hF hM (xC 65 #[.slice A l.length c] hF (fun w hM=>checkTrace_w A l _ w (hM.ok 1 _ rfl))) fun a w hF hM=>xB 1 [(4,iv (trE l))] hF fun a hF=>wpList_nil (hK5 _ _ (wp_ret (hR0 _ _ ?_))))))))
  refine ret_of hF hM (.tmp rfl (.nil)) (⟨ret_int (by unfold ckE; rw [if_pos hz1]),hM.bel⟩)
 replace hF:=hF.c hF (i:=9) (v:=.bool true) rfl (nF hz1)
 refine xT hF (wp_seq_k fun K6 hK6=>wp_region_lit (xB 2 [(10,iv (bkE b r)),(4,iv (bkE b r))] hF fun a hF=>wpList_nil (hK6 _ _ (wp_ret (hR0 _ _ (ret_of hF hM (.tmp rfl (.nil)) (⟨ret_int (by unfold ckE; rw [if_neg hz1,bkE_no hz1]),hM.bel⟩)))))))
theorem conforms_w (b r:Int) (A:Option Addr) (l:List (Int × Int)) (c:Nat) (w0:World) (hA:Ro w0 A (flat2 l)) :
    Calls Tryz.prog 28 #[.agg #[iv b,iv r],.slice A l.length c] w0 (Ret w0 (.tuple #[.bool (cfB b r l),.int .i64 (ckE b r l)])):=by
 refine enterK 17 Tryz.func28 rfl rfl rfl ?_
 intro a hF Q0 hR0 hN0
 have hM:=Mem.start w0
 replace hM:=hM.addOld 1 hA (Nat.le_refl _)
 refine wp_seq_k fun K1 hK1=>wp_region_lit (wl (xN 2 2 (t:=33) (fun b=>.pointer (some ⟨b,0,none⟩)) #[iv b,iv r] hF hM fun bb1 a w hF hM=>xB 2 [(4,.bool false),(5,iv 0)] hF fun a hF=>wpList_nil (hK1 _ _ (wp_seq_k fun K2 hK2=>wp_seq_k fun K3 hK3=>wp_region_lit (wl (xL 7 2 0 (v:=.agg #[iv b,iv r]) hF hM fun a w hF hM=>xB 1 [(8,.slice A l.length c)] hF fun a hF=>wl (xM 9 (v:=iv (ckE b r l)) hF hM (xC 46 #[.agg #[iv b,iv r],.slice A l.length c] hF (fun w hM=>bkcheck_w b r A l _ w (hM.ok 1 _ rfl))) fun a w hF hM=>?_)))))))
 refine xB 1 [(6,iv (ckE b r l))] hF fun a hF=>wpList_nil (hK3 _ _ (wp_seq_k fun K4 hK4=>wp_region_lit (xB 2 [(10,iv (ckE b r l)),(11,.bool (!decide (ckE b r l=0)))] hF fun a hF=>wpList_nil (hK4 _ _ ?_))))
 by_cases hz1:ckE b r l=0
 ·replace hF:=hF.c hF (i:=11) (v:=.bool false) rfl (nT hz1)
  refine xF hF (wp_skip (hK2 _ _ (wp_seq_k fun K5 hK5=>wp_region_lit (wl (xL 13 2 0 (v:=.agg #[iv b,iv r]) hF hM fun a w hF hM=>xB 1 [(14,.slice A l.length c)] hF fun a hF=>wl (xM 15 (v:=iv (firstI b r l)) hF hM (xC 47 #[.agg #[iv b,iv r],.slice A l.length c] hF (fun w hM=>first_w b r A l _ w (ckE_bk hz1) (ckE_tr hz1) (Ro.arr2 (hM.ok 1 _ rfl)))) fun a w hF hM=>xB 3 [(16,.bool (decide (firstI b r l < 0))),(4,.bool (decide (firstI b r l < 0))),(5,iv 0)] hF fun a hF=>wpList_nil (hK5 _ _ (wp_ret ?_))))))))
  refine hR0 _ _ (ret_of hF hM (.tmp rfl (.tmp rfl (.nil))) (⟨ret_eq (by rw [cfB_yes hz1,hz1]; rfl),hM.bel⟩))
 replace hF:=hF.c hF (i:=11) (v:=.bool true) rfl (nF hz1)
 refine xT hF (wp_seq_k fun K6 hK6=>wp_region_lit (xB 3 [(12,iv (ckE b r l)),(4,.bool false),(5,iv (ckE b r l))] hF fun a hF=>wpList_nil (hK6 _ _ (wp_ret (hR0 _ _ (ret_of hF hM (.tmp rfl (.tmp rfl (.nil))) (⟨ret_eq (by rw [cfB_no hz1]; rfl),hM.bel⟩)))))))
end Go.Proofs.YtlngflbamkgjlaaGreat
namespace Go.Proofs.YtlngflbamkgjlaaGreat
set_option linter.unusedVariables false
theorem pr_app_left {l m:List (Int × Int)} {k:Nat} (h:k < l.length):pr (l ++ m) k=pr l k:=by
  unfold pr
  rw [List.getD_eq_getElem?_getD,List.getD_eq_getElem?_getD,List.getElem?_append_left h]
theorem pr_app_here (l:List (Int × Int)) (x:Int × Int):pr (l ++ [x]) l.length=x:=by simp [pr]
theorem laN_app {l m:List (Int × Int)} {k:Nat} (h:k ≤ l.length):laN (l ++ m) k=laN l k:=by
  cases k with
  | zero => rfl
  | succ k => simp only [laN]; rw [pr_app_left (by omega)]
theorem lvN_app {b r:Int} {l m:List (Int × Int)}:∀ {k:Nat},k ≤ l.length → lvN b r (l ++ m) k=lvN b r l k
  | 0, _ => rfl
  | k + 1, h => by simp only [lvN]; rw [pr_app_left (by omega), laN_app (by omega), lvN_app (by omega)]
theorem trE_of {l:List (Int × Int)} (hl:l.length ≤ 200) (h:∀ i,i < l.length → laN l i ≤ (pr l i).1 ∧ (pr l i).1 ≤ 1099511627776 ∧ 1 ≤ (pr l i).2 ∧ (pr l i).2 ≤ 1048576):trE l=0 :=
  trE_yes hl (by have:=trOk_ofPr h l.length 0 (by omega); simpa [laN] using this)
theorem trE_snoc {l:List (Int × Int)} {t s:Int} (h:trE l=0) (hl:l.length < 200) (h1:laN l l.length ≤ t) (h2:t ≤ 1099511627776) (h3:1 ≤ s ∧ s ≤ 1048576):trE (l ++ [(t,s)])=0:=by
  refine trE_of (by simp; omega) fun i hi=>?_
  by_cases e:i < l.length
  · have:=tr_all h i e
    rw [laN_app (by omega),pr_app_left e]
    omega
  · have e:i=l.length:=by simp at hi; omega
    subst e
    rw [laN_app (Nat.le_refl _),pr_app_here]
    exact ⟨h1,h2,h3.1,h3.2⟩
theorem firstI_neg {b r:Int} {l:List (Int × Int)} (h:firstI b r l < 0):∀ j,j < l.length → 0 ≤ lvN b r l (j + 1):=by
  unfold firstI at h
  cases e:(List.range l.length).find? (fun j=>decide (lvN b r l (j + 1) < 0)) with
  | none =>
    rw [List.find?_eq_none] at e
    intro j hj
    have:=e j (List.mem_range.2 hj)
    simpa using this
  | some k =>
    rw [e] at h
    simp at h
    omega
theorem cf_iff {b r:Int} {l:List (Int × Int)}:cfB b r l=true ↔ ckE b r l=0 ∧ ∀ j,j < l.length → 0 ≤ lvN b r l (j + 1):=by
  unfold cfB
  rw [decide_eq_true_eq]
  constructor
  · rintro ⟨h1,h2⟩
    exact ⟨h1,firstI_neg h2⟩
  · rintro ⟨h1,h2⟩
    exact ⟨h1,by rw [firstI_none h2]; decide⟩
structure Bkt (b r la lev:Int) (l:List (Int × Int)):Prop where
  bk:bkE b r=0
  tr:trE l=0
  las:laN l l.length ≤ la
  lev:lev=up b r (lvN b r l l.length) (la - laN l l.length)
  pos:∀ j,j < l.length → 0 ≤ lvN b r l (j + 1)
theorem Bkt.nil {b r:Int} (h:bkE b r=0):Bkt b r 0 (b * 1048576) []:=by
  refine ⟨h,rfl,by simp [laN],?_,fun j hj=>by simp at hj⟩
  simp [up,lvN,laN]
theorem Bkt.wait {b r la lev t:Int} {l:List (Int × Int)} (H:Bkt b r la lev l) (h:la ≤ t):Bkt b r t (up b r lev (t - la)) l:=by
  have hb:=bkE_ok H.bk
  have h1:=H.las
  refine ⟨H.bk,H.tr,by omega,?_,H.pos⟩
  rw [H.lev,up_up (by omega) (by omega) (by omega),show la - laN l l.length + (t - la)=t - laN l l.length by omega]
theorem Bkt.last {b r la lev t s:Int} {l:List (Int × Int)} (H:Bkt b r la lev l) (h:la ≤ t):lvN b r (l ++ [(t,s)]) (l.length + 1)=up b r lev (t - la) - s * 1048576:=by
  have e:lvN b r (l ++ [(t,s)]) (l.length + 1)=up b r (lvN b r l l.length) (t - laN l l.length) - s * 1048576:=by
    simp only [lvN]
    rw [lvN_app (Nat.le_refl _),pr_app_here,laN_app (Nat.le_refl _)]
    rfl
  rw [e,(H.wait h).lev]
theorem Bkt.tr' {b r la lev t s:Int} {l:List (Int × Int)} (H:Bkt b r la lev l) (h:la ≤ t) (h2:t ≤ 1099511627776) (h3:1 ≤ s ∧ s ≤ 1048576) (hl:l.length < 200):trE (l ++ [(t,s)])=0:=by
  have:=H.las
  exact trE_snoc H.tr hl (by omega) h2 h3
theorem Bkt.snoc {b r la lev t s:Int} {l:List (Int × Int)} (H:Bkt b r la lev l) (h:la ≤ t) (h2:t ≤ 1099511627776) (h3:1 ≤ s ∧ s ≤ 1048576) (hl:l.length < 200) (hn:s * 1048576 ≤ up b r lev (t - la)) :
    Bkt b r t (up b r lev (t - la) - s * 1048576) (l ++ [(t,s)]):=by
  have hlast:=H.last (s:=s) h
  have hup:up b r lev (t - la) ≤ b * 1048576:=by unfold up; omega
  have e1:laN (l ++ [(t,s)]) (l ++ [(t,s)]).length=t:=by
    rw [List.length_append]
    show (pr (l ++ [(t,s)]) l.length).1=t
    rw [pr_app_here]
  have e2:lvN b r (l ++ [(t,s)]) (l ++ [(t,s)]).length=up b r lev (t - la) - s * 1048576:=by
    rw [List.length_append]
    exact hlast
  refine ⟨H.bk,H.tr' h h2 h3 hl,by omega,?_,fun j hj=>?_⟩
  · rw [e1,e2]
    unfold up at *
    simp
    omega
  · by_cases e:j < l.length
    · rw [lvN_app (by omega)]
      exact H.pos j e
    · have e:j=l.length:=by simp at hj; omega
      subst e
      rw [hlast]
      omega
theorem Bkt.ck {b r la lev:Int} {l:List (Int × Int)} (H:Bkt b r la lev l):ckE b r l=0:=ckE_zero H.bk H.tr
theorem Bkt.yes {b r la lev:Int} {l:List (Int × Int)} (H:Bkt b r la lev l):cfB b r l=true:=cf_iff.2 ⟨H.ck,H.pos⟩
def sumN (l:List (Int × Int)):Nat → Int
  | 0 => 0
  | k + 1 => sumN l k + (pr l k).2
theorem sumN_mono {l:List (Int × Int)} (h:trE l=0) {i:Nat}:∀ {k:Nat},i ≤ k → k ≤ l.length → sumN l i ≤ sumN l k
  | 0, h1, _ => by
    obtain rfl:i=0:=by omega
    omega
  | k + 1, h1, h2 => by
    by_cases e:i=k + 1
    · subst e; omega
    · have:=sumN_mono h (i:=i) (k:=k) (by omega) (by omega)
      have:=tr_all h k (by omega)
      simp only [sumN]
      omega
theorem at_mono {l:List (Int × Int)} (h:trE l=0) {i:Nat}:∀ {k:Nat},i ≤ k → k < l.length → (pr l i).1 ≤ (pr l k).1
  | 0, h1, _ => by
    obtain rfl:i=0:=by omega
    omega
  | k + 1, h1, h2 => by
    by_cases e:i=k + 1
    · subst e; omega
    · have:=at_mono h (i:=i) (k:=k) (by omega) (by omega)
      have:=tr_all h (k + 1) (by omega)
      simp only [laN] at this
      omega
theorem le_lvN {b r:Int} (hr:0 ≤ r) {l:List (Int × Int)} (h:trE l=0):∀ j,j < l.length → ∀ z:Int,z ≤ lvN b r l (j + 1) ↔ ∀ i,i ≤ j → z ≤ b * 1048576 + r * ((pr l j).1 - (pr l i).1) - 1048576 * (sumN l (j + 1) - sumN l i)
  | 0, hj, z => by
    have t:=tr_all h 0 hj
    have m:=Int.mul_nonneg hr (show 0 ≤ (pr l 0).1 - laN l 0 by omega)
    simp only [lvN]
    constructor
    · intro hz i hi
      obtain rfl:i=0:=by omega
      rw [Int.sub_self,Int.mul_zero]
      simp only [sumN]
      omega
    · intro H
      have:=H 0 (by omega)
      rw [Int.sub_self,Int.mul_zero] at this
      simp only [sumN] at this
      omega
  | j + 1, hj, z => by
    have ih:=le_lvN (b:=b) hr h j (by omega) (z + (pr l (j + 1)).2 * 1048576 - r * ((pr l (j + 1)).1 - (pr l j).1))
    have e:z ≤ lvN b r l (j + 1 + 1) ↔ z + (pr l (j + 1)).2 * 1048576 ≤ b * 1048576 ∧ z + (pr l (j + 1)).2 * 1048576 - r * ((pr l (j + 1)).1 - (pr l j).1) ≤ lvN b r l (j + 1):=by
      rw [show lvN b r l (j + 1 + 1)=min (b * 1048576) (lvN b r l (j + 1) + r * ((pr l (j + 1)).1 - (pr l j).1)) - (pr l (j + 1)).2 * 1048576 from rfl]
      omega
    have es:sumN l (j + 1 + 1)=sumN l (j + 1) + (pr l (j + 1)).2:=rfl
    rw [e,ih,es]
    constructor
    · rintro ⟨h1,h2⟩ i hi
      by_cases q:i=j + 1
      · subst q
        rw [Int.sub_self,Int.mul_zero]
        omega
      · have h3:=h2 i (by omega)
        have e3:r * ((pr l (j + 1)).1 - (pr l i).1)=r * ((pr l (j + 1)).1 - (pr l j).1) + r * ((pr l j).1 - (pr l i).1):=by rw [← Int.mul_add]; congr 1; omega
        omega
    · intro H
      refine ⟨?_,fun i hi=>?_⟩
      · have:=H (j + 1) (by omega)
        rw [Int.sub_self,Int.mul_zero] at this
        omega
      · have h3:=H i (by omega)
        have e3:r * ((pr l (j + 1)).1 - (pr l i).1)=r * ((pr l (j + 1)).1 - (pr l j).1) + r * ((pr l j).1 - (pr l i).1):=by rw [← Int.mul_add]; congr 1; omega
        omega
def okIJ (b r:Int) (l:List (Int × Int)) (i j:Nat):Prop:=(sumN l (j + 1) - sumN l i - b) * 1048576 ≤ r * ((pr l j).1 - (pr l i).1)
theorem cf_int {b r:Int} {l:List (Int × Int)} (hc:ckE b r l=0):cfB b r l=true ↔ ∀ i j,i ≤ j → j < l.length → okIJ b r l i j:=by
  have hb:=ckE_bk hc
  have ht:=ckE_tr hc
  rw [cf_iff]
  constructor
  · rintro ⟨_,H⟩ i j hij hj
    have:=(le_lvN (by omega) ht j hj 0).1 (H j hj) i hij
    unfold okIJ
    omega
  · intro H
    refine ⟨hc,fun j hj=>(le_lvN (by omega) ht j hj 0).2 fun i hi=>?_⟩
    have:=H i j hi hj
    unfold okIJ at this
    omega
def OkTo (b r:Int) (l:List (Int × Int)) (i j:Nat):Prop:=(∀ p q,p < i → p ≤ q → q < l.length → okIJ b r l p q) ∧ ∀ q,i ≤ q → q < j → okIJ b r l i q
theorem OkTo.zero (b r:Int) (l:List (Int × Int)):OkTo b r l 0 0:=⟨fun p q h=>by omega,fun q h1 h2=>by omega⟩
theorem OkTo.next {b r:Int} {l:List (Int × Int)} {i j:Nat} (h:OkTo b r l i j) (ho:okIJ b r l i j):OkTo b r l i (j + 1):=⟨h.1,fun q h1 h2=>by
  by_cases e:q=j
  · subst e; exact ho
  · exact h.2 q h1 (by omega)⟩
theorem OkTo.turn {b r:Int} {l:List (Int × Int)} {i j:Nat} (h:OkTo b r l i j) (hj:l.length ≤ j):OkTo b r l (i + 1) (i + 1):=⟨fun p q h1 h2 h3=>by
  by_cases e:p=i
  · subst e; exact h.2 q h2 (by omega)
  · exact h.1 p q (by omega) h2 h3,fun q h1 h2=>by omega⟩
theorem OkTo.all {b r:Int} {l:List (Int × Int)} {i j:Nat} (h:OkTo b r l i j) (hi:l.length ≤ i) (hc:ckE b r l=0):cfB b r l=true:=(cf_int hc).2 fun p q h1 h2=>h.1 p q (by omega) h1 h2
end Go.Proofs.YtlngflbamkgjlaaGreat
