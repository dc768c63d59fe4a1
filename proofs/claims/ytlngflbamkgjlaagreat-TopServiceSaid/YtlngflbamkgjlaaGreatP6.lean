/-
  Part 6 of the proof of TopService: Snd, TsZ, SvcA, SvcB, SvcC, SvcD, SvcE, SvcF, SvcG, SvcH, SvcI, SvcJ, SvcK, SvcL, DraftPlain, Open, OpenFlat, OpenRec, TopServiceW.
-/
import Derived.Test.YtlngflbamkgjlaaGreatRows
import Derived.ProofKit
import Derived.OpenShut
import Derived.ChangeOld
import Derived.Deep.SlicePairs
import Derived.Lib.SmallJoins
import Derived.Test.YtlngflbamkgjlaaGreatP5
namespace Go.Proofs.YtlngflbamkgjlaaGreat
set_option linter.unusedVariables false
set_option linter.unusedSimpArgs false
def gs0:List (Int × Int):=[(127,10)]
def ls0:List (List Int):=[[0,0,0,0,1000,0],[5,0,0,6,100,0]]
def cs0:List Int:=[4000,0,0,0,0,0,4000,0]
def cap0 (c:Nat):Int:=nt cs0 c
def fE1 (s:PS) (t:Int):PS:=⟨t,0,0,0,0,0,0,0,0,0,0,0,s.Q,s.l,s.g ++ [[t,s.x0,s.x1,s.x2,s.x3,s.x4]]⟩
def fE2 (s:PS) (t:Int):PS:=⟨t,0,0,0,0,0,0,0,0,0,0,0,upd s.Q s.x2.toNat ([[s.x0,s.x1,s.x2,s.x3,s.x4,s.rs,1]] ++ s.Q s.x2.toNat),s.l,s.g⟩
def fAr (s:PS) (t:Int):PS:={ s with now:=t,Q:=arQ cap0 s.Q (rc s.l 0 3).toNat [rc s.l 0 1,rc s.l 0 2,rc s.l 0 3,rc s.l 0 4,rc s.l 0 5,rc s.l 0 4,0] (rc s.l 0 4),l:=s.l.tail }
def fC0 (s:PS) (t:Int):PS:={ s with now:=t }
def fC1 (s:PS) (t:Int) (c:Nat):PS:=⟨t,1,rc (s.Q c) 0 0,rc (s.Q c) 0 1,rc (s.Q c) 0 2,rc (s.Q c) 0 3,rc (s.Q c) 0 4,rc (s.Q c) 0 5,rc (s.Q c) 0 6,t,t + rc (s.Q c) 0 5 * 10,0,upd s.Q c (s.Q c).tail,s.l,s.g⟩
def fC2 (s:PS) (t:Int):PS:={ s with now:=t,fn:=prE 10 s.bg t,rs:=s.x5 - prK 10 s.bg t + 24 }
def T0:PS:=⟨0,0,0,0,0,0,0,0,0,0,0,0,fun _=>[],ls0,[]⟩
def U0:PS:=fAr T0 0
def T1:PS:=fC1 U0 0 0
def U1:PS:=fAr T1 5
def T2:PS:=fC2 U1 5
def U2:PS:=fE2 T2 880
def T3:PS:=fC1 U2 880 6
def U3:PS:=fE1 T3 1880
def T4:PS:=fC1 U3 1880 0
def U4:PS:=fE1 T4 11480
def T5:PS:=fC0 U4 11480
instance (h:List (List Int)):Decidable (hdP h):=by unfold hdP WR; infer_instance
def wfB (s:PS):Bool:=(List.range 8).all (fun c=>decide (qkE (cap0 c) (s.Q c)=0)) && (decide (hdP (hdL s.Q)) && (decide (0 ≤ s.now ∧ s.now ≤ 20000) && (decide (s.bz=1 → s.rs ≠ 0 → ckP s.x0 s.x1 s.x2 s.x3 s.x4 s.rs 1=0 ∧ (1 ≤ (s.Q s.x2.toNat).length → rc (s.Q s.x2.toNat) 0 6 ≠ 1)) && ((List.range s.l.length).all (fun k=>decide (ckI (rc s.l k 1) (rc s.l k 2) (rc s.l k 3) (rc s.l k 4) (rc s.l k 5)=0)) && (decide (s.g.length ≤ 50) && decide (∀ x ∈ s.g,x.length=6))))))
theorem wf_of {s:PS} (h:wfB s=true):WFS cap0 20000 s:=by
  unfold wfB at h
  simp only [Bool.and_eq_true,decide_eq_true_eq,List.all_eq_true,List.mem_range] at h
  exact ⟨h.1,h.2.1,h.2.2.1,h.2.2.2.1,h.2.2.2.2.1,h.2.2.2.2.2.1,h.2.2.2.2.2.2⟩
def JS (s:PS):Prop:=s=T0 ∨ s=T1 ∨ s=T2 ∨ s=T3 ∨ s=T4 ∨ s=T5
def KS (t:Int) (s:PS):Prop:=(t=0 ∧ s=T0) ∨ (t=0 ∧ s=U0) ∨ (t=5 ∧ s=T1) ∨ (t=5 ∧ s=U1) ∨ (t=880 ∧ s=U2) ∨ (t=1880 ∧ s=U3) ∨ (t=11480 ∧ s=U4)
theorem tmT0:tmS gs0 10 10 0 T0=some 0:=by kernel_rfl
theorem tmT1:tmS gs0 10 10 0 T1=some 5:=by kernel_rfl
theorem tmT2:tmS gs0 10 10 0 T2=some 880:=by kernel_rfl
theorem tmT3:tmS gs0 10 10 0 T3=some 1880:=by kernel_rfl
theorem tmT4:tmS gs0 10 10 0 T4=some 11480:=by kernel_rfl
theorem tmT5:tmS gs0 10 10 0 T5=none:=by kernel_rfl
theorem stU0:stF (fun c=>mayP gs0 10 10 0 (hdL U0.Q) c 0) 8=some 0:=by kernel_rfl
theorem stU2:stF (fun c=>mayP gs0 10 10 0 (hdL U2.Q) c 880) 8=some 6:=by kernel_rfl
theorem stU3:stF (fun c=>mayP gs0 10 10 0 (hdL U3.Q) c 1880) 8=some 0:=by kernel_rfl
theorem stU4:stF (fun c=>mayP gs0 10 10 0 (hdL U4.Q) c 11480) 8=none:=by kernel_rfl
theorem pcU1:pcS gs0 10 10 0 U1 5:=⟨by decide,by kernel_rfl,of_decide_eq_true (by kernel_rfl)⟩
theorem runS:RunSteps gs0 10 10 0 cap0 20000 JS KS where
  wf:=fun s h=>by
    rcases h with rfl | rfl | rfl | rfl | rfl | rfl
    · exact wf_of (by kernel_rfl)
    · exact wf_of (by kernel_rfl)
    · exact wf_of (by kernel_rfl)
    · exact wf_of (by kernel_rfl)
    · exact wf_of (by kernel_rfl)
    · exact wf_of (by kernel_rfl)
  wf1:=fun t s h=>by
    rcases h with ⟨rfl,rfl⟩ | ⟨rfl,rfl⟩ | ⟨rfl,rfl⟩ | ⟨rfl,rfl⟩ | ⟨rfl,rfl⟩ | ⟨rfl,rfl⟩ | ⟨rfl,rfl⟩
    · exact ⟨wf_of (by kernel_rfl),⟨by decide,by decide⟩,fun h1 h2=>by first | exact absurd h1 (by decide) | exact ⟨⟨by decide,by decide⟩,by decide,by decide,by decide⟩⟩
    · exact ⟨wf_of (by kernel_rfl),⟨by decide,by decide⟩,fun h1 h2=>by first | exact absurd h1 (by decide) | exact ⟨⟨by decide,by decide⟩,by decide,by decide,by decide⟩⟩
    · exact ⟨wf_of (by kernel_rfl),⟨by decide,by decide⟩,fun h1 h2=>by first | exact absurd h1 (by decide) | exact ⟨⟨by decide,by decide⟩,by decide,by decide,by decide⟩⟩
    · exact ⟨wf_of (by kernel_rfl),⟨by decide,by decide⟩,fun h1 h2=>by first | exact absurd h1 (by decide) | exact ⟨⟨by decide,by decide⟩,by decide,by decide,by decide⟩⟩
    · exact ⟨wf_of (by kernel_rfl),⟨by decide,by decide⟩,fun h1 h2=>by first | exact absurd h1 (by decide) | exact ⟨⟨by decide,by decide⟩,by decide,by decide,by decide⟩⟩
    · exact ⟨wf_of (by kernel_rfl),⟨by decide,by decide⟩,fun h1 h2=>by first | exact absurd h1 (by decide) | exact ⟨⟨by decide,by decide⟩,by decide,by decide,by decide⟩⟩
    · exact ⟨wf_of (by kernel_rfl),⟨by decide,by decide⟩,fun h1 h2=>by first | exact absurd h1 (by decide) | exact ⟨⟨by decide,by decide⟩,by decide,by decide,by decide⟩⟩
  le:=fun s t h ht=>by
    rcases h with rfl | rfl | rfl | rfl | rfl | rfl
    · rw [tmT0] at ht; injection ht with ht; subst ht; decide
    · rw [tmT1] at ht; injection ht with ht; subst ht; decide
    · rw [tmT2] at ht; injection ht with ht; subst ht; decide
    · rw [tmT3] at ht; injection ht with ht; subst ht; decide
    · rw [tmT4] at ht; injection ht with ht; subst ht; decide
    · rw [tmT5] at ht; cases ht
  e0:=fun s t h ht htu hn=>by
    rcases h with rfl | rfl | rfl | rfl | rfl | rfl
    · rw [tmT0] at ht; injection ht with ht; subst ht; exact .inl ⟨rfl,rfl⟩
    · rw [tmT1] at ht; injection ht with ht; subst ht; exact .inr (.inr (.inl ⟨rfl,rfl⟩))
    · rw [tmT2] at ht; injection ht with ht; subst ht; exact absurd ⟨by decide,by decide⟩ hn
    · rw [tmT3] at ht; injection ht with ht; subst ht; exact absurd ⟨by decide,by decide⟩ hn
    · rw [tmT4] at ht; injection ht with ht; subst ht; exact absurd ⟨by decide,by decide⟩ hn
    · rw [tmT5] at ht; cases ht
  e1:=fun s t h ht htu hb hf hr=>by
    rcases h with rfl | rfl | rfl | rfl | rfl | rfl
    · rw [tmT0] at ht; injection ht with ht; subst ht; first | exact absurd hb (by decide) | exact absurd hf (by decide) | exact absurd hr (by decide)
    · rw [tmT1] at ht; injection ht with ht; subst ht; first | exact absurd hb (by decide) | exact absurd hf (by decide) | exact absurd hr (by decide)
    · rw [tmT2] at ht; injection ht with ht; subst ht; first | exact absurd hb (by decide) | exact absurd hf (by decide) | exact absurd hr (by decide)
    · rw [tmT3] at ht; injection ht with ht; subst ht; exact .inr (.inr (.inr (.inr (.inr (.inl ⟨rfl,rfl⟩)))))
    · rw [tmT4] at ht; injection ht with ht; subst ht; exact .inr (.inr (.inr (.inr (.inr (.inr (⟨rfl,rfl⟩))))))
    · rw [tmT5] at ht; cases ht
  e2:=fun s t h ht htu hb hf hr=>by
    rcases h with rfl | rfl | rfl | rfl | rfl | rfl
    · rw [tmT0] at ht; injection ht with ht; subst ht; first | exact absurd hb (by decide) | exact absurd hf (by decide) | exact absurd (by decide) hr
    · rw [tmT1] at ht; injection ht with ht; subst ht; first | exact absurd hb (by decide) | exact absurd hf (by decide) | exact absurd (by decide) hr
    · rw [tmT2] at ht; injection ht with ht; subst ht; exact .inr (.inr (.inr (.inr (.inl ⟨rfl,rfl⟩))))
    · rw [tmT3] at ht; injection ht with ht; subst ht; first | exact absurd hb (by decide) | exact absurd hf (by decide) | exact absurd (by decide) hr
    · rw [tmT4] at ht; injection ht with ht; subst ht; first | exact absurd hb (by decide) | exact absurd hf (by decide) | exact absurd (by decide) hr
    · rw [tmT5] at ht; cases ht
  ar:=fun s t h hl hx=>by
    rcases h with ⟨rfl,rfl⟩ | ⟨rfl,rfl⟩ | ⟨rfl,rfl⟩ | ⟨rfl,rfl⟩ | ⟨rfl,rfl⟩ | ⟨rfl,rfl⟩ | ⟨rfl,rfl⟩
    · exact .inr (.inl ⟨rfl,rfl⟩)
    · first | exact absurd hl (by decide) | exact absurd hx (by decide)
    · exact .inr (.inr (.inr (.inl ⟨rfl,rfl⟩)))
    · first | exact absurd hl (by decide) | exact absurd hx (by decide)
    · first | exact absurd hl (by decide) | exact absurd hx (by decide)
    · first | exact absurd hl (by decide) | exact absurd hx (by decide)
    · first | exact absurd hl (by decide) | exact absurd hx (by decide)
  c0:=fun s t h hno hb hs=>by
    rcases h with ⟨rfl,rfl⟩ | ⟨rfl,rfl⟩ | ⟨rfl,rfl⟩ | ⟨rfl,rfl⟩ | ⟨rfl,rfl⟩ | ⟨rfl,rfl⟩ | ⟨rfl,rfl⟩
    · exact absurd ⟨by decide,by decide⟩ hno
    · rw [stU0] at hs; cases hs
    · exact absurd ⟨by decide,by decide⟩ hno
    · exact absurd (show (1:Int)=1 from rfl) hb
    · rw [stU2] at hs; cases hs
    · rw [stU3] at hs; cases hs
    · exact ⟨.inr (.inr (.inr (.inr (.inr (rfl))))),by show tmS gs0 10 10 0 T5 ≠ _; rw [tmT5]; decide⟩
  c1:=fun s t c h hno hb hs=>by
    rcases h with ⟨rfl,rfl⟩ | ⟨rfl,rfl⟩ | ⟨rfl,rfl⟩ | ⟨rfl,rfl⟩ | ⟨rfl,rfl⟩ | ⟨rfl,rfl⟩ | ⟨rfl,rfl⟩
    · exact absurd ⟨by decide,by decide⟩ hno
    · rw [stU0] at hs; injection hs with hs; subst hs; exact ⟨.inr (.inl rfl),by show tmS gs0 10 10 0 T1 ≠ _; rw [tmT1]; decide⟩
    · exact absurd ⟨by decide,by decide⟩ hno
    · exact absurd (show (1:Int)=1 from rfl) hb
    · rw [stU2] at hs; injection hs with hs; subst hs; exact ⟨.inr (.inr (.inr (.inl rfl))),by show tmS gs0 10 10 0 T3 ≠ _; rw [tmT3]; decide⟩
    · rw [stU3] at hs; injection hs with hs; subst hs; exact ⟨.inr (.inr (.inr (.inr (.inl rfl)))),by show tmS gs0 10 10 0 T4 ≠ _; rw [tmT4]; decide⟩
    · rw [stU4] at hs; cases hs
  c2:=fun s t h hno hb hp=>by
    rcases h with ⟨rfl,rfl⟩ | ⟨rfl,rfl⟩ | ⟨rfl,rfl⟩ | ⟨rfl,rfl⟩ | ⟨rfl,rfl⟩ | ⟨rfl,rfl⟩ | ⟨rfl,rfl⟩
    · exact absurd ⟨by decide,by decide⟩ hno
    · exact absurd hb (by decide)
    · exact absurd ⟨by decide,by decide⟩ hno
    · exact ⟨.inr (.inr (.inl rfl)),by show tmS gs0 10 10 0 T2 ≠ _; rw [tmT2]; decide⟩
    · exact absurd hb (by decide)
    · exact absurd hb (by decide)
    · exact absurd hb (by decide)
  c3:=fun s t h hno hb hp=>by
    rcases h with ⟨rfl,rfl⟩ | ⟨rfl,rfl⟩ | ⟨rfl,rfl⟩ | ⟨rfl,rfl⟩ | ⟨rfl,rfl⟩ | ⟨rfl,rfl⟩ | ⟨rfl,rfl⟩
    · exact absurd ⟨by decide,by decide⟩ hno
    · exact absurd hb (by decide)
    · exact absurd ⟨by decide,by decide⟩ hno
    · exact absurd pcU1 hp
    · exact absurd hb (by decide)
    · exact absurd hb (by decide)
    · exact absurd hb (by decide)
theorem stopJ {s:PS} (h:JS s) (hs:stopS gs0 10 10 0 20000 s):s=T5:=by
  rcases hs with e | ⟨t,e,ht⟩
  · rcases h with rfl | rfl | rfl | rfl | rfl | rfl
    · rw [tmT0] at e; cases e
    · rw [tmT1] at e; cases e
    · rw [tmT2] at e; cases e
    · rw [tmT3] at e; cases e
    · rw [tmT4] at e; cases e
    · rfl
  · rcases h with rfl | rfl | rfl | rfl | rfl | rfl
    · rw [tmT0] at e; injection e with e; omega
    · rw [tmT1] at e; injection e with e; omega
    · rw [tmT2] at e; injection e with e; omega
    · rw [tmT3] at e; injection e with e; omega
    · rw [tmT4] at e; injection e with e; omega
    · rfl
def gone0:List (List Int):=[[1880,0,0,6,100,0],[11480,0,0,0,1000,0]]
theorem gone0_wr:WR 6 gone0:=by unfold WR gone0; simp
theorem goneT5:T5.g=gone0:=by kernel_rfl
theorem sRunS {P:Program} {n:NF} {F:List (Nat × Option Value)} {a:Act} {o:Oper} {w w0:World} {ops:Array Oper} {R:Exit → Act → World → Prop} {B:Nat} {L:List (Nat × Option Ent)} {K:Act → World → Prop} {d f:Nat} {args:Array Value} (k:Nat) {A:Option Addr} {gc:Nat} (hF:Fr n F a) (hM:Mem B w0 L w) (hg:wantF ops F o=some true) (hd:o.dst=some d) (hn:d < n) (hk:known F o=true) (hr:∀ w,(execOp (evF F) o).run P w=.ok (.enter f args) w)
    (hc:Calls P f args w (RunR A gs0 gc 10 10 0 20000 JS w))
    (kk:∀ (Aq:Option Addr) (gq:Nat) (gA:Option Addr) (gG:Nat) a' w',Fr n ((d,some (.tuple #[.agg #[.slice A 1 gc,.int .i64 10,.int .i64 10,.int .i64 0,.int .i64 20000,.slice Aq 8 gq,.bool false,.int .i64 0,.int .i64 0,.int .i64 0,.int .i64 0,.int .i64 0,.int .i64 0,.bool false,.int .i64 0,.int .i64 0,.int .i64 0],.slice gA 2 gG,.int .i64 0])) :: F) a' → Mem B w0 ((k,some (.ro gA (flatR gone0))) :: L) w' → K a' w'):One P ops R o K a w :=
  sRun k hF hM hg hd hn hk hr hc fun s Aq gq gA gG a' w' hJ hst hW ha hM'=>by
    obtain rfl:=stopJ hJ hst
    rw [goneT5] at hM'
    exact kk Aq gq gA gG a' w' ha hM'
theorem gs0_ok:gaE gs0 10=0:=by kernel_rfl
theorem gs0_rt:ofRt gs0 10 10 (100 * 10)=104857:=by kernel_rfl
theorem gs0_ops:opsL gs0=[]:=by kernel_rfl
theorem gs0_lt {lt:Int} (h:latP gs0 10 10 (100 * 10) 104857 lt):lt=1271:=by
  rcases h.2.2.2 with e | ⟨i,k,hi,_⟩
  · rw [e]; kernel_rfl
  · rw [gs0_ops] at hi
    exact absurd hi (Nat.not_lt_zero i)
theorem cs0_bd:∀ k,k < 8 → 0 ≤ nt cs0 k ∧ nt cs0 k ≤ 65536:=by decide
theorem ls0_cm:cmP ls0 20000:=⟨by unfold WR ls0; simp,by decide⟩
end Go.Proofs.YtlngflbamkgjlaaGreat
namespace Go.Proofs.YtlngflbamkgjlaaGreat
open Go.RowKit
set_option linter.unusedVariables false
set_option linter.unusedSimpArgs false
set_option maxRecDepth 100000
set_option maxHeartbeats 8000000 in
theorem sends_w (w0:World) :
    Calls Tryz.prog 4 #[] w0 (Ret w0 (.bool true)):=by
 refine enterK 77 Tryz.func4 rfl rfl rfl ?_
 intro a hF Q0 hR0 hN0
 have hM:=Mem.start w0
 refine wp_seq_k fun K1 hK1=>wp_region_lit (xB 1 [(0,.bool false)] hF fun a hF=>wpList_nil (hK1 _ _ (wp_seq_k fun K2 hK2=>wp_region_lit (xB 1 [(9,.agg #[iv 127,iv 10])] hF fun a hF=>wl (xN 10 1 (t:=31) (fun b=>.slice (some ⟨b,0,none⟩) 1 1) #[iv 127,iv 10] hF hM fun bb1 a w hF hM=>xB 1 [(11,.agg #[.slice (some ⟨bb1,0,none⟩) 1 1,iv 10])] hF fun a hF=>wl (xN 1 2 (t:=29) (fun b=>.pointer (some ⟨b,0,none⟩)) #[.slice none 0 0,iv 0] hF hM fun bb2 a w hF hM=>?_))))))
 refine wl (xS 2 0 #[.slice (some ⟨bb1,0,none⟩) 1 1,iv 10] hF hM fun w hM=>wpList_nil (hK2 _ _ (wp_seq_k fun K3 hK3=>wp_region_lit (wl (xL 13 2 0 (v:=.agg #[.slice (some ⟨bb1,0,none⟩) 1 1,iv 10]) hF hM fun a w hF hM=>xB 1 [(14,.agg #[.slice (some ⟨bb1,0,none⟩) 1 1,iv 10,iv 10,iv 0])] hF fun a hF=>wl (xN 15 3 (t:=3) (fun b=>.slice (some ⟨b,0,none⟩) 8 8) #[iv 4000,iv 0,iv 0,iv 0,iv 0,iv 0,iv 4000,iv 0] hF hM fun bb3 a w hF hM=>wl (sQ0 4 (f:=8) (args:=#[.agg #[.slice (some ⟨bb1,0,none⟩) 1 1,iv 10,iv 10,iv 0],.slice (some ⟨bb3,0,none⟩) 8 8]) (mk:=(fun s=>.tuple #[.agg #[.slice (some ⟨bb1,0,none⟩) 1 1,iv 10,iv 10,iv 0,.int .i64 0,s,.bool false,.int .i64 0,.int .i64 0,.int .i64 0,.int .i64 0,.int .i64 0,.int .i64 0,.bool false,.int .i64 0,.int .i64 0,.int .i64 0],.int .i64 0])) (cap':=cap0) (Q':=fun _=>[]) hF hM (by kernel_rfl) rfl (by decide) (by kernel_rfl) (fun _=>by kernel_rfl) (pNew_w (some ⟨bb1,0,none⟩) gs0 1 10 10 0 (some ⟨bb3,0,none⟩) cs0 8 w (hM.roRow (k:=1) rfl) gs0_ok ⟨by decide,by decide,by decide,by decide⟩ (hM.roRow (k:=3) rfl) rfl cs0_bd) fun qA_ qC_ qS_ a w hF hM=>xB 3 [(12,.tuple #[.agg #[.slice (some ⟨bb1,0,none⟩) 1 1,iv 10,iv 10,iv 0,iv 0,.slice qA_ 8 qC_,.bool false,iv 0,iv 0,iv 0,iv 0,iv 0,iv 0,.bool false,iv 0,iv 0,iv 0],iv 0]),(17,.agg #[.slice (some ⟨bb1,0,none⟩) 1 1,iv 10,iv 10,iv 0,iv 0,.slice qA_ 8 qC_,.bool false,iv 0,iv 0,iv 0,iv 0,iv 0,iv 0,.bool false,iv 0,iv 0,iv 0]),(18,iv 0)] hF fun a hF=>?_)))))))
 refine wl (xN 2 5 (t:=52) (fun b=>.pointer (some ⟨b,0,none⟩)) #[.slice none 0 0,iv 0,iv 0,iv 0,iv 0,.slice none 0 0,.bool false,iv 0,iv 0,iv 0,iv 0,iv 0,iv 0,.bool false,iv 0,iv 0,iv 0] hF hM fun bb4 a w hF hM=>?_)
 refine wl (xS 5 0 #[.slice (some ⟨bb1,0,none⟩) 1 1,iv 10,iv 10,iv 0,iv 0,.slice qA_ 8 qC_,.bool false,iv 0,iv 0,iv 0,iv 0,iv 0,iv 0,.bool false,iv 0,iv 0,iv 0] hF hM fun w hM=>xB 1 [(3,iv 0)] hF fun a hF=>wpList_nil (hK3 _ _ (wp_seq_k fun K4 hK4=>wp_region_lit (wl (xL 20 5 0 (v:=.agg #[.slice (some ⟨bb1,0,none⟩) 1 1,iv 10,iv 10,iv 0,iv 0,.slice qA_ 8 qC_,.bool false,iv 0,iv 0,iv 0,iv 0,iv 0,iv 0,.bool false,iv 0,iv 0,iv 0]) hF hM fun a w hF hM=>xB 4 [(21,.agg #[iv 0,iv 0,iv 0,iv 1000,iv 0]),(22,.agg #[iv 0,iv 0,iv 0,iv 0,iv 1000,iv 0]),(23,.agg #[iv 0,iv 0,iv 6,iv 100,iv 0]),(24,.agg #[iv 5,iv 0,iv 0,iv 6,iv 100,iv 0])] hF fun a hF=>wl (xN 25 6 (t:=63) (fun b=>.slice (some ⟨b,0,none⟩) 2 2) #[iv 0,iv 0,iv 0,iv 0,iv 1000,iv 0,iv 5,iv 0,iv 0,iv 6,iv 100,iv 0] hF hM fun bb5 a w hF hM=>wl (sRunS 7 (A:=(some ⟨bb1,0,none⟩)) (gc:=1) (f:=10) (args:=#[.agg #[.slice (some ⟨bb1,0,none⟩) 1 1,iv 10,iv 10,iv 0,iv 0,.slice qA_ 8 qC_,.bool false,iv 0,iv 0,iv 0,iv 0,iv 0,iv 0,.bool false,iv 0,iv 0,iv 0],.slice (some ⟨bb5,0,none⟩) 2 2,iv 20000]) hF hM (by kernel_rfl) rfl (by decide) (by kernel_rfl) (fun _=>by kernel_rfl) (run_w (some ⟨bb1,0,none⟩) gs0 1 10 10 0 _ qA_ qC_ cap0 (fun _=>[]) (some ⟨bb5,0,none⟩) ls0 2 20000 JS KS w (hM.roRow (k:=1) rfl) (hM.ok 4 _ rfl).1 (fun c hc=>qk_nil (cs0_bd c hc)) gs0_ok ⟨by decide,by decide,by decide,by decide⟩ (fun _ _=>rfl) (hM.roRow (k:=6) rfl) (by decide) ls0_cm ⟨by decide,by decide⟩ (by decide) runS (.inl rfl)) fun pA_ pC_ rA_ rC_ a w hF hM=>?_)))))))
 have hWg:=gone0_wr
 have hg0:gone0.length=2:=rfl
 refine xB 4 [(19,.tuple #[.agg #[.slice (some ⟨bb1,0,none⟩) 1 1,iv 10,iv 10,iv 0,iv 20000,.slice pA_ 8 pC_,.bool false,iv 0,iv 0,iv 0,iv 0,iv 0,iv 0,.bool false,iv 0,iv 0,iv 0],.slice rA_ 2 rC_,iv 0]),(27,.agg #[.slice (some ⟨bb1,0,none⟩) 1 1,iv 10,iv 10,iv 0,iv 20000,.slice pA_ 8 pC_,.bool false,iv 0,iv 0,iv 0,iv 0,iv 0,iv 0,.bool false,iv 0,iv 0,iv 0]),(28,.slice rA_ 2 rC_),(29,iv 0)] hF fun a hF=>wl (xN 4 8 (t:=52) (fun b=>.pointer (some ⟨b,0,none⟩)) #[.slice none 0 0,iv 0,iv 0,iv 0,iv 0,.slice none 0 0,.bool false,iv 0,iv 0,iv 0,iv 0,iv 0,iv 0,.bool false,iv 0,iv 0,iv 0] hF hM fun bb6 a w hF hM=>?_)
 refine wl (xS 8 0 #[.slice (some ⟨bb1,0,none⟩) 1 1,iv 10,iv 10,iv 0,iv 20000,.slice pA_ 8 pC_,.bool false,iv 0,iv 0,iv 0,iv 0,iv 0,iv 0,.bool false,iv 0,iv 0,iv 0] hF hM fun w hM=>xB 2 [(5,.slice rA_ 2 rC_),(6,iv 0)] hF fun a hF=>wpList_nil (hK4 _ _ (wp_seq_k fun K5 hK5=>wp_region_lit (wl (xL 31 2 0 (v:=.agg #[.slice (some ⟨bb1,0,none⟩) 1 1,iv 10]) hF hM fun a w hF hM=>wl (sOf (f:=5) (args:=#[.agg #[.slice (some ⟨bb1,0,none⟩) 1 1,iv 10],iv 10,iv 100]) (ge:=gs0) (cyc:=10) (per:=10) (lost:=100 * 10) (rt:=104857) hF hM (by kernel_rfl) rfl (by decide) (by kernel_rfl) (fun _=>by kernel_rfl) (by have:=of_some (some ⟨bb1,0,none⟩) gs0 1 10 10 100 w (hM.roRow (k:=1) rfl) ⟨⟨by decide,by decide⟩,by decide,by decide⟩ gs0_ok (by rw [gs0_rt]; decide); rw [gs0_rt] at this; exact this) fun lt a w hlt hF hM=>?_))))))
 obtain rfl:lt=1271:=gs0_lt hlt
 refine xB 3 [(30,.tuple #[.agg #[iv 104857,iv 1271],iv 0]),(33,.agg #[iv 104857,iv 1271]),(34,iv 0)] hF fun a hF=>wl (xN 7 9 (t:=35) (fun b=>.pointer (some ⟨b,0,none⟩)) #[iv 0,iv 0] hF hM fun bb7 a w hF hM=>?_)
 refine wl (xS 9 0 #[iv 104857,iv 1271] hF hM fun w hM=>xB 1 [(8,iv 0)] hF fun a hF=>wpList_nil (hK5 _ _ (wp_seq_k fun K6 hK6=>wp_region_lit (xB 1 [(35,iv 0)] hF fun a hF=>wl (xP 36 (v0:=.bool (decide (0=0))) (v:=.bool true) hF (bT (by omega)) fun a hF=>xB 2 [(37,.bool true),(38,iv 0)] hF fun a hF=>wl (xP 39 (v0:=.bool (decide (0=0))) (v:=.bool true) hF (bT (by omega)) fun a hF=>xB 4 [(40,.bool true),(41,.bool true),(42,.slice rA_ 2 rC_),(43,iv 2)] hF fun a hF=>wl (xP 44 (v0:=.bool (decide (2=2))) (v:=.bool true) hF (bT (by omega)) fun a hF=>?_)))))))
 refine xB 3 [(45,.bool true),(46,.bool true),(47,.slice rA_ 2 rC_)] hF fun a hF=>wl (xM 48 (v:=.pointer (some (ea rA_ (0 * 6)))) hF hM (yld_ix (kd:=.i64) (e:=62) (len:=2) (cap:=rC_) (i:=0) (size:=6) (A:=rA_) hF rfl (by kernel_rfl) (by kernel_rfl) (by kernel_rfl) (by kernel_rfl) (by kernel_rfl) (roK 7 rfl) (by omega) (by omega) (by rw [flatR_length hWg]; (try simp only [List.length_map,List.length_append,List.length_replicate,List.length_set,List.length_cons,List.length_nil,flat2_length,List.length_take]); omega)) fun a w hF hM=>xB 1 [(49,.pointer (some (ea rA_ (0 * 6))))] hF fun a hF=>wl (xM 50 (v:=iv (rc gone0 0 0)) hF hM (yld_ro1 (A:=rA_) (j:=0 * 6) hF rfl (by kernel_rfl) (by kernel_rfl) (roK 7 rfl) (by kernel_rfl) (rc_at (n:=6) (k:=0) (i:=0) hWg (by omega) (by decide))) fun a w hF hM=>wl (xP 51 (v0:=.bool (decide (rc gone0 0 0=1880))) (v:=.bool true) hF (bT (by decide)) fun a hF=>xB 3 [(52,.bool true),(53,.bool true),(54,.slice rA_ 2 rC_)] hF fun a hF=>wl (xM 55 (v:=.pointer (some (ea rA_ (0 * 6)))) hF hM (yld_ix (kd:=.i64) (e:=62) (len:=2) (cap:=rC_) (i:=0) (size:=6) (A:=rA_) hF rfl (by kernel_rfl) (by kernel_rfl) (by kernel_rfl) (by kernel_rfl) (by kernel_rfl) (roK 7 rfl) (by omega) (by omega) (by rw [flatR_length hWg]; (try simp only [List.length_map,List.length_append,List.length_replicate,List.length_set,List.length_cons,List.length_nil,flat2_length,List.length_take]); omega)) fun a w hF hM=>xB 2 [(56,.pointer (some (ea rA_ (0 * 6 + 1)))),(57,.pointer (some (ea rA_ (0 * 6 + 1 + 2))))] hF fun a hF=>?_))))
 refine wl (xM 58 (v:=iv (rc gone0 0 3)) hF hM (yld_ro1 (A:=rA_) (j:=0 * 6 + 1 + 2) hF rfl (by kernel_rfl) (by kernel_rfl) (roK 7 rfl) (by kernel_rfl) (rc_at (n:=6) (k:=0) (i:=3) hWg (by omega) (by decide))) fun a w hF hM=>wl (xP 59 (v0:=.bool (decide (rc gone0 0 3=6))) (v:=.bool true) hF (bT (by decide)) fun a hF=>xB 3 [(60,.bool true),(61,.bool true),(62,.slice rA_ 2 rC_)] hF fun a hF=>wl (xM 63 (v:=.pointer (some (ea rA_ (1 * 6)))) hF hM (yld_ix (kd:=.i64) (e:=62) (len:=2) (cap:=rC_) (i:=1) (size:=6) (A:=rA_) hF rfl (by kernel_rfl) (by kernel_rfl) (by kernel_rfl) (by kernel_rfl) (by kernel_rfl) (roK 7 rfl) (by omega) (by omega) (by rw [flatR_length hWg]; (try simp only [List.length_map,List.length_append,List.length_replicate,List.length_set,List.length_cons,List.length_nil,flat2_length,List.length_take]); omega)) fun a w hF hM=>xB 1 [(64,.pointer (some (ea rA_ (1 * 6))))] hF fun a hF=>wl (xM 65 (v:=iv (rc gone0 1 0)) hF hM (yld_ro1 (A:=rA_) (j:=1 * 6) hF rfl (by kernel_rfl) (by kernel_rfl) (roK 7 rfl) (by kernel_rfl) (rc_at (n:=6) (k:=1) (i:=0) hWg (by omega) (by decide))) fun a w hF hM=>wl (xP 66 (v0:=.bool (decide (rc gone0 1 0=11480))) (v:=.bool true) hF (bT (by decide)) fun a hF=>xB 3 [(67,.bool true),(68,.bool true),(69,iv 0)] hF fun a hF=>wl (xP 70 (v0:=.bool (decide (0=0))) (v:=.bool true) hF (bT (by omega)) fun a hF=>xB 3 [(71,.bool true),(72,.bool true),(73,pt bb7 1)] hF fun a hF=>wl (xL 74 9 1 (v:=iv 1271) hF hM fun a w hF hM=>wl (xP 75 (v0:=.bool (decide (1271=1271))) (v:=.bool true) hF (bT (by omega)) fun a hF=>?_))))))))
 refine xB 2 [(76,.bool true),(0,.bool true)] hF fun a hF=>wpList_nil (hK6 _ _ (wp_ret (hR0 _ _ (ret_of hF hM (.tmp rfl (.nil)) (⟨rfl,hM.bel⟩)))))
end Go.Proofs.YtlngflbamkgjlaaGreat
namespace Go.Proofs.YtlngflbamkgjlaaGreat
set_option linter.unusedVariables false
set_option linter.unusedSimpArgs false
def cn (p:Int → Prop) [DecidablePred p] (a:Int):Nat → Int
  | 0 => 0
  | k + 1 => cn p a k + if p (a + k) then 1 else 0
def cnt (p:Int → Prop) [DecidablePred p] (a b:Int):Int:=cn p a (b - a).toNat
section
variable {p:Int → Prop} [DecidablePred p]
theorem cn_add (a:Int) (j:Nat):∀ k,cn p a (j + k)=cn p a j + cn p (a + j) k
  | 0 => by simp [cn]
  | k + 1 => by
    rw [← Nat.add_assoc,cn,cn_add a j k,cn,Int.add_assoc a j k,show ((j + k:Nat):Int)=(j:Int) + (k:Int) by omega]
    omega
theorem cnt_add {a b c:Int} (h1:a ≤ b) (h2:b ≤ c):cnt p a c=cnt p a b + cnt p b c:=by
  unfold cnt
  rw [show (c - a).toNat=(b - a).toNat + (c - b).toNat by omega,cn_add,show a + ((b - a).toNat:Int)=b by omega]
theorem cn_nn (a:Int):∀ k,0 ≤ cn p a k ∧ cn p a k ≤ (k:Int)
  | 0 => by simp [cn]
  | k + 1 => by
    have:=cn_nn a k
    simp only [cn]
    split <;> omega
theorem cnt_nn {a b:Int}:0 ≤ cnt p a b:=(cn_nn a _).1
theorem cnt_le {a b:Int} (h:a ≤ b):cnt p a b ≤ b - a:=by
  have:=(cn_nn (p:=p) a (b - a).toNat).2
  unfold cnt
  omega
theorem cnt_self (a:Int):cnt p a a=0:=by
  unfold cnt
  rw [Int.sub_self]
  rfl
theorem cn_all (a:Int):∀ k:Nat,(∀ x,a ≤ x → x < a + k → p x) → cn p a k=(k:Int)
  | 0, _ => rfl
  | k + 1, h => by
    rw [cn,cn_all a k fun x h1 h2=>h x h1 (by omega),if_pos (h _ (by omega) (by omega))]
    omega
theorem cnt_all {a b:Int} (h0:a ≤ b) (h:∀ x,a ≤ x → x < b → p x):cnt p a b=b - a:=by
  unfold cnt
  rw [cn_all a _ fun x h1 h2=>h x h1 (by omega)]
  omega
theorem cn_none (a:Int):∀ k:Nat,(∀ x,a ≤ x → x < a + k → ¬ p x) → cn p a k=0
  | 0, _ => rfl
  | k + 1, h => by
    rw [cn,cn_none a k fun x h1 h2=>h x h1 (by omega),if_neg (h _ (by omega) (by omega))]
    omega
theorem cnt_none {a b:Int} (h0:a ≤ b) (h:∀ x,a ≤ x → x < b → ¬ p x):cnt p a b=0:=cn_none a _ fun x h1 h2=>h x h1 (by omega)
theorem cnt_mono {a b c:Int} (h1:a ≤ b) (h2:b ≤ c):cnt p a b ≤ cnt p a c:=by
  rw [cnt_add h1 h2]
  have:=cnt_nn (p:=p) (a:=b) (b:=c)
  omega
end
theorem cnt_congr {p q:Int → Prop} [DecidablePred p] [DecidablePred q] {a b d:Int} (h:∀ x,p x ↔ q (x + d)):cnt p a b=cnt q (a + d) (b + d):=by
  unfold cnt
  rw [show b + d - (a + d)=b - a by omega]
  generalize (b - a).toNat=k
  induction k with
  | zero => rfl
  | succ k ih =>
    rw [cn,cn,ih]
    have:=h (a + k)
    rw [show a + (k:Int) + d=a + d + (k:Int) by omega] at this
    by_cases e:p (a + k)
    · rw [if_pos e,if_pos (this.1 e)]
    · rw [if_neg e,if_neg fun z=>e (this.2 z)]
variable {lo:List Int} {n:Nat}
theorem oP_alt {k:Nat} (h:k < n):oP (altL lo n) k ↔ k % 2=1:=by
  unfold oP
  rw [altL_at h]
  dsimp only
  rcases Nat.mod_two_eq_zero_or_one k with e | e
  · rw [e]; exact ⟨fun z=>absurd z (by decide),fun z=>by omega⟩
  · rw [e]; exact ⟨fun _=>rfl,fun _=>by decide⟩
theorem opB_alt {c:Int} (h0:0 ≤ c) (h:c ≤ 6) {k:Nat} (hk:k < n):opB c (pr (altL lo n) k).1=true ↔ k % 2=1:=by
  rw [altL_at hk]
  dsimp only
  obtain rfl | rfl | rfl | rfl | rfl | rfl | rfl:c=0 ∨ c=1 ∨ c=2 ∨ c=3 ∨ c=4 ∨ c=5 ∨ c=6:=by omega
  all_goals
    rcases Nat.mod_two_eq_zero_or_one k with e | e
    · rw [e]; exact ⟨fun z=>absurd z (by decide),fun z=>by omega⟩
    · rw [e]; exact ⟨fun _=>rfl,fun _=>by decide⟩
def opR (lo:List Int) (n k:Nat):List (Int × Int):=(List.range k).map fun r=>(sumL (altL lo n) (2 * r + 1),(pr (altL lo n) (2 * r + 1)).2)
theorem opR_succ (k:Nat):opR lo n (k + 1)=opR lo n k ++ [(sumL (altL lo n) (2 * k + 1),(pr (altL lo n) (2 * k + 1)).2)]:=by
  unfold opR
  rw [List.range_succ,List.map_append]
  rfl
theorem opR_len (k:Nat):(opR lo n k).length=k:=by simp [opR]
theorem opR_at {k r:Nat} (h:r < k):pr (opR lo n k) r=(sumL (altL lo n) (2 * r + 1),(pr (altL lo n) (2 * r + 1)).2):=by
  unfold opR
  generalize hf:(fun r=>(sumL (altL lo n) (2 * r + 1),(pr (altL lo n) (2 * r + 1)).2))=f
  have:f r=(sumL (altL lo n) (2 * r + 1),(pr (altL lo n) (2 * r + 1)).2):=by rw [← hf]
  rw [← this]
  simp [pr,List.getD_eq_getElem?_getD,h]
theorem os_alt (hb:bytP lo) (hn:n ≤ lo.length):∀ m,(2 * m < n → osF (altL lo n) 0 (2 * m)=(0,0,sumL (altL lo n) (2 * m + 1)) ∧ oeF (altL lo n) 0 (2 * m)=opR lo n m) ∧
    (2 * m + 1 < n → osF (altL lo n) 0 (2 * m + 1)=(sumL (altL lo n) (2 * m + 1),(pr (altL lo n) (2 * m + 1)).2,sumL (altL lo n) (2 * m + 2)) ∧ oeF (altL lo n) 0 (2 * m + 1)=opR lo n m)
  | 0 => by
    refine ⟨fun _=>⟨rfl,rfl⟩,fun h=>?_⟩
    have hm:(0 + 1 + 0) % (altL lo n).length=1:=by rw [altL_len]; exact Nat.mod_eq_of_lt (by omega)
    obtain ⟨e1,e2⟩:=os_open (f:=0) (o:=0) (t:=sumL (altL lo n) 1) (rfl:osF (altL lo n) 0 0=_) hm ((oP_alt (by omega)).2 rfl)
    rw [if_pos rfl] at e1
    refine ⟨e1.trans ?_,e2⟩
    rw [Int.zero_add]
    rfl
  | m + 1 => by
    obtain ⟨ih0,ih1⟩:=os_alt hb hn m
    have hev:2 * (m + 1) < n → osF (altL lo n) 0 (2 * (m + 1))=(0,0,sumL (altL lo n) (2 * (m + 1) + 1)) ∧ oeF (altL lo n) 0 (2 * (m + 1))=opR lo n (m + 1):=fun h=>by
      obtain ⟨q1,q2⟩:=ih1 (by omega)
      have hm:(0 + 1 + (2 * m + 1)) % (altL lo n).length=2 * m + 2:=by rw [altL_len,show 0 + 1 + (2 * m + 1)=2 * m + 2 by omega]; exact Nat.mod_eq_of_lt (by omega)
      obtain ⟨e1,e2,_⟩:=os_shut q1 hm (fun z=>by have:=(oP_alt (lo:=lo) (n:=n) (by omega)).1 z; omega)
      have hp:=(altL_bd hb hn (i:=2 * m + 1) (by omega)).2.1
      exact ⟨e1,(e2 (by omega)).trans (by rw [q2,opR_succ])⟩
    refine ⟨hev,fun h=>?_⟩
    obtain ⟨q1,q2⟩:=hev (by omega)
    have hm:(0 + 1 + 2 * (m + 1)) % (altL lo n).length=2 * (m + 1) + 1:=by rw [altL_len,show 0 + 1 + 2 * (m + 1)=2 * (m + 1) + 1 by omega]; exact Nat.mod_eq_of_lt (by omega)
    obtain ⟨e1,e2⟩:=os_open q1 hm ((oP_alt (by omega)).2 (by omega))
    rw [if_pos rfl] at e1
    refine ⟨e1.trans ?_,e2.trans q2⟩
    rw [Int.zero_add]
    rfl
theorem ops_alt (hb:bytP lo) (hn:n ≤ lo.length) (h1:1 ≤ n):opsL (altL lo n)=opR lo n (n / 2):=by
  have hld:ldN (altL lo n)=0:=ld_eq (by omega) (fun j hj=>by omega) (fun _ z=>by have:=(oP_alt (lo:=lo) (n:=n) (k:=0) (by omega)).1 z; omega)
  unfold opsL
  rw [hld,altL_len,if_neg (by omega)]
  have hz:∀ i,i + 1=n → (0 + 1 + i) % (altL lo n).length=0:=fun i hi=>by rw [altL_len,show 0 + 1 + i=n by omega]; exact Nat.mod_self n
  have hc:¬ oP (altL lo n) 0:=fun z=>by have:=(oP_alt (lo:=lo) (n:=n) (k:=0) (by omega)).1 z; omega
  rcases Nat.mod_two_eq_zero_or_one n with e | e
  · obtain ⟨m,rfl⟩:∃ m,n=2 * m + 1 + 1:=⟨n / 2 - 1,by omega⟩
    obtain ⟨q1,q2⟩:=(os_alt hb hn m).2 (by omega)
    obtain ⟨_,e2,_⟩:=os_shut q1 (hz _ rfl) hc
    have hp:=(altL_bd hb hn (i:=2 * m + 1) (by omega)).2.1
    rw [e2 (by omega),q2,show (2 * m + 1 + 1) / 2=m + 1 by omega,opR_succ]
  · obtain ⟨m,rfl⟩:∃ m,n=2 * m + 1:=⟨n / 2,by omega⟩
    obtain ⟨q1,q2⟩:=(os_alt hb hn m).1 (by omega)
    obtain ⟨_,_,e3⟩:=os_shut q1 (hz _ rfl) hc
    rw [e3 (by omega),q2,show (2 * m + 1) / 2=m by omega]
end Go.Proofs.YtlngflbamkgjlaaGreat
namespace Go.Proofs.YtlngflbamkgjlaaGreat
set_option linter.unusedVariables false
set_option linter.unusedSimpArgs false
structure Ops (L:List (Int × Int)) (cyc:Int):Prop where
  len:1 ≤ L.length
  cyc1:1 ≤ cyc
  first:0 ≤ (pr L 0).1
  pos:∀ r,r < L.length → 1 ≤ (pr L r).2
  next:∀ r,r + 1 < L.length → (pr L r).1 + (pr L r).2 + 1 ≤ (pr L (r + 1)).1
  wrap:(pr L (L.length - 1)).1 + (pr L (L.length - 1)).2 + 1 ≤ (pr L 0).1 + cyc
def frI (L:List (Int × Int)) (cyc:Int) (m:Nat):Int:=(pr L (m % L.length)).1 + ((m / L.length:Nat):Int) * cyc
def lnI (L:List (Int × Int)) (m:Nat):Int:=(pr L (m % L.length)).2
def yI (L:List (Int × Int)) (lost:Int) (m:Nat):Int:=max 0 (lnI L m - lost)
section
variable {L:List (Int × Int)} {cyc lost:Int}
theorem Ops.nxt (h:Ops L cyc) (m:Nat):frI L cyc m + lnI L m + 1 ≤ frI L cyc (m + 1):=by
  have hN:=h.len
  have hr:=Nat.mod_lt m (show L.length > 0 by omega)
  have hd:=Nat.div_add_mod m L.length
  unfold frI lnI
  by_cases e:m % L.length + 1 < L.length
  · have e1:(m + 1) % L.length=m % L.length + 1:=by
      rw [Nat.add_mod,Nat.mod_eq_of_lt (show 1 < L.length by omega)]
      exact Nat.mod_eq_of_lt e
    have e2:(m + 1) / L.length=m / L.length:=by
      refine Nat.div_eq_of_lt_le ?_ ?_
      · rw [Nat.mul_comm]; omega
      · rw [Nat.add_mul,Nat.mul_comm (m / L.length)]; omega
    rw [e1,e2]
    have:=h.next _ e
    omega
  · have e0:m % L.length=L.length - 1:=by omega
    have e3:m + 1=L.length * (m / L.length + 1):=by rw [Nat.mul_add]; omega
    have e1:(m + 1) % L.length=0:=by rw [e3]; exact Nat.mul_mod_right _ _
    have e2:(m + 1) / L.length=m / L.length + 1:=by rw [e3]; exact Nat.mul_div_cancel_left _ (by omega)
    rw [e1,e2,e0]
    have:=h.wrap
    rw [Int.natCast_add,Int.add_mul]
    omega
theorem Ops.ln1 (h:Ops L cyc) (m:Nat):1 ≤ lnI L m:=h.pos _ (Nat.mod_lt _ (by have:=h.len; omega))
theorem Ops.mono (h:Ops L cyc) (i:Nat):∀ k:Nat,frI L cyc i + (k:Int) ≤ frI L cyc (i + k)
  | 0 => by simp
  | k + 1 => by
    have:=h.mono i k
    have:=h.nxt (i + k)
    have:=h.ln1 (i + k)
    rw [← Nat.add_assoc]
    omega
theorem Ops.find (h:Ops L cyc) {x:Int} (h0:frI L cyc 0 ≤ x):∃ m,frI L cyc m ≤ x ∧ x < frI L cyc (m + 1):=by
  have key:∀ k,x < frI L cyc k → ∃ m,frI L cyc m ≤ x ∧ x < frI L cyc (m + 1):=by
    intro k
    induction k with
    | zero => intro hk; omega
    | succ k ih =>
      intro hk
      by_cases q:x < frI L cyc k
      · exact ih q
      · exact ⟨k,by omega,hk⟩
  have hf:0 ≤ frI L cyc 0:=by
    have:=h.first
    unfold frI
    rw [Nat.zero_mod,Nat.zero_div]
    simpa using this
  refine key (x.toNat + 1) ?_
  have:=h.mono 0 (x.toNat + 1)
  rw [Nat.zero_add] at this
  omega
theorem Ops.fr_cyc (h:Ops L cyc) (m:Nat):frI L cyc (m + L.length)=frI L cyc m + cyc:=by
  have:=h.len
  unfold frI
  rw [Nat.add_mod_right,Nat.add_div_right _ (by omega),Int.natCast_succ,Int.add_mul]
  omega
theorem sn_eq (i k:Nat) (h:1 ≤ L.length):snI L lost (i % L.length) (k + 1)=snI L lost (i % L.length) k + yI L lost (i + 1 + k):=by
  rw [snI,yI,lnI]
  rw [show (i % L.length + 1 + k) % L.length=(i + 1 + k) % L.length by rw [Nat.add_assoc,Nat.add_assoc,Nat.mod_add_mod]]
def cyY (L:List (Int × Int)) (lost:Int) (i:Nat):Nat → Int
  | 0 => 0
  | k + 1 => cyY L lost i k + yI L lost (i + k)
theorem cyY_shift (i:Nat):∀ k,cyY L lost i (k + 1)=yI L lost i + cyY L lost (i + 1) k
  | 0 => by simp [cyY]
  | k + 1 => by
    rw [cyY,cyY_shift i k,cyY,show i + 1 + k=i + (k + 1) by omega]
    omega
theorem yI_per (m:Nat):yI L lost (m + L.length)=yI L lost m:=by unfold yI lnI; rw [Nat.add_mod_right]
theorem cyY_all (h:1 ≤ L.length):∀ i,cyY L lost i L.length=cyY L lost 0 L.length
  | 0 => rfl
  | i + 1 => by
    rw [← cyY_all h i]
    have h1:=cyY_shift (L:=L) (lost:=lost) i L.length
    have h2:cyY L lost i (L.length + 1)=cyY L lost i L.length + yI L lost (i + L.length):=rfl
    rw [yI_per] at h2
    omega
theorem cyY_yld:∀ (M:List (Int × Int)) (k:Nat),M=L.drop k → k + M.length=L.length → cyY L lost k M.length=yldF lost M
  | [], _, _, _ => rfl
  | x :: r, k, h, hl => by
    simp only [List.length_cons] at hl
    rw [List.length_cons,cyY_shift,yldF,cyY_yld r (k + 1) (by rw [← List.tail_drop,← h]; rfl) (by omega)]
    have:pr L k=x:=by
      unfold pr
      rw [List.getD_eq_getElem?_getD,show L[k]?=(L.drop k)[0]? by rw [List.getElem?_drop]; rfl,← h]
      rfl
    unfold yI lnI
    rw [Nat.mod_eq_of_lt (by omega),this]
theorem cyY_tot (h:1 ≤ L.length) (i:Nat):cyY L lost i L.length=yldF lost L:=by
  rw [cyY_all h i]
  exact cyY_yld L 0 (by simp) (by simp)
theorem sn_cy (i:Nat) (h:1 ≤ L.length):∀ k j,snI L lost (i % L.length) (k + j)=snI L lost (i % L.length) k + cyY L lost (i + 1 + k) j
  | k, 0 => by simp [cyY]
  | k, j + 1 => by
    rw [← Nat.add_assoc,sn_eq i (k + j) h,sn_cy i h k j,cyY,Nat.add_assoc (i + 1) k j]
    omega
theorem sn_per (i k:Nat) (h:1 ≤ L.length):snI L lost (i % L.length) (k + L.length)=snI L lost (i % L.length) k + yldF lost L:=by
  rw [sn_cy i h,cyY_tot h]
structure Svc (L:List (Int × Int)) (cyc lost K rp T:Int):Prop where
  ops:Ops L cyc
  lost0:0 ≤ lost
  rp1:1 ≤ rp
  slope:rp ≤ 1048576
  cycY:rp * cyc ≤ 1048576 * yldF lost L
  base:1048576 * K ≤ rp * T
  lat:∀ i k:Nat,i < L.length → k < L.length → (pr L ((i + 1 + k) % L.length)).1 + (((i + 1 + k) / L.length:Nat):Int) * cyc + min lost (pr L ((i + 1 + k) % L.length)).2 - bgI L lost i - (snI L lost i k - K) * 1048576 / rp ≤ T
variable {K rp T:Int}
theorem Svc.gap (h:Svc L cyc lost K rp T) (i:Nat):∀ k,rp * (frI L cyc (i + 1 + k) - (frI L cyc i + yI L lost i) - T) ≤ 1048576 * (snI L lost (i % L.length) k - K):=by
  have hN:=h.ops.len
  intro k
  induction k using Nat.strongRecOn with
  | _ k ih =>
    by_cases hk:k < L.length
    · have hr:=Nat.mod_lt i (show L.length > 0 by omega)
      have hl:=h.lat (i % L.length) k hr hk
      have e1:(i % L.length + 1 + k) % L.length=(i + 1 + k) % L.length:=by rw [Nat.add_assoc,Nat.add_assoc,Nat.mod_add_mod]
      have e2:(i + 1 + k) / L.length=i / L.length + (i % L.length + 1 + k) / L.length:=by
        have hd:=Nat.div_add_mod i L.length
        rw [show i + 1 + k=i % L.length + 1 + k + L.length * (i / L.length) by omega,Nat.add_mul_div_left _ _ (by omega)]
        omega
      rw [e1] at hl
      have hq:=Int.ediv_mul_le ((snI L lost (i % L.length) k - K) * 1048576) (show rp ≠ 0 by have:=h.rp1; omega)
      have h0:=h.lost0
      have hp:0 ≤ rp:=by have:=h.rp1; omega
      have hpos:=h.ops.pos ((i + 1 + k) % L.length) (Nat.mod_lt _ (by omega))
      have hb:frI L cyc (i + 1 + k) - (frI L cyc i + yI L lost i) - T ≤ (snI L lost (i % L.length) k - K) * 1048576 / rp:=by
        unfold frI yI lnI
        unfold bgI at hl
        rw [e2,Int.natCast_add,Int.add_mul]
        omega
      have:=Int.mul_le_mul_of_nonneg_left hb hp
      rw [Int.mul_comm rp ((snI L lost (i % L.length) k - K) * 1048576 / rp)] at this
      omega
    · obtain ⟨j,rfl⟩:∃ j,k=j + L.length:=⟨k - L.length,by omega⟩
      have:=ih j (by omega)
      have hc:=h.cycY
      rw [← Nat.add_assoc,h.ops.fr_cyc,sn_per i j hN]
      rw [show frI L cyc (i + 1 + j) + cyc - (frI L cyc i + yI L lost i) - T=frI L cyc (i + 1 + j) - (frI L cyc i + yI L lost i) - T + cyc by omega,Int.mul_add]
      omega
theorem Svc.main (h:Svc L cyc lost K rp T) {p:Int → Prop} [DecidablePred p] (hp:∀ m x,frI L cyc m ≤ x → x < frI L cyc m + yI L lost m → p x) {B t:Int} (hB:frI L cyc 0 ≤ B) (ht:B ≤ t):rp * (t - B - T) ≤ 1048576 * (cnt p B t - K):=by
  have hN:=h.ops.len
  have hr0:0 ≤ rp:=by have:=h.rp1; omega
  have hsl:=h.slope
  have hyn:∀ m,0 ≤ yI L lost m:=fun m=>by unfold yI; omega
  have hyl:∀ m,frI L cyc m + yI L lost m ≤ frI L cyc (m + 1):=fun m=>by
    have:=h.ops.nxt m
    have:=h.ops.ln1 m
    have:=h.lost0
    unfold yI
    omega
  obtain ⟨i,hi1,hi2⟩:=h.ops.find hB
  obtain ⟨c0,hc0⟩:∃ c,c=max 0 (frI L cyc i + yI L lost i - B):=⟨_,rfl⟩
  -- the credit of the first opening
  have hcr:rp * (frI L cyc i + yI L lost i - B) ≤ 1048576 * c0:=by
    by_cases q:B ≤ frI L cyc i + yI L lost i
    · have e:c0=frI L cyc i + yI L lost i - B:=by omega
      rw [e]
      exact Int.mul_le_mul_of_nonneg_right hsl (by omega)
    · have:=Int.mul_nonneg hr0 (show 0 ≤ B - (frI L cyc i + yI L lost i) by omega)
      rw [show frI L cyc i + yI L lost i - B=-(B - (frI L cyc i + yI L lost i)) by omega,Int.mul_neg]
      omega
  have hct:∀ x,B ≤ x → x ≤ frI L cyc (i + 1) → min (x - B) c0 ≤ cnt p B x:=fun x h1 h2=>by
    by_cases q:x ≤ B + c0
    · rw [cnt_all h1 fun z z1 z2=>hp i z (by omega) (by omega)]
      omega
    · have h3:B + c0 ≤ x:=by omega
      have:=cnt_mono (p:=p) (show B ≤ B + c0 by omega) h3
      rw [cnt_all (show B ≤ B + c0 by omega) fun z z1 z2=>hp i z (by omega) (by omega)] at this
      omega
  -- the openings in between
  have hY:∀ k,c0 + snI L lost (i % L.length) k ≤ cnt p B (frI L cyc (i + 1 + k)):=by
    intro k
    induction k with
    | zero =>
      have:=hct (frI L cyc (i + 1)) (by omega) (Int.le_refl _)
      have:=hyl i
      rw [snI,Nat.add_zero]
      omega
    | succ k ih =>
      have hm:=h.ops.mono (i + 1) k
      have h1:B ≤ frI L cyc (i + 1 + k):=by omega
      have h2:=hyl (i + 1 + k)
      have h3:=hyn (i + 1 + k)
      have h4:=cnt_mono (p:=p) (show frI L cyc (i + 1 + k) ≤ frI L cyc (i + 1 + k) + yI L lost (i + 1 + k) by omega) h2
      rw [cnt_all (by omega) fun z z1 z2=>hp (i + 1 + k) z z1 z2] at h4
      rw [← Nat.add_assoc,cnt_add (p:=p) h1 (show frI L cyc (i + 1 + k) ≤ frI L cyc (i + 1 + k + 1) by omega),sn_eq i k hN]
      omega
  -- the time t
  have hbase:=h.base
  have hlin:∀ a b c:Int,rp * (a + b - c)=rp * a + rp * b - rp * c:=fun a b c=>by rw [Int.mul_sub,Int.mul_add]
  by_cases q:t < frI L cyc (i + 1)
  · have hc:=hct t ht (by omega)
    by_cases q2:t - B ≤ c0
    · have h1:rp * (t - B) ≤ 1048576 * (t - B):=Int.mul_le_mul_of_nonneg_right hsl (by omega)
      rw [Int.mul_sub]
      have:t - B ≤ cnt p B t:=by omega
      omega
    · have hg:=h.gap i 0
      rw [snI,Nat.add_zero] at hg
      have h1:=Int.mul_nonneg hr0 (show 0 ≤ frI L cyc (i + 1) - t by omega)
      have h2:rp * (t - B - T)=rp * (frI L cyc (i + 1) - (frI L cyc i + yI L lost i) - T) + rp * (frI L cyc i + yI L lost i - B) - rp * (frI L cyc (i + 1) - t):=by
        rw [← hlin]; congr 1; omega
      have:c0 ≤ cnt p B t:=by omega
      omega
  · obtain ⟨m,hm1,hm2⟩:=h.ops.find (show frI L cyc 0 ≤ t by omega)
    have him:i + 1 ≤ m:=by
      rcases Nat.lt_or_ge i m with z | z
      · exact z
      · have:=h.ops.mono (m + 1) (i - m)
        rw [show m + 1 + (i - m)=i + 1 by omega] at this
        omega
    obtain ⟨k,rfl⟩:∃ k,m=i + 1 + k:=⟨m - (i + 1),by omega⟩
    have hk:=hY k
    have hB1:B ≤ frI L cyc (i + 1 + k):=by have:=h.ops.mono (i + 1) k; omega
    rw [cnt_add (p:=p) hB1 hm1]
    by_cases q2:t ≤ frI L cyc (i + 1 + k) + yI L lost (i + 1 + k)
    · have hc:cnt p (frI L cyc (i + 1 + k)) t=t - frI L cyc (i + 1 + k):=cnt_all hm1 fun z z1 z2=>hp (i + 1 + k) z z1 (by omega)
      have hg:=h.gap i k
      have h1:rp * (t - frI L cyc (i + 1 + k)) ≤ 1048576 * (t - frI L cyc (i + 1 + k)):=Int.mul_le_mul_of_nonneg_right hsl (by omega)
      have h2:rp * (t - B - T)=rp * (frI L cyc (i + 1 + k) - (frI L cyc i + yI L lost i) - T) + rp * (frI L cyc i + yI L lost i - B) + rp * (t - frI L cyc (i + 1 + k)):=by
        rw [← Int.mul_add,← Int.mul_add]; congr 1; omega
      omega
    · have h4:=cnt_mono (p:=p) (show frI L cyc (i + 1 + k) ≤ frI L cyc (i + 1 + k) + yI L lost (i + 1 + k) by have:=hyn (i + 1 + k); omega) (show frI L cyc (i + 1 + k) + yI L lost (i + 1 + k) ≤ t by omega)
      rw [cnt_all (by have:=hyn (i + 1 + k); omega) fun z z1 z2=>hp (i + 1 + k) z z1 z2] at h4
      have hg:=h.gap i (k + 1)
      rw [sn_eq i k hN,← Nat.add_assoc] at hg
      have h1:=Int.mul_nonneg hr0 (show 0 ≤ frI L cyc (i + 1 + k + 1) - t by omega)
      have h2:rp * (t - B - T)=rp * (frI L cyc (i + 1 + k + 1) - (frI L cyc i + yI L lost i) - T) + rp * (frI L cyc i + yI L lost i - B) - rp * (frI L cyc (i + 1 + k + 1) - t):=by
        rw [← hlin]; congr 1; omega
      omega
end
end Go.Proofs.YtlngflbamkgjlaaGreat
namespace Go.Proofs.YtlngflbamkgjlaaGreat
set_option linter.unusedVariables false
set_option linter.unusedSimpArgs false
theorem opN_per {ge:List (Int × Int)} {cyc c t:Int} (k:Int):opN ge cyc c (t + k * cyc)=opN ge cyc c t:=by
  unfold opN strI
  rw [Int.add_mul_emod_self_right]
variable {lo:List Int} {n:Nat}
theorem alt_sum_mono (hb:bytP lo) (hn:n ≤ lo.length) {i k:Nat} (h:i ≤ k) (hk:k ≤ n):sumL (altL lo n) i ≤ sumL (altL lo n) k :=
  sumL_mono (n:=n) (fun j hj=>(altL_bd hb hn hj).2.1) h hk
theorem alt_sum1 (k:Nat):sumL (altL lo n) (k + 1)=sumL (altL lo n) k + (pr (altL lo n) k).2:=rfl
theorem alt_fI (hb:bytP lo) (hn:n ≤ lo.length) {k:Nat} (hk:k < n) {u:Int} (h1:sumL (altL lo n) k ≤ u) (h2:u < sumL (altL lo n) (k + 1)):fI (altL lo n) u=k :=
  fI_eq (fun j hj=>(altL_bd hb hn (by rwa [altL_len] at hj)).2.1) (by rw [altL_len]; exact hk) h1 h2
theorem opB_any (h1:1 ≤ n) (hga:gaE (altL lo n) (sumL (altL lo n) n)=0) {c x:Int} (h0:0 ≤ c) (h:c ≤ 6):opB c (mkA (altL lo n) (sumL (altL lo n) n) x)=true ↔ opB 6 (mkA (altL lo n) (sumL (altL lo n) n) x)=true:=by
  unfold mkA
  have hp:=ga_pos hga
  have hl:=(fI_lt hga (Int.emod_nonneg x (by omega)) (Int.emod_lt_of_pos x (by omega))).1
  rw [altL_len] at hl
  rw [opB_alt h0 h hl,opB_alt (by decide) (by decide) hl]
theorem not_alw (hb:bytP lo) (hn:n ≤ lo.length) (h1:1 ≤ n) (hga:gaE (altL lo n) (sumL (altL lo n) n)=0):¬ alwP (altL lo n) (sumL (altL lo n) n):=fun h=>by
  unfold alwP at h
  have hf:=(fits_iff (c:=6) (t:=0) (L:=1) hga (by decide)).1 (by rw [h]; decide) 0 (Int.le_refl _) (by decide)
  have hp:=(altL_bd hb hn (i:=0) (by omega)).2.1
  have h0:sumL (altL lo n) 0=0:=rfl
  unfold mkA at hf
  rw [Int.zero_emod,alt_fI hb hn (k:=0) (by omega) (by omega) (by rw [alt_sum1]; omega),opB_alt (by decide) (by decide) (by omega)] at hf
  omega
theorem yld_le (hb:bytP lo) (hn:n ≤ lo.length) {lost:Int} (hl:0 ≤ lost):∀ k,2 * k ≤ n → 0 ≤ yldF lost (opR lo n k) ∧ yldF lost (opR lo n k) ≤ sumL (altL lo n) (2 * k)
  | 0, _ => by simp [opR, yldF, sumL]
  | k + 1, hk => by
    obtain ⟨q1,q2⟩:=yld_le hb hn hl k (by omega)
    have h1:=(altL_bd hb hn (i:=2 * k) (by omega)).2.1
    have h2:=(altL_bd hb hn (i:=2 * k + 1) (by omega)).2.1
    rw [opR_succ,yldF_app]
    dsimp only
    have e1:sumL (altL lo n) (2 * (k + 1))=sumL (altL lo n) (2 * k) + (pr (altL lo n) (2 * k)).2 + (pr (altL lo n) (2 * k + 1)).2:=rfl
    rw [e1]
    omega
structure Sv (lo:List Int) (n:Nat) (per rt lt:Int):Prop where
  hb:bytP lo
  hn:n ≤ lo.length
  n1:1 ≤ n ∧ n ≤ 16
  per1:1 ≤ per ∧ per ≤ 5
  hrt:ofRt (altL lo n) (sumL (altL lo n) n) per (339 * per)=rt
  rt1:1 ≤ rt
  hlt:latP (altL lo n) (sumL (altL lo n) n) per (339 * per) rt lt
variable {per rt lt:Int}
theorem Sv.ga (h:Sv lo n per rt lt):gaE (altL lo n) (sumL (altL lo n) n)=0:=altL_ok h.hb h.hn h.n1.1 h.n1.2
theorem Sv.cyb (h:Sv lo n per rt lt):1 ≤ sumL (altL lo n) n ∧ sumL (altL lo n) n ≤ 326416:=by
  have:=altL_sum_bd h.hb n h.hn
  have:=h.n1
  omega
theorem Sv.yof (h:Sv lo n per rt lt):yofI (altL lo n) (sumL (altL lo n) n) (339 * per)=yldF (339 * per) (opR lo n (n / 2)):=by
  unfold yofI
  rw [if_neg (not_alw h.hb h.hn h.n1.1 h.ga),ops_alt h.hb h.hn h.n1.1]
theorem Sv.rtc (h:Sv lo n per rt lt):rt * per * sumL (altL lo n) n ≤ 1048576 * yldF (339 * per) (opR lo n (n / 2)):=by
  have hc:=h.cyb
  have hp:=h.per1
  have h1:1 ≤ sumL (altL lo n) n * per:=Int.le_trans hp.1 (by have:=Int.mul_le_mul_of_nonneg_right hc.1 (show 0 ≤ per by omega); omega)
  have h2:rt * (sumL (altL lo n) n * per) ≤ yldF (339 * per) (opR lo n (n / 2)) * 1048576:=by
    rw [← h.hrt,← h.yof]
    exact Int.ediv_mul_le _ (by omega)
  rw [show rt * per * sumL (altL lo n) n=rt * (sumL (altL lo n) n * per) by rw [Int.mul_comm (sumL (altL lo n) n) per,Int.mul_assoc]]
  omega
theorem Sv.N1 (h:Sv lo n per rt lt):1 ≤ n / 2:=by
  rcases Nat.eq_zero_or_pos (n / 2) with e | e
  · have h1:=h.rtc
    rw [e] at h1
    have h2:rt * per * sumL (altL lo n) n ≤ 0:=by simpa [opR,yldF] using h1
    have h3:=Int.mul_le_mul (Int.mul_le_mul h.rt1 h.per1.1 (by decide) (by have:=h.rt1; omega)) h.cyb.1 (by decide) (Int.mul_nonneg (by have:=h.rt1; omega) (by have:=h.per1; omega))
    omega
  · exact e
theorem Sv.rp1 (h:Sv lo n per rt lt):1 ≤ rt * per:=by
  have:=Int.mul_le_mul h.rt1 h.per1.1 (by decide) (by have:=h.rt1; omega)
  omega
theorem Sv.slope (h:Sv lo n per rt lt):rt * per ≤ 1048576:=by
  have h1:=h.rtc
  have h2:=(yld_le h.hb h.hn (lost:=339 * per) (by have:=h.per1; omega) (n / 2) (by omega)).2
  have h3:=alt_sum_mono h.hb h.hn (show 2 * (n / 2) ≤ n by omega) (Nat.le_refl n)
  have hc:=h.cyb
  refine Int.not_lt.1 fun q=>?_
  have h4:=Int.mul_le_mul_of_nonneg_right (show 1048576 + 1 ≤ rt * per by omega) (show 0 ≤ sumL (altL lo n) n by omega)
  rw [Int.add_mul] at h4
  omega
theorem Sv.base (h:Sv lo n per rt lt):1048576 * (127 * per) ≤ rt * per * lt:=by
  have h1:=h.hlt.2.1
  have hr:=h.rp1
  have h2:=Int.ediv_mul_le (-127 * per * 1048576) (show rt * per ≠ 0 by omega)
  unfold lt0 at h1
  have h3:- lt ≤ -127 * per * 1048576 / (rt * per):=by omega
  have h4:=Int.mul_le_mul_of_nonneg_right h3 (show 0 ≤ rt * per by omega)
  rw [Int.neg_mul,Int.mul_comm lt] at h4
  omega
theorem Sv.ops (h:Sv lo n per rt lt):Ops (opR lo n (n / 2)) (sumL (altL lo n) n):=by
  have hN:=h.N1
  have hbd:=fun i (hi:i < n)=>(altL_bd h.hb h.hn hi).2.1
  refine ⟨by rw [opR_len]; exact hN,h.cyb.1,?_,fun r hr=>?_,fun r hr=>?_,?_⟩
  · rw [opR_at (by omega)]
    have:=alt_sum_mono h.hb h.hn (show 0 ≤ 2 * 0 + 1 by omega) (show 2 * 0 + 1 ≤ n by omega)
    exact this
  · rw [opR_len] at hr
    rw [opR_at hr]
    exact hbd _ (by omega)
  · rw [opR_len] at hr
    rw [opR_at (by omega),opR_at (by omega)]
    have:=hbd (2 * r + 2) (by omega)
    have e:sumL (altL lo n) (2 * (r + 1) + 1)=sumL (altL lo n) (2 * r + 1) + (pr (altL lo n) (2 * r + 1)).2 + (pr (altL lo n) (2 * r + 2)).2:=rfl
    rw [e]
    dsimp only
    omega
  · rw [opR_len,opR_at (by omega),opR_at (by omega)]
    have h1:=alt_sum_mono h.hb h.hn (show 2 * (n / 2 - 1) + 1 + 1 ≤ n by omega) (Nat.le_refl n)
    rw [alt_sum1] at h1
    have h2:sumL (altL lo n) (2 * 0 + 1)=0 + (pr (altL lo n) 0).2:=rfl
    have:=hbd 0 (by omega)
    dsimp only
    omega
theorem Sv.svc (h:Sv lo n per rt lt):Svc (opR lo n (n / 2)) (sumL (altL lo n) n) (339 * per) (127 * per) (rt * per) lt:=by
  have hN:=h.N1
  refine ⟨h.ops,by have:=h.per1; omega,h.rp1,h.slope,h.rtc,h.base,fun i k hi hk=>?_⟩
  have:=h.hlt.2.2.1 i k (by rw [ops_alt h.hb h.hn h.n1.1]; exact hi) (by rw [ops_alt h.hb h.hn h.n1.1]; exact hk)
  rw [ops_alt h.hb h.hn h.n1.1] at this
  exact this
theorem Sv.opn (h:Sv lo n per rt lt) (m:Nat) (x:Int) (h1:frI (opR lo n (n / 2)) (sumL (altL lo n) n) m ≤ x) (h2:x < frI (opR lo n (n / 2)) (sumL (altL lo n) n) m + lnI (opR lo n (n / 2)) m):opB 6 (mkA (altL lo n) (sumL (altL lo n) n) x)=true:=by
  have hN:=h.N1
  have hr:=Nat.mod_lt m (show (opR lo n (n / 2)).length > 0 by rw [opR_len]; omega)
  unfold frI at h1 h2
  unfold lnI at h2
  rw [opR_len] at hr h1 h2
  rw [opR_at hr] at h1 h2
  obtain ⟨r,hr2⟩:∃ r,m % (n / 2)=r:=⟨_,rfl⟩
  obtain ⟨q,hq⟩:∃ q:Nat,m / (n / 2)=q:=⟨_,rfl⟩
  rw [hr2,hq] at h1 h2
  rw [hr2] at hr
  dsimp only at h1 h2
  have hlo:=alt_sum_mono h.hb h.hn (show 0 ≤ 2 * r + 1 by omega) (show 2 * r + 1 ≤ n by omega)
  have hhi:=alt_sum_mono h.hb h.hn (show 2 * r + 1 + 1 ≤ n by omega) (Nat.le_refl n)
  have e0:sumL (altL lo n) 0=0:=rfl
  have e1:=alt_sum1 (lo:=lo) (n:=n) (2 * r + 1)
  have hu:x % sumL (altL lo n) n=x - (q:Int) * sumL (altL lo n) n:=by
    rw [show x=x - (q:Int) * sumL (altL lo n) n + (q:Int) * sumL (altL lo n) n by omega,Int.add_mul_emod_self_right,Int.emod_eq_of_lt (by omega) (by omega)]
    omega
  unfold mkA
  rw [hu,alt_fI h.hb h.hn (k:=2 * r + 1) (by omega) (by omega) (by omega),opB_alt (by decide) (by decide) (by omega)]
  omega
def GP (lo:List Int) (n:Nat) (per sh x:Int):Prop:=339 * per ≤ opN (altL lo n) (sumL (altL lo n) n) 6 (x + sh)
instance (lo:List Int) (n:Nat) (per sh:Int):DecidablePred (GP lo n per sh):=fun x=>by unfold GP; infer_instance
theorem Sv.guar (h:Sv lo n per rt lt) {sh B t:Int} (hs:-1000 ≤ sh) (hB:0 ≤ B) (ht:B ≤ t):rt * per * (t - B - lt) ≤ 1048576 * (cnt (GP lo n per sh) B t - 127 * per):=by
  have hc:=h.cyb
  have hp:=h.per1
  let p:Int → Prop:=fun x=>339 * per ≤ opN (altL lo n) (sumL (altL lo n) n) 6 x
  have hd:∀ x,GP lo n per sh x ↔ p (x + (sh + 1001 * sumL (altL lo n) n)):=fun x=>by
    show _ ≤ _ ↔ _ ≤ _
    rw [← Int.add_assoc,opN_per]
  rw [cnt_congr (q:=p) (d:=sh + 1001 * sumL (altL lo n) n) hd]
  have hf:frI (opR lo n (n / 2)) (sumL (altL lo n) n) 0 ≤ B + (sh + 1001 * sumL (altL lo n) n):=by
    have hN:=h.N1
    unfold frI
    rw [Nat.zero_mod,Nat.zero_div,opR_at (by omega)]
    have:=alt_sum_mono h.hb h.hn (show 2 * 0 + 1 ≤ n by omega) (Nat.le_refl n)
    dsimp only
    omega
  have:=h.svc.main (p:=p) (fun m x h1 h2=>?_) hf (show B + (sh + 1001 * sumL (altL lo n) n) ≤ t + (sh + 1001 * sumL (altL lo n) n) by omega)
  · rw [show t + (sh + 1001 * sumL (altL lo n) n) - (B + (sh + 1001 * sumL (altL lo n) n)) - lt=t - B - lt by omega] at this
    exact this
  · refine (fits_iff h.ga (by omega)).2 fun z h3 h4=>h.opn m z (by omega) ?_
    unfold yI at h2
    omega
theorem snI_nn {L:List (Int × Int)} {lost:Int} {i:Nat}:∀ k,0 ≤ snI L lost i k
  | 0 => Int.le_refl _
  | k + 1 => by
    have:=snI_nn (L:=L) (lost:=lost) (i:=i) k
    rw [snI]
    omega
theorem Sv.quo (h:Sv lo n per rt lt) {a:Int} (ha:-127 * per * 1048576 ≤ a):-133169152 ≤ a / (rt * per):=by
  have hr:=h.rp1
  have h1:=Int.ediv_le_ediv (show 0 < rt * per by omega) ha
  rw [show -127 * per * 1048576=(-133169152) * per by omega,Int.mul_ediv_mul_of_pos_left _ _ (show 0 < per by have:=h.per1; omega)] at h1
  have h2:=(fd_bd (a:=-133169152) h.rt1).2 (by decide)
  omega
theorem svP:SvP:=fun lo n per rt lt hb hn h1 hp hrt hr hlt=>by
  have h:Sv lo n per rt lt:=⟨hb,hn,h1,hp,hrt,hr,hlt⟩
  have hc:=h.cyb
  have hsl:=h.slope
  have hr1:=h.rp1
  have hN:=h.N1
  have hrr:rt ≤ rt * per:=by have:=Int.mul_le_mul_of_nonneg_left hp.1 (show 0 ≤ rt by omega); omega
  have hlt2:lt ≤ 268435456:=by
    rcases hlt.2.2.2 with e | ⟨i,k,hi,hk,e⟩
    · have:=h.quo (a:=-127 * per * 1048576) (Int.le_refl _)
      rw [e,lt0]
      omega
    · rw [ops_alt hb hn h1.1] at hi hk e
      rw [opR_len] at hi hk
      have hq:=h.quo (a:=(snI (opR lo n (n / 2)) (339 * per) i k - 127 * per) * 1048576) (by have:=snI_nn (L:=opR lo n (n / 2)) (lost:=339 * per) (i:=i) k; omega)
      have hd:(i + 1 + k) / (n / 2) ≤ 1:=by
        have:=(Nat.div_lt_iff_lt_mul (show 0 < n / 2 by omega)).2 (show i + 1 + k < 2 * (n / 2) by omega)
        omega
      have hm:=Nat.mod_lt (i + 1 + k) (show n / 2 > 0 by omega)
      have hdc:(((i + 1 + k) / (n / 2):Nat):Int) * sumL (altL lo n) n ≤ sumL (altL lo n) n:=by
        have:=Int.mul_le_mul_of_nonneg_right (show (((i + 1 + k) / (n / 2):Nat):Int) ≤ 1 by omega) (show 0 ≤ sumL (altL lo n) n by omega)
        omega
      have h3:=alt_sum_mono hb hn (show 2 * ((i + 1 + k) % (n / 2)) + 1 ≤ n by omega) (Nat.le_refl n)
      have h4:=alt_sum_mono hb hn (show 0 ≤ 2 * i + 1 by omega) (show 2 * i + 1 ≤ n by omega)
      have e0:sumL (altL lo n) 0=0:=rfl
      have h5:=(altL_bd hb hn (i:=2 * i + 1) (by omega)).2.1
      unfold lvI bgI at e
      rw [opR_len,opR_at hm,opR_at hi] at e
      dsimp only at e
      omega
  exact svE_yes ⟨hr,by omega,hlt.1.1,hlt2⟩
end Go.Proofs.YtlngflbamkgjlaaGreat
namespace Go.Proofs.YtlngflbamkgjlaaGreat
set_option linter.unusedVariables false
set_option linter.unusedSimpArgs false
structure Lw (lo:List Int) (n:Nat) (per sh bu br rt lt:Int) (out:List (List Int)) (ow:List (Int × Int)):Prop where
  sv:Sv lo n per rt lt
  sh1:-1000 ≤ sh ∧ sh ≤ 1000
  bu1:339 ≤ bu ∧ bu ≤ 1359
  br1:1 ≤ br ∧ br ≤ 65536
  cs:csE bu br rt lt=0
  bl:blV bu br rt lt ≤ 65536
  cm:CmP bu br 2621400 out ow
  len:out.length ≤ 40
def opX (lo:List Int) (n:Nat) (sh x:Int):Prop:=opB 6 (mkA (altL lo n) (sumL (altL lo n) n) (x + sh))=true
variable {lo:List Int} {n:Nat} {per sh bu br rt lt:Int} {out:List (List Int)} {ow:List (Int × Int)}
theorem Lw.fit (H:Lw lo n per sh bu br rt lt out ow) {c:Nat} (hc:c ≤ 6) {t L:Int} (hL:L ≤ 1099511627776):L ≤ opN (altL lo n) (sumL (altL lo n) n) c (t + sh) ↔ ∀ x,t ≤ x → x < t + L → opX lo n sh x:=by
  rw [fits_iff H.sv.ga hL]
  unfold fitsP opX
  constructor
  · intro h x h1 h2
    exact (opB_any H.sv.n1.1 H.sv.ga (c:=(c:Int)) (by omega) (by omega)).1 (h (x + sh) (by omega) (by omega))
  · intro h x h1 h2
    have:=h (x - sh) (by omega) (by omega)
    rw [show x - sh + sh=x by omega] at this
    exact (opB_any H.sv.n1.1 H.sv.ga (c:=(c:Int)) (by omega) (by omega)).2 this
theorem Lw.gp (H:Lw lo n per sh bu br rt lt out ow) {t:Int}:GP lo n per sh t ↔ ∀ x,t ≤ x → x < t + 339 * per → opX lo n sh x:=H.fit (c:=6) (by decide) (by have:=H.sv.per1; omega)
theorem Lw.nogp (H:Lw lo n per sh bu br rt lt out ow) {t f L:Int} (hL:L ≤ 339 * per) (hn:¬ ∀ x,t ≤ x → x < t + L → opX lo n sh x) (ho:∀ x,t ≤ x → x < f → opX lo n sh x) {x:Int} (h1:t ≤ x) (h2:x ≤ f):¬ GP lo n per sh x:=fun hg=>by
  rw [H.gp] at hg
  refine hn fun z z1 z2=>?_
  by_cases q:z < f
  · exact ho z z1 q
  · exact hg z (by omega) (by omega)
theorem CmP.at' {out:List (List Int)} {ow:List (Int × Int)} {now:Int} (h:CmP bu br now out ow):trE ow=0:=ckE_tr (cf_iff.1 h.cf).1
theorem CmP.conf (h:CmP bu br 2621400 out ow) (hb:0 ≤ br) {i j:Nat} (hi:i ≤ j) (hj:j < ow.length):1048576 * (sumN ow (j + 1) - sumN ow i) ≤ 1048576 * bu + br * ((pr ow j).1 - (pr ow i).1):=by
  have h1:=(cf_iff.1 h.cf).2 j hj
  have:=(le_lvN hb h.at' j hj 0).1 h1 i hi
  omega
def F6 (l:List (List Int)):List (List Int):=l.filter fun x=>decide (x.getD 3 0=6)
def itm (x:List Int):List Int:=[x.getD 1 0,x.getD 2 0,x.getD 3 0,x.getD 4 0,x.getD 5 0]
def itP (x:List Int):List Int:=[x.getD 0 0,x.getD 1 0,x.getD 2 0,x.getD 3 0,x.getD 4 0]
theorem F6_nil:F6 []=[]:=rfl
theorem F6_app (l m:List (List Int)):F6 (l ++ m)=F6 l ++ F6 m:=List.filter_append ..
theorem F6_yes {x:List Int} (h:x.getD 3 0=6) (l:List (List Int)):F6 (x :: l)=x :: F6 l:=List.filter_cons_of_pos (by simpa using h)
theorem F6_no {x:List Int} (h:x.getD 3 0 ≠ 6) (l:List (List Int)):F6 (x :: l)=F6 l:=List.filter_cons_of_neg (by simpa using h)
theorem o6_F6:∀ l:List (List Int),o6 l=(F6 l).map fun x=>(x.getD 0 0,x.getD 4 0)
  | [] => rfl
  | x :: r => by
    rw [o6]
    by_cases e:x.getD 3 0=6
    · rw [if_pos e,F6_yes e,o6_F6 r]; rfl
    · rw [if_neg e,F6_no e,o6_F6 r]
theorem rec6 {x:List Int} (h:x.length=6):[x.getD 0 0,x.getD 1 0,x.getD 2 0,x.getD 3 0,x.getD 4 0,x.getD 5 0]=x:=by
  match x,h with
  | [a, b, c, d, e, f], _ => rfl
theorem rc_eq (l:List (List Int)) (k i:Nat):rc l k i=((l[k]?).getD []).getD i 0:=rfl
theorem f6L_F6 {l:List (List Int)} (h:WR 6 l):∀ k,k ≤ l.length → f6L l k=F6 (l.take k)
  | 0, _ => by simp [f6L, F6]
  | k + 1, hk => by
    have hx:(l[k]?).getD []=l[k]:=by rw [List.getElem?_eq_getElem (by omega)]; rfl
    have h6:l[k].length=6:=h _ (List.getElem_mem _)
    rw [f6L,f6L_F6 h k (by omega),List.take_succ_eq_append_getElem (by omega),F6_app]
    simp only [rc_eq,hx]
    by_cases e:l[k].getD 3 0=6
    · rw [if_pos e,F6_yes e,F6_nil,rec6 h6]
    · rw [if_neg e,F6_no e,F6_nil,List.append_nil]
theorem f6L_all {l:List (List Int)} (h:WR 6 l):f6L l l.length=F6 l:=by rw [f6L_F6 h _ (Nat.le_refl _),List.take_length]
theorem F6_at {l:List (List Int)} {k:Nat} (hk:k < l.length) (h6:rc l k 3=6):(F6 l)[(F6 (l.take k)).length]?=l[k]?:=by
  have hx:(l[k]?).getD []=l[k]:=by rw [List.getElem?_eq_getElem hk]; rfl
  have e:F6 l=F6 (l.take k) ++ F6 (l.drop k):=by rw [← F6_app,List.take_append_drop]
  rw [rc_eq,hx] at h6
  rw [e,List.getElem?_append_right (Nat.le_refl _),Nat.sub_self,List.drop_eq_getElem_cons hk,F6_yes h6,List.getElem?_eq_getElem hk]
  rfl
theorem rc_F6 {l:List (List Int)} {k i:Nat} (hk:k < l.length) (h6:rc l k 3=6):rc (F6 l) (F6 (l.take k)).length i=rc l k i:=by
  rw [rc_eq,rc_eq,F6_at hk h6]
theorem F6_lt {l:List (List Int)} {k:Nat} (hk:k < l.length) (h6:rc l k 3=6):(F6 (l.take k)).length < (F6 l).length:=by
  have:=F6_at hk h6
  rw [List.getElem?_eq_getElem hk] at this
  exact (List.getElem?_eq_some_iff.1 this).1
theorem itm_rc {l:List (List Int)} {k:Nat} (h:(l.map itm)[k]?=some [rc l k 1,rc l k 2,rc l k 3,rc l k 4,rc l k 5] ∨ k < l.length):k < l.length → (l.map itm)[k]?=some [rc l k 1,rc l k 2,rc l k 3,rc l k 4,rc l k 5]:=fun hk=>by
  rw [List.getElem?_map,List.getElem?_eq_getElem hk]
  simp only [rc_eq,List.getElem?_eq_getElem hk]
  rfl
theorem fin_of {all g:List (List Int)} {bd per:Int} (ha:WR 6 all) (hg:WR 6 g) (he:(F6 g).map itm=(F6 all).map itm) (ht:∀ k,k < (F6 g).length → rc (F6 g) k 0 ≤ rc (F6 all) k 0 + bd ∧ rc (F6 all) k 0 + rc (F6 all) k 4 * per ≤ rc (F6 g) k 0):FinP all g bd per:=by
  have hl:(F6 g).length=(F6 all).length:=by have:=congrArg List.length he; simpa using this
  refine ⟨by rw [f6L_all hg,f6L_all ha,hl],fun k hk h6=>?_⟩
  rw [f6L_all hg,f6L_F6 ha k (by omega)]
  have hlt:=F6_lt hk h6
  obtain ⟨q,hq⟩:∃ q,(F6 (all.take k)).length=q:=⟨_,rfl⟩
  have hr:∀ i,rc (F6 all) q i=rc all k i:=fun i=>by rw [← hq]; exact rc_F6 hk h6
  rw [hq] at hlt ⊢
  have e1:=itm_rc (l:=F6 g) (.inr (by omega:q < _)) (by omega)
  have e2:=itm_rc (l:=F6 all) (.inr (by omega:q < _)) (by omega)
  rw [he,e2] at e1
  injection e1 with e1
  have t:=ht q (by omega)
  rw [hr 0,hr 4] at t
  rw [hr 1,hr 2,hr 3,hr 4,hr 5] at e1
  exact ⟨by omega,e1.symm,t.1,t.2⟩
end Go.Proofs.YtlngflbamkgjlaaGreat
namespace Go.Proofs.YtlngflbamkgjlaaGreat
set_option linter.unusedVariables false
set_option linter.unusedSimpArgs false
theorem rc_cons0 (x:List Int) (l:List (List Int)) (i:Nat):rc (x :: l) 0 i=x.getD i 0:=rfl
theorem rc_cons (x:List Int) (l:List (List Int)) (k i:Nat):rc (x :: l) (k + 1) i=rc l k i:=rfl
theorem rc_tail (l:List (List Int)) (k i:Nat):rc l.tail k i=rc l (k + 1) i:=by
  cases l with
  | nil => rfl
  | cons => rfl
theorem fresh_cons (x:List Int) (l:List (List Int)):∀ k,freshL (x :: l) (k + 1)=(if x.getD 6 0=1 then 0 else x.getD 5 0) + freshL l k
  | 0 => by simp [freshL, rc_cons0]
  | k + 1 => by
    rw [freshL,fresh_cons x l k,freshL,rc_cons,rc_cons]
    omega
theorem fresh_app {l m:List (List Int)}:∀ k,k ≤ l.length → freshL (l ++ m) k=freshL l k
  | 0, _ => rfl
  | k + 1, h => by rw [freshL, freshL, fresh_app k (by omega), rc_left (by omega), rc_left (by omega)]
theorem fresh_oct {l:List (List Int)} (h:∀ k,k < l.length → 84 ≤ rc l k 5 ∧ rc l k 5 ≤ 1542):∀ k,k ≤ l.length → freshL l k ≤ octL l k
  | 0, _ => Int.le_refl _
  | k + 1, hk => by
    have:=fresh_oct h k (by omega)
    have:=h k (by omega)
    rw [freshL,octL]
    split <;> omega
theorem qk_push {cap a0 a1 a2 a3 a4:Int} {l:List (List Int)} (h:qkE cap l=0) (hi:ckI a0 a1 a2 a3 a4=0) (hc:octL l l.length + a3 ≤ cap):qkE cap (l ++ [[a0,a1,a2,a3,a4,a3,0]])=0:=by
  obtain ⟨h1,h2,h3⟩:=qk_p h
  have hf:=fresh_oct (qk_oct h) l.length (Nat.le_refl _)
  refine (qk_0 ⟨h1,fun k hk=>?_,?_⟩).symm
  · rw [List.length_append] at hk
    simp only [List.length_cons,List.length_nil] at hk
    by_cases e:k=l.length
    · subst e
      simp only [rc_last]
      refine ⟨?_,fun z=>absurd (show (0:Int)=1 from z) (by decide)⟩
      show ckP a0 a1 a2 a3 a4 a3 0=0
      unfold ckP
      rw [if_pos ⟨hi,.inl ⟨rfl,by decide⟩⟩]
    · simp only [rc_left (show k < l.length by omega)]
      exact h2 k (by omega)
  · rw [List.length_append]
    show freshL (l ++ [[a0,a1,a2,a3,a4,a3,0]]) (l.length + 1) ≤ cap
    rw [freshL,fresh_app _ (Nat.le_refl _),rc_last,rc_last]
    show freshL l l.length + (if (0:Int)=1 then 0 else a3) ≤ cap
    rw [if_neg (by decide)]
    omega
theorem qk_pop {cap:Int} {l:List (List Int)} (h:qkE cap l=0):qkE cap l.tail=0:=by
  obtain ⟨h1,h2,h3⟩:=qk_p h
  cases l with
  | nil => exact h
  | cons x r =>
    refine (qk_0 ⟨h1,fun k hk=>?_,?_⟩).symm
    · have:=h2 (k + 1) (by simp at hk ⊢; omega)
      simp only [rc_cons] at this
      exact ⟨this.1,fun z=>by have:=this.2 z; omega⟩
    · have h0:=(ckP_ok (h2 0 (by simp)).1).2
      rw [List.length_cons,fresh_cons] at h3
      rw [rc_cons0] at h0
      show freshL r r.length ≤ cap
      split at h3 <;> omega
theorem qk_ret {cap y0 y1 y2 y3 y4 y5:Int} {l:List (List Int)} (h:qkE cap l=0) (hy:ckP y0 y1 y2 y3 y4 y5 1=0) (hr:1 ≤ l.length → rc l 0 6 ≠ 1):qkE cap ([[y0,y1,y2,y3,y4,y5,1]] ++ l)=0:=by
  obtain ⟨h1,h2,h3⟩:=qk_p h
  refine (qk_0 ⟨h1,fun k hk=>?_,?_⟩).symm
  · cases k with
    | zero => exact ⟨hy, fun _ => rfl⟩
    | succ k =>
      have hk':k < l.length:=by simp at hk; omega
      have:=h2 k hk'
      refine ⟨this.1,fun z=>?_⟩
      have z':rc l k 6=1:=z
      have:=this.2 z'
      subst this
      exact absurd z' (hr (by omega))
  · show freshL ([y0,y1,y2,y3,y4,y5,1] :: l) (l.length + 1) ≤ cap
    rw [fresh_cons]
    show (if (1:Int)=1 then 0 else y5) + freshL l l.length ≤ cap
    rw [if_pos rfl]
    omega
def qs (Q:Nat → List (List Int)):Nat → Nat
  | 0 => 0
  | k + 1 => qs Q k + (Q k).length
theorem qs_upd {Q:Nat → List (List Int)} {c:Nat} {l:List (List Int)}:∀ k,qs (upd Q c l) k + (if c < k then (Q c).length else 0)=qs Q k + (if c < k then l.length else 0)
  | 0 => by simp [qs]
  | k + 1 => by
    have ih:=qs_upd (Q:=Q) (c:=c) (l:=l) k
    rw [qs,qs]
    by_cases e:k=c
    · subst e
      rw [upd_same]
      simp only [Nat.lt_irrefl,if_false,Nat.lt_succ_self,if_true] at ih ⊢
      omega
    · rw [upd_ne _ _ e]
      by_cases q:c < k
      · simp only [q,if_true,show c < k + 1 by omega] at ih ⊢
        omega
      · simp only [q,if_false,show ¬ c < k + 1 by omega] at ih ⊢
        omega
def rsP (Q:Nat → List (List Int)) (c:Nat):Prop:=1 ≤ (Q c).length ∧ rc (Q c) 0 6=1
variable {Q:Nat → List (List Int)}
theorem hd_rc {c:Nat} (hc:c < 8) (h:1 ≤ (Q c).length) (i:Nat):rc (hdL Q) c i=rc (Q c) 0 i:=by rw [rc_hdL hc,rc_head h]
theorem hd_z {c:Nat} (hc:c < 8) (h:¬ 1 ≤ (Q c).length):zH (hdL Q) c:=by
  have e:Q c=[]:=List.length_eq_zero_iff.1 (by omega)
  exact ⟨by simp only [rc_hdL hc,e]; rfl,by rw [rc_hdL hc,e]; rfl⟩
theorem hd_rs {c:Nat} (hc:c < 8):rc (hdL Q) c 6=1 ↔ rsP Q c:=by
  by_cases h:1 ≤ (Q c).length
  · rw [hd_rc hc h]; exact ⟨fun z=>⟨h,z⟩,fun z=>z.2⟩
  · have:=zH_not (hd_z hc h)
    exact ⟨fun z=>absurd z this,fun z=>absurd z.1 h⟩
theorem rs_one (h:∀ c d,c < 8 → d < 8 → rsP Q c → rsP Q d → c=d):∀ k,k ≤ 8 → 0 ≤ rsN (hdL Q) k ∧ rsN (hdL Q) k ≤ 1 ∧ (rsN (hdL Q) k=1 → ∃ c,c < k ∧ rsP Q c)
  | 0, _ => ⟨Int.le_refl _, by simp [rsN], fun z => by simp [rsN] at z⟩
  | k + 1, hk => by
    obtain ⟨h0,h1,h2⟩:=rs_one h k (by omega)
    rw [rsN]
    by_cases e:rc (hdL Q) k 6=1
    · rw [if_pos e]
      have hr:=(hd_rs (by omega)).1 e
      have:rsN (hdL Q) k ≠ 1:=fun z=>by
        obtain ⟨c,c1,c2⟩:=h2 z
        have:=h c k (by omega) (by omega) c2 hr
        omega
      exact ⟨by omega,by omega,fun _=>⟨k,by omega,hr⟩⟩
    · rw [if_neg e]
      exact ⟨by omega,by omega,fun z=>by obtain ⟨c,c1,c2⟩:=h2 (by omega); exact ⟨c,by omega,c2⟩⟩
theorem hdP_of {cap:Nat → Int} (hv:∀ c,c < 8 → qkE (cap c) (Q c)=0) (wr:∀ c,c < 8 → WR 7 (Q c)) (cl:∀ c,c < 8 → ∀ k,k < (Q c).length → rc (Q c) k 2=(c:Int)) (r1:∀ c d,c < 8 → d < 8 → rsP Q c → rsP Q d → c=d):hdP (hdL Q):=by
  refine ⟨hdL_len Q,hdL_wr wr,fun c hc=>?_,(rs_one r1 8 (Nat.le_refl _)).2.1⟩
  by_cases h:1 ≤ (Q c).length
  · simp only [hd_rc hc h]
    exact .inr ⟨((qk_p (hv c hc)).2.1 0 (by omega)).1,cl c hc 0 (by omega)⟩
  · exact .inl (hd_z hc h)
theorem full_iff {cap:Nat → Int} {c:Nat} (hv:qkE (cap c) (Q c)=0) (hc:c < 8):¬ zH (hdL Q) c ↔ 1 ≤ (Q c).length:=by
  constructor
  · exact hd_pos hc
  · intro h z
    have:=(zH_rc z).1
    rw [hd_rc hc h] at this
    have:=(qk_oct hv 0 (by omega)).1
    omega
theorem free_iff {c:Nat} (hc:c < 8):freeP (hdL Q) c ↔ 6 ≤ c ∨ ∀ i,i < 8 → i ≠ c → ¬ rsP Q i:=by
  unfold freeP
  constructor
  · rintro (h | h)
    · exact .inl h
    · exact .inr fun i h1 h2 z=>h i h1 h2 ((hd_rs h1).2 z)
  · rintro (h | h)
    · exact .inl h
    · exact .inr fun i h1 h2 z=>h i h1 h2 ((hd_rs h1).1 z)
end Go.Proofs.YtlngflbamkgjlaaGreat
namespace Go.Proofs.YtlngflbamkgjlaaGreat
set_option linter.unusedVariables false
set_option linter.unusedSimpArgs false
theorem z01 {p:Prop} (h:(0:Int)=1):p:=absurd h (by decide)
def snd6 (s:PS):List (List Int):=if s.bz=1 ∧ s.x2=6 then [[s.x0,s.x1,s.x2,s.x3,s.x4]] else []
structure Cor (per:Int) (cap:Nat → Int) (un:Int) (out:List (List Int)) (op:Int → Prop) (s:PS):Prop where
  hv:∀ c,c < 8 → qkE (cap c) (s.Q c)=0
  wr:∀ c,c < 8 → WR 7 (s.Q c)
  cl:∀ c,c < 8 → ∀ k,k < (s.Q c).length → rc (s.Q c) k 2=(c:Int)
  q7:s.Q 7=[]
  r1:∀ c d,c < 8 → d < 8 → rsP s.Q c → rsP s.Q d → c=d
  r0:s.bz=1 → s.x2 < 6 → ∀ c,c < 8 → ¬ rsP s.Q c
  bz:s.bz=1 ∨ s.bz=0
  pt:s.bz=1 → ckP s.x0 s.x1 s.x2 s.x3 s.x4 s.x5 s.x6=0 ∧ 0 ≤ s.x2 ∧ s.x2 ≤ 6
  tm:s.bz=1 → 0 ≤ s.bg ∧ s.bg ≤ s.now ∧ s.now ≤ s.fn
  f0:s.bz=1 → s.rs=0 → s.fn=s.bg + s.x5 * per
  f1:s.bz=1 → s.rs ≠ 0 → s.x2 < 6 ∧ ckP s.x0 s.x1 s.x2 s.x3 s.x4 s.rs 1=0 ∧ s.Q 6 ≠ []
  op:s.bz=1 → ∀ x,s.bg ≤ x → x < s.fn → op x
  nw:0 ≤ s.now ∧ s.now ≤ un
  le:∃ i,s.l=out.drop i
  ln:∀ k,k < s.l.length → s.now ≤ rc s.l k 0
  ct:s.g.length + s.bz.toNat + qs s.Q 8 + s.l.length ≤ 40
  gw:WR 6 s.g
  od:(F6 s.g).map itm ++ snd6 s ++ (s.Q 6).map itP ++ (F6 s.l).map itm=(F6 out).map itm
variable {per un:Int} {cap:Nat → Int} {out:List (List Int)} {op:Int → Prop} {s:PS}
theorem Cor.hd (h:Cor per cap un out op s):hdP (hdL s.Q):=hdP_of h.hv h.wr h.cl h.r1
structure Cms (out:List (List Int)) (un:Int):Prop where
  wr:WR 6 out
  el:∀ k,k < out.length → (0 ≤ rc out k 0 ∧ rc out k 0 ≤ un) ∧ (∀ j,j < k → rc out j 0 ≤ rc out k 0) ∧ (0 ≤ rc out k 3 ∧ rc out k 3 ≤ 6) ∧ ckI (rc out k 1) (rc out k 2) (rc out k 3) (rc out k 4) (rc out k 5)=0
theorem rc_drop {l:List (List Int)} (i k j:Nat):rc (l.drop i) k j=rc l (i + k) j:=by
  rw [rc_eq,rc_eq,List.getElem?_drop]
theorem Cor.wf (h:Cor per cap un out op s) (hc:Cms out un):WFS cap un s:=by
  refine ⟨h.hv,h.hd,h.nw,fun hb hr=>⟨(h.f1 hb hr).2.1,fun hl hz=>?_⟩,fun k hk=>?_,⟨by have:=h.ct; omega,h.gw⟩⟩
  · have hp:=h.pt hb
    have h6:=(h.f1 hb hr).1
    exact h.r0 hb h6 s.x2.toNat (by omega) ⟨hl,hz⟩
  · obtain ⟨i,e⟩:=h.le
    rw [e] at hk ⊢
    simp only [rc_drop]
    exact (hc.el (i + k) (by simp at hk; omega)).2.2.2
theorem Cor.e1 (h:Cor per cap un out op s) {t:Int} (hb:s.bz=1) (hf:s.fn=t) (hr:s.rs=0) (ht:t ≤ un) (hl:∀ k,k < s.l.length → t ≤ rc s.l k 0) :
    Cor per cap un out op ⟨t,0,0,0,0,0,0,0,0,0,0,0,s.Q,s.l,s.g ++ [[t,s.x0,s.x1,s.x2,s.x3,s.x4]]⟩:=by
  have htm:=h.tm hb
  have hct:=h.ct
  rw [hb] at hct
  refine ⟨h.hv,h.wr,h.cl,h.q7,h.r1,fun z=>z01 z,.inr rfl,fun z=>z01 z,fun z=>z01 z,fun z=>z01 z,fun z=>z01 z,fun z=>z01 z,⟨(by omega:0 ≤ t),ht⟩,h.le,hl,?_,WR.app h.gw (by unfold WR; simp),?_⟩
  · dsimp only
    rw [List.length_append]
    simp only [List.length_cons,List.length_nil]
    have:(1:Int).toNat=1:=rfl
    have:(0:Int).toNat=0:=rfl
    omega
  · have ho:=h.od
    unfold snd6 at ho ⊢
    dsimp only
    rw [if_neg (fun z=>z01 z.1),F6_app]
    by_cases e:s.x2=6
    · rw [if_pos ⟨hb,e⟩] at ho
      rw [F6_yes (by exact e),F6_nil,List.map_append,← ho]
      simp [itm]
    · rw [if_neg (fun z=>e z.2)] at ho
      rw [F6_no (by exact e),F6_nil]
      simp only [List.append_nil] at ho ⊢
      exact ho
theorem Cor.e2 (h:Cor per cap un out op s) {t:Int} (hb:s.bz=1) (hf:s.fn=t) (hr:s.rs ≠ 0) (ht:t ≤ un) (hl:∀ k,k < s.l.length → t ≤ rc s.l k 0) :
    Cor per cap un out op ⟨t,0,0,0,0,0,0,0,0,0,0,0,upd s.Q s.x2.toNat ([[s.x0,s.x1,s.x2,s.x3,s.x4,s.rs,1]] ++ s.Q s.x2.toNat),s.l,s.g⟩:=by
  have htm:=h.tm hb
  have hp:=h.pt hb
  obtain ⟨h6,hck,_⟩:=h.f1 hb hr
  have hr0:=h.r0 hb h6
  have hct:=h.ct
  rw [hb] at hct
  obtain ⟨c,hc⟩:∃ c:Nat,s.x2.toNat=c:=⟨_,rfl⟩
  have hc6:c < 6:=by omega
  rw [hc]
  have hother:∀ i,i ≠ c → upd s.Q c ([[s.x0,s.x1,s.x2,s.x3,s.x4,s.rs,1]] ++ s.Q c) i=s.Q i:=fun i hi=>upd_ne _ _ hi
  have hsame:=upd_same s.Q c ([[s.x0,s.x1,s.x2,s.x3,s.x4,s.rs,1]] ++ s.Q c)
  have hq:=qs_upd (Q:=s.Q) (c:=c) (l:=[[s.x0,s.x1,s.x2,s.x3,s.x4,s.rs,1]] ++ s.Q c) 8
  rw [if_pos (by omega),if_pos (by omega),List.length_append] at hq
  simp only [List.length_cons,List.length_nil] at hq
  have hrs:∀ i,i < 8 → rsP (upd s.Q c ([[s.x0,s.x1,s.x2,s.x3,s.x4,s.rs,1]] ++ s.Q c)) i → i=c:=fun i hi z=>by
    by_cases e:i=c
    · exact e
    · unfold rsP at z
      rw [hother i e] at z
      exact absurd z (hr0 i hi)
  refine ⟨fun i hi=>?_,fun i hi=>?_,fun i hi=>?_,?_,fun i d hi hd z1 z2=>(hrs i hi z1).trans (hrs d hd z2).symm,fun z=>z01 z,.inr rfl,fun z=>z01 z,fun z=>z01 z,fun z=>z01 z,fun z=>z01 z,fun z=>z01 z,⟨(by omega:0 ≤ t),ht⟩,h.le,hl,?_,h.gw,?_⟩
  · dsimp only
    by_cases e:i=c
    · subst e
      rw [hsame]
      exact qk_ret (h.hv i hi) hck fun z1 z2=>hr0 i hi ⟨z1,z2⟩
    · rw [hother i e]; exact h.hv i hi
  · dsimp only
    by_cases e:i=c
    · subst e
      rw [hsame]
      exact WR.app (by unfold WR; simp) (h.wr i hi)
    · rw [hother i e]; exact h.wr i hi
  · dsimp only
    by_cases e:i=c
    · subst e
      rw [hsame]
      intro k hk
      cases k with
      | zero => show s.x2 = (i : Int); omega
      | succ k => exact h.cl i hi k (by simp at hk; omega)
    · rw [hother i e]; exact h.cl i hi
  · dsimp only
    rw [hother 7 (by omega)]; exact h.q7
  · dsimp only
    have:(1:Int).toNat=1:=rfl
    have:(0:Int).toNat=0:=rfl
    omega
  · have ho:=h.od
    unfold snd6 at ho ⊢
    dsimp only
    rw [if_neg (fun z=>z01 z.1),hother 6 (by omega)]
    rw [if_neg (fun z=>by omega)] at ho
    exact ho
theorem Cor.later (h:Cor per cap un out op s) {t:Int} (ht:s.now ≤ t) (htu:t ≤ un) (hf:s.bz=1 → t ≤ s.fn) (hl:∀ k,k < s.l.length → t ≤ rc s.l k 0):Cor per cap un out op { s with now:=t } :=
  ⟨h.hv,h.wr,h.cl,h.q7,h.r1,h.r0,h.bz,h.pt,fun hb=>⟨(h.tm hb).1,by have:=(h.tm hb).2.1; show s.bg ≤ t; omega,hf hb⟩,h.f0,h.f1,h.op,⟨by have:=h.nw; show 0 ≤ t; omega,htu⟩,h.le,hl,h.ct,h.gw,h.od⟩
end Go.Proofs.YtlngflbamkgjlaaGreat
namespace Go.Proofs.YtlngflbamkgjlaaGreat
set_option linter.unusedVariables false
set_option linter.unusedSimpArgs false
variable {per un:Int} {cap:Nat → Int} {out:List (List Int)} {op:Int → Prop} {s:PS}
theorem Cor.ar (h:Cor per cap un out op s) (hc:Cms out un) {t:Int} (h1:1 ≤ s.l.length) (hx:rc s.l 0 0=t) (htn:s.now ≤ t) (ht:t ≤ un) (hf:s.bz=1 → t ≤ s.fn) (hacc:rc s.l 0 3=6 → octL (s.Q 6) (s.Q 6).length + rc s.l 0 4 ≤ cap 6) :
    Cor per cap un out op { s with now:=t,Q:=arQ cap s.Q (rc s.l 0 3).toNat [rc s.l 0 1,rc s.l 0 2,rc s.l 0 3,rc s.l 0 4,rc s.l 0 5,rc s.l 0 4,0] (rc s.l 0 4),l:=s.l.tail }:=by
  obtain ⟨i,hi⟩:=h.le
  have hel:=fun k (hk:k < s.l.length)=>hc.el (i + k) (by rw [hi] at hk; simp at hk; omega)
  have h0:=hel 0 (by omega)
  simp only [← rc_drop,← hi] at h0
  obtain ⟨x,r,hl⟩:∃ x r,s.l=x :: r:=by
    cases hl:s.l with
    | nil => rw [hl] at h1; simp at h1
    | cons x r => exact ⟨x, r, rfl⟩
  have htail:s.l.tail=out.drop (i + 1):=by rw [hi,List.tail_drop]
  have hsort:∀ k,k < s.l.tail.length → t ≤ rc s.l.tail k 0:=fun k hk=>by
    rw [rc_tail]
    rw [List.length_tail] at hk
    have:=(hel (k + 1) (by omega)).2.1 (i + 0) (by omega)
    rw [← rc_drop,← rc_drop,← hi,hx] at this
    exact this
  have hct:=h.ct
  have hlt:=List.length_tail (l:=s.l)
  obtain ⟨c,hcn⟩:∃ c:Nat,(rc s.l 0 3).toNat=c:=⟨_,rfl⟩
  have hc6:c ≤ 6:=by omega
  rw [hcn]
  unfold arQ
  by_cases ha:octL (s.Q c) (s.Q c).length + rc s.l 0 4 ≤ cap c
  · rw [if_pos ha]
    obtain ⟨p,hp⟩:∃ p,p=[rc s.l 0 1,rc s.l 0 2,rc s.l 0 3,rc s.l 0 4,rc s.l 0 5,rc s.l 0 4,0]:=⟨_,rfl⟩
    rw [← hp]
    have hother:∀ i,i ≠ c → upd s.Q c (s.Q c ++ [p]) i=s.Q i:=fun i hi=>upd_ne _ _ hi
    have hsame:=upd_same s.Q c (s.Q c ++ [p])
    have hq:=qs_upd (Q:=s.Q) (c:=c) (l:=s.Q c ++ [p]) 8
    rw [if_pos (by omega),if_pos (by omega),List.length_append] at hq
    simp only [List.length_cons,List.length_nil] at hq
    have hrs:∀ i,rsP (upd s.Q c (s.Q c ++ [p])) i → rsP s.Q i:=fun i z=>by
      by_cases e:i=c
      · subst e
        unfold rsP at z ⊢
        rw [hsame] at z
        rcases Nat.eq_zero_or_pos (s.Q i).length with q | q
        · have e0:=List.length_eq_zero_iff.1 q
          rw [e0] at z
          have z2:rc [p] 0 6=1:=z.2
          rw [hp] at z2
          exact z01 z2
        · rw [rc_left q] at z
          exact ⟨q,z.2⟩
      · unfold rsP at z ⊢
        rwa [hother i e] at z
    refine ⟨fun i hi=>?_,fun i hi=>?_,fun i hi=>?_,?_,fun i d hi hd z1 z2=>h.r1 i d hi hd (hrs i z1) (hrs d z2),fun hb h6 i hi z=>h.r0 hb h6 i hi (hrs i z),h.bz,h.pt,fun hb=>⟨(h.tm hb).1,by have:=(h.tm hb).2.1; show s.bg ≤ t; omega,hf hb⟩,h.f0,fun hb hr=>⟨(h.f1 hb hr).1,(h.f1 hb hr).2.1,?_⟩,h.op,⟨by have:=h.nw; show 0 ≤ t; omega,ht⟩,⟨i + 1,htail⟩,hsort,?_,h.gw,?_⟩
    · dsimp only
      by_cases e:i=c
      · subst e
        rw [hsame,hp]
        exact qk_push (h.hv i hi) h0.2.2.2 ha
      · rw [hother i e]; exact h.hv i hi
    · dsimp only
      by_cases e:i=c
      · subst e
        rw [hsame]
        exact WR.app (h.wr i hi) (by unfold WR; rw [hp]; simp)
      · rw [hother i e]; exact h.wr i hi
    · dsimp only
      by_cases e:i=c
      · subst e
        rw [hsame]
        intro k hk
        by_cases e2:k=(s.Q i).length
        · subst e2
          rw [rc_last,hp]
          show rc s.l 0 3=(i:Int)
          omega
        · rw [List.length_append] at hk
          simp only [List.length_cons,List.length_nil] at hk
          rw [rc_left (by omega)]
          exact h.cl i hi k (by omega)
      · rw [hother i e]; exact h.cl i hi
    · dsimp only
      rw [hother 7 (by omega)]; exact h.q7
    · dsimp only
      by_cases e:6=c
      · subst e; rw [hsame]; simp
      · rw [hother 6 e]; exact (h.f1 hb hr).2.2
    · dsimp only
      omega
    · have ho:=h.od
      have hs:snd6 { s with now:=t,Q:=upd s.Q c (s.Q c ++ [p]),l:=s.l.tail }=snd6 s:=rfl
      rw [hs]
      dsimp only
      rw [hl] at ho ⊢
      by_cases e:6=c
      · subst e
        have h6:x.getD 3 0=6:=by rw [hl] at hcn h0; rw [rc_cons0] at hcn h0; omega
        rw [F6_yes h6] at ho
        rw [hsame,← ho,hp,hl]
        simp [itm,itP,rc_cons0,h6]
      · have h6:x.getD 3 0 ≠ 6:=fun z=>by rw [hl] at hcn; rw [rc_cons0] at hcn; omega
        rw [F6_no h6] at ho
        rw [hother 6 e]
        exact ho
  · rw [if_neg ha]
    have hn6:c ≠ 6:=fun e=>by subst e; exact ha (hacc (by omega))
    refine ⟨h.hv,h.wr,h.cl,h.q7,h.r1,h.r0,h.bz,h.pt,fun hb=>⟨(h.tm hb).1,by have:=(h.tm hb).2.1; show s.bg ≤ t; omega,hf hb⟩,h.f0,h.f1,h.op,⟨by have:=h.nw; show 0 ≤ t; omega,ht⟩,⟨i + 1,htail⟩,hsort,by dsimp only; omega,h.gw,?_⟩
    have ho:=h.od
    have hs:snd6 { s with now:=t,l:=s.l.tail }=snd6 s:=rfl
    rw [hs]
    dsimp only
    rw [hl] at ho ⊢
    have h6:x.getD 3 0 ≠ 6:=fun z=>by rw [hl] at hcn; rw [rc_cons0] at hcn; omega
    rw [F6_no h6] at ho
    exact ho
theorem Cor.c1 (h:Cor per cap un out op s) {t:Int} {c:Nat} (hc6:c ≤ 6) (hb:s.bz ≠ 1) (hz:1 ≤ (s.Q c).length) (hfr:6 ≤ c ∨ ∀ i,i < 8 → i ≠ c → ¬ rsP s.Q i) (hp1:1 ≤ per) (htn:s.now ≤ t) (ht:t ≤ un) (hl:∀ k,k < s.l.length → t ≤ rc s.l k 0) (hop:∀ x,t ≤ x → x < t + rc (s.Q c) 0 5 * per → op x) :
    Cor per cap un out op ⟨t,1,rc (s.Q c) 0 0,rc (s.Q c) 0 1,rc (s.Q c) 0 2,rc (s.Q c) 0 3,rc (s.Q c) 0 4,rc (s.Q c) 0 5,rc (s.Q c) 0 6,t,t + rc (s.Q c) 0 5 * per,0,upd s.Q c (s.Q c).tail,s.l,s.g⟩:=by
  have hct:=h.ct
  have hbz:s.bz=0:=h.bz.resolve_left hb
  rw [hbz] at hct
  have hnw:=h.nw
  have hlt:=List.length_tail (l:=s.Q c)
  have hother:∀ i,i ≠ c → upd s.Q c (s.Q c).tail i=s.Q i:=fun i hi=>upd_ne _ _ hi
  have hsame:=upd_same s.Q c (s.Q c).tail
  have hq:=qs_upd (Q:=s.Q) (c:=c) (l:=(s.Q c).tail) 8
  rw [if_pos (by omega),if_pos (by omega)] at hq
  have hcl:=h.cl c (by omega) 0 (by omega)
  have hqp:=(qk_p (h.hv c (by omega))).2.1
  have hrs:∀ i,rsP (upd s.Q c (s.Q c).tail) i → i ≠ c ∧ rsP s.Q i:=fun i z=>by
    by_cases e:i=c
    · subst e
      unfold rsP at z
      rw [hsame,rc_tail] at z
      have:=(hqp 1 (by omega)).2 z.2
      omega
    · unfold rsP at z ⊢
      rw [hother i e] at z
      exact ⟨e,z⟩
  have hfn:0 ≤ rc (s.Q c) 0 5 * per:=Int.mul_nonneg (by have:=(qk_oct (h.hv c (by omega)) 0 (by omega)).1; omega) (by omega)
  refine ⟨fun i hi=>?_,fun i hi=>?_,fun i hi=>?_,?_,fun i d hi hd z1 z2=>h.r1 i d hi hd (hrs i z1).2 (hrs d z2).2,fun _ h6 i hi z=>?_,.inl rfl,fun _=>⟨(hqp 0 (by omega)).1,?_⟩,fun _=>⟨by show 0 ≤ t; omega,Int.le_refl _,by show t ≤ t + rc (s.Q c) 0 5 * per; omega⟩,fun _ _=>rfl,fun _ z=>absurd rfl z,fun _=>hop,⟨by show 0 ≤ t; omega,ht⟩,h.le,hl,?_,h.gw,?_⟩
  · dsimp only
    by_cases e:i=c
    · subst e; rw [hsame]; exact qk_pop (h.hv i hi)
    · rw [hother i e]; exact h.hv i hi
  · dsimp only
    by_cases e:i=c
    · subst e; rw [hsame]; exact WR.tl (h.wr i hi)
    · rw [hother i e]; exact h.wr i hi
  · dsimp only
    by_cases e:i=c
    · subst e
      rw [hsame]
      intro k hk
      rw [rc_tail]
      exact h.cl i hi (k + 1) (by omega)
    · rw [hother i e]; exact h.cl i hi
  · dsimp only
    rw [hother 7 (by omega)]; exact h.q7
  · dsimp only at h6
    rcases hfr with q | q
    · omega
    · exact q i hi (hrs i z).1 (hrs i z).2
  · show 0 ≤ rc (s.Q c) 0 2 ∧ rc (s.Q c) 0 2 ≤ 6
    omega
  · dsimp only
    have:(1:Int).toNat=1:=rfl
    have:(0:Int).toNat=0:=rfl
    omega
  · have ho:=h.od
    unfold snd6 at ho ⊢
    dsimp only
    rw [if_neg (fun z=>hb z.1)] at ho
    by_cases e:6=c
    · subst e
      rw [hsame,if_pos ⟨rfl,hcl⟩,← ho]
      obtain ⟨p,r,hp⟩:∃ p r,s.Q 6=p :: r:=by
        cases hp:s.Q 6 with
        | nil => rw [hp] at hz; simp at hz
        | cons p r => exact ⟨p, r, rfl⟩
      rw [hp]
      simp [itP,rc_cons0]
    · rw [hother 6 e,if_neg (fun z=>by have:=z.2; omega)]
      exact ho
theorem Cor.c2 (h:Cor per cap un out op s) {t:Int} (hb:s.bz=1) (h6:s.x2 < 6) (hr:s.rs=0) (hq6:s.Q 6 ≠ []) (hp1:1 ≤ per) (htn:s.now ≤ t) (ht:t ≤ un) (htf:t ≤ s.fn) (hl:∀ k,k < s.l.length → t ≤ rc s.l k 0) (hk:64 ≤ s.x5 - prK per s.bg t) (hge:t ≤ prE per s.bg t) (hlt:prE per s.bg t ≤ s.fn) :
    Cor per cap un out op { s with now:=t,fn:=prE per s.bg t,rs:=s.x5 - prK per s.bg t + 24 }:=by
  have hp:=h.pt hb
  have h64:64 ≤ prK per s.bg t:=by unfold prK; omega
  refine ⟨h.hv,h.wr,h.cl,h.q7,h.r1,h.r0,h.bz,h.pt,fun _=>⟨(h.tm hb).1,by have:=(h.tm hb).2.1; show s.bg ≤ t; omega,hge⟩,fun _ z=>?_,fun _ _=>⟨h6,?_,hq6⟩,fun _ x z1 z2=>h.op hb x z1 (Int.lt_of_lt_of_le z2 hlt),⟨by have:=h.nw; show 0 ≤ t; omega,ht⟩,h.le,hl,h.ct,h.gw,h.od⟩
  · have z':s.x5 - prK per s.bg t + 24=0:=z
    omega
  · show ckP s.x0 s.x1 s.x2 s.x3 s.x4 (s.x5 - prK per s.bg t + 24) 1=0
    have h1:=hp.1
    have h2:=(ckP_ok h1).1
    unfold ckP at h1 ⊢
    rw [if_pos]
    refine ⟨h2,.inr ⟨rfl,by omega,by omega,?_⟩⟩
    split at h1
    · rename_i q
      rcases q.2 with z | z <;> omega
    · omega
end Go.Proofs.YtlngflbamkgjlaaGreat
namespace Go.Proofs.YtlngflbamkgjlaaGreat
set_option linter.unusedVariables false
set_option linter.unusedSimpArgs false
variable {lo:List Int} {n:Nat} {per sh bu br rt lt:Int} {out:List (List Int)} {ow:List (Int × Int)}
theorem Lw.cms (H:Lw lo n per sh bu br rt lt out ow):Cms out 1073741824:=⟨H.cm.wr,fun k hk=>by
  have:=H.cm.el k hk
  have h5:=this.2.2.2.2.1
  have hl:=H.len
  refine ⟨⟨this.1.1,by omega⟩,this.2.1,by omega,?_⟩
  rw [this.2.2.1,this.2.2.2.1,this.2.2.2.2.2]
  unfold ckI
  omega⟩
theorem Lw.owl (H:Lw lo n per sh bu br rt lt out ow):ow=(F6 out).map fun x=>(x.getD 0 0,x.getD 4 0):=by rw [← H.cm.eqo,o6_F6]
theorem Lw.owlen (H:Lw lo n per sh bu br rt lt out ow):ow.length=(F6 out).length:=by rw [H.owl,List.length_map]
theorem Lw.owat (H:Lw lo n per sh bu br rt lt out ow) {k:Nat} (hk:k < ow.length):pr ow k=(rc (F6 out) k 0,rc (F6 out) k 4):=by
  have h2:k < (F6 out).length:=by rw [← H.owlen]; exact hk
  rw [H.owl]
  simp [pr,rc,List.getD_eq_getElem?_getD,List.getElem?_eq_getElem h2]
theorem Lw.mono (H:Lw lo n per sh bu br rt lt out ow) {i k:Nat} (h:i ≤ k) (hk:k < ow.length):(pr ow i).1 ≤ (pr ow k).1:=at_mono H.cm.at' h hk
theorem Lw.pos (H:Lw lo n per sh bu br rt lt out ow) {k:Nat} (hk:k < ow.length):0 ≤ (pr ow k).1 ∧ 1 ≤ (pr ow k).2:=by
  have h1:=tr_all H.cm.at' k hk
  have h0:=H.mono (Nat.zero_le k) hk
  have h2:=tr_all H.cm.at' 0 (by omega)
  simp only [laN] at h2
  omega
variable {un:Int} {cap:Nat → Int} {op:Int → Prop} {s:PS}
theorem od_len (h:Cor per cap un out op s):(F6 s.g).length + (snd6 s).length + (s.Q 6).length + (F6 s.l).length=(F6 out).length:=by
  have:=congrArg List.length h.od
  simp only [List.length_append,List.length_map] at this
  omega
theorem snd6_yes (hb:s.bz=1) (h6:s.x2=6):snd6 s=[[s.x0,s.x1,s.x2,s.x3,s.x4]]:=if_pos ⟨hb,h6⟩
theorem snd6_no (h:¬ (s.bz=1 ∧ s.x2=6)):snd6 s=[]:=if_neg h
theorem Lw.size (H:Lw lo n per sh bu br rt lt out ow) {k:Nat} {y:List Int} (h:((F6 out).map itm)[k]?=some y):k < ow.length ∧ (pr ow k).2=y.getD 3 0:=by
  rw [List.getElem?_map,Option.map_eq_some_iff] at h
  obtain ⟨x,hx,rfl⟩:=h
  have hk:k < ow.length:=by rw [H.owlen]; exact (List.getElem?_eq_some_iff.1 hx).1
  refine ⟨hk,?_⟩
  rw [H.owat hk]
  show rc (F6 out) k 4=x.getD 4 0
  rw [rc_eq,hx]
  rfl
theorem Lw.snd (H:Lw lo n per sh bu br rt lt out ow) (h:Cor per cap un out op s) (hb:s.bz=1) (h6:s.x2=6):(F6 s.g).length < ow.length ∧ (pr ow (F6 s.g).length).2=s.x3 ∧ s.x5=s.x3:=by
  have ho:=h.od
  rw [snd6_yes hb h6] at ho
  have:=H.size (k:=(F6 s.g).length) (y:=[s.x0,s.x1,s.x2,s.x3,s.x4]) (by
    rw [← ho,List.append_assoc,List.append_assoc,List.getElem?_append_right (by simp)]
    simp)
  refine ⟨this.1,this.2,?_⟩
  have hp:=(h.pt hb).1
  unfold ckP at hp
  split at hp
  · rename_i q
    rcases q.2 with z | z <;> omega
  · omega
theorem Lw.que (H:Lw lo n per sh bu br rt lt out ow) (h:Cor per cap un out op s) {k:Nat} (hk:k < (s.Q 6).length):(F6 s.g).length + (snd6 s).length + k < ow.length ∧ (pr ow ((F6 s.g).length + (snd6 s).length + k)).2=rc (s.Q 6) k 5:=by
  have ho:=h.od
  have:=H.size (k:=(F6 s.g).length + (snd6 s).length + k) (y:=itP ((s.Q 6)[k])) (by
    rw [← ho,List.getElem?_append_left (by simp; omega),List.getElem?_append_right (by simp)]
    simp only [List.length_append,List.length_map]
    rw [show (F6 s.g).length + (snd6 s).length + k - ((F6 s.g).length + (snd6 s).length)=k by omega,List.getElem?_map,List.getElem?_eq_getElem hk]
    rfl)
  refine ⟨this.1,this.2.trans ?_⟩
  have hp:=((qk_p (h.hv 6 (by decide))).2.1 k hk).1
  have hc:=h.cl 6 (by decide) k hk
  have e:(itP ((s.Q 6)[k])).getD 3 0=rc (s.Q 6) k 3:=by
    rw [rc_eq,List.getElem?_eq_getElem hk]
    rfl
  rw [e]
  unfold ckP at hp
  split at hp
  · rename_i q
    rcases q.2 with z | z <;> omega
  · omega
theorem Lw.oct (H:Lw lo n per sh bu br rt lt out ow) (h:Cor per cap un out op s):∀ k,k ≤ (s.Q 6).length → octL (s.Q 6) k=sumN ow ((F6 s.g).length + (snd6 s).length + k) - sumN ow ((F6 s.g).length + (snd6 s).length)
  | 0, _ => by simp [octL]
  | k + 1, hk => by
    have:=(H.que h (k:=k) (by omega)).2
    rw [octL,H.oct h k (by omega),← Nat.add_assoc,sumN,this]
    omega
theorem Lw.nxt (H:Lw lo n per sh bu br rt lt out ow) (h:Cor per cap un out op s) (hl:1 ≤ s.l.length) (h6:rc s.l 0 3=6):(F6 s.g).length + (snd6 s).length + (s.Q 6).length < ow.length ∧ pr ow ((F6 s.g).length + (snd6 s).length + (s.Q 6).length)=(rc s.l 0 0,rc s.l 0 4):=by
  obtain ⟨i,hi⟩:=h.le
  have e:F6 out=F6 (out.take i) ++ F6 s.l:=by rw [hi,← F6_app,List.take_append_drop]
  have hlen:=od_len h
  obtain ⟨x,r,hx⟩:∃ x r,s.l=x :: r:=by
    cases hx:s.l with
    | nil => rw [hx] at hl; simp at hl
    | cons x r => exact ⟨x, r, rfl⟩
  rw [hx,rc_cons0] at h6
  have hF:F6 s.l=x :: F6 r:=by rw [hx,F6_yes h6]
  have hl2:(F6 (out.take i)).length=(F6 s.g).length + (snd6 s).length + (s.Q 6).length:=by
    have:=congrArg List.length e
    rw [List.length_append] at this
    omega
  have hlt:(F6 s.g).length + (snd6 s).length + (s.Q 6).length < ow.length:=by
    rw [H.owlen,← hlen,hF]
    simp
  refine ⟨hlt,?_⟩
  rw [H.owat hlt,← hl2]
  have hr:∀ j,rc (F6 out) (F6 (out.take i)).length j=x.getD j 0:=fun j=>by
    rw [rc_eq,e,List.getElem?_append_right (Nat.le_refl _),Nat.sub_self,hF]
    rfl
  rw [hr,hr,hx,rc_cons0,rc_cons0]
theorem Lw.sumN_le (H:Lw lo n per sh bu br rt lt out ow) {i k:Nat} (h:i ≤ k) (hk:k ≤ ow.length):sumN ow i ≤ sumN ow k:=sumN_mono H.cm.at' h hk
theorem Lw.brt (H:Lw lo n per sh bu br rt lt out ow):br ≤ rt:=(cs_ok H.cs).2.2
theorem Lw.late (H:Lw lo n per sh bu br rt lt out ow) {i j:Nat} {t:Int} (hij:j ≤ i) (hi:i < ow.length) (ht:(pr ow j).1 ≤ t) (hc:cnt (GP lo n per sh) (pr ow j).1 t ≤ per * (sumN ow (i + 1) - sumN ow j) + 127 * per):t ≤ (pr ow i).1 + dlV rt lt [(bu,br)]:=by
  have hg:=H.sv.guar H.sh1.1 (H.pos (show j < ow.length by omega)).1 ht
  have hcf:=H.cm.conf (by have:=H.br1; omega) hij hi
  have hp:=H.sv.per1
  have hr1:=H.sv.rt1
  have hm:=H.mono hij hi
  have h1:rt * (t - (pr ow j).1 - lt) ≤ 1048576 * (sumN ow (i + 1) - sumN ow j):=by
    refine Int.le_of_mul_le_mul_left (a:=per) ?_ (by omega)
    rw [← Int.mul_assoc,Int.mul_comm per rt,← Int.mul_assoc,Int.mul_comm per 1048576,Int.mul_assoc 1048576]
    omega
  have h2:br * ((pr ow i).1 - (pr ow j).1) ≤ rt * ((pr ow i).1 - (pr ow j).1):=Int.mul_le_mul_of_nonneg_right H.brt (by omega)
  have h3:rt * (t - (pr ow i).1 - lt) ≤ bu * 1048576:=by
    have e:rt * (t - (pr ow j).1 - lt)=rt * (t - (pr ow i).1 - lt) + rt * ((pr ow i).1 - (pr ow j).1):=by rw [← Int.mul_add]; congr 1; omega
    omega
  have h4:=cq_ge (n:=bu * 1048576) (d:=rt) hr1
  rw [(dl_one H.cs).2]
  refine Int.not_lt.1 fun q=>?_
  have h5:=Int.mul_le_mul_of_nonneg_left (show cq (bu * 1048576) rt + 1 ≤ t - (pr ow i).1 - lt by omega) (show 0 ≤ rt by omega)
  rw [Int.mul_add,Int.mul_comm rt (cq _ _)] at h5
  omega
theorem Lw.acc (H:Lw lo n per sh bu br rt lt out ow) {i j p:Nat} {t:Int} (hjp:j ≤ p) (hpi:p ≤ i) (hi:i < ow.length) (hx:(pr ow i).1=t) (hc:cnt (GP lo n per sh) (pr ow j).1 t ≤ per * (sumN ow p - sumN ow j) + 127 * per):sumN ow (i + 1) - sumN ow p ≤ blV bu br rt lt:=by
  have hm:=H.mono (show j ≤ i by omega) hi
  have hg:=H.sv.guar (t:=t) H.sh1.1 (H.pos (show j < ow.length by omega)).1 (by omega)
  have hcf:=H.cm.conf (by have:=H.br1; omega) (show j ≤ i by omega) hi
  have hp:=H.sv.per1
  have hr1:=H.sv.rt1
  have hlt:=(H.sv.hlt).1.1
  have hs:=H.sumN_le hjp (show p ≤ ow.length by omega)
  rw [hx] at hcf hm
  have h1:rt * (t - (pr ow j).1 - lt) ≤ 1048576 * (sumN ow p - sumN ow j):=by
    refine Int.le_of_mul_le_mul_left (a:=per) ?_ (by omega)
    rw [← Int.mul_assoc,Int.mul_comm per rt,← Int.mul_assoc,Int.mul_comm per 1048576,Int.mul_assoc 1048576]
    omega
  have h4:=cq_ge (n:=br * lt) (d:=1048576) (by decide)
  have hbl:blV bu br rt lt=bu + cq (br * lt) 1048576:=bl_yes H.cs
  have key:br * (t - (pr ow j).1) - 1048576 * (sumN ow p - sumN ow j) ≤ br * lt:=by
    by_cases q:lt ≤ t - (pr ow j).1
    · have h2:br * (t - (pr ow j).1 - lt) ≤ rt * (t - (pr ow j).1 - lt):=Int.mul_le_mul_of_nonneg_right H.brt (by omega)
      rw [Int.mul_sub] at h2
      omega
    · have h2:=Int.mul_le_mul_of_nonneg_left (show t - (pr ow j).1 ≤ lt by omega) (show 0 ≤ br by have:=H.br1; omega)
      omega
  omega
end Go.Proofs.YtlngflbamkgjlaaGreat
namespace Go.Proofs.YtlngflbamkgjlaaGreat
set_option linter.unusedVariables false
set_option linter.unusedSimpArgs false
theorem fitE_some {ge:List (Int × Int)} {cyc c t l y:Int} (h:fitE ge cyc c t l=some y):t ≤ y ∧ l ≤ opN ge cyc c y ∧ ∀ z,t ≤ z → z < y → ¬ l ≤ opN ge cyc c z:=by
  unfold fitE at h
  rw [Option.map_eq_some_iff] at h
  obtain ⟨k,hk,rfl⟩:=h
  rw [List.find?_range_eq_some] at hk
  obtain ⟨h1,h2,h3⟩:=hk
  refine ⟨by omega,by simpa using h1,fun z z1 z2=>?_⟩
  have:=h3 (z - t).toNat (by omega)
  rw [show t + (((z - t).toNat:Nat):Int)=z by omega] at this
  simpa using this
theorem fitE_none {ge:List (Int × Int)} {cyc c t l:Int} (hc:1 ≤ cyc) (h:fitE ge cyc c t l=none):∀ z,t ≤ z → ¬ l ≤ opN ge cyc c z:=fun z hz hl=>by
  unfold fitE at h
  rw [Option.map_eq_none_iff,List.find?_eq_none] at h
  have h0:=Int.emod_nonneg (z - t) (show cyc ≠ 0 by omega)
  have h1:=Int.emod_lt_of_pos (z - t) (show 0 < cyc by omega)
  have hd:=Int.emod_add_mul_ediv (z - t) cyc
  have:=h ((z - t) % cyc).toNat (List.mem_range.2 (by omega))
  rw [show t + ((((z - t) % cyc).toNat:Nat):Int)=t + (z - t) % cyc by omega] at this
  have e:z=t + (z - t) % cyc + (z - t) / cyc * cyc:=by rw [Int.mul_comm ((z - t) / cyc)]; omega
  rw [e,opN_per] at hl
  simp at this
  omega
theorem whG_spec {p:Nat → Option Int}:∀ j,j ≤ 8 → (∀ m,whG p j=some m → (∃ c,c < 8 ∧ p c=some m) ∧ ∀ c,8 - j ≤ c → c < 8 → ∀ y,p c=some y → m ≤ y) ∧ (whG p j=none → ∀ c,8 - j ≤ c → c < 8 → p c=none)
  | 0, _ => ⟨(fun m h => by cases h), fun _ c h1 h2 => by omega⟩
  | j + 1, hj => by
    obtain ⟨i1,i2⟩:=whG_spec (p:=p) j (by omega)
    rw [whG]
    cases hp:p (7 - j) with
    | none =>
      refine ⟨fun m h=>?_,fun h c h1 h2=>?_⟩
      · have h':whG p j=some m:=by cases hw:whG p j <;> rw [hw] at h <;> exact h
        refine ⟨(i1 m h').1,fun c h1 h2 y hy=>?_⟩
        by_cases e:c=7 - j
        · subst e; rw [hp] at hy; cases hy
        · exact (i1 m h').2 c (by omega) h2 y hy
      · have h':whG p j=none:=by cases hw:whG p j <;> rw [hw] at h <;> first | rfl | cases h
        by_cases e:c=7 - j
        · subst e; exact hp
        · exact i2 h' c (by omega) h2
    | some x =>
      cases hw:whG p j with
      | none =>
        refine ⟨fun m h=>?_,fun h=>by cases h⟩
        injection h with h
        subst h
        refine ⟨⟨7 - j,by omega,hp⟩,fun c h1 h2 y hy=>?_⟩
        by_cases e:c=7 - j
        · subst e; rw [hp] at hy; injection hy with hy; omega
        · rw [i2 hw c (by omega) h2] at hy; cases hy
      | some y0 =>
        obtain ⟨q1,q2⟩:=i1 y0 hw
        refine ⟨fun m h=>?_,fun h=>by dsimp only at h; split at h <;> cases h⟩
        dsimp only at h
        split at h
        · injection h with h
          subst h
          refine ⟨⟨7 - j,by omega,hp⟩,fun c h1 h2 y hy=>?_⟩
          by_cases e:c=7 - j
          · subst e; rw [hp] at hy; injection hy with hy; omega
          · have:=q2 c (by omega) h2 y hy; omega
        · injection h with h
          subst h
          refine ⟨q1,fun c h1 h2 y hy=>?_⟩
          by_cases e:c=7 - j
          · subst e; rw [hp] at hy; injection hy with hy; omega
          · exact q2 c (by omega) h2 y hy
variable {lo:List Int} {n:Nat} {per sh bu br rt lt:Int} {out:List (List Int)} {ow:List (Int × Int)} {un:Int} {cap:Nat → Int} {op:Int → Prop} {s:PS}
def bk6 (s:PS):Prop:=(s.bz=1 ∧ s.x2=6) ∨ s.Q 6 ≠ []
structure Tim (per bd:Int) (ow:List (Int × Int)) (s:PS):Prop where
  tg:∀ k,k < (F6 s.g).length → rc (F6 s.g) k 0 ≤ (pr ow k).1 + bd ∧ (pr ow k).1 + (pr ow k).2 * per ≤ rc (F6 s.g) k 0
  ts:s.bz=1 → s.x2=6 → (pr ow (F6 s.g).length).1 ≤ s.bg
  ta:∀ k,k < (F6 s.g).length + (snd6 s).length + (s.Q 6).length → (pr ow k).1 ≤ s.now
def S6 (per:Int) (ow:List (Int × Int)) (s:PS) (j:Nat):Int:=per * (sumN ow (F6 s.g).length - sumN ow j) + 127 * per
def BJ (lo:List Int) (n:Nat) (per sh:Int) (ow:List (Int × Int)) (s:PS):Prop:=bk6 s → ∃ j,j ≤ (F6 s.g).length ∧ (pr ow j).1 ≤ s.now ∧
  (s.bz=1 → s.x2=6 → (pr ow j).1 ≤ s.bg ∧ cnt (GP lo n per sh) (pr ow j).1 s.bg ≤ S6 per ow s j) ∧ (s.bz=1 → s.x2 ≠ 6 → cnt (GP lo n per sh) (pr ow j).1 s.fn ≤ S6 per ow s j) ∧ (s.bz ≠ 1 → cnt (GP lo n per sh) (pr ow j).1 s.now ≤ S6 per ow s j)
def B1 (lo:List Int) (n:Nat) (per sh:Int) (ow:List (Int × Int)) (t:Int) (s:PS):Prop:=bk6 s → ∃ j,j ≤ (F6 s.g).length ∧ (pr ow j).1 ≤ t ∧
  (s.bz=1 → s.x2=6 → (pr ow j).1 ≤ s.bg ∧ cnt (GP lo n per sh) (pr ow j).1 s.bg ≤ S6 per ow s j) ∧ (s.bz=1 → s.x2 ≠ 6 → cnt (GP lo n per sh) (pr ow j).1 s.fn ≤ S6 per ow s j ∨ ((pr ow j).1=t ∧ j=(F6 s.g).length ∧ s.rs=0)) ∧ (s.bz ≠ 1 → cnt (GP lo n per sh) (pr ow j).1 t ≤ S6 per ow s j)
structure JT (lo:List Int) (n:Nat) (per sh bd:Int) (cap:Nat → Int) (un:Int) (out:List (List Int)) (ow:List (Int × Int)) (s:PS):Prop where
  cor:Cor per cap un out (opX lo n sh) s
  tim:Tim per bd ow s
  bj:BJ lo n per sh ow s
structure J1T (lo:List Int) (n:Nat) (per sh bd:Int) (cap:Nat → Int) (un:Int) (out:List (List Int)) (ow:List (Int × Int)) (t:Int) (s:PS):Prop where
  cor:Cor per cap un out (opX lo n sh) s
  tim:Tim per bd ow s
  b1:B1 lo n per sh ow t s
  tn:s.now ≤ t ∧ t ≤ un
  tf:s.bz=1 → t < s.fn
  tl:∀ k,k < s.l.length → t ≤ rc s.l k 0
theorem head6 (hk:qkE (cap 6) (s.Q 6)=0) (hq:s.Q 6 ≠ []):1 ≤ (s.Q 6).length:=by
  cases h:s.Q 6 with
  | nil => exact absurd h hq
  | cons => simp
theorem Lw.head (H:Lw lo n per sh bu br rt lt out ow) (h:Cor per cap un out op s) (hq:s.Q 6 ≠ []):rc (hdL s.Q) 6 5 * per ≤ 339 * per:=by
  have h1:=head6 (h.hv 6 (by decide)) hq
  have h2:=H.que h (k:=0) (by omega)
  rw [hd_rc (by decide) h1,← h2.2]
  refine Int.mul_le_mul_of_nonneg_right ?_ (by have:=H.sv.per1; omega)
  have h3:(F6 s.g).length + (snd6 s).length + 0 < (F6 out).length:=by rw [← H.owlen]; exact h2.1
  rw [H.owat h2.1]
  obtain ⟨k,hk⟩:∃ k,(F6 s.g).length + (snd6 s).length + 0=k:=⟨_,rfl⟩
  rw [hk] at h3 ⊢
  have hm:(F6 out)[k] ∈ F6 out:=List.getElem_mem h3
  have hm2:=List.mem_filter.1 hm
  obtain ⟨i,hi,e⟩:=List.getElem_of_mem hm2.1
  have he:=H.cm.el i hi
  have hx:∀ j,rc out i j=((F6 out)[k]).getD j 0:=fun j=>by rw [rc_eq,List.getElem?_eq_getElem hi,e]; rfl
  have h6:((F6 out)[k]).getD 3 0=6:=by simpa using hm2.2
  show rc (F6 out) k 4 ≤ 339
  rw [rc_eq,List.getElem?_eq_getElem h3]
  show ((F6 out)[k]).getD 4 0 ≤ 339
  rw [← hx,] at h6 ⊢
  omega
theorem Lw.quiet (H:Lw lo n per sh bu br rt lt out ow) (h:Cor per cap un out op s) (hq:s.Q 6 ≠ []) {x:Int} (hn:¬ rc (hdL s.Q) 6 5 * per ≤ opN (altL lo n) (sumL (altL lo n) n) 6 (x + sh)):¬ GP lo n per sh x:=fun hg=>hn (Int.le_trans (H.head h hq) hg)
theorem Lw.tm (H:Lw lo n per sh bu br rt lt out ow) (h:Cor per cap un out op s) (hu:un=1073741824) :
    (∀ t,tmS (altL lo n) (sumL (altL lo n) n) per sh s=some t → s.now ≤ t ∧ (s.bz=1 → t ≤ s.fn) ∧ (∀ k,k < s.l.length → t ≤ rc s.l k 0) ∧ (s.bz ≠ 1 → s.Q 6 ≠ [] → ∀ x,s.now ≤ x → x < t → ¬ GP lo n per sh x)) ∧
    (tmS (altL lo n) (sumL (altL lo n) n) per sh s=none → s.bz ≠ 1 ∧ s.l=[] ∧ (s.Q 6 ≠ [] → ∀ x,s.now ≤ x → ¬ GP lo n per sh x)):=by
  have hsort:1 ≤ s.l.length → ∀ k,k < s.l.length → rc s.l 0 0 ≤ rc s.l k 0:=fun h1 k hk=>by
    obtain ⟨i,hi⟩:=h.le
    rw [hi] at hk ⊢
    simp only [rc_drop]
    cases k with
    | zero => exact Int.le_refl _
    | succ k => exact (H.cms.el (i + (k + 1)) (by simp at hk; omega)).2.1 (i + 0) (by omega)
  have hc:=H.sv.cyb
  -- what nxS says
  have hw6:s.Q 6 ≠ [] → whnO (altL lo n) (sumL (altL lo n) n) per sh (hdL s.Q) s.now 6=(fitE (altL lo n) (sumL (altL lo n) n) 6 (s.now + sh) (rc (hdL s.Q) 6 5 * per)).map (· - sh):=fun hq=>by
    unfold whnO
    exact if_pos ⟨(full_iff (h.hv 6 (by decide)) (by decide)).2 (head6 (h.hv 6 (by decide)) hq),.inl (by decide)⟩
  have hnx:s.bz ≠ 1 → (∀ m,nxS (altL lo n) (sumL (altL lo n) n) per sh s=some m → s.now ≤ m ∧ (s.Q 6 ≠ [] → ∀ x,s.now ≤ x → x < m → ¬ GP lo n per sh x)) ∧ (nxS (altL lo n) (sumL (altL lo n) n) per sh s=none → s.Q 6 ≠ [] → ∀ x,s.now ≤ x → ¬ GP lo n per sh x):=fun hb=>by
    unfold nxS
    rw [if_neg hb]
    obtain ⟨w1,w2⟩:=whG_spec (p:=fun c=>whnO (altL lo n) (sumL (altL lo n) n) per sh (hdL s.Q) s.now c) 8 (Nat.le_refl _)
    refine ⟨fun m hm=>?_,fun hm hq x hx=>?_⟩
    · obtain ⟨⟨c,hc8,hcm⟩,hall⟩:=w1 m hm
      constructor
      · unfold whnO at hcm
        try dsimp only at hcm
        split at hcm
        · rw [Option.map_eq_some_iff] at hcm
          obtain ⟨y,hy,rfl⟩:=hcm
          have:=(fitE_some hy).1
          omega
        · cases hcm
      · intro hq x x1 x2
        refine H.quiet h hq ?_
        cases hf:fitE (altL lo n) (sumL (altL lo n) n) 6 (s.now + sh) (rc (hdL s.Q) 6 5 * per) with
        | none => exact fitE_none hc.1 hf _ (by omega)
        | some y =>
          have:=hall 6 (by decide) (by decide) (y - sh) (by (try dsimp only); rw [hw6 hq,hf]; rfl)
          exact (fitE_some hf).2.2 _ (by omega) (by omega)
    · have h6:=w2 hm 6 (by decide) (by decide)
      try dsimp only at h6
      rw [hw6 hq,Option.map_eq_none_iff] at h6
      exact H.quiet h hq (fitE_none hc.1 h6 _ (by omega))
  have hnb:s.bz=1 → nxS (altL lo n) (sumL (altL lo n) n) per sh s=some s.fn:=fun hb=>by unfold nxS; rw [if_pos hb]
  unfold tmS
  constructor
  · intro t ht
    split at ht
    · rename_i hcm
      injection ht with ht
      subst ht
      refine ⟨h.ln 0 (by omega),fun hb=>?_,hsort hcm.1,fun hb hq x x1 x2=>?_⟩
      · rw [hnb hb] at hcm
        rcases hcm.2 with z | z
        · cases z
        · simp only [Option.getD_some] at z; omega
      · cases hw:nxS (altL lo n) (sumL (altL lo n) n) per sh s with
        | none => exact (hnx hb).2 hw hq x x1
        | some m =>
          rw [hw] at hcm
          rcases hcm.2 with z | z
          · cases z
          · simp only [Option.getD_some] at z
            exact ((hnx hb).1 m hw).2 hq x x1 (by omega)
    · rename_i hcm
      rw [ht] at hcm
      have hle:∀ k,k < s.l.length → t ≤ rc s.l k 0:=fun k hk=>by
        have h1:1 ≤ s.l.length:=by omega
        have:=hsort h1 k hk
        refine Int.not_lt.1 fun z=>hcm ⟨h1,.inr ?_⟩
        simp only [Option.getD_some]
        omega
      by_cases hb:s.bz=1
      · rw [hnb hb] at ht
        injection ht with ht
        subst ht
        exact ⟨(h.tm hb).2.2,fun _=>Int.le_refl _,hle,fun z=>absurd hb z⟩
      · have:=(hnx hb).1 t ht
        exact ⟨this.1,fun z=>absurd z hb,hle,fun _=>this.2⟩
  · intro ht
    split at ht
    · cases ht
    · rename_i hcm
      have hb:s.bz ≠ 1:=fun hb=>by rw [hnb hb] at ht; cases ht
      refine ⟨hb,?_,(hnx hb).2 ht⟩
      rcases Nat.eq_zero_or_pos s.l.length with z | z
      · exact List.length_eq_zero_iff.1 z
      · exact absurd ⟨z,.inl ht⟩ hcm
end Go.Proofs.YtlngflbamkgjlaaGreat
namespace Go.Proofs.YtlngflbamkgjlaaGreat
set_option linter.unusedVariables false
set_option linter.unusedSimpArgs false
variable {lo:List Int} {n:Nat} {per sh bu br rt lt:Int} {out:List (List Int)} {ow:List (Int × Int)} {un:Int} {cap:Nat → Int} {s:PS} {t:Int}
theorem Lw.e0 (H:Lw lo n per sh bu br rt lt out ow) (hu:un=1073741824) (h:JT lo n per sh (dlV rt lt [(bu,br)]) cap un out ow s) (ht:tmS (altL lo n) (sumL (altL lo n) n) per sh s=some t) (htu:t ≤ un) (hn:¬ (s.bz=1 ∧ s.fn=t)):J1T lo n per sh (dlV rt lt [(bu,br)]) cap un out ow t s:=by
  obtain ⟨t1,t2,t3,t4⟩:=(H.tm h.cor hu).1 t ht
  refine ⟨h.cor,h.tim,fun hk=>?_,⟨t1,htu⟩,fun hb=>?_,t3⟩
  · obtain ⟨j,j1,j2,j3,j4,j5⟩:=h.bj hk
    refine ⟨j,j1,by omega,j3,fun hb h6=>.inl (j4 hb h6),fun hb=>?_⟩
    have hq:s.Q 6 ≠ []:=hk.resolve_left fun z=>hb z.1
    rw [cnt_add j2 t1,cnt_none t1 (t4 hb hq),Int.add_zero]
    exact j5 hb
  · have:=t2 hb
    rcases Int.lt_or_le t s.fn with q | q
    · exact q
    · exact absurd ⟨hb,by omega⟩ hn
theorem Lw.e1 (H:Lw lo n per sh bu br rt lt out ow) (hu:un=1073741824) (h:JT lo n per sh (dlV rt lt [(bu,br)]) cap un out ow s) (ht:tmS (altL lo n) (sumL (altL lo n) n) per sh s=some t) (htu:t ≤ un) (hb:s.bz=1) (hf:s.fn=t) (hr:s.rs=0) :
    J1T lo n per sh (dlV rt lt [(bu,br)]) cap un out ow t ⟨t,0,0,0,0,0,0,0,0,0,0,0,s.Q,s.l,s.g ++ [[t,s.x0,s.x1,s.x2,s.x3,s.x4]]⟩:=by
  obtain ⟨t1,t2,t3,t4⟩:=(H.tm h.cor hu).1 t ht
  have hc:=h.cor.e1 hb hf hr htu t3
  have hsn:snd6 ⟨t,0,0,0,0,0,0,0,0,0,0,0,s.Q,s.l,s.g ++ [[t,s.x0,s.x1,s.x2,s.x3,s.x4]]⟩=[]:=snd6_no fun z=>z01 z.1
  have hf0:=h.cor.f0 hb hr
  have htm:=h.cor.tm hb
  have hp:=H.sv.per1
  by_cases h6:s.x2=6
  · have e:F6 (s.g ++ [[t,s.x0,s.x1,s.x2,s.x3,s.x4]])=F6 s.g ++ [[t,s.x0,s.x1,s.x2,s.x3,s.x4]]:=by rw [F6_app,F6_yes (by exact h6),F6_nil]
    have hs:=H.snd h.cor hb h6
    have hts:=h.tim.ts hb h6
    have hsl:(snd6 s).length=1:=by rw [snd6_yes hb h6]; rfl
    obtain ⟨j,j1,j2,j3,_,_⟩:=h.bj (.inl ⟨hb,h6⟩)
    obtain ⟨j3a,j3b⟩:=j3 hb h6
    have hcnt:cnt (GP lo n per sh) (pr ow j).1 t ≤ per * (sumN ow ((F6 s.g).length + 1) - sumN ow j) + 127 * per:=by
      rw [cnt_add j3a (show s.bg ≤ t by omega)]
      have h1:=cnt_le (p:=GP lo n per sh) (show s.bg ≤ t by omega)
      unfold S6 at j3b
      rw [sumN,hs.2.1,show sumN ow (F6 s.g).length + s.x3 - sumN ow j=sumN ow (F6 s.g).length - sumN ow j + s.x3 by omega,Int.mul_add,Int.mul_comm per s.x3,← hs.2.2]
      omega
    refine ⟨hc,⟨fun k hk=>?_,fun z=>z01 z,fun k hk=>?_⟩,fun hk=>?_,⟨Int.le_refl _,htu⟩,fun z=>z01 z,t3⟩
    · dsimp only at hk ⊢
      rw [e] at hk ⊢
      rw [List.length_append] at hk
      simp only [List.length_cons,List.length_nil] at hk
      by_cases ek:k=(F6 s.g).length
      · subst ek
        rw [rc_last]
        show t ≤ _ ∧ _ ≤ t
        refine ⟨H.late j1 hs.1 (by omega) hcnt,?_⟩
        rw [hs.2.1,← hs.2.2]
        omega
      · rw [rc_left (by omega)]
        exact h.tim.tg k (by omega)
    · rw [hsn] at hk
      dsimp only at hk ⊢
      rw [e,List.length_append] at hk
      simp only [List.length_cons,List.length_nil] at hk
      have:=h.tim.ta k (by omega)
      omega
    · refine ⟨j,?_,by omega,fun z=>z01 z,fun z=>z01 z,fun _=>?_⟩
      · dsimp only; rw [e,List.length_append]; omega
      · unfold S6
        dsimp only
        rw [e,List.length_append]
        exact hcnt
  · have e:F6 (s.g ++ [[t,s.x0,s.x1,s.x2,s.x3,s.x4]])=F6 s.g:=by rw [F6_app,F6_no (by exact h6),F6_nil,List.append_nil]
    refine ⟨hc,⟨fun k hk=>?_,fun z=>z01 z,fun k hk=>?_⟩,fun hk=>?_,⟨Int.le_refl _,htu⟩,fun z=>z01 z,t3⟩
    · dsimp only at hk ⊢
      rw [e] at hk ⊢
      exact h.tim.tg k hk
    · rw [hsn] at hk
      dsimp only at hk ⊢
      rw [e] at hk
      have:=h.tim.ta k (by simp only [List.length_nil] at hk; omega)
      omega
    · have hq:s.Q 6 ≠ []:=hk.resolve_left fun z=>z01 z.1
      obtain ⟨j,j1,j2,_,j4,_⟩:=h.bj (.inr hq)
      refine ⟨j,by dsimp only; rw [e]; exact j1,by omega,fun z=>z01 z,fun z=>z01 z,fun _=>?_⟩
      have:=j4 hb h6
      rw [hf] at this
      unfold S6 at this ⊢
      dsimp only
      rw [e]
      exact this
theorem Lw.e2 (H:Lw lo n per sh bu br rt lt out ow) (hu:un=1073741824) (h:JT lo n per sh (dlV rt lt [(bu,br)]) cap un out ow s) (ht:tmS (altL lo n) (sumL (altL lo n) n) per sh s=some t) (htu:t ≤ un) (hb:s.bz=1) (hf:s.fn=t) (hr:s.rs ≠ 0) :
    J1T lo n per sh (dlV rt lt [(bu,br)]) cap un out ow t ⟨t,0,0,0,0,0,0,0,0,0,0,0,upd s.Q s.x2.toNat ([[s.x0,s.x1,s.x2,s.x3,s.x4,s.rs,1]] ++ s.Q s.x2.toNat),s.l,s.g⟩:=by
  obtain ⟨t1,t2,t3,t4⟩:=(H.tm h.cor hu).1 t ht
  have hc:=h.cor.e2 hb hf hr htu t3
  obtain ⟨h6,_,hq6⟩:=h.cor.f1 hb hr
  have hpt:=h.cor.pt hb
  have htm:=h.cor.tm hb
  have hQ:upd s.Q s.x2.toNat ([[s.x0,s.x1,s.x2,s.x3,s.x4,s.rs,1]] ++ s.Q s.x2.toNat) 6=s.Q 6:=upd_ne _ _ (by omega)
  have hsn:snd6 ⟨t,0,0,0,0,0,0,0,0,0,0,0,upd s.Q s.x2.toNat ([[s.x0,s.x1,s.x2,s.x3,s.x4,s.rs,1]] ++ s.Q s.x2.toNat),s.l,s.g⟩=[]:=snd6_no fun z=>z01 z.1
  refine ⟨hc,⟨h.tim.tg,fun z=>z01 z,fun k hk=>?_⟩,fun hk=>?_,⟨Int.le_refl _,htu⟩,fun z=>z01 z,t3⟩
  · rw [hsn] at hk
    dsimp only at hk ⊢
    rw [hQ] at hk
    have:=h.tim.ta k (by simp only [List.length_nil] at hk; omega)
    omega
  · obtain ⟨j,j1,j2,_,j4,_⟩:=h.bj (.inr hq6)
    refine ⟨j,j1,by omega,fun z=>z01 z,fun z=>z01 z,fun _=>?_⟩
    have:=j4 hb (by omega)
    rw [hf] at this
    exact this
end Go.Proofs.YtlngflbamkgjlaaGreat
namespace Go.Proofs.YtlngflbamkgjlaaGreat
set_option linter.unusedVariables false
set_option linter.unusedSimpArgs false
variable {lo:List Int} {n:Nat} {per sh bu br rt lt:Int} {out:List (List Int)} {ow:List (Int × Int)} {un:Int} {cap:Nat → Int} {s:PS} {t:Int}
theorem Lw.fit6 (H:Lw lo n per sh bu br rt lt out ow) {x L:Int} (hL:L ≤ 1099511627776):L ≤ opN (altL lo n) (sumL (altL lo n) n) 6 (x + sh) ↔ ∀ z,x ≤ z → z < x + L → opX lo n sh z:=H.fit (c:=6) (by decide) hL
theorem Lw.ar (H:Lw lo n per sh bu br rt lt out ow) (hu:un=1073741824) (hcap:cap 6=blV bu br rt lt) (h:J1T lo n per sh (dlV rt lt [(bu,br)]) cap un out ow t s) (hl:1 ≤ s.l.length) (hx:rc s.l 0 0=t) :
    J1T lo n per sh (dlV rt lt [(bu,br)]) cap un out ow t { s with now:=t,Q:=arQ cap s.Q (rc s.l 0 3).toNat [rc s.l 0 1,rc s.l 0 2,rc s.l 0 3,rc s.l 0 4,rc s.l 0 5,rc s.l 0 4,0] (rc s.l 0 4),l:=s.l.tail }:=by
  have hp:=H.sv.per1
  have hacc:rc s.l 0 3=6 → octL (s.Q 6) (s.Q 6).length + rc s.l 0 4 ≤ cap 6:=fun h6=>by
    obtain ⟨n1,n2⟩:=H.nxt h.cor hl h6
    have ho:=H.oct h.cor (s.Q 6).length (Nat.le_refl _)
    have hsz:sumN ow ((F6 s.g).length + (snd6 s).length + (s.Q 6).length + 1)=sumN ow ((F6 s.g).length + (snd6 s).length + (s.Q 6).length) + rc s.l 0 4:=by rw [sumN,n2]
    rw [hcap,ho]
    by_cases hk:bk6 s
    · obtain ⟨j,j1,j2,j3,j4,j5⟩:=h.b1 hk
      have hcnt:cnt (GP lo n per sh) (pr ow j).1 t ≤ per * (sumN ow ((F6 s.g).length + (snd6 s).length) - sumN ow j) + 127 * per:=by
        by_cases hb:s.bz=1
        · have htf:=h.tf hb
          by_cases e6:s.x2=6
          · obtain ⟨q1,q2⟩:=j3 hb e6
            have hs:=H.snd h.cor hb e6
            have htm:=h.cor.tm hb
            have hbt:s.bg ≤ t:=by have:=h.tn.1; omega
            have hf0:=h.cor.f0 hb (by
              refine Classical.byContradiction fun z=>?_
              have:=(h.cor.f1 hb z).1
              omega)
            have hsl:(snd6 s).length=1:=by rw [snd6_yes hb e6]; rfl
            rw [cnt_add q1 hbt,hsl,sumN,hs.2.1,show sumN ow (F6 s.g).length + s.x3 - sumN ow j=sumN ow (F6 s.g).length - sumN ow j + s.x3 by omega,Int.mul_add,Int.mul_comm per s.x3,← hs.2.2]
            have h1:=cnt_le (p:=GP lo n per sh) hbt
            unfold S6 at q2
            omega
          · have hsl:(snd6 s).length=0:=by rw [snd6_no fun z=>e6 z.2]; rfl
            rw [hsl,Nat.add_zero]
            rcases j4 hb e6 with z | ⟨z1,z2,_⟩
            · have:=cnt_mono (p:=GP lo n per sh) j2 (show t ≤ s.fn by omega)
              unfold S6 at z
              omega
            · rw [z1,cnt_self,z2,Int.sub_self]
              omega
        · have hsl:(snd6 s).length=0:=by rw [snd6_no fun z=>hb z.1]; rfl
          rw [hsl,Nat.add_zero]
          exact j5 hb
      have:=H.acc (p:=(F6 s.g).length + (snd6 s).length) (by omega) (by omega) n1 (by rw [n2]; exact hx) hcnt
      omega
    · have:=H.acc (i:=(F6 s.g).length + (snd6 s).length + (s.Q 6).length) (j:=(F6 s.g).length + (snd6 s).length + (s.Q 6).length) (p:=(F6 s.g).length + (snd6 s).length + (s.Q 6).length) (t:=t) (Nat.le_refl _) (Nat.le_refl _) n1 (by rw [n2]; exact hx) (by rw [n2]; show cnt _ (rc s.l 0 0) t ≤ _; rw [hx,cnt_self,Int.sub_self]; omega)
      have hq0:(s.Q 6).length=0:=by
        refine Classical.byContradiction fun z=>hk (.inr fun e=>z (by rw [e]; rfl))
      rw [hq0] at this hsz ⊢
      simp only [Nat.add_zero] at this hsz ⊢
      omega
  have hc:=h.cor.ar (by rw [hu]; exact H.cms) hl hx h.tn.1 h.tn.2 (fun hb=>by have:=h.tf hb; omega) hacc
  have hsn:∀ Q' l',snd6 { s with now:=t,Q:=Q',l:=l' }=snd6 s:=fun _ _=>rfl
  obtain ⟨Q',hQ'⟩:∃ Q',arQ cap s.Q (rc s.l 0 3).toNat [rc s.l 0 1,rc s.l 0 2,rc s.l 0 3,rc s.l 0 4,rc s.l 0 5,rc s.l 0 4,0] (rc s.l 0 4)=Q':=⟨_,rfl⟩
  have hQ6:(rc s.l 0 3=6 ∧ Q' 6=s.Q 6 ++ [[rc s.l 0 1,rc s.l 0 2,rc s.l 0 3,rc s.l 0 4,rc s.l 0 5,rc s.l 0 4,0]]) ∨ (rc s.l 0 3 ≠ 6 ∧ Q' 6=s.Q 6):=by
    have h0:0 ≤ rc s.l 0 3 ∧ rc s.l 0 3 ≤ 6:=by
      obtain ⟨i,hi⟩:=h.cor.le
      have:=(H.cms.el (i + 0) (by rw [hi] at hl; simp at hl; omega)).2.2.1
      rw [← rc_drop,← hi] at this
      exact this
    unfold arQ at hQ'
    by_cases e6:rc s.l 0 3=6
    · have e:(rc s.l 0 3).toNat=6:=by rw [e6]; rfl
      rw [e,if_pos (hacc e6)] at hQ'
      refine .inl ⟨e6,?_⟩
      rw [← hQ',upd_same]
    · refine .inr ⟨e6,?_⟩
      split at hQ'
      · rw [← hQ',upd_ne _ _ (by omega)]
      · rw [← hQ']
  rw [hQ'] at hc ⊢
  have hl2:=List.length_tail (l:=s.l)
  refine ⟨hc,⟨h.tim.tg,h.tim.ts,fun k hk=>?_⟩,fun hk=>?_,⟨Int.le_refl _,h.tn.2⟩,h.tf,fun k hk=>hc.ln k hk⟩
  · rw [hsn] at hk
    show (pr ow k).1 ≤ t
    dsimp only at hk
    rcases hQ6 with ⟨e6,e⟩ | ⟨_,e⟩
    · rw [e,List.length_append] at hk
      simp only [List.length_cons,List.length_nil] at hk
      by_cases ek:k=(F6 s.g).length + (snd6 s).length + (s.Q 6).length
      · rw [ek,(H.nxt h.cor hl e6).2]
        exact Int.le_of_eq hx
      · have:=h.tim.ta k (by omega)
        have:=h.tn.1
        omega
    · rw [e] at hk
      have:=h.tim.ta k hk
      have:=h.tn.1
      omega
  · by_cases hk0:bk6 s
    · exact h.b1 hk0
    · have hb6:¬ (s.bz=1 ∧ s.x2=6):=fun z=>hk0 (.inl z)
      have hq0:s.Q 6=[]:=Classical.byContradiction fun z=>hk0 (.inr z)
      rcases hQ6 with ⟨e6,_⟩ | ⟨_,e⟩
      · obtain ⟨n1,n2⟩:=H.nxt h.cor hl e6
        rw [snd6_no hb6,hq0] at n1 n2
        simp only [List.length_nil,Nat.add_zero] at n1 n2
        refine ⟨(F6 s.g).length,Nat.le_refl _,by rw [n2]; exact Int.le_of_eq hx,fun hb h6=>absurd ⟨hb,h6⟩ hb6,fun hb h6=>.inr ⟨by rw [n2]; exact hx,rfl,?_⟩,fun hb=>?_⟩
        · refine Classical.byContradiction fun z=>?_
          exact (h.cor.f1 hb z).2.2 hq0
        · rw [n2]
          show cnt _ (rc s.l 0 0) t ≤ _
          rw [hx,cnt_self]
          unfold S6
          dsimp only
          rw [Int.sub_self]
          omega
      · refine absurd (hk.resolve_left hb6) ?_
        show ¬ Q' 6 ≠ []
        rw [e,hq0]
        exact fun z=>z rfl
theorem come_ne {l:List (List Int)} {o:Option Int} (hno:¬ (1 ≤ l.length ∧ rc l 0 0=t)) (ho:o ≠ some t):(if 1 ≤ l.length ∧ (o=none ∨ rc l 0 0 < o.getD 0) then some (rc l 0 0) else o) ≠ some t:=fun z=>by
  split at z
  · rename_i q
    injection z with z
    exact hno ⟨q.1,z⟩
  · exact ho z
theorem Lw.c0 (H:Lw lo n per sh bu br rt lt out ow) (h:J1T lo n per sh (dlV rt lt [(bu,br)]) cap un out ow t s) (hno:¬ (1 ≤ s.l.length ∧ rc s.l 0 0=t)) (hb:s.bz ≠ 1) (hst:stF (fun c=>mayP (altL lo n) (sumL (altL lo n) n) per sh (hdL s.Q) c t) 8=none) :
    JT lo n per sh (dlV rt lt [(bu,br)]) cap un out ow { s with now:=t } ∧ tmS (altL lo n) (sumL (altL lo n) n) per sh { s with now:=t } ≠ some t:=by
  refine ⟨⟨h.cor.later h.tn.1 h.tn.2 (fun z=>absurd z hb) h.tl,⟨h.tim.tg,h.tim.ts,fun k hk=>Int.le_trans (h.tim.ta k hk) h.tn.1⟩,fun hk=>?_⟩,?_⟩
  · obtain ⟨j,j1,j2,_,_,j5⟩:=h.b1 hk
    exact ⟨j,j1,j2,fun z=>absurd z hb,fun z=>absurd z hb,fun _=>j5 hb⟩
  · refine come_ne hno fun z=>?_
    unfold nxS at z
    rw [if_neg hb] at z
    obtain ⟨c,hc,hp⟩:=((whG_spec 8 (Nat.le_refl _)).1 t z).1
    unfold whnO at hp
    dsimp only at hp
    split at hp
    · rename_i q
      rw [Option.map_eq_some_iff] at hp
      obtain ⟨y,hy,e⟩:=hp
      have hf:=(fitE_some hy).2.1
      rw [show y=t + sh by omega] at hf
      exact stF_none hst c hc ⟨q.1,q.2,hf⟩
    · cases hp
theorem Lw.c1 (H:Lw lo n per sh bu br rt lt out ow) (h:J1T lo n per sh (dlV rt lt [(bu,br)]) cap un out ow t s) (hno:¬ (1 ≤ s.l.length ∧ rc s.l 0 0=t)) (hb:s.bz ≠ 1) {c:Nat} (hst:stF (fun c=>mayP (altL lo n) (sumL (altL lo n) n) per sh (hdL s.Q) c t) 8=some c) :
    JT lo n per sh (dlV rt lt [(bu,br)]) cap un out ow ⟨t,1,rc (s.Q c) 0 0,rc (s.Q c) 0 1,rc (s.Q c) 0 2,rc (s.Q c) 0 3,rc (s.Q c) 0 4,rc (s.Q c) 0 5,rc (s.Q c) 0 6,t,t + rc (s.Q c) 0 5 * per,0,upd s.Q c (s.Q c).tail,s.l,s.g⟩ ∧
    tmS (altL lo n) (sumL (altL lo n) n) per sh ⟨t,1,rc (s.Q c) 0 0,rc (s.Q c) 0 1,rc (s.Q c) 0 2,rc (s.Q c) 0 3,rc (s.Q c) 0 4,rc (s.Q c) 0 5,rc (s.Q c) 0 6,t,t + rc (s.Q c) 0 5 * per,0,upd s.Q c (s.Q c).tail,s.l,s.g⟩ ≠ some t:=by
  obtain ⟨hc8,⟨hz,hfr,hft⟩,hgr⟩:=stF_some hst
  have hp:=H.sv.per1
  have hn1:1 ≤ (s.Q c).length:=hd_pos hc8 hz
  have hc6:c ≤ 6:=by
    rcases Nat.lt_or_ge c 7 with q | q
    · omega
    · have e:c=7:=by omega
      rw [e,h.cor.q7] at hn1
      simp at hn1
  unfold fitP at hft
  rw [hd_rc hc8 hn1] at hft
  have hoct:=qk_oct (h.cor.hv c hc8) 0 (by omega)
  have hLb:84 * 1 ≤ rc (s.Q c) 0 5 * per ∧ rc (s.Q c) 0 5 * per ≤ 1542 * 5:=⟨Int.mul_le_mul hoct.1 hp.1 (by decide) (by omega),Int.mul_le_mul hoct.2 hp.2 (by omega) (by decide)⟩
  have hop:=(H.fit hc6 (t:=t) (L:=rc (s.Q c) 0 5 * per) (by omega)).1 hft
  have hcl:=h.cor.cl c hc8 0 (by omega)
  have hcor:=h.cor.c1 hc6 hb hn1 ((free_iff hc8).1 hfr) hp.1 h.tn.1 h.tn.2 h.tl hop
  have hs0:snd6 s=[]:=snd6_no fun z=>hb z.1
  have hlt:=List.length_tail (l:=s.Q c)
  refine ⟨⟨hcor,⟨h.tim.tg,fun _ h6=>?_,fun k hk=>?_⟩,fun hk=>?_⟩,?_⟩
  · have e6:c=6:=by have:rc (s.Q c) 0 2=6:=h6; omega
    subst e6
    show (pr ow (F6 s.g).length).1 ≤ t
    have:=h.tim.ta (F6 s.g).length (by rw [hs0]; simp only [List.length_nil]; omega)
    have:=h.tn.1
    omega
  · show (pr ow k).1 ≤ t
    have:=h.tn.1
    by_cases e6:c=6
    · subst e6
      rw [snd6_yes rfl hcl] at hk
      dsimp only at hk
      rw [upd_same] at hk
      simp only [List.length_cons,List.length_nil] at hk
      have:=h.tim.ta k (by rw [hs0]; simp only [List.length_nil]; omega)
      omega
    · rw [snd6_no (fun z=>by have:rc (s.Q c) 0 2=6:=z.2; omega)] at hk
      dsimp only at hk
      rw [upd_ne _ _ (fun z=>e6 z.symm)] at hk
      have:=h.tim.ta k (by rw [hs0]; exact hk)
      omega
  · by_cases e6:c=6
    · subst e6
      have hk0:bk6 s:=.inr fun z=>by rw [z] at hn1; simp at hn1
      obtain ⟨j,j1,j2,_,_,j5⟩:=h.b1 hk0
      exact ⟨j,j1,j2,fun _ _=>⟨j2,j5 hb⟩,fun _ z=>absurd hcl z,fun z=>absurd rfl z⟩
    · have hq:s.Q 6 ≠ []:=by
        rcases hk with z | z
        · have:rc (s.Q c) 0 2=6:=z.2
          omega
        · have z':upd s.Q c (s.Q c).tail 6 ≠ []:=z
          rwa [upd_ne _ _ (fun z=>e6 z.symm)] at z'
      obtain ⟨j,j1,j2,_,_,j5⟩:=h.b1 (.inr hq)
      refine ⟨j,j1,j2,fun _ z=>?_,fun _ _=>?_,fun z=>absurd rfl z⟩
      · have:rc (s.Q c) 0 2=6:=z
        omega
      · show cnt _ _ (t + rc (s.Q c) 0 5 * per) ≤ _
        have hn6:¬ rc (hdL s.Q) 6 5 * per ≤ opN (altL lo n) (sumL (altL lo n) n) 6 (t + sh):=fun z=>hgr 6 (by omega) (by decide) ⟨(full_iff (h.cor.hv 6 (by decide)) (by decide)).2 (head6 (h.cor.hv 6 (by decide)) hq),.inl (by decide),z⟩
        have hhd:=H.head h.cor hq
        rw [H.fit6 (by omega)] at hn6
        rw [cnt_add j2 (show t ≤ t + rc (s.Q c) 0 5 * per by omega),cnt_none (show t ≤ t + rc (s.Q c) 0 5 * per by omega) fun x x1 x2=>H.nogp hhd hn6 hop x1 (by omega),Int.add_zero]
        exact j5 hb
  · refine come_ne hno fun z=>?_
    unfold nxS at z
    rw [if_pos rfl] at z
    injection z with z
    have:t + rc (s.Q c) 0 5 * per=t:=z
    omega
theorem prK_bd {per bg t:Int} (hp:1 ≤ per) (hb:bg ≤ t):64 ≤ prK per bg t ∧ t - bg ≤ prK per bg t * per ∧ (prK per bg t=64 ∨ prK per bg t * per ≤ t - bg + per - 1):=by
  have h1:=Int.ediv_mul_le (t - bg + per - 1) (show per ≠ 0 by omega)
  have h2:=Int.lt_ediv_add_one_mul_self (t - bg + per - 1) (show 0 < per by omega)
  rw [Int.add_mul] at h2
  unfold prK
  by_cases q:(t - bg + per - 1) / per ≤ 64
  · rw [Int.max_eq_left q]
    have h3:=Int.mul_le_mul_of_nonneg_right q (show 0 ≤ per by omega)
    exact ⟨Int.le_refl _,by omega,.inl rfl⟩
  · rw [Int.max_eq_right (by omega)]
    exact ⟨by omega,by omega,.inr h1⟩
theorem Lw.c2 (H:Lw lo n per sh bu br rt lt out ow) (h:J1T lo n per sh (dlV rt lt [(bu,br)]) cap un out ow t s) (hno:¬ (1 ≤ s.l.length ∧ rc s.l 0 0=t)) (hb:s.bz=1) (hpc:pcS (altL lo n) (sumL (altL lo n) n) per sh s t) :
    JT lo n per sh (dlV rt lt [(bu,br)]) cap un out ow { s with now:=t,fn:=prE per s.bg t,rs:=s.x5 - prK per s.bg t + 24 } ∧ tmS (altL lo n) (sumL (altL lo n) n) per sh { s with now:=t,fn:=prE per s.bg t,rs:=s.x5 - prK per s.bg t + 24 } ≠ some t:=by
  obtain ⟨h6,hr,h64,hfu⟩:=hpc
  have hp:=H.sv.per1
  have htm:=h.cor.tm hb
  have htf:=h.tf hb
  have htn:=h.tn
  have hf0:=h.cor.f0 hb hr
  obtain ⟨k1,k2,k3⟩:=prK_bd (per:=per) (bg:=s.bg) (t:=t) hp.1 (by omega)
  have hq6:s.Q 6 ≠ []:=fun z=>by
    rcases hfu with q | q
    · exact q.1 (hd_z (by decide) (by rw [h.cor.q7]; simp))
    · exact q.1 (hd_z (by decide) (by rw [z]; simp))
  have hE:prE per s.bg t=s.bg + prK per s.bg t * per + 24 * per:=by unfold prE; rw [Int.add_mul]; omega
  have hmul:=Int.mul_le_mul_of_nonneg_right (show prK per s.bg t + 64 ≤ s.x5 by omega) (show 0 ≤ per by omega)
  rw [Int.add_mul] at hmul
  have hlt:prE per s.bg t ≤ s.fn:=by omega
  have hge:t + 24 * per ≤ prE per s.bg t:=by omega
  have hcor:=h.cor.c2 hb h6 hr hq6 hp.1 htn.1 htn.2 (by omega) h.tl h64 (by omega) hlt
  refine ⟨⟨hcor,⟨h.tim.tg,h.tim.ts,fun k hk=>Int.le_trans (h.tim.ta k hk) htn.1⟩,fun hk=>?_⟩,?_⟩
  · obtain ⟨j,j1,j2,j3,j4,_⟩:=h.b1 (.inr hq6)
    refine ⟨j,j1,j2,j3,fun _ _=>?_,fun z=>absurd hb z⟩
    show cnt _ _ (prE per s.bg t) ≤ S6 per ow s j
    rcases j4 hb (by omega) with z | ⟨z1,z2,_⟩
    · have:=cnt_mono (p:=GP lo n per sh) (show (pr ow j).1 ≤ prE per s.bg t by omega) hlt
      omega
    · rw [z1]
      have:=cnt_le (p:=GP lo n per sh) (show t ≤ prE per s.bg t by omega)
      unfold S6
      rw [z2,Int.sub_self]
      rcases k3 with q | q
      · rw [q] at hE; omega
      · omega
  · refine come_ne hno fun z=>?_
    unfold nxS at z
    rw [if_pos hb] at z
    injection z with z
    have:prE per s.bg t=t:=z
    omega
theorem Lw.c3 (H:Lw lo n per sh bu br rt lt out ow) (h:J1T lo n per sh (dlV rt lt [(bu,br)]) cap un out ow t s) (hno:¬ (1 ≤ s.l.length ∧ rc s.l 0 0=t)) (hb:s.bz=1) (hpc:¬ pcS (altL lo n) (sumL (altL lo n) n) per sh s t) :
    JT lo n per sh (dlV rt lt [(bu,br)]) cap un out ow { s with now:=t } ∧ tmS (altL lo n) (sumL (altL lo n) n) per sh { s with now:=t } ≠ some t:=by
  have hp:=H.sv.per1
  have htm:=h.cor.tm hb
  have htf:=h.tf hb
  have htn:=h.tn
  refine ⟨⟨h.cor.later htn.1 htn.2 (fun _=>by omega) h.tl,⟨h.tim.tg,h.tim.ts,fun k hk=>Int.le_trans (h.tim.ta k hk) htn.1⟩,fun hk=>?_⟩,?_⟩
  · obtain ⟨j,j1,j2,j3,j4,_⟩:=h.b1 hk
    refine ⟨j,j1,j2,j3,fun _ h6=>?_,fun z=>absurd hb z⟩
    show cnt _ _ s.fn ≤ S6 per ow s j
    rcases j4 hb h6 with z | ⟨z1,z2,hr⟩
    · exact z
    · have h6':s.x2 ≠ 6:=h6
      have hpt:=h.cor.pt hb
      have hq6:s.Q 6 ≠ []:=hk.resolve_left fun z=>h6 z.2
      have hf0:=h.cor.f0 hb hr
      obtain ⟨k1,k2,k3⟩:=prK_bd (per:=per) (bg:=s.bg) (t:=t) hp.1 (by omega)
      have hE:prE per s.bg t=s.bg + prK per s.bg t * per + 24 * per:=by unfold prE; rw [Int.add_mul]; omega
      rw [z1]
      unfold S6
      rw [z2,Int.sub_self,Int.mul_zero,Int.zero_add]
      by_cases q:64 ≤ s.x5 - prK per s.bg t
      · have hmul:=Int.mul_le_mul_of_nonneg_right (show prK per s.bg t + 64 ≤ s.x5 by omega) (show 0 ≤ per by omega)
        rw [Int.add_mul] at hmul
        have hnf:¬ rc (hdL s.Q) 6 5 * per ≤ opN (altL lo n) (sumL (altL lo n) n) 6 (prE per s.bg t + sh):=fun z=>hpc ⟨by omega,hr,q,.inr ⟨(full_iff (h.cor.hv 6 (by decide)) (by decide)).2 (head6 (h.cor.hv 6 (by decide)) hq6),z⟩⟩
        have hhd:=H.head h.cor hq6
        rw [H.fit6 (by omega)] at hnf
        have hop:=h.cor.op hb
        rw [cnt_add (show t ≤ prE per s.bg t by omega) (show prE per s.bg t ≤ s.fn by omega),cnt_none (show prE per s.bg t ≤ s.fn by omega) fun x x1 x2=>H.nogp hhd hnf (fun y y1 y2=>hop y (by omega) y2) x1 (by omega)]
        have:=cnt_le (p:=GP lo n per sh) (show t ≤ prE per s.bg t by omega)
        rcases k3 with q | q
        · rw [q] at hE; omega
        · omega
      · have:=cnt_le (p:=GP lo n per sh) (show t ≤ s.fn by omega)
        have hmul:=Int.mul_le_mul_of_nonneg_right (show s.x5 ≤ prK per s.bg t + 63 by omega) (show 0 ≤ per by omega)
        rw [Int.add_mul] at hmul
        rcases k3 with q | q
        · rw [q] at hmul; omega
        · omega
  · refine come_ne hno fun z=>?_
    unfold nxS at z
    rw [if_pos hb] at z
    injection z with z
    have:s.fn=t:=z
    omega
end Go.Proofs.YtlngflbamkgjlaaGreat
namespace Go.Proofs.YtlngflbamkgjlaaGreat
set_option linter.unusedVariables false
set_option linter.unusedSimpArgs false
variable {lo:List Int} {n:Nat} {per sh bu br rt lt:Int} {out:List (List Int)} {ow:List (Int × Int)} {cap:Nat → Int} {s:PS} {t:Int}
theorem Lw.steps (H:Lw lo n per sh bu br rt lt out ow) (hcap:cap 6=blV bu br rt lt):RunSteps (altL lo n) (sumL (altL lo n) n) per sh cap 1073741824 (JT lo n per sh (dlV rt lt [(bu,br)]) cap 1073741824 out ow) (J1T lo n per sh (dlV rt lt [(bu,br)]) cap 1073741824 out ow) where
  wf:=fun s h=>h.cor.wf H.cms
  wf1:=fun t s h=>by
    refine ⟨h.cor.wf H.cms,⟨by have:=h.cor.nw; have:=h.tn.1; omega,h.tn.2⟩,fun hb hr=>?_⟩
    have h1:=(ckP_ok (h.cor.pt hb).1).2
    have h2:=h.cor.tm hb
    have h3:=h.cor.f0 hb hr
    have h4:=h.tf hb
    have h5:=h.tn.1
    exact ⟨h1,h2.1,by omega,by omega⟩
  le:=fun s t h ht=>((H.tm h.cor rfl).1 t ht).1
  e0:=fun s t h ht htu hn=>H.e0 rfl h ht htu hn
  e1:=fun s t h ht htu hb hf hr=>H.e1 rfl h ht htu hb hf hr
  e2:=fun s t h ht htu hb hf hr=>H.e2 rfl h ht htu hb hf hr
  ar:=fun s t h hl hx=>H.ar rfl hcap h hl hx
  c0:=fun s t h hno hb hst=>H.c0 h hno hb hst
  c1:=fun s t c h hno hb hst=>H.c1 h hno hb hst
  c2:=fun s t h hno hb hpc=>H.c2 h hno hb hpc
  c3:=fun s t h hno hb hpc=>H.c3 h hno hb hpc
theorem Lw.init (H:Lw lo n per sh bu br rt lt out ow) (hcb:∀ c,c < 8 → 0 ≤ cap c ∧ cap c ≤ 65536):JT lo n per sh (dlV rt lt [(bu,br)]) cap 1073741824 out ow ⟨0,0,0,0,0,0,0,0,0,0,0,0,fun _=>[],out,[]⟩:=by
  have hs:snd6 ⟨0,0,0,0,0,0,0,0,0,0,0,0,fun _=>[],out,[]⟩=[]:=snd6_no fun z=>z01 z.1
  have hrs:∀ c,¬ rsP (fun _=>[]) c:=fun c z=>by have:=z.1; simp at this
  refine ⟨⟨fun c hc=>qk_nil (hcb c hc),fun _ _=>WR.nil,fun c _ k hk=>absurd hk (Nat.not_lt_zero k),rfl,fun c d _ _ z=>absurd z (hrs c),fun z=>z01 z,.inr rfl,fun z=>z01 z,fun z=>z01 z,fun z=>z01 z,fun z=>z01 z,fun z=>z01 z,⟨Int.le_refl _,(by decide:(0:Int) ≤ 1073741824)⟩,⟨0,rfl⟩,fun k hk=>(H.cms.el k hk).1.1,?_,WR.nil,?_⟩,⟨fun k hk=>absurd hk (Nat.not_lt_zero k),fun z=>z01 z,fun k hk=>?_⟩,fun hk=>?_⟩
  · have:=H.len
    show 0 + 0 + 0 + out.length ≤ 40
    omega
  · rw [hs]; rfl
  · rw [hs] at hk
    exact absurd hk (Nat.not_lt_zero k)
  · rcases hk with z | z
    · exact z01 z.1
    · exact absurd rfl z
theorem yld_pos (hb:bytP lo) (hn:n ≤ lo.length) (hp:1 ≤ per ∧ per ≤ 5):∀ k,2 * k ≤ n → yldF (339 * per) (opR lo n k)=0 ∨ 4 ≤ yldF (339 * per) (opR lo n k)
  | 0, _ => .inl rfl
  | k + 1, hk => by
    have ih:=yld_pos hb hn hp k (by omega)
    have h0:=(yld_le hb hn (lost:=339 * per) (by omega) k (by omega)).1
    rw [opR_succ,yldF_app,altL_at (by omega)]
    dsimp only
    have e:(2 * k + 1) % 2=1:=by omega
    rw [e]
    have hbt:=hb (2 * k + 1) (by omega)
    have hpp:per=1 ∨ per=2 ∨ per=3 ∨ per=4 ∨ per=5:=by omega
    rcases hpp with z | z | z | z | z <;> subst z <;> omega
theorem Sv.rt2 (h:Sv lo n per rt lt):2 ≤ rt:=by
  have hy:=yld_pos h.hb h.hn h.per1 (n / 2) (by omega)
  have hc:=h.cyb
  have hp:=h.per1
  have hcp:1 ≤ sumL (altL lo n) n * per ∧ sumL (altL lo n) n * per ≤ 326416 * 5:=⟨by have:=Int.mul_le_mul hc.1 hp.1 (by decide) (by omega); omega,Int.mul_le_mul hc.2 hp.2 (by omega) (by decide)⟩
  rcases hy with z | z
  · have h1:=h.rtc
    rw [z] at h1
    have h3:=Int.mul_le_mul h.rp1 hc.1 (by decide) (by have:=h.rp1; omega)
    omega
  · have h1:=h.hrt
    unfold ofRt at h1
    rw [h.yof] at h1
    rw [← h1]
    exact (Int.le_ediv_iff_mul_le (by omega)).2 (by omega)
theorem Lw.bd (H:Lw lo n per sh bu br rt lt out ow):dlV rt lt [(bu,br)] ≤ 1000000000:=by
  have h1:=(cs_bd H.cs)
  have h2:=H.sv.rt2
  have h3:=H.bu1
  rw [(dl_one H.cs).2]
  have:=cq_le (n:=bu * 1048576) (d:=rt) (B:=712507392) (by omega) (by have:=Int.mul_le_mul_of_nonneg_left h2 (show (0:Int) ≤ 712507392 by decide); omega)
  omega
theorem Lw.last (H:Lw lo n per sh bu br rt lt out ow) {k:Nat} (hk:k < ow.length):(pr ow k).1 ≤ 2621400:=by
  rw [H.owat hk]
  have h3:k < (F6 out).length:=by rw [← H.owlen]; exact hk
  have hm:(F6 out)[k] ∈ F6 out:=List.getElem_mem h3
  have hm2:=List.mem_filter.1 hm
  obtain ⟨i,hi,e⟩:=List.getElem_of_mem hm2.1
  have he:=(H.cm.el i hi).1.2
  show rc (F6 out) k 0 ≤ _
  rw [rc_eq,List.getElem?_eq_getElem h3]
  rw [rc_eq,List.getElem?_eq_getElem hi,e] at he
  exact he
theorem Lw.fin (H:Lw lo n per sh bu br rt lt out ow) (h:JT lo n per sh (dlV rt lt [(bu,br)]) cap 1073741824 out ow s) (hst:stopS (altL lo n) (sumL (altL lo n) n) per sh 1073741824 s):FinP out s.g (dlV rt lt [(bu,br)]) per:=by
  obtain ⟨q1,q2⟩:=H.tm h.cor rfl
  have hbd:=H.bd
  have hp:=H.sv.per1
  -- no frame comes any more
  have hl:s.l=[]:=by
    refine Classical.byContradiction fun z=>?_
    have h1:1 ≤ s.l.length:=by
      cases hl:s.l with
      | nil => exact absurd hl z
      | cons => simp
    rcases hst with e | ⟨t,e,hu⟩
    · exact z (q2 e).2.1
    · have:=(q1 t e).2.2.1 0 (by omega)
      obtain ⟨i,hi⟩:=h.cor.le
      rw [hi,rc_drop] at this
      have:=(H.cm.el (i + 0) (by rw [hi] at h1; simp at h1; omega)).1.2
      omega
  -- the head of class 6 would have left
  have hend:∀ (j i:Nat) (x:Int),j ≤ i → i < ow.length → (pr ow j).1 ≤ x → cnt (GP lo n per sh) (pr ow j).1 x ≤ per * (sumN ow (i + 1) - sumN ow j) + 127 * per → x ≤ 1073741824:=fun j i x hj hi h1 h2=>by
    have:=H.late hj hi h1 h2
    have:=H.last hi
    omega
  have hgrow:∀ j i:Nat,j ≤ i → i < ow.length → per * (sumN ow i - sumN ow j) ≤ per * (sumN ow (i + 1) - sumN ow j):=fun j i hj hi=>Int.mul_le_mul_of_nonneg_left (by have:=H.sumN_le (show i ≤ i + 1 by omega) (show i + 1 ≤ ow.length by omega); omega) (by omega)
  have h6:¬ (s.bz=1 ∧ s.x2=6):=fun ⟨hb,h6⟩=>by
    obtain ⟨j,j1,j2,j3,_,_⟩:=h.bj (.inl ⟨hb,h6⟩)
    obtain ⟨j3a,j3b⟩:=j3 hb h6
    have hs:=H.snd h.cor hb h6
    have htm:=h.cor.tm hb
    have hf0:=h.cor.f0 hb (by
      refine Classical.byContradiction fun z=>?_
      have:=(h.cor.f1 hb z).1
      omega)
    have:=hend j _ s.fn j1 hs.1 (by omega) (by
      rw [cnt_add j3a (show s.bg ≤ s.fn by omega)]
      have h1:=cnt_le (p:=GP lo n per sh) (show s.bg ≤ s.fn by omega)
      unfold S6 at j3b
      rw [sumN,hs.2.1,show sumN ow (F6 s.g).length + s.x3 - sumN ow j=sumN ow (F6 s.g).length - sumN ow j + s.x3 by omega,Int.mul_add,Int.mul_comm per s.x3,← hs.2.2]
      omega)
    rcases hst with e | ⟨t,e,hu⟩
    · exact (q2 e).1 hb
    · have:=(q1 t e).2.1 hb
      omega
  have hq:s.Q 6=[]:=by
    refine Classical.byContradiction fun z=>?_
    have hn1:=head6 (h.cor.hv 6 (by decide)) z
    have hs0:snd6 s=[]:=snd6_no h6
    have hi:=(H.que h.cor (k:=0) (by omega)).1
    rw [hs0] at hi
    simp only [List.length_nil,Nat.add_zero] at hi
    obtain ⟨j,j1,j2,_,j4,j5⟩:=h.bj (.inr z)
    have hg:=hgrow j _ j1 hi
    unfold S6 at j4 j5
    by_cases hb:s.bz=1
    · have htm:=h.cor.tm hb
      have:=hend j _ s.fn j1 hi (by omega) (by have:=j4 hb (fun e=>h6 ⟨hb,e⟩); omega)
      rcases hst with e | ⟨t,e,hu⟩
      · exact (q2 e).1 hb
      · have:=(q1 t e).2.1 hb
        omega
    · have hnw:=h.cor.nw
      have h5:=j5 hb
      rcases hst with e | ⟨t,e,hu⟩
      · have hno:=(q2 e).2.2 z
        have:=hend j _ 1073741825 j1 hi (by omega) (by
          rw [cnt_add j2 (show s.now ≤ 1073741825 by omega),cnt_none (show s.now ≤ 1073741825 by omega) fun x x1 _=>hno x x1]
          omega)
        omega
      · obtain ⟨t1,_,_,t4⟩:=q1 t e
        have:=hend j _ t j1 hi (by omega) (by
          rw [cnt_add j2 t1,cnt_none t1 (t4 hb z)]
          omega)
        omega
  have ho:=h.cor.od
  rw [snd6_no h6,hq,hl,F6_nil] at ho
  simp only [List.map_nil,List.append_nil] at ho
  refine fin_of H.cm.wr h.cor.gw ho fun k hk=>?_
  have hlen:(F6 s.g).length=(F6 out).length:=by have:=congrArg List.length ho; simpa using this
  have:=h.tim.tg k hk
  rw [H.owat (by rw [H.owlen]; omega)] at this
  exact this
theorem lawP:LawP:=fun lo n per sh bu br rt lt out ow hb hn h1 hp hs hbu hbr hrt hr hlt hcs hbl hcm hlen=>by
  have H:Lw lo n per sh bu br rt lt out ow:=⟨⟨hb,hn,h1,hp,hrt,hr,hlt⟩,hs,hbu,hbr,hcs,hbl,hcm,hlen⟩
  have hb0:0 ≤ blV bu br rt lt:=by
    have h2:=cs_bd hcs
    have h4:=cq_ge (n:=br * lt) (d:=1048576) (by decide)
    have h5:=Int.mul_nonneg (show 0 ≤ br by omega) (show 0 ≤ lt by omega)
    rw [bl_yes hcs]
    omega
  have hcb:∀ c,c < 8 → 0 ≤ capF (blV bu br rt lt) c ∧ capF (blV bu br rt lt) c ≤ 65536:=fun c hc=>by
    by_cases e:c=6
    · subst e; rw [capF_6]; exact ⟨hb0,hbl⟩
    · rw [capF_ne hc e]; omega
  exact ⟨_,_,H.steps (capF_6 _),H.init hcb,fun s h hst=>H.fin h hst⟩
end Go.Proofs.YtlngflbamkgjlaaGreat
namespace Go.Proofs.YtlngflbamkgjlaaGreat
end Go.Proofs.YtlngflbamkgjlaaGreat
namespace Go.Proofs.YtlngflbamkgjlaaGreat
set_option maxRecDepth 4000
open Go.ChangeShapes Go.WideShapes Go.ChangeAt Go.RowKit Go.Deep Go.Joins
set_option linter.unusedVariables false
theorem Tryz.own:ownKnob Tryz.prog.godebug=none:=by kernel_rfl
theorem Tryz.laidOut:laidOutB Tryz.prog=true:=by kernel_rfl
section
variable {H:Type} {enc:TypeId × Value → H} {W:World} {base:Nat}
theorem addr_add (b off i:Nat):(⟨b,off,none⟩:Addr).add i=⟨b,off + i,none⟩:=by
  unfold Addr.add
  split
  · simp_all
  · simp
theorem zero_spot {b off:Nat} {spot} {v:Value} (h:W.cell? ((⟨b,off,spot⟩:Addr).add 0)=some v):spot=none:=by
  have:=World.cell?_spot h
  unfold Addr.add at this
  simpa using this
theorem open_is {k:IntKind} {t e:TypeId} {v:Value} {d:DataW H} {p:List MemPlace} (ht:Tryz.prog.underlying t=some (.slice e)) (he:Tryz.prog.underlying e=some (.int k)) (hc:Tryz.prog.cellsOf e=1)
    {fuel:Nat} (h:DataW.trod enc Tryz.prog W 0 (fun _=>true) true fuel t [v]=some (d,p)) :
    ∃ (A:Option Addr) (l:List Int) (c:Nat),v=.slice A l.length c ∧ Arr1 k W W.heap.size A l ∧ l.length ≤ c ∧ c ≤ 9223372036854775807 ∧ ∀ x ∈ l,(Lit.int k x).wf=true:=by
  rcases open_ints ht he hc h with ⟨hcs,_⟩ | ⟨a,len,cap,zs,hcs,_,hl,hm,hz,_,hcell,hwz⟩
  · injection hcs with hcs _
    exact ⟨none,[],0,hcs,Arr1.nil,Nat.le_refl _,by omega,fun x hx=>by simp at hx⟩
  · injection hcs with hcs _
    have hz':zs.length=cap:=by simpa using hz
    have hlen:(zs.take len).length=len:=by rw [List.length_take]; omega
    refine ⟨some a,zs.take len,cap,by rw [hlen]; exact hcs,?_,by omega,by unfold maxLen at hm; omega,fun x hx=>hwz x (List.mem_of_mem_take hx)⟩
    intro j x hx
    have hj:j < len:=by have:=(List.getElem?_eq_some_iff.1 hx).1; omega
    rw [List.getElem?_take,if_pos hj] at hx
    have hc':=hcell j (by omega)
    rw [List.getD_eq_getElem?_getD,hx] at hc'
    obtain ⟨b,off,spot⟩:=a
    obtain rfl:=zero_spot (hcell 0 (by omega))
    rw [addr_add] at hc'
    exact ⟨b,off,rfl,World.block_lt_of_cell? W _ hc',hc'⟩
end
end Go.Proofs.YtlngflbamkgjlaaGreat
namespace Go.Proofs.YtlngflbamkgjlaaGreat
open Go.ChangeShapes Go.WideShapes Go.ChangeAt Go.RowKit
set_option linter.unusedVariables false
set_option linter.unusedSimpArgs false
def fieldKinds (P:Program) (k:TypeId → Option (List IntKind)):Nat → List Field → Option (List IntKind)
  | _, [] => some []
  | off, x :: r => match k x.type with
    | some ks => match Nat.beq x.offset off, Nat.beq (P.cellsOf x.type) ks.length with
      | true, true => match fieldKinds P k (off + ks.length) r with
        | some ls => some (ks ++ ls)
        | none => none
      | _, _ => none
    | none => none
def kindsOf (P:Program):Nat → TypeId → Option (List IntKind)
  | 0, _ => none
  | f + 1, t => match P.underlying t with
    | some (.int k) => some [k]
    | some (.array n e) => match kindsOf P f e with
      | some ks => match Nat.beq (P.cellsOf e) ks.length, Nat.beq (P.cellsOf t) (n * ks.length) with
        | true, true => some (List.replicate n ks).flatten
        | _, _ => none
      | none => none
    | some (.struct fs) => match fieldKinds P (kindsOf P f) 0 fs.toList with
      | some ks => match Nat.beq (P.cellsOf t) ks.length with
        | true => some ks
        | false => none
      | none => none
    | _ => none
section
variable {H:Type} {enc:TypeId × Value → H} {P:Program} {W:World} {sp:Nat → Bool} {hl:Bool} {b0:Nat}
def AllInts (ks:List IntKind) (cs:List Value):Prop:=cs.length=ks.length ∧ ∀ (j:Nat) (k:IntKind),ks[j]?=some k → ∃ x,cs[j]?=some (Value.int k x) ∧ (Lit.int k x).wf=true
theorem getElem?_flatten_replicate {α:Type} (ks:List α) (m:Nat) (hm:ks.length=m):∀ (n j:Nat) (k:α),(List.replicate n ks).flatten[j]?=some k → 0 < m ∧ j / m < n ∧ ks[j % m]?=some k
  | 0, j, k, h => by simp at h
  | n + 1, j, k, h => by
    rw [List.replicate_succ,List.flatten_cons,List.getElem?_append] at h
    split at h
    · rename_i hlt
      rw [hm] at hlt
      exact ⟨by omega,by rw [Nat.div_eq_of_lt hlt]; omega,by rw [Nat.mod_eq_of_lt hlt]; exact h⟩
    · rename_i hge
      rw [hm] at hge h
      obtain ⟨h1,h2,h3⟩:=getElem?_flatten_replicate ks m hm n (j - m) k h
      have e:j=(j - m) + m:=by omega
      refine ⟨h1,?_,?_⟩
      · rw [e,Nat.add_div_right _ h1]; omega
      · rw [e,Nat.add_mod_right]; exact h3
theorem trod_flat:∀ (f:Nat) (t:TypeId) (ks:List IntKind),kindsOf P f t=some ks → ∀ (fuel:Nat) (cs:List Value) (x:DataW H × List MemPlace),DataW.trod enc P W b0 sp hl fuel t cs=some x → AllInts ks cs
  | 0, t, ks, hk, _, _, _, _ => by simp [kindsOf] at hk
  | f + 1, t, ks, hk, fuel, cs, x, h => by
    unfold kindsOf at hk
    split at hk
    · rename_i k hu
      injection hk with hk
      subst hk
      obtain ⟨n,rfl,_,hw⟩:=DataW.trod_int hu h
      refine ⟨rfl,fun j k' hj=>?_⟩
      match j with
      | 0 => simp at hj; subst hj; exact ⟨n, rfl, hw⟩
      | j + 1 => simp at hj
    · rename_i n e hu
      split at hk
      · rename_i ks0 hk0
        split at hk
        · rename_i h1 h2
          injection hk with hk
          subst hk
          have h1':=Nat.eq_of_beq_eq_true h1
          have h2':=Nat.eq_of_beq_eq_true h2
          obtain ⟨xs,m,_,_,hlen,hxl,hi⟩:=DataW.trod_array hu h
          refine ⟨by rw [hlen,h2']; simp [List.length_flatten,Nat.mul_comm],fun j k hj=>?_⟩
          obtain ⟨hm,hjn,hr⟩:=getElem?_flatten_replicate ks0 ks0.length rfl n j k hj
          have hc:=hi (j / ks0.length) hjn
          rw [List.getElem?_eq_getElem (by omega),h1'] at hc
          obtain ⟨_,hp⟩:=trod_flat f e ks0 hk0 m _ _ hc
          obtain ⟨y,hy,hw⟩:=hp (j % ks0.length) k hr
          refine ⟨y,?_,hw⟩
          rw [List.getElem?_take,if_pos (Nat.mod_lt _ hm),List.getElem?_drop,Nat.div_add_mod'] at hy
          exact hy
        · cases hk
      · cases hk
    · rename_i fs hu
      split at hk
      · rename_i ks' hk'
        split at hk
        · rename_i h1
          injection hk with hk
          subst hk
          have h1':=Nat.eq_of_beq_eq_true h1
          obtain ⟨xs,m,_,_,hlen,hxl,hi⟩:=DataW.trod_struct hu h
          refine ⟨by rw [hlen,h1'],fun j k hj=>?_⟩
          have key:∀ (r:List Field) (i off:Nat) (ls:List IntKind),fieldKinds P (kindsOf P f) off r=some ls → (∀ q,r[q]?=fs.toList[i + q]?) → ∀ (j:Nat) (k:IntKind),ls[j]?=some k → ∃ x,cs[off + j]?=some (Value.int k x) ∧ (Lit.int k x).wf=true:=by
            intro r
            induction r with
            | nil => intro i off ls hg _ j k hj; simp [fieldKinds] at hg; subst hg; simp at hj
            | cons fl r ih =>
              intro i off ls hg hr j k hj
              unfold fieldKinds at hg
              split at hg
              · rename_i ks1 hk1
                split at hg
                · rename_i g1 g2
                  have g1':=Nat.eq_of_beq_eq_true g1
                  have g2':=Nat.eq_of_beq_eq_true g2
                  split at hg
                  · rename_i ls2 hg2
                    injection hg with hg
                    subst hg
                    rw [List.getElem?_append] at hj
                    split at hj
                    · rename_i hlt
                      have hf0:fs[i]?=some fl:=by
                        have:=hr 0
                        simp at this
                        exact this.symm
                      have hc:=hi i fl hf0
                      have hil:i < xs.length:=by
                        have:=(Array.getElem?_eq_some_iff.1 hf0).1
                        omega
                      rw [List.getElem?_eq_getElem hil,g1',g2'] at hc
                      obtain ⟨_,hp⟩:=trod_flat f fl.type ks1 hk1 m _ _ hc
                      obtain ⟨y,hy,hw⟩:=hp j k hj
                      refine ⟨y,?_,hw⟩
                      rw [List.getElem?_take,if_pos hlt,List.getElem?_drop] at hy
                      exact hy
                    · rename_i hge
                      obtain ⟨y,hy,hw⟩:=ih (i + 1) (off + ks1.length) ls2 hg2 (fun q=>by
                        have:=hr (q + 1)
                        rw [show i + 1 + q=i + (q + 1) by omega]
                        simpa using this) (j - ks1.length) k hj
                      exact ⟨y,by rw [show off + j=off + ks1.length + (j - ks1.length) by omega]; exact hy,hw⟩
                  · cases hg
                · cases hg
              · cases hg
          have:=key fs.toList 0 0 _ hk' (fun q=>by simp) j k hj
          simpa using this
        · cases hk
      · cases hk
    · cases hk
theorem AllInts.cons {k:IntKind} {ks:List IntKind} {cs:List Value} (h:AllInts (k :: ks) cs):∃ x r,cs=.int k x :: r ∧ (Lit.int k x).wf=true ∧ AllInts ks r:=by
  obtain ⟨hl,hp⟩:=h
  match cs with
  | [] => simp at hl
  | c :: r =>
    obtain ⟨x,hx,hw⟩:=hp 0 k rfl
    simp at hx
    subst hx
    exact ⟨x,r,rfl,hw,by simpa using hl,fun j k hj=>by simpa using hp (j + 1) k (by simpa using hj)⟩
theorem AllInts.nil {cs:List Value} (h:AllInts [] cs):cs=[]:=List.length_eq_zero_iff.1 h.1
end
end Go.Proofs.YtlngflbamkgjlaaGreat
namespace Go.Proofs.YtlngflbamkgjlaaGreat
set_option maxRecDepth 10000
open Go.ChangeShapes Go.WideShapes Go.ChangeAt Go.RowKit Go.Deep Go.Joins
set_option linter.unusedVariables false
set_option linter.unusedSimpArgs false
def kRow (ks:List IntKind) (x:List Int):List Value:=List.zipWith Value.int ks x
def flatK (ks:List IntKind) (l:List (List Int)):List Value:=l.flatMap (kRow ks)
theorem kRow_len {ks:List IntKind} {x:List Int} (h:x.length=ks.length):(kRow ks x).length=ks.length:=by simp [kRow,h]
theorem flatK_length {ks:List IntKind}:∀ {l:List (List Int)},WR ks.length l → (flatK ks l).length=l.length * ks.length
  | [], _ => by simp [flatK]
  | x :: r, h => by
    have ih:=flatK_length h.tail
    have h0:=kRow_len h.head
    simp only [flatK,List.flatMap_cons,List.length_append,List.length_cons] at *
    rw [ih,h0,Nat.succ_mul]
    omega
theorem flatK_at {ks:List IntKind}:∀ {l:List (List Int)} {k i:Nat},WR ks.length l → k < l.length → i < ks.length → (flatK ks l)[k * ks.length + i]?=(kRow ks ((l[k]?).getD []))[i]?
  | x :: r, 0, i, h, _, hi => by
    have h0:=kRow_len h.head
    simp only [flatK,List.flatMap_cons,Nat.zero_mul,Nat.zero_add]
    rw [List.getElem?_append_left (by omega)]
    rfl
  | x :: r, k + 1, i, h, hk, hi => by
    have h0:=kRow_len h.head
    have ih:=flatK_at (i:=i) h.tail (k:=k) (by simpa using hk) hi
    simp only [flatK,List.flatMap_cons]
    rw [List.getElem?_append_right (by rw [h0,Nat.succ_mul]; omega),show (k + 1) * ks.length + i - (kRow ks x).length=k * ks.length + i by rw [h0,Nat.succ_mul]; omega]
    exact ih
def vI:Value → Int
  | .int _ x => x
  | _ => 0
theorem AllInts.row {ks:List IntKind} {cs:List Value} (h:AllInts ks cs):(cs.map vI).length=ks.length ∧ cs=kRow ks (cs.map vI) ∧ ∀ i kd,ks[i]?=some kd → (Lit.int kd ((cs.map vI).getD i 0)).wf=true:=by
  obtain ⟨hl,hp⟩:=h
  refine ⟨by simpa using hl,?_,fun i kd hi=>?_⟩
  · apply List.ext_getElem?
    intro i
    unfold kRow
    rw [List.getElem?_zipWith]
    cases hi:ks[i]? with
    | none => rw [List.getElem?_eq_none (by rw [List.getElem?_eq_none_iff] at hi; omega)]
    | some kd =>
      obtain ⟨x,hx,_⟩:=hp i kd hi
      rw [List.getElem?_map,hx]
      rfl
  · obtain ⟨x,hx,hw⟩:=hp i kd hi
    rw [List.getD_eq_getElem?_getD,List.getElem?_map,hx]
    exact hw
theorem open_kr {H:Type} {enc:TypeId × Value → H} {W:World} {T t:TypeId} {ks:List IntKind} {v:Value} {d:DataW H} {p:List MemPlace} (hT:Tryz.prog.underlying T=some (.slice t)) (hk:kindsOf Tryz.prog 9 t=some ks) (hC:Tryz.prog.cellsOf t=ks.length) (hpos:0 < ks.length)
    {fuel:Nat} (h:DataW.trod enc Tryz.prog W 0 (fun _=>true) true fuel T [v]=some (d,p)) :
    ∃ (A:Option Addr) (l:List (List Int)) (c:Nat),v=.slice A l.length c ∧ Ro W A (flatK ks l) ∧ WR ks.length l ∧ l.length ≤ c ∧ c ≤ 9223372036854775807 ∧ (∀ k,k < l.length → ∀ i kd,ks[i]?=some kd → (Lit.int kd (rc l k i)).wf=true) ∧ (A=none → l.length=0 ∧ c=0):=by
  rcases open_slice hT h with ⟨hcs,_⟩ | ⟨a,len,cap,m,n,D,Pl,hcs,_,hl,hm,hmm,_,hx⟩
  · injection hcs with hcs _
    exact ⟨none,[],0,hcs,Ro.nil,(fun x hx=>by cases hx),Nat.le_refl _,by omega,(fun k hk=>by simp at hk),fun _=>⟨rfl,rfl⟩⟩
  · injection hcs with hcs _
    have hm':m=cap:=by simpa using hmm
    have each:∀ i,i < m → ∃ q:List Int,q.length=ks.length ∧ (∀ j,j < ks.length → W.cell? (a.add (i * ks.length + j))=(kRow ks q)[j]?) ∧ ∀ j kd,ks[j]?=some kd → (Lit.int kd (q.getD j 0)).wf=true:=fun i hi=>by
      obtain ⟨cs',g1,g2⟩:=hx i hi
      rw [hC] at g1
      obtain ⟨_,hlen,hcell⟩:=World.cells?_some g1
      obtain ⟨r1,r2,r3⟩:=(trod_flat 9 t ks hk _ _ _ g2).row
      refine ⟨cs'.map vI,r1,fun j hj=>?_,r3⟩
      have:=hcell j (by omega)
      rw [add_add] at this
      rw [this,← r2]
    have pick:∃ q:Nat → List Int,∀ i,i < m → (q i).length=ks.length ∧ (∀ j,j < ks.length → W.cell? (a.add (i * ks.length + j))=(kRow ks (q i))[j]?) ∧ ∀ j kd,ks[j]?=some kd → (Lit.int kd ((q i).getD j 0)).wf=true:=by
      refine ⟨fun i=>if hi:i < m then Classical.choose (each i hi) else [],fun i hi=>?_⟩
      simp only [hi,dif_pos]
      exact Classical.choose_spec (each i hi)
    obtain ⟨q,hq⟩:=pick
    have hlen:((List.range len).map q).length=len:=by simp
    have hat:∀ k,k < len → (((List.range len).map q)[k]?).getD []=q k:=fun k hk=>by simp [hk]
    have hWR:WR ks.length ((List.range len).map q):=fun x hx=>by
      obtain ⟨k,hk,rfl⟩:=List.mem_map.1 hx
      exact (hq k (by have:=List.mem_range.1 hk; omega)).1
    refine ⟨some a,(List.range len).map q,cap,by rw [hlen]; exact hcs,?_,hWR,by rw [hlen]; exact hl,by unfold maxLen at hm; omega,fun k hk i kd hi=>?_,fun h=>by cases h⟩
    · intro j u hu
      have hj:j < len * ks.length:=by have:=(List.getElem?_eq_some_iff.1 hu).1; rw [flatK_length hWR,hlen] at this; exact this
      have hd:j / ks.length < len:=(Nat.div_lt_iff_lt_mul hpos).2 hj
      have hr:j % ks.length < ks.length:=Nat.mod_lt _ hpos
      have hdm0:j / ks.length < m:=Nat.lt_of_lt_of_le hd (by omega)
      have h0m:0 < m:=Nat.lt_of_le_of_lt (Nat.zero_le _) hdm0
      have hdm:j / ks.length * ks.length + j % ks.length=j:=Nat.div_add_mod' j _
      have g:=flatK_at (k:=j / ks.length) (i:=j % ks.length) hWR (by rw [hlen]; exact hd) hr
      rw [hdm,hu,hat _ hd] at g
      have c:=(hq (j / ks.length) hdm0).2.1 (j % ks.length) hr
      rw [← g,hdm] at c
      obtain ⟨b,off,spot⟩:=a
      have c0:=(hq 0 h0m).2.1 0 hpos
      have hk0:∃ v0,(kRow ks (q 0))[0]?=some v0 ∧ ∃ kd x,v0=Value.int kd x:=by
        have h0:=(hq 0 h0m).1
        refine ⟨_,List.getElem?_eq_getElem (by rw [kRow_len h0]; exact hpos),?_⟩
        unfold kRow
        rw [List.getElem_zipWith]
        exact ⟨_,_,rfl⟩
      obtain ⟨v0,hv0,kd,x,rfl⟩:=hk0
      obtain rfl:=zero_spot (v:=.int kd x) (by rw [hv0] at c0; simpa using c0)
      rw [addr_add] at c
      exact ⟨b,off,rfl,c⟩
    · rw [hlen] at hk
      unfold rc
      rw [hat k hk]
      exact (hq k (by omega)).2.2 i kd hi
end Go.Proofs.YtlngflbamkgjlaaGreat
namespace Go.Proofs.YtlngflbamkgjlaaGreat
open Go.RowKit
set_option linter.unusedVariables false
set_option linter.unusedSimpArgs false
set_option maxRecDepth 100000
theorem flatK_E (ks:List IntKind) (l:List (List Int)):flatK ks l=flatE (ks.map Value.int) l:=by
  unfold flatK flatE kRow rowE
  congr 1
  funext x
  rw [List.zipWith_map_left]
theorem bytP_of {l:List Int} (h:∀ x ∈ l,(Lit.int .u8 x).wf=true):bytP l:=fun k hk=>by
  have:=bounds_u8 (h l[k] (List.getElem_mem hk))
  have e:nt l k=l[k]:=by unfold nt; simp [List.getD_eq_getElem?_getD,List.getElem?_eq_getElem hk]
  rw [e]
  exact this
theorem topService_all (A0:Option Addr) (l0:List Int) (c0:Nat) (py sx bx rx:Int) (A5:Option Addr) (l5:List (List Int)) (c5:Nat) (W:World) (h0:Arr1 .u8 W W.heap.size A0 l0) (hw0:∀ x ∈ l0,(Lit.int .u8 x).wf=true) (h5:Ro W A5 (flatK [.u16,.u8,.u8] l5)) (hw5:WR 3 l5) (hb5:∀ k,k < l5.length → ∀ i kd,([.u16,.u8,.u8]:List IntKind)[i]?=some kd → (Lit.int kd (rc l5 k i)).wf=true) (hx:(0 ≤ py ∧ py ≤ 255) ∧ (-32768 ≤ sx ∧ sx ≤ 32767) ∧ (0 ≤ bx ∧ bx ≤ 255) ∧ 0 ≤ rx ∧ rx ≤ 65535) :
    Calls Tryz.prog 3 #[.slice A0 l0.length c0,.int .u8 py,.int .i16 sx,.int .u8 bx,.int .u16 rx,.slice A5 l5.length c5] W (Ret W (.bool true)):=by
  rw [flatK_E] at h5
  exact topService_walk A0 l0 c0 py sx bx rx A5 l5 c5 W (fun w=>sends_w w) lawP svP (Ro.of_arr1 h0) (bytP_of hw0) h5 hw5 (fun k hk=>⟨bounds_u16 (hb5 k hk 0 .u16 rfl),bounds_u8 (hb5 k hk 1 .u8 rfl),bounds_u8 (hb5 k hk 2 .u8 rfl)⟩) hx
end Go.Proofs.YtlngflbamkgjlaaGreat
