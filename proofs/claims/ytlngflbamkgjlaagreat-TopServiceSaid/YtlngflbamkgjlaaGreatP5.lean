/-
  Part 5 of the proof of TopService: TsX, NumA, DivPlain, Div64W, NumPlain, NumC, CurvePlain, CurveA, Clear, CurveB, BkPlain, CurveLaws, CurveC, CurveLaws2, CurveD, Top, TsY.
-/
import Derived.Test.YtlngflbamkgjlaaGreatRows
import Derived.Shelf.Small.Bits
import Derived.Shelf.Bits.Mul64
import Derived.Shelf.Spec.TrailingZeros
import Derived.RangeFuncBox
import Derived.RangeFuncLeaves
import Derived.RangeFuncNested
import Derived.Shelf.Abstract
import Derived.WalkKit
import Derived.OwnWalkIn
import Derived.TacticsInMore
import Derived.LoopNIn
import Derived.LoopIn
import Derived.Test.YtlngflbamkgjlaaGreatP4
namespace Go.Proofs.YtlngflbamkgjlaaGreat
open Go.RowKit
set_option linter.unusedVariables false
set_option linter.unusedSimpArgs false
set_option maxRecDepth 100000
def o6:List (List Int) → List (Int × Int)
  | [] => []
  | x :: r => if x.getD 3 0 = 6 then (x.getD 0 0, x.getD 4 0) :: o6 r else o6 r
theorem o6_app (l m:List (List Int)):o6 (l ++ m)=o6 l ++ o6 m:=by
  induction l with
  | nil => rfl
  | cons x r ih => simp only [List.cons_append, o6, ih]; split <;> rfl
structure CmP (bu br now:Int) (out:List (List Int)) (ow:List (Int × Int)):Prop where
  wr:WR 6 out
  eqo:o6 out=ow
  cf:cfB bu br ow=true
  la:laN ow ow.length ≤ now
  el:∀ k,k < out.length → (0 ≤ rc out k 0 ∧ rc out k 0 ≤ now) ∧ (∀ j,j < k → rc out j 0 ≤ rc out k 0) ∧ rc out k 1=0 ∧ rc out k 2=(k:Int) ∧ (rc out k 3=6 ∧ 84 ≤ rc out k 4 ∧ rc out k 4 ≤ 339 ∨ (0 ≤ rc out k 3 ∧ rc out k 3 ≤ 5) ∧ 84 ≤ rc out k 4 ∧ rc out k 4 ≤ 1359) ∧ rc out k 5=0
theorem rc_left {L M:List (List Int)} {k i:Nat} (h:k < L.length):rc (L ++ M) k i=rc L k i:=by
  unfold rc
  rw [List.getElem?_append_left h]
theorem rc_last {L:List (List Int)} {x:List Int} {i:Nat}:rc (L ++ [x]) L.length i=x.getD i 0:=by
  unfold rc
  rw [List.getElem?_append_right (Nat.le_refl _),Nat.sub_self]
  rfl
theorem CmP.nil {bu br:Int} (hb:bkE bu br=0):CmP bu br 0 [] []:=⟨WR.nil,rfl,(Bkt.nil hb).yes,by simp [laN],fun k h=>absurd h (Nat.not_lt_zero k)⟩
theorem CmP.mono {bu br now t:Int} {out:List (List Int)} {ow:List (Int × Int)} (h:CmP bu br now out ow) (ht:now ≤ t):CmP bu br t out ow :=
  ⟨h.wr,h.eqo,h.cf,Int.le_trans h.la ht,fun k hk=>⟨⟨(h.el k hk).1.1,Int.le_trans (h.el k hk).1.2 ht⟩,(h.el k hk).2⟩⟩
theorem laN_snoc' (out:List (Int × Int)) (x:Int × Int):laN (out ++ [x]) (out ++ [x]).length=x.1:=by
  rw [List.length_append]
  show (pr (out ++ [x]) out.length).1=x.1
  rw [pr_app_here]
theorem CmP.tr {bu br now t sz:Int} {out:List (List Int)} {ow:List (Int × Int)} (h:CmP bu br now out ow) (ht:now ≤ t) (hm:t ≤ 2621400) (hl:ow.length < 200) (hs:84 ≤ sz ∧ sz ≤ 339):trE (ow ++ [(t,sz)])=0 :=
  trE_snoc (ckE_tr (cf_iff.1 h.cf).1) hl (Int.le_trans h.la ht) (by omega) (by omega)
theorem CmP.snoc {bu br now t c sz:Int} {out:List (List Int)} {ow:List (Int × Int)} (h:CmP bu br now out ow) (ht:now ≤ t) (h0:0 ≤ t) (hc:c=6 ∧ 84 ≤ sz ∧ sz ≤ 339 ∨ (0 ≤ c ∧ c ≤ 5) ∧ 84 ≤ sz ∧ sz ≤ 1359) (hcf:c=6 → cfB bu br (ow ++ [(t,sz)])=true) :
    CmP bu br t (out ++ [[t,0,(out.length:Int),c,sz,0]]) (if c=6 then ow ++ [(t,sz)] else ow):=by
  refine ⟨WR.app h.wr (by unfold WR; simp),?_,?_,?_,fun k hk=>?_⟩
  · rw [o6_app,h.eqo]
    by_cases e:c=6
    · rw [if_pos e]; simp [o6,e]
    · rw [if_neg e]; simp [o6,e]
  · by_cases e:c=6
    · rw [if_pos e]; exact hcf e
    · rw [if_neg e]; exact h.cf
  · by_cases e:c=6
    · rw [if_pos e,laN_snoc']; exact Int.le_refl _
    · rw [if_neg e]; exact Int.le_trans h.la ht
  · rw [List.length_append] at hk
    simp only [List.length_cons,List.length_nil] at hk
    by_cases e:k=out.length
    · subst e
      simp only [rc_last]
      refine ⟨⟨h0,Int.le_refl _⟩,fun j hj=>?_,rfl,rfl,hc,rfl⟩
      rw [rc_left hj]
      exact Int.le_trans (h.el j hj).1.2 ht
    · have hk':k < out.length:=by omega
      obtain ⟨q1,q2,q3⟩:=h.el k hk'
      simp only [rc_left hk']
      exact ⟨⟨q1.1,Int.le_trans q1.2 ht⟩,fun j hj=>by rw [rc_left (by omega)]; exact q2 j hj,q3⟩
theorem CmP.len {bu br now:Int} {out:List (List Int)} {ow:List (Int × Int)} (h:CmP bu br now out ow):ow.length ≤ out.length:=by
  rw [← h.eqo]
  clear h
  induction out with
  | nil => exact Nat.le_refl _
  | cons x r ih => simp only [o6]; split <;> (simp only [List.length_cons]; omega)
def ComesR (bu br:Int) (w:World) (en:Ending) (w':World):Prop:=∃ (out:List (List Int)) (ow:List (Int × Int)) (A:Option Addr) (c:Nat),CmP bu br 2621400 out ow ∧ out.length ≤ 40 ∧ out.length ≤ c ∧ en=.returned (.tuple #[.slice A out.length c,.bool true]) ∧ Ro w' A (flatR out) ∧ (∀ b,(Ent.ro A (flatR out)).blk=some b → w.heap.size ≤ b) ∧ Below w.heap.size w w'
set_option maxHeartbeats 8000000 in
theorem comes_w (bu br:Int) (lA_:Option Addr) (l:List (List Int)) (lc_:Nat) (w0:World) (hb:bkE bu br=0) (hL:Ro w0 lA_ (flatE lE l)) (hWl:WR 3 l) (hlb:∀ k,k < l.length → (0 ≤ rc l k 0 ∧ rc l k 0 ≤ 65535) ∧ (0 ≤ rc l k 1 ∧ rc l k 1 ≤ 255) ∧ 0 ≤ rc l k 2 ∧ rc l k 2 ≤ 255) :
    Calls Tryz.prog 9 #[.agg #[iv bu,iv br],.slice lA_ l.length lc_] w0 (ComesR bu br w0):=by
 refine enterK 89 Tryz.func9 rfl rfl rfl ?_
 intro a hF Q0 hR0 hN0
 have hM:=Mem.start w0
 replace hM:=hM.addOld 1 hL (Nat.le_refl _)
 refine wp_seq_k fun K1 hK1=>wp_region_lit (wl (xN 2 2 (t:=33) (fun b=>.pointer (some ⟨b,0,none⟩)) #[iv bu,iv br] hF hM fun bb1 a w hF hM=>xB 2 [(4,.slice none 0 0),(5,.bool false)] hF fun a hF=>wpList_nil (hK1 _ _ (wp_seq_k fun K2 hK2=>wp_region_lit (xB 1 [(6,.slice none 0 0)] hF fun a hF=>wpList_nil (hK2 _ _ (wp_seq_k fun K3 hK3=>?_)))))))
 refine wp_region_lit (xB 1 [(7,.slice none 0 0)] hF fun a hF=>wpList_nil (hK3 _ _ (wp_seq_k fun K4 hK4=>wp_region_lit (xB 1 [(8,iv 0)] hF fun a hF=>wpList_nil (hK4 _ _ (wp_seq_k fun K5 hK5=>wp_seq_k fun K6 hK6=>wp_region_lit ?_))))))
 refine xB 1 [(9,iv 0)] hF fun a hF=>wpList_nil (hK6 _ _ (wp_block ?_))
 replace hM:=hM.addNil 3 63 6
 replace hM:=hM.addNil 4 89 2
 refine wp_loop_k (G:=Nat × Int × List (List Int) × Nat × Option Addr × Nat × List (Int × Int) × Nat × Option Addr × Nat) (fun gg a w=>Fr 89 [(6,some (.slice gg.2.2.2.2.1 gg.2.2.2.1 gg.2.2.2.2.2.1)),(7,some (.slice gg.2.2.2.2.2.2.2.2.1 gg.2.2.2.2.2.2.2.1 gg.2.2.2.2.2.2.2.2.2)),(8,some (iv gg.2.1)),(9,some (iv (gg.1:Int))),(1,some (.slice lA_ l.length lc_)),(2,some (pt bb1 0))] a ∧ Mem w0.heap.size w0 [(1,some (.ro lA_ (flatE lE l))),(2,some (.row bb1 33 #[iv bu,iv br])),(3,some (.own (.slice gg.2.2.2.2.1 gg.2.2.2.1 gg.2.2.2.2.2.1) 63 6 gg.2.2.2.1 (flatR gg.2.2.1))),(4,some (.own (.slice gg.2.2.2.2.2.2.2.2.1 gg.2.2.2.2.2.2.2.1 gg.2.2.2.2.2.2.2.2.2) 89 2 gg.2.2.2.2.2.2.2.1 (flat2 gg.2.2.2.2.2.2.1)))] w ∧ ((gg.1:Int) ≤ 40) ∧ (0 ≤ gg.2.1) ∧ (gg.2.1 ≤ 65535 * (gg.1:Int)) ∧ (CmP bu br gg.2.1 gg.2.2.1 gg.2.2.2.2.2.2.1) ∧ (gg.2.2.2.1=gg.2.2.1.length) ∧ (gg.2.2.2.2.2.2.2.1=gg.2.2.2.2.2.2.1.length) ∧ ((gg.2.2.2.1:Int) ≤ (gg.1:Int))) (fun gg=>40 - gg.1) (0,0,[],0,none,0,[],0,none,0) ?_ ?_
 ·refine ⟨(((((((Fr.nil hF).c hF (i:=2) rfl rfl).c hF (i:=1) rfl rfl).c hF (i:=9) rfl (vi (show (0:Int)=(0:Int) from by omega))).c hF (i:=8) rfl rfl).c hF (i:=7) rfl rfl).c hF (i:=6) rfl rfl),(hM.sub ((((Sub.nil.c (k:=4) rfl rfl).c (k:=3) rfl rfl).c (k:=2) rfl rfl).c (k:=1) rfl rfl)),(show (0:Int) ≤ 40 from by omega),(show 0 ≤ 0 from by omega),(show 0 ≤ 65535 * (0:Int) from by omega),(show CmP bu br 0 ([]) ([]) from by exact CmP.nil hb),(show 0=([]).length from by rfl),(show 0=([]).length from by rfl),(show (0:Int) ≤ (0:Int) from by omega)⟩
 intro gg a w hI
 intro K7 hK7
 obtain ⟨i,now,ou,on,oA,oC,ow,wn,wA,wC⟩:=gg
 try dsimp only at hI hK7
 obtain ⟨hF,hM,hz1,hz2,hz3,hz4,hz5,hz6,hz7⟩:=hI
 have hCm:CmP bu br now ou ow:=by assumption
 have hon:on=ou.length:=by assumption
 have hwn:wn=ow.length:=by assumption
 have hwo:=hCm.len
 refine wp_seq_k fun K8 hK8=>wp_seq_k fun K9 hK9=>?_
 by_cases hz8:(i:Int) < (l.length:Int)
 ·refine wp_region_lit (xB 3 [(14,iv (i:Int)),(15,.slice lA_ l.length lc_),(16,iv (l.length:Int))] hF fun a hF=>wl (xP 17 (v0:=.bool (decide ((i:Int) < (l.length:Int)))) (v:=.bool true) hF (bT hz8) fun a hF=>xB 4 [(18,.bool true),(19,iv (i:Int)),(20,.bool (decide ((i:Int) < 40))),(21,.bool (decide ((i:Int) < 40)))] hF fun a hF=>wpList_nil (hK9 _ _ ?_)))
  by_cases hz9:(i:Int) < 40
  ·replace hF:=hF.c hF (i:=20) (v:=.bool true) rfl (bT hz9)
   replace hF:=hF.c hF (i:=21) (v:=.bool true) rfl (bT hz9)
   refine xT hF (wp_skip (hK8 _ _ (wp_seq_k fun K10 hK10=>wp_block (wp_seq_k fun K11 hK11=>wp_region_lit (xB 3 [(24,iv now),(25,.slice lA_ l.length lc_),(26,iv (i:Int))] hF fun a hF=>wl (xM 27 (v:=.pointer (some (ea lA_ (i * 3)))) hF hM (yld_ix (kd:=.i64) (e:=87) (len:=l.length) (cap:=lc_) (i:=(i:Int)) (size:=3) (A:=lA_) hF rfl (by kernel_rfl) (by kernel_rfl) (by kernel_rfl) (by kernel_rfl) (by kernel_rfl) (roK 1 rfl) (by omega) (by omega) (by rw [flatE_length (es:=lE) hWl,show lE.length=3 from rfl]; omega)) fun a w hF hM=>xB 1 [(28,.pointer (some (ea lA_ (i * 3))))] hF fun a hF=>wl (xM 29 (v:=.int .u16 (rc l i 0)) hF hM (yld_ro1 (A:=lA_) (j:=i * 3) hF rfl (by kernel_rfl) (by kernel_rfl) (roK 1 rfl) (by kernel_rfl) (rcE_at (es:=lE) (k:=i) (i:=0) hWl (by omega) rfl)) fun a w hF hM=>?_)))))))
   have:=hlb i (by omega)
   refine wl (xP 30 (v0:=.int .i64 (IntKind.i64.wrap (rc l i 0))) (v:=iv (rc l i 0)) hF (vi (IntWalk.i64_in _ (by omega))) fun a hF=>wl (xP 31 (v0:=.int .i64 (IntKind.i64.wrap (now + rc l i 0))) (v:=iv (now + rc l i 0)) hF (wi (by omega)) fun a hF=>xB 1 [(8,iv (now + rc l i 0))] hF fun a hF=>wpList_nil (hK11 _ _ (wp_seq_k fun K12 hK12=>?_))))
   have:=hlb i (by omega)
   have:=hlb i (by omega)
   refine rF (by kernel_rfl) (by kernel_rfl) (fun S a w=>∃ bb2:Nat,Fr 89 [(1,some (.slice lA_ l.length lc_)),(2,some (pt bb1 0)),(6,some (.slice oA on oC)),(7,some (.slice wA wn wC)),(8,some (iv (now + rc l i 0))),(9,some (iv (i:Int))),(10,(cond (S.getD 17 false) (some (pt bb2 0)) none)),(32,(cond (S.getD 0 false) (some (.slice oA on oC)) none)),(33,(cond (S.getD 1 false) (some (iv (on:Int))) none)),(34,(cond (S.getD 2 false) (some (.slice lA_ l.length lc_)) none)),(35,(cond (S.getD 3 false) (some (iv (i:Int))) none)),(36,(cond (S.getD 4 false) (some (.pointer (some (ea lA_ (i * 3))))) none)),(37,(cond (S.getD 5 false) (some (.pointer (some (ea lA_ (i * 3 + 1))))) none)),(38,(cond (S.getD 6 false) (some (.int .u8 (rc l i 1))) none)),(39,(cond (S.getD 7 false) (some (.int .u8 (rc l i 1 % 8))) none)),(40,(cond (S.getD 8 false) (some (iv (rc l i 1 % 8))) none)),(41,(cond (S.getD 9 false) (some (.slice lA_ l.length lc_)) none)),(42,(cond (S.getD 10 false) (some (iv (i:Int))) none)),(43,(cond (S.getD 11 false) (some (.pointer (some (ea lA_ (i * 3))))) none)),(44,(cond (S.getD 12 false) (some (.pointer (some (ea lA_ (i * 3 + 2))))) none)),(45,(cond (S.getD 13 false) (some (.int .u8 (rc l i 2))) none)),(46,(cond (S.getD 14 false) (some (iv (rc l i 2))) none)),(47,(cond (S.getD 15 false) (some (iv (84 + rc l i 2))) none)),(48,(cond (S.getD 16 false) (some (.agg #[iv 0,iv (on:Int),iv (rc l i 1 % 8),iv (84 + rc l i 2),iv 0])) none))] a ∧ Mem w0.heap.size w0 [(1,some (.ro lA_ (flatE lE l))),(2,some (.row bb1 33 #[iv bu,iv br])),(3,some (.own (.slice oA on oC) 63 6 on (flatR ou))),(4,some (.own (.slice wA wn wC) 89 2 wn (flat2 ow))),(5,(cond (S.getD 18 false) (some (.row bb2 48 #[iv 0,iv (on:Int),iv (rc l i 1 % 8),iv (84 + rc l i 2),iv 0])) (cond (S.getD 17 false) (some (.row bb2 48 #[iv 0,iv 0,iv 0,iv 0,iv 0])) none)))] w) ?_ ?_ ?_
   ·exact ⟨0,hF.pk,hM.dk⟩
   ·refine stC ?_ (stC ?_ (stC ?_ (stC ?_ (stC ?_ (stC ?_ (stC ?_ (stC ?_ (stC ?_ (stC ?_ (stC ?_ (stC ?_ (stC ?_ (stC ?_ (stC ?_ (stC ?_ (stC ?_ (stC ?_ (stC ?_ (trivial)))))))))))))))))))
    ·intro s0 s1 s2 s3 s4 s5 s6 s7 s8 s9 s10 s11 s12 s13 s14 s15 s16 s17 s18 hc hi hp a w hS
     obtain rfl:s0=false:=hi
     obtain ⟨bb2,hF,hM⟩:=hS
     refine xP 32 (v0:=.slice oA on oC) (v:=.slice oA on oC) hF rfl fun a hF=>⟨bb2,hF.rc 7,hM.k⟩
    ·intro s0 s1 s2 s3 s4 s5 s6 s7 s8 s9 s10 s11 s12 s13 s14 s15 s16 s17 s18 hc hi hp a w hS
     obtain rfl:s1=false:=hi
     obtain rfl:s0=true:=hp 0 (by kernel_rfl)
     obtain ⟨bb2,hF,hM⟩:=hS
     refine xP 33 (v0:=iv (on:Int)) (v:=iv (on:Int)) hF rfl fun a hF=>⟨bb2,hF.rc 8,hM.k⟩
    ·intro s0 s1 s2 s3 s4 s5 s6 s7 s8 s9 s10 s11 s12 s13 s14 s15 s16 s17 s18 hc hi hp a w hS
     obtain rfl:s2=false:=hi
     obtain ⟨bb2,hF,hM⟩:=hS
     refine xP 34 (v0:=.slice lA_ l.length lc_) (v:=.slice lA_ l.length lc_) hF rfl fun a hF=>⟨bb2,hF.rc 9,hM.k⟩
    ·intro s0 s1 s2 s3 s4 s5 s6 s7 s8 s9 s10 s11 s12 s13 s14 s15 s16 s17 s18 hc hi hp a w hS
     obtain rfl:s3=false:=hi
     obtain ⟨bb2,hF,hM⟩:=hS
     refine xP 35 (v0:=iv (i:Int)) (v:=iv (i:Int)) hF rfl fun a hF=>⟨bb2,hF.rc 10,hM.k⟩
    ·intro s0 s1 s2 s3 s4 s5 s6 s7 s8 s9 s10 s11 s12 s13 s14 s15 s16 s17 s18 hc hi hp a w hS
     obtain rfl:s4=false:=hi
     obtain rfl:s3=true:=hp 3 (by kernel_rfl)
     obtain rfl:s2=true:=hp 2 (by kernel_rfl)
     obtain ⟨bb2,hF,hM⟩:=hS
     refine xM 36 (v:=.pointer (some (ea lA_ (i * 3)))) hF hM (yld_ix (kd:=.i64) (e:=87) (len:=l.length) (cap:=lc_) (i:=(i:Int)) (size:=3) (A:=lA_) hF rfl (by kernel_rfl) (by kernel_rfl) (by kernel_rfl) (by kernel_rfl) (by kernel_rfl) (roK 1 rfl) (by omega) (by omega) (by rw [flatE_length (es:=lE) hWl,show lE.length=3 from rfl]; omega)) fun a w hF hM=>⟨bb2,hF.rc 11,hM.k⟩
    ·intro s0 s1 s2 s3 s4 s5 s6 s7 s8 s9 s10 s11 s12 s13 s14 s15 s16 s17 s18 hc hi hp a w hS
     obtain rfl:s5=false:=hi
     obtain rfl:s4=true:=hp 4 (by kernel_rfl)
     obtain ⟨bb2,hF,hM⟩:=hS
     refine xP 37 (v0:=.pointer (some (ea lA_ (i * 3 + 1)))) (v:=.pointer (some (ea lA_ (i * 3 + 1)))) hF rfl fun a hF=>⟨bb2,hF.rc 12,hM.k⟩
    ·intro s0 s1 s2 s3 s4 s5 s6 s7 s8 s9 s10 s11 s12 s13 s14 s15 s16 s17 s18 hc hi hp a w hS
     obtain rfl:s6=false:=hi
     obtain rfl:s5=true:=hp 5 (by kernel_rfl)
     obtain ⟨bb2,hF,hM⟩:=hS
     refine xM 38 (v:=.int .u8 (rc l i 1)) hF hM (yld_ro1 (A:=lA_) (j:=i * 3 + 1) hF rfl (by kernel_rfl) (by kernel_rfl) (roK 1 rfl) (by kernel_rfl) (rcE_at (es:=lE) (k:=i) (i:=1) hWl (by omega) rfl)) fun a w hF hM=>⟨bb2,hF.rc 13,hM.k⟩
    ·intro s0 s1 s2 s3 s4 s5 s6 s7 s8 s9 s10 s11 s12 s13 s14 s15 s16 s17 s18 hc hi hp a w hS
     obtain rfl:s7=false:=hi
     obtain rfl:s6=true:=hp 6 (by kernel_rfl)
     obtain ⟨bb2,hF,hM⟩:=hS
     refine xM 39 (v:=.int .u8 (rc l i 1 % 8)) hF hM (yld_rem (rc l i 1) 8 hF rfl (by kernel_rfl) (by kernel_rfl) (by kernel_rfl) (by decide) (Int.tmod_eq_emod_of_nonneg (by omega))) fun a w hF hM=>⟨bb2,hF.rc 14,hM.k⟩
    ·intro s0 s1 s2 s3 s4 s5 s6 s7 s8 s9 s10 s11 s12 s13 s14 s15 s16 s17 s18 hc hi hp a w hS
     obtain rfl:s8=false:=hi
     obtain rfl:s7=true:=hp 7 (by kernel_rfl)
     obtain ⟨bb2,hF,hM⟩:=hS
     refine xP 40 (v0:=.int .i64 (IntKind.i64.wrap (rc l i 1 % 8))) (v:=iv (rc l i 1 % 8)) hF (vi (IntWalk.i64_in _ (by omega))) fun a hF=>⟨bb2,hF.rc 15,hM.k⟩
    ·intro s0 s1 s2 s3 s4 s5 s6 s7 s8 s9 s10 s11 s12 s13 s14 s15 s16 s17 s18 hc hi hp a w hS
     obtain rfl:s9=false:=hi
     obtain ⟨bb2,hF,hM⟩:=hS
     refine xP 41 (v0:=.slice lA_ l.length lc_) (v:=.slice lA_ l.length lc_) hF rfl fun a hF=>⟨bb2,hF.rc 16,hM.k⟩
    ·intro s0 s1 s2 s3 s4 s5 s6 s7 s8 s9 s10 s11 s12 s13 s14 s15 s16 s17 s18 hc hi hp a w hS
     obtain rfl:s10=false:=hi
     obtain ⟨bb2,hF,hM⟩:=hS
     refine xP 42 (v0:=iv (i:Int)) (v:=iv (i:Int)) hF rfl fun a hF=>⟨bb2,hF.rc 17,hM.k⟩
    ·intro s0 s1 s2 s3 s4 s5 s6 s7 s8 s9 s10 s11 s12 s13 s14 s15 s16 s17 s18 hc hi hp a w hS
     obtain rfl:s11=false:=hi
     obtain rfl:s10=true:=hp 10 (by kernel_rfl)
     obtain rfl:s9=true:=hp 9 (by kernel_rfl)
     obtain ⟨bb2,hF,hM⟩:=hS
     refine xM 43 (v:=.pointer (some (ea lA_ (i * 3)))) hF hM (yld_ix (kd:=.i64) (e:=87) (len:=l.length) (cap:=lc_) (i:=(i:Int)) (size:=3) (A:=lA_) hF rfl (by kernel_rfl) (by kernel_rfl) (by kernel_rfl) (by kernel_rfl) (by kernel_rfl) (roK 1 rfl) (by omega) (by omega) (by rw [flatE_length (es:=lE) hWl,show lE.length=3 from rfl]; omega)) fun a w hF hM=>⟨bb2,hF.rc 18,hM.k⟩
    ·intro s0 s1 s2 s3 s4 s5 s6 s7 s8 s9 s10 s11 s12 s13 s14 s15 s16 s17 s18 hc hi hp a w hS
     obtain rfl:s12=false:=hi
     obtain rfl:s11=true:=hp 11 (by kernel_rfl)
     obtain ⟨bb2,hF,hM⟩:=hS
     refine xP 44 (v0:=.pointer (some (ea lA_ (i * 3 + 2)))) (v:=.pointer (some (ea lA_ (i * 3 + 2)))) hF rfl fun a hF=>⟨bb2,hF.rc 19,hM.k⟩
    ·intro s0 s1 s2 s3 s4 s5 s6 s7 s8 s9 s10 s11 s12 s13 s14 s15 s16 s17 s18 hc hi hp a w hS
     obtain rfl:s13=false:=hi
     obtain rfl:s12=true:=hp 12 (by kernel_rfl)
     obtain ⟨bb2,hF,hM⟩:=hS
     refine xM 45 (v:=.int .u8 (rc l i 2)) hF hM (yld_ro1 (A:=lA_) (j:=i * 3 + 2) hF rfl (by kernel_rfl) (by kernel_rfl) (roK 1 rfl) (by kernel_rfl) (rcE_at (es:=lE) (k:=i) (i:=2) hWl (by omega) rfl)) fun a w hF hM=>⟨bb2,hF.rc 20,hM.k⟩
    ·intro s0 s1 s2 s3 s4 s5 s6 s7 s8 s9 s10 s11 s12 s13 s14 s15 s16 s17 s18 hc hi hp a w hS
     obtain rfl:s14=false:=hi
     obtain rfl:s13=true:=hp 13 (by kernel_rfl)
     obtain ⟨bb2,hF,hM⟩:=hS
     refine xP 46 (v0:=.int .i64 (IntKind.i64.wrap (rc l i 2))) (v:=iv (rc l i 2)) hF (vi (IntWalk.i64_in _ (by omega))) fun a hF=>⟨bb2,hF.rc 21,hM.k⟩
    ·intro s0 s1 s2 s3 s4 s5 s6 s7 s8 s9 s10 s11 s12 s13 s14 s15 s16 s17 s18 hc hi hp a w hS
     obtain rfl:s15=false:=hi
     obtain rfl:s14=true:=hp 14 (by kernel_rfl)
     obtain ⟨bb2,hF,hM⟩:=hS
     refine xP 47 (v0:=.int .i64 (IntKind.i64.wrap (84 + rc l i 2))) (v:=iv (84 + rc l i 2)) hF (wi (by omega)) fun a hF=>⟨bb2,hF.rc 22,hM.k⟩
    ·intro s0 s1 s2 s3 s4 s5 s6 s7 s8 s9 s10 s11 s12 s13 s14 s15 s16 s17 s18 hc hi hp a w hS
     obtain rfl:s16=false:=hi
     obtain rfl:s15=true:=hp 15 (by kernel_rfl)
     obtain rfl:s8=true:=hp 8 (by kernel_rfl)
     obtain rfl:s1=true:=hp 1 (by kernel_rfl)
     obtain ⟨bb2,hF,hM⟩:=hS
     refine xP 48 (v0:=.agg #[iv 0,iv (on:Int),iv (rc l i 1 % 8),iv (84 + rc l i 2),iv 0]) (v:=.agg #[iv 0,iv (on:Int),iv (rc l i 1 % 8),iv (84 + rc l i 2),iv 0]) hF rfl fun a hF=>⟨bb2,hF.rc 23,hM.k⟩
    ·intro s0 s1 s2 s3 s4 s5 s6 s7 s8 s9 s10 s11 s12 s13 s14 s15 s16 s17 s18 hc hi hp a w hS
     obtain rfl:s17=false:=hi
     obtain rfl:s18=false:=hc.f 18 17 (by kernel_rfl) rfl
     obtain ⟨bb2,hF,hM⟩:=hS
     refine xN 10 5 (t:=48) (fun b=>.pointer (some ⟨b,0,none⟩)) #[iv 0,iv 0,iv 0,iv 0,iv 0] hF hM fun bb2 a w hF hM=>⟨bb2,hF.rc 6,hM.rc 4⟩
    intro s0 s1 s2 s3 s4 s5 s6 s7 s8 s9 s10 s11 s12 s13 s14 s15 s16 s17 s18 hc hi hp a w hS
    obtain rfl:s18=false:=hi
    obtain rfl:s17=true:=hp 17 (by kernel_rfl)
    obtain rfl:s16=true:=hp 16 (by kernel_rfl)
    obtain ⟨bb2,hF,hM⟩:=hS
    refine xS 5 0 #[iv 0,iv (on:Int),iv (rc l i 1 % 8),iv (84 + rc l i 2),iv 0] hF hM fun w hM=>⟨bb2,hF.k,hM.rc 4⟩
   intro a w hS
   obtain ⟨bb2,hF,hM⟩:=hS
   replace hF:Fr 89 [(1,some (.slice lA_ l.length lc_)),(2,some (pt bb1 0)),(6,some (.slice oA on oC)),(7,some (.slice wA wn wC)),(8,some (iv (now + rc l i 0))),(9,some (iv (i:Int))),(10,some (pt bb2 0)),(32,some (.slice oA on oC)),(33,some (iv (on:Int))),(34,some (.slice lA_ l.length lc_)),(35,some (iv (i:Int))),(36,some (.pointer (some (ea lA_ (i * 3))))),(37,some (.pointer (some (ea lA_ (i * 3 + 1))))),(38,some (.int .u8 (rc l i 1))),(39,some (.int .u8 (rc l i 1 % 8))),(40,some (iv (rc l i 1 % 8))),(41,some (.slice lA_ l.length lc_)),(42,some (iv (i:Int))),(43,some (.pointer (some (ea lA_ (i * 3))))),(44,some (.pointer (some (ea lA_ (i * 3 + 2))))),(45,some (.int .u8 (rc l i 2))),(46,some (iv (rc l i 2))),(47,some (iv (84 + rc l i 2))),(48,some (.agg #[iv 0,iv (on:Int),iv (rc l i 1 % 8),iv (84 + rc l i 2),iv 0]))] a:=hF.cast (by kernel_rfl)
   replace hM:Mem w0.heap.size w0 [(1,some (.ro lA_ (flatE lE l))),(2,some (.row bb1 33 #[iv bu,iv br])),(3,some (.own (.slice oA on oC) 63 6 on (flatR ou))),(4,some (.own (.slice wA wn wC) 89 2 wn (flat2 ow))),(5,some (.row bb2 48 #[iv 0,iv (on:Int),iv (rc l i 1 % 8),iv (84 + rc l i 2),iv 0]))] w:=hM.cast (by kernel_rfl)
   refine hK12 _ _ (wp_seq_k fun K13 hK13=>wp_seq_k fun K14 hK14=>wp_region_lit (xB 1 [(49,pt bb2 2)] hF fun a hF=>wl (xL 50 5 2 (v:=iv (rc l i 1 % 8)) hF hM fun a w hF hM=>xB 1 [(51,.bool (decide (6 ≤ rc l i 1 % 8)))] hF fun a hF=>wpList_nil (hK14 _ _ ?_))))
   by_cases hz10:6 ≤ rc l i 1 % 8
   ·replace hF:=hF.c hF (i:=51) (v:=.bool true) rfl (bT hz10)
    refine xT hF (wp_seq_k fun K15 hK15=>wp_region_lit (xB 1 [(52,pt bb2 2)] hF fun a hF=>wl (xS 5 2 #[iv 0,iv (on:Int),iv 6,iv (84 + rc l i 2),iv 0] hF hM fun w hM=>wpList_nil (hK15 _ _ (wp_seq_k fun K16 hK16=>?_)))))
    refine rF (by kernel_rfl) (by kernel_rfl) (fun S a w=>∃ bb3:Nat,∃ AA4:Option Addr,∃ cc4:Nat,∃ bb5:Nat,∃ AA6:Option Addr,∃ cc6:Nat,Fr 89 [(1,some (.slice lA_ l.length lc_)),(2,some (pt bb1 0)),(6,some (.slice oA on oC)),(7,some (.slice wA wn wC)),(8,some (iv (now + rc l i 0))),(9,some (iv (i:Int))),(10,some (pt bb2 0)),(11,(cond (S.getD 9 false) (some (.slice AA6 (wn + 1) cc6)) none)),(53,(cond (S.getD 0 false) (some (.slice (some ⟨bb3,0,none⟩) 0 0)) none)),(54,(cond (S.getD 1 false) (some (.slice wA wn wC)) none)),(55,(cond (S.getD 2 false) (some (.slice AA4 wn cc4)) none)),(56,(cond (S.getD 3 false) (some (iv (now + rc l i 0))) none)),(57,(cond (S.getD 4 false) (some (pt bb2 3)) none)),(58,(cond (S.getD 5 false) (some (iv (84 + rc l i 2))) none)),(59,(cond (S.getD 6 false) (some (.agg #[iv (now + rc l i 0),iv (84 + rc l i 2)])) none)),(60,(cond (S.getD 7 false) (some (.slice (some ⟨bb5,0,none⟩) 1 1)) none)),(61,(cond (S.getD 8 false) (some (.slice AA6 (wn + 1) cc6)) none))] a ∧ Mem w0.heap.size w0 [(1,some (.ro lA_ (flatE lE l))),(2,some (.row bb1 33 #[iv bu,iv br])),(3,some (.own (.slice oA on oC) 63 6 on (flatR ou))),(4,some (.own (.slice wA wn wC) 89 2 wn (flat2 ow))),(5,some (.row bb2 48 #[iv 0,iv (on:Int),iv 6,iv (84 + rc l i 2),iv 0])),(6,(cond (S.getD 8 false) (some (.own (.slice AA6 (wn + 1) cc6) 89 2 (wn + 1) (flat2 (ow ++ [(now + rc l i 0,84 + rc l i 2)])))) (cond (S.getD 2 false) (some (.own (.slice AA4 wn cc4) 89 2 wn (flat2 ow))) (cond (S.getD 0 false) (some (.row bb3 89 #[])) none)))),(7,(cond (S.getD 7 false) (some (.row bb5 89 #[iv (now + rc l i 0),iv (84 + rc l i 2)])) none))] w) ?_ ?_ ?_
    ·exact ⟨0,none,0,0,none,0,hF.pk,hM.dk⟩
    ·refine stC ?_ (stC ?_ (stC ?_ (stC ?_ (stC ?_ (stC ?_ (stC ?_ (stC ?_ (stC ?_ (stC ?_ (trivial))))))))))
     ·intro s0 s1 s2 s3 s4 s5 s6 s7 s8 s9 hc hi hp a w hS
      obtain rfl:s0=false:=hi
      obtain rfl:s2=false:=hc.f 2 0 (by kernel_rfl) rfl
      obtain rfl:s8=false:=hc.f 8 2 (by kernel_rfl) rfl
      obtain ⟨bb3,AA4,cc4,bb5,AA6,cc6,hF,hM⟩:=hS
      refine xN 53 6 (t:=89) (fun b=>.slice (some ⟨b,0,none⟩) 0 0) #[] hF hM fun bb3 a w hF hM=>⟨bb3,AA4,cc4,bb5,AA6,cc6,hF.rc 8,hM.rc 5⟩
     ·intro s0 s1 s2 s3 s4 s5 s6 s7 s8 s9 hc hi hp a w hS
      obtain rfl:s1=false:=hi
      obtain ⟨bb3,AA4,cc4,bb5,AA6,cc6,hF,hM⟩:=hS
      refine xP 54 (v0:=.slice wA wn wC) (v:=.slice wA wn wC) hF rfl fun a hF=>⟨bb3,AA4,cc4,bb5,AA6,cc6,hF.rc 9,hM.k⟩
     ·intro s0 s1 s2 s3 s4 s5 s6 s7 s8 s9 hc hi hp a w hS
      obtain rfl:s2=false:=hi
      obtain rfl:s1=true:=hp 1 (by kernel_rfl)
      obtain rfl:s0=true:=hp 0 (by kernel_rfl)
      obtain rfl:s8=false:=hc.f 8 2 (by kernel_rfl) rfl
      obtain ⟨bb3,AA4,cc4,bb5,AA6,cc6,hF,hM⟩:=hS
      refine sAppR0 55 6 (e:=89) (size:=2) (bytes:=16) (z:=.agg #[iv 0,iv 0]) (m:=wn) (c:=wC) (news:=(flat2 ow)) (flat2 ow) hF hM (by kernel_rfl) rfl (by kernel_rfl) (by kernel_rfl) (by kernel_rfl) rfl rfl rfl (by first | exact flat2_length _ | (rw [flat2_length]; omega)) (roO 4 rfl) (flat2_one _) (by omega) (by decide) rfl (own_nil hM (k:=4) rfl) fun AA4 cc4 a w hF hM=>⟨bb3,AA4,cc4,bb5,AA6,cc6,hF.rc 10,hM.rc 5⟩
     ·intro s0 s1 s2 s3 s4 s5 s6 s7 s8 s9 hc hi hp a w hS
      obtain rfl:s3=false:=hi
      obtain ⟨bb3,AA4,cc4,bb5,AA6,cc6,hF,hM⟩:=hS
      refine xP 56 (v0:=iv (now + rc l i 0)) (v:=iv (now + rc l i 0)) hF rfl fun a hF=>⟨bb3,AA4,cc4,bb5,AA6,cc6,hF.rc 11,hM.k⟩
     ·intro s0 s1 s2 s3 s4 s5 s6 s7 s8 s9 hc hi hp a w hS
      obtain rfl:s4=false:=hi
      obtain ⟨bb3,AA4,cc4,bb5,AA6,cc6,hF,hM⟩:=hS
      refine xP 57 (v0:=pt bb2 3) (v:=pt bb2 3) hF rfl fun a hF=>⟨bb3,AA4,cc4,bb5,AA6,cc6,hF.rc 12,hM.k⟩
     ·intro s0 s1 s2 s3 s4 s5 s6 s7 s8 s9 hc hi hp a w hS
      obtain rfl:s5=false:=hi
      obtain rfl:s4=true:=hp 4 (by kernel_rfl)
      obtain ⟨bb3,AA4,cc4,bb5,AA6,cc6,hF,hM⟩:=hS
      refine xL 58 5 3 (v:=iv (84 + rc l i 2)) hF hM fun a w hF hM=>⟨bb3,AA4,cc4,bb5,AA6,cc6,hF.rc 13,hM.k⟩
     ·intro s0 s1 s2 s3 s4 s5 s6 s7 s8 s9 hc hi hp a w hS
      obtain rfl:s6=false:=hi
      obtain rfl:s5=true:=hp 5 (by kernel_rfl)
      obtain rfl:s3=true:=hp 3 (by kernel_rfl)
      obtain ⟨bb3,AA4,cc4,bb5,AA6,cc6,hF,hM⟩:=hS
      refine xP 59 (v0:=.agg #[iv (now + rc l i 0),iv (84 + rc l i 2)]) (v:=.agg #[iv (now + rc l i 0),iv (84 + rc l i 2)]) hF rfl fun a hF=>⟨bb3,AA4,cc4,bb5,AA6,cc6,hF.rc 14,hM.k⟩
     ·intro s0 s1 s2 s3 s4 s5 s6 s7 s8 s9 hc hi hp a w hS
      obtain rfl:s7=false:=hi
      obtain rfl:s6=true:=hp 6 (by kernel_rfl)
      obtain ⟨bb3,AA4,cc4,bb5,AA6,cc6,hF,hM⟩:=hS
      refine xN 60 7 (t:=89) (fun b=>.slice (some ⟨b,0,none⟩) 1 1) #[iv (now + rc l i 0),iv (84 + rc l i 2)] hF hM fun bb5 a w hF hM=>⟨bb3,AA4,cc4,bb5,AA6,cc6,hF.rc 15,hM.rc 6⟩
     ·intro s0 s1 s2 s3 s4 s5 s6 s7 s8 s9 hc hi hp a w hS
      obtain rfl:s8=false:=hi
      obtain rfl:s7=true:=hp 7 (by kernel_rfl)
      obtain rfl:s2=true:=hp 2 (by kernel_rfl)
      obtain rfl:s0=true:=hc 2 0 (by kernel_rfl) rfl
      obtain rfl:s9=false:=hc.f 9 8 (by kernel_rfl) rfl
      obtain ⟨bb3,AA4,cc4,bb5,AA6,cc6,hF,hM⟩:=hS
      refine sApp 61 6 (e:=89) (size:=2) (bytes:=16) (z:=.agg #[iv 0,iv 0]) (m:=1) (c:=1) (l:=wn) (cap:=cc4) (A:=AA4) (news:=[iv (now + rc l i 0),iv (84 + rc l i 2)]) (flat2 (ow ++ [(now + rc l i 0,84 + rc l i 2)])) hF hM (by kernel_rfl) rfl (by kernel_rfl) (by kernel_rfl) (by kernel_rfl) rfl rfl rfl rfl (roR 7 rfl) (by simp [Value.oneCell']) (by omega) (by decide) (flat2_snoc' _ _ _) fun AA6 cc6 a w hF hM=>⟨bb3,AA4,cc4,bb5,AA6,cc6,hF.rc 16,hM.rc 5⟩
     intro s0 s1 s2 s3 s4 s5 s6 s7 s8 s9 hc hi hp a w hS
     obtain rfl:s9=false:=hi
     obtain rfl:s8=true:=hp 8 (by kernel_rfl)
     obtain rfl:s2=true:=hp 2 (by kernel_rfl)
     obtain rfl:s0=true:=hp 0 (by kernel_rfl)
     obtain ⟨bb3,AA4,cc4,bb5,AA6,cc6,hF,hM⟩:=hS
     refine xP 11 (v0:=.slice AA6 (wn + 1) cc6) (v:=.slice AA6 (wn + 1) cc6) hF rfl fun a hF=>⟨bb3,AA4,cc4,bb5,AA6,cc6,hF.rc 7,hM.k⟩
    intro a w hS
    obtain ⟨bb3,AA4,cc4,bb5,AA6,cc6,hF,hM⟩:=hS
    replace hF:Fr 89 [(1,some (.slice lA_ l.length lc_)),(2,some (pt bb1 0)),(6,some (.slice oA on oC)),(7,some (.slice wA wn wC)),(8,some (iv (now + rc l i 0))),(9,some (iv (i:Int))),(10,some (pt bb2 0)),(11,some (.slice AA6 (wn + 1) cc6)),(53,some (.slice (some ⟨bb3,0,none⟩) 0 0)),(54,some (.slice wA wn wC)),(55,some (.slice AA4 wn cc4)),(56,some (iv (now + rc l i 0))),(57,some (pt bb2 3)),(58,some (iv (84 + rc l i 2))),(59,some (.agg #[iv (now + rc l i 0),iv (84 + rc l i 2)])),(60,some (.slice (some ⟨bb5,0,none⟩) 1 1)),(61,some (.slice AA6 (wn + 1) cc6))] a:=hF.cast (by kernel_rfl)
    replace hM:Mem w0.heap.size w0 [(1,some (.ro lA_ (flatE lE l))),(2,some (.row bb1 33 #[iv bu,iv br])),(3,some (.own (.slice oA on oC) 63 6 on (flatR ou))),(4,some (.own (.slice wA wn wC) 89 2 wn (flat2 ow))),(5,some (.row bb2 48 #[iv 0,iv (on:Int),iv 6,iv (84 + rc l i 2),iv 0])),(6,some (.own (.slice AA6 (wn + 1) cc6) 89 2 (wn + 1) (flat2 (ow ++ [(now + rc l i 0,84 + rc l i 2)])))),(7,some (.row bb5 89 #[iv (now + rc l i 0),iv (84 + rc l i 2)]))] w:=hM.cast (by kernel_rfl)
    refine hK16 _ _ (wp_seq_k fun K17 hK17=>?_)
    have hnt:trE (ow ++ [(now + rc l i 0,84 + rc l i 2)])=0:=hCm.tr (by omega) (by omega) (by omega) (by omega)
    have hck:ckE bu br (ow ++ [(now + rc l i 0,84 + rc l i 2)])=0:=ckE_zero hb hnt
    refine wp_region_lit (wl (xL 63 2 0 (v:=.agg #[iv bu,iv br]) hF hM fun a w hF hM=>xB 1 [(64,.slice AA6 (wn + 1) cc6)] hF fun a hF=>wl (xM 65 (v:=.tuple #[.bool (cfB bu br (ow ++ [(now + rc l i 0,84 + rc l i 2)])),iv 0]) hF hM (xC 28 #[.agg #[iv bu,iv br],.slice AA6 (wn + 1) cc6] hF (fun w hM=>by have:=conforms_w bu br AA6 (ow ++ [(now + rc l i 0,84 + rc l i 2)]) cc6 w (ro_of_own (hM.ok 6 _ rfl)); rw [hck] at this; rw [show wn + 1=(ow ++ [(now + rc l i 0,84 + rc l i 2)]).length by rw [List.length_append,← hwn]; first | rfl | (simp; done) | (simp; omega)]; exact this)) fun a w hF hM=>xB 5 [(62,.tuple #[.bool (cfB bu br (ow ++ [(now + rc l i 0,84 + rc l i 2)])),iv 0]),(66,.bool (cfB bu br (ow ++ [(now + rc l i 0,84 + rc l i 2)]))),(67,iv 0),(12,.bool (cfB bu br (ow ++ [(now + rc l i 0,84 + rc l i 2)]))),(13,iv 0)] hF fun a hF=>wpList_nil (hK17 _ _ (wp_seq_k fun K18 hK18=>wp_seq_k fun K19 hK19=>wp_region_lit (xB 1 [(68,iv 0)] hF fun a hF=>wl (xP 69 (v0:=.bool (!decide (0=0))) (v:=.bool false) hF (nT (by omega)) fun a hF=>?_)))))))
    refine wpList_nil (hK19 _ _ (xF hF (wp_skip (hK18 _ _ (wp_seq_k fun K20 hK20=>wp_seq_k fun K21 hK21=>?_)))))
    cases hz11:(cfB bu br (ow ++ [(now + rc l i 0,84 + rc l i 2)]))
    ·replace hF:=hF.c hF (i:=12) (v:=.bool false) rfl (congrArg Value.bool hz11)
     replace hF:=hF.c hF (i:=66) (v:=.bool false) rfl (congrArg Value.bool hz11)
     refine wp_region_lit (xB 2 [(70,.bool false),(71,.bool true)] hF fun a hF=>wpList_nil (hK21 _ _ (xT hF (wp_exit (hK10 _ _ (wp_region_lit (xB 1 [(22,iv (i:Int))] hF fun a hF=>wl (xP 23 (v0:=.int .i64 (IntKind.i64.wrap ((i:Int) + 1))) (v:=iv ((i:Int) + 1)) hF (wi (by omega)) fun a hF=>xB 1 [(9,iv ((i:Int) + 1))] hF fun a hF=>wpList_nil ?_))))))))
     refine hK7 _ _ ⟨(i + 1,now + rc l i 0,ou,on,oA,oC,ow,wn,wA,wC),⟨(((((((Fr.nil hF).c hF (i:=2) rfl rfl).c hF (i:=1) rfl rfl).c hF (i:=9) rfl (vi (show ((i:Int) + 1:Int)=((i + 1):Int) from by omega))).c hF (i:=8) rfl rfl).c hF (i:=7) rfl rfl).c hF (i:=6) rfl rfl),(hM.sub ((((Sub.nil.c (k:=4) rfl rfl).c (k:=3) rfl rfl).c (k:=2) rfl rfl).c (k:=1) rfl rfl)),(show ((i + 1):Int) ≤ 40 from by omega),(show 0 ≤ (now + rc l i 0) from by omega),(show (now + rc l i 0) ≤ 65535 * ((i + 1):Int) from by omega),(show CmP bu br (now + rc l i 0) ou ow from by exact hCm.mono (by omega)),(show on=ou.length from by first | assumption | (rw [List.length_append,← hon]; rfl) | omega),(show wn=ow.length from by first | assumption | (rw [List.length_append,← hwn]; rfl) | omega),(show (on:Int) ≤ ((i + 1):Int) from by omega)⟩,(show 40 - (i + 1) < 40 - i from by omega)⟩
    replace hF:=hF.c hF (i:=12) (v:=.bool true) rfl (congrArg Value.bool hz11)
    replace hF:=hF.c hF (i:=66) (v:=.bool true) rfl (congrArg Value.bool hz11)
    refine wp_region_lit (xB 2 [(70,.bool true),(71,.bool false)] hF fun a hF=>wpList_nil (hK21 _ _ (xF hF (wp_skip (hK20 _ _ (wp_region_lit (xB 2 [(72,.slice AA6 (wn + 1) cc6),(7,.slice AA6 (wn + 1) cc6)] hF fun a hF=>wpList_nil (hK13 _ _ (wp_region_lit ?_)))))))))
    refine xB 2 [(82,.slice oA on oC),(83,iv (now + rc l i 0))] hF fun a hF=>wl (xL 84 5 0 (v:=.agg #[iv 0,iv (on:Int),iv 6,iv (84 + rc l i 2),iv 0]) hF hM fun a w hF hM=>xB 1 [(85,.agg #[iv (now + rc l i 0),iv 0,iv (on:Int),iv 6,iv (84 + rc l i 2),iv 0])] hF fun a hF=>wl (xN 86 8 (t:=63) (fun b=>.slice (some ⟨b,0,none⟩) 1 1) #[iv (now + rc l i 0),iv 0,iv (on:Int),iv 6,iv (84 + rc l i 2),iv 0] hF hM fun bb7 a w hF hM=>wl (sApp 87 3 (e:=63) (size:=6) (bytes:=48) (z:=.agg #[iv 0,iv 0,iv 0,iv 0,iv 0,iv 0]) (m:=1) (c:=1) (l:=on) (cap:=oC) (A:=oA) (news:=[iv (now + rc l i 0),iv 0,iv (on:Int),iv 6,iv (84 + rc l i 2),iv 0]) (flatR (ou ++ [[now + rc l i 0,0,(on:Int),6,84 + rc l i 2,0]])) hF hM (by kernel_rfl) rfl (by kernel_rfl) (by kernel_rfl) (by kernel_rfl) rfl rfl rfl rfl (roR 8 rfl) (by simp [Value.oneCell']) (by omega) (by decide) (flatR_append ou [[now + rc l i 0,0,(on:Int),6,84 + rc l i 2,0]]).symm fun AA8 cc8 a w hF hM=>xB 1 [(6,.slice AA8 (on + 1) cc8)] hF fun a hF=>wpList_nil (hK10 _ _ (wp_region_lit (xB 1 [(22,iv (i:Int))] hF fun a hF=>wl (xP 23 (v0:=.int .i64 (IntKind.i64.wrap ((i:Int) + 1))) (v:=iv ((i:Int) + 1)) hF (wi (by omega)) fun a hF=>xB 1 [(9,iv ((i:Int) + 1))] hF fun a hF=>?_)))))))
    refine wpList_nil ?_
    replace hM:=hM.move 4 6 rfl (by decide)
    have hsn:=hCm.snoc (t:=now + rc l i 0) (c:=6) (sz:=84 + rc l i 2) (by omega) (by omega) (by omega) (fun _=>by assumption)
    rw [if_pos rfl] at hsn
    rw [← hon] at hsn
    refine hK7 _ _ ⟨(i + 1,now + rc l i 0,ou ++ [[now + rc l i 0,0,(on:Int),6,84 + rc l i 2,0]],on + 1,AA8,cc8,ow ++ [(now + rc l i 0,84 + rc l i 2)],wn + 1,AA6,cc6),⟨(((((((Fr.nil hF).c hF (i:=2) rfl rfl).c hF (i:=1) rfl rfl).c hF (i:=9) rfl (vi (show ((i:Int) + 1:Int)=((i + 1):Int) from by omega))).c hF (i:=8) rfl rfl).c hF (i:=7) rfl rfl).c hF (i:=6) rfl rfl),(hM.sub ((((Sub.nil.c (k:=4) rfl rfl).c (k:=3) rfl rfl).c (k:=2) rfl rfl).c (k:=1) rfl rfl)),(show ((i + 1):Int) ≤ 40 from by omega),(show 0 ≤ (now + rc l i 0) from by omega),(show (now + rc l i 0) ≤ 65535 * ((i + 1):Int) from by omega),(show CmP bu br (now + rc l i 0) (ou ++ [[now + rc l i 0,0,(on:Int),6,84 + rc l i 2,0]]) (ow ++ [(now + rc l i 0,84 + rc l i 2)]) from by exact hsn),(show (on + 1)=(ou ++ [[now + rc l i 0,0,(on:Int),6,84 + rc l i 2,0]]).length from by first | assumption | (rw [List.length_append,← hon]; rfl) | omega),(show (wn + 1)=(ow ++ [(now + rc l i 0,84 + rc l i 2)]).length from by first | assumption | (rw [List.length_append,← hwn]; rfl) | omega),(show ((on + 1):Int) ≤ ((i + 1):Int) from by omega)⟩,(show 40 - (i + 1) < 40 - i from by omega)⟩
   replace hF:=hF.c hF (i:=51) (v:=.bool false) rfl (bF hz10)
   refine xF hF (wp_region_lit (xB 2 [(73,.slice lA_ l.length lc_),(74,iv (i:Int))] hF fun a hF=>wl (xM 75 (v:=.pointer (some (ea lA_ (i * 3)))) hF hM (yld_ix (kd:=.i64) (e:=87) (len:=l.length) (cap:=lc_) (i:=(i:Int)) (size:=3) (A:=lA_) hF rfl (by kernel_rfl) (by kernel_rfl) (by kernel_rfl) (by kernel_rfl) (by kernel_rfl) (roK 1 rfl) (by omega) (by omega) (by rw [flatE_length (es:=lE) hWl,show lE.length=3 from rfl]; omega)) fun a w hF hM=>xB 1 [(76,.pointer (some (ea lA_ (i * 3 + 2))))] hF fun a hF=>wl (xM 77 (v:=.int .u8 (rc l i 2)) hF hM (yld_ro1 (A:=lA_) (j:=i * 3 + 2) hF rfl (by kernel_rfl) (by kernel_rfl) (roK 1 rfl) (by kernel_rfl) (rcE_at (es:=lE) (k:=i) (i:=2) hWl (by omega) rfl)) fun a w hF hM=>?_))))
   have:=hlb i (by omega)
   refine wl (xP 78 (v0:=.int .i64 (IntKind.i64.wrap (rc l i 2))) (v:=iv (rc l i 2)) hF (vi (IntWalk.i64_in _ (by omega))) fun a hF=>wl (xP 79 (v0:=.int .i64 (IntKind.i64.wrap (5 * rc l i 2))) (v:=iv (5 * rc l i 2)) hF (wi (by omega)) fun a hF=>wl (xP 80 (v0:=.int .i64 (IntKind.i64.wrap (84 + 5 * rc l i 2))) (v:=iv (84 + 5 * rc l i 2)) hF (wi (by omega)) fun a hF=>xB 1 [(81,pt bb2 3)] hF fun a hF=>wl (xS 5 3 #[iv 0,iv (on:Int),iv (rc l i 1 % 8),iv (84 + 5 * rc l i 2),iv 0] hF hM fun w hM=>wpList_nil (hK13 _ _ (wp_region_lit (xB 2 [(82,.slice oA on oC),(83,iv (now + rc l i 0))] hF fun a hF=>wl (xL 84 5 0 (v:=.agg #[iv 0,iv (on:Int),iv (rc l i 1 % 8),iv (84 + 5 * rc l i 2),iv 0]) hF hM fun a w hF hM=>xB 1 [(85,.agg #[iv (now + rc l i 0),iv 0,iv (on:Int),iv (rc l i 1 % 8),iv (84 + 5 * rc l i 2),iv 0])] hF fun a hF=>wl (xN 86 9 (t:=63) (fun b=>.slice (some ⟨b,0,none⟩) 1 1) #[iv (now + rc l i 0),iv 0,iv (on:Int),iv (rc l i 1 % 8),iv (84 + 5 * rc l i 2),iv 0] hF hM fun bb9 a w hF hM=>?_)))))))))
   refine wl (sApp 87 3 (e:=63) (size:=6) (bytes:=48) (z:=.agg #[iv 0,iv 0,iv 0,iv 0,iv 0,iv 0]) (m:=1) (c:=1) (l:=on) (cap:=oC) (A:=oA) (news:=[iv (now + rc l i 0),iv 0,iv (on:Int),iv (rc l i 1 % 8),iv (84 + 5 * rc l i 2),iv 0]) (flatR (ou ++ [[now + rc l i 0,0,(on:Int),rc l i 1 % 8,84 + 5 * rc l i 2,0]])) hF hM (by kernel_rfl) rfl (by kernel_rfl) (by kernel_rfl) (by kernel_rfl) rfl rfl rfl rfl (roR 9 rfl) (by simp [Value.oneCell']) (by omega) (by decide) (flatR_append ou [[now + rc l i 0,0,(on:Int),rc l i 1 % 8,84 + 5 * rc l i 2,0]]).symm fun AA10 cc10 a w hF hM=>xB 1 [(6,.slice AA10 (on + 1) cc10)] hF fun a hF=>wpList_nil (hK10 _ _ (wp_region_lit (xB 1 [(22,iv (i:Int))] hF fun a hF=>wl (xP 23 (v0:=.int .i64 (IntKind.i64.wrap ((i:Int) + 1))) (v:=iv ((i:Int) + 1)) hF (wi (by omega)) fun a hF=>xB 1 [(9,iv ((i:Int) + 1))] hF fun a hF=>wpList_nil ?_)))))
   have hsn:=hCm.snoc (t:=now + rc l i 0) (c:=rc l i 1 % 8) (sz:=84 + 5 * rc l i 2) (by omega) (by omega) (by omega) (fun z=>absurd z (by omega))
   rw [if_neg (by omega)] at hsn
   rw [← hon] at hsn
   refine hK7 _ _ ⟨(i + 1,now + rc l i 0,ou ++ [[now + rc l i 0,0,(on:Int),rc l i 1 % 8,84 + 5 * rc l i 2,0]],on + 1,AA10,cc10,ow,wn,wA,wC),⟨(((((((Fr.nil hF).c hF (i:=2) rfl rfl).c hF (i:=1) rfl rfl).c hF (i:=9) rfl (vi (show ((i:Int) + 1:Int)=((i + 1):Int) from by omega))).c hF (i:=8) rfl rfl).c hF (i:=7) rfl rfl).c hF (i:=6) rfl rfl),(hM.sub ((((Sub.nil.c (k:=4) rfl rfl).c (k:=3) rfl rfl).c (k:=2) rfl rfl).c (k:=1) rfl rfl)),(show ((i + 1):Int) ≤ 40 from by omega),(show 0 ≤ (now + rc l i 0) from by omega),(show (now + rc l i 0) ≤ 65535 * ((i + 1):Int) from by omega),(show CmP bu br (now + rc l i 0) (ou ++ [[now + rc l i 0,0,(on:Int),rc l i 1 % 8,84 + 5 * rc l i 2,0]]) ow from by exact hsn),(show (on + 1)=(ou ++ [[now + rc l i 0,0,(on:Int),rc l i 1 % 8,84 + 5 * rc l i 2,0]]).length from by first | assumption | (rw [List.length_append,← hon]; rfl) | omega),(show wn=ow.length from by first | assumption | (rw [List.length_append,← hwn]; rfl) | omega),(show ((on + 1):Int) ≤ ((i + 1):Int) from by omega)⟩,(show 40 - (i + 1) < 40 - i from by omega)⟩
  replace hF:=hF.c hF (i:=20) (v:=.bool false) rfl (bF hz9)
  replace hF:=hF.c hF (i:=21) (v:=.bool false) rfl (bF hz9)
  refine xF hF (wp_exit (hK5 _ _ (wp_seq_k fun K22 hK22=>wp_region_lit (xB 3 [(88,.slice oA on oC),(4,.slice oA on oC),(5,.bool true)] hF fun a hF=>wpList_nil (hK22 _ _ (wp_ret (hR0 _ _ (ret_of hF hM (.tmp rfl (.tmp rfl (.nil))) ?_))))))))
  have hfr:=own_fresh hM (k:=3) rfl
  have hcp:=own_cap hM (k:=3) rfl
  subst hon
  exact ⟨ou,ow,_,_,hCm.mono (by omega),by omega,hcp,rfl,hfr.1,hfr.2,hM.bel⟩
 refine wp_region_lit (xB 3 [(14,iv (i:Int)),(15,.slice lA_ l.length lc_),(16,iv (l.length:Int))] hF fun a hF=>wl (xP 17 (v0:=.bool (decide ((i:Int) < (l.length:Int)))) (v:=.bool false) hF (bF hz8) fun a hF=>xB 4 [(18,.bool false),(19,undef),(20,undef),(21,.bool false)] hF fun a hF=>wpList_nil (hK9 _ _ (xF hF (wp_exit (hK5 _ _ (wp_seq_k fun K23 hK23=>wp_region_lit (xB 3 [(88,.slice oA on oC),(4,.slice oA on oC),(5,.bool true)] hF fun a hF=>?_))))))))
 refine wpList_nil (hK23 _ _ (wp_ret (hR0 _ _ (ret_of hF hM (.tmp rfl (.tmp rfl (.nil))) ?_))))
 have hfr:=own_fresh hM (k:=3) rfl
 have hcp:=own_cap hM (k:=3) rfl
 subst hon
 exact ⟨ou,ow,_,_,hCm.mono (by omega),by omega,hcp,rfl,hfr.1,hfr.2,hM.bel⟩
end Go.Proofs.YtlngflbamkgjlaaGreat
namespace Go.Proofs.YtlngflbamkgjlaaGreat
open Go.Shelf Go.RowKit
def lays134_ren:Go.Shelf.Ren:=⟨fun | 134=>82 | 129=>103 | n=>n,fun | 53=>129 | 3=>3 | 4=>4 | 46=>153 | 5=>5 | 9=>9 | n=>n,fun | n=>n⟩
theorem lays134:Go.Proofs.Lays.n134 Tryz.prog lays134_ren:={
  mixed:=by kernel_rfl
  f129:=Tryz.func103.trans (congrArg some (by kernel_rfl))
  f134:=Tryz.func82.trans (congrArg some (by kernel_rfl))
  t3:=Tryz.underlying3
  a3:=Tryz.isAgg3
  z3:=Tryz.sizeOf3
  v3:=Tryz.zeroValue3
  t4:=Tryz.underlying4
  a4:=Tryz.isAgg4
  z4:=Tryz.sizeOf4
  v4:=Tryz.zeroValue4
  t5:=Tryz.underlying5
  a5:=Tryz.isAgg5
  z5:=Tryz.sizeOf5
  v5:=Tryz.zeroValue5
  t9:=Tryz.underlying9
  a9:=Tryz.isAgg9
  z9:=Tryz.sizeOf9
  v9:=Tryz.zeroValue9
  t46:=Tryz.underlying153
  a46:=Tryz.isAgg153
  z46:=Tryz.sizeOf153
  v46:=Tryz.zeroValue153
  t53:=Tryz.underlying129
  a53:=Tryz.isAgg129
  z53:=Tryz.sizeOf129
  v53:=Tryz.zeroValue129 }
theorem bits_LeadingZeros64 (x:Int) (w:World) (h0:0 ≤ x) (h1:x ≤ 18446744073709551615) :
    Calls Tryz.prog 82 #[.int .u64 x] w fun e w'=>e=.returned (.int .i64 (64 - (Lib.bitLen x.toNat:Int))) ∧ w'=w:=Any.bits_LeadingZeros64 lays134 x w h0 h1
def lays264_ren:Go.Shelf.Ren:=⟨fun | 264=>61 | n=>n,fun | 53=>129 | 46=>153 | n=>n,fun | n=>n⟩
theorem lays264:Go.Proofs.Lays.n264 Tryz.prog lays264_ren:={
  mixed:=by kernel_rfl
  f264:=Tryz.func61.trans (congrArg some (by kernel_rfl))
  t46:=Tryz.underlying153
  a46:=Tryz.isAgg153
  z46:=Tryz.sizeOf153
  v46:=Tryz.zeroValue153
  t53:=Tryz.underlying129
  a53:=Tryz.isAgg129
  z53:=Tryz.sizeOf129
  v53:=Tryz.zeroValue129 }
open Go.RowKit Go.Lib in
theorem bits_Mul64 (x y:Nat) (hx:x < 18446744073709551616) (hy:y < 18446744073709551616) (w:World) :
    Calls Tryz.prog 61 #[.int .u64 x,.int .u64 y] w fun e w'=>e=.returned (.tuple #[.int .u64 ((x * y / 18446744073709551616:Nat):Int),.int .u64 ((x * y % 18446744073709551616:Nat):Int)]) ∧ w'=w:=Any.bits_Mul64 lays264 x y hx hy w
theorem bitLen_bounds (x:Nat) (h0:x ≠ 0) (h:x < 18446744073709551616):2 ^ (Lib.bitLen x - 1) ≤ x ∧ x < 2 ^ Lib.bitLen x ∧ 1 ≤ Lib.bitLen x:=by
  induction x using Nat.strongRecOn with
  | _ x ih =>
    have e:=Lib.bitLen_half x h0 h
    by_cases h1:x=1
    · subst h1
      have:Lib.bitLen 1=1:=by decide
      rw [this]
      decide
    · obtain ⟨i1,i2,i3⟩:=ih (x / 2) (by omega) (by omega) (by omega)
      rw [e]
      have p1:2 ^ (1 + Lib.bitLen (x / 2))=2 * 2 ^ Lib.bitLen (x / 2):=by rw [Nat.add_comm,Nat.pow_succ,Nat.mul_comm]
      have p2:2 ^ (1 + Lib.bitLen (x / 2) - 1)=2 * 2 ^ (Lib.bitLen (x / 2) - 1):=by
        obtain ⟨k,hk⟩:∃ k,Lib.bitLen (x / 2)=k + 1:=⟨_,(Nat.sub_add_cancel i3).symm⟩
        rw [hk]
        simp [Nat.add_comm 1,Nat.pow_succ,Nat.mul_comm]
      rw [p1,p2]
      omega
end Go.Proofs.YtlngflbamkgjlaaGreat
namespace Go.Proofs.YtlngflbamkgjlaaGreat
set_option linter.unusedVariables false
structure Knuth (u32 u1 yn1 yn0 q r:Nat):Prop where
  e:u32=q * yn1 + r
  le:(u32 * 4294967296 + u1) / (yn1 * 4294967296 + yn0) ≤ q
  top:q ≤ 4294967297
structure KnuthIn (u32 u1 yn1 yn0:Nat):Prop where
  h1:2147483648 ≤ yn1
  h2:yn1 < 4294967296
  h3:yn0 < 4294967296
  h4:u1 < 4294967296
  h5:u32 < yn1 * 4294967296 + yn0
section
variable {u32 u1 yn1 yn0 q r:Nat}
theorem Knuth.start (I:KnuthIn u32 u1 yn1 yn0):Knuth u32 u1 yn1 yn0 (u32 / yn1) (u32 % yn1):=by
  obtain ⟨h1,h2,h3,h4,h5⟩:=I
  have e:=Nat.div_add_mod' u32 yn1
  have hlt:=Nat.mod_lt u32 (show yn1 > 0 by omega)
  refine ⟨by omega,?_,?_⟩
  · refine Nat.le_of_lt_succ ((Nat.div_lt_iff_lt_mul (by omega)).2 ?_)
    -- u32*K + u1 < (q+1) * (yn1*K+yn0)
    have h:u32 + 1 ≤ (u32 / yn1 + 1) * yn1:=by rw [Nat.add_mul]; omega
    have h':(u32 + 1) * 4294967296 ≤ (u32 / yn1 + 1) * yn1 * 4294967296:=Nat.mul_le_mul_right _ h
    rw [Nat.succ_eq_add_one,Nat.mul_add,← Nat.mul_assoc]
    omega
  · refine Nat.le_of_lt_succ ((Nat.div_lt_iff_lt_mul (by omega)).2 ?_)
    omega
theorem Knuth.test (k:Knuth u32 u1 yn1 yn0 q r):q * yn0 > 4294967296 * r + u1 ↔ u32 * 4294967296 + u1 < q * (yn1 * 4294967296 + yn0):=by
  have e:=k.e
  have e2:u32 * 4294967296=q * yn1 * 4294967296 + r * 4294967296:=by rw [e,Nat.add_mul]
  rw [Nat.mul_add,← Nat.mul_assoc]
  omega
theorem Knuth.step (I:KnuthIn u32 u1 yn1 yn0) (k:Knuth u32 u1 yn1 yn0 q r) (h:4294967296 ≤ q ∨ 4294967296 * r + u1 < q * yn0) :
    1 ≤ q ∧ q - 1 ≤ 4294967296 ∧ Knuth u32 u1 yn1 yn0 (q - 1) (r + yn1):=by
  have t:=k.test
  have top:=k.top
  have hY:0 < yn1 * 4294967296 + yn0:=by have:=I.h1; omega
  have hlt:(u32 * 4294967296 + u1) / (yn1 * 4294967296 + yn0) < q:=by
    rcases h with h | h
    · refine Nat.lt_of_lt_of_le ((Nat.div_lt_iff_lt_mul hY).2 ?_) h
      have:=I.h5; have:=I.h4
      omega
    · exact (Nat.div_lt_iff_lt_mul hY).2 (t.1 h)
  have h1:1 ≤ q:=Nat.lt_of_le_of_lt (Nat.zero_le _) hlt
  refine ⟨h1,by omega,?_,Nat.le_sub_one_of_lt hlt,by omega⟩
  have e:=k.e
  obtain ⟨q',rfl⟩:∃ q',q=q' + 1:=⟨q - 1,by omega⟩
  rw [Nat.add_mul] at e
  simp
  omega
theorem Knuth.stop (I:KnuthIn u32 u1 yn1 yn0) (k:Knuth u32 u1 yn1 yn0 q r) (h:q * yn0 ≤ 4294967296 * r + u1) :
    q=(u32 * 4294967296 + u1) / (yn1 * 4294967296 + yn0):=by
  have t:=k.test
  have hY:0 < yn1 * 4294967296 + yn0:=by have:=I.h1; omega
  refine Nat.le_antisymm ?_ k.le
  exact (Nat.le_div_iff_mul_le hY).2 (by omega)
theorem Knuth.out (I:KnuthIn u32 u1 yn1 yn0) (k:Knuth u32 u1 yn1 yn0 q r) (hq:q ≤ 4294967296) (h:4294967296 ≤ r) :
    q=(u32 * 4294967296 + u1) / (yn1 * 4294967296 + yn0):=by
  refine k.stop I ?_
  have h3:=I.h3
  have:q * yn0 ≤ 4294967296 * 4294967295:=Nat.mul_le_mul hq (by omega)
  omega
end
theorem two_digits (K N u0 Y:Nat) (hY:0 < Y) :
    N / Y * K + (N % Y * K + u0) / Y=(N * K + u0) / Y ∧ (N % Y * K + u0) % Y=(N * K + u0) % Y:=by
  have e:=Nat.div_add_mod' N Y
  have e2:N * K + u0=(N % Y * K + u0) + Y * (N / Y * K):=by
    have:N * K=(N / Y * Y + N % Y) * K:=by rw [e]
    rw [this,Nat.add_mul,Nat.mul_comm (N / Y) Y,← Nat.mul_assoc]
    omega
  constructor
  · rw [e2,Nat.add_mul_div_left _ _ hY]
    omega
  · rw [e2,Nat.add_mul_mod_self_left]
theorem or_low (x c l:Nat) (h:l < 2 ^ c):x * 2 ^ c ||| l=x * 2 ^ c + l:=by
  rw [Nat.mul_comm,← Nat.two_pow_add_eq_or_of_lt h]
structure Shifted (hi lo y s Y a b H U L u1 u0:Nat):Prop where
  hY:Y=y * 2 ^ s
  Y1:9223372036854775808 ≤ Y
  Y2:Y < 18446744073709551616
  ha:a=Y / 4294967296
  hb:b=Y % 4294967296
  hH:H=hi * 2 ^ s
  HY:H < Y
  hU:U=H + lo / 2 ^ (64 - s)
  UY:U < Y
  hL:L=lo * 2 ^ s % 18446744073709551616
  h1:u1=L / 4294967296
  h0:u0=L % 4294967296
  all:(U * 4294967296 + u1) * 4294967296 + u0=(hi * 18446744073709551616 + lo) * 2 ^ s
  or:H ||| lo / 2 ^ (64 - s)=U
  lo2:lo / 2 ^ (64 - s) < 18446744073709551616
theorem shifted (hi lo y s:Nat) (h1:hi < y) (hy1:2 ^ (63 - s) ≤ y) (hy2:y < 2 ^ (64 - s)) (hs:s < 64) (hl:lo < 18446744073709551616) :
    ∃ Y a b H U L u1 u0,Shifted hi lo y s Y a b H U L u1 u0:=by
  have e64:2 ^ (64 - s) * 2 ^ s=18446744073709551616:=by rw [← Nat.pow_add,Nat.sub_add_cancel (by omega)]
  have e63:2 ^ (63 - s) * 2 ^ s=9223372036854775808:=by rw [← Nat.pow_add,Nat.sub_add_cancel (by omega)]
  have hp:0 < 2 ^ s:=Nat.two_pow_pos s
  have hq:0 < 2 ^ (64 - s):=Nat.two_pow_pos _
  have k1:2 ^ (63 - s) * 2 ^ s ≤ y * 2 ^ s:=Nat.mul_le_mul_right _ hy1
  have k2:y * 2 ^ s < 2 ^ (64 - s) * 2 ^ s:=Nat.mul_lt_mul_of_pos_right hy2 hp
  have k3:(hi + 1) * 2 ^ s ≤ y * 2 ^ s:=Nat.mul_le_mul_right _ h1
  rw [Nat.add_mul,Nat.one_mul] at k3
  have k4:lo / 2 ^ (64 - s) < 2 ^ s:=(Nat.div_lt_iff_lt_mul hq).2 (by rw [Nat.mul_comm,e64]; exact hl)
  have k5:2 ^ s ≤ 18446744073709551616:=by rw [← e64]; exact Nat.le_mul_of_pos_left _ hq
  have k6:lo * 2 ^ s=lo / 2 ^ (64 - s) * 18446744073709551616 + lo * 2 ^ s % 18446744073709551616:=by
    have e1:lo * 2 ^ s / (2 ^ (64 - s) * 2 ^ s)=lo / 2 ^ (64 - s):=Nat.mul_div_mul_right _ _ hp
    rw [e64] at e1
    have:=Nat.div_add_mod' (lo * 2 ^ s) 18446744073709551616
    rw [e1] at this
    exact this.symm
  rw [e63] at k1
  rw [e64] at k2
  refine ⟨_,_,_,_,_,_,_,_,rfl,k1,k2,rfl,rfl,rfl,by omega,rfl,by omega,rfl,rfl,rfl,?_,?_,by omega⟩
  · rw [Nat.add_mul (hi * 18446744073709551616) lo,Nat.mul_right_comm hi,k6]
    omega
  · exact or_low hi s _ k4
theorem shifted_out {hi lo y s Y a b H U L u1 u0:Nat} (S:Shifted hi lo y s Y a b H U L u1 u0) (hy:0 < y) :
    (U * 4294967296 + u1) / Y * 4294967296 + ((U * 4294967296 + u1) % Y * 4294967296 + u0) / Y=(hi * 18446744073709551616 + lo) / y ∧
    ((U * 4294967296 + u1) % Y * 4294967296 + u0) % Y / 2 ^ s=(hi * 18446744073709551616 + lo) % y:=by
  have hY:0 < Y:=by have:=S.Y1; omega
  obtain ⟨t1,t2⟩:=two_digits 4294967296 (U * 4294967296 + u1) u0 Y hY
  rw [t1,t2,S.all,S.hY]
  have hp:0 < 2 ^ s:=Nat.two_pow_pos s
  exact ⟨Nat.mul_div_mul_right _ _ hp,by rw [Nat.mul_mod_mul_right,Nat.mul_div_cancel _ hp]⟩
theorem digit_lt {U u1 Y:Nat} (h1:U < Y) (h2:u1 < 4294967296):(U * 4294967296 + u1) / Y < 4294967296:=(Nat.div_lt_iff_lt_mul (by omega)).2 (by omega)
end Go.Proofs.YtlngflbamkgjlaaGreat
namespace Go.Proofs.YtlngflbamkgjlaaGreat
open Go.RowKit
set_option linter.unusedVariables false
set_option linter.unusedSimpArgs false
set_option maxRecDepth 100000
theorem cast_eq {a b c d:Nat} (h:a * b + c=d):(a:Int) * (b:Int) + (c:Int)=(d:Int):=by rw [← h]; simp
theorem cast_lt {a b c d:Nat} (h:(4294967296:Int) * (a:Int) + (b:Int) < (c:Int) * (d:Int)):4294967296 * a + b < c * d:=by
  have:((c * d:Nat):Int)=(c:Int) * (d:Int):=by simp
  omega
theorem cast_le {a b c d:Nat} (h:(c:Int) * (d:Int) ≤ (4294967296:Int) * (a:Int) + (b:Int)):c * d ≤ 4294967296 * a + b:=by
  have:((c * d:Nat):Int)=(c:Int) * (d:Int):=by simp
  omega
theorem muls {a b:Nat} (h:(a:Int) * (b:Int) < 18446744073709551616):IntKind.u64.wrap ((a:Int) * (b:Int))=(a:Int) * (b:Int):=by
  have h0:0 ≤ (a:Int) * (b:Int):=Int.mul_nonneg (by omega) (by omega)
  rw [u64_wrap]
  omega
theorem mulm {a b m:Nat} (h:m=a * b % 18446744073709551616):IntKind.u64.wrap ((a:Int) * (b:Int))=(m:Int):=by
  have:((a * b:Nat):Int)=(a:Int) * (b:Int):=by simp
  rw [u64_wrap,h,← this]
  omega
set_option maxRecDepth 100000 in
set_option maxHeartbeats 4000000 in
theorem div64_w (hi lo y:Nat) (w0:World) (h1:hi < y) (hy:y < 18446744073709551616) (hl:lo < 18446744073709551616) :
    Calls Tryz.prog 63 #[.int .u64 (hi:Int),.int .u64 (lo:Int),.int .u64 (y:Int)] w0 (Ret w0 (.tuple #[.int .u64 (((hi * 18446744073709551616 + lo) / y:Nat):Int),.int .u64 (((hi * 18446744073709551616 + lo) % y:Nat):Int)])):=by
 have hy0:0 < y:=by omega
 obtain ⟨b1,b2,b3⟩:=bitLen_bounds y (by omega) hy
 have b4:Lib.bitLen y ≤ 64:=Lib.bitLen_le _ 64 (by omega) hy
 obtain ⟨s,hs⟩:∃ s:Nat,(64:Int) - (Lib.bitLen y:Int)=s:=⟨64 - Lib.bitLen y,by omega⟩
 have hs64:s < 64:=by omega
 have g1:63 - s=Lib.bitLen y - 1:=by omega
 have g2:64 - s=Lib.bitLen y:=by omega
 rw [← g1] at b1
 rw [← g2] at b2
 obtain ⟨Yn,an,bn,Hn,Un,Ln,u1n,u0n,S⟩:=shifted hi lo y s h1 b1 b2 hs64 hl
 have lead_s:∀ w:World,Calls Tryz.prog 82 #[.int .u64 (y:Int)] w (Ret w (.int .i64 (s:Int))):=fun w=>(bits_LeadingZeros64 (y:Int) w (by omega) (by omega)).mono fun e w' hh=>⟨by rw [hh.1,← hs,Int.toNat_natCast],hh.2 ▸ Below.refl _ _⟩
 have S1:=S.Y1; have S2:=S.Y2; have S3:=S.ha; have S4:=S.hb; have S5:=S.HY; have S6:=S.UY; have S7:=S.hL; have S8:=S.h1; have S9:=S.h0; have S10:=S.lo2
 obtain ⟨l2,hl2⟩:∃ l2:Nat,l2=lo / 2 ^ (64 - s):=⟨_,rfl⟩
 have I:KnuthIn Un u1n an bn:=⟨by omega,by omega,by omega,by omega,by omega⟩
 obtain ⟨qn,hqn⟩:∃ q:Nat,q=Un / an:=⟨_,rfl⟩
 obtain ⟨rn,hrn⟩:∃ q:Nat,q=Un % an:=⟨_,rfl⟩
 have hqr:=Nat.div_add_mod' Un an
 rw [← hqn,← hrn] at hqr
 have hrl:=Nat.mod_lt Un (show an > 0 by omega)
 rw [← hrn] at hrl
 have K0:Knuth Un u1n an bn qn rn:=by rw [hqn,hrn]; exact Knuth.start I
 have K0t:=K0.top
 obtain ⟨Q1,hQ1⟩:∃ q:Nat,q=(Un * 4294967296 + u1n) / Yn:=⟨_,rfl⟩
 obtain ⟨R1,hR1⟩:∃ q:Nat,q=(Un * 4294967296 + u1n) % Yn:=⟨_,rfl⟩
 have hQR:=Nat.div_add_mod' (Un * 4294967296 + u1n) Yn
 rw [← hQ1,← hR1] at hQR
 have hRl:=Nat.mod_lt (Un * 4294967296 + u1n) (show Yn > 0 by omega)
 rw [← hR1] at hRl
 have hQl:Q1 < 4294967296:=by rw [hQ1]; exact digit_lt S6 (by omega)
 have hYn:an * 4294967296 + bn=Yn:=by omega
 have I2:KnuthIn R1 u0n an bn:=⟨by omega,by omega,by omega,by omega,by omega⟩
 obtain ⟨qm,hqm⟩:∃ q:Nat,q=R1 / an:=⟨_,rfl⟩
 obtain ⟨rm,hrm⟩:∃ q:Nat,q=R1 % an:=⟨_,rfl⟩
 have hqr2:=Nat.div_add_mod' R1 an
 rw [← hqm,← hrm] at hqr2
 have hrl2:=Nat.mod_lt R1 (show an > 0 by omega)
 rw [← hrm] at hrl2
 have K1:Knuth R1 u0n an bn qm rm:=by rw [hqm,hrm]; exact Knuth.start I2
 have K1t:=K1.top
 obtain ⟨Q0_,hQ0⟩:∃ q:Nat,q=(R1 * 4294967296 + u0n) / Yn:=⟨_,rfl⟩
 obtain ⟨R0_,hR0⟩:∃ q:Nat,q=(R1 * 4294967296 + u0n) % Yn:=⟨_,rfl⟩
 have hQR0:=Nat.div_add_mod' (R1 * 4294967296 + u0n) Yn
 rw [← hQ0,← hR0] at hQR0
 have hRl0:=Nat.mod_lt (R1 * 4294967296 + u0n) (show Yn > 0 by omega)
 rw [← hR0] at hRl0
 have hQl0:Q0_ < 4294967296:=by rw [hQ0]; exact digit_lt hRl (by omega)
 have hout:=shifted_out S hy0
 rw [← hQ1,← hR1,← hQ0,← hR0] at hout
 obtain ⟨m87,h87⟩:∃ m:Nat,m=Un * 4294967296 % 18446744073709551616:=⟨_,rfl⟩
 obtain ⟨m89,h89⟩:∃ m:Nat,m=(m87 + u1n) % 18446744073709551616:=⟨_,rfl⟩
 obtain ⟨m92,h92⟩:∃ m:Nat,m=Q1 * Yn % 18446744073709551616:=⟨_,rfl⟩
 obtain ⟨m126,h126⟩:∃ m:Nat,m=R1 * 4294967296 % 18446744073709551616:=⟨_,rfl⟩
 obtain ⟨m128,h128⟩:∃ m:Nat,m=(m126 + u0n) % 18446744073709551616:=⟨_,rfl⟩
 obtain ⟨m131,h131⟩:∃ m:Nat,m=Q0_ * Yn % 18446744073709551616:=⟨_,rfl⟩
 obtain ⟨f0,hf0⟩:∃ m:Nat,m=R0_ / 2 ^ s:=⟨_,rfl⟩
 rw [← hf0] at hout
 clear b1 b2 b3 b4 g1 g2
 refine enterK 135 Tryz.func63 rfl rfl rfl ?_
 intro a hF Q0 hR0 hN0
 have hM:=Mem.start w0
 refine wp_seq_k fun K1 hK1=>wp_region_lit (xB 2 [(6,.int .u64 0),(7,.int .u64 0)] hF fun a hF=>wpList_nil (hK1 _ _ (wp_seq_k fun K2 hK2=>wp_seq_k fun K3 hK3=>wp_region_lit (xB 1 [(19,.int .u64 (y:Int))] hF fun a hF=>wl (xP 20 (v0:=.bool (decide ((y:Int)=0))) (v:=.bool false) hF (bF (by omega)) fun a hF=>wpList_nil (hK3 _ _ ?_))))))
 refine xF hF (wp_skip (hK2 _ _ (wp_seq_k fun K4 hK4=>wp_seq_k fun K5 hK5=>wp_region_lit (xB 2 [(22,.int .u64 (y:Int)),(23,.int .u64 (hi:Int))] hF fun a hF=>wl (xP 24 (v0:=.bool (decide ((y:Int) ≤ (hi:Int)))) (v:=.bool false) hF (bF (by omega)) fun a hF=>wpList_nil (hK5 _ _ (xF hF (wp_skip ?_))))))))
 refine hK4 _ _ (wp_seq_k fun K6 hK6=>wp_seq_k fun K7 hK7=>wp_region_lit (xB 2 [(26,.int .u64 (hi:Int)),(27,.bool (decide ((hi:Int)=0)))] hF fun a hF=>wpList_nil (hK7 _ _ ?_)))
 by_cases hz1:(hi:Int)=0
 ·replace hF:=hF.c hF (i:=27) (v:=.bool true) rfl (bT hz1)
  refine xT hF (wp_seq_k fun K8 hK8=>rQ hM (by kernel_rfl) (by kernel_rfl) (xQ 28 (v0:=.int .u64 (lo:Int)) (v:=.int .u64 (lo:Int)) hF rfl fun a hF=>xQ 29 (v0:=.int .u64 (y:Int)) (v:=.int .u64 (y:Int)) hF rfl fun a hF=>xR 30 (v:=.int .u64 ((lo:Int) / (y:Int))) hF (yld_quo (lo:Int) (y:Int) hF rfl (by kernel_rfl) (by kernel_rfl) (by kernel_rfl) (by omega) (qpos_u64 (by omega) (by omega) (by omega))) fun a hF=>?_))
  have:=ediv_le_self_of (p:=(lo:Int)) (q:=(y:Int)) (by omega) (by omega)
  refine xQ 31 (v0:=.int .u64 (lo:Int)) (v:=.int .u64 (lo:Int)) hF rfl fun a hF=>xQ 32 (v0:=.int .u64 (y:Int)) (v:=.int .u64 (y:Int)) hF rfl fun a hF=>xR 33 (v:=.int .u64 ((lo:Int) % (y:Int))) hF (yld_rem (lo:Int) (y:Int) hF rfl (by kernel_rfl) (by kernel_rfl) (by kernel_rfl) (by omega) (Int.tmod_eq_emod_of_nonneg (by omega))) fun a hF=>?_
  have:=emod_bd (p:=(lo:Int)) (q:=(y:Int)) (by omega) (by omega)
  refine xQ 6 (v0:=.int .u64 ((lo:Int) / (y:Int))) (v:=.int .u64 ((lo:Int) / (y:Int))) hF rfl fun a hF=>xQ 7 (v0:=.int .u64 ((lo:Int) % (y:Int))) (v:=.int .u64 ((lo:Int) % (y:Int))) hF rfl fun a hF=>wpQuiet_nil ?_
  intro w hM
  refine hK8 _ _ (wp_ret (hR0 _ _ (ret_of hF hM (.tmp rfl (.tmp rfl (.nil))) ?_)))
  have hh0:hi=0:=by omega
  subst hh0
  exact ⟨ret_eq (by simp [pack]),hM.bel⟩
 replace hF:=hF.c hF (i:=27) (v:=.bool false) rfl (bF hz1)
 refine xF hF (wp_skip (hK6 _ _ (wp_seq_k fun K9 hK9=>wp_region_lit (xB 1 [(34,.int .u64 (y:Int))] hF fun a hF=>wl (xM 35 (v:=iv (s:Int)) hF hM (xC 82 #[.int .u64 (y:Int)] hF (fun w hM=>lead_s w)) fun a w hF hM=>wl (xP 36 (v0:=.int .u64 (IntKind.u64.wrap (s:Int))) (v:=.int .u64 (s:Int)) hF (vi (IntWalk.u64_in _ (by omega))) fun a hF=>xB 1 [(8,.int .u64 (s:Int))] hF fun a hF=>wpList_nil (hK9 _ _ (wp_seq_k fun K10 hK10=>?_))))))))
 refine wp_region_lit (xB 2 [(37,.int .u64 (y:Int)),(38,.int .u64 (s:Int))] hF fun a hF=>wl (xM 39 (v:=.int .u64 (Yn:Int)) hF hM (yld_shl (yk:=.u64) (y:Int) (s:Int) hF rfl (by kernel_rfl) (by kernel_rfl) (by kernel_rfl) (by omega) (shlN y s Yn (by omega) (by omega) S.hY S2)) fun a w hF hM=>xB 1 [(2,.int .u64 (Yn:Int))] hF fun a hF=>wpList_nil (hK10 _ _ (wp_seq_k fun K11 hK11=>wp_region_lit (xB 1 [(40,.int .u64 (Yn:Int))] hF fun a hF=>wl (xM 41 (v:=.int .u64 (an:Int)) hF hM (yld_shr (yk:=.u64) (Yn:Int) 32 hF rfl (by kernel_rfl) (by kernel_rfl) (by kernel_rfl) (by omega) (shrN Yn 32 an (by decide) (by decide) S3)) fun a w hF hM=>xB 1 [(9,.int .u64 (an:Int))] hF fun a hF=>wpList_nil ?_))))))
 refine hK11 _ _ (wp_seq_k fun K12 hK12=>wp_region_lit (xB 1 [(42,.int .u64 (Yn:Int))] hF fun a hF=>wl (xP 43 (v0:=.int .u64 (IntKind.u64.wrap ((BitVec.ofInt 64 (Yn:Int) &&& BitVec.ofInt 64 4294967295).toNat:Int))) (v:=.int .u64 (bn:Int)) hF (vi (andMask Yn bn S2 S4)) fun a hF=>xB 1 [(10,.int .u64 (bn:Int))] hF fun a hF=>wpList_nil (hK12 _ _ (wp_seq_k fun K13 hK13=>wp_region_lit (xB 2 [(44,.int .u64 (hi:Int)),(45,.int .u64 (s:Int))] hF fun a hF=>wl (xM 46 (v:=.int .u64 (Hn:Int)) hF hM (yld_shl (yk:=.u64) (hi:Int) (s:Int) hF rfl (by kernel_rfl) (by kernel_rfl) (by kernel_rfl) (by omega) (shlN hi s Hn (by omega) (by omega) S.hH (by omega))) fun a w hF hM=>?_)))))))
 refine xB 2 [(47,.int .u64 (lo:Int)),(48,.int .u64 (s:Int))] hF fun a hF=>wl (xP 49 (v0:=.int .u64 (IntKind.u64.wrap (64 - (s:Int)))) (v:=.int .u64 (64 - (s:Int))) hF (vi (IntWalk.u64_in _ (by omega))) fun a hF=>wl (xM 50 (v:=.int .u64 (l2:Int)) hF hM (yld_shr (yk:=.u64) (lo:Int) (64 - (s:Int)) hF rfl (by kernel_rfl) (by kernel_rfl) (by kernel_rfl) (by omega) (shrN lo (64 - s) l2 (by omega) (by omega) hl2)) fun a w hF hM=>wl (xP 51 (v0:=.int .u64 (IntKind.u64.wrap ((BitVec.ofInt 64 (Hn:Int) ||| BitVec.ofInt 64 (l2:Int)).toNat:Int))) (v:=.int .u64 (Un:Int)) hF (vi (orN Hn l2 Un (by omega) (by omega) (by rw [hl2]; exact S.or))) fun a hF=>xB 1 [(11,.int .u64 (Un:Int))] hF fun a hF=>wpList_nil (hK13 _ _ (wp_seq_k fun K14 hK14=>wp_region_lit (xB 2 [(52,.int .u64 (lo:Int)),(53,.int .u64 (s:Int))] hF fun a hF=>wl (xM 54 (v:=.int .u64 (Ln:Int)) hF hM (yld_shl (yk:=.u64) (lo:Int) (s:Int) hF rfl (by kernel_rfl) (by kernel_rfl) (by kernel_rfl) (by omega) (shlM lo s Ln (by omega) (by omega) S7)) fun a w hF hM=>xB 1 [(12,.int .u64 (Ln:Int))] hF fun a hF=>?_)))))))
 refine wpList_nil (hK14 _ _ (wp_seq_k fun K15 hK15=>wp_region_lit (xB 1 [(55,.int .u64 (Ln:Int))] hF fun a hF=>wl (xM 56 (v:=.int .u64 (u1n:Int)) hF hM (yld_shr (yk:=.u64) (Ln:Int) 32 hF rfl (by kernel_rfl) (by kernel_rfl) (by kernel_rfl) (by omega) (shrN Ln 32 u1n (by decide) (by decide) S8)) fun a w hF hM=>xB 1 [(13,.int .u64 (u1n:Int))] hF fun a hF=>wpList_nil (hK15 _ _ (wp_seq_k fun K16 hK16=>wp_region_lit (xB 1 [(57,.int .u64 (Ln:Int))] hF fun a hF=>?_)))))))
 refine wl (xP 58 (v0:=.int .u64 (IntKind.u64.wrap ((BitVec.ofInt 64 (Ln:Int) &&& BitVec.ofInt 64 4294967295).toNat:Int))) (v:=.int .u64 (u0n:Int)) hF (vi (andMask Ln u0n (by omega) S9)) fun a hF=>xB 1 [(14,.int .u64 (u0n:Int))] hF fun a hF=>wpList_nil (hK16 _ _ (wp_seq_k fun K17 hK17=>wp_region_lit (xB 2 [(59,.int .u64 (Un:Int)),(60,.int .u64 (an:Int))] hF fun a hF=>wl (xM 61 (v:=.int .u64 (qn:Int)) hF hM (yld_quo (Un:Int) (an:Int) hF rfl (by kernel_rfl) (by kernel_rfl) (by kernel_rfl) (by omega) (by rw [qpos_u64 (by omega) (by omega) (by omega),hqn]; rfl)) fun a w hF hM=>xB 1 [(15,.int .u64 (qn:Int))] hF fun a hF=>wpList_nil (hK17 _ _ (wp_seq_k fun K18 hK18=>?_)))))))
 refine wp_region_lit (xB 3 [(62,.int .u64 (Un:Int)),(63,.int .u64 (qn:Int)),(64,.int .u64 (an:Int))] hF fun a hF=>wl (xP 65 (v0:=.int .u64 (IntKind.u64.wrap ((qn:Int) * (an:Int)))) (v:=.int .u64 ((qn:Int) * (an:Int))) hF (vi (muls (by have:=cast_eq hqr; omega))) fun a hF=>wl (xP 66 (v0:=.int .u64 (IntKind.u64.wrap ((Un:Int) - (qn:Int) * (an:Int)))) (v:=.int .u64 (rn:Int)) hF (vi (by rw [u64_wrap]; have:=cast_eq hqr; omega)) fun a hF=>xB 1 [(16,.int .u64 (rn:Int))] hF fun a hF=>wpList_nil (hK18 _ _ (wp_seq_k fun K19 hK19=>?_)))))
 have hJ19:∀ (a:Act) (w:World),Fr 135 [(15,some (.int .u64 (Q1:Int))),(2,some (.int .u64 (Yn:Int))),(6,some (.int .u64 0)),(7,some (.int .u64 0)),(8,some (.int .u64 (s:Int))),(9,some (.int .u64 (an:Int))),(10,some (.int .u64 (bn:Int))),(11,some (.int .u64 (Un:Int))),(13,some (.int .u64 (u1n:Int))),(14,some (.int .u64 (u0n:Int)))] a → Mem w0.heap.size w0 [] w → K19 a w:=by
  intro a w hF hM
  refine hK19 _ _ (wp_seq_k fun K20 hK20=>wp_region_lit (xB 1 [(86,.int .u64 (Un:Int))] hF fun a hF=>wl (xP 87 (v0:=.int .u64 (IntKind.u64.wrap ((Un:Int) * 4294967296))) (v:=.int .u64 (m87:Int)) hF (vi (by rw [u64_wrap]; omega)) fun a hF=>xB 1 [(88,.int .u64 (u1n:Int))] hF fun a hF=>wl (xP 89 (v0:=.int .u64 (IntKind.u64.wrap ((m87:Int) + (u1n:Int)))) (v:=.int .u64 (m89:Int)) hF (vi (by rw [u64_wrap]; omega)) fun a hF=>xB 2 [(90,.int .u64 (Q1:Int)),(91,.int .u64 (Yn:Int))] hF fun a hF=>wl (xP 92 (v0:=.int .u64 (IntKind.u64.wrap ((Q1:Int) * (Yn:Int)))) (v:=.int .u64 (m92:Int)) hF (vi (mulm h92)) fun a hF=>wl (xP 93 (v0:=.int .u64 (IntKind.u64.wrap ((m89:Int) - (m92:Int)))) (v:=.int .u64 (R1:Int)) hF (vi (by rw [u64_wrap]; omega)) fun a hF=>xB 1 [(17,.int .u64 (R1:Int))] hF fun a hF=>wpList_nil ?_))))))
  refine hK20 _ _ (wp_seq_k fun K21 hK21=>wp_region_lit (xB 2 [(94,.int .u64 (R1:Int)),(95,.int .u64 (an:Int))] hF fun a hF=>wl (xM 96 (v:=.int .u64 (qm:Int)) hF hM (yld_quo (R1:Int) (an:Int) hF rfl (by kernel_rfl) (by kernel_rfl) (by kernel_rfl) (by omega) (by rw [qpos_u64 (by omega) (by omega) (by omega),hqm]; rfl)) fun a w hF hM=>xB 1 [(18,.int .u64 (qm:Int))] hF fun a hF=>wpList_nil (hK21 _ _ (wp_seq_k fun K22 hK22=>wp_region_lit (xB 3 [(97,.int .u64 (R1:Int)),(98,.int .u64 (qm:Int)),(99,.int .u64 (an:Int))] hF fun a hF=>wl (xP 100 (v0:=.int .u64 (IntKind.u64.wrap ((qm:Int) * (an:Int)))) (v:=.int .u64 ((qm:Int) * (an:Int))) hF (vi (muls (by have:=cast_eq hqr2; omega))) fun a hF=>?_)))))))
  refine wl (xP 101 (v0:=.int .u64 (IntKind.u64.wrap ((R1:Int) - (qm:Int) * (an:Int)))) (v:=.int .u64 (rm:Int)) hF (vi (by rw [u64_wrap]; have:=cast_eq hqr2; omega)) fun a hF=>xB 1 [(16,.int .u64 (rm:Int))] hF fun a hF=>wpList_nil (hK22 _ _ (wp_seq_k fun K23 hK23=>?_)))
  have hJ23:∀ (a:Act) (w:World),Fr 135 [(18,some (.int .u64 (Q0_:Int))),(2,some (.int .u64 (Yn:Int))),(6,some (.int .u64 0)),(7,some (.int .u64 0)),(8,some (.int .u64 (s:Int))),(14,some (.int .u64 (u0n:Int))),(15,some (.int .u64 (Q1:Int))),(17,some (.int .u64 (R1:Int)))] a → Mem w0.heap.size w0 [] w → K23 a w:=by
   intro a w hF hM
   refine hK23 _ _ (wp_seq_k fun K24 hK24=>wp_region_lit (xB 1 [(121,.int .u64 (Q1:Int))] hF fun a hF=>wl (xP 122 (v0:=.int .u64 (IntKind.u64.wrap ((Q1:Int) * 4294967296))) (v:=.int .u64 ((Q1:Int) * 4294967296)) hF (vi (IntWalk.u64_in _ (by omega))) fun a hF=>xB 1 [(123,.int .u64 (Q0_:Int))] hF fun a hF=>wl (xP 124 (v0:=.int .u64 (IntKind.u64.wrap ((Q1:Int) * 4294967296 + (Q0_:Int)))) (v:=.int .u64 ((Q1:Int) * 4294967296 + (Q0_:Int))) hF (vi (IntWalk.u64_in _ (by omega))) fun a hF=>xB 1 [(125,.int .u64 (R1:Int))] hF fun a hF=>wl (xP 126 (v0:=.int .u64 (IntKind.u64.wrap ((R1:Int) * 4294967296))) (v:=.int .u64 (m126:Int)) hF (vi (by rw [u64_wrap]; omega)) fun a hF=>xB 1 [(127,.int .u64 (u0n:Int))] hF fun a hF=>wl (xP 128 (v0:=.int .u64 (IntKind.u64.wrap ((m126:Int) + (u0n:Int)))) (v:=.int .u64 (m128:Int)) hF (vi (by rw [u64_wrap]; omega)) fun a hF=>xB 2 [(129,.int .u64 (Q0_:Int)),(130,.int .u64 (Yn:Int))] hF fun a hF=>?_))))))
   refine wl (xP 131 (v0:=.int .u64 (IntKind.u64.wrap ((Q0_:Int) * (Yn:Int)))) (v:=.int .u64 (m131:Int)) hF (vi (mulm h131)) fun a hF=>wl (xP 132 (v0:=.int .u64 (IntKind.u64.wrap ((m128:Int) - (m131:Int)))) (v:=.int .u64 (R0_:Int)) hF (vi (by rw [u64_wrap]; omega)) fun a hF=>xB 1 [(133,.int .u64 (s:Int))] hF fun a hF=>wl (xM 134 (v:=.int .u64 (f0:Int)) hF hM (yld_shr (yk:=.u64) (R0_:Int) (s:Int) hF rfl (by kernel_rfl) (by kernel_rfl) (by kernel_rfl) (by omega) (shrN R0_ s f0 (by omega) (by omega) hf0)) fun a w hF hM=>xB 2 [(6,.int .u64 ((Q1:Int) * 4294967296 + (Q0_:Int))),(7,.int .u64 (f0:Int))] hF fun a hF=>wpList_nil (hK24 _ _ (wp_ret (hR0 _ _ (ret_of hF hM (.tmp rfl (.tmp rfl (.nil))) (⟨ret_eq (by rw [← hout.1,← hout.2]; simp [pack]),hM.bel⟩))))))))
  refine wp_block (wp_loop_k (G:=Nat × Nat) (fun gg a w=>Fr 135 [(16,some (.int .u64 (gg.2:Int))),(18,some (.int .u64 (gg.1:Int))),(2,some (.int .u64 (Yn:Int))),(6,some (.int .u64 0)),(7,some (.int .u64 0)),(8,some (.int .u64 (s:Int))),(9,some (.int .u64 (an:Int))),(10,some (.int .u64 (bn:Int))),(14,some (.int .u64 (u0n:Int))),(15,some (.int .u64 (Q1:Int))),(17,some (.int .u64 (R1:Int)))] a ∧ Mem w0.heap.size w0 [] w ∧ (Knuth R1 u0n an bn gg.1 gg.2) ∧ ((gg.1:Int) ≤ 4294967297) ∧ ((gg.2:Int) < 4294967296) ∧ (0 ≤ (gg.1:Int))) (fun gg=>gg.1) (qm,rm) ?_ ?_)
  ·refine ⟨((((((((((((Fr.nil hF).c hF (i:=17) rfl rfl).c hF (i:=15) rfl rfl).c hF (i:=14) rfl rfl).c hF (i:=10) rfl rfl).c hF (i:=9) rfl rfl).c hF (i:=8) rfl rfl).c hF (i:=7) rfl rfl).c hF (i:=6) rfl rfl).c hF (i:=2) rfl rfl).c hF (i:=18) rfl rfl).c hF (i:=16) rfl rfl),(hM.sub Sub.nil),(show Knuth R1 u0n an bn qm rm from by assumption),(show (qm:Int) ≤ 4294967297 from by omega),(show (rm:Int) < 4294967296 from by omega),(show 0 ≤ (qm:Int) from by omega)⟩
  ·intro gg a w hI
   intro K25 hK25
   obtain ⟨q,r⟩:=gg
   try dsimp only at hI hK25
   obtain ⟨hF,hM,hz2,hz3,hz4,hz5⟩:=hI
   have K:Knuth R1 u0n an bn q r:=by assumption
   refine wp_seq_k fun K26 hK26=>wp_seq_k fun K27 hK27=>?_
   by_cases hz6:4294967296 ≤ (q:Int)
   ·skip
    refine wp_region_lit (xB 1 [(102,.int .u64 (q:Int))] hF fun a hF=>wl (xP 103 (v0:=.bool (decide (4294967296 ≤ (q:Int)))) (v:=.bool true) hF (bT hz6) fun a hF=>xB 10 [(104,.bool true),(105,undef),(106,undef),(107,undef),(108,undef),(109,undef),(110,undef),(111,undef),(112,undef),(113,.bool true)] hF fun a hF=>wpList_nil (hK27 _ _ (xT hF (wp_skip (hK26 _ _ (wp_block (wp_seq_k fun K28 hK28=>?_))))))))
    have hst:=K.step I2 (.inl (by omega))
    refine wp_region_lit (xB 1 [(114,.int .u64 (q:Int))] hF fun a hF=>wl (xP 115 (v0:=.int .u64 (IntKind.u64.wrap ((q:Int) - 1))) (v:=.int .u64 ((q:Int) - 1)) hF (vi (IntWalk.u64_in _ (by omega))) fun a hF=>xB 1 [(18,.int .u64 ((q:Int) - 1))] hF fun a hF=>wpList_nil (hK28 _ _ (wp_seq_k fun K29 hK29=>wp_region_lit (xB 2 [(116,.int .u64 (r:Int)),(117,.int .u64 (an:Int))] hF fun a hF=>wl (xP 118 (v0:=.int .u64 (IntKind.u64.wrap ((r:Int) + (an:Int)))) (v:=.int .u64 ((r:Int) + (an:Int))) hF (vi (IntWalk.u64_in _ (by omega))) fun a hF=>xB 1 [(16,.int .u64 ((r:Int) + (an:Int)))] hF fun a hF=>wpList_nil ?_))))))
    refine hK29 _ _ (wp_seq_k fun K30 hK30=>wp_region_lit (xB 2 [(119,.int .u64 ((r:Int) + (an:Int))),(120,.bool (decide (4294967296 ≤ (r:Int) + (an:Int))))] hF fun a hF=>wpList_nil (hK30 _ _ ?_)))
    by_cases hz7:4294967296 ≤ (r:Int) + (an:Int)
    ·skip
     replace hF:=hF.c hF (i:=120) (v:=.bool true) rfl (bT hz7)
     refine xT hF (wp_exit ?_)
     have hfin:q - 1=Q0_:=by rw [hQ0,← hYn]; exact hst.2.2.out I2 (by omega) (by omega)
     exact hJ23  _ _ (((((((((Fr.nil hF).c hF (i := 17) rfl rfl).c hF (i := 15) rfl rfl).c hF (i := 14) rfl rfl).c hF (i := 8) rfl rfl).c hF (i := 7) rfl rfl).c hF (i := 6) rfl rfl).c hF (i := 2) rfl rfl).c hF (i := 18) rfl (vi (show ((q : Int) - 1 : Int) = (Q0_ : Int) from by omega))) (hM.sub Sub.nil)
    ·skip
     replace hF:=hF.c hF (i:=120) (v:=.bool false) rfl (bF hz7)
     refine xF hF (wp_skip ?_)
     obtain ⟨q2,hq2⟩:∃ m:Nat,m=q - 1:=⟨_,rfl⟩
     refine hK25 _ _ ⟨(q2,r + an),⟨((((((((((((Fr.nil hF).c hF (i:=17) rfl rfl).c hF (i:=15) rfl rfl).c hF (i:=14) rfl rfl).c hF (i:=10) rfl rfl).c hF (i:=9) rfl rfl).c hF (i:=8) rfl rfl).c hF (i:=7) rfl rfl).c hF (i:=6) rfl rfl).c hF (i:=2) rfl rfl).c hF (i:=18) rfl (vi (show ((q:Int) - 1:Int)=(q2:Int) from by omega))).c hF (i:=16) rfl (vi (show ((r:Int) + (an:Int):Int)=((r + an):Int) from by omega))),(hM.sub Sub.nil),(show Knuth R1 u0n an bn q2 (r + an) from by rw [hq2]; exact hst.2.2),(show (q2:Int) ≤ 4294967297 from by omega),(show ((r + an):Int) < 4294967296 from by omega),(show 0 ≤ (q2:Int) from by omega)⟩,(show q2 < q from by omega)⟩
   ·skip
    refine wp_region_lit (xB 1 [(102,.int .u64 (q:Int))] hF fun a hF=>wl (xP 103 (v0:=.bool (decide (4294967296 ≤ (q:Int)))) (v:=.bool false) hF (bF hz6) fun a hF=>xB 3 [(104,.bool false),(105,.int .u64 (q:Int)),(106,.int .u64 (bn:Int))] hF fun a hF=>?_))
    have hz8:0 ≤ (q:Int) * (bn:Int) ∧ (q:Int) * (bn:Int) ≤ 18446744065119617025:=mul_bd (0) (4294967295) (0) (4294967295) (by omega) (by omega) (by omega) (by omega) (by decide)
    refine wl (xP 107 (v0:=.int .u64 (IntKind.u64.wrap ((q:Int) * (bn:Int)))) (v:=.int .u64 ((q:Int) * (bn:Int))) hF (vi (IntWalk.u64_in _ (by omega))) fun a hF=>xB 1 [(108,.int .u64 (r:Int))] hF fun a hF=>wl (xP 109 (v0:=.int .u64 (IntKind.u64.wrap (4294967296 * (r:Int)))) (v:=.int .u64 (4294967296 * (r:Int))) hF (vi (IntWalk.u64_in _ (by omega))) fun a hF=>xB 1 [(110,.int .u64 (u0n:Int))] hF fun a hF=>wl (xP 111 (v0:=.int .u64 (IntKind.u64.wrap (4294967296 * (r:Int) + (u0n:Int)))) (v:=.int .u64 (4294967296 * (r:Int) + (u0n:Int))) hF (vi (IntWalk.u64_in _ (by omega))) fun a hF=>xB 2 [(112,.bool (decide (4294967296 * (r:Int) + (u0n:Int) < (q:Int) * (bn:Int)))),(113,.bool (decide (4294967296 * (r:Int) + (u0n:Int) < (q:Int) * (bn:Int))))] hF fun a hF=>wpList_nil (hK27 _ _ ?_))))
    by_cases hz9:4294967296 * (r:Int) + (u0n:Int) < (q:Int) * (bn:Int)
    ·skip
     replace hF:=hF.c hF (i:=112) (v:=.bool true) rfl (bT hz9)
     replace hF:=hF.c hF (i:=113) (v:=.bool true) rfl (bT hz9)
     refine xT hF (wp_skip (hK26 _ _ (wp_block (wp_seq_k fun K31 hK31=>?_))))
     have hst:=K.step I2 (.inr (cast_lt hz9))
     refine wp_region_lit (xB 1 [(114,.int .u64 (q:Int))] hF fun a hF=>wl (xP 115 (v0:=.int .u64 (IntKind.u64.wrap ((q:Int) - 1))) (v:=.int .u64 ((q:Int) - 1)) hF (vi (IntWalk.u64_in _ (by omega))) fun a hF=>xB 1 [(18,.int .u64 ((q:Int) - 1))] hF fun a hF=>wpList_nil (hK31 _ _ (wp_seq_k fun K32 hK32=>wp_region_lit (xB 2 [(116,.int .u64 (r:Int)),(117,.int .u64 (an:Int))] hF fun a hF=>wl (xP 118 (v0:=.int .u64 (IntKind.u64.wrap ((r:Int) + (an:Int)))) (v:=.int .u64 ((r:Int) + (an:Int))) hF (vi (IntWalk.u64_in _ (by omega))) fun a hF=>xB 1 [(16,.int .u64 ((r:Int) + (an:Int)))] hF fun a hF=>wpList_nil ?_))))))
     refine hK32 _ _ (wp_seq_k fun K33 hK33=>wp_region_lit (xB 2 [(119,.int .u64 ((r:Int) + (an:Int))),(120,.bool (decide (4294967296 ≤ (r:Int) + (an:Int))))] hF fun a hF=>wpList_nil (hK33 _ _ ?_)))
     by_cases hz10:4294967296 ≤ (r:Int) + (an:Int)
     ·skip
      replace hF:=hF.c hF (i:=120) (v:=.bool true) rfl (bT hz10)
      refine xT hF (wp_exit ?_)
      have hfin:q - 1=Q0_:=by rw [hQ0,← hYn]; exact hst.2.2.out I2 (by omega) (by omega)
      exact hJ23  _ _ (((((((((Fr.nil hF).c hF (i := 17) rfl rfl).c hF (i := 15) rfl rfl).c hF (i := 14) rfl rfl).c hF (i := 8) rfl rfl).c hF (i := 7) rfl rfl).c hF (i := 6) rfl rfl).c hF (i := 2) rfl rfl).c hF (i := 18) rfl (vi (show ((q : Int) - 1 : Int) = (Q0_ : Int) from by omega))) (hM.sub Sub.nil)
     ·skip
      replace hF:=hF.c hF (i:=120) (v:=.bool false) rfl (bF hz10)
      refine xF hF (wp_skip ?_)
      obtain ⟨q2,hq2⟩:∃ m:Nat,m=q - 1:=⟨_,rfl⟩
      refine hK25 _ _ ⟨(q2,r + an),⟨((((((((((((Fr.nil hF).c hF (i:=17) rfl rfl).c hF (i:=15) rfl rfl).c hF (i:=14) rfl rfl).c hF (i:=10) rfl rfl).c hF (i:=9) rfl rfl).c hF (i:=8) rfl rfl).c hF (i:=7) rfl rfl).c hF (i:=6) rfl rfl).c hF (i:=2) rfl rfl).c hF (i:=18) rfl (vi (show ((q:Int) - 1:Int)=(q2:Int) from by omega))).c hF (i:=16) rfl (vi (show ((r:Int) + (an:Int):Int)=((r + an):Int) from by omega))),(hM.sub Sub.nil),(show Knuth R1 u0n an bn q2 (r + an) from by rw [hq2]; exact hst.2.2),(show (q2:Int) ≤ 4294967297 from by omega),(show ((r + an):Int) < 4294967296 from by omega),(show 0 ≤ (q2:Int) from by omega)⟩,(show q2 < q from by omega)⟩
    ·skip
     replace hF:=hF.c hF (i:=112) (v:=.bool false) rfl (bF hz9)
     replace hF:=hF.c hF (i:=113) (v:=.bool false) rfl (bF hz9)
     refine xF hF (wp_exit ?_)
     have hfin:q=Q0_:=by rw [hQ0,← hYn]; exact K.stop I2 (cast_le (Int.not_lt.1 hz9))
     exact hJ23  _ _ (((((((((Fr.nil hF).c hF (i := 17) rfl rfl).c hF (i := 15) rfl rfl).c hF (i := 14) rfl rfl).c hF (i := 8) rfl rfl).c hF (i := 7) rfl rfl).c hF (i := 6) rfl rfl).c hF (i := 2) rfl rfl).c hF (i := 18) rfl (vi (show ((q : Int) : Int) = (Q0_ : Int) from by omega))) (hM.sub Sub.nil)
 refine wp_block (wp_loop_k (G:=Nat × Nat) (fun gg a w=>Fr 135 [(15,some (.int .u64 (gg.1:Int))),(16,some (.int .u64 (gg.2:Int))),(2,some (.int .u64 (Yn:Int))),(6,some (.int .u64 0)),(7,some (.int .u64 0)),(8,some (.int .u64 (s:Int))),(9,some (.int .u64 (an:Int))),(10,some (.int .u64 (bn:Int))),(11,some (.int .u64 (Un:Int))),(13,some (.int .u64 (u1n:Int))),(14,some (.int .u64 (u0n:Int)))] a ∧ Mem w0.heap.size w0 [] w ∧ (Knuth Un u1n an bn gg.1 gg.2) ∧ ((gg.1:Int) ≤ 4294967297) ∧ ((gg.2:Int) < 4294967296) ∧ (0 ≤ (gg.1:Int))) (fun gg=>gg.1) (qn,rn) ?_ ?_)
 ·refine ⟨((((((((((((Fr.nil hF).c hF (i:=14) rfl rfl).c hF (i:=13) rfl rfl).c hF (i:=11) rfl rfl).c hF (i:=10) rfl rfl).c hF (i:=9) rfl rfl).c hF (i:=8) rfl rfl).c hF (i:=7) rfl rfl).c hF (i:=6) rfl rfl).c hF (i:=2) rfl rfl).c hF (i:=16) rfl rfl).c hF (i:=15) rfl rfl),(hM.sub Sub.nil),(show Knuth Un u1n an bn qn rn from by assumption),(show (qn:Int) ≤ 4294967297 from by omega),(show (rn:Int) < 4294967296 from by omega),(show 0 ≤ (qn:Int) from by omega)⟩
 intro gg a w hI
 intro K34 hK34
 obtain ⟨q,r⟩:=gg
 try dsimp only at hI hK34
 obtain ⟨hF,hM,hz11,hz12,hz13,hz14⟩:=hI
 have K:Knuth Un u1n an bn q r:=by assumption
 refine wp_seq_k fun K35 hK35=>wp_seq_k fun K36 hK36=>?_
 by_cases hz15:4294967296 ≤ (q:Int)
 ·refine wp_region_lit (xB 1 [(67,.int .u64 (q:Int))] hF fun a hF=>wl (xP 68 (v0:=.bool (decide (4294967296 ≤ (q:Int)))) (v:=.bool true) hF (bT hz15) fun a hF=>xB 10 [(69,.bool true),(70,undef),(71,undef),(72,undef),(73,undef),(74,undef),(75,undef),(76,undef),(77,undef),(78,.bool true)] hF fun a hF=>wpList_nil (hK36 _ _ (xT hF (wp_skip (hK35 _ _ (wp_block (wp_seq_k fun K37 hK37=>?_))))))))
  have hst:=K.step I (.inl (by omega))
  refine wp_region_lit (xB 1 [(79,.int .u64 (q:Int))] hF fun a hF=>wl (xP 80 (v0:=.int .u64 (IntKind.u64.wrap ((q:Int) - 1))) (v:=.int .u64 ((q:Int) - 1)) hF (vi (IntWalk.u64_in _ (by omega))) fun a hF=>xB 1 [(15,.int .u64 ((q:Int) - 1))] hF fun a hF=>wpList_nil (hK37 _ _ (wp_seq_k fun K38 hK38=>wp_region_lit (xB 2 [(81,.int .u64 (r:Int)),(82,.int .u64 (an:Int))] hF fun a hF=>wl (xP 83 (v0:=.int .u64 (IntKind.u64.wrap ((r:Int) + (an:Int)))) (v:=.int .u64 ((r:Int) + (an:Int))) hF (vi (IntWalk.u64_in _ (by omega))) fun a hF=>xB 1 [(16,.int .u64 ((r:Int) + (an:Int)))] hF fun a hF=>wpList_nil ?_))))))
  refine hK38 _ _ (wp_seq_k fun K39 hK39=>wp_region_lit (xB 2 [(84,.int .u64 ((r:Int) + (an:Int))),(85,.bool (decide (4294967296 ≤ (r:Int) + (an:Int))))] hF fun a hF=>wpList_nil (hK39 _ _ ?_)))
  by_cases hz16:4294967296 ≤ (r:Int) + (an:Int)
  ·replace hF:=hF.c hF (i:=85) (v:=.bool true) rfl (bT hz16)
   refine xT hF (wp_exit ?_)
   have hfin:q - 1=Q1:=by rw [hQ1,← hYn]; exact hst.2.2.out I (by omega) (by omega)
   exact hJ19  _ _ (((((((((((Fr.nil hF).c hF (i := 14) rfl rfl).c hF (i := 13) rfl rfl).c hF (i := 11) rfl rfl).c hF (i := 10) rfl rfl).c hF (i := 9) rfl rfl).c hF (i := 8) rfl rfl).c hF (i := 7) rfl rfl).c hF (i := 6) rfl rfl).c hF (i := 2) rfl rfl).c hF (i := 15) rfl (vi (show ((q : Int) - 1 : Int) = (Q1 : Int) from by omega))) (hM.sub Sub.nil)
  replace hF:=hF.c hF (i:=85) (v:=.bool false) rfl (bF hz16)
  refine xF hF (wp_skip ?_)
  obtain ⟨q2,hq2⟩:∃ m:Nat,m=q - 1:=⟨_,rfl⟩
  refine hK34 _ _ ⟨(q2,r + an),⟨((((((((((((Fr.nil hF).c hF (i:=14) rfl rfl).c hF (i:=13) rfl rfl).c hF (i:=11) rfl rfl).c hF (i:=10) rfl rfl).c hF (i:=9) rfl rfl).c hF (i:=8) rfl rfl).c hF (i:=7) rfl rfl).c hF (i:=6) rfl rfl).c hF (i:=2) rfl rfl).c hF (i:=16) rfl (vi (show ((r:Int) + (an:Int):Int)=((r + an):Int) from by omega))).c hF (i:=15) rfl (vi (show ((q:Int) - 1:Int)=(q2:Int) from by omega))),(hM.sub Sub.nil),(show Knuth Un u1n an bn q2 (r + an) from by rw [hq2]; exact hst.2.2),(show (q2:Int) ≤ 4294967297 from by omega),(show ((r + an):Int) < 4294967296 from by omega),(show 0 ≤ (q2:Int) from by omega)⟩,(show q2 < q from by omega)⟩
 refine wp_region_lit (xB 1 [(67,.int .u64 (q:Int))] hF fun a hF=>wl (xP 68 (v0:=.bool (decide (4294967296 ≤ (q:Int)))) (v:=.bool false) hF (bF hz15) fun a hF=>xB 3 [(69,.bool false),(70,.int .u64 (q:Int)),(71,.int .u64 (bn:Int))] hF fun a hF=>?_))
 have hz17:0 ≤ (q:Int) * (bn:Int) ∧ (q:Int) * (bn:Int) ≤ 18446744065119617025:=mul_bd (0) (4294967295) (0) (4294967295) (by omega) (by omega) (by omega) (by omega) (by decide)
 refine wl (xP 72 (v0:=.int .u64 (IntKind.u64.wrap ((q:Int) * (bn:Int)))) (v:=.int .u64 ((q:Int) * (bn:Int))) hF (vi (IntWalk.u64_in _ (by omega))) fun a hF=>xB 1 [(73,.int .u64 (r:Int))] hF fun a hF=>wl (xP 74 (v0:=.int .u64 (IntKind.u64.wrap (4294967296 * (r:Int)))) (v:=.int .u64 (4294967296 * (r:Int))) hF (vi (IntWalk.u64_in _ (by omega))) fun a hF=>xB 1 [(75,.int .u64 (u1n:Int))] hF fun a hF=>wl (xP 76 (v0:=.int .u64 (IntKind.u64.wrap (4294967296 * (r:Int) + (u1n:Int)))) (v:=.int .u64 (4294967296 * (r:Int) + (u1n:Int))) hF (vi (IntWalk.u64_in _ (by omega))) fun a hF=>xB 2 [(77,.bool (decide (4294967296 * (r:Int) + (u1n:Int) < (q:Int) * (bn:Int)))),(78,.bool (decide (4294967296 * (r:Int) + (u1n:Int) < (q:Int) * (bn:Int))))] hF fun a hF=>wpList_nil (hK36 _ _ ?_))))
 by_cases hz18:4294967296 * (r:Int) + (u1n:Int) < (q:Int) * (bn:Int)
 ·replace hF:=hF.c hF (i:=77) (v:=.bool true) rfl (bT hz18)
  replace hF:=hF.c hF (i:=78) (v:=.bool true) rfl (bT hz18)
  refine xT hF (wp_skip (hK35 _ _ (wp_block (wp_seq_k fun K40 hK40=>?_))))
  have hst:=K.step I (.inr (cast_lt hz18))
  refine wp_region_lit (xB 1 [(79,.int .u64 (q:Int))] hF fun a hF=>wl (xP 80 (v0:=.int .u64 (IntKind.u64.wrap ((q:Int) - 1))) (v:=.int .u64 ((q:Int) - 1)) hF (vi (IntWalk.u64_in _ (by omega))) fun a hF=>xB 1 [(15,.int .u64 ((q:Int) - 1))] hF fun a hF=>wpList_nil (hK40 _ _ (wp_seq_k fun K41 hK41=>wp_region_lit (xB 2 [(81,.int .u64 (r:Int)),(82,.int .u64 (an:Int))] hF fun a hF=>wl (xP 83 (v0:=.int .u64 (IntKind.u64.wrap ((r:Int) + (an:Int)))) (v:=.int .u64 ((r:Int) + (an:Int))) hF (vi (IntWalk.u64_in _ (by omega))) fun a hF=>xB 1 [(16,.int .u64 ((r:Int) + (an:Int)))] hF fun a hF=>wpList_nil ?_))))))
  refine hK41 _ _ (wp_seq_k fun K42 hK42=>wp_region_lit (xB 2 [(84,.int .u64 ((r:Int) + (an:Int))),(85,.bool (decide (4294967296 ≤ (r:Int) + (an:Int))))] hF fun a hF=>wpList_nil (hK42 _ _ ?_)))
  by_cases hz19:4294967296 ≤ (r:Int) + (an:Int)
  ·replace hF:=hF.c hF (i:=85) (v:=.bool true) rfl (bT hz19)
   refine xT hF (wp_exit ?_)
   have hfin:q - 1=Q1:=by rw [hQ1,← hYn]; exact hst.2.2.out I (by omega) (by omega)
   exact hJ19  _ _ (((((((((((Fr.nil hF).c hF (i := 14) rfl rfl).c hF (i := 13) rfl rfl).c hF (i := 11) rfl rfl).c hF (i := 10) rfl rfl).c hF (i := 9) rfl rfl).c hF (i := 8) rfl rfl).c hF (i := 7) rfl rfl).c hF (i := 6) rfl rfl).c hF (i := 2) rfl rfl).c hF (i := 15) rfl (vi (show ((q : Int) - 1 : Int) = (Q1 : Int) from by omega))) (hM.sub Sub.nil)
  replace hF:=hF.c hF (i:=85) (v:=.bool false) rfl (bF hz19)
  refine xF hF (wp_skip ?_)
  obtain ⟨q2,hq2⟩:∃ m:Nat,m=q - 1:=⟨_,rfl⟩
  refine hK34 _ _ ⟨(q2,r + an),⟨((((((((((((Fr.nil hF).c hF (i:=14) rfl rfl).c hF (i:=13) rfl rfl).c hF (i:=11) rfl rfl).c hF (i:=10) rfl rfl).c hF (i:=9) rfl rfl).c hF (i:=8) rfl rfl).c hF (i:=7) rfl rfl).c hF (i:=6) rfl rfl).c hF (i:=2) rfl rfl).c hF (i:=16) rfl (vi (show ((r:Int) + (an:Int):Int)=((r + an):Int) from by omega))).c hF (i:=15) rfl (vi (show ((q:Int) - 1:Int)=(q2:Int) from by omega))),(hM.sub Sub.nil),(show Knuth Un u1n an bn q2 (r + an) from by rw [hq2]; exact hst.2.2),(show (q2:Int) ≤ 4294967297 from by omega),(show ((r + an):Int) < 4294967296 from by omega),(show 0 ≤ (q2:Int) from by omega)⟩,(show q2 < q from by omega)⟩
 replace hF:=hF.c hF (i:=77) (v:=.bool false) rfl (bF hz18)
 replace hF:=hF.c hF (i:=78) (v:=.bool false) rfl (bF hz18)
 refine xF hF (wp_exit ?_)
 have hfin:q=Q1:=by rw [hQ1,← hYn]; exact K.stop I (cast_le (Int.not_lt.1 hz18))
 exact hJ19  _ _ (((((((((((Fr.nil hF).c hF (i := 14) rfl rfl).c hF (i := 13) rfl rfl).c hF (i := 11) rfl rfl).c hF (i := 10) rfl rfl).c hF (i := 9) rfl rfl).c hF (i := 8) rfl rfl).c hF (i := 7) rfl rfl).c hF (i := 6) rfl rfl).c hF (i := 2) rfl rfl).c hF (i := 15) rfl (vi (show ((q : Int) : Int) = (Q1 : Int) from by omega))) (hM.sub Sub.nil)
end Go.Proofs.YtlngflbamkgjlaaGreat
namespace Go.Proofs.YtlngflbamkgjlaaGreat
set_option linter.unusedVariables false
def inR (x:Int):Prop:=-1125899906842624 ≤ x ∧ x ≤ 1125899906842624
instance (x:Int):Decidable (inR x):=by unfold inR; infer_instance
def mdB (a b c:Int):Bool:=decide (inR a ∧ inR b ∧ inR c ∧ 1 ≤ c ∧ inR (a * b / c))
def mdV (a b c:Int):Int:=if mdB a b c=true then a * b / c else 0
theorem md_yes {a b c v:Int} (h:inR a ∧ inR b ∧ inR c ∧ 1 ≤ c) (e:a * b / c=v) (hv:inR v):mdB a b c=true ∧ mdV a b c=v:=by
  have q:mdB a b c=true:=decide_eq_true ⟨h.1,h.2.1,h.2.2.1,h.2.2.2,by rw [e]; exact hv⟩
  exact ⟨q,by unfold mdV; rw [if_pos q,e]⟩
theorem md_no {a b c:Int} (h:¬ (inR a ∧ inR b ∧ inR c ∧ 1 ≤ c ∧ inR (a * b / c))):mdB a b c=false ∧ mdV a b c=0:=by
  have e:mdB a b c=false:=decide_eq_false h
  exact ⟨e,by unfold mdV; rw [e]; rfl⟩
theorem md_arg {a b c:Int} (h:¬ (inR a ∧ inR b ∧ inR c ∧ 1 ≤ c)):mdB a b c=false ∧ mdV a b c=0:=md_no fun q=>h ⟨q.1,q.2.1,q.2.2.1,q.2.2.2.1⟩
theorem md_out {a b c v:Int} (e:a * b / c=v) (hv:¬ inR v):mdB a b c=false ∧ mdV a b c=0:=md_no fun q=>hv (by rw [← e]; exact q.2.2.2.2)
theorem mul_sign_pos {a b:Int} (h:a < 0 ↔ b < 0):0 ≤ a * b:=by
  by_cases ha:a < 0
  · have hb:=h.1 ha
    have:=Int.mul_nonneg (show 0 ≤ -a by omega) (show 0 ≤ -b by omega)
    rwa [Int.neg_mul_neg] at this
  · exact Int.mul_nonneg (by omega) (by have:¬ b < 0:=fun q=>ha (h.2 q); omega)
theorem mul_sign_neg {a b:Int} (h:¬ (a < 0 ↔ b < 0)):a * b ≤ 0:=by
  by_cases ha:a < 0
  · have hb:0 ≤ b:=by
      rcases Int.lt_or_le b 0 with q | q
      · exact absurd ⟨fun _=>q,fun _=>ha⟩ h
      · exact q
    have:=Int.mul_nonneg (show 0 ≤ -a by omega) hb
    rw [Int.neg_mul] at this
    omega
  · have hb:b < 0:=by
      rcases Int.lt_or_le b 0 with q | q
      · exact q
      · exact absurd ⟨fun z=>absurd z ha,fun z=>by omega⟩ h
    have:=Int.mul_nonneg (show 0 ≤ a by omega) (show 0 ≤ -b by omega)
    rw [Int.mul_neg] at this
    omega
theorem abs_prod (a b:Int):((a.natAbs * b.natAbs:Nat):Int)=a * b ∨ ((a.natAbs * b.natAbs:Nat):Int)=-(a * b):=by
  rw [← Int.natAbs_mul]
  omega
theorem fl_pos {a b c q r:Int} (h:0 ≤ a * b) (hM:q * c + r=((a.natAbs * b.natAbs:Nat):Int)) (h0:0 ≤ r) (h1:r < c):a * b / c=q:=by
  have e:((a.natAbs * b.natAbs:Nat):Int)=a * b:=by rw [← Int.natAbs_mul]; omega
  have hc:0 < c:=by omega
  exact ((Int.ediv_emod_unique hc).2 ⟨by rw [Int.mul_comm c q]; omega,h0,h1⟩:a * b / c=q ∧ a * b % c=r).1
theorem fl_neg0 {a b c q r:Int} (h:a * b ≤ 0) (hM:q * c + r=((a.natAbs * b.natAbs:Nat):Int)) (h0:r=0) (h1:0 < c):a * b / c=-q:=by
  have e:((a.natAbs * b.natAbs:Nat):Int)=-(a * b):=by rw [← Int.natAbs_mul]; omega
  have e2:c * -q=-(q * c):=by rw [Int.mul_neg,Int.mul_comm]
  exact ((Int.ediv_emod_unique h1).2 ⟨by rw [e2]; omega,Int.le_refl 0,h1⟩:a * b / c=-q ∧ a * b % c=0).1
theorem fl_neg1 {a b c q r:Int} (h:a * b ≤ 0) (hM:q * c + r=((a.natAbs * b.natAbs:Nat):Int)) (h0:0 < r) (h1:r < c):a * b / c=-q - 1:=by
  have e:((a.natAbs * b.natAbs:Nat):Int)=-(a * b):=by rw [← Int.natAbs_mul]; omega
  have hc:0 < c:=by omega
  have e2:c * (-q - 1)=-(q * c) - c:=by rw [Int.mul_sub,Int.mul_neg,Int.mul_comm,Int.mul_one]
  exact ((Int.ediv_emod_unique hc).2 ⟨by rw [e2]; omega,by omega,by omega⟩:a * b / c=-q - 1 ∧ a * b % c=c - r).1
theorem md_big {a b c q:Int} (hc:1 ≤ c) (hq:1125899906842625 ≤ q) (h:q * c ≤ ((a.natAbs * b.natAbs:Nat):Int)):mdB a b c=false ∧ mdV a b c=0:=by
  have hk:1125899906842625 * c ≤ q * c:=Int.mul_le_mul_of_nonneg_right hq (by omega)
  refine md_no fun z=>?_
  obtain ⟨_,_,_,_,z1,z2⟩:=z
  have e1:=Int.mul_ediv_add_emod (a * b) c
  have e2:=Int.emod_nonneg (a * b) (show c ≠ 0 by omega)
  have e3:=Int.emod_lt_of_pos (a * b) (show 0 < c by omega)
  have k1:c * (a * b / c) ≤ c * 1125899906842624:=Int.mul_le_mul_of_nonneg_left z2 (by omega)
  have k2:c * -1125899906842624 ≤ c * (a * b / c):=Int.mul_le_mul_of_nonneg_left z1 (by omega)
  rcases abs_prod a b with e | e <;> omega
end Go.Proofs.YtlngflbamkgjlaaGreat
namespace Go.Proofs.YtlngflbamkgjlaaGreat
open Go.RowKit
set_option linter.unusedVariables false
set_option linter.unusedSimpArgs false
set_option maxRecDepth 100000
theorem in_next {l:List Int} {k:Nat} (h:∀ j,j < k → -1125899906842624 ≤ nt l j ∧ nt l j ≤ 1125899906842624) (hk:-1125899906842624 ≤ nt l k ∧ nt l k ≤ 1125899906842624):∀ j,j < k + 1 → -1125899906842624 ≤ nt l j ∧ nt l j ≤ 1125899906842624:=fun j hj=>by
  by_cases e:j=k
  · subst e; exact hk
  · exact h j (by omega)
theorem in_mem {l:List Int} (h:∀ x ∈ l,-1125899906842624 ≤ x ∧ x ≤ 1125899906842624) {k:Nat} (hk:k < l.length):-1125899906842624 ≤ nt l k ∧ nt l k ≤ 1125899906842624:=h _ (List.mem_of_getElem? (nt_some hk))
theorem in_all {l:List Int} {k:Nat} (h:∀ j,j < k → -1125899906842624 ≤ nt l j ∧ nt l j ≤ 1125899906842624) (hk:l.length ≤ k):∀ x ∈ l,-1125899906842624 ≤ x ∧ x ≤ 1125899906842624:=fun x hx=>by
  obtain ⟨j,hj,e⟩:=List.mem_iff_getElem.1 hx
  have:=h j (by omega)
  have e2:=nt_some hj
  rw [List.getElem?_eq_getElem hj,e] at e2
  rw [Option.some.inj e2]
  exact this
theorem inRange_yes (A:Option Addr) (l:List Int) (c:Nat) (w0:World) (hA:Ro w0 A (l.map (Value.int .i64))) (hm:l.length ≤ 1000000) (h:∀ x ∈ l,-1125899906842624 ≤ x ∧ x ≤ 1125899906842624) :
    Calls Tryz.prog 60 #[.slice A l.length c] w0 (Ret w0 (.bool true)):=by
 refine enterK 18 Tryz.func60 rfl rfl rfl ?_
 intro a hF Q0 hR0 hN0
 have hM:=Mem.start w0
 replace hM:=hM.addOld 1 hA (Nat.le_refl _)
 refine wp_seq_k fun K1 hK1=>wp_region_lit (xB 1 [(2,.bool false)] hF fun a hF=>wpList_nil (hK1 _ _ (wp_seq_k fun K2 hK2=>wp_seq_k fun K3 hK3=>wp_region_lit (xB 3 [(5,.slice A l.length c),(6,iv (l.length:Int)),(7,iv 0)] hF fun a hF=>wpList_nil (hK3 _ _ (wp_block ?_))))))
 refine wp_loop_k (G:=Nat) (fun gg a w=>Fr 18 [(7,some (iv (gg:Int))),(5,some (.slice A l.length c)),(6,some (iv (l.length:Int)))] a ∧ Mem w0.heap.size w0 [(1,some (.ro A (l.map (Value.int .i64))))] w ∧ ((gg:Int) ≤ (l.length:Int)) ∧ (∀ j,j < gg → -1125899906842624 ≤ nt l j ∧ nt l j ≤ 1125899906842624)) (fun gg=>l.length - gg) (0) ?_ ?_
 ·refine ⟨((((Fr.nil hF).c hF (i:=6) rfl rfl).c hF (i:=5) rfl rfl).c hF (i:=7) rfl (vi (show (0:Int)=(0:Int) from by omega))),(hM.sub (Sub.nil.c (k:=1) rfl rfl)),(show (0:Int) ≤ (l.length:Int) from by omega),(show ∀ j,j < 0 → -1125899906842624 ≤ nt l j ∧ nt l j ≤ 1125899906842624 from by exact fun j hj=>by omega)⟩
 intro gg a w hI
 intro K4 hK4
 obtain ⟨k,rfl⟩:∃ x,x=gg:=⟨_,rfl⟩
 try dsimp only at hI hK4
 obtain ⟨hF,hM,hz1,hz2⟩:=hI
 refine wp_seq_k fun K5 hK5=>wp_region_lit (xB 1 [(8,.bool (decide ((k:Int) < (l.length:Int))))] hF fun a hF=>wpList_nil (hK5 _ _ (wp_seq_k fun K6 hK6=>?_)))
 by_cases hz3:(k:Int) < (l.length:Int)
 ·replace hF:=hF.c hF (i:=8) (v:=.bool true) rfl (bT hz3)
  refine xT hF (wp_skip (hK6 _ _ (wp_seq_k fun K7 hK7=>wp_block (wp_seq_k fun K8 hK8=>wp_region_lit (wl (xM 9 (v:=.pointer (some (ea A (k)))) hF hM (yld_ix (kd:=.i64) (e:=3) (len:=l.length) (cap:=c) (i:=(k:Int)) (size:=1) (A:=A) hF rfl (by kernel_rfl) (by kernel_rfl) (by kernel_rfl) (by kernel_rfl) (by kernel_rfl) (roK 1 rfl) (by omega) (by omega) (by rw [List.length_map]; omega)) fun a w hF hM=>wl (xM 10 (v:=iv (nt l k)) hF hM (yld_ro1 (A:=A) (j:=k) hF rfl (by kernel_rfl) (by kernel_rfl) (roK 1 rfl) (by kernel_rfl) (nt_at (by omega))) fun a w hF hM=>xB 1 [(4,iv (nt l k))] hF fun a hF=>wpList_nil (hK8 _ _ ?_))))))))
  refine wp_seq_k fun K9 hK9=>?_
  by_cases hz4:nt l k < -1125899906842624
  ·refine wp_region_lit (xB 1 [(11,iv (nt l k))] hF fun a hF=>wl (xP 12 (v0:=.bool (decide (nt l k < -1125899906842624))) (v:=.bool true) hF (bT hz4) fun a hF=>xB 4 [(13,.bool true),(14,undef),(15,undef),(16,.bool true)] hF fun a hF=>wpList_nil (hK9 _ _ (xT hF (wp_seq_k fun K10 hK10=>wp_region_lit (xB 1 [(2,.bool false)] hF fun a hF=>wpList_nil (hK10 _ _ ?_)))))))
   refine wp_ret (hR0 _ _ (ret_of hF hM (.tmp rfl (.nil)) ?_))
   have:=in_mem h (k:=k) (by omega); exfalso; omega
  refine wp_region_lit (xB 1 [(11,iv (nt l k))] hF fun a hF=>wl (xP 12 (v0:=.bool (decide (nt l k < -1125899906842624))) (v:=.bool false) hF (bF hz4) fun a hF=>xB 4 [(13,.bool false),(14,iv (nt l k)),(15,.bool (decide (1125899906842624 < nt l k))),(16,.bool (decide (1125899906842624 < nt l k)))] hF fun a hF=>wpList_nil (hK9 _ _ ?_)))
  by_cases hz5:1125899906842624 < nt l k
  ·replace hF:=hF.c hF (i:=15) (v:=.bool true) rfl (bT hz5)
   replace hF:=hF.c hF (i:=16) (v:=.bool true) rfl (bT hz5)
   refine xT hF (wp_seq_k fun K11 hK11=>wp_region_lit (xB 1 [(2,.bool false)] hF fun a hF=>wpList_nil (hK11 _ _ (wp_ret (hR0 _ _ (ret_of hF hM (.tmp rfl (.nil)) ?_))))))
   have:=in_mem h (k:=k) (by omega); exfalso; omega
  replace hF:=hF.c hF (i:=15) (v:=.bool false) rfl (bF hz5)
  replace hF:=hF.c hF (i:=16) (v:=.bool false) rfl (bF hz5)
  refine xF hF (wp_skip (hK7 _ _ (wp_region_lit (wl (xP 17 (v0:=.int .i64 (IntKind.i64.wrap ((k:Int) + 1))) (v:=iv ((k:Int) + 1)) hF (wi (by omega)) fun a hF=>xB 1 [(7,iv ((k:Int) + 1))] hF fun a hF=>wpList_nil (hK4 _ _ ⟨(k + 1),⟨((((Fr.nil hF).c hF (i:=6) rfl rfl).c hF (i:=5) rfl rfl).c hF (i:=7) rfl (vi (show ((k:Int) + 1:Int)=((k + 1):Int) from by omega))),(hM.sub (Sub.nil.c (k:=1) rfl rfl)),(show ((k + 1):Int) ≤ (l.length:Int) from by omega),(show ∀ j,j < (k + 1) → -1125899906842624 ≤ nt l j ∧ nt l j ≤ 1125899906842624 from by exact in_next (by assumption) (by omega))⟩,(show l.length - (k + 1) < l.length - k from by omega)⟩))))))
 replace hF:=hF.c hF (i:=8) (v:=.bool false) rfl (bF hz3)
 refine xF hF (wp_exit (hK2 _ _ (wp_seq_k fun K12 hK12=>wp_region_lit (xB 1 [(2,.bool true)] hF fun a hF=>wpList_nil (hK12 _ _ (wp_ret (hR0 _ _ (ret_of hF hM (.tmp rfl (.nil)) (⟨rfl,hM.bel⟩)))))))))
theorem inRange_no (A:Option Addr) (l:List Int) (c:Nat) (w0:World) (hA:Ro w0 A (l.map (Value.int .i64))) (hm:l.length ≤ 1000000) (h:¬ ∀ x ∈ l,-1125899906842624 ≤ x ∧ x ≤ 1125899906842624) :
    Calls Tryz.prog 60 #[.slice A l.length c] w0 (Ret w0 (.bool false)):=by
 refine enterK 18 Tryz.func60 rfl rfl rfl ?_
 intro a hF Q0 hR0 hN0
 have hM:=Mem.start w0
 replace hM:=hM.addOld 1 hA (Nat.le_refl _)
 refine wp_seq_k fun K1 hK1=>wp_region_lit (xB 1 [(2,.bool false)] hF fun a hF=>wpList_nil (hK1 _ _ (wp_seq_k fun K2 hK2=>wp_seq_k fun K3 hK3=>wp_region_lit (xB 3 [(5,.slice A l.length c),(6,iv (l.length:Int)),(7,iv 0)] hF fun a hF=>wpList_nil (hK3 _ _ (wp_block ?_))))))
 refine wp_loop_k (G:=Nat) (fun gg a w=>Fr 18 [(7,some (iv (gg:Int))),(5,some (.slice A l.length c)),(6,some (iv (l.length:Int)))] a ∧ Mem w0.heap.size w0 [(1,some (.ro A (l.map (Value.int .i64))))] w ∧ ((gg:Int) ≤ (l.length:Int)) ∧ (∀ j,j < gg → -1125899906842624 ≤ nt l j ∧ nt l j ≤ 1125899906842624)) (fun gg=>l.length - gg) (0) ?_ ?_
 ·refine ⟨((((Fr.nil hF).c hF (i:=6) rfl rfl).c hF (i:=5) rfl rfl).c hF (i:=7) rfl (vi (show (0:Int)=(0:Int) from by omega))),(hM.sub (Sub.nil.c (k:=1) rfl rfl)),(show (0:Int) ≤ (l.length:Int) from by omega),(show ∀ j,j < 0 → -1125899906842624 ≤ nt l j ∧ nt l j ≤ 1125899906842624 from by exact fun j hj=>by omega)⟩
 intro gg a w hI
 intro K4 hK4
 obtain ⟨k,rfl⟩:∃ x,x=gg:=⟨_,rfl⟩
 try dsimp only at hI hK4
 obtain ⟨hF,hM,hz1,hz2⟩:=hI
 refine wp_seq_k fun K5 hK5=>wp_region_lit (xB 1 [(8,.bool (decide ((k:Int) < (l.length:Int))))] hF fun a hF=>wpList_nil (hK5 _ _ (wp_seq_k fun K6 hK6=>?_)))
 by_cases hz3:(k:Int) < (l.length:Int)
 ·replace hF:=hF.c hF (i:=8) (v:=.bool true) rfl (bT hz3)
  refine xT hF (wp_skip (hK6 _ _ (wp_seq_k fun K7 hK7=>wp_block (wp_seq_k fun K8 hK8=>wp_region_lit (wl (xM 9 (v:=.pointer (some (ea A (k)))) hF hM (yld_ix (kd:=.i64) (e:=3) (len:=l.length) (cap:=c) (i:=(k:Int)) (size:=1) (A:=A) hF rfl (by kernel_rfl) (by kernel_rfl) (by kernel_rfl) (by kernel_rfl) (by kernel_rfl) (roK 1 rfl) (by omega) (by omega) (by rw [List.length_map]; omega)) fun a w hF hM=>wl (xM 10 (v:=iv (nt l k)) hF hM (yld_ro1 (A:=A) (j:=k) hF rfl (by kernel_rfl) (by kernel_rfl) (roK 1 rfl) (by kernel_rfl) (nt_at (by omega))) fun a w hF hM=>xB 1 [(4,iv (nt l k))] hF fun a hF=>wpList_nil (hK8 _ _ ?_))))))))
  refine wp_seq_k fun K9 hK9=>?_
  by_cases hz4:nt l k < -1125899906842624
  ·refine wp_region_lit (xB 1 [(11,iv (nt l k))] hF fun a hF=>wl (xP 12 (v0:=.bool (decide (nt l k < -1125899906842624))) (v:=.bool true) hF (bT hz4) fun a hF=>xB 4 [(13,.bool true),(14,undef),(15,undef),(16,.bool true)] hF fun a hF=>wpList_nil (hK9 _ _ (xT hF (wp_seq_k fun K10 hK10=>wp_region_lit (xB 1 [(2,.bool false)] hF fun a hF=>wpList_nil (hK10 _ _ ?_)))))))
   refine wp_ret (hR0 _ _ (ret_of hF hM (.tmp rfl (.nil)) (⟨rfl,hM.bel⟩)))
  refine wp_region_lit (xB 1 [(11,iv (nt l k))] hF fun a hF=>wl (xP 12 (v0:=.bool (decide (nt l k < -1125899906842624))) (v:=.bool false) hF (bF hz4) fun a hF=>xB 4 [(13,.bool false),(14,iv (nt l k)),(15,.bool (decide (1125899906842624 < nt l k))),(16,.bool (decide (1125899906842624 < nt l k)))] hF fun a hF=>wpList_nil (hK9 _ _ ?_)))
  by_cases hz5:1125899906842624 < nt l k
  ·replace hF:=hF.c hF (i:=15) (v:=.bool true) rfl (bT hz5)
   replace hF:=hF.c hF (i:=16) (v:=.bool true) rfl (bT hz5)
   refine xT hF (wp_seq_k fun K11 hK11=>wp_region_lit (xB 1 [(2,.bool false)] hF fun a hF=>wpList_nil (hK11 _ _ (wp_ret (hR0 _ _ (ret_of hF hM (.tmp rfl (.nil)) (⟨rfl,hM.bel⟩)))))))
  replace hF:=hF.c hF (i:=15) (v:=.bool false) rfl (bF hz5)
  replace hF:=hF.c hF (i:=16) (v:=.bool false) rfl (bF hz5)
  refine xF hF (wp_skip (hK7 _ _ (wp_region_lit (wl (xP 17 (v0:=.int .i64 (IntKind.i64.wrap ((k:Int) + 1))) (v:=iv ((k:Int) + 1)) hF (wi (by omega)) fun a hF=>xB 1 [(7,iv ((k:Int) + 1))] hF fun a hF=>wpList_nil (hK4 _ _ ⟨(k + 1),⟨((((Fr.nil hF).c hF (i:=6) rfl rfl).c hF (i:=5) rfl rfl).c hF (i:=7) rfl (vi (show ((k:Int) + 1:Int)=((k + 1):Int) from by omega))),(hM.sub (Sub.nil.c (k:=1) rfl rfl)),(show ((k + 1):Int) ≤ (l.length:Int) from by omega),(show ∀ j,j < (k + 1) → -1125899906842624 ≤ nt l j ∧ nt l j ≤ 1125899906842624 from by exact in_next (by assumption) (by omega))⟩,(show l.length - (k + 1) < l.length - k from by omega)⟩))))))
 replace hF:=hF.c hF (i:=8) (v:=.bool false) rfl (bF hz3)
 refine xF hF (wp_exit (hK2 _ _ (wp_seq_k fun K12 hK12=>wp_region_lit (xB 1 [(2,.bool true)] hF fun a hF=>wpList_nil (hK12 _ _ (wp_ret (hR0 _ _ (ret_of hF hM (.tmp rfl (.nil)) (absurd (in_all (k:=k) (by assumption) (by omega)) h)))))))))
theorem magnitude_w (x:Int) (w0:World) (h:-1125899906842624 ≤ x ∧ x ≤ 1125899906842624) :
    Calls Tryz.prog 62 #[iv x] w0 (Ret w0 (.int .u64 (x.natAbs:Int))):=by
 refine enterK 10 Tryz.func62 rfl rfl rfl ?_
 intro a hF Q0 hR0 hN0
 have hM:=Mem.start w0
 refine wp_seq_k fun K1 hK1=>wp_region_lit (xB 1 [(2,.int .u64 0)] hF fun a hF=>wpList_nil (hK1 _ _ (wp_seq_k fun K2 hK2=>wp_seq_k fun K3 hK3=>wp_region_lit (xB 2 [(3,iv x),(4,.bool (decide (x < 0)))] hF fun a hF=>wpList_nil (hK3 _ _ ?_)))))
 by_cases hz1:x < 0
 ·replace hF:=hF.c hF (i:=4) (v:=.bool true) rfl (bT hz1)
  refine xT hF (wp_seq_k fun K4 hK4=>wp_region_lit (xB 1 [(5,iv x)] hF fun a hF=>wl (xP 6 (v0:=.int .i64 (IntKind.i64.wrap (0 - x))) (v:=iv (-x)) hF (vi (by rw [Int.zero_sub]; exact (w64 (by omega)))) fun a hF=>wl (xP 7 (v0:=.int .u64 (IntKind.u64.wrap (-x))) (v:=.int .u64 (-x)) hF (vi (IntWalk.u64_in _ (by omega))) fun a hF=>xB 1 [(2,.int .u64 (-x))] hF fun a hF=>wpList_nil (hK4 _ _ (wp_ret (hR0 _ _ (ret_of hF hM (.tmp rfl (.nil)) ?_))))))))
  exact ⟨ret_int (by omega),hM.bel⟩
 replace hF:=hF.c hF (i:=4) (v:=.bool false) rfl (bF hz1)
 refine xF hF (wp_skip (hK2 _ _ (wp_seq_k fun K5 hK5=>wp_region_lit (xB 1 [(8,iv x)] hF fun a hF=>wl (xP 9 (v0:=.int .u64 (IntKind.u64.wrap x)) (v:=.int .u64 x) hF (vi (IntWalk.u64_in _ (by omega))) fun a hF=>xB 1 [(2,.int .u64 x)] hF fun a hF=>wpList_nil (hK5 _ _ (wp_ret (hR0 _ _ ?_))))))))
 refine ret_of hF hM (.tmp rfl (.nil)) (⟨ret_int (by omega),hM.bel⟩)
theorem mulDiv_w (xa xb xc:Int) (w0:World) :
    Calls Tryz.prog 44 #[iv xa,iv xb,iv xc] w0 (Ret w0 (.tuple #[.int .i64 (mdV xa xb xc),.bool (mdB xa xb xc)])):=by
 obtain ⟨hiN,hhi⟩:∃ m:Nat,m=xa.natAbs * xb.natAbs / 18446744073709551616:=⟨_,rfl⟩
 obtain ⟨loN,hlo⟩:∃ m:Nat,m=xa.natAbs * xb.natAbs % 18446744073709551616:=⟨_,rfl⟩
 obtain ⟨M,hMM⟩:∃ m:Nat,m=xa.natAbs * xb.natAbs:=⟨_,rfl⟩
 have hpr:hiN * 18446744073709551616 + loN=M:=by rw [← hMM] at hhi hlo; omega
 have hhl:loN < 18446744073709551616:=by omega
 refine enterK 62 Tryz.func44 rfl rfl rfl ?_
 intro a hF Q0 hR0 hN0
 have hM:=Mem.start w0
 refine wp_seq_k fun K1 hK1=>wp_region_lit (xB 2 [(6,iv 0),(7,.bool false)] hF fun a hF=>wpList_nil (hK1 _ _ (wp_seq_k fun K2 hK2=>wp_seq_k fun K3 hK3=>?_)))
 by_cases hz1:-1125899906842624 ≤ xa
 ·by_cases hz2:xa ≤ 1125899906842624
  ·by_cases hz3:-1125899906842624 ≤ xb
   ·by_cases hz4:xb ≤ 1125899906842624
    ·by_cases hz5:-1125899906842624 ≤ xc
     ·by_cases hz6:xc ≤ 1125899906842624
      ·refine wp_region_lit (xB 3 [(13,iv xa),(14,iv xb),(15,iv xc)] hF fun a hF=>wl (xN 16 7 (t:=3) (fun b=>.slice (some ⟨b,0,none⟩) 3 3) #[iv xa,iv xb,iv xc] hF hM fun bb7 a w hF hM=>wl (xM 17 (v:=.bool true) hF hM (xC 60 #[.slice (some ⟨bb7,0,none⟩) 3 3] hF (fun w hM=>inRange_yes (some ⟨bb7,0,none⟩) [xa,xb,xc] 3 w (hM.roRow (k:=7) rfl) (by simp) (by simp; omega))) fun a w hF hM=>xB 5 [(18,.bool false),(19,.bool false),(20,iv xc),(21,.bool (decide (xc < 1))),(22,.bool (decide (xc < 1)))] hF fun a hF=>wpList_nil (hK3 _ _ ?_))))
       by_cases hz7:xc < 1
       ·replace hF:=hF.c hF (i:=21) (v:=.bool true) rfl (bT hz7)
        replace hF:=hF.c hF (i:=22) (v:=.bool true) rfl (bT hz7)
        refine xT hF (wp_seq_k fun K4 hK4=>wp_region_lit (xB 2 [(6,iv 0),(7,.bool false)] hF fun a hF=>wpList_nil (hK4 _ _ (wp_ret (hR0 _ _ (ret_of hF hM (.tmp rfl (.tmp rfl (.nil))) ?_))))))
        have hmd:mdB xa xb xc=false ∧ mdV xa xb xc=0:=md_arg (by unfold inR; omega)
        exact ⟨ret_eq (by rw [hmd.1,hmd.2]; rfl),hM.bel⟩
       replace hF:=hF.c hF (i:=21) (v:=.bool false) rfl (bF hz7)
       replace hF:=hF.c hF (i:=22) (v:=.bool false) rfl (bF hz7)
       refine xF hF (wp_skip (hK2 _ _ (wp_seq_k fun K5 hK5=>?_)))
       have hab:xa.natAbs ≤ 1125899906842624 ∧ xb.natAbs ≤ 1125899906842624:=by omega
       have hMb:M ≤ 1267650600228229401496703205376:=by rw [hMM]; exact Nat.le_trans (Nat.mul_le_mul hab.1 hab.2) (by decide)
       have mul_s:∀ w:World,Calls Tryz.prog 61 #[.int .u64 (xa.natAbs:Int),.int .u64 (xb.natAbs:Int)] w (Ret w (.tuple #[.int .u64 (hiN:Int),.int .u64 (loN:Int)])):=fun w=>(bits_Mul64 xa.natAbs xb.natAbs (by omega) (by omega) w).mono fun e w' hh=>⟨by rw [hh.1,hhi,hlo],hh.2 ▸ Below.refl _ _⟩
       refine wp_region_lit (xB 1 [(24,iv xa)] hF fun a hF=>wl (xM 25 (v:=.int .u64 (xa.natAbs:Int)) hF hM (xC 62 #[iv xa] hF (fun w hM=>magnitude_w xa w (by omega))) fun a w hF hM=>xB 1 [(26,iv xb)] hF fun a hF=>wl (xM 27 (v:=.int .u64 (xb.natAbs:Int)) hF hM (xC 62 #[iv xb] hF (fun w hM=>magnitude_w xb w (by omega))) fun a w hF hM=>wl (xM 28 (v:=.tuple #[.int .u64 (hiN:Int),.int .u64 (loN:Int)]) hF hM (xC 61 #[.int .u64 (xa.natAbs:Int),.int .u64 (xb.natAbs:Int)] hF (fun w hM=>mul_s w)) fun a w hF hM=>xB 5 [(23,.tuple #[.int .u64 (hiN:Int),.int .u64 (loN:Int)]),(29,.int .u64 (hiN:Int)),(30,.int .u64 (loN:Int)),(8,.int .u64 (hiN:Int)),(9,.int .u64 (loN:Int))] hF fun a hF=>wpList_nil (hK5 _ _ (wp_seq_k fun K6 hK6=>wp_seq_k fun K7 hK7=>wp_region_lit ?_))))))
       refine xB 2 [(31,.int .u64 (hiN:Int)),(32,iv xc)] hF fun a hF=>wl (xP 33 (v0:=.int .u64 (IntKind.u64.wrap xc)) (v:=.int .u64 xc) hF (vi (IntWalk.u64_in _ (by omega))) fun a hF=>xB 1 [(34,.bool (decide (xc ≤ (hiN:Int))))] hF fun a hF=>wpList_nil (hK7 _ _ ?_))
       by_cases hz8:xc ≤ (hiN:Int)
       ·replace hF:=hF.c hF (i:=34) (v:=.bool true) rfl (bT hz8)
        refine xT hF (wp_seq_k fun K8 hK8=>wp_region_lit (xB 2 [(6,iv 0),(7,.bool false)] hF fun a hF=>wpList_nil (hK8 _ _ (wp_ret (hR0 _ _ (ret_of hF hM (.tmp rfl (.tmp rfl (.nil))) ?_))))))
        have hmd:mdB xa xb xc=false ∧ mdV xa xb xc=0:=md_big (q:=18446744073709551616) (by omega) (by omega) (by rw [← hMM]; omega)
        exact ⟨ret_eq (by rw [hmd.1,hmd.2]; rfl),hM.bel⟩
       replace hF:=hF.c hF (i:=34) (v:=.bool false) rfl (bF hz8)
       refine xF hF (wp_skip (hK6 _ _ (wp_seq_k fun K9 hK9=>?_)))
       obtain ⟨cN,hcN⟩:∃ m:Nat,xc=(m:Int):=⟨xc.toNat,by omega⟩
       obtain ⟨qN,hqN⟩:∃ m:Nat,m=M / cN:=⟨_,rfl⟩
       obtain ⟨rN,hrN⟩:∃ m:Nat,m=M % cN:=⟨_,rfl⟩
       have hqr:=Nat.div_add_mod' M cN
       rw [← hqN,← hrN] at hqr
       have hrl:=Nat.mod_lt M (show cN > 0 by omega)
       rw [← hrN] at hrl
       have hql:qN < 18446744073709551616:=by rw [hqN,← hpr]; exact (Nat.div_lt_iff_lt_mul (by omega)).2 (by omega)
       have div_s:∀ w:World,Calls Tryz.prog 63 #[.int .u64 (hiN:Int),.int .u64 (loN:Int),.int .u64 xc] w (Ret w (.tuple #[.int .u64 (qN:Int),.int .u64 (rN:Int)])):=fun w=>by rw [hcN,hqN,hrN,← hpr]; exact div64_w hiN loN cN w (by omega) (by omega) (by omega)
       have hint:(qN:Int) * xc + (rN:Int)=((xa.natAbs * xb.natAbs:Nat):Int):=by rw [hcN,← hMM]; exact cast_eq hqr
       refine wp_region_lit (xB 3 [(36,.int .u64 (hiN:Int)),(37,.int .u64 (loN:Int)),(38,iv xc)] hF fun a hF=>wl (xP 39 (v0:=.int .u64 (IntKind.u64.wrap xc)) (v:=.int .u64 xc) hF (vi (IntWalk.u64_in _ (by omega))) fun a hF=>wl (xM 40 (v:=.tuple #[.int .u64 (qN:Int),.int .u64 (rN:Int)]) hF hM (xC 63 #[.int .u64 (hiN:Int),.int .u64 (loN:Int),.int .u64 xc] hF (fun w hM=>div_s w)) fun a w hF hM=>xB 5 [(35,.tuple #[.int .u64 (qN:Int),.int .u64 (rN:Int)]),(41,.int .u64 (qN:Int)),(42,.int .u64 (rN:Int)),(10,.int .u64 (qN:Int)),(11,.int .u64 (rN:Int))] hF fun a hF=>wpList_nil (hK9 _ _ (wp_seq_k fun K10 hK10=>wp_seq_k fun K11 hK11=>wp_region_lit (xB 2 [(43,.int .u64 (qN:Int)),(44,.bool (decide (1125899906842624 < (qN:Int))))] hF fun a hF=>wpList_nil ?_))))))
       refine hK11 _ _ ?_
       by_cases hz9:1125899906842624 < (qN:Int)
       ·replace hF:=hF.c hF (i:=44) (v:=.bool true) rfl (bT hz9)
        refine xT hF (wp_seq_k fun K12 hK12=>wp_region_lit (xB 2 [(6,iv 0),(7,.bool false)] hF fun a hF=>wpList_nil (hK12 _ _ (wp_ret (hR0 _ _ (ret_of hF hM (.tmp rfl (.tmp rfl (.nil))) ?_))))))
        have hmd:mdB xa xb xc=false ∧ mdV xa xb xc=0:=md_big (q:=(qN:Int)) (by omega) (by omega) (by omega)
        exact ⟨ret_eq (by rw [hmd.1,hmd.2]; rfl),hM.bel⟩
       replace hF:=hF.c hF (i:=44) (v:=.bool false) rfl (bF hz9)
       refine xF hF (wp_skip (hK10 _ _ (wp_seq_k fun K13 hK13=>wp_region_lit (xB 1 [(45,.int .u64 (qN:Int))] hF fun a hF=>wl (xP 46 (v0:=.int .i64 (IntKind.i64.wrap (qN:Int))) (v:=iv (qN:Int)) hF (vi (IntWalk.i64_in _ (by omega))) fun a hF=>xB 1 [(12,iv (qN:Int))] hF fun a hF=>wpList_nil (hK13 _ _ (wp_seq_k fun K14 hK14=>wp_seq_k fun K15 hK15=>?_)))))))
       by_cases hz10:xa < 0
       ·by_cases hz11:xb < 0
        ·refine wp_region_lit (xB 1 [(47,iv xa)] hF fun a hF=>wl (xP 48 (v0:=.bool (decide (xa < 0))) (v:=.bool true) hF (bT hz10) fun a hF=>xB 1 [(49,iv xb)] hF fun a hF=>wl (xP 50 (v0:=.bool (decide (xb < 0))) (v:=.bool true) hF (bT hz11) fun a hF=>xB 1 [(51,.bool false)] hF fun a hF=>wpList_nil (hK15 _ _ (xF hF (wp_skip (hK14 _ _ (wp_seq_k fun K16 hK16=>?_))))))))
         refine wp_region_lit (xB 1 [(58,iv (qN:Int))] hF fun a hF=>wl (sC (f:=64) (args:=#[iv (qN:Int)]) hF (by kernel_rfl) rfl (by decide) (by kernel_rfl) (fun _=>by kernel_rfl) (enterK 9 Tryz.func64 rfl rfl rfl ?_)))
         intro a1 hF1 QR17 hR17 hNR17
         refine wp_seq_k fun K18 hK18=>wp_region_lit (xB 2 [(2,iv 0),(3,.bool false)] hF1 fun a1 hF1=>wpList_nil (hK18 _ _ (wp_seq_k fun K19 hK19=>wp_seq_k fun K20 hK20=>wp_region_lit (xB 1 [(4,iv (qN:Int))] hF1 fun a1 hF1=>wl (xN 5 8 (t:=3) (fun b=>.slice (some ⟨b,0,none⟩) 1 1) #[iv (qN:Int)] hF1 hM fun bb8 a1 w hF1 hM=>wl (xM 6 (v:=.bool true) hF1 hM (xC 60 #[.slice (some ⟨bb8,0,none⟩) 1 1] hF1 (fun w hM=>inRange_yes (some ⟨bb8,0,none⟩) [(qN:Int)] 1 w (hM.roRow (k:=8) rfl) (by simp) (by simp; omega))) fun a1 w hF1 hM=>xB 1 [(7,.bool false)] hF1 fun a1 hF1=>?_))))))
         refine wpList_nil (hK20 _ _ (xF hF1 (wp_skip (hK19 _ _ (wp_seq_k fun K21 hK21=>?_)))))
         have hab:xa.natAbs ≤ 1125899906842624 ∧ xb.natAbs ≤ 1125899906842624:=by omega
         have hMb:M ≤ 1267650600228229401496703205376:=by rw [hMM]; exact Nat.le_trans (Nat.mul_le_mul hab.1 hab.2) (by decide)
         have mul_s:∀ w:World,Calls Tryz.prog 61 #[.int .u64 (xa.natAbs:Int),.int .u64 (xb.natAbs:Int)] w (Ret w (.tuple #[.int .u64 (hiN:Int),.int .u64 (loN:Int)])):=fun w=>(bits_Mul64 xa.natAbs xb.natAbs (by omega) (by omega) w).mono fun e w' hh=>⟨by rw [hh.1,hhi,hlo],hh.2 ▸ Below.refl _ _⟩
         refine wp_region_lit (xB 3 [(8,iv (qN:Int)),(2,iv (qN:Int)),(3,.bool true)] hF1 fun a1 hF1=>wpList_nil (hK21 _ _ (wp_ret (hR17 _ _ (ret_of hF1 hM (.tmp rfl (.tmp rfl (.nil))) ⟨_,rfl,?_⟩)))))
         intro a hF
         refine xB 4 [(60,iv (qN:Int)),(61,.bool true),(6,iv (qN:Int)),(7,.bool true)] hF fun a hF=>wpList_nil (hK16 _ _ (wp_ret (hR0 _ _ (ret_of hF hM (.tmp rfl (.tmp rfl (.nil))) ?_))))
         have hmd:mdB xa xb xc=true ∧ mdV xa xb xc=(qN:Int):=md_yes (by unfold inR; omega) (fl_pos (q:=(qN:Int)) (r:=(rN:Int)) (mul_sign_pos (by omega)) hint (by omega) (by omega)) (by unfold inR; omega)
         exact ⟨ret_eq (by rw [hmd.1,hmd.2]; rfl),hM.bel⟩
        refine wp_region_lit (xB 1 [(47,iv xa)] hF fun a hF=>wl (xP 48 (v0:=.bool (decide (xa < 0))) (v:=.bool true) hF (bT hz10) fun a hF=>xB 1 [(49,iv xb)] hF fun a hF=>wl (xP 50 (v0:=.bool (decide (xb < 0))) (v:=.bool false) hF (bF hz11) fun a hF=>xB 1 [(51,.bool true)] hF fun a hF=>wpList_nil (hK15 _ _ (xT hF (wp_seq_k fun K22 hK22=>wp_region_lit (xB 1 [(52,iv (qN:Int))] hF fun a hF=>?_)))))))
        refine wl (xP 53 (v0:=.int .i64 (IntKind.i64.wrap (0 - (qN:Int)))) (v:=iv (-(qN:Int))) hF (vi (by rw [Int.zero_sub]; exact (w64 (by omega)))) fun a hF=>xB 1 [(12,iv (-(qN:Int)))] hF fun a hF=>wpList_nil (hK22 _ _ (wp_seq_k fun K23 hK23=>wp_region_lit (xB 2 [(54,.int .u64 (rN:Int)),(55,.bool (!decide ((rN:Int)=0)))] hF fun a hF=>wpList_nil (hK23 _ _ ?_)))))
        by_cases hz12:(rN:Int)=0
        ·replace hF:=hF.c hF (i:=55) (v:=.bool false) rfl (nT hz12)
         refine xF hF (wp_skip (hK14 _ _ (wp_seq_k fun K24 hK24=>wp_region_lit (xB 1 [(58,iv (-(qN:Int)))] hF fun a hF=>wl (sC (f:=64) (args:=#[iv (-(qN:Int))]) hF (by kernel_rfl) rfl (by decide) (by kernel_rfl) (fun _=>by kernel_rfl) (enterK 9 Tryz.func64 rfl rfl rfl ?_))))))
         intro a1 hF1 QR25 hR25 hNR25
         refine wp_seq_k fun K26 hK26=>wp_region_lit (xB 2 [(2,iv 0),(3,.bool false)] hF1 fun a1 hF1=>wpList_nil (hK26 _ _ (wp_seq_k fun K27 hK27=>wp_seq_k fun K28 hK28=>wp_region_lit (xB 1 [(4,iv (-(qN:Int)))] hF1 fun a1 hF1=>wl (xN 5 9 (t:=3) (fun b=>.slice (some ⟨b,0,none⟩) 1 1) #[iv (-(qN:Int))] hF1 hM fun bb9 a1 w hF1 hM=>wl (xM 6 (v:=.bool true) hF1 hM (xC 60 #[.slice (some ⟨bb9,0,none⟩) 1 1] hF1 (fun w hM=>inRange_yes (some ⟨bb9,0,none⟩) [-(qN:Int)] 1 w (hM.roRow (k:=9) rfl) (by simp) (by simp; omega))) fun a1 w hF1 hM=>xB 1 [(7,.bool false)] hF1 fun a1 hF1=>?_))))))
         refine wpList_nil (hK28 _ _ (xF hF1 (wp_skip (hK27 _ _ (wp_seq_k fun K29 hK29=>?_)))))
         have hab:xa.natAbs ≤ 1125899906842624 ∧ xb.natAbs ≤ 1125899906842624:=by omega
         have hMb:M ≤ 1267650600228229401496703205376:=by rw [hMM]; exact Nat.le_trans (Nat.mul_le_mul hab.1 hab.2) (by decide)
         have mul_s:∀ w:World,Calls Tryz.prog 61 #[.int .u64 (xa.natAbs:Int),.int .u64 (xb.natAbs:Int)] w (Ret w (.tuple #[.int .u64 (hiN:Int),.int .u64 (loN:Int)])):=fun w=>(bits_Mul64 xa.natAbs xb.natAbs (by omega) (by omega) w).mono fun e w' hh=>⟨by rw [hh.1,hhi,hlo],hh.2 ▸ Below.refl _ _⟩
         refine wp_region_lit (xB 3 [(8,iv (-(qN:Int))),(2,iv (-(qN:Int))),(3,.bool true)] hF1 fun a1 hF1=>wpList_nil (hK29 _ _ (wp_ret (hR25 _ _ (ret_of hF1 hM (.tmp rfl (.tmp rfl (.nil))) ⟨_,rfl,?_⟩)))))
         intro a hF
         refine xB 4 [(60,iv (-(qN:Int))),(61,.bool true),(6,iv (-(qN:Int))),(7,.bool true)] hF fun a hF=>wpList_nil (hK24 _ _ (wp_ret (hR0 _ _ (ret_of hF hM (.tmp rfl (.tmp rfl (.nil))) ?_))))
         have hmd:mdB xa xb xc=true ∧ mdV xa xb xc=-(qN:Int):=md_yes (by unfold inR; omega) (fl_neg0 (q:=(qN:Int)) (r:=(rN:Int)) (mul_sign_neg (by omega)) hint (by omega) (by omega)) (by unfold inR; omega)
         exact ⟨ret_eq (by rw [hmd.1,hmd.2]; rfl),hM.bel⟩
        replace hF:=hF.c hF (i:=55) (v:=.bool true) rfl (nF hz12)
        refine xT hF (wp_region_lit (xB 1 [(56,iv (-(qN:Int)))] hF fun a hF=>wl (xP 57 (v0:=.int .i64 (IntKind.i64.wrap (-(qN:Int) - 1))) (v:=iv (-(qN:Int) - 1)) hF (wi (by omega)) fun a hF=>xB 1 [(12,iv (-(qN:Int) - 1))] hF fun a hF=>wpList_nil (hK14 _ _ (wp_seq_k fun K30 hK30=>wp_region_lit (xB 1 [(58,iv (-(qN:Int) - 1))] hF fun a hF=>wl (sC (f:=64) (args:=#[iv (-(qN:Int) - 1)]) hF (by kernel_rfl) rfl (by decide) (by kernel_rfl) (fun _=>by kernel_rfl) (enterK 9 Tryz.func64 rfl rfl rfl ?_))))))))
        intro a1 hF1 QR31 hR31 hNR31
        refine wp_seq_k fun K32 hK32=>wp_region_lit (xB 2 [(2,iv 0),(3,.bool false)] hF1 fun a1 hF1=>wpList_nil (hK32 _ _ (wp_seq_k fun K33 hK33=>wp_seq_k fun K34 hK34=>?_)))
        by_cases hz13:-1125899906842624 ≤ -(qN:Int) - 1
        ·refine wp_region_lit (xB 1 [(4,iv (-(qN:Int) - 1))] hF1 fun a1 hF1=>wl (xN 5 11 (t:=3) (fun b=>.slice (some ⟨b,0,none⟩) 1 1) #[iv (-(qN:Int) - 1)] hF1 hM fun bb11 a1 w hF1 hM=>wl (xM 6 (v:=.bool true) hF1 hM (xC 60 #[.slice (some ⟨bb11,0,none⟩) 1 1] hF1 (fun w hM=>inRange_yes (some ⟨bb11,0,none⟩) [-(qN:Int) - 1] 1 w (hM.roRow (k:=11) rfl) (by simp) (by simp; omega))) fun a1 w hF1 hM=>xB 1 [(7,.bool false)] hF1 fun a1 hF1=>wpList_nil (hK34 _ _ (xF hF1 (wp_skip (hK33 _ _ (wp_seq_k fun K35 hK35=>?_))))))))
         have hab:xa.natAbs ≤ 1125899906842624 ∧ xb.natAbs ≤ 1125899906842624:=by omega
         have hMb:M ≤ 1267650600228229401496703205376:=by rw [hMM]; exact Nat.le_trans (Nat.mul_le_mul hab.1 hab.2) (by decide)
         have mul_s:∀ w:World,Calls Tryz.prog 61 #[.int .u64 (xa.natAbs:Int),.int .u64 (xb.natAbs:Int)] w (Ret w (.tuple #[.int .u64 (hiN:Int),.int .u64 (loN:Int)])):=fun w=>(bits_Mul64 xa.natAbs xb.natAbs (by omega) (by omega) w).mono fun e w' hh=>⟨by rw [hh.1,hhi,hlo],hh.2 ▸ Below.refl _ _⟩
         refine wp_region_lit (xB 3 [(8,iv (-(qN:Int) - 1)),(2,iv (-(qN:Int) - 1)),(3,.bool true)] hF1 fun a1 hF1=>wpList_nil (hK35 _ _ (wp_ret (hR31 _ _ (ret_of hF1 hM (.tmp rfl (.tmp rfl (.nil))) ⟨_,rfl,?_⟩)))))
         intro a hF
         refine xB 4 [(60,iv (-(qN:Int) - 1)),(61,.bool true),(6,iv (-(qN:Int) - 1)),(7,.bool true)] hF fun a hF=>wpList_nil (hK30 _ _ (wp_ret (hR0 _ _ (ret_of hF hM (.tmp rfl (.tmp rfl (.nil))) ?_))))
         have hmd:mdB xa xb xc=true ∧ mdV xa xb xc=-(qN:Int) - 1:=md_yes (by unfold inR; omega) (fl_neg1 (q:=(qN:Int)) (r:=(rN:Int)) (mul_sign_neg (by omega)) hint (by omega) (by omega)) (by unfold inR; omega)
         exact ⟨ret_eq (by rw [hmd.1,hmd.2]; rfl),hM.bel⟩
        refine wp_region_lit (xB 1 [(4,iv (-(qN:Int) - 1))] hF1 fun a1 hF1=>wl (xN 5 12 (t:=3) (fun b=>.slice (some ⟨b,0,none⟩) 1 1) #[iv (-(qN:Int) - 1)] hF1 hM fun bb12 a1 w hF1 hM=>wl (xM 6 (v:=.bool false) hF1 hM (xC 60 #[.slice (some ⟨bb12,0,none⟩) 1 1] hF1 (fun w hM=>inRange_no (some ⟨bb12,0,none⟩) [-(qN:Int) - 1] 1 w (hM.roRow (k:=12) rfl) (by simp) (by intro hh; simp at hh; omega))) fun a1 w hF1 hM=>xB 1 [(7,.bool true)] hF1 fun a1 hF1=>wpList_nil (hK34 _ _ (xT hF1 (wp_seq_k fun K36 hK36=>wp_region_lit (xB 2 [(2,iv 0),(3,.bool false)] hF1 fun a1 hF1=>wpList_nil ?_)))))))
        refine hK36 _ _ (wp_ret (hR31 _ _ (ret_of hF1 hM (.tmp rfl (.tmp rfl (.nil))) ⟨_,rfl,?_⟩)))
        intro a hF
        refine xB 4 [(60,iv 0),(61,.bool false),(6,iv 0),(7,.bool false)] hF fun a hF=>wpList_nil (hK30 _ _ (wp_ret (hR0 _ _ (ret_of hF hM (.tmp rfl (.tmp rfl (.nil))) ?_))))
        have hmd:mdB xa xb xc=false ∧ mdV xa xb xc=0:=md_out (v:=-(qN:Int) - 1) (fl_neg1 (q:=(qN:Int)) (r:=(rN:Int)) (mul_sign_neg (by omega)) hint (by omega) (by omega)) (by unfold inR; omega)
        exact ⟨ret_eq (by rw [hmd.1,hmd.2]; rfl),hM.bel⟩
       by_cases hz14:xb < 0
       ·refine wp_region_lit (xB 1 [(47,iv xa)] hF fun a hF=>wl (xP 48 (v0:=.bool (decide (xa < 0))) (v:=.bool false) hF (bF hz10) fun a hF=>xB 1 [(49,iv xb)] hF fun a hF=>wl (xP 50 (v0:=.bool (decide (xb < 0))) (v:=.bool true) hF (bT hz14) fun a hF=>xB 1 [(51,.bool true)] hF fun a hF=>wpList_nil (hK15 _ _ (xT hF (wp_seq_k fun K37 hK37=>wp_region_lit (xB 1 [(52,iv (qN:Int))] hF fun a hF=>?_)))))))
        refine wl (xP 53 (v0:=.int .i64 (IntKind.i64.wrap (0 - (qN:Int)))) (v:=iv (-(qN:Int))) hF (vi (by rw [Int.zero_sub]; exact (w64 (by omega)))) fun a hF=>xB 1 [(12,iv (-(qN:Int)))] hF fun a hF=>wpList_nil (hK37 _ _ (wp_seq_k fun K38 hK38=>wp_region_lit (xB 2 [(54,.int .u64 (rN:Int)),(55,.bool (!decide ((rN:Int)=0)))] hF fun a hF=>wpList_nil (hK38 _ _ ?_)))))
        by_cases hz15:(rN:Int)=0
        ·replace hF:=hF.c hF (i:=55) (v:=.bool false) rfl (nT hz15)
         refine xF hF (wp_skip (hK14 _ _ (wp_seq_k fun K39 hK39=>wp_region_lit (xB 1 [(58,iv (-(qN:Int)))] hF fun a hF=>wl (sC (f:=64) (args:=#[iv (-(qN:Int))]) hF (by kernel_rfl) rfl (by decide) (by kernel_rfl) (fun _=>by kernel_rfl) (enterK 9 Tryz.func64 rfl rfl rfl ?_))))))
         intro a1 hF1 QR40 hR40 hNR40
         refine wp_seq_k fun K41 hK41=>wp_region_lit (xB 2 [(2,iv 0),(3,.bool false)] hF1 fun a1 hF1=>wpList_nil (hK41 _ _ (wp_seq_k fun K42 hK42=>wp_seq_k fun K43 hK43=>wp_region_lit (xB 1 [(4,iv (-(qN:Int)))] hF1 fun a1 hF1=>wl (xN 5 13 (t:=3) (fun b=>.slice (some ⟨b,0,none⟩) 1 1) #[iv (-(qN:Int))] hF1 hM fun bb13 a1 w hF1 hM=>wl (xM 6 (v:=.bool true) hF1 hM (xC 60 #[.slice (some ⟨bb13,0,none⟩) 1 1] hF1 (fun w hM=>inRange_yes (some ⟨bb13,0,none⟩) [-(qN:Int)] 1 w (hM.roRow (k:=13) rfl) (by simp) (by simp; omega))) fun a1 w hF1 hM=>xB 1 [(7,.bool false)] hF1 fun a1 hF1=>?_))))))
         refine wpList_nil (hK43 _ _ (xF hF1 (wp_skip (hK42 _ _ (wp_seq_k fun K44 hK44=>?_)))))
         have hab:xa.natAbs ≤ 1125899906842624 ∧ xb.natAbs ≤ 1125899906842624:=by omega
         have hMb:M ≤ 1267650600228229401496703205376:=by rw [hMM]; exact Nat.le_trans (Nat.mul_le_mul hab.1 hab.2) (by decide)
         have mul_s:∀ w:World,Calls Tryz.prog 61 #[.int .u64 (xa.natAbs:Int),.int .u64 (xb.natAbs:Int)] w (Ret w (.tuple #[.int .u64 (hiN:Int),.int .u64 (loN:Int)])):=fun w=>(bits_Mul64 xa.natAbs xb.natAbs (by omega) (by omega) w).mono fun e w' hh=>⟨by rw [hh.1,hhi,hlo],hh.2 ▸ Below.refl _ _⟩
         refine wp_region_lit (xB 3 [(8,iv (-(qN:Int))),(2,iv (-(qN:Int))),(3,.bool true)] hF1 fun a1 hF1=>wpList_nil (hK44 _ _ (wp_ret (hR40 _ _ (ret_of hF1 hM (.tmp rfl (.tmp rfl (.nil))) ⟨_,rfl,?_⟩)))))
         intro a hF
         refine xB 4 [(60,iv (-(qN:Int))),(61,.bool true),(6,iv (-(qN:Int))),(7,.bool true)] hF fun a hF=>wpList_nil (hK39 _ _ (wp_ret (hR0 _ _ (ret_of hF hM (.tmp rfl (.tmp rfl (.nil))) ?_))))
         have hmd:mdB xa xb xc=true ∧ mdV xa xb xc=-(qN:Int):=md_yes (by unfold inR; omega) (fl_neg0 (q:=(qN:Int)) (r:=(rN:Int)) (mul_sign_neg (by omega)) hint (by omega) (by omega)) (by unfold inR; omega)
         exact ⟨ret_eq (by rw [hmd.1,hmd.2]; rfl),hM.bel⟩
        replace hF:=hF.c hF (i:=55) (v:=.bool true) rfl (nF hz15)
        refine xT hF (wp_region_lit (xB 1 [(56,iv (-(qN:Int)))] hF fun a hF=>wl (xP 57 (v0:=.int .i64 (IntKind.i64.wrap (-(qN:Int) - 1))) (v:=iv (-(qN:Int) - 1)) hF (wi (by omega)) fun a hF=>xB 1 [(12,iv (-(qN:Int) - 1))] hF fun a hF=>wpList_nil (hK14 _ _ (wp_seq_k fun K45 hK45=>wp_region_lit (xB 1 [(58,iv (-(qN:Int) - 1))] hF fun a hF=>wl (sC (f:=64) (args:=#[iv (-(qN:Int) - 1)]) hF (by kernel_rfl) rfl (by decide) (by kernel_rfl) (fun _=>by kernel_rfl) (enterK 9 Tryz.func64 rfl rfl rfl ?_))))))))
        intro a1 hF1 QR46 hR46 hNR46
        refine wp_seq_k fun K47 hK47=>wp_region_lit (xB 2 [(2,iv 0),(3,.bool false)] hF1 fun a1 hF1=>wpList_nil (hK47 _ _ (wp_seq_k fun K48 hK48=>wp_seq_k fun K49 hK49=>?_)))
        by_cases hz16:-1125899906842624 ≤ -(qN:Int) - 1
        ·refine wp_region_lit (xB 1 [(4,iv (-(qN:Int) - 1))] hF1 fun a1 hF1=>wl (xN 5 15 (t:=3) (fun b=>.slice (some ⟨b,0,none⟩) 1 1) #[iv (-(qN:Int) - 1)] hF1 hM fun bb15 a1 w hF1 hM=>wl (xM 6 (v:=.bool true) hF1 hM (xC 60 #[.slice (some ⟨bb15,0,none⟩) 1 1] hF1 (fun w hM=>inRange_yes (some ⟨bb15,0,none⟩) [-(qN:Int) - 1] 1 w (hM.roRow (k:=15) rfl) (by simp) (by simp; omega))) fun a1 w hF1 hM=>xB 1 [(7,.bool false)] hF1 fun a1 hF1=>wpList_nil (hK49 _ _ (xF hF1 (wp_skip (hK48 _ _ (wp_seq_k fun K50 hK50=>?_))))))))
         have hab:xa.natAbs ≤ 1125899906842624 ∧ xb.natAbs ≤ 1125899906842624:=by omega
         have hMb:M ≤ 1267650600228229401496703205376:=by rw [hMM]; exact Nat.le_trans (Nat.mul_le_mul hab.1 hab.2) (by decide)
         have mul_s:∀ w:World,Calls Tryz.prog 61 #[.int .u64 (xa.natAbs:Int),.int .u64 (xb.natAbs:Int)] w (Ret w (.tuple #[.int .u64 (hiN:Int),.int .u64 (loN:Int)])):=fun w=>(bits_Mul64 xa.natAbs xb.natAbs (by omega) (by omega) w).mono fun e w' hh=>⟨by rw [hh.1,hhi,hlo],hh.2 ▸ Below.refl _ _⟩
         refine wp_region_lit (xB 3 [(8,iv (-(qN:Int) - 1)),(2,iv (-(qN:Int) - 1)),(3,.bool true)] hF1 fun a1 hF1=>wpList_nil (hK50 _ _ (wp_ret (hR46 _ _ (ret_of hF1 hM (.tmp rfl (.tmp rfl (.nil))) ⟨_,rfl,?_⟩)))))
         intro a hF
         refine xB 4 [(60,iv (-(qN:Int) - 1)),(61,.bool true),(6,iv (-(qN:Int) - 1)),(7,.bool true)] hF fun a hF=>wpList_nil (hK45 _ _ (wp_ret (hR0 _ _ (ret_of hF hM (.tmp rfl (.tmp rfl (.nil))) ?_))))
         have hmd:mdB xa xb xc=true ∧ mdV xa xb xc=-(qN:Int) - 1:=md_yes (by unfold inR; omega) (fl_neg1 (q:=(qN:Int)) (r:=(rN:Int)) (mul_sign_neg (by omega)) hint (by omega) (by omega)) (by unfold inR; omega)
         exact ⟨ret_eq (by rw [hmd.1,hmd.2]; rfl),hM.bel⟩
        refine wp_region_lit (xB 1 [(4,iv (-(qN:Int) - 1))] hF1 fun a1 hF1=>wl (xN 5 16 (t:=3) (fun b=>.slice (some ⟨b,0,none⟩) 1 1) #[iv (-(qN:Int) - 1)] hF1 hM fun bb16 a1 w hF1 hM=>wl (xM 6 (v:=.bool false) hF1 hM (xC 60 #[.slice (some ⟨bb16,0,none⟩) 1 1] hF1 (fun w hM=>inRange_no (some ⟨bb16,0,none⟩) [-(qN:Int) - 1] 1 w (hM.roRow (k:=16) rfl) (by simp) (by intro hh; simp at hh; omega))) fun a1 w hF1 hM=>xB 1 [(7,.bool true)] hF1 fun a1 hF1=>wpList_nil (hK49 _ _ (xT hF1 (wp_seq_k fun K51 hK51=>wp_region_lit (xB 2 [(2,iv 0),(3,.bool false)] hF1 fun a1 hF1=>wpList_nil ?_)))))))
        refine hK51 _ _ (wp_ret (hR46 _ _ (ret_of hF1 hM (.tmp rfl (.tmp rfl (.nil))) ⟨_,rfl,?_⟩)))
        intro a hF
        refine xB 4 [(60,iv 0),(61,.bool false),(6,iv 0),(7,.bool false)] hF fun a hF=>wpList_nil (hK45 _ _ (wp_ret (hR0 _ _ (ret_of hF hM (.tmp rfl (.tmp rfl (.nil))) ?_))))
        have hmd:mdB xa xb xc=false ∧ mdV xa xb xc=0:=md_out (v:=-(qN:Int) - 1) (fl_neg1 (q:=(qN:Int)) (r:=(rN:Int)) (mul_sign_neg (by omega)) hint (by omega) (by omega)) (by unfold inR; omega)
        exact ⟨ret_eq (by rw [hmd.1,hmd.2]; rfl),hM.bel⟩
       refine wp_region_lit (xB 1 [(47,iv xa)] hF fun a hF=>wl (xP 48 (v0:=.bool (decide (xa < 0))) (v:=.bool false) hF (bF hz10) fun a hF=>xB 1 [(49,iv xb)] hF fun a hF=>wl (xP 50 (v0:=.bool (decide (xb < 0))) (v:=.bool false) hF (bF hz14) fun a hF=>xB 1 [(51,.bool false)] hF fun a hF=>wpList_nil (hK15 _ _ (xF hF (wp_skip (hK14 _ _ (wp_seq_k fun K52 hK52=>?_))))))))
       refine wp_region_lit (xB 1 [(58,iv (qN:Int))] hF fun a hF=>wl (sC (f:=64) (args:=#[iv (qN:Int)]) hF (by kernel_rfl) rfl (by decide) (by kernel_rfl) (fun _=>by kernel_rfl) (enterK 9 Tryz.func64 rfl rfl rfl ?_)))
       intro a1 hF1 QR53 hR53 hNR53
       refine wp_seq_k fun K54 hK54=>wp_region_lit (xB 2 [(2,iv 0),(3,.bool false)] hF1 fun a1 hF1=>wpList_nil (hK54 _ _ (wp_seq_k fun K55 hK55=>wp_seq_k fun K56 hK56=>wp_region_lit (xB 1 [(4,iv (qN:Int))] hF1 fun a1 hF1=>wl (xN 5 17 (t:=3) (fun b=>.slice (some ⟨b,0,none⟩) 1 1) #[iv (qN:Int)] hF1 hM fun bb17 a1 w hF1 hM=>wl (xM 6 (v:=.bool true) hF1 hM (xC 60 #[.slice (some ⟨bb17,0,none⟩) 1 1] hF1 (fun w hM=>inRange_yes (some ⟨bb17,0,none⟩) [(qN:Int)] 1 w (hM.roRow (k:=17) rfl) (by simp) (by simp; omega))) fun a1 w hF1 hM=>xB 1 [(7,.bool false)] hF1 fun a1 hF1=>?_))))))
       refine wpList_nil (hK56 _ _ (xF hF1 (wp_skip (hK55 _ _ (wp_seq_k fun K57 hK57=>?_)))))
       have hab:xa.natAbs ≤ 1125899906842624 ∧ xb.natAbs ≤ 1125899906842624:=by omega
       have hMb:M ≤ 1267650600228229401496703205376:=by rw [hMM]; exact Nat.le_trans (Nat.mul_le_mul hab.1 hab.2) (by decide)
       have mul_s:∀ w:World,Calls Tryz.prog 61 #[.int .u64 (xa.natAbs:Int),.int .u64 (xb.natAbs:Int)] w (Ret w (.tuple #[.int .u64 (hiN:Int),.int .u64 (loN:Int)])):=fun w=>(bits_Mul64 xa.natAbs xb.natAbs (by omega) (by omega) w).mono fun e w' hh=>⟨by rw [hh.1,hhi,hlo],hh.2 ▸ Below.refl _ _⟩
       refine wp_region_lit (xB 3 [(8,iv (qN:Int)),(2,iv (qN:Int)),(3,.bool true)] hF1 fun a1 hF1=>wpList_nil (hK57 _ _ (wp_ret (hR53 _ _ (ret_of hF1 hM (.tmp rfl (.tmp rfl (.nil))) ⟨_,rfl,?_⟩)))))
       intro a hF
       refine xB 4 [(60,iv (qN:Int)),(61,.bool true),(6,iv (qN:Int)),(7,.bool true)] hF fun a hF=>wpList_nil (hK52 _ _ (wp_ret (hR0 _ _ (ret_of hF hM (.tmp rfl (.tmp rfl (.nil))) ?_))))
       have hmd:mdB xa xb xc=true ∧ mdV xa xb xc=(qN:Int):=md_yes (by unfold inR; omega) (fl_pos (q:=(qN:Int)) (r:=(rN:Int)) (mul_sign_pos (by omega)) hint (by omega) (by omega)) (by unfold inR; omega)
       exact ⟨ret_eq (by rw [hmd.1,hmd.2]; rfl),hM.bel⟩
      refine wp_region_lit (xB 3 [(13,iv xa),(14,iv xb),(15,iv xc)] hF fun a hF=>wl (xN 16 18 (t:=3) (fun b=>.slice (some ⟨b,0,none⟩) 3 3) #[iv xa,iv xb,iv xc] hF hM fun bb18 a w hF hM=>wl (xM 17 (v:=.bool false) hF hM (xC 60 #[.slice (some ⟨bb18,0,none⟩) 3 3] hF (fun w hM=>inRange_no (some ⟨bb18,0,none⟩) [xa,xb,xc] 3 w (hM.roRow (k:=18) rfl) (by simp) (by intro hh; simp at hh; omega))) fun a w hF hM=>xB 5 [(18,.bool true),(19,.bool true),(20,undef),(21,undef),(22,.bool true)] hF fun a hF=>wpList_nil (hK3 _ _ (xT hF (wp_seq_k fun K58 hK58=>wp_region_lit (xB 2 [(6,iv 0),(7,.bool false)] hF fun a hF=>wpList_nil ?_)))))))
      refine hK58 _ _ (wp_ret (hR0 _ _ (ret_of hF hM (.tmp rfl (.tmp rfl (.nil))) ?_)))
      have hmd:mdB xa xb xc=false ∧ mdV xa xb xc=0:=md_arg (by unfold inR; omega)
      exact ⟨ret_eq (by rw [hmd.1,hmd.2]; rfl),hM.bel⟩
     refine wp_region_lit (xB 3 [(13,iv xa),(14,iv xb),(15,iv xc)] hF fun a hF=>wl (xN 16 19 (t:=3) (fun b=>.slice (some ⟨b,0,none⟩) 3 3) #[iv xa,iv xb,iv xc] hF hM fun bb19 a w hF hM=>wl (xM 17 (v:=.bool false) hF hM (xC 60 #[.slice (some ⟨bb19,0,none⟩) 3 3] hF (fun w hM=>inRange_no (some ⟨bb19,0,none⟩) [xa,xb,xc] 3 w (hM.roRow (k:=19) rfl) (by simp) (by intro hh; simp at hh; omega))) fun a w hF hM=>xB 5 [(18,.bool true),(19,.bool true),(20,undef),(21,undef),(22,.bool true)] hF fun a hF=>wpList_nil (hK3 _ _ (xT hF (wp_seq_k fun K59 hK59=>wp_region_lit (xB 2 [(6,iv 0),(7,.bool false)] hF fun a hF=>wpList_nil ?_)))))))
     refine hK59 _ _ (wp_ret (hR0 _ _ (ret_of hF hM (.tmp rfl (.tmp rfl (.nil))) ?_)))
     have hmd:mdB xa xb xc=false ∧ mdV xa xb xc=0:=md_arg (by unfold inR; omega)
     exact ⟨ret_eq (by rw [hmd.1,hmd.2]; rfl),hM.bel⟩
    refine wp_region_lit (xB 3 [(13,iv xa),(14,iv xb),(15,iv xc)] hF fun a hF=>wl (xN 16 20 (t:=3) (fun b=>.slice (some ⟨b,0,none⟩) 3 3) #[iv xa,iv xb,iv xc] hF hM fun bb20 a w hF hM=>wl (xM 17 (v:=.bool false) hF hM (xC 60 #[.slice (some ⟨bb20,0,none⟩) 3 3] hF (fun w hM=>inRange_no (some ⟨bb20,0,none⟩) [xa,xb,xc] 3 w (hM.roRow (k:=20) rfl) (by simp) (by intro hh; simp at hh; omega))) fun a w hF hM=>xB 5 [(18,.bool true),(19,.bool true),(20,undef),(21,undef),(22,.bool true)] hF fun a hF=>wpList_nil (hK3 _ _ (xT hF (wp_seq_k fun K60 hK60=>wp_region_lit (xB 2 [(6,iv 0),(7,.bool false)] hF fun a hF=>wpList_nil ?_)))))))
    refine hK60 _ _ (wp_ret (hR0 _ _ (ret_of hF hM (.tmp rfl (.tmp rfl (.nil))) ?_)))
    have hmd:mdB xa xb xc=false ∧ mdV xa xb xc=0:=md_arg (by unfold inR; omega)
    exact ⟨ret_eq (by rw [hmd.1,hmd.2]; rfl),hM.bel⟩
   refine wp_region_lit (xB 3 [(13,iv xa),(14,iv xb),(15,iv xc)] hF fun a hF=>wl (xN 16 21 (t:=3) (fun b=>.slice (some ⟨b,0,none⟩) 3 3) #[iv xa,iv xb,iv xc] hF hM fun bb21 a w hF hM=>wl (xM 17 (v:=.bool false) hF hM (xC 60 #[.slice (some ⟨bb21,0,none⟩) 3 3] hF (fun w hM=>inRange_no (some ⟨bb21,0,none⟩) [xa,xb,xc] 3 w (hM.roRow (k:=21) rfl) (by simp) (by intro hh; simp at hh; omega))) fun a w hF hM=>xB 5 [(18,.bool true),(19,.bool true),(20,undef),(21,undef),(22,.bool true)] hF fun a hF=>wpList_nil (hK3 _ _ (xT hF (wp_seq_k fun K61 hK61=>wp_region_lit (xB 2 [(6,iv 0),(7,.bool false)] hF fun a hF=>wpList_nil ?_)))))))
   refine hK61 _ _ (wp_ret (hR0 _ _ (ret_of hF hM (.tmp rfl (.tmp rfl (.nil))) ?_)))
   have hmd:mdB xa xb xc=false ∧ mdV xa xb xc=0:=md_arg (by unfold inR; omega)
   exact ⟨ret_eq (by rw [hmd.1,hmd.2]; rfl),hM.bel⟩
  refine wp_region_lit (xB 3 [(13,iv xa),(14,iv xb),(15,iv xc)] hF fun a hF=>wl (xN 16 22 (t:=3) (fun b=>.slice (some ⟨b,0,none⟩) 3 3) #[iv xa,iv xb,iv xc] hF hM fun bb22 a w hF hM=>wl (xM 17 (v:=.bool false) hF hM (xC 60 #[.slice (some ⟨bb22,0,none⟩) 3 3] hF (fun w hM=>inRange_no (some ⟨bb22,0,none⟩) [xa,xb,xc] 3 w (hM.roRow (k:=22) rfl) (by simp) (by intro hh; simp at hh; omega))) fun a w hF hM=>xB 5 [(18,.bool true),(19,.bool true),(20,undef),(21,undef),(22,.bool true)] hF fun a hF=>wpList_nil (hK3 _ _ (xT hF (wp_seq_k fun K62 hK62=>wp_region_lit (xB 2 [(6,iv 0),(7,.bool false)] hF fun a hF=>wpList_nil ?_)))))))
  refine hK62 _ _ (wp_ret (hR0 _ _ (ret_of hF hM (.tmp rfl (.tmp rfl (.nil))) ?_)))
  have hmd:mdB xa xb xc=false ∧ mdV xa xb xc=0:=md_arg (by unfold inR; omega)
  exact ⟨ret_eq (by rw [hmd.1,hmd.2]; rfl),hM.bel⟩
 refine wp_region_lit (xB 3 [(13,iv xa),(14,iv xb),(15,iv xc)] hF fun a hF=>wl (xN 16 23 (t:=3) (fun b=>.slice (some ⟨b,0,none⟩) 3 3) #[iv xa,iv xb,iv xc] hF hM fun bb23 a w hF hM=>wl (xM 17 (v:=.bool false) hF hM (xC 60 #[.slice (some ⟨bb23,0,none⟩) 3 3] hF (fun w hM=>inRange_no (some ⟨bb23,0,none⟩) [xa,xb,xc] 3 w (hM.roRow (k:=23) rfl) (by simp) (by intro hh; simp at hh; omega))) fun a w hF hM=>xB 5 [(18,.bool true),(19,.bool true),(20,undef),(21,undef),(22,.bool true)] hF fun a hF=>wpList_nil (hK3 _ _ (xT hF (wp_seq_k fun K63 hK63=>wp_region_lit (xB 2 [(6,iv 0),(7,.bool false)] hF fun a hF=>wpList_nil ?_)))))))
 refine hK63 _ _ (wp_ret (hR0 _ _ (ret_of hF hM (.tmp rfl (.tmp rfl (.nil))) ?_)))
 have hmd:mdB xa xb xc=false ∧ mdV xa xb xc=0:=md_arg (by unfold inR; omega)
 exact ⟨ret_eq (by rw [hmd.1,hmd.2]; rfl),hM.bel⟩
end Go.Proofs.YtlngflbamkgjlaaGreat
namespace Go.Proofs.YtlngflbamkgjlaaGreat
set_option linter.unusedVariables false
def svE (r t:Int):Int:=if 1 ≤ r ∧ r ≤ 2097152 ∧ 0 ≤ t ∧ t ≤ 268435456 then 0 else 140
theorem svE_ok {r t:Int} (h:svE r t=0):1 ≤ r ∧ r ≤ 2097152 ∧ 0 ≤ t ∧ t ≤ 268435456:=by
  unfold svE at h
  split at h
  · assumption
  · cases h
theorem svE_yes {r t:Int} (h:1 ≤ r ∧ r ≤ 2097152 ∧ 0 ≤ t ∧ t ≤ 268435456):svE r t=0:=by unfold svE; rw [if_pos h]
theorem svE_not {r t:Int} (h:¬ (1 ≤ r ∧ r ≤ 2097152 ∧ 0 ≤ t ∧ t ≤ 268435456)):svE r t=140:=by unfold svE; rw [if_neg h]
theorem svE_no {r t:Int} (h:¬ svE r t=0):svE r t=140:=svE_not fun q=>h (svE_yes q)
def cq (n d:Int):Int:=-(-n / d)
theorem cq_ge {n d:Int} (hd:1 ≤ d):n ≤ cq n d * d:=by
  have:=Int.ediv_mul_le (-n) (show d ≠ 0 by omega)
  unfold cq
  rw [Int.neg_mul]
  omega
theorem cq_lt {n d:Int} (hd:1 ≤ d):cq n d * d < n + d:=by
  have:=Int.lt_ediv_add_one_mul_self (-n) (show 0 < d by omega)
  rw [Int.add_mul,Int.one_mul] at this
  unfold cq
  rw [Int.neg_mul]
  omega
theorem cq_le {n d B:Int} (hd:1 ≤ d) (h:n ≤ B * d):cq n d ≤ B:=by
  have g:=cq_lt (n:=n) hd
  rcases Int.lt_or_le B (cq n d) with z | z
  · have:=Int.mul_le_mul_of_nonneg_right (show B + 1 ≤ cq n d by omega) (show 0 ≤ d by omega)
    rw [Int.add_mul,Int.one_mul] at this
    omega
  · exact z
theorem le_cq {n d B:Int} (hd:1 ≤ d) (h:B * d < n + d):B ≤ cq n d:=by
  have g:=cq_ge (n:=n) hd
  rcases Int.lt_or_le (cq n d) B with z | z
  · have:=Int.mul_le_mul_of_nonneg_right (show cq n d + 1 ≤ B by omega) (show 0 ≤ d by omega)
    rw [Int.add_mul,Int.one_mul] at this
    omega
  · exact z
theorem cq_nn {n d:Int} (hd:1 ≤ d) (h:0 ≤ n):0 ≤ cq n d:=le_cq hd (by omega)
theorem cq_md {x y d:Int} (hx:0 ≤ x ∧ x ≤ 1125899906842624) (hy:0 ≤ y ∧ y ≤ 1125899906842624) (hd:1 ≤ d ∧ d ≤ 1125899906842624) (hr:x * y ≤ 1125899906842624 * d):-mdV (-x) y d=cq (x * y) d:=by
  have n0:-x * y=-(x * y):=Int.neg_mul x y
  have p0:=Int.mul_nonneg hx.1 hy.1
  have a1:=cq_nn hd.1 p0
  have a2:=cq_le hd.1 hr
  have e:-x * y / d=-cq (x * y) d:=by rw [n0]; unfold cq; omega
  have:=(md_yes (a:=-x) (b:=y) (c:=d) ⟨⟨by omega,by omega⟩,⟨by omega,hy.2⟩,⟨by omega,hd.2⟩,hd.1⟩ e ⟨by omega,by omega⟩).2
  rw [this,Int.neg_neg]
theorem md_bd (x y d:Int):-1125899906842624 ≤ mdV x y d ∧ mdV x y d ≤ 1125899906842624:=by
  unfold mdV
  split
  · rename_i h
    have:=(of_decide_eq_true h:inR x ∧ inR y ∧ inR d ∧ 1 ≤ d ∧ inR (x * y / d)).2.2.2.2
    exact this
  · omega
def crs (r:Int) (p q:Int × Int):Int:=(p.2 - r) * q.1 + (r - q.2) * p.1
def dIn (r:Int) (q:Int × Int) (l:List (Int × Int)):Nat → List Int
  | 0 => []
  | k + 1 => dIn r q l k ++ (if (pr l k).2 ≤ r ∨ q.1 ≤ (pr l k).1 then [] else [cq (crs r (pr l k) q * 1048576) (r * ((pr l k).2 - q.2))])
def dAll (r:Int) (l:List (Int × Int)):Nat → List Int
  | 0 => []
  | k + 1 => dAll r l k ++ (if r < (pr l k).2 then [] else cq ((pr l k).1 * 1048576) r :: dIn r (pr l k) l l.length)
theorem dIn_skip {r:Int} {q:Int × Int} {l:List (Int × Int)} {k:Nat} (h:(pr l k).2 ≤ r ∨ q.1 ≤ (pr l k).1):dIn r q l (k + 1)=dIn r q l k:=by show dIn r q l k ++ _=_; rw [if_pos h,List.append_nil]
theorem dIn_take {r:Int} {q:Int × Int} {l:List (Int × Int)} {k:Nat} (h:¬ ((pr l k).2 ≤ r ∨ q.1 ≤ (pr l k).1)):dIn r q l (k + 1)=dIn r q l k ++ [cq (crs r (pr l k) q * 1048576) (r * ((pr l k).2 - q.2))]:=by show dIn r q l k ++ _=_; rw [if_neg h]
theorem dAll_skip {r:Int} {l:List (Int × Int)} {k:Nat} (h:r < (pr l k).2):dAll r l (k + 1)=dAll r l k:=by show dAll r l k ++ _=_; rw [if_pos h,List.append_nil]
theorem dAll_take {r:Int} {l:List (Int × Int)} {k:Nat} (h:¬ r < (pr l k).2):dAll r l (k + 1)=dAll r l k ++ cq ((pr l k).1 * 1048576) r :: dIn r (pr l k) l l.length:=by show dAll r l k ++ _=_; rw [if_neg h]
theorem dIn_len (r:Int) (q:Int × Int) (l:List (Int × Int)):∀ k,(dIn r q l k).length ≤ k
  | 0 => Nat.le_refl _
  | k + 1 => by
    have:=dIn_len r q l k
    by_cases h:(pr l k).2 ≤ r ∨ q.1 ≤ (pr l k).1
    · rw [dIn_skip h]; omega
    · rw [dIn_take h,List.length_append]; simp; omega
theorem dAll_len (r:Int) (l:List (Int × Int)):∀ k,(dAll r l k).length ≤ k * (l.length + 1)
  | 0 => Nat.zero_le _
  | k + 1 => by
    have:=dAll_len r l k
    have e:(k + 1) * (l.length + 1)=k * (l.length + 1) + (l.length + 1):=Nat.succ_mul _ _
    by_cases h:r < (pr l k).2
    · rw [dAll_skip h]; omega
    · have:=dIn_len r (pr l k) l l.length
      rw [dAll_take h,List.length_append,List.length_cons]; omega
theorem d_len (r:Int) (l:List (Int × Int)) {k j:Nat} (q:Int × Int) (x:Int) (hl:l.length ≤ 12) (hk:k < l.length) (hj:j ≤ l.length):(dAll r l k).length < 200 ∧ (dAll r l k ++ x :: dIn r q l j).length < 200:=by
  have h1:=dAll_len r l k
  have h2:=dIn_len r q l j
  have h3:k * (l.length + 1) ≤ 12 * 13:=Nat.mul_le_mul (by omega) (by omega)
  rw [List.length_append,List.length_cons]
  omega
def clS (s:Int × Bool) (n:Int):Int × Bool:=if s.2=true ∧ ¬ n < s.1 then s else (n,true)
def clF (l:List Int):Int × Bool:=l.foldl clS (0,false)
theorem clF_snoc (l:List Int) (x:Int):clF (l ++ [x])=clS (clF l) x:=by unfold clF; rw [List.foldl_append]; rfl
theorem crs_bd {r:Int} {p q:Int × Int} (hr:1 ≤ r ∧ r ≤ 2097152) (hp:1 ≤ p.1 ∧ p.1 ≤ 1048576 ∧ 1 ≤ p.2 ∧ p.2 ≤ 2097152) (hq:1 ≤ q.1 ∧ q.1 ≤ 1048576 ∧ 1 ≤ q.2 ∧ q.2 ≤ 2097152) (h1:r < p.2) (h2:q.2 ≤ r) (h3:p.1 < q.1) :
    1 ≤ crs r p q ∧ crs r p q ≤ q.1 * (p.2 - q.2) ∧ q.1 * (p.2 - q.2) ≤ 2199023255552 ∧ 1 ≤ r * (p.2 - q.2) ∧ r * (p.2 - q.2) ≤ 4398046511104:=by
  have a1:1 * 1 ≤ (p.2 - r) * q.1:=Int.mul_le_mul (by omega) (by omega) (by omega) (by omega)
  have a2:=Int.mul_nonneg (show 0 ≤ r - q.2 by omega) (show 0 ≤ p.1 by omega)
  have a3:(r - q.2) * p.1 ≤ (r - q.2) * q.1:=Int.mul_le_mul_of_nonneg_left (by omega) (by omega)
  have a4:(p.2 - r) * q.1 + (r - q.2) * q.1=q.1 * (p.2 - q.2):=by rw [← Int.add_mul,Int.mul_comm]; congr 1; omega
  have a5:q.1 * (p.2 - q.2) ≤ 1048576 * 2097152:=Int.mul_le_mul (by omega) (by omega) (by omega) (by omega)
  have a6:1 * 1 ≤ r * (p.2 - q.2):=Int.mul_le_mul (by omega) (by omega) (by omega) (by omega)
  have a7:r * (p.2 - q.2) ≤ 2097152 * 2097152:=Int.mul_le_mul (by omega) (by omega) (by omega) (by omega)
  unfold crs
  omega
theorem crs_ce {r:Int} {p q:Int × Int} (hr:1 ≤ r ∧ r ≤ 2097152) (hp:1 ≤ p.1 ∧ p.1 ≤ 1048576 ∧ 1 ≤ p.2 ∧ p.2 ≤ 2097152) (hq:1 ≤ q.1 ∧ q.1 ≤ 1048576 ∧ 1 ≤ q.2 ∧ q.2 ≤ 2097152) (h1:r < p.2) (h2:q.2 ≤ r) (h3:p.1 < q.1) :
    crs r p q * 1048576 ≤ 1125899906842624 * (r * (p.2 - q.2)):=by
  have b:=crs_bd hr hp hq h1 h2 h3
  have a1:q.1 * (p.2 - q.2) ≤ 1048576 * (p.2 - q.2):=Int.mul_le_mul_of_nonneg_right (by omega) (by omega)
  have a2:1 * (p.2 - q.2) ≤ r * (p.2 - q.2):=Int.mul_le_mul_of_nonneg_right (by omega) (by omega)
  omega
theorem crs_parts {r:Int} {p q:Int × Int} (hr:1 ≤ r ∧ r ≤ 2097152) (hp:1 ≤ p.1 ∧ p.1 ≤ 1048576 ∧ 1 ≤ p.2 ∧ p.2 ≤ 2097152) (hq:1 ≤ q.1 ∧ q.1 ≤ 1048576 ∧ 1 ≤ q.2 ∧ q.2 ≤ 2097152) (h1:r < p.2) (h2:q.2 ≤ r) :
    (0 ≤ (p.2 - r) * q.1 ∧ (p.2 - r) * q.1 ≤ 2199023255552) ∧ 0 ≤ (r - q.2) * p.1 ∧ (r - q.2) * p.1 ≤ 2199023255552 :=
  ⟨mul_bd 0 2097152 0 1048576 (by omega) (by omega) (by omega) (by omega) (by decide),mul_bd 0 2097152 0 1048576 (by omega) (by omega) (by omega) (by omega) (by decide)⟩
end Go.Proofs.YtlngflbamkgjlaaGreat
namespace Go.Proofs.YtlngflbamkgjlaaGreat
open Go.RowKit
set_option linter.unusedVariables false
set_option linter.unusedSimpArgs false
set_option maxRecDepth 100000
theorem ceil_w (xa xb xc:Int) (w0:World) (h:-1125899906842624 ≤ xa ∧ xa ≤ 1125899906842624) :
    Calls Tryz.prog 25 #[iv xa,iv xb,iv xc] w0 (Ret w0 (.int .i64 (-mdV (-xa) xb xc))):=by
 refine enterK 19 Tryz.func25 rfl rfl rfl ?_
 intro a hF Q0 hR0 hN0
 have hM:=Mem.start w0
 refine wp_seq_k fun K1 hK1=>wp_region_lit (xB 1 [(6,iv 0)] hF fun a hF=>wpList_nil (hK1 _ _ (wp_seq_k fun K2 hK2=>wp_region_lit (xB 1 [(10,iv xa)] hF fun a hF=>wl (xP 11 (v0:=.int .i64 (IntKind.i64.wrap (0 - xa))) (v:=iv (-xa)) hF (vi (by rw [Int.zero_sub]; exact (w64 (by omega)))) fun a hF=>xB 2 [(12,iv xb),(13,iv xc)] hF fun a hF=>wl (xM 14 (v:=.tuple #[iv (mdV (-xa) xb xc),.bool (mdB (-xa) xb xc)]) hF hM (xC 44 #[iv (-xa),iv xb,iv xc] hF (fun w hM=>mulDiv_w (-xa) xb xc w)) fun a w hF hM=>?_))))))
 have:=md_bd (-xa) xb xc
 refine xB 5 [(9,.tuple #[iv (mdV (-xa) xb xc),.bool (mdB (-xa) xb xc)]),(15,iv (mdV (-xa) xb xc)),(16,.bool (mdB (-xa) xb xc)),(7,iv (mdV (-xa) xb xc)),(8,.bool (mdB (-xa) xb xc))] hF fun a hF=>wpList_nil (hK2 _ _ (wp_seq_k fun K3 hK3=>wp_region_lit (xB 1 [(17,iv (mdV (-xa) xb xc))] hF fun a hF=>wl (xP 18 (v0:=.int .i64 (IntKind.i64.wrap (0 - mdV (-xa) xb xc))) (v:=iv (-mdV (-xa) xb xc)) hF (vi (by rw [Int.zero_sub]; exact (w64 (by omega)))) fun a hF=>xB 1 [(6,iv (-mdV (-xa) xb xc))] hF fun a hF=>wpList_nil (hK3 _ _ (wp_ret (hR0 _ _ ?_)))))))
 refine ret_of hF hM (.tmp rfl (.nil)) (⟨rfl,hM.bel⟩)
theorem ceil_cq (x y d:Int) (w0:World) (hx:0 ≤ x ∧ x ≤ 1125899906842624) (hy:0 ≤ y ∧ y ≤ 1125899906842624) (hd:1 ≤ d ∧ d ≤ 1125899906842624) (hr:x * y ≤ 1125899906842624 * d):Calls Tryz.prog 25 #[.int .i64 x,.int .i64 y,.int .i64 d] w0 (Ret w0 (.int .i64 (cq (x * y) d))):=by
  have q:=ceil_w x y d w0 (by omega)
  rw [cq_md hx hy hd hr] at q
  exact q
end Go.Proofs.YtlngflbamkgjlaaGreat
namespace Go.Proofs.YtlngflbamkgjlaaGreat
open Go.RowKit Go.Shelf
set_option linter.unusedVariables false
set_option linter.unusedSimpArgs false
attribute [local go_sem] Oper.semAt_some
structure KX (b1 b2:Nat) (W W':World):Prop where
  size:W.heap.size ≤ W'.heap.size
  same:∀ (k:Nat) (o:Obj),k ≠ b1 → k ≠ b2 → W.heap[k]?=some o → o.isCells=true → W'.heap[k]?=some o
theorem KX.refl (b1 b2:Nat) (W:World):KX b1 b2 W W:=⟨Nat.le_refl _,fun _ _ _ _ h _=>h⟩
theorem KX.trans {b1 b2:Nat} {X Y Z:World} (h:KX b1 b2 X Y) (k:KX b1 b2 Y Z):KX b1 b2 X Z:=⟨Nat.le_trans h.size k.size,fun i o h1 h2 hi ho=>k.same i o h1 h2 (h.same i o h1 h2 hi ho) ho⟩
theorem KX.below {b1 b2:Nat} {W W':World} (h:Below W.heap.size W W'):KX b1 b2 W W':=⟨h.size,fun k o _ _ hk _=>(h.block k (Array.getElem?_eq_some_iff.1 hk).1).trans hk⟩
theorem KX.alloc {b1 b2:Nat} (W:World) (o:Obj):KX b1 b2 W (W.alloc o):=⟨by rw [World.size_alloc]; omega,fun k o' _ _ hk _=>(Below.heap_alloc W o k (Array.getElem?_eq_some_iff.1 hk).1).trans hk⟩
theorem KX.put {b1 b2:Nat} {w:World} (W:World) (l:Nat) (o o':Obj) (_:w.heap.size ≤ l) (h:W.heap[l]?=some o) (hc:o.isCells=false) (_:o.isWalk=false):KX b1 b2 W (W.putObj l o'):=by
  refine ⟨by simp,fun k q _ _ hk hq=>?_⟩
  by_cases e:k=l
  · subst e; rw [h] at hk; cases hk; rw [hc] at hq; cases hq
  · rw [World.putObj_heap_other e]; exact hk
theorem KX.setCell {b1 b2:Nat} (W:World) (p:Addr) (v:Value) (hp:p.block=b1 ∨ p.block=b2):KX b1 b2 W (W.setCell p v) :=
  ⟨by simp,fun k o h1 h2 hk _=>(Below.heap_setCell W p v k (by omega)).trans hk⟩
theorem KX.cell {b1 b2:Nat} {W W':World} (h:KX b1 b2 W W') {p:Addr} {v:Value} (h1:p.block ≠ b1) (h2:p.block ≠ b2) (hc:W.cell? p=some v):W'.cell? p=some v:=by
  obtain ⟨o,ho,hq⟩:=cells_of_cell hc
  rw [World.cell?_of_block (w:=W) ((h.same p.block o h1 h2 ho hq).trans ho.symm)]
  exact hc
theorem abides_below {β:Type} {B:Nat} {J:β → World → Prop} (h:AbidesFrom B J) {s:β} {W W':World} (hs:J s W) (hb:Below W.heap.size W W'):J s W' :=
  h s W W' none hs ⟨hb.os,hb.tape,hb.output,hb.size,fun k hk _=>hb.block k hk⟩ (fun _ e=>by cases e)
set_option maxRecDepth 100000 in
set_option maxHeartbeats 8000000 in
theorem dist1_in (n:Nat) (hn:1 ≤ n) (l Bl Br b1 b2 n₀:Nat) (A:Option Addr) (cap:Nat) (r:Int) (tr:List (Int × Int)) (hr:1 ≤ r ∧ r ≤ 2097152) (htl:tr.length ≤ 12)
    (htr:∀ k,k < tr.length → 1 ≤ (pr tr k).1 ∧ (pr tr k).1 ≤ 1048576 ∧ 1 ≤ (pr tr k).2 ∧ (pr tr k).2 ≤ 2097152) (hbb:Bl ≠ b1 ∧ Bl ≠ b2 ∧ Br ≠ b1 ∧ Br ≠ b2) (hn₀:n₀ ≤ b1 ∧ n₀ ≤ b2)
    (J Jx:List Int → World → Prop) (W:World) (hbs:b1 < W.heap.size ∧ b2 < W.heap.size) (hJa:AbidesFrom W.heap.size J)
    (hY:∀ pre x W,J pre W → pre.length < 200 → YieldAt Fence.wide (n - 1) Tryz.prog l #[.int .i64 x] W fun e W' =>
      (e=.returned (.bool true) ∧ J (pre ++ [x]) W' ∧ KX b1 b2 W W') ∨ (e=.returned (.bool false) ∧ Jx (pre ++ [x]) W'))
    (hBl:W.cell? ⟨Bl,0,none⟩=some (.slice A tr.length cap)) (hBr:W.cell? ⟨Br,0,none⟩=some (.int .i64 r)) (hc:Arr2 W n₀ A tr) (h0:J [] W) :
    CallsIn Fence.wide n Tryz.prog 59 #[.func (.yield l) #[] #[],.pointer (some ⟨Bl,0,none⟩),.pointer (some ⟨Br,0,none⟩)] W fun e W'=>(∃ v,e=.returned v) ∧
      ((∃ ys,ys=dAll r tr tr.length ∧ J ys W') ∨ (∃ pre,True ∧ Jx pre W')):=by
  obtain ⟨len,hlen⟩:∃ n,tr.length=n:=⟨_,rfl⟩
  have HLEN:=hide hlen
  rw [hlen] at hBl htl htr ⊢
  clear hlen
  have HTR:=hide htr
  clear htr
  refine callsIn_of_wp Tryz.func59 rfl trivial ?_ rfl
  simp only [Tryz.ntmps59,List.size_toArray,List.length_cons,List.length_nil,Nat.reduceAdd,Nat.reduceSub,Array.replicate_succ,Array.replicate_zero,List.push_toArray,List.append_toArray,List.nil_append,List.cons_append]
  gi_wp2
  gi_loopw [11] (fun i wr=>∃ k:Nat,k ≤ len ∧ i=.int .i64 k ∧ J (dAll r tr k) wr ∧ KX b1 b2 W wr)
    (fun i _=>len - (intOf i).toNat)
  case atStart=>exact ⟨0,Nat.zero_le _,rfl,h0,KX.refl _ _ _⟩
  case round =>
    obtain ⟨wo,rfl⟩:∃ wo:World,wo=wr:=⟨_,rfl⟩
    obtain ⟨k,hk,rfl,hJs,hnx⟩:=hrel
    have hbl:=hnx.cell (p:=⟨Bl,0,none⟩) hbb.1 hbb.2.1 hBl
    have hbr:=hnx.cell (p:=⟨Br,0,none⟩) hbb.2.2.1 hbb.2.2.2 hBr
    by_cases hlt:k < len
    · have hlt':k < tr.length:=by rw [HLEN.out]; exact hlt
      obtain ⟨bk,off,rfl,hbk,g1,g2⟩:=hc k _ (pr_some hlt')
      have g1':=hnx.cell (p:=⟨bk,off + k * 2,none⟩) (show bk ≠ b1 by omega) (show bk ≠ b2 by omega) g1
      have g2':=hnx.cell (p:=⟨bk,off + k * 2 + 1,none⟩) (show bk ≠ b1 by omega) (show bk ≠ b2 by omega) g2
      clear g1 g2
      have t:=HTR.out k hlt
      have hbrA:=(KX.alloc (b1:=b1) (b2:=b2) wo (.cells #[.int .i64 (pr tr k).1,.int .i64 (pr tr k).2] 33)).cell (p:=⟨Br,0,none⟩) hbb.2.2.1 hbb.2.2.2 hbr
      by_cases hf:r < (pr tr k).2
      · gi_wp2
        go_roundw
        case rel=>exact ⟨k + 1,by omega,by simp,by rw [dAll_skip hf]; exact abides_alloc hJa _ hJs,hnx.trans (KX.alloc _ _)⟩
        case measure=>simp [intOf]; omega
      · have hx0:(pr tr k).1 * 1048576 ≤ 1125899906842624 * r:=by omega
        have hY1:∀ W2,Below (wo.alloc (.cells #[.int .i64 (pr tr k).1,.int .i64 (pr tr k).2] 33)).heap.size (wo.alloc (.cells #[.int .i64 (pr tr k).1,.int .i64 (pr tr k).2] 33)) W2 → _:=fun W2 hb2=>hY (dAll r tr k) (cq ((pr tr k).1 * 1048576) r) W2 (abides_below hJa (abides_alloc hJa _ hJs) hb2) (d_len r tr (j:=0) (pr tr k) 0 (by rw [HLEN.out]; exact htl) hlt' (Nat.zero_le _)).1
        gi_wp2
        refine ⟨trivial,?_⟩
        refine (callsIn_wide.2 (ceil_cq (pr tr k).1 1048576 r _ (by omega) (by omega) (by omega) hx0)).mono ?_
        rintro e W2 ⟨rfl,hb2⟩
        obtain ⟨fn,tmps,assign,body,hy,hR⟩:=hY1 W2 hb2
        gi_wp2
        refine hR.mono ?_
        rintro e W3 (⟨rfl,hJ3,hk3⟩ | ⟨rfl,hJx3⟩)
        · have hA:=(KX.alloc (b1:=b1) (b2:=b2) wo (.cells #[.int .i64 (pr tr k).1,.int .i64 (pr tr k).2] 33)).trans ((KX.below hb2).trans hk3)
          have hsz:b1 < wo.heap.size ∧ b2 < wo.heap.size:=by have:=hnx.size; omega
          have hbl3:=hA.cell (p:=⟨Bl,0,none⟩) hbb.1 hbb.2.1 hbl
          have hbr3:=hA.cell (p:=⟨Br,0,none⟩) hbb.2.2.1 hbb.2.2.2 hbr
          have hq1:W3.cell? ⟨wo.heap.size,0,none⟩=some (.int .i64 (pr tr k).1):=((KX.below hb2).trans hk3).cell (p:=⟨wo.heap.size,0,none⟩) (show wo.heap.size ≠ b1 by omega) (show wo.heap.size ≠ b2 by omega) (World.cell?_alloc_at _ _ _ _ (by simp))
          have hq2:W3.cell? ⟨wo.heap.size,1,none⟩=some (.int .i64 (pr tr k).2):=((KX.below hb2).trans hk3).cell (p:=⟨wo.heap.size,1,none⟩) (show wo.heap.size ≠ b1 by omega) (show wo.heap.size ≠ b2 by omega) (World.cell?_alloc_at _ _ _ _ (by simp))
          have hn3:=hnx.trans hA
          clear hA hy hR hbrA hY1
          gi_wp2
          gi_loopw [28] (fun j wq=>∃ m:Nat,m ≤ len ∧ j=.int .i64 m ∧ J (dAll r tr k ++ cq ((pr tr k).1 * 1048576) r :: dIn r (pr tr k) tr m) wq ∧ KX b1 b2 W3 wq)
            (fun j _=>len - (intOf j).toNat)
          case atStart=>exact ⟨0,Nat.zero_le _,rfl,hJ3,KX.refl _ _ _⟩
          case round =>
            obtain ⟨m,hm,rfl,hJm,hnm⟩:=hrel
            have hbl4:=hnm.cell (p:=⟨Bl,0,none⟩) hbb.1 hbb.2.1 hbl3
            have hbr4:=hnm.cell (p:=⟨Br,0,none⟩) hbb.2.2.1 hbb.2.2.2 hbr3
            have hq3:=hnm.cell (p:=⟨wo.heap.size,0,none⟩) (show wo.heap.size ≠ b1 by omega) (show wo.heap.size ≠ b2 by omega) hq1
            have hq4:=hnm.cell (p:=⟨wo.heap.size,1,none⟩) (show wo.heap.size ≠ b1 by omega) (show wo.heap.size ≠ b2 by omega) hq2
            by_cases hl2:m < len
            · have hl2':m < tr.length:=by rw [HLEN.out]; exact hl2
              obtain ⟨bk2,off2,e2,hbk2,g3,g4⟩:=hc m _ (pr_some hl2')
              obtain ⟨rfl,rfl⟩:bk=bk2 ∧ off=off2:=by simpa using e2
              have g3':=(hn3.trans hnm).cell (p:=⟨bk,off + m * 2,none⟩) (show bk ≠ b1 by omega) (show bk ≠ b2 by omega) g3
              have g4':=(hn3.trans hnm).cell (p:=⟨bk,off + m * 2 + 1,none⟩) (show bk ≠ b1 by omega) (show bk ≠ b2 by omega) g4
              clear g3 g4 e2
              have t2:=HTR.out m hl2
              have hA:=KX.alloc (b1:=b1) (b2:=b2) wr (.cells #[.int .i64 (pr tr m).1,.int .i64 (pr tr m).2] 33)
              have hbrB:=hA.cell (p:=⟨Br,0,none⟩) hbb.2.2.1 hbb.2.2.2 hbr4
              have hqB:=hA.cell (p:=⟨wo.heap.size,0,none⟩) (show wo.heap.size ≠ b1 by omega) (show wo.heap.size ≠ b2 by omega) hq3
              have hqC:=hA.cell (p:=⟨wo.heap.size,1,none⟩) (show wo.heap.size ≠ b1 by omega) (show wo.heap.size ≠ b2 by omega) hq4
              by_cases hs:(pr tr m).2 ≤ r
              · gi_wp2
                go_roundw
                case rel=>exact ⟨m + 1,by omega,by simp,by rw [dIn_skip (.inl hs)]; exact abides_alloc hJa _ hJm,hnm.trans (KX.alloc _ _)⟩
                case measure=>simp [intOf]; omega
              · by_cases hs2:(pr tr k).1 ≤ (pr tr m).1
                · gi_wp2
                  go_roundw
                  case rel=>exact ⟨m + 1,by omega,by simp,by rw [dIn_skip (.inr hs2)]; exact abides_alloc hJa _ hJm,hnm.trans (KX.alloc _ _)⟩
                  case measure=>simp [intOf]; omega
                · have cb:=crs_bd hr t2 t (by omega) (by omega) (by omega)
                  have cc:=crs_ce hr t2 t (by omega) (by omega) (by omega)
                  have cp:=crs_parts hr t2 t (by omega) (by omega)
                  have hY2:∀ W4,Below (wr.alloc (.cells #[.int .i64 (pr tr m).1,.int .i64 (pr tr m).2] 33)).heap.size (wr.alloc (.cells #[.int .i64 (pr tr m).1,.int .i64 (pr tr m).2] 33)) W4 → _:=fun W4 hb4=>hY (dAll r tr k ++ cq ((pr tr k).1 * 1048576) r :: dIn r (pr tr k) tr m) (cq (crs r (pr tr m) (pr tr k) * 1048576) (r * ((pr tr m).2 - (pr tr k).2))) W4 (abides_below hJa (abides_alloc hJa _ hJm) hb4) (d_len r tr (j:=m) (pr tr k) _ (by rw [HLEN.out]; exact htl) hlt' (Nat.le_of_lt hl2')).2
                  gi_wp2
                  refine ⟨trivial,?_⟩
                  refine (callsIn_wide.2 (ceil_cq (crs r (pr tr m) (pr tr k)) 1048576 (r * ((pr tr m).2 - (pr tr k).2)) _ (by omega) (by omega) (by omega) cc)).mono ?_
                  rintro e W4 ⟨rfl,hb4⟩
                  obtain ⟨fn,tmps,assign,body,hy,hR⟩:=hY2 W4 hb4
                  gi_wp2
                  refine hR.mono ?_
                  rintro e W5 (⟨rfl,hJ5,hk5⟩ | ⟨rfl,hJx5⟩)
                  · gi_wp2
                    go_roundw
                    case rel=>exact ⟨m + 1,by omega,by simp,by rw [dIn_take (by omega),← List.cons_append,← List.append_assoc]; exact hJ5,hnm.trans (hA.trans ((KX.below hb4).trans hk5))⟩
                    case measure=>simp [intOf]; omega
                  · gi_wp2
                    refine bodyPost_ret (results_none rfl _ _ _) rfl ?_
                    exact ⟨⟨_,rfl⟩,.inr ⟨_,trivial,hJx5⟩⟩
            · obtain rfl:m=len:=by omega
              gi_wp2
              go_roundw
              case rel=>exact ⟨k + 1,by omega,by simp,by rw [dAll_take (by omega),HLEN.out]; exact hJm,hn3.trans hnm⟩
              case measure=>simp [intOf]; omega
        · gi_wp2
          refine bodyPost_ret (results_none rfl _ _ _) rfl ?_
          exact ⟨⟨_,rfl⟩,.inr ⟨_,trivial,hJx3⟩⟩
    · obtain rfl:k=len:=by omega
      gi_wp2
      go_end0
      exact ⟨⟨_,rfl⟩,.inl ⟨_,rfl,hJs⟩⟩
set_option maxHeartbeats 1000000 in
theorem dist_in (n:Nat) (r:Int) (A:Option Addr) (len cap:Nat) (w:World) :
    CallsIn Fence.wide n Tryz.prog 40 #[.slice A len cap,.int .i64 r] w fun e w'=>e=.returned (.func (.func 59) #[] #[.pointer (some ⟨w.heap.size,0,none⟩),.pointer (some ⟨w.heap.size + 1,0,none⟩)]) ∧
      w'=(w.alloc (.cells #[.slice A len cap] 41)).alloc (.cells #[.int .i64 r] 3):=by
  refine callsIn_of_wp Tryz.func40 rfl trivial ?_ rfl
  simp only [Tryz.ntmps40,List.size_toArray,List.length_cons,List.length_nil,Nat.reduceAdd,Nat.reduceSub,Array.replicate_succ,Array.replicate_zero,List.push_toArray,List.append_toArray,List.nil_append,List.cons_append]
  gi_wp2
  go_ret
  exact ⟨rfl,rfl⟩
theorem dist_stops (n:Nat) (hn:1 ≤ n) (Bl Br b1 b2 n₀:Nat) (A:Option Addr) (cap:Nat) (r:Int) (tr:List (Int × Int)) (hr:1 ≤ r ∧ r ≤ 2097152) (htl:tr.length ≤ 12)
    (htr:∀ k,k < tr.length → 1 ≤ (pr tr k).1 ∧ (pr tr k).1 ≤ 1048576 ∧ 1 ≤ (pr tr k).2 ∧ (pr tr k).2 ≤ 2097152) (hbb:Bl ≠ b1 ∧ Bl ≠ b2 ∧ Br ≠ b1 ∧ Br ≠ b2) (hn₀:n₀ ≤ b1 ∧ n₀ ≤ b2) (w:World) (hbs:b1 < w.heap.size ∧ b2 < w.heap.size) (hBb:Bl < w.heap.size ∧ Br < w.heap.size)
    (hBl:w.cell? ⟨Bl,0,none⟩=some (.slice A tr.length cap)) (hBr:w.cell? ⟨Br,0,none⟩=some (.int .i64 r)) (hc:Arr2 w n₀ A tr) :
    SeqStopsK Fence.wide n Tryz.prog 59 #[.pointer (some ⟨Bl,0,none⟩),.pointer (some ⟨Br,0,none⟩)] (fun x:Int=>#[Value.int .i64 x]) (KX b1 b2) (fun ys=>ys=dAll r tr tr.length)
      (fun pre=>True) 200 w:=fun l J Jx W hW hJ _ hY h0=>by
  have hsz:=hW.size
  exact dist1_in n hn l Bl Br b1 b2 n₀ A cap r tr hr htl htr hbb hn₀ J Jx W (by omega) hJ hY ((hW.cell (p:=⟨Bl,0,none⟩) hBb.1).trans hBl) ((hW.cell (p:=⟨Br,0,none⟩) hBb.2).trans hBr) (hc.below (hW.mono (by omega)) (Nat.le_refl _)) h0
theorem boxed_kept {W W':World} {row:Option Nat} {B:Nat} {t:TypeId} {v:Value} (h:Boxed W B t v) (hg:W.grownBy W' row) (hr:∀ r,row=some r → ∃ o:Obj,W.heap[r]?=some o ∧ o.isCells=false):Boxed W' B t v :=
  h.kept hg (fun e=>by obtain ⟨o,ho,hc⟩:=hr B e.symm; rw [show W.heap[B]?=_ from h] at ho; cases ho; cases hc)
set_option maxRecDepth 100000 in
set_option maxHeartbeats 4000000 in
theorem clearing_in (n:Nat) (hn:3 ≤ n) (r:Int) (A:Option Addr) (tr:List (Int × Int)) (cap:Nat) (hr:1 ≤ r ∧ r ≤ 2097152) (htl:tr.length ≤ 12)
    (htr:∀ k,k < tr.length → 1 ≤ (pr tr k).1 ∧ (pr tr k).1 ≤ 1048576 ∧ 1 ≤ (pr tr k).2 ∧ (pr tr k).2 ≤ 2097152) (w:World) (hc:Arr2 w w.heap.size A tr) :
    CallsIn Fence.wide n Tryz.prog 23 #[.slice A tr.length cap,.int .i64 r] w (Ret w (.tuple #[.int .i64 (clF (dAll r tr tr.length)).1,.bool (clF (dAll r tr tr.length)).2])):=by
  have h1:1 ≤ n:=by omega
  have HC:=hide hc
  have HTR:=hide htr
  clear hc htr
  refine callsIn_of_wp_marks Tryz.func23 rfl trivial ?_ rfl
  simp only [Tryz.ntmps23,List.size_toArray,List.length_cons,List.length_nil,Nat.reduceAdd,Nat.reduceSub,Array.replicate_succ,Array.replicate_zero,List.push_toArray,List.append_toArray,List.nil_append,List.cons_append]
  gi_wp2
  refine ⟨trivial,?_⟩
  refine (dist_in (n - 1) _ _ _ _ _).mono ?_
  rintro e w' ⟨rfl,rfl⟩
  gi_wp2
  obtain ⟨W0,hW0⟩:∃ W0,(((w.alloc (.cells #[.int .i64 0] 3)).alloc (.cells #[.bool false] 4)).alloc (.cells #[.slice A tr.length cap] 41)).alloc (.cells #[.int .i64 r] 3)=W0:=⟨_,rfl⟩
  have hsz:W0.heap.size=w.heap.size + 4:=by rw [← hW0]; simp
  have x1:Boxed W0 w.heap.size 3 (.int .i64 0):=by rw [← hW0]; exact (((Boxed.new w 3 _).alloc _).alloc _).alloc _
  have x2:Boxed W0 (w.heap.size + 1) 4 (.bool false):=by
    have q:=((Boxed.new (w.alloc (.cells #[.int .i64 0] 3)) 4 (.bool false)).alloc (.cells #[.slice A tr.length cap] 41)).alloc (.cells #[.int .i64 r] 3)
    rw [World.size_alloc,hW0] at q
    exact q
  have x3:Boxed W0 (w.heap.size + 1 + 1) 41 (.slice A tr.length cap):=by
    have q:=(Boxed.new ((w.alloc (.cells #[.int .i64 0] 3)).alloc (.cells #[.bool false] 4)) 41 (.slice A tr.length cap)).alloc (.cells #[.int .i64 r] 3)
    rw [World.size_alloc,World.size_alloc,hW0] at q
    exact q
  have x4:Boxed W0 (w.heap.size + 1 + 1 + 1) 3 (.int .i64 r):=by
    have q:=Boxed.new (((w.alloc (.cells #[.int .i64 0] 3)).alloc (.cells #[.bool false] 4)).alloc (.cells #[.slice A tr.length cap] 41)) 3 (.int .i64 r)
    rw [World.size_alloc,World.size_alloc,World.size_alloc,hW0] at q
    exact q
  have hB0:Below w.heap.size w W0:=by
    rw [← hW0]
    exact ((((Below.refl _ w).alloc (by simp) _).alloc (by simp) _).alloc (by rw [World.size_alloc,World.size_alloc]; omega) _).alloc (by rw [World.size_alloc,World.size_alloc,World.size_alloc]; omega) _
  rw [hW0]
  clear hW0
  refine wpIn_rangeFunc_ownG rfl h1 (gf:=59) (lb:=#[.pointer (some ⟨w.heap.size + 1 + 1,0,none⟩),.pointer (some ⟨w.heap.size + 1 + 1 + 1,0,none⟩)]) rfl trivial (enters_of Tryz.func59 (by kernel_rfl) rfl)
    (dist_stops (n - 1) (by omega) (w.heap.size + 1 + 1) (w.heap.size + 1 + 1 + 1) w.heap.size (w.heap.size + 1) w.heap.size A cap r tr hr htl HTR.out (by omega) (by omega) W0 (by omega) (by omega) x3.cell x4.cell (HC.out.below hB0 (Nat.le_refl _))) (fun h k=>h.trans k) (fun W l o o' q1 q2 q3 q4=>KX.put W l o o' q1 q2 q3 q4) (Below.refl _ _) (fun _=>rfl)
    (fun pre W=>(Boxed W w.heap.size 3 (.int .i64 (clF pre).1) ∧ Boxed W (w.heap.size + 1) 4 (.bool (clF pre).2)) ∧ Below w.heap.size w W)
    (fun c pre W=>False)
    (OwnFrom.and (Own.from (fun s A B row hs hg hr=>⟨boxed_kept hs.1 hg hr,boxed_kept hs.2 hg hr⟩) _) (ownFrom_below (Nat.le_refl _) (by omega)))
    (fun c=>fun _ _ _ _ hs _ _=>hs.elim)
    ⟨⟨x1,x2⟩,hB0⟩
    (fun x=>{ tmps:=#[.slice A tr.length cap,.int .i64 r,undef,undef,.int .i64 0,.bool false,.pointer (some ⟨w.heap.size,0,none⟩),.pointer (some ⟨w.heap.size + 1,0,none⟩),.int .i64 x,.slice A tr.length cap,.int .i64 r,.func (.func 59) #[] #[.pointer (some ⟨w.heap.size + 1 + 1,0,none⟩),.pointer (some ⟨w.heap.size + 1 + 1 + 1,0,none⟩)],.int .i64 x,undef,undef,undef,undef,undef,undef,undef,undef,undef,undef],defers:=[] }) ?assign ?body ?done ?stop
  case assign =>
    intro l x W K hK
    gi_wp2
    exact hK
  case body =>
    rintro l pre x W ⟨⟨q1,q2⟩,hB⟩ _
    have set2:clF (pre ++ [x])=(x,true) → KeepsFrom W0.heap.size W ((W.setCell ⟨w.heap.size,0,none⟩ (.int .i64 x)).setCell ⟨w.heap.size + 1,0,none⟩ (.bool true)) ∧ KX w.heap.size (w.heap.size + 1) W ((W.setCell ⟨w.heap.size,0,none⟩ (.int .i64 x)).setCell ⟨w.heap.size + 1,0,none⟩ (.bool true)) ∧
        (Boxed ((W.setCell ⟨w.heap.size,0,none⟩ (.int .i64 x)).setCell ⟨w.heap.size + 1,0,none⟩ (.bool true)) w.heap.size 3 (.int .i64 (clF (pre ++ [x])).1) ∧ Boxed ((W.setCell ⟨w.heap.size,0,none⟩ (.int .i64 x)).setCell ⟨w.heap.size + 1,0,none⟩ (.bool true)) (w.heap.size + 1) 4 (.bool (clF (pre ++ [x])).2)) ∧ Below w.heap.size w ((W.setCell ⟨w.heap.size,0,none⟩ (.int .i64 x)).setCell ⟨w.heap.size + 1,0,none⟩ (.bool true)):=by
      intro e
      rw [e]
      exact ⟨((KeepsOthers.setCell _ _ _).trans (KeepsOthers.setCell _ _ _)).from _,(KX.setCell (b1:=w.heap.size) (b2:=w.heap.size + 1) W ⟨w.heap.size,0,none⟩ _ (.inl rfl)).trans (KX.setCell (b1:=w.heap.size) (b2:=w.heap.size + 1) _ ⟨w.heap.size + 1,0,none⟩ _ (.inr rfl)),⟨(q1.set _).kept (grownBy_setCell' _ _ _) (by simp),(q2.kept (grownBy_setCell' W w.heap.size _) (by simp)).set _⟩,(hB.setCell (p:=⟨w.heap.size,0,none⟩) (by simp) _).setCell (p:=⟨w.heap.size + 1,0,none⟩) (by simp) _⟩
    have SET:=hide set2
    clear set2
    have hsn:=clF_snoc pre x
    have c1:=q1.cell
    have c2:=q2.cell
    have c3:=q1.frozen
    have c4:=q2.frozen
    have c5:=((q2.kept (grownBy_setCell' W w.heap.size (.int .i64 x)) (by simp)).cell)
    have c6:=((q2.kept (grownBy_setCell' W w.heap.size (.int .i64 x)) (by simp)).frozen)
    have Q:=hide (And.intro q1 q2)
    clear q1 q2
    rcases hs:clF pre with ⟨le,fo⟩
    rw [hs] at hsn c1 c2 c5
    have HS:=hide hs
    clear hs
    cases fo with
    | false =>
      have HSN:=hide (hsn.trans (show clS (le,false) x=(x,true) from rfl))
      clear hsn
      dsimp only at c1 c2 c5
      gi_wp2
      exact SET.out HSN.out
    | true =>
      dsimp only at c1 c2 c5
      by_cases hx:x < le
      · have HSN:=hide (hsn.trans (show clS (le,true) x=(x,true) from if_neg (fun z=>z.2 hx)))
        clear hsn
        gi_wp2
        exact SET.out HSN.out
      · have HSN:=hide (hsn.trans (show clS (le,true) x=(le,true) from if_pos ⟨rfl,hx⟩))
        clear hsn
        gi_wp2
        refine ⟨KeepsFrom.refl _ _,KX.refl _ _ _,?_,hB⟩
        have q:=Q.out
        rw [HS.out] at q
        rw [HSN.out]
        exact q
  case done =>
    rintro D ys W hD rfl ⟨⟨q1,q2⟩,hB⟩ hK
    have c1:=q1.cell
    have c2:=q2.cell
    gi_wp2
    gi_region
    all_goals gi_wp2
    refine ⟨by simp,.inl ⟨_,_,rfl,run_takeDeferred hK,?_⟩⟩
    refine ⟨_,?_,rfl,hB.drew.trans (belowK_b (w:=w) (Nat.le_refl _) W.drew D _ _ (by omega) hK rfl rfl)⟩
    simp [results,Tryz.f23,go_sem]
  case stop =>
    rintro D c pre W hD _ hf
    exact hf.elim
theorem clearing_w (r:Int) (A:Option Addr) (tr:List (Int × Int)) (cap:Nat) (w:World) (hr:1 ≤ r ∧ r ≤ 2097152) (htl:tr.length ≤ 12)
    (htr:∀ k,k < tr.length → 1 ≤ (pr tr k).1 ∧ (pr tr k).1 ≤ 1048576 ∧ 1 ≤ (pr tr k).2 ∧ (pr tr k).2 ≤ 2097152) (hc:Arr2 w w.heap.size A tr) :
    Calls Tryz.prog 23 #[.slice A tr.length cap,.int .i64 r] w (Ret w (.tuple #[.int .i64 (clF (dAll r tr tr.length)).1,.bool (clF (dAll r tr tr.length)).2])) :=
  (callsIn_wide (n:=3)).1 (clearing_in 3 (by decide) r A tr cap hr htl htr w hc)
#print axioms clearing_w
end Go.Proofs.YtlngflbamkgjlaaGreat
namespace Go.Proofs.YtlngflbamkgjlaaGreat
open Go.RowKit
set_option linter.unusedVariables false
set_option linter.unusedSimpArgs false
set_option maxRecDepth 100000
theorem svCheck_w (r t:Int) (w0:World) :
    Calls Tryz.prog 22 #[.agg #[iv r,iv t]] w0 (Ret w0 (.int .i64 (svE r t))):=by
 refine enterK 21 Tryz.func22 rfl rfl rfl ?_
 intro a hF Q0 hR0 hN0
 have hM:=Mem.start w0
 refine wp_seq_k fun K1 hK1=>wp_region_lit (wl (xN 1 1 (t:=35) (fun b=>.pointer (some ⟨b,0,none⟩)) #[iv r,iv t] hF hM fun bb1 a w hF hM=>xB 1 [(2,iv 0)] hF fun a hF=>wpList_nil (hK1 _ _ (wp_seq_k fun K2 hK2=>wp_seq_k fun K3 hK3=>?_))))
 by_cases hz1:r < 1
 ·refine wp_region_lit (xB 1 [(3,pt bb1 0)] hF fun a hF=>wl (xL 4 1 0 (v:=iv r) hF hM fun a w hF hM=>wl (xP 5 (v0:=.bool (decide (r < 1))) (v:=.bool true) hF (bT hz1) fun a hF=>xB 15 [(6,.bool true),(7,undef),(8,undef),(9,undef),(10,.bool true),(11,.bool true),(12,undef),(13,undef),(14,undef),(15,.bool true),(16,.bool true),(17,undef),(18,undef),(19,undef),(20,.bool true)] hF fun a hF=>wpList_nil (hK3 _ _ (xT hF (wp_seq_k fun K4 hK4=>wp_region_lit (xB 1 [(2,iv 140)] hF fun a hF=>wpList_nil ?_)))))))
  refine hK4 _ _ (wp_ret (hR0 _ _ (ret_of hF hM (.tmp rfl (.nil)) (⟨ret_int (by exact (svE_not (fun q=>by omega)).symm),hM.bel⟩))))
 by_cases hz2:2097152 < r
 ·refine wp_region_lit (xB 1 [(3,pt bb1 0)] hF fun a hF=>wl (xL 4 1 0 (v:=iv r) hF hM fun a w hF hM=>wl (xP 5 (v0:=.bool (decide (r < 1))) (v:=.bool false) hF (bF hz1) fun a hF=>xB 2 [(6,.bool false),(7,pt bb1 0)] hF fun a hF=>wl (xL 8 1 0 (v:=iv r) hF hM fun a w hF hM=>wl (xP 9 (v0:=.bool (decide (2097152 < r))) (v:=.bool true) hF (bT hz2) fun a hF=>xB 11 [(10,.bool true),(11,.bool true),(12,undef),(13,undef),(14,undef),(15,.bool true),(16,.bool true),(17,undef),(18,undef),(19,undef),(20,.bool true)] hF fun a hF=>wpList_nil (hK3 _ _ (xT hF (wp_seq_k fun K5 hK5=>?_))))))))
  refine wp_region_lit (xB 1 [(2,iv 140)] hF fun a hF=>wpList_nil (hK5 _ _ (wp_ret (hR0 _ _ (ret_of hF hM (.tmp rfl (.nil)) (⟨ret_int (by exact (svE_not (fun q=>by omega)).symm),hM.bel⟩))))))
 by_cases hz3:t < 0
 ·refine wp_region_lit (xB 1 [(3,pt bb1 0)] hF fun a hF=>wl (xL 4 1 0 (v:=iv r) hF hM fun a w hF hM=>wl (xP 5 (v0:=.bool (decide (r < 1))) (v:=.bool false) hF (bF hz1) fun a hF=>xB 2 [(6,.bool false),(7,pt bb1 0)] hF fun a hF=>wl (xL 8 1 0 (v:=iv r) hF hM fun a w hF hM=>wl (xP 9 (v0:=.bool (decide (2097152 < r))) (v:=.bool false) hF (bF hz2) fun a hF=>xB 3 [(10,.bool false),(11,.bool false),(12,pt bb1 1)] hF fun a hF=>wl (xL 13 1 1 (v:=iv t) hF hM fun a w hF hM=>wl (xP 14 (v0:=.bool (decide (t < 0))) (v:=.bool true) hF (bT hz3) fun a hF=>xB 6 [(15,.bool true),(16,.bool true),(17,undef),(18,undef),(19,undef),(20,.bool true)] hF fun a hF=>wpList_nil ?_)))))))
  refine hK3 _ _ (xT hF (wp_seq_k fun K6 hK6=>wp_region_lit (xB 1 [(2,iv 140)] hF fun a hF=>wpList_nil (hK6 _ _ (wp_ret (hR0 _ _ (ret_of hF hM (.tmp rfl (.nil)) (⟨ret_int (by exact (svE_not (fun q=>by omega)).symm),hM.bel⟩))))))))
 refine wp_region_lit (xB 1 [(3,pt bb1 0)] hF fun a hF=>wl (xL 4 1 0 (v:=iv r) hF hM fun a w hF hM=>wl (xP 5 (v0:=.bool (decide (r < 1))) (v:=.bool false) hF (bF hz1) fun a hF=>xB 2 [(6,.bool false),(7,pt bb1 0)] hF fun a hF=>wl (xL 8 1 0 (v:=iv r) hF hM fun a w hF hM=>wl (xP 9 (v0:=.bool (decide (2097152 < r))) (v:=.bool false) hF (bF hz2) fun a hF=>xB 3 [(10,.bool false),(11,.bool false),(12,pt bb1 1)] hF fun a hF=>wl (xL 13 1 1 (v:=iv t) hF hM fun a w hF hM=>wl (xP 14 (v0:=.bool (decide (t < 0))) (v:=.bool false) hF (bF hz3) fun a hF=>xB 3 [(15,.bool false),(16,.bool false),(17,pt bb1 1)] hF fun a hF=>wl (xL 18 1 1 (v:=iv t) hF hM fun a w hF hM=>?_))))))))
 refine xB 2 [(19,.bool (decide (268435456 < t))),(20,.bool (decide (268435456 < t)))] hF fun a hF=>wpList_nil (hK3 _ _ ?_)
 by_cases hz4:268435456 < t
 ·replace hF:=hF.c hF (i:=19) (v:=.bool true) rfl (bT hz4)
  replace hF:=hF.c hF (i:=20) (v:=.bool true) rfl (bT hz4)
  refine xT hF (wp_seq_k fun K7 hK7=>wp_region_lit (xB 1 [(2,iv 140)] hF fun a hF=>wpList_nil (hK7 _ _ (wp_ret (hR0 _ _ (ret_of hF hM (.tmp rfl (.nil)) (⟨ret_int (by exact (svE_not (fun q=>by omega)).symm),hM.bel⟩)))))))
 replace hF:=hF.c hF (i:=19) (v:=.bool false) rfl (bF hz4)
 replace hF:=hF.c hF (i:=20) (v:=.bool false) rfl (bF hz4)
 refine xF hF (wp_skip (hK2 _ _ (wp_seq_k fun K8 hK8=>wp_region_lit (xB 1 [(2,iv 0)] hF fun a hF=>wpList_nil (hK8 _ _ (wp_ret (hR0 _ _ (ret_of hF hM (.tmp rfl (.nil)) (⟨ret_int (by exact (svE_yes ⟨by omega,by omega,by omega,by omega⟩).symm),hM.bel⟩)))))))))
end Go.Proofs.YtlngflbamkgjlaaGreat
namespace Go.Proofs.YtlngflbamkgjlaaGreat
set_option linter.unusedVariables false
def sB_:List (Int × Int) → Int
  | [] => 0
  | x :: t => x.1 + sB_ t
def sR_:List (Int × Int) → Int
  | [] => 0
  | x :: t => x.2 + sR_ t
def smE (l:List (Int × Int)):Int:=if l.length=0 then 2 else if 12 < l.length then 3 else if l.all (fun x=>decide (bkE x.1 x.2=0))=true then (if bkE (sB_ l) (sR_ l)=0 then 0 else 6) else 130
theorem sB_app (a:List (Int × Int)) (x:Int × Int):sB_ (a ++ [x])=sB_ a + x.1:=by
  induction a with
  | nil => simp [sB_]
  | cons y r ih => simp only [List.cons_append, sB_, ih]; omega
theorem sR_app (a:List (Int × Int)) (x:Int × Int):sR_ (a ++ [x])=sR_ a + x.2:=by
  induction a with
  | nil => simp [sR_]
  | cons y r ih => simp only [List.cons_append, sR_, ih]; omega
theorem take_pr {l:List (Int × Int)} {k:Nat} (h:k < l.length):l.take (k + 1)=l.take k ++ [pr l k]:=by rw [List.take_add_one,pr_some h]; rfl
structure SmAt (l:List (Int × Int)) (k:Nat) (x y:Int):Prop where
  ok:∀ j,j < k → bkE (pr l j).1 (pr l j).2=0
  b:x=sB_ (l.take k)
  r:y=sR_ (l.take k)
  lo:0 ≤ x ∧ x ≤ 1048576 * (k:Int)
  lr:0 ≤ y ∧ y ≤ 2097152 * (k:Int)
theorem SmAt.zero (l:List (Int × Int)):SmAt l 0 0 0:=⟨fun j h=>by omega,by simp [sB_],by simp [sR_],by simp,by simp⟩
theorem SmAt.next {l:List (Int × Int)} {k:Nat} {x y:Int} (h:SmAt l k x y) (hk:k < l.length) (hb:bkE (pr l k).1 (pr l k).2=0):SmAt l (k + 1) (x + (pr l k).1) (y + (pr l k).2):=by
  have q:=bkE_ok hb
  have:=h.lo
  have:=h.lr
  refine ⟨fun j hj=>?_,by rw [take_pr hk,sB_app,← h.b],by rw [take_pr hk,sR_app,← h.r],by omega,by omega⟩
  by_cases e:j=k
  · subst e; exact hb
  · exact h.ok j (by omega)
theorem all_of {l:List (Int × Int)} (h:∀ j,j < l.length → bkE (pr l j).1 (pr l j).2=0):l.all (fun x=>decide (bkE x.1 x.2=0))=true:=by
  rw [List.all_eq_true]
  intro x hx
  obtain ⟨j,hj,e⟩:=List.mem_iff_getElem.1 hx
  have:=h j hj
  have e2:=pr_some hj
  rw [List.getElem?_eq_getElem hj,e] at e2
  rw [Option.some.inj e2]
  exact decide_eq_true this
theorem SmAt.done {l:List (Int × Int)} {k:Nat} {x y:Int} (h:SmAt l k x y) (hk:k=l.length) (h0:0 < l.length) (h1:l.length ≤ 12):smE l=(if bkE x y=0 then 0 else 6) ∧ sB_ l=x ∧ sR_ l=y:=by
  subst hk
  have hb:=h.b
  have hr:=h.r
  rw [List.take_length] at hb hr
  refine ⟨?_,hb.symm,hr.symm⟩
  unfold smE
  rw [if_neg (by omega),if_neg (by omega),if_pos (all_of h.ok),← hb,← hr]
end Go.Proofs.YtlngflbamkgjlaaGreat
namespace Go.Proofs.YtlngflbamkgjlaaGreat
set_option linter.unusedVariables false
def bkAll (l:List (Int × Int)):Bool:=l.all (fun x=>decide (bkE x.1 x.2=0))
theorem bkAll_yes {l:List (Int × Int)} (h:∀ j,j < l.length → bkE (pr l j).1 (pr l j).2=0):bkAll l=true:=all_of h
theorem bkAll_get {l:List (Int × Int)} (h:bkAll l=true) {k:Nat} (hk:k < l.length):bkE (pr l k).1 (pr l k).2=0:=of_decide_eq_true (List.all_eq_true.1 h _ (List.mem_of_getElem? (pr_some hk)))
theorem bkAll_no {l:List (Int × Int)} {k:Nat} (hk:k < l.length) (h:¬ bkE (pr l k).1 (pr l k).2=0):¬ bkAll l=true:=fun q=>h (bkAll_get q hk)
def dlE (r t:Int) (l:List (Int × Int)):Int:=if l.length=0 then 2 else if 12 < l.length then 3 else if bkAll l=true then (if svE r t=0 then (if (clF (dAll r l l.length)).2=true then 0 else 141) else 140) else 130
def dlV (r t:Int) (l:List (Int × Int)):Int:=if dlE r t l=0 then t + (clF (dAll r l l.length)).1 else 0
theorem dl_no {r t e:Int} {l:List (Int × Int)} (h:dlE r t l=e) (he:e ≠ 0):dlE r t l=e ∧ dlV r t l=0:=⟨h,by unfold dlV; rw [if_neg (by rw [h]; exact he)]⟩
theorem dl_2 {r t:Int} {l:List (Int × Int)} (h:(l.length:Int)=0):dlE r t l=2 ∧ dlV r t l=0:=dl_no (by unfold dlE; rw [if_pos (by omega)]) (by decide)
theorem dl_3 {r t:Int} {l:List (Int × Int)} (h:12 < (l.length:Int)):dlE r t l=3 ∧ dlV r t l=0:=dl_no (by unfold dlE; rw [if_neg (by omega),if_pos (by omega)]) (by decide)
theorem dl_130 {r t:Int} {l:List (Int × Int)} (h0:¬ (l.length:Int)=0) (h1:¬ 12 < (l.length:Int)) (h:¬ bkAll l=true):dlE r t l=130 ∧ dlV r t l=0:=dl_no (by unfold dlE; rw [if_neg (by omega),if_neg (by omega),if_neg h]) (by decide)
theorem dl_140 {r t:Int} {l:List (Int × Int)} (h0:¬ (l.length:Int)=0) (h1:¬ 12 < (l.length:Int)) (h:bkAll l=true) (hs:¬ svE r t=0):dlE r t l=140 ∧ dlV r t l=0:=dl_no (by unfold dlE; rw [if_neg (by omega),if_neg (by omega),if_pos h,if_neg hs]) (by decide)
theorem dl_141 {r t:Int} {l:List (Int × Int)} (h0:¬ (l.length:Int)=0) (h1:¬ 12 < (l.length:Int)) (h:bkAll l=true) (hs:svE r t=0) (hf:¬ (clF (dAll r l l.length)).2=true):dlE r t l=141 ∧ dlV r t l=0:=dl_no (by unfold dlE; rw [if_neg (by omega),if_neg (by omega),if_pos h,if_pos hs,if_neg hf]) (by decide)
theorem dl_0 {r t:Int} {l:List (Int × Int)} (h0:¬ (l.length:Int)=0) (h1:¬ 12 < (l.length:Int)) (h:bkAll l=true) (hs:svE r t=0) (hf:(clF (dAll r l l.length)).2=true):dlE r t l=0 ∧ dlV r t l=t + (clF (dAll r l l.length)).1:=by
  have e:dlE r t l=0:=by unfold dlE; rw [if_neg (by omega),if_neg (by omega),if_pos h,if_pos hs,if_pos hf]
  exact ⟨e,by unfold dlV; rw [if_pos e]⟩
def inD (x:Int):Prop:=0 ≤ x ∧ x ≤ 1099511627776
theorem clF_in {P:Int → Prop} (h0:P 0):∀ (L:List Int) (s:Int × Bool),P s.1 → (∀ x ∈ L,P x) → P (L.foldl clS s).1
  | [], s, hs, _ => hs
  | x :: L, s, hs, h => by
    refine clF_in h0 L (clS s x) ?_ (fun y hy=>h y (List.mem_cons_of_mem _ hy))
    unfold clS
    split
    · exact hs
    · exact h x (List.mem_cons_self ..)
theorem dIn_in {r:Int} {q:Int × Int} {l:List (Int × Int)} (hr:1 ≤ r ∧ r ≤ 2097152) (hq:1 ≤ q.1 ∧ q.1 ≤ 1048576 ∧ 1 ≤ q.2 ∧ q.2 ≤ 2097152) (hqr:q.2 ≤ r) (h:∀ j,j < l.length → 1 ≤ (pr l j).1 ∧ (pr l j).1 ≤ 1048576 ∧ 1 ≤ (pr l j).2 ∧ (pr l j).2 ≤ 2097152):∀ k,k ≤ l.length → ∀ x ∈ dIn r q l k,inD x
  | 0, _, x, hx => by cases hx
  | k + 1, hk, x, hx => by
    by_cases c:(pr l k).2 ≤ r ∨ q.1 ≤ (pr l k).1
    · rw [dIn_skip c] at hx; exact dIn_in hr hq hqr h k (by omega) x hx
    · rw [dIn_take c] at hx
      rcases List.mem_append.1 hx with z | z
      · exact dIn_in hr hq hqr h k (by omega) x z
      · have e:=List.mem_singleton.1 z
        have t:=h k (by omega)
        have b:=crs_bd hr t hq (by omega) hqr (by omega)
        have a1:q.1 * ((pr l k).2 - q.2) ≤ 1048576 * ((pr l k).2 - q.2):=Int.mul_le_mul_of_nonneg_right (by omega) (by omega)
        have a2:1 * ((pr l k).2 - q.2) ≤ r * ((pr l k).2 - q.2):=Int.mul_le_mul_of_nonneg_right (by omega) (by omega)
        rw [e]
        exact ⟨cq_nn b.2.2.2.1 (by omega),cq_le b.2.2.2.1 (by omega)⟩
theorem dAll_in {r:Int} {l:List (Int × Int)} (hr:1 ≤ r ∧ r ≤ 2097152) (h:∀ j,j < l.length → 1 ≤ (pr l j).1 ∧ (pr l j).1 ≤ 1048576 ∧ 1 ≤ (pr l j).2 ∧ (pr l j).2 ≤ 2097152):∀ k,k ≤ l.length → ∀ x ∈ dAll r l k,inD x
  | 0, _, x, hx => by cases hx
  | k + 1, hk, x, hx => by
    by_cases c:r < (pr l k).2
    · rw [dAll_skip c] at hx; exact dAll_in hr h k (by omega) x hx
    · rw [dAll_take c] at hx
      have t:=h k (by omega)
      rcases List.mem_append.1 hx with z | z
      · exact dAll_in hr h k (by omega) x z
      · rcases List.mem_cons.1 z with e | z
        · rw [e]
          exact ⟨cq_nn hr.1 (by omega),cq_le hr.1 (by omega)⟩
        · exact dIn_in hr t (by omega) h l.length (Nat.le_refl _) x z
theorem bk_all {l:List (Int × Int)} (h:bkAll l=true):∀ j,j < l.length → 1 ≤ (pr l j).1 ∧ (pr l j).1 ≤ 1048576 ∧ 1 ≤ (pr l j).2 ∧ (pr l j).2 ≤ 2097152:=fun j hj=>bkE_ok (bkAll_get h hj)
theorem cl_bd {r:Int} {l:List (Int × Int)} (hr:1 ≤ r ∧ r ≤ 2097152) (h:bkAll l=true):0 ≤ (clF (dAll r l l.length)).1 ∧ (clF (dAll r l l.length)).1 ≤ 1099511627776 :=
  clF_in (P:=inD) (by unfold inD; omega) _ (0,false) (show inD 0 by unfold inD; omega) (dAll_in hr (bk_all h) l.length (Nat.le_refl _))
end Go.Proofs.YtlngflbamkgjlaaGreat
namespace Go.Proofs.YtlngflbamkgjlaaGreat
open Go.RowKit
set_option linter.unusedVariables false
set_option linter.unusedSimpArgs false
set_option maxRecDepth 100000
theorem bk_next {l:List (Int × Int)} {k:Nat} (h:∀ j,j < k → bkE (pr l j).1 (pr l j).2=0) (hk:bkE (pr l k).1 (pr l k).2=0):∀ j,j < k + 1 → bkE (pr l j).1 (pr l j).2=0:=fun j hj=>by
  by_cases e:j=k
  · subst e; exact hk
  · exact h j (by omega)
theorem bkAll_k {l:List (Int × Int)} {k:Nat} (h:∀ j,j < k → bkE (pr l j).1 (pr l j).2=0) (hk:l.length ≤ k):bkAll l=true:=bkAll_yes fun j hj=>h j (by omega)
theorem delay_w (r t:Int) (A:Option Addr) (l:List (Int × Int)) (c:Nat) (w0:World) (hA:Ro w0 A (flat2 l)) :
    Calls Tryz.prog 6 #[.slice A l.length c,.agg #[iv r,iv t]] w0 (Ret w0 (.tuple #[.int .i64 (dlV r t l),.int .i64 (dlE r t l)])):=by
 refine enterK 30 Tryz.func6 rfl rfl rfl ?_
 intro a hF Q0 hR0 hN0
 have hM:=Mem.start w0
 replace hM:=hM.addOld 1 hA (Nat.le_refl _)
 refine wp_seq_k fun K1 hK1=>wp_region_lit (wl (xN 2 2 (t:=41) (fun b=>.pointer (some ⟨b,0,none⟩)) #[.slice A l.length c] hF hM fun bb1 a w hF hM=>wl (xN 3 3 (t:=35) (fun b=>.pointer (some ⟨b,0,none⟩)) #[iv r,iv t] hF hM fun bb2 a w hF hM=>xB 2 [(4,iv 0),(5,iv 0)] hF fun a hF=>wpList_nil (hK1 _ _ (wp_seq_k fun K2 hK2=>wp_region_lit (xB 3 [(9,.func (.func 18) #[] #[pt bb1 0]),(10,.func (.func 19) #[] #[pt bb1 0]),(11,.func (.func 21) #[] #[pt bb2 0])] hF fun a hF=>wl (xN 12 4 (t:=71) (fun b=>.slice (some ⟨b,0,none⟩) 3 3) #[.func (.func 18) #[] #[pt bb1 0],.func (.func 19) #[] #[pt bb1 0],.func (.func 21) #[] #[pt bb2 0]] hF hM fun bb3 a w hF hM=>wl (sC (f:=17) (args:=#[.slice (some ⟨bb3,0,none⟩) 3 3]) hF (by kernel_rfl) rfl (by decide) (by kernel_rfl) (fun _=>by kernel_rfl) ?_))))))))
 refine enterK 18 Tryz.func17 rfl rfl rfl ?_
 intro a1 hF1 QR3 hR3 hNR3
 refine wp_seq_k fun K4 hK4=>wp_region_lit (xB 1 [(2,iv 0)] hF1 fun a1 hF1=>wpList_nil (hK4 _ _ (wp_seq_k fun K5 hK5=>wp_seq_k fun K6 hK6=>wp_region_lit (xB 3 [(6,.slice (some ⟨bb3,0,none⟩) 3 3),(7,iv 3),(8,iv 0)] hF1 fun a1 hF1=>wpList_nil (hK6 _ _ (wp_block ?_))))))
 refine wp_loop_rounds 4 (rounds_k fun K7 hK7=>wp_seq_k fun K8 hK8=>wp_region_lit (wl (xP 9 (v0:=.bool (decide (0 < 3))) (v:=.bool true) hF1 (bT (by omega)) fun a1 hF1=>wpList_nil (hK8 _ _ (wp_seq_k fun K9 hK9=>xT hF1 (wp_skip (hK9 _ _ (wp_seq_k fun K10 hK10=>?_))))))))
 refine wp_block (wp_seq_k fun K11 hK11=>wp_region_lit (xB 1 [(10,pt bb3 0)] hF1 fun a1 hF1=>wl (xL 11 4 0 (v:=.func (.func 18) #[] #[pt bb1 0]) hF1 hM fun a1 w hF1 hM=>xB 1 [(4,.func (.func 18) #[] #[pt bb1 0])] hF1 fun a1 hF1=>wpList_nil (hK11 _ _ (wp_seq_k fun K12 hK12=>wp_region_lit (xB 1 [(12,.func (.func 18) #[] #[pt bb1 0])] hF1 fun a1 hF1=>wl (sC (f:=18) (args:=#[pt bb1 0]) hF1 (by kernel_rfl) rfl (by decide) (by kernel_rfl) (fun _=>by kernel_rfl) ?_)))))))
 refine enterK 8 Tryz.func18 rfl rfl rfl ?_
 intro a2 hF2 QR13 hR13 hNR13
 refine wp_seq_k fun K14 hK14=>wp_region_lit (xB 1 [(1,iv 0)] hF2 fun a2 hF2=>wpList_nil (hK14 _ _ (wp_seq_k fun K15 hK15=>wp_seq_k fun K16 hK16=>wp_region_lit (wl (xL 2 2 0 (v:=.slice A l.length c) hF2 hM fun a2 w hF2 hM=>xB 2 [(3,iv (l.length:Int)),(4,.bool (decide ((l.length:Int)=0)))] hF2 fun a2 hF2=>wpList_nil (hK16 _ _ ?_))))))
 by_cases hz1:(l.length:Int)=0
 ·replace hF2:=hF2.c hF2 (i:=4) (v:=.bool true) rfl (bT hz1)
  refine xT hF2 (wp_seq_k fun K17 hK17=>wp_region_lit (xB 1 [(1,iv 2)] hF2 fun a2 hF2=>wpList_nil (hK17 _ _ (wp_ret (hR13 _ _ (ret_of hF2 hM (.tmp rfl (.nil)) ⟨_,rfl,?_⟩))))))
  intro a1 hF1
  refine xB 1 [(5,iv 2)] hF1 fun a1 hF1=>wpList_nil (hK12 _ _ (wp_seq_k fun K18 hK18=>wp_region_lit (xB 1 [(14,iv 2)] hF1 fun a1 hF1=>wl (xP 15 (v0:=.bool (!decide (2=0))) (v:=.bool true) hF1 (nF (by omega)) fun a1 hF1=>wpList_nil (hK18 _ _ (xT hF1 (wp_seq_k fun K19 hK19=>wp_region_lit ?_)))))))
  refine xB 2 [(16,iv 2),(2,iv 2)] hF1 fun a1 hF1=>wpList_nil (hK19 _ _ (wp_ret (hR3 _ _ (ret_of hF1 hM (.tmp rfl (.nil)) ⟨_,rfl,?_⟩))))
  intro a hF
  refine xB 1 [(6,iv 2)] hF fun a hF=>wpList_nil (hK2 _ _ (wp_seq_k fun K20 hK20=>wp_seq_k fun K21 hK21=>wp_region_lit (xB 1 [(14,iv 2)] hF fun a hF=>wl (xP 15 (v0:=.bool (!decide (2=0))) (v:=.bool true) hF (nF (by omega)) fun a hF=>wpList_nil (hK21 _ _ (xT hF (wp_seq_k fun K22 hK22=>?_)))))))
  refine wp_region_lit (xB 3 [(16,iv 2),(4,iv 0),(5,iv 2)] hF fun a hF=>wpList_nil (hK22 _ _ (wp_ret (hR0 _ _ (ret_of hF hM (.tmp rfl (.tmp rfl (.nil))) ?_)))))
  have hd:=dl_2 (r:=r) (t:=t) (l:=l) (by omega)
  exact ⟨ret_eq (by rw [hd.1,hd.2]; rfl),hM.bel⟩
 replace hF2:=hF2.c hF2 (i:=4) (v:=.bool false) rfl (bF hz1)
 refine xF hF2 (wp_skip (hK15 _ _ (wp_seq_k fun K23 hK23=>wp_seq_k fun K24 hK24=>wp_region_lit (wl (xL 5 2 0 (v:=.slice A l.length c) hF2 hM fun a2 w hF2 hM=>xB 2 [(6,iv (l.length:Int)),(7,.bool (decide (12 < (l.length:Int))))] hF2 fun a2 hF2=>wpList_nil (hK24 _ _ ?_))))))
 by_cases hz2:12 < (l.length:Int)
 ·replace hF2:=hF2.c hF2 (i:=7) (v:=.bool true) rfl (bT hz2)
  refine xT hF2 (wp_seq_k fun K25 hK25=>wp_region_lit (xB 1 [(1,iv 3)] hF2 fun a2 hF2=>wpList_nil (hK25 _ _ (wp_ret (hR13 _ _ (ret_of hF2 hM (.tmp rfl (.nil)) ⟨_,rfl,?_⟩))))))
  intro a1 hF1
  refine xB 1 [(5,iv 3)] hF1 fun a1 hF1=>wpList_nil (hK12 _ _ (wp_seq_k fun K26 hK26=>wp_region_lit (xB 1 [(14,iv 3)] hF1 fun a1 hF1=>wl (xP 15 (v0:=.bool (!decide (3=0))) (v:=.bool true) hF1 (nF (by omega)) fun a1 hF1=>wpList_nil (hK26 _ _ (xT hF1 (wp_seq_k fun K27 hK27=>wp_region_lit ?_)))))))
  refine xB 2 [(16,iv 3),(2,iv 3)] hF1 fun a1 hF1=>wpList_nil (hK27 _ _ (wp_ret (hR3 _ _ (ret_of hF1 hM (.tmp rfl (.nil)) ⟨_,rfl,?_⟩))))
  intro a hF
  refine xB 1 [(6,iv 3)] hF fun a hF=>wpList_nil (hK2 _ _ (wp_seq_k fun K28 hK28=>wp_seq_k fun K29 hK29=>wp_region_lit (xB 1 [(14,iv 3)] hF fun a hF=>wl (xP 15 (v0:=.bool (!decide (3=0))) (v:=.bool true) hF (nF (by omega)) fun a hF=>wpList_nil (hK29 _ _ (xT hF (wp_seq_k fun K30 hK30=>?_)))))))
  refine wp_region_lit (xB 3 [(16,iv 3),(4,iv 0),(5,iv 3)] hF fun a hF=>wpList_nil (hK30 _ _ (wp_ret (hR0 _ _ (ret_of hF hM (.tmp rfl (.tmp rfl (.nil))) ?_)))))
  have hd:=dl_3 (r:=r) (t:=t) (l:=l) (by omega)
  exact ⟨ret_eq (by rw [hd.1,hd.2]; rfl),hM.bel⟩
 replace hF2:=hF2.c hF2 (i:=7) (v:=.bool false) rfl (bF hz2)
 refine xF hF2 (wp_skip (hK23 _ _ (wp_seq_k fun K31 hK31=>wp_region_lit (xB 1 [(1,iv 0)] hF2 fun a2 hF2=>wpList_nil (hK31 _ _ (wp_ret (hR13 _ _ (ret_of hF2 hM (.tmp rfl (.nil)) ⟨_,rfl,?_⟩))))))))
 intro a1 hF1
 refine xB 1 [(5,iv 0)] hF1 fun a1 hF1=>wpList_nil (hK12 _ _ (wp_seq_k fun K32 hK32=>wp_region_lit (xB 1 [(14,iv 0)] hF1 fun a1 hF1=>wl (xP 15 (v0:=.bool (!decide (0=0))) (v:=.bool false) hF1 (nT (by omega)) fun a1 hF1=>wpList_nil (hK32 _ _ (xF hF1 (wp_skip (hK10 _ _ ?_))))))))
 refine wp_region_lit (wl (xP 17 (v0:=.int .i64 (IntKind.i64.wrap (0 + 1))) (v:=iv 1) hF1 (vi (by decide)) fun a1 hF1=>xB 1 [(8,iv 1)] hF1 fun a1 hF1=>wpList_nil (hK7 _ _ (rounds_k fun K33 hK33=>wp_seq_k fun K34 hK34=>wp_region_lit (wl (xP 9 (v0:=.bool (decide (1 < 3))) (v:=.bool true) hF1 (bT (by omega)) fun a1 hF1=>wpList_nil (hK34 _ _ (wp_seq_k fun K35 hK35=>?_))))))))
 refine xT hF1 (wp_skip (hK35 _ _ (wp_seq_k fun K36 hK36=>wp_block (wp_seq_k fun K37 hK37=>wp_region_lit (xB 1 [(10,pt bb3 1)] hF1 fun a1 hF1=>wl (xL 11 4 1 (v:=.func (.func 19) #[] #[pt bb1 0]) hF1 hM fun a1 w hF1 hM=>xB 1 [(4,.func (.func 19) #[] #[pt bb1 0])] hF1 fun a1 hF1=>wpList_nil (hK37 _ _ ?_)))))))
 refine wp_seq_k fun K38 hK38=>wp_region_lit (xB 1 [(12,.func (.func 19) #[] #[pt bb1 0])] hF1 fun a1 hF1=>wl (sC (f:=19) (args:=#[pt bb1 0]) hF1 (by kernel_rfl) rfl (by decide) (by kernel_rfl) (fun _=>by kernel_rfl) (enterK 17 Tryz.func19 rfl rfl rfl ?_)))
 intro a2 hF2 QR39 hR39 hNR39
 refine wp_seq_k fun K40 hK40=>wp_region_lit (xB 1 [(1,iv 0)] hF2 fun a2 hF2=>wpList_nil (hK40 _ _ (wp_seq_k fun K41 hK41=>wp_seq_k fun K42 hK42=>wp_region_lit (wl (xL 5 2 0 (v:=.slice A l.length c) hF2 hM fun a2 w hF2 hM=>xB 2 [(6,iv (l.length:Int)),(7,iv 0)] hF2 fun a2 hF2=>wpList_nil (hK42 _ _ ?_))))))
 refine wp_block (wp_loop_k (G:=Nat) (fun gg a w=>Fr 17 [(7,some (iv (gg:Int))),(5,some (.slice A l.length c)),(6,some (iv (l.length:Int)))] a ∧ Mem w0.heap.size w0 [(1,some (.ro A (flat2 l))),(2,some (.row bb1 41 #[.slice A l.length c])),(3,some (.row bb2 35 #[iv r,iv t])),(4,some (.row bb3 71 #[.func (.func 18) #[] #[pt bb1 0],.func (.func 19) #[] #[pt bb1 0],.func (.func 21) #[] #[pt bb2 0]]))] w ∧ ((gg:Int) ≤ (l.length:Int)) ∧ (∀ j,j < gg → bkE (pr l j).1 (pr l j).2=0)) (fun gg=>l.length - gg) (0) ?_ ?_)
 ·refine ⟨((((Fr.nil hF2).c hF2 (i:=6) rfl rfl).c hF2 (i:=5) rfl rfl).c hF2 (i:=7) rfl (vi (show (0:Int)=(0:Int) from by omega))),(hM.sub ((((Sub.nil.c (k:=4) rfl rfl).c (k:=3) rfl rfl).c (k:=2) rfl rfl).c (k:=1) rfl rfl)),(show (0:Int) ≤ (l.length:Int) from by omega),(show ∀ j,j < 0 → bkE (pr l j).1 (pr l j).2=0 from by exact fun j hj=>by omega)⟩
 intro gg a2 w hI
 intro K43 hK43
 obtain ⟨k,rfl⟩:∃ x,x=gg:=⟨_,rfl⟩
 try dsimp only at hI hK43
 obtain ⟨hF2,hM,hz3,hz4⟩:=hI
 refine wp_seq_k fun K44 hK44=>wp_region_lit (xB 1 [(8,.bool (decide ((k:Int) < (l.length:Int))))] hF2 fun a2 hF2=>wpList_nil (hK44 _ _ (wp_seq_k fun K45 hK45=>?_)))
 by_cases hz5:(k:Int) < (l.length:Int)
 ·replace hF2:=hF2.c hF2 (i:=8) (v:=.bool true) rfl (bT hz5)
  refine xT hF2 (wp_skip (hK45 _ _ (wp_seq_k fun K46 hK46=>wp_block (wp_seq_k fun K47 hK47=>wp_region_lit (wl (xM 9 (v:=.pointer (some (ea A (k * 2)))) hF2 hM (yld_ix (kd:=.i64) (e:=33) (len:=l.length) (cap:=c) (i:=(k:Int)) (size:=2) (A:=A) hF2 rfl (by kernel_rfl) (by kernel_rfl) (by kernel_rfl) (by kernel_rfl) (by kernel_rfl) (roK 1 rfl) (by omega) (by omega) (by rw [flat2_length]; omega)) fun a2 w hF2 hM=>wl (xM 10 (v:=.agg #[iv (pr l k).1,iv (pr l k).2]) hF2 hM (yld_roM (A:=A) (j:=k * 2) (us:=[iv (pr l k).1,iv (pr l k).2]) hF2 rfl (by kernel_rfl) (by kernel_rfl) (roK 1 rfl) (by kernel_rfl) rfl (pr_both (k:=k) (by omega) (by omega))) fun a2 w hF2 hM=>wl (xN 3 5 (t:=33) (fun b=>.pointer (some ⟨b,0,none⟩)) #[iv 0,iv 0] hF2 hM fun bb4 a2 w hF2 hM=>?_))))))))
  refine wl (xS 5 0 #[iv (pr l k).1,iv (pr l k).2] hF2 hM fun w hM=>wpList_nil (hK47 _ _ (wp_seq_k fun K48 hK48=>wp_region_lit (wl (xL 11 5 0 (v:=.agg #[iv (pr l k).1,iv (pr l k).2]) hF2 hM fun a2 w hF2 hM=>wl (xM 12 (v:=iv (bkE (pr l k).1 (pr l k).2)) hF2 hM (xC 20 #[.agg #[iv (pr l k).1,iv (pr l k).2]] hF2 (fun w hM=>bkCheck_w (pr l k).1 (pr l k).2 w)) fun a2 w hF2 hM=>xB 1 [(4,iv (bkE (pr l k).1 (pr l k).2))] hF2 fun a2 hF2=>wpList_nil (hK48 _ _ (wp_seq_k fun K49 hK49=>wp_region_lit ?_))))))))
  refine xB 2 [(13,iv (bkE (pr l k).1 (pr l k).2)),(14,.bool (!decide (bkE (pr l k).1 (pr l k).2=0)))] hF2 fun a2 hF2=>wpList_nil (hK49 _ _ ?_)
  by_cases hz6:bkE (pr l k).1 (pr l k).2=0
  ·have hz7:=bkE_ok hz6
   replace hF2:=hF2.c hF2 (i:=14) (v:=.bool false) rfl (nT hz6)
   refine xF hF2 (wp_skip (hK46 _ _ (wp_region_lit (wl (xP 16 (v0:=.int .i64 (IntKind.i64.wrap ((k:Int) + 1))) (v:=iv ((k:Int) + 1)) hF2 (wi (by omega)) fun a2 hF2=>xB 1 [(7,iv ((k:Int) + 1))] hF2 fun a2 hF2=>wpList_nil (hK43 _ _ ⟨(k + 1),⟨((((Fr.nil hF2).c hF2 (i:=6) rfl rfl).c hF2 (i:=5) rfl rfl).c hF2 (i:=7) rfl (vi (show ((k:Int) + 1:Int)=((k + 1):Int) from by omega))),(hM.sub ((((Sub.nil.c (k:=4) rfl rfl).c (k:=3) rfl rfl).c (k:=2) rfl rfl).c (k:=1) rfl rfl)),(show ((k + 1):Int) ≤ (l.length:Int) from by omega),(show ∀ j,j < (k + 1) → bkE (pr l j).1 (pr l j).2=0 from by exact bk_next (by assumption) (by assumption))⟩,(show l.length - (k + 1) < l.length - k from by omega)⟩))))))
  replace hF2:=hF2.c hF2 (i:=14) (v:=.bool true) rfl (nF hz6)
  refine xT hF2 (wp_seq_k fun K50 hK50=>wp_region_lit (xB 2 [(15,iv (bkE (pr l k).1 (pr l k).2)),(1,iv (bkE (pr l k).1 (pr l k).2))] hF2 fun a2 hF2=>wpList_nil (hK50 _ _ (wp_ret (hR39 _ _ (ret_of hF2 hM (.tmp rfl (.nil)) ⟨_,rfl,?_⟩))))))
  intro a1 hF1
  refine xB 1 [(5,iv (bkE (pr l k).1 (pr l k).2))] hF1 fun a1 hF1=>wpList_nil (hK38 _ _ (wp_seq_k fun K51 hK51=>wp_region_lit (xB 1 [(14,iv (bkE (pr l k).1 (pr l k).2))] hF1 fun a1 hF1=>wl (xP 15 (v0:=.bool (!decide (bkE (pr l k).1 (pr l k).2=0))) (v:=.bool true) hF1 (nF hz6) fun a1 hF1=>wpList_nil (hK51 _ _ (xT hF1 (wp_seq_k fun K52 hK52=>wp_region_lit ?_)))))))
  refine xB 2 [(16,iv (bkE (pr l k).1 (pr l k).2)),(2,iv (bkE (pr l k).1 (pr l k).2))] hF1 fun a1 hF1=>wpList_nil (hK52 _ _ (wp_ret (hR3 _ _ (ret_of hF1 hM (.tmp rfl (.nil)) ⟨_,rfl,?_⟩))))
  intro a hF
  refine xB 1 [(6,iv (bkE (pr l k).1 (pr l k).2))] hF fun a hF=>wpList_nil (hK2 _ _ (wp_seq_k fun K53 hK53=>wp_seq_k fun K54 hK54=>wp_region_lit (xB 1 [(14,iv (bkE (pr l k).1 (pr l k).2))] hF fun a hF=>wl (xP 15 (v0:=.bool (!decide (bkE (pr l k).1 (pr l k).2=0))) (v:=.bool true) hF (nF hz6) fun a hF=>wpList_nil (hK54 _ _ (xT hF (wp_seq_k fun K55 hK55=>?_)))))))
  refine wp_region_lit (xB 3 [(16,iv (bkE (pr l k).1 (pr l k).2)),(4,iv 0),(5,iv (bkE (pr l k).1 (pr l k).2))] hF fun a hF=>wpList_nil (hK55 _ _ (wp_ret (hR0 _ _ (ret_of hF hM (.tmp rfl (.tmp rfl (.nil))) ?_)))))
  have hd:=dl_130 (r:=r) (t:=t) (l:=l) (by omega) (by omega) (bkAll_no (k:=k) (by omega) hz6)
  exact ⟨ret_eq (by rw [hd.1,hd.2,bkE_no hz6]; rfl),hM.bel⟩
 replace hF2:=hF2.c hF2 (i:=8) (v:=.bool false) rfl (bF hz5)
 refine xF hF2 (wp_exit (hK41 _ _ (wp_seq_k fun K56 hK56=>wp_region_lit (xB 1 [(1,iv 0)] hF2 fun a2 hF2=>wpList_nil (hK56 _ _ (wp_ret (hR39 _ _ (ret_of hF2 hM (.tmp rfl (.nil)) ⟨_,rfl,?_⟩))))))))
 intro a1 hF1
 refine xB 1 [(5,iv 0)] hF1 fun a1 hF1=>wpList_nil (hK38 _ _ (wp_seq_k fun K57 hK57=>wp_region_lit (xB 1 [(14,iv 0)] hF1 fun a1 hF1=>wl (xP 15 (v0:=.bool (!decide (0=0))) (v:=.bool false) hF1 (nT (by omega)) fun a1 hF1=>wpList_nil (hK57 _ _ (xF hF1 (wp_skip (hK36 _ _ ?_))))))))
 refine wp_region_lit (wl (xP 17 (v0:=.int .i64 (IntKind.i64.wrap (1 + 1))) (v:=iv 2) hF1 (vi (by decide)) fun a1 hF1=>xB 1 [(8,iv 2)] hF1 fun a1 hF1=>wpList_nil (hK33 _ _ (rounds_k fun K58 hK58=>wp_seq_k fun K59 hK59=>wp_region_lit (wl (xP 9 (v0:=.bool (decide (2 < 3))) (v:=.bool true) hF1 (bT (by omega)) fun a1 hF1=>wpList_nil (hK59 _ _ (wp_seq_k fun K60 hK60=>?_))))))))
 refine xT hF1 (wp_skip (hK60 _ _ (wp_seq_k fun K61 hK61=>wp_block (wp_seq_k fun K62 hK62=>wp_region_lit (xB 1 [(10,pt bb3 2)] hF1 fun a1 hF1=>wl (xL 11 4 2 (v:=.func (.func 21) #[] #[pt bb2 0]) hF1 hM fun a1 w hF1 hM=>xB 1 [(4,.func (.func 21) #[] #[pt bb2 0])] hF1 fun a1 hF1=>wpList_nil (hK62 _ _ ?_)))))))
 refine wp_seq_k fun K63 hK63=>wp_region_lit (xB 1 [(12,.func (.func 21) #[] #[pt bb2 0])] hF1 fun a1 hF1=>wl (sC (f:=21) (args:=#[pt bb2 0]) hF1 (by kernel_rfl) rfl (by decide) (by kernel_rfl) (fun _=>by kernel_rfl) (enterK 4 Tryz.func21 rfl rfl rfl ?_)))
 intro a2 hF2 QR64 hR64 hNR64
 refine wp_seq_k fun K65 hK65=>wp_region_lit (xB 1 [(1,iv 0)] hF2 fun a2 hF2=>wpList_nil (hK65 _ _ (wp_seq_k fun K66 hK66=>wp_region_lit (wl (xL 2 3 0 (v:=.agg #[iv r,iv t]) hF2 hM fun a2 w hF2 hM=>wl (xM 3 (v:=iv (svE r t)) hF2 hM (xC 22 #[.agg #[iv r,iv t]] hF2 (fun w hM=>svCheck_w r t w)) fun a2 w hF2 hM=>xB 1 [(1,iv (svE r t))] hF2 fun a2 hF2=>wpList_nil (hK66 _ _ ?_)))))))
 refine wp_ret (hR64 _ _ (ret_of hF2 hM (.tmp rfl (.nil)) ⟨_,rfl,?_⟩))
 intro a1 hF1
 refine xB 1 [(5,iv (svE r t))] hF1 fun a1 hF1=>wpList_nil (hK63 _ _ (wp_seq_k fun K67 hK67=>wp_region_lit (xB 2 [(14,iv (svE r t)),(15,.bool (!decide (svE r t=0)))] hF1 fun a1 hF1=>wpList_nil (hK67 _ _ ?_))))
 by_cases hz8:svE r t=0
 ·have hz9:=svE_ok hz8
  replace hF1:=hF1.c hF1 (i:=15) (v:=.bool false) rfl (nT hz8)
  refine xF hF1 (wp_skip (hK61 _ _ (wp_region_lit (wl (xP 17 (v0:=.int .i64 (IntKind.i64.wrap (2 + 1))) (v:=iv 3) hF1 (vi (by decide)) fun a1 hF1=>xB 1 [(8,iv 3)] hF1 fun a1 hF1=>wpList_nil (hK58 _ _ (rounds_k fun K68 hK68=>wp_seq_k fun K69 hK69=>wp_region_lit (wl (xP 9 (v0:=.bool (decide (3 < 3))) (v:=.bool false) hF1 (bF (by omega)) fun a1 hF1=>?_)))))))))
  refine wpList_nil (hK69 _ _ (wp_seq_k fun K70 hK70=>xF hF1 (wp_exit (hK5 _ _ (wp_seq_k fun K71 hK71=>wp_region_lit (xB 1 [(2,iv 0)] hF1 fun a1 hF1=>wpList_nil (hK71 _ _ (wp_ret ?_))))))))
  refine hR3 _ _ (ret_of hF1 hM (.tmp rfl (.nil)) ⟨_,rfl,?_⟩)
  intro a hF
  refine xB 1 [(6,iv 0)] hF fun a hF=>wpList_nil (hK2 _ _ (wp_seq_k fun K72 hK72=>wp_seq_k fun K73 hK73=>wp_region_lit (xB 1 [(14,iv 0)] hF fun a hF=>wl (xP 15 (v0:=.bool (!decide (0=0))) (v:=.bool false) hF (nT (by omega)) fun a hF=>wpList_nil (hK73 _ _ (xF hF (wp_skip ?_)))))))
  refine hK72 _ _ (wp_seq_k fun K74 hK74=>wp_region_lit (wl (xL 18 2 0 (v:=.slice A l.length c) hF hM fun a w hF hM=>xB 1 [(19,pt bb2 0)] hF fun a hF=>wl (xL 20 3 0 (v:=iv r) hF hM fun a w hF hM=>wl (xM 21 (v:=.tuple #[iv (clF (dAll r l l.length)).1,.bool (clF (dAll r l l.length)).2]) hF hM (xC 23 #[.slice A l.length c,iv r] hF (fun w hM=>clearing_w r A l _ w (by omega) (by omega) (bk_all (bkAll_k (k:=k) (by assumption) (by omega))) (Ro.arr2 (hM.ok 1 _ rfl)))) fun a w hF hM=>?_)))))
  have:=cl_bd (r:=r) (l:=l) (by omega) (bkAll_k (k:=k) (by assumption) (by omega))
  refine xB 5 [(17,.tuple #[iv (clF (dAll r l l.length)).1,.bool (clF (dAll r l l.length)).2]),(22,iv (clF (dAll r l l.length)).1),(23,.bool (clF (dAll r l l.length)).2),(7,iv (clF (dAll r l l.length)).1),(8,.bool (clF (dAll r l l.length)).2)] hF fun a hF=>wpList_nil (hK74 _ _ (wp_seq_k fun K75 hK75=>wp_seq_k fun K76 hK76=>?_))
  cases hz10:(clF (dAll r l l.length)).2
  ·replace hF:=hF.c hF (i:=8) (v:=.bool false) rfl (congrArg Value.bool hz10)
   replace hF:=hF.c hF (i:=23) (v:=.bool false) rfl (congrArg Value.bool hz10)
   refine wp_region_lit (xB 2 [(24,.bool false),(25,.bool true)] hF fun a hF=>wpList_nil (hK76 _ _ (xT hF (wp_seq_k fun K77 hK77=>wp_region_lit (xB 2 [(4,iv 0),(5,iv 141)] hF fun a hF=>wpList_nil (hK77 _ _ (wp_ret (hR0 _ _ ?_))))))))
   refine ret_of hF hM (.tmp rfl (.tmp rfl (.nil))) ?_
   have hd:=dl_141 (r:=r) (t:=t) (l:=l) (by omega) (by omega) (bkAll_k (k:=k) (by assumption) (by omega)) hz8 (by rw [hz10]; decide)
   exact ⟨ret_eq (by rw [hd.1,hd.2]; rfl),hM.bel⟩
  replace hF:=hF.c hF (i:=8) (v:=.bool true) rfl (congrArg Value.bool hz10)
  replace hF:=hF.c hF (i:=23) (v:=.bool true) rfl (congrArg Value.bool hz10)
  refine wp_region_lit (xB 2 [(24,.bool true),(25,.bool false)] hF fun a hF=>wpList_nil (hK76 _ _ (xF hF (wp_skip (hK75 _ _ (wp_seq_k fun K78 hK78=>wp_region_lit (xB 1 [(26,pt bb2 1)] hF fun a hF=>wl (xL 27 3 1 (v:=iv t) hF hM fun a w hF hM=>xB 1 [(28,iv (clF (dAll r l l.length)).1)] hF fun a hF=>?_))))))))
  refine wl (xP 29 (v0:=.int .i64 (IntKind.i64.wrap (t + (clF (dAll r l l.length)).1))) (v:=iv (t + (clF (dAll r l l.length)).1)) hF (wi (by omega)) fun a hF=>xB 2 [(4,iv (t + (clF (dAll r l l.length)).1)),(5,iv 0)] hF fun a hF=>wpList_nil (hK78 _ _ (wp_ret (hR0 _ _ (ret_of hF hM (.tmp rfl (.tmp rfl (.nil))) ?_)))))
  have hd:=dl_0 (r:=r) (t:=t) (l:=l) (by omega) (by omega) (bkAll_k (k:=k) (by assumption) (by omega)) hz8 hz10
  exact ⟨ret_eq (by rw [hd.1,hd.2]; rfl),hM.bel⟩
 replace hF1:=hF1.c hF1 (i:=15) (v:=.bool true) rfl (nF hz8)
 refine xT hF1 (wp_seq_k fun K79 hK79=>wp_region_lit (xB 2 [(16,iv (svE r t)),(2,iv (svE r t))] hF1 fun a1 hF1=>wpList_nil (hK79 _ _ (wp_ret (hR3 _ _ (ret_of hF1 hM (.tmp rfl (.nil)) ⟨_,rfl,?_⟩))))))
 intro a hF
 refine xB 1 [(6,iv (svE r t))] hF fun a hF=>wpList_nil (hK2 _ _ (wp_seq_k fun K80 hK80=>wp_seq_k fun K81 hK81=>wp_region_lit (xB 1 [(14,iv (svE r t))] hF fun a hF=>wl (xP 15 (v0:=.bool (!decide (svE r t=0))) (v:=.bool true) hF (nF hz8) fun a hF=>wpList_nil (hK81 _ _ (xT hF (wp_seq_k fun K82 hK82=>?_)))))))
 refine wp_region_lit (xB 3 [(16,iv (svE r t)),(4,iv 0),(5,iv (svE r t))] hF fun a hF=>wpList_nil (hK82 _ _ (wp_ret (hR0 _ _ (ret_of hF hM (.tmp rfl (.tmp rfl (.nil))) ?_)))))
 have hd:=dl_140 (r:=r) (t:=t) (l:=l) (by omega) (by omega) (bkAll_k (k:=k) (by assumption) (by omega)) hz8
 exact ⟨ret_eq (by rw [hd.1,hd.2,svE_no hz8]; rfl),hM.bel⟩
end Go.Proofs.YtlngflbamkgjlaaGreat
namespace Go.Proofs.YtlngflbamkgjlaaGreat
set_option linter.unusedVariables false
theorem cq_in {n d B:Int} (hd:1 ≤ d) (h0:0 ≤ n) (h:n ≤ B * d):0 ≤ cq n d ∧ cq n d ≤ B:=⟨cq_nn hd h0,cq_le hd h⟩
def csE (b q r t:Int):Int:=if bkE b q=0 then (if svE r t=0 then (if q ≤ r then 0 else 141) else 140) else 130
theorem cs_130 {b q r t:Int} (h:¬ bkE b q=0):csE b q r t=130:=by unfold csE; rw [if_neg h]
theorem cs_140 {b q r t:Int} (h:bkE b q=0) (h1:¬ svE r t=0):csE b q r t=140:=by unfold csE; rw [if_pos h,if_neg h1]
theorem cs_141 {b q r t:Int} (h:bkE b q=0) (h1:svE r t=0) (h2:r < q):csE b q r t=141:=by unfold csE; rw [if_pos h,if_pos h1,if_neg (by omega)]
theorem cs_0 {b q r t:Int} (h:bkE b q=0) (h1:svE r t=0) (h2:¬ r < q):csE b q r t=0:=by unfold csE; rw [if_pos h,if_pos h1,if_pos (by omega)]
theorem cs_ok {b q r t:Int} (h:csE b q r t=0):bkE b q=0 ∧ svE r t=0 ∧ q ≤ r:=by
  unfold csE at h
  split at h
  · split at h
    · split at h
      · rename_i h1 h2 h3; exact ⟨h1,h2,h3⟩
      · cases h
    · cases h
  · cases h
theorem cs_bd {b q r t:Int} (h:csE b q r t=0):1 ≤ b ∧ b ≤ 1048576 ∧ 1 ≤ q ∧ q ≤ 2097152 ∧ 1 ≤ r ∧ r ≤ 2097152 ∧ 0 ≤ t ∧ t ≤ 268435456 ∧ q ≤ r:=by
  have h1:=cs_ok h
  have h2:=bkE_ok h1.1
  have h3:=svE_ok h1.2.1
  omega
theorem dl_one {b q r t:Int} (h:csE b q r t=0):dlE r t [(b,q)]=0 ∧ dlV r t [(b,q)]=t + cq (b * 1048576) r:=by
  have h1:=cs_ok h
  have e:dAll r [(b,q)] [(b,q)].length=[cq (b * 1048576) r]:=by
    show dAll r [(b,q)] (0 + 1)=_
    have p:pr [(b,q)] 0=(b,q):=rfl
    rw [dAll_take (by rw [p]; show ¬ r < q; omega),p]
    show [] ++ cq (b * 1048576) r :: dIn r (b,q) [(b,q)] (0 + 1)=_
    rw [dIn_skip (by rw [p]; exact .inl h1.2.2)]
    rfl
  have a:bkAll [(b,q)]=true:=bkAll_yes fun j hj=>by
    have:j=0:=by simp at hj; omega
    subst this
    exact h1.1
  have d:=dl_0 (r:=r) (t:=t) (l:=[(b,q)]) (by simp) (by simp) a h1.2.1 (by rw [e]; rfl)
  rw [e] at d
  exact d
def blV (b q r t:Int):Int:=if csE b q r t=0 then b + cq (q * t) 1048576 else 0
theorem bl_no {b q r t:Int} (h:¬ csE b q r t=0):blV b q r t=0:=by unfold blV; rw [if_neg h]
theorem bl_yes {b q r t:Int} (h:csE b q r t=0):blV b q r t=b + cq (q * t) 1048576:=by unfold blV; rw [if_pos h]
end Go.Proofs.YtlngflbamkgjlaaGreat
namespace Go.Proofs.YtlngflbamkgjlaaGreat
open Go.RowKit
set_option linter.unusedVariables false
set_option linter.unusedSimpArgs false
set_option maxRecDepth 100000
theorem checkSlow_w (b q r t:Int) (w0:World) :
    Calls Tryz.prog 24 #[.agg #[iv b,iv q],.agg #[iv r,iv t]] w0 (Ret w0 (.int .i64 (csE b q r t))):=by
 refine enterK 10 Tryz.func24 rfl rfl rfl ?_
 intro a hF Q0 hR0 hN0
 have hM:=Mem.start w0
 refine wp_seq_k fun K1 hK1=>wp_region_lit (wl (xN 2 1 (t:=33) (fun b=>.pointer (some ⟨b,0,none⟩)) #[iv b,iv q] hF hM fun bb1 a w hF hM=>wl (xN 3 2 (t:=35) (fun b=>.pointer (some ⟨b,0,none⟩)) #[iv r,iv t] hF hM fun bb2 a w hF hM=>xB 1 [(4,iv 0)] hF fun a hF=>wpList_nil (hK1 _ _ (wp_seq_k fun K2 hK2=>wp_region_lit (xB 3 [(5,.func (.func 41) #[] #[pt bb1 0]),(6,.func (.func 42) #[] #[pt bb2 0]),(7,.func (.func 43) #[] #[pt bb1 0,pt bb2 0])] hF fun a hF=>wl (xN 8 3 (t:=71) (fun b=>.slice (some ⟨b,0,none⟩) 3 3) #[.func (.func 41) #[] #[pt bb1 0],.func (.func 42) #[] #[pt bb2 0],.func (.func 43) #[] #[pt bb1 0,pt bb2 0]] hF hM fun bb3 a w hF hM=>wl (sC (f:=17) (args:=#[.slice (some ⟨bb3,0,none⟩) 3 3]) hF (by kernel_rfl) rfl (by decide) (by kernel_rfl) (fun _=>by kernel_rfl) ?_))))))))
 refine enterK 18 Tryz.func17 rfl rfl rfl ?_
 intro a1 hF1 QR3 hR3 hNR3
 refine wp_seq_k fun K4 hK4=>wp_region_lit (xB 1 [(2,iv 0)] hF1 fun a1 hF1=>wpList_nil (hK4 _ _ (wp_seq_k fun K5 hK5=>wp_seq_k fun K6 hK6=>wp_region_lit (xB 3 [(6,.slice (some ⟨bb3,0,none⟩) 3 3),(7,iv 3),(8,iv 0)] hF1 fun a1 hF1=>wpList_nil (hK6 _ _ (wp_block ?_))))))
 refine wp_loop_rounds 4 (rounds_k fun K7 hK7=>wp_seq_k fun K8 hK8=>wp_region_lit (wl (xP 9 (v0:=.bool (decide (0 < 3))) (v:=.bool true) hF1 (bT (by omega)) fun a1 hF1=>wpList_nil (hK8 _ _ (wp_seq_k fun K9 hK9=>xT hF1 (wp_skip (hK9 _ _ (wp_seq_k fun K10 hK10=>?_))))))))
 refine wp_block (wp_seq_k fun K11 hK11=>wp_region_lit (xB 1 [(10,pt bb3 0)] hF1 fun a1 hF1=>wl (xL 11 3 0 (v:=.func (.func 41) #[] #[pt bb1 0]) hF1 hM fun a1 w hF1 hM=>xB 1 [(4,.func (.func 41) #[] #[pt bb1 0])] hF1 fun a1 hF1=>wpList_nil (hK11 _ _ (wp_seq_k fun K12 hK12=>wp_region_lit (xB 1 [(12,.func (.func 41) #[] #[pt bb1 0])] hF1 fun a1 hF1=>wl (sC (f:=41) (args:=#[pt bb1 0]) hF1 (by kernel_rfl) rfl (by decide) (by kernel_rfl) (fun _=>by kernel_rfl) ?_)))))))
 refine enterK 4 Tryz.func41 rfl rfl rfl ?_
 intro a2 hF2 QR13 hR13 hNR13
 refine wp_seq_k fun K14 hK14=>wp_region_lit (xB 1 [(1,iv 0)] hF2 fun a2 hF2=>wpList_nil (hK14 _ _ (wp_seq_k fun K15 hK15=>wp_region_lit (wl (xL 2 1 0 (v:=.agg #[iv b,iv q]) hF2 hM fun a2 w hF2 hM=>wl (xM 3 (v:=iv (bkE b q)) hF2 hM (xC 20 #[.agg #[iv b,iv q]] hF2 (fun w hM=>bkCheck_w b q w)) fun a2 w hF2 hM=>xB 1 [(1,iv (bkE b q))] hF2 fun a2 hF2=>wpList_nil (hK15 _ _ ?_)))))))
 refine wp_ret (hR13 _ _ (ret_of hF2 hM (.tmp rfl (.nil)) ⟨_,rfl,?_⟩))
 intro a1 hF1
 refine xB 1 [(5,iv (bkE b q))] hF1 fun a1 hF1=>wpList_nil (hK12 _ _ (wp_seq_k fun K16 hK16=>wp_region_lit (xB 2 [(14,iv (bkE b q)),(15,.bool (!decide (bkE b q=0)))] hF1 fun a1 hF1=>wpList_nil (hK16 _ _ ?_))))
 by_cases hz1:bkE b q=0
 ·have hz2:=bkE_ok hz1
  replace hF1:=hF1.c hF1 (i:=15) (v:=.bool false) rfl (nT hz1)
  refine xF hF1 (wp_skip (hK10 _ _ (wp_region_lit (wl (xP 17 (v0:=.int .i64 (IntKind.i64.wrap (0 + 1))) (v:=iv 1) hF1 (vi (by decide)) fun a1 hF1=>xB 1 [(8,iv 1)] hF1 fun a1 hF1=>wpList_nil (hK7 _ _ (rounds_k fun K17 hK17=>wp_seq_k fun K18 hK18=>wp_region_lit (wl (xP 9 (v0:=.bool (decide (1 < 3))) (v:=.bool true) hF1 (bT (by omega)) fun a1 hF1=>?_)))))))))
  refine wpList_nil (hK18 _ _ (wp_seq_k fun K19 hK19=>xT hF1 (wp_skip (hK19 _ _ (wp_seq_k fun K20 hK20=>wp_block (wp_seq_k fun K21 hK21=>wp_region_lit (xB 1 [(10,pt bb3 1)] hF1 fun a1 hF1=>wl (xL 11 3 1 (v:=.func (.func 42) #[] #[pt bb2 0]) hF1 hM fun a1 w hF1 hM=>?_))))))))
  refine xB 1 [(4,.func (.func 42) #[] #[pt bb2 0])] hF1 fun a1 hF1=>wpList_nil (hK21 _ _ (wp_seq_k fun K22 hK22=>wp_region_lit (xB 1 [(12,.func (.func 42) #[] #[pt bb2 0])] hF1 fun a1 hF1=>wl (sC (f:=42) (args:=#[pt bb2 0]) hF1 (by kernel_rfl) rfl (by decide) (by kernel_rfl) (fun _=>by kernel_rfl) (enterK 4 Tryz.func42 rfl rfl rfl ?_)))))
  intro a2 hF2 QR23 hR23 hNR23
  refine wp_seq_k fun K24 hK24=>wp_region_lit (xB 1 [(1,iv 0)] hF2 fun a2 hF2=>wpList_nil (hK24 _ _ (wp_seq_k fun K25 hK25=>wp_region_lit (wl (xL 2 2 0 (v:=.agg #[iv r,iv t]) hF2 hM fun a2 w hF2 hM=>wl (xM 3 (v:=iv (svE r t)) hF2 hM (xC 22 #[.agg #[iv r,iv t]] hF2 (fun w hM=>svCheck_w r t w)) fun a2 w hF2 hM=>xB 1 [(1,iv (svE r t))] hF2 fun a2 hF2=>wpList_nil (hK25 _ _ ?_)))))))
  refine wp_ret (hR23 _ _ (ret_of hF2 hM (.tmp rfl (.nil)) ⟨_,rfl,?_⟩))
  intro a1 hF1
  refine xB 1 [(5,iv (svE r t))] hF1 fun a1 hF1=>wpList_nil (hK22 _ _ (wp_seq_k fun K26 hK26=>wp_region_lit (xB 2 [(14,iv (svE r t)),(15,.bool (!decide (svE r t=0)))] hF1 fun a1 hF1=>wpList_nil (hK26 _ _ ?_))))
  by_cases hz3:svE r t=0
  ·have hz4:=svE_ok hz3
   replace hF1:=hF1.c hF1 (i:=15) (v:=.bool false) rfl (nT hz3)
   refine xF hF1 (wp_skip (hK20 _ _ (wp_region_lit (wl (xP 17 (v0:=.int .i64 (IntKind.i64.wrap (1 + 1))) (v:=iv 2) hF1 (vi (by decide)) fun a1 hF1=>xB 1 [(8,iv 2)] hF1 fun a1 hF1=>wpList_nil (hK17 _ _ (rounds_k fun K27 hK27=>wp_seq_k fun K28 hK28=>wp_region_lit (wl (xP 9 (v0:=.bool (decide (2 < 3))) (v:=.bool true) hF1 (bT (by omega)) fun a1 hF1=>?_)))))))))
   refine wpList_nil (hK28 _ _ (wp_seq_k fun K29 hK29=>xT hF1 (wp_skip (hK29 _ _ (wp_seq_k fun K30 hK30=>wp_block (wp_seq_k fun K31 hK31=>wp_region_lit (xB 1 [(10,pt bb3 2)] hF1 fun a1 hF1=>wl (xL 11 3 2 (v:=.func (.func 43) #[] #[pt bb1 0,pt bb2 0]) hF1 hM fun a1 w hF1 hM=>?_))))))))
   refine xB 1 [(4,.func (.func 43) #[] #[pt bb1 0,pt bb2 0])] hF1 fun a1 hF1=>wpList_nil (hK31 _ _ (wp_seq_k fun K32 hK32=>wp_region_lit (xB 1 [(12,.func (.func 43) #[] #[pt bb1 0,pt bb2 0])] hF1 fun a1 hF1=>wl (sC (f:=43) (args:=#[pt bb1 0,pt bb2 0]) hF1 (by kernel_rfl) rfl (by decide) (by kernel_rfl) (fun _=>by kernel_rfl) (enterK 8 Tryz.func43 rfl rfl rfl ?_)))))
   intro a2 hF2 QR33 hR33 hNR33
   refine wp_seq_k fun K34 hK34=>wp_region_lit (xB 1 [(2,iv 0)] hF2 fun a2 hF2=>wpList_nil (hK34 _ _ (wp_seq_k fun K35 hK35=>wp_seq_k fun K36 hK36=>wp_region_lit (xB 1 [(3,pt bb1 1)] hF2 fun a2 hF2=>wl (xL 4 1 1 (v:=iv q) hF2 hM fun a2 w hF2 hM=>xB 1 [(5,pt bb2 0)] hF2 fun a2 hF2=>wl (xL 6 2 0 (v:=iv r) hF2 hM fun a2 w hF2 hM=>?_))))))
   refine xB 1 [(7,.bool (decide (r < q)))] hF2 fun a2 hF2=>wpList_nil (hK36 _ _ ?_)
   by_cases hz5:r < q
   ·replace hF2:=hF2.c hF2 (i:=7) (v:=.bool true) rfl (bT hz5)
    refine xT hF2 (wp_seq_k fun K37 hK37=>wp_region_lit (xB 1 [(2,iv 141)] hF2 fun a2 hF2=>wpList_nil (hK37 _ _ (wp_ret (hR33 _ _ (ret_of hF2 hM (.tmp rfl (.nil)) ⟨_,rfl,?_⟩))))))
    intro a1 hF1
    refine xB 1 [(5,iv 141)] hF1 fun a1 hF1=>wpList_nil (hK32 _ _ (wp_seq_k fun K38 hK38=>wp_region_lit (xB 1 [(14,iv 141)] hF1 fun a1 hF1=>wl (xP 15 (v0:=.bool (!decide (141=0))) (v:=.bool true) hF1 (nF (by omega)) fun a1 hF1=>wpList_nil (hK38 _ _ (xT hF1 (wp_seq_k fun K39 hK39=>wp_region_lit ?_)))))))
    refine xB 2 [(16,iv 141),(2,iv 141)] hF1 fun a1 hF1=>wpList_nil (hK39 _ _ (wp_ret (hR3 _ _ (ret_of hF1 hM (.tmp rfl (.nil)) ⟨_,rfl,?_⟩))))
    intro a hF
    refine xB 1 [(4,iv 141)] hF fun a hF=>wpList_nil (hK2 _ _ (wp_ret (hR0 _ _ (ret_of hF hM (.tmp rfl (.nil)) (⟨ret_int (cs_141 hz1 hz3 (by omega)).symm,hM.bel⟩)))))
   replace hF2:=hF2.c hF2 (i:=7) (v:=.bool false) rfl (bF hz5)
   refine xF hF2 (wp_skip (hK35 _ _ (wp_seq_k fun K40 hK40=>wp_region_lit (xB 1 [(2,iv 0)] hF2 fun a2 hF2=>wpList_nil (hK40 _ _ (wp_ret (hR33 _ _ (ret_of hF2 hM (.tmp rfl (.nil)) ⟨_,rfl,?_⟩))))))))
   intro a1 hF1
   refine xB 1 [(5,iv 0)] hF1 fun a1 hF1=>wpList_nil (hK32 _ _ (wp_seq_k fun K41 hK41=>wp_region_lit (xB 1 [(14,iv 0)] hF1 fun a1 hF1=>wl (xP 15 (v0:=.bool (!decide (0=0))) (v:=.bool false) hF1 (nT (by omega)) fun a1 hF1=>wpList_nil (hK41 _ _ (xF hF1 (wp_skip (hK30 _ _ ?_))))))))
   refine wp_region_lit (wl (xP 17 (v0:=.int .i64 (IntKind.i64.wrap (2 + 1))) (v:=iv 3) hF1 (vi (by decide)) fun a1 hF1=>xB 1 [(8,iv 3)] hF1 fun a1 hF1=>wpList_nil (hK27 _ _ (rounds_k fun K42 hK42=>wp_seq_k fun K43 hK43=>wp_region_lit (wl (xP 9 (v0:=.bool (decide (3 < 3))) (v:=.bool false) hF1 (bF (by omega)) fun a1 hF1=>wpList_nil (hK43 _ _ (wp_seq_k fun K44 hK44=>?_))))))))
   refine xF hF1 (wp_exit (hK5 _ _ (wp_seq_k fun K45 hK45=>wp_region_lit (xB 1 [(2,iv 0)] hF1 fun a1 hF1=>wpList_nil (hK45 _ _ (wp_ret (hR3 _ _ (ret_of hF1 hM (.tmp rfl (.nil)) ⟨_,rfl,?_⟩))))))))
   intro a hF
   refine xB 1 [(4,iv 0)] hF fun a hF=>wpList_nil (hK2 _ _ (wp_ret (hR0 _ _ (ret_of hF hM (.tmp rfl (.nil)) (⟨ret_int (cs_0 hz1 hz3 (by omega)).symm,hM.bel⟩)))))
  replace hF1:=hF1.c hF1 (i:=15) (v:=.bool true) rfl (nF hz3)
  refine xT hF1 (wp_seq_k fun K46 hK46=>wp_region_lit (xB 2 [(16,iv (svE r t)),(2,iv (svE r t))] hF1 fun a1 hF1=>wpList_nil (hK46 _ _ (wp_ret (hR3 _ _ (ret_of hF1 hM (.tmp rfl (.nil)) ⟨_,rfl,?_⟩))))))
  intro a hF
  refine xB 1 [(4,iv (svE r t))] hF fun a hF=>wpList_nil (hK2 _ _ (wp_ret (hR0 _ _ (ret_of hF hM (.tmp rfl (.nil)) (⟨ret_int (by rw [cs_140 hz1 hz3,svE_no hz3]),hM.bel⟩)))))
 replace hF1:=hF1.c hF1 (i:=15) (v:=.bool true) rfl (nF hz1)
 refine xT hF1 (wp_seq_k fun K47 hK47=>wp_region_lit (xB 2 [(16,iv (bkE b q)),(2,iv (bkE b q))] hF1 fun a1 hF1=>wpList_nil (hK47 _ _ (wp_ret (hR3 _ _ (ret_of hF1 hM (.tmp rfl (.nil)) ⟨_,rfl,?_⟩))))))
 intro a hF
 refine xB 1 [(4,iv (bkE b q))] hF fun a hF=>wpList_nil (hK2 _ _ (wp_ret (hR0 _ _ (ret_of hF hM (.tmp rfl (.nil)) (⟨ret_int (by rw [cs_130 hz1,bkE_no hz1]),hM.bel⟩)))))
theorem backlog_w (b q r t:Int) (w0:World) :
    Calls Tryz.prog 7 #[.agg #[iv b,iv q],.agg #[iv r,iv t]] w0 (Ret w0 (.tuple #[.int .i64 (blV b q r t),.int .i64 (csE b q r t)])):=by
 refine enterK 21 Tryz.func7 rfl rfl rfl ?_
 intro a hF Q0 hR0 hN0
 have hM:=Mem.start w0
 refine wp_seq_k fun K1 hK1=>wp_region_lit (wl (xN 2 1 (t:=33) (fun b=>.pointer (some ⟨b,0,none⟩)) #[iv b,iv q] hF hM fun bb1 a w hF hM=>wl (xN 3 2 (t:=35) (fun b=>.pointer (some ⟨b,0,none⟩)) #[iv r,iv t] hF hM fun bb2 a w hF hM=>xB 2 [(4,iv 0),(5,iv 0)] hF fun a hF=>wpList_nil (hK1 _ _ (wp_seq_k fun K2 hK2=>wp_seq_k fun K3 hK3=>wp_region_lit (wl (xL 7 1 0 (v:=.agg #[iv b,iv q]) hF hM fun a w hF hM=>wl (xL 8 2 0 (v:=.agg #[iv r,iv t]) hF hM fun a w hF hM=>?_))))))))
 refine wl (xM 9 (v:=iv (csE b q r t)) hF hM (xC 24 #[.agg #[iv b,iv q],.agg #[iv r,iv t]] hF (fun w hM=>checkSlow_w b q r t w)) fun a w hF hM=>xB 1 [(6,iv (csE b q r t))] hF fun a hF=>wpList_nil (hK3 _ _ (wp_seq_k fun K4 hK4=>wp_region_lit (xB 2 [(10,iv (csE b q r t)),(11,.bool (!decide (csE b q r t=0)))] hF fun a hF=>wpList_nil (hK4 _ _ ?_)))))
 by_cases hz1:csE b q r t=0
 ·have hz2:=cs_bd hz1
  replace hF:=hF.c hF (i:=11) (v:=.bool false) rfl (nT hz1)
  refine xF hF (wp_skip (hK2 _ _ (wp_seq_k fun K5 hK5=>rQ hM (by kernel_rfl) (by kernel_rfl) (xQ 13 (v0:=pt bb1 0) (v:=pt bb1 0) hF rfl fun a hF=>xK 14 1 0 (v:=iv b) hF fun a hF=>xQ 15 (v0:=pt bb1 1) (v:=pt bb1 1) hF rfl fun a hF=>xK 16 1 1 (v:=iv q) hF fun a hF=>xQ 17 (v0:=pt bb2 1) (v:=pt bb2 1) hF rfl fun a hF=>xK 18 2 1 (v:=iv t) hF fun a hF=>xR 19 (v:=iv (cq (q * t) 1048576)) hF (xC 25 #[iv q,iv t,iv 1048576] hF (fun w hM=>ceil_cq q t 1048576 w (by omega) (by omega) (by omega) (by have q:=(mul_bd (lo:=0) (hi:=562949953421312) (a:=q) (b:=t) (1) (2097152) (0) (268435456) (by omega) (by omega) (by omega) (by omega) (by decide)); omega))) fun a hF=>?_))))
  have:=cq_in (n:=q * t) (d:=1048576) (B:=536870912) (by omega) (mul_bd (lo:=0) (hi:=562949953421312) (a:=q) (b:=t) (1) (2097152) (0) (268435456) (by omega) (by omega) (by omega) (by omega) (by decide)).1 (by have q:=(mul_bd (lo:=0) (hi:=562949953421312) (a:=q) (b:=t) (1) (2097152) (0) (268435456) (by omega) (by omega) (by omega) (by omega) (by decide)); omega)
  refine xQ 20 (v0:=.int .i64 (IntKind.i64.wrap (b + cq (q * t) 1048576))) (v:=iv (b + cq (q * t) 1048576)) hF (wi (by omega)) fun a hF=>xQ 4 (v0:=iv (b + cq (q * t) 1048576)) (v:=iv (b + cq (q * t) 1048576)) hF rfl fun a hF=>xQ 5 (v0:=iv 0) (v:=iv 0) hF rfl fun a hF=>wpQuiet_nil ?_
  intro w hM
  refine hK5 _ _ (wp_ret (hR0 _ _ (ret_of hF hM (.tmp rfl (.tmp rfl (.nil))) (⟨ret_eq (by rw [bl_yes hz1,hz1]; rfl),hM.bel⟩))))
 replace hF:=hF.c hF (i:=11) (v:=.bool true) rfl (nF hz1)
 refine xT hF (wp_seq_k fun K6 hK6=>wp_region_lit (xB 3 [(12,iv (csE b q r t)),(4,iv 0),(5,iv (csE b q r t))] hF fun a hF=>wpList_nil (hK6 _ _ (wp_ret (hR0 _ _ (ret_of hF hM (.tmp rfl (.tmp rfl (.nil))) (⟨ret_eq (by rw [bl_no hz1]; rfl),hM.bel⟩)))))))
end Go.Proofs.YtlngflbamkgjlaaGreat
namespace Go.Proofs.YtlngflbamkgjlaaGreat
open Go.RowKit
set_option linter.unusedVariables false
set_option linter.unusedSimpArgs false
section
variable {P:Program} {n:NF} {F:List (Nat × Option Value)} {a:Act} {o:Oper} {w w0:World} {ops:Array Oper} {R:Exit → Act → World → Prop} {B:Nat} {L:List (Nat × Option Ent)} {K:Act → World → Prop} {d f:Nat} {args:Array Value}
theorem sX {Φ:Ending → World → Prop} (hF:Fr n F a) (hM:Mem B w0 L w) (hg:wantF ops F o=some true) (hd:o.dst=some d) (hn:d < n) (hk:known F o=true) (hr:∀ w,(execOp (evF F) o).run P w=.ok (.enter f args) w)
    (hc:Calls P f args w Φ) (kk:∀ en w',Φ en w' → ∃ v,en=.returned v ∧ ∀ a',Fr n ((d,some v) :: F) a' → K a' w'):One P ops R o K a w :=
  sC hF hg hd hn hk hr (hc.mono fun en w' h=>kk en w' h)
theorem sOf {ge:List (Int × Int)} {cyc per lost rt:Int} (hF:Fr n F a) (hM:Mem B w0 L w) (hg:wantF ops F o=some true) (hd:o.dst=some d) (hn:d < n) (hk:known F o=true) (hr:∀ w,(execOp (evF F) o).run P w=.ok (.enter f args) w)
    (hc:Calls P f args w (OfS ge cyc per lost rt w)) (kk:∀ lt a' w',latP ge cyc per lost rt lt → Fr n ((d,some (.tuple #[.agg #[.int .i64 rt,.int .i64 lt],.int .i64 0])) :: F) a' → Mem B w0 L w' → K a' w'):One P ops R o K a w :=
  sX hF hM hg hd hn hk hr hc fun en w' ⟨lt,h1,h2,h3⟩=>⟨_,h2,fun a' ha=>kk lt a' w' h1 ha (hM.below h3)⟩
theorem sQ0 (k:Nat) {mk:Value → Value} {cap':Nat → Int} {Q':Nat → List (List Int)} (hF:Fr n F a) (hM:Mem B w0 L w) (hg:wantF ops F o=some true) (hd:o.dst=some d) (hn:d < n) (hk:known F o=true) (hr:∀ w,(execOp (evF F) o).run P w=.ok (.enter f args) w)
    (hc:Calls P f args w (RetQ w (fun _=>False) mk cap' Q'))
    (kk:∀ A cap S' a' w',Fr n ((d,some (mk (.slice A 8 cap))) :: F) a' → Mem B w0 ((k,some (.sep S' (QM S' A cap' Q'))) :: L) w' → K a' w'):One P ops R o K a w :=
  sX hF hM hg hd hn hk hr hc fun en w' ⟨A,c,h1,h2,h3⟩=>⟨_,h1,fun a' ha=>by
    refine kk A c (fun b=>(False ∨ w.heap.size ≤ b) ∧ b < w'.heap.size) a' w' ha ?_
    refine (hM.below h3).add k ⟨h2.mono fun b h1 h2=>⟨h2,h1⟩,fun b h=>h.2,fun w1 w2 h h1=>h1.same h⟩ fun j x hj hx hw b h1 h2=>?_
    rcases hw with hw | hw
    · cases hw
    · rcases h1 with h1 | h1
      · cases h1
      · rcases h1.1 with h3 | h3
        · exact h3.elim
        · have:=Ent.has_lt (hM.ok j x hx) h2
          omega⟩
theorem sCm (k:Nat) {bu br:Int} (hF:Fr n F a) (hM:Mem B w0 L w) (hg:wantF ops F o=some true) (hd:o.dst=some d) (hn:d < n) (hk:known F o=true) (hr:∀ w,(execOp (evF F) o).run P w=.ok (.enter f args) w)
    (hc:Calls P f args w (ComesR bu br w))
    (kk:∀ out ow A c a' w',CmP bu br 2621400 out ow → out.length ≤ 40 → out.length ≤ c → Fr n ((d,some (.tuple #[.slice A out.length c,.bool true])) :: F) a' → Mem B w0 ((k,some (.ro A (flatR out))) :: L) w' → K a' w'):One P ops R o K a w :=
  sX hF hM hg hd hn hk hr hc fun en w' ⟨out,ow,A,c,h1,h2,h3,h4,h5,h6,h7⟩=>⟨_,h4,fun a' ha=>kk out ow A c a' w' h1 h2 h3 ha (hM.fresh h7 k h5 h6)⟩
theorem sRun (k:Nat) {A:Option Addr} {ge:List (Int × Int)} {gc:Nat} {cyc per sh un:Int} {J:PS → Prop} (hF:Fr n F a) (hM:Mem B w0 L w) (hg:wantF ops F o=some true) (hd:o.dst=some d) (hn:d < n) (hk:known F o=true) (hr:∀ w,(execOp (evF F) o).run P w=.ok (.enter f args) w)
    (hc:Calls P f args w (RunR A ge gc cyc per sh un J w))
    (kk:∀ (s:PS) (Aq:Option Addr) (gq:Nat) (gA:Option Addr) (gG:Nat) a' w',J s → stopS ge cyc per sh un s → WR 6 s.g → Fr n ((d,some (.tuple #[.agg #[.slice A ge.length gc,.int .i64 cyc,.int .i64 per,.int .i64 sh,.int .i64 un,.slice Aq 8 gq,.bool (decide (s.bz=1)),.int .i64 s.x0,.int .i64 s.x1,.int .i64 s.x2,.int .i64 s.x3,.int .i64 s.x4,.int .i64 s.x5,.bool (decide (s.x6=1)),.int .i64 s.bg,.int .i64 s.fn,.int .i64 s.rs],.slice gA s.g.length gG,.int .i64 0])) :: F) a' → Mem B w0 ((k,some (.ro gA (flatR s.g))) :: L) w' → K a' w'):One P ops R o K a w :=
  sX hF hM hg hd hn hk hr hc fun en w' ⟨s,Aq,gq,gA,gg,h1,h2,h3,h4,h5,h6,h7⟩=>⟨_,h3,fun a' ha=>kk s Aq gq gA gg a' w' h1 h2 h4 ha (hM.fresh h7 k h5 h6)⟩
end
def altL (lo:List Int) (k:Nat):List (Int × Int):=(List.range k).map fun i=>(128 - ((i % 2:Nat):Int),1 + 8 * nt lo i * (1 + 9 * ((i % 2:Nat):Int)))
theorem altL_succ (lo:List Int) (k:Nat):altL lo (k + 1)=altL lo k ++ [(128 - ((k % 2:Nat):Int),1 + 8 * nt lo k * (1 + 9 * ((k % 2:Nat):Int)))]:=by
  unfold altL
  rw [List.range_succ,List.map_append]
  rfl
theorem altL_len (lo:List Int) (k:Nat):(altL lo k).length=k:=by simp [altL]
theorem altL_at {lo:List Int} {k i:Nat} (h:i < k):pr (altL lo k) i=(128 - ((i % 2:Nat):Int),1 + 8 * nt lo i * (1 + 9 * ((i % 2:Nat):Int))):=by
  unfold pr altL
  simp [List.getD_eq_getElem?_getD,h]
theorem sumL_app {L M:List (Int × Int)}:∀ k,k ≤ L.length → sumL (L ++ M) k=sumL L k
  | 0, _ => rfl
  | k + 1, h => by
    simp only [sumL]
    rw [sumL_app k (by omega),pr_left (by omega)]
theorem altL_sum (lo:List Int) (k:Nat):sumL (altL lo (k + 1)) (k + 1)=sumL (altL lo k) k + (1 + 8 * nt lo k * (1 + 9 * ((k % 2:Nat):Int))):=by
  show sumL (altL lo (k + 1)) k + (pr (altL lo (k + 1)) k).2=_
  rw [altL_at (by omega),altL_succ,sumL_app k (by rw [altL_len]; omega)]
def bytP (lo:List Int):Prop:=∀ k,k < lo.length → 0 ≤ nt lo k ∧ nt lo k ≤ 255
theorem altL_bd {lo:List Int} (hb:bytP lo) {k i:Nat} (hk:k ≤ lo.length) (h:i < k):(127 ≤ (pr (altL lo k) i).1 ∧ (pr (altL lo k) i).1 ≤ 128) ∧ 1 ≤ (pr (altL lo k) i).2 ∧ (pr (altL lo k) i).2 ≤ 20401:=by
  rw [altL_at h]
  have:=hb i (by omega)
  dsimp only
  rcases Nat.mod_two_eq_zero_or_one i with e | e <;> rw [e] <;> omega
theorem altL_sum_bd {lo:List Int} (hb:bytP lo):∀ k,k ≤ lo.length → (k:Int) ≤ sumL (altL lo k) k ∧ sumL (altL lo k) k ≤ 20401 * (k:Int)
  | 0, _ => by simp [sumL]
  | k + 1, h => by
    have:=altL_sum_bd hb k (by omega)
    have h2:=altL_bd hb (k:=k + 1) (i:=k) h (by omega)
    rw [altL_at (by omega)] at h2
    dsimp only at h2
    rw [altL_sum]
    omega
theorem altL_ok {lo:List Int} (hb:bytP lo) {k:Nat} (hk:k ≤ lo.length) (h1:1 ≤ k) (h2:k ≤ 16):gaE (altL lo k) (sumL (altL lo k) k)=0:=by
  have hs:=altL_sum_bd hb k hk
  refine (ga_0 ⟨by rw [altL_len]; omega,by rw [altL_len]; omega,fun j hj=>?_,by rw [altL_len],by omega⟩).symm
  rw [altL_len] at hj
  have:=altL_bd hb hk hj
  omega
def capL (k:Nat):List Int:=(List.range 8).map fun j=>if j < k then 65536 else 0
theorem capL_set {k:Nat} (h:k < 8):(capL k).set k 65536=capL (k + 1):=by
  refine List.ext_getElem (by simp [capL]) fun i h1 h2=>?_
  simp only [capL,List.getElem_set,List.getElem_map,List.getElem_range]
  by_cases e:k=i
  · subst e; simp
  · by_cases q:i < k
    · simp [e,q,show i < k + 1 by omega]
    · simp [e,q,show ¬ i < k + 1 by omega]
theorem capL_len (k:Nat):(capL k).length=8:=by simp [capL]
def capF (bl:Int) (c:Nat):Int:=nt ((capL 8).set 6 bl) c
theorem capF_6 (bl:Int):capF bl 6=bl:=rfl
theorem capF_ne {bl:Int} {c:Nat} (hc:c < 8) (h:c ≠ 6):capF bl c=65536:=by
  match c,hc,h with
  | 0, _, _ | 1, _, _ | 2, _, _ | 3, _, _ | 4, _, _ | 5, _, _ | 7, _, _ => rfl
  | 6, _, h => exact absurd rfl h
def f6L (g:List (List Int)):Nat → List (List Int)
  | 0 => []
  | k + 1 => if rc g k 3 = 6 then f6L g k ++ [[rc g k 0, rc g k 1, rc g k 2, rc g k 3, rc g k 4, rc g k 5]] else f6L g k
theorem f6L_wr (g:List (List Int)):∀ k,WR 6 (f6L g k)
  | 0 => WR.nil
  | k + 1 => by
    rw [f6L]
    split
    · exact WR.app (f6L_wr g k) (by unfold WR; simp)
    · exact f6L_wr g k
def FinP (all g:List (List Int)) (bd per:Int):Prop:=(f6L g g.length).length=(f6L all all.length).length ∧ ∀ k,k < all.length → rc all k 3=6 → (f6L all k).length < (f6L g g.length).length ∧
  [rc (f6L g g.length) (f6L all k).length 1,rc (f6L g g.length) (f6L all k).length 2,rc (f6L g g.length) (f6L all k).length 3,rc (f6L g g.length) (f6L all k).length 4,rc (f6L g g.length) (f6L all k).length 5]=[rc all k 1,rc all k 2,rc all k 3,rc all k 4,rc all k 5] ∧
  rc (f6L g g.length) (f6L all k).length 0 ≤ rc all k 0 + bd ∧ rc all k 0 + rc all k 4 * per ≤ rc (f6L g g.length) (f6L all k).length 0
def LawP:Prop:=∀ (lo:List Int) (n:Nat) (per sh bu br rt lt:Int) (out:List (List Int)) (ow:List (Int × Int)),bytP lo → n ≤ lo.length → 1 ≤ n ∧ n ≤ 16 → 1 ≤ per ∧ per ≤ 5 → -1000 ≤ sh ∧ sh ≤ 1000 → 339 ≤ bu ∧ bu ≤ 1359 → 1 ≤ br ∧ br ≤ 65536 →
  ofRt (altL lo n) (sumL (altL lo n) n) per (339 * per)=rt → 1 ≤ rt → latP (altL lo n) (sumL (altL lo n) n) per (339 * per) rt lt → csE bu br rt lt=0 → blV bu br rt lt ≤ 65536 → CmP bu br 2621400 out ow → out.length ≤ 40 →
  ∃ (J:PS → Prop) (J1:Int → PS → Prop),RunSteps (altL lo n) (sumL (altL lo n) n) per sh (capF (blV bu br rt lt)) 1073741824 J J1 ∧ J ⟨0,0,0,0,0,0,0,0,0,0,0,0,fun _=>[],out,[]⟩ ∧ ∀ s,J s → stopS (altL lo n) (sumL (altL lo n) n) per sh 1073741824 s → FinP out s.g (dlV rt lt [(bu,br)]) per
def SvP:Prop:=∀ (lo:List Int) (n:Nat) (per rt lt:Int),bytP lo → n ≤ lo.length → 1 ≤ n ∧ n ≤ 16 → 1 ≤ per ∧ per ≤ 5 → ofRt (altL lo n) (sumL (altL lo n) n) per (339 * per)=rt → 1 ≤ rt → latP (altL lo n) (sumL (altL lo n) n) per (339 * per) rt lt → svE rt lt=0
end Go.Proofs.YtlngflbamkgjlaaGreat
namespace Go.Proofs.YtlngflbamkgjlaaGreat
open Go.RowKit
set_option linter.unusedVariables false
set_option linter.unusedSimpArgs false
set_option maxRecDepth 100000
theorem alt_bad {lo:List Int} {k:Nat} (h:k=0):gaE (altL lo k) (sumL (altL lo k) k)=370:=by
  subst h
  exact (ga_370 fun z=>absurd z.1 (by rw [altL_len]; omega)).symm
theorem dl_bad {b q r t:Int} (hb:bkE b q=0) (hs:svE r t=0) (h:¬ q ≤ r):dlE r t [(b,q)]=141 ∧ dlV r t [(b,q)]=0 ∧ csE b q r t=141 ∧ blV b q r t=0:=by
  have hc:=cs_141 hb hs (by omega)
  have hd:=dl_141 (r:=r) (t:=t) (l:=[(b,q)]) (by simp) (by simp) (by simp [bkAll,hb]) hs (by
    show ¬ (clF (dAll r [(b,q)] (0 + 1))).2=true
    rw [dAll_skip (show r < (pr [(b,q)] 0).2 from (by show r < q; omega))]
    simp [dAll,clF])
  exact ⟨hd.1,hd.2,hc,bl_no (by rw [hc]; decide)⟩
theorem cq_bd {n d:Int} (hn:0 ≤ n) (hd:1 ≤ d):0 ≤ cq n d ∧ cq n d ≤ n:=by
  have:=(fd_bd (a:=-n) hd).2 (by omega)
  unfold cq
  omega
theorem dl_bd1 {b q r t:Int} (h:csE b q r t=0):(0 ≤ dlV r t [(b,q)] ∧ dlV r t [(b,q)] ≤ 2000000000000) ∧ 0 ≤ blV b q r t ∧ blV b q r t ≤ 1000000000000000:=by
  have hb:=cs_bd h
  have h1:=cq_bd (n:=b * 1048576) (d:=r) (by omega) (by omega)
  have h2:0 ≤ q * t ∧ q * t ≤ 2097152 * 268435456:=⟨Int.mul_nonneg (by omega) (by omega),Int.mul_le_mul (by omega) (by omega) (by omega) (by omega)⟩
  have h3:=cq_bd (n:=q * t) (d:=1048576) h2.1 (by omega)
  rw [(dl_one h).2,bl_yes h]
  omega
theorem cap_lem {bl:Int} {k:Nat} (hk:k=8):((capL k).set 6 bl).length=8 ∧ (fun c=>nt ((capL k).set 6 bl) c)=capF bl:=by
  subst hk
  exact ⟨rfl,rfl⟩
theorem cap_bd {bl:Int} (hb:0 ≤ bl ∧ bl ≤ 65536):∀ c,c < 8 → 0 ≤ capF bl c ∧ capF bl c ≤ 65536:=fun c hc=>by
  by_cases e:c=6
  · subst e; rw [capF_6]; exact hb
  · rw [capF_ne hc e]; omega
theorem CmP.cm {bu br:Int} {out:List (List Int)} {ow:List (Int × Int)} (h:CmP bu br 2621400 out ow) (hl:out.length ≤ 40):cmP out 1073741824:=⟨h.wr,fun k hk=>by
  have:=h.el k hk
  have h5:=this.2.2.2.2.1
  have hi:ckI (rc out k 1) (rc out k 2) (rc out k 3) (rc out k 4) (rc out k 5)=0:=by
    rw [this.2.2.1,this.2.2.2.1,this.2.2.2.2.2]
    unfold ckI
    omega
  exact ⟨this.1.1,by omega,this.2.1,hi⟩⟩
set_option maxRecDepth 100000 in
set_option maxHeartbeats 16000000 in
theorem topService_walk (bA:Option Addr) (lo:List Int) (bc:Nat) (py sx bx rx:Int) (lA_:Option Addr) (l:List (List Int)) (lc_:Nat) (w0:World) (hSends:∀ w,Calls Tryz.prog 4 #[] w (Ret w (.bool true))) (hLaw:LawP) (hSv:SvP) (hB:Ro w0 bA (lo.map (Value.int .u8))) (hlo:bytP lo) (hL:Ro w0 lA_ (flatE lE l)) (hWl:WR 3 l) (hlb:∀ k,k < l.length → (0 ≤ rc l k 0 ∧ rc l k 0 ≤ 65535) ∧ (0 ≤ rc l k 1 ∧ rc l k 1 ≤ 255) ∧ 0 ≤ rc l k 2 ∧ rc l k 2 ≤ 255) (hx:(0 ≤ py ∧ py ≤ 255) ∧ (-32768 ≤ sx ∧ sx ≤ 32767) ∧ (0 ≤ bx ∧ bx ≤ 255) ∧ 0 ≤ rx ∧ rx ≤ 65535) :
    Calls Tryz.prog 3 #[.slice bA lo.length bc,.int .u8 py,.int .i16 sx,.int .u8 bx,.int .u16 rx,.slice lA_ l.length lc_] w0 (Ret w0 (.bool true)):=by
 refine enterK 254 Tryz.func3 rfl rfl rfl ?_
 intro a hF Q0 hR0 hN0
 have hM:=Mem.start w0
 replace hM:=hM.addOld 1 hB (Nat.le_refl _)
 replace hM:=hM.addOld 2 hL (Nat.le_refl _)
 refine wp_seq_k fun K1 hK1=>wp_region_lit (xB 1 [(12,.bool false)] hF fun a hF=>wpList_nil (hK1 _ _ (wp_seq_k fun K2 hK2=>wp_seq_k fun K3 hK3=>wp_region_lit (wl (xM 36 (v:=.bool true) hF hM (xC 4 #[] hF (fun w hM=>hSends w)) fun a w hF hM=>xB 1 [(37,.bool false)] hF fun a hF=>wpList_nil (hK3 _ _ ?_))))))
 refine xF hF (wp_skip (hK2 _ _ (wp_seq_k fun K4 hK4=>wp_region_lit (wl (xN 13 3 (t:=29) (fun b=>.pointer (some ⟨b,0,none⟩)) #[.slice none 0 0,iv 0] hF hM fun bb1 a w hF hM=>wpList_nil (hK4 _ _ (wp_seq_k fun K5 hK5=>?_)))))))
 replace hM:=hM.addNil 4 31 2
 have hJ5:∀ (i:Nat) (gA:Option Addr) (gC:Nat) (a:Act) (w:World),Fr 254 [(0,some (.slice bA lo.length bc)),(1,some (.int .u8 py)),(2,some (.int .i16 sx)),(3,some (.int .u8 bx)),(4,some (.int .u16 rx)),(5,some (.slice lA_ l.length lc_)),(12,some (.bool false)),(13,some (pt bb1 0))] a → Mem w0.heap.size w0 [(1,some (.ro bA (lo.map (Value.int .u8)))),(2,some (.ro lA_ (flatE lE l))),(3,some (.row bb1 29 #[.slice gA i gC,iv (sumL (altL lo i) i)])),(4,some (.own (.slice gA i gC) 31 2 i (flat2 (altL lo i))))] w → ((i:Int) ≤ (lo.length:Int)) → ((i:Int) ≤ 16) → (1 ≤ (i:Int) ∨ (lo.length:Int)=0) → K5 a w:=by
  intro i gA gC a w hF hM hz1 hz2 hz3
  refine hK5 _ _ ?_
  have hsb:=altL_sum_bd hlo i (by omega)
  have hal:=altL_len lo i
  refine wp_seq_k fun K6 hK6=>wp_region_lit (xB 1 [(76,.int .u8 bx)] hF fun a hF=>wl (xP 77 (v0:=.int .i64 (IntKind.i64.wrap bx)) (v:=iv bx) hF (vi (IntWalk.i64_in _ (by omega))) fun a hF=>wl (xP 78 (v0:=.int .i64 (IntKind.i64.wrap (4 * bx))) (v:=iv (4 * bx)) hF (wi (by omega)) fun a hF=>wl (xP 79 (v0:=.int .i64 (IntKind.i64.wrap (339 + 4 * bx))) (v:=iv (339 + 4 * bx)) hF (wi (by omega)) fun a hF=>xB 1 [(80,.int .u16 rx)] hF fun a hF=>wl (xP 81 (v0:=.int .i64 (IntKind.i64.wrap rx)) (v:=iv rx) hF (vi (IntWalk.i64_in _ (by omega))) fun a hF=>wl (xP 82 (v0:=.int .i64 (IntKind.i64.wrap (1 + rx))) (v:=iv (1 + rx)) hF (wi (by omega)) fun a hF=>xB 1 [(83,.agg #[iv (339 + 4 * bx),iv (1 + rx)])] hF fun a hF=>wl (xN 16 5 (t:=33) (fun b=>.pointer (some ⟨b,0,none⟩)) #[iv 0,iv 0] hF hM fun bb2 a w hF hM=>?_)))))))
  refine wl (xS 5 0 #[iv (339 + 4 * bx),iv (1 + rx)] hF hM fun w hM=>wpList_nil (hK6 _ _ (wp_seq_k fun K7 hK7=>wp_region_lit (xB 1 [(84,.int .u8 py)] hF fun a hF=>wl (xM 85 (v:=.int .u8 (py % 5)) hF hM (yld_rem py 5 hF rfl (by kernel_rfl) (by kernel_rfl) (by kernel_rfl) (by decide) (Int.tmod_eq_emod_of_nonneg (by omega))) fun a w hF hM=>wl (xP 86 (v0:=.int .i64 (IntKind.i64.wrap (py % 5))) (v:=iv (py % 5)) hF (vi (IntWalk.i64_in _ (by omega))) fun a hF=>wl (xP 87 (v0:=.int .i64 (IntKind.i64.wrap (1 + py % 5))) (v:=iv (1 + py % 5)) hF (wi (by omega)) fun a hF=>xB 1 [(17,iv (1 + py % 5))] hF fun a hF=>wpList_nil (hK7 _ _ ?_))))))))
  refine wp_seq_k fun K8 hK8=>?_
  by_cases hz4:1 ≤ (i:Int)
  ·skip
   have hga:=altL_ok hlo (k:=i) (by omega) (by omega) (by omega)
   obtain ⟨rt,hrt⟩:∃ z:Int,ofRt (altL lo i) (sumL (altL lo i) i) (1 + py % 5) (339 * (1 + py % 5))=z:=⟨_,rfl⟩
   by_cases hz5:1 ≤ rt
   ·skip
    refine wp_region_lit (wl (xL 89 3 0 (v:=.agg #[.slice gA i gC,iv (sumL (altL lo i) i)]) hF hM fun a w hF hM=>xB 1 [(90,iv (1 + py % 5))] hF fun a hF=>wl (sOf (f:=5) (args:=#[.agg #[.slice gA i gC,iv (sumL (altL lo i) i)],iv (1 + py % 5),iv 339]) (ge:=(altL lo i)) (cyc:=(sumL (altL lo i) i)) (per:=(1 + py % 5)) (lost:=339 * (1 + py % 5)) (rt:=rt) hF hM (by kernel_rfl) rfl (by decide) (by kernel_rfl) (fun _=>by kernel_rfl) (by have:=of_some gA (altL lo i) gC (sumL (altL lo i) i) (1 + py % 5) 339 w (ro_of_own (hM.ok 4 _ rfl)) (by omega) hga (by rw [hrt]; omega); rw [altL_len,hrt] at this; exact this) fun lt a w hlt hF hM=>?_)))
    have hsv:=hSv lo i (1 + py % 5) rt lt hlo (by omega) (by omega) (by omega) hrt (by omega) hlt
    have hsb2:=svE_ok hsv
    have hbk:bkE (339 + 4 * bx) (1 + rx)=0:=by unfold bkE; omega
    refine xB 3 [(88,.tuple #[.agg #[iv rt,iv lt],iv 0]),(92,.agg #[iv rt,iv lt]),(93,iv 0)] hF fun a hF=>wl (xN 18 6 (t:=35) (fun b=>.pointer (some ⟨b,0,none⟩)) #[iv 0,iv 0] hF hM fun bb3 a w hF hM=>?_)
    refine wl (xS 6 0 #[iv rt,iv lt] hF hM fun w hM=>xB 1 [(19,iv 0)] hF fun a hF=>wpList_nil (hK8 _ _ (wp_seq_k fun K9 hK9=>wp_seq_k fun K10 hK10=>wp_region_lit (xB 1 [(94,iv 0)] hF fun a hF=>wl (xP 95 (v0:=.bool (!decide (0=0))) (v:=.bool false) hF (nT (by omega)) fun a hF=>wpList_nil (hK10 _ _ (xF hF ?_)))))))
    refine wp_skip (hK9 _ _ (wp_seq_k fun K11 hK11=>?_))
    by_cases hz6:1 + rx ≤ rt
    ·skip
     have hcs:=cs_0 (t:=lt) hbk hsv (by omega)
     obtain ⟨bd,hbd⟩:∃ z:Int,dlV rt lt [((339 + 4 * bx),(1 + rx))]=z:=⟨_,rfl⟩
     obtain ⟨bl,hbl⟩:∃ z:Int,blV (339 + 4 * bx) (1 + rx) rt lt=z:=⟨_,rfl⟩
     have hdb:=dl_bd1 hcs
     rw [hbd,hbl] at hdb
     refine wp_region_lit (wl (xL 108 5 0 (v:=.agg #[iv (339 + 4 * bx),iv (1 + rx)]) hF hM fun a w hF hM=>wl (xN 109 7 (t:=33) (fun b=>.slice (some ⟨b,0,none⟩) 1 1) #[iv (339 + 4 * bx),iv (1 + rx)] hF hM fun bb4 a w hF hM=>wl (xL 110 6 0 (v:=.agg #[iv rt,iv lt]) hF hM fun a w hF hM=>wl (xM 111 (v:=.tuple #[iv bd,iv 0]) hF hM (xC 6 #[.slice (some ⟨bb4,0,none⟩) 1 1,.agg #[iv rt,iv lt]] hF (fun w hM=>by have:=delay_w rt lt (some ⟨bb4,0,none⟩) [(339 + 4 * bx,1 + rx)] 1 w (hM.roRow (k:=7) rfl); rw [hbd,(dl_one hcs).1] at this; exact this)) fun a w hF hM=>xB 5 [(107,.tuple #[iv bd,iv 0]),(112,iv bd),(113,iv 0),(20,iv bd),(19,iv 0)] hF fun a hF=>wpList_nil (hK11 _ _ (wp_seq_k fun K12 hK12=>wp_region_lit (wl (xL 115 5 0 (v:=.agg #[iv (339 + 4 * bx),iv (1 + rx)]) hF hM fun a w hF hM=>wl (xL 116 6 0 (v:=.agg #[iv rt,iv lt]) hF hM fun a w hF hM=>?_))))))))))
     refine wl (xM 117 (v:=.tuple #[iv bl,iv 0]) hF hM (xC 7 #[.agg #[iv (339 + 4 * bx),iv (1 + rx)],.agg #[iv rt,iv lt]] hF (fun w hM=>by have:=backlog_w (339 + 4 * bx) (1 + rx) rt lt w; rw [hbl,hcs] at this; exact this)) fun a w hF hM=>xB 5 [(114,.tuple #[iv bl,iv 0]),(118,iv bl),(119,iv 0),(21,iv bl),(22,iv 0)] hF fun a hF=>wpList_nil (hK12 _ _ (wp_seq_k fun K13 hK13=>wp_seq_k fun K14 hK14=>wp_region_lit (xB 1 [(120,iv 0)] hF fun a hF=>wl (xP 121 (v0:=.bool (!decide (0=0))) (v:=.bool false) hF (nT (by omega)) fun a hF=>xB 2 [(122,.bool false),(123,iv 0)] hF fun a hF=>wl (xP 124 (v0:=.bool (!decide (0=0))) (v:=.bool false) hF (nT (by omega)) fun a hF=>xB 1 [(125,.bool false)] hF fun a hF=>?_))))))
     refine wpList_nil (hK14 _ _ (xF hF (wp_skip (hK13 _ _ (wp_seq_k fun K15 hK15=>wp_seq_k fun K16 hK16=>wp_region_lit (xB 2 [(132,iv bl),(133,.bool (decide (65536 < bl)))] hF fun a hF=>wpList_nil (hK16 _ _ ?_)))))))
     by_cases hz7:65536 < bl
     ·skip
      replace hF:=hF.c hF (i:=133) (v:=.bool true) rfl (bT hz7)
      refine xT hF (wp_seq_k fun K17 hK17=>wp_region_lit (xB 1 [(12,.bool true)] hF fun a hF=>wpList_nil (hK17 _ _ (wp_ret (hR0 _ _ (ret_of hF hM (.tmp rfl (.nil)) (⟨rfl,hM.bel⟩)))))))
     ·skip
      replace hF:=hF.c hF (i:=133) (v:=.bool false) rfl (bF hz7)
      refine xF hF (wp_skip (hK15 _ _ (wp_seq_k fun K18 hK18=>wp_region_lit (wl (sMake 134 8 8 (e:=3) (size:=1) (bytes:=8) (z:=iv 0) ((List.replicate 8 0).map (Value.int .i64)) hF hM (by kernel_rfl) rfl (by kernel_rfl) (by kernel_rfl) (by kernel_rfl) (by rw [Nat.mul_one,List.map_replicate]; exact toList_madeCells_one _ _) (by omega) (by unfold maxLen; omega) fun bb5 a w hF hM=>xB 1 [(23,.slice (some ⟨bb5,0,none⟩) 8 8)] hF fun a hF=>wpList_nil (hK18 _ _ (wp_seq_k fun K19 hK19=>wp_seq_k fun K20 hK20=>wp_region_lit ?_)))))))
      refine xB 1 [(24,iv 0)] hF fun a hF=>wpList_nil (hK20 _ _ (wp_block (wp_loop_k (G:=Nat) (fun gg a w=>Fr 254 [(24,some (iv (gg:Int))),(2,some (.int .i16 sx)),(5,some (.slice lA_ l.length lc_)),(12,some (.bool false)),(13,some (pt bb1 0)),(16,some (pt bb2 0)),(17,some (iv (1 + py % 5))),(20,some (iv bd)),(21,some (iv bl)),(23,some (.slice (some ⟨bb5,0,none⟩) 8 8))] a ∧ Mem w0.heap.size w0 [(1,some (.ro bA (lo.map (Value.int .u8)))),(2,some (.ro lA_ (flatE lE l))),(3,some (.row bb1 29 #[.slice gA i gC,iv (sumL (altL lo i) i)])),(4,some (.own (.slice gA i gC) 31 2 i (flat2 (altL lo i)))),(5,some (.row bb2 33 #[iv (339 + 4 * bx),iv (1 + rx)])),(8,some (.own (.slice (some ⟨bb5,0,none⟩) 8 8) 3 1 8 ((capL gg).map (Value.int .i64))))] w ∧ ((gg:Int) ≤ 8)) (fun gg=>8 - gg) (0) ?_ ?_)))
      ·refine ⟨(((((((((((Fr.nil hF).c hF (i:=23) rfl rfl).c hF (i:=21) rfl rfl).c hF (i:=20) rfl rfl).c hF (i:=17) rfl rfl).c hF (i:=16) rfl rfl).c hF (i:=13) rfl rfl).c hF (i:=12) rfl rfl).c hF (i:=5) rfl rfl).c hF (i:=2) rfl rfl).c hF (i:=24) rfl (vi (show (0:Int)=(0:Int) from by omega))),(hM.sub ((((((Sub.nil.c (k:=8) rfl (congrArg (fun x=>Ent.own _ _ _ _ (List.map (Value.int .i64) x)) (show List.replicate 8 0=capL 0 from rfl))).c (k:=5) rfl rfl).c (k:=4) rfl rfl).c (k:=3) rfl rfl).c (k:=2) rfl rfl).c (k:=1) rfl rfl)),(show (0:Int) ≤ 8 from by omega)⟩
      ·intro gg a w hI
       intro K21 hK21
       obtain ⟨q,rfl⟩:∃ x,x=gg:=⟨_,rfl⟩
       try dsimp only at hI hK21
       obtain ⟨hF,hM,hz8⟩:=hI
       have hcl:=capL_len q
       refine wp_seq_k fun K22 hK22=>wp_seq_k fun K23 hK23=>wp_region_lit (xB 4 [(135,iv (q:Int)),(136,.slice (some ⟨bb5,0,none⟩) 8 8),(137,iv 8),(138,.bool (decide ((q:Int) < 8)))] hF fun a hF=>wpList_nil (hK23 _ _ ?_))
       by_cases hz9:(q:Int) < 8
       ·skip
        replace hF:=hF.c hF (i:=138) (v:=.bool true) rfl (bT hz9)
        refine xT hF (wp_skip (hK22 _ _ (wp_seq_k fun K24 hK24=>wp_block (wp_region_lit (xB 2 [(141,.slice (some ⟨bb5,0,none⟩) 8 8),(142,iv (q:Int))] hF fun a hF=>wl (xM 143 (v:=.pointer (some (ea (some ⟨bb5,0,none⟩) (q)))) hF hM (yld_ix (kd:=.i64) (e:=3) (len:=8) (cap:=8) (i:=(q:Int)) (size:=1) (A:=(some ⟨bb5,0,none⟩)) hF rfl (by kernel_rfl) (by kernel_rfl) (by kernel_rfl) (by kernel_rfl) (by kernel_rfl) (roO 8 rfl) (by omega) (by omega) (by (try simp only [List.length_map,List.length_append,List.length_replicate,List.length_set,List.length_cons,List.length_nil,flat2_length,List.length_take]); omega)) fun a w hF hM=>wl (sStoreO 8 (j:=q) (A:=(some ⟨bb5,0,none⟩)) (((capL q).set q 65536).map (Value.int .i64)) hF hM (by kernel_rfl) rfl rfl (by kernel_rfl) (by kernel_rfl) rfl (by kernel_rfl) rfl rfl (by (try simp only [List.length_map,List.length_append,List.length_replicate,List.length_set,List.length_cons,List.length_nil,flat2_length,List.length_take]); omega) (map_set' _ _ _ _) fun w hM=>wpList_nil (hK24 _ _ (wp_region_lit ?_)))))))))
        refine xB 1 [(139,iv (q:Int))] hF fun a hF=>wl (xP 140 (v0:=.int .i64 (IntKind.i64.wrap ((q:Int) + 1))) (v:=iv ((q:Int) + 1)) hF (wi (by omega)) fun a hF=>xB 1 [(24,iv ((q:Int) + 1))] hF fun a hF=>wpList_nil (hK21 _ _ ⟨(q + 1),⟨(((((((((((Fr.nil hF).c hF (i:=23) rfl rfl).c hF (i:=21) rfl rfl).c hF (i:=20) rfl rfl).c hF (i:=17) rfl rfl).c hF (i:=16) rfl rfl).c hF (i:=13) rfl rfl).c hF (i:=12) rfl rfl).c hF (i:=5) rfl rfl).c hF (i:=2) rfl rfl).c hF (i:=24) rfl (vi (show ((q:Int) + 1:Int)=((q + 1):Int) from by omega))),(hM.sub ((((((Sub.nil.c (k:=8) rfl (congrArg (fun x=>Ent.own _ _ _ _ (List.map (Value.int .i64) x)) (show _=capL (q + 1) from capL_set (by omega)))).c (k:=5) rfl rfl).c (k:=4) rfl rfl).c (k:=3) rfl rfl).c (k:=2) rfl rfl).c (k:=1) rfl rfl)),(show ((q + 1):Int) ≤ 8 from by omega)⟩,(show 8 - (q + 1) < 8 - q from by omega)⟩))
       ·skip
        replace hF:=hF.c hF (i:=138) (v:=.bool false) rfl (bF hz9)
        refine xF hF (wp_exit (hK19 _ _ (wp_seq_k fun K25 hK25=>?_)))
        have hq8:q=8:=by omega
        have hcap:=cap_lem (bl:=bl) hq8
        have hcb:=cap_bd (bl:=bl) (by omega)
        refine wp_region_lit (xB 2 [(144,.slice (some ⟨bb5,0,none⟩) 8 8),(145,iv bl)] hF fun a hF=>wl (xM 146 (v:=.pointer (some (ea (some ⟨bb5,0,none⟩) (6)))) hF hM (yld_ix (kd:=.i64) (e:=3) (len:=8) (cap:=8) (i:=6) (size:=1) (A:=(some ⟨bb5,0,none⟩)) hF rfl (by kernel_rfl) (by kernel_rfl) (by kernel_rfl) (by kernel_rfl) (by kernel_rfl) (roO 8 rfl) (by omega) (by omega) (by (try simp only [List.length_map,List.length_append,List.length_replicate,List.length_set,List.length_cons,List.length_nil,flat2_length,List.length_take]); omega)) fun a w hF hM=>wl (sStoreO 8 (j:=6) (A:=(some ⟨bb5,0,none⟩)) (((capL q).set 6 bl).map (Value.int .i64)) hF hM (by kernel_rfl) rfl rfl (by kernel_rfl) (by kernel_rfl) rfl (by kernel_rfl) rfl rfl (by (try simp only [List.length_map,List.length_append,List.length_replicate,List.length_set,List.length_cons,List.length_nil,flat2_length,List.length_take]); omega) (map_set' _ _ _ _) fun w hM=>wpList_nil (hK25 _ _ (wp_seq_k fun K26 hK26=>wp_region_lit (wl (xL 148 3 0 (v:=.agg #[.slice gA i gC,iv (sumL (altL lo i) i)]) hF hM fun a w hF hM=>xB 2 [(149,iv (1 + py % 5)),(150,.int .i16 sx)] hF fun a hF=>wl (xP 151 (v0:=.int .i64 (IntKind.i64.wrap sx)) (v:=iv sx) hF (vi (IntWalk.i64_in _ (by omega))) fun a hF=>wl (xP 152 (v0:=.int .i64 (if 1000 < sx then 1000 else sx)) (v:=iv (min sx 1000)) hF (vi (min_if _ _)) fun a hF=>?_)))))))))
        refine wl (xP 153 (v0:=.int .i64 (if min sx 1000 > -1000 then min sx 1000 else -1000)) (v:=iv (max (-1000) (min sx 1000))) hF (vi (max_if _ _)) fun a hF=>xB 2 [(154,.agg #[.slice gA i gC,iv (sumL (altL lo i) i),iv (1 + py % 5),iv (max (-1000) (min sx 1000))]),(155,.slice (some ⟨bb5,0,none⟩) 8 8)] hF fun a hF=>wl (sQ0 9 (f:=8) (args:=#[.agg #[.slice gA i gC,iv (sumL (altL lo i) i),iv (1 + py % 5),iv (max (-1000) (min sx 1000))],.slice (some ⟨bb5,0,none⟩) 8 8]) (mk:=(fun s=>.tuple #[.agg #[.slice gA i gC,iv (sumL (altL lo i) i),iv (1 + py % 5),iv (max (-1000) (min sx 1000)),.int .i64 0,s,.bool false,.int .i64 0,.int .i64 0,.int .i64 0,.int .i64 0,.int .i64 0,.int .i64 0,.bool false,.int .i64 0,.int .i64 0,.int .i64 0],.int .i64 0])) (cap':=capF bl) (Q':=fun _=>[]) hF hM (by kernel_rfl) rfl (by decide) (by kernel_rfl) (fun _=>by kernel_rfl) (by have:=pNew_w gA (altL lo i) gC (sumL (altL lo i) i) (1 + py % 5) (max (-1000) (min sx 1000)) (some ⟨bb5,0,none⟩) ((capL q).set 6 bl) 8 w (ro_of_own (hM.ok 4 _ rfl)) hga ⟨by omega,by omega,by omega,by omega⟩ (ro_of_own (hM.ok 8 _ rfl)) hcap.1 (fun c hc=>by have:=hcb c hc; rw [← hcap.2] at this; exact this); rw [altL_len,hcap.2] at this; exact this) fun qA_ qC_ qS_ a w hF hM=>xB 3 [(147,.tuple #[.agg #[.slice gA i gC,iv (sumL (altL lo i) i),iv (1 + py % 5),iv (max (-1000) (min sx 1000)),iv 0,.slice qA_ 8 qC_,.bool false,iv 0,iv 0,iv 0,iv 0,iv 0,iv 0,.bool false,iv 0,iv 0,iv 0],iv 0]),(157,.agg #[.slice gA i gC,iv (sumL (altL lo i) i),iv (1 + py % 5),iv (max (-1000) (min sx 1000)),iv 0,.slice qA_ 8 qC_,.bool false,iv 0,iv 0,iv 0,iv 0,iv 0,iv 0,.bool false,iv 0,iv 0,iv 0]),(158,iv 0)] hF fun a hF=>?_))
        refine wl (xN 25 10 (t:=52) (fun b=>.pointer (some ⟨b,0,none⟩)) #[.slice none 0 0,iv 0,iv 0,iv 0,iv 0,.slice none 0 0,.bool false,iv 0,iv 0,iv 0,iv 0,iv 0,iv 0,.bool false,iv 0,iv 0,iv 0] hF hM fun bb6 a w hF hM=>?_)
        refine wl (xS 10 0 #[.slice gA i gC,iv (sumL (altL lo i) i),iv (1 + py % 5),iv (max (-1000) (min sx 1000)),iv 0,.slice qA_ 8 qC_,.bool false,iv 0,iv 0,iv 0,iv 0,iv 0,iv 0,.bool false,iv 0,iv 0,iv 0] hF hM fun w hM=>xB 1 [(19,iv 0)] hF fun a hF=>wpList_nil (hK26 _ _ (wp_seq_k fun K27 hK27=>wp_region_lit (wl (xL 160 5 0 (v:=.agg #[iv (339 + 4 * bx),iv (1 + rx)]) hF hM fun a w hF hM=>xB 1 [(161,.slice lA_ l.length lc_)] hF fun a hF=>wl (sCm 11 (f:=9) (args:=#[.agg #[iv (339 + 4 * bx),iv (1 + rx)],.slice lA_ l.length lc_]) (bu:=(339 + 4 * bx)) (br:=(1 + rx)) hF hM (by kernel_rfl) rfl (by decide) (by kernel_rfl) (fun _=>by kernel_rfl) (comes_w (339 + 4 * bx) (1 + rx) lA_ l lc_ w hbk (hM.ok 2 _ rfl) hWl hlb) fun out ow cA cC a w hcm hol hoc hF hM=>xB 5 [(159,.tuple #[.slice cA out.length cC,.bool true]),(163,.slice cA out.length cC),(164,.bool true),(26,.slice cA out.length cC),(27,.bool true)] hF fun a hF=>wpList_nil (hK27 _ _ ?_)))))))
        refine wp_seq_k fun K28 hK28=>wp_seq_k fun K29 hK29=>wp_region_lit (xB 1 [(165,iv 0)] hF fun a hF=>wl (xP 166 (v0:=.bool (!decide (0=0))) (v:=.bool false) hF (nT (by omega)) fun a hF=>xB 4 [(167,.bool false),(168,.bool true),(169,.bool false),(170,.bool false)] hF fun a hF=>wpList_nil (hK29 _ _ (xF hF (wp_skip (hK28 _ _ (wp_seq_k fun K30 hK30=>?_)))))))
        obtain ⟨J,J1,hRS,hJ0,hFin⟩:=hLaw lo i (1 + py % 5) (max (-1000) (min sx 1000)) (339 + 4 * bx) (1 + rx) rt lt out ow hlo (by omega) (by omega) (by omega) (by omega) (by omega) (by omega) hrt (by omega) hlt hcs (by rw [hbl]; omega) hcm hol
        rw [hbl] at hRS
        rw [hbd] at hFin
        refine wp_region_lit (wl (xL 172 10 0 (v:=.agg #[.slice gA i gC,iv (sumL (altL lo i) i),iv (1 + py % 5),iv (max (-1000) (min sx 1000)),iv 0,.slice qA_ 8 qC_,.bool false,iv 0,iv 0,iv 0,iv 0,iv 0,iv 0,.bool false,iv 0,iv 0,iv 0]) hF hM fun a w hF hM=>xB 1 [(173,.slice cA out.length cC)] hF fun a hF=>wl (sRun 12 (A:=gA) (ge:=(altL lo i)) (gc:=gC) (cyc:=(sumL (altL lo i) i)) (per:=(1 + py % 5)) (sh:=(max (-1000) (min sx 1000))) (un:=1073741824) (J:=J) (f:=10) (args:=#[.agg #[.slice gA i gC,iv (sumL (altL lo i) i),iv (1 + py % 5),iv (max (-1000) (min sx 1000)),iv 0,.slice qA_ 8 qC_,.bool false,iv 0,iv 0,iv 0,iv 0,iv 0,iv 0,.bool false,iv 0,iv 0,iv 0],.slice cA out.length cC,iv 1073741824]) hF hM (by kernel_rfl) rfl (by decide) (by kernel_rfl) (fun _=>by kernel_rfl) (by have:=run_w gA (altL lo i) gC (sumL (altL lo i) i) (1 + py % 5) (max (-1000) (min sx 1000)) _ qA_ qC_ (capF bl) (fun _=>[]) cA out cC 1073741824 J J1 w (ro_of_own (hM.ok 4 _ rfl)) (hM.ok 9 _ rfl).1 (fun c hc=>qk_nil (hcb c hc)) hga ⟨by omega,by omega,by omega,by omega⟩ (fun _ _=>rfl) (by have:=hM.ok 11 _ rfl; rw [← flatE_cE hcm.wr] at this; exact this) hoc (hcm.cm hol) ⟨by decide,by decide⟩ hol hRS hJ0; rw [altL_len] at this; exact this) ?_)))
        rw [altL_len]
        intro s pA_ pC_ rA_ rC_ a w hJs hst hWg hF hM
        have hfp:=hFin s hJs hst
        clear hFin
        have hgl:s.g.length ≤ 50:=(hRS.wf s hJs).hg.1
        refine xB 4 [(171,.tuple #[.agg #[.slice gA i gC,iv (sumL (altL lo i) i),iv (1 + py % 5),iv (max (-1000) (min sx 1000)),iv 1073741824,.slice pA_ 8 pC_,.bool (decide (s.bz=1)),iv s.x0,iv s.x1,iv s.x2,iv s.x3,iv s.x4,iv s.x5,.bool (decide (s.x6=1)),iv s.bg,iv s.fn,iv s.rs],.slice rA_ s.g.length rC_,iv 0]),(175,.agg #[.slice gA i gC,iv (sumL (altL lo i) i),iv (1 + py % 5),iv (max (-1000) (min sx 1000)),iv 1073741824,.slice pA_ 8 pC_,.bool (decide (s.bz=1)),iv s.x0,iv s.x1,iv s.x2,iv s.x3,iv s.x4,iv s.x5,.bool (decide (s.x6=1)),iv s.bg,iv s.fn,iv s.rs]),(176,.slice rA_ s.g.length rC_),(177,iv 0)] hF fun a hF=>wl (xN 28 13 (t:=52) (fun b=>.pointer (some ⟨b,0,none⟩)) #[.slice none 0 0,iv 0,iv 0,iv 0,iv 0,.slice none 0 0,.bool false,iv 0,iv 0,iv 0,iv 0,iv 0,iv 0,.bool false,iv 0,iv 0,iv 0] hF hM fun bb7 a w hF hM=>?_)
        refine wl (xS 13 0 #[.slice gA i gC,iv (sumL (altL lo i) i),iv (1 + py % 5),iv (max (-1000) (min sx 1000)),iv 1073741824,.slice pA_ 8 pC_,.bool (decide (s.bz=1)),iv s.x0,iv s.x1,iv s.x2,iv s.x3,iv s.x4,iv s.x5,.bool (decide (s.x6=1)),iv s.bg,iv s.fn,iv s.rs] hF hM fun w hM=>xB 2 [(29,.slice rA_ s.g.length rC_),(19,iv 0)] hF fun a hF=>wpList_nil (hK30 _ _ (wp_seq_k fun K31 hK31=>wp_seq_k fun K32 hK32=>wp_region_lit (xB 1 [(178,iv 0)] hF fun a hF=>wl (xP 179 (v0:=.bool (!decide (0=0))) (v:=.bool false) hF (nT (by omega)) fun a hF=>wpList_nil (hK32 _ _ (xF hF ?_)))))))
        refine wp_skip (hK31 _ _ (wp_seq_k fun K33 hK33=>wp_region_lit (xB 1 [(30,.slice none 0 0)] hF fun a hF=>wpList_nil (hK33 _ _ (wp_seq_k fun K34 hK34=>wp_seq_k fun K35 hK35=>wp_region_lit (xB 3 [(180,.slice rA_ s.g.length rC_),(181,iv (s.g.length:Int)),(182,iv 0)] hF fun a hF=>wpList_nil ?_))))))
        refine hK35 _ _ (wp_block ?_)
        replace hM:=hM.addNil 14 62 6
        refine wp_loop_k (G:=Nat × Option Addr × Nat × Nat) (fun gg a w=>Fr 254 [(30,some (.slice gg.2.1 gg.2.2.2 gg.2.2.1)),(182,some (iv (gg.1:Int))),(12,some (.bool false)),(17,some (iv (1 + py % 5))),(20,some (iv bd)),(26,some (.slice cA out.length cC)),(180,some (.slice rA_ s.g.length rC_)),(181,some (iv (s.g.length:Int)))] a ∧ Mem w0.heap.size w0 [(1,some (.ro bA (lo.map (Value.int .u8)))),(2,some (.ro lA_ (flatE lE l))),(9,some (.sep qS_ (QM qS_ qA_ (capF bl) (fun _=>[])))),(11,some (.ro cA (flatR out))),(12,some (.ro rA_ (flatR s.g))),(14,some (.own (.slice gg.2.1 gg.2.2.2 gg.2.2.1) 62 6 gg.2.2.2 (flatR (f6L s.g gg.1))))] w ∧ ((gg.1:Int) ≤ (s.g.length:Int)) ∧ (gg.2.2.2=(f6L s.g gg.1).length) ∧ ((gg.2.2.2:Int) ≤ (gg.1:Int))) (fun gg=>s.g.length - gg.1) (0,none,0,0) ?_ ?_
        ·refine ⟨(((((((((Fr.nil hF).c hF (i:=181) rfl rfl).c hF (i:=180) rfl rfl).c hF (i:=26) rfl rfl).c hF (i:=20) rfl rfl).c hF (i:=17) rfl rfl).c hF (i:=12) rfl rfl).c hF (i:=182) rfl (vi (show (0:Int)=(0:Int) from by omega))).c hF (i:=30) rfl rfl),(hM.sub ((((((Sub.nil.c (k:=14) rfl (congrArg (fun x=>Ent.own _ _ _ _ (flatR x)) (show []=f6L s.g 0 from rfl))).c (k:=12) rfl rfl).c (k:=11) rfl rfl).c (k:=9) rfl rfl).c (k:=2) rfl rfl).c (k:=1) rfl rfl)),(show (0:Int) ≤ (s.g.length:Int) from by omega),(show 0=(f6L s.g 0).length from by rfl),(show (0:Int) ≤ (0:Int) from by omega)⟩
        ·intro gg a w hI
         intro K36 hK36
         obtain ⟨k,lA,lC,ln⟩:=gg
         try dsimp only at hI hK36
         obtain ⟨hF,hM,hz10,hz11,hz12⟩:=hI
         have hln:ln=(f6L s.g k).length:=by assumption
         refine wp_seq_k fun K37 hK37=>wp_region_lit (xB 1 [(183,.bool (decide ((k:Int) < (s.g.length:Int))))] hF fun a hF=>wpList_nil (hK37 _ _ (wp_seq_k fun K38 hK38=>?_)))
         by_cases hz13:(k:Int) < (s.g.length:Int)
         ·skip
          replace hF:=hF.c hF (i:=183) (v:=.bool true) rfl (bT hz13)
          refine xT hF (wp_skip (hK38 _ _ (wp_seq_k fun K39 hK39=>wp_block (wp_seq_k fun K40 hK40=>wp_region_lit (wl (xM 184 (v:=.pointer (some (ea rA_ (k * 6)))) hF hM (yld_ix (kd:=.i64) (e:=62) (len:=s.g.length) (cap:=rC_) (i:=(k:Int)) (size:=6) (A:=rA_) hF rfl (by kernel_rfl) (by kernel_rfl) (by kernel_rfl) (by kernel_rfl) (by kernel_rfl) (roK 12 rfl) (by omega) (by omega) (by rw [flatR_length hWg]; (try simp only [List.length_map,List.length_append,List.length_replicate,List.length_set,List.length_cons,List.length_nil,flat2_length,List.length_take]); omega)) fun a w hF hM=>wl (xM 185 (v:=.agg #[iv (rc s.g k 0),iv (rc s.g k 1),iv (rc s.g k 2),iv (rc s.g k 3),iv (rc s.g k 4),iv (rc s.g k 5)]) hF hM (yld_roM (A:=rA_) (j:=k * 6) (us:=[iv (rc s.g k 0),iv (rc s.g k 1),iv (rc s.g k 2),iv (rc s.g k 3),iv (rc s.g k 4),iv (rc s.g k 5)]) hF rfl (by kernel_rfl) (by kernel_rfl) (roK 12 rfl) (by kernel_rfl) rfl (rc_sub (k:=k) (f:=0) (m:=6) hWg (by omega) (by decide) rfl)) fun a w hF hM=>wl (xN 32 15 (t:=62) (fun b=>.pointer (some ⟨b,0,none⟩)) #[iv 0,iv 0,iv 0,iv 0,iv 0,iv 0] hF hM fun bb8 a w hF hM=>?_))))))))
          refine wl (xS 15 0 #[iv (rc s.g k 0),iv (rc s.g k 1),iv (rc s.g k 2),iv (rc s.g k 3),iv (rc s.g k 4),iv (rc s.g k 5)] hF hM fun w hM=>wpList_nil (hK40 _ _ (wp_seq_k fun K41 hK41=>wp_region_lit (xB 2 [(186,pt bb8 1),(187,pt bb8 3)] hF fun a hF=>wl (xL 188 15 3 (v:=iv (rc s.g k 3)) hF hM fun a w hF hM=>xB 1 [(189,.bool (decide (rc s.g k 3=6)))] hF fun a hF=>wpList_nil (hK41 _ _ ?_))))))
          by_cases hz14:rc s.g k 3=6
          ·skip
           replace hF:=hF.c hF (i:=189) (v:=.bool true) rfl (bT hz14)
           refine xT hF (wp_region_lit (xB 1 [(190,.slice lA ln lC)] hF fun a hF=>wl (xL 191 15 0 (v:=.agg #[iv (rc s.g k 0),iv (rc s.g k 1),iv (rc s.g k 2),iv (rc s.g k 3),iv (rc s.g k 4),iv (rc s.g k 5)]) hF hM fun a w hF hM=>wl (xN 192 16 (t:=62) (fun b=>.slice (some ⟨b,0,none⟩) 1 1) #[iv (rc s.g k 0),iv (rc s.g k 1),iv (rc s.g k 2),iv (rc s.g k 3),iv (rc s.g k 4),iv (rc s.g k 5)] hF hM fun bb9 a w hF hM=>wl (sApp 193 14 (e:=62) (size:=6) (bytes:=48) (z:=.agg #[iv 0,iv 0,iv 0,iv 0,iv 0,iv 0]) (m:=1) (c:=1) (l:=ln) (cap:=lC) (A:=lA) (news:=[iv (rc s.g k 0),iv (rc s.g k 1),iv (rc s.g k 2),iv (rc s.g k 3),iv (rc s.g k 4),iv (rc s.g k 5)]) (flatR ((f6L s.g k) ++ [[rc s.g k 0,rc s.g k 1,rc s.g k 2,rc s.g k 3,rc s.g k 4,rc s.g k 5]])) hF hM (by kernel_rfl) rfl (by kernel_rfl) (by kernel_rfl) (by kernel_rfl) rfl rfl rfl rfl (roR 16 rfl) (by simp [Value.oneCell']) (by omega) (by decide) (flatR_append (f6L s.g k) [[rc s.g k 0,rc s.g k 1,rc s.g k 2,rc s.g k 3,rc s.g k 4,rc s.g k 5]]).symm fun AA10 cc10 a w hF hM=>xB 1 [(30,.slice AA10 (ln + 1) cc10)] hF fun a hF=>wpList_nil (hK39 _ _ (wp_region_lit (wl (xP 194 (v0:=.int .i64 (IntKind.i64.wrap ((k:Int) + 1))) (v:=iv ((k:Int) + 1)) hF (wi (by omega)) fun a hF=>xB 1 [(182,iv ((k:Int) + 1))] hF fun a hF=>?_)))))))))
           refine wpList_nil (hK36 _ _ ⟨(k + 1,AA10,cc10,ln + 1),⟨(((((((((Fr.nil hF).c hF (i:=181) rfl rfl).c hF (i:=180) rfl rfl).c hF (i:=26) rfl rfl).c hF (i:=20) rfl rfl).c hF (i:=17) rfl rfl).c hF (i:=12) rfl rfl).c hF (i:=182) rfl (vi (show ((k:Int) + 1:Int)=((k + 1):Int) from by omega))).c hF (i:=30) rfl rfl),(hM.sub ((((((Sub.nil.c (k:=14) rfl (congrArg (fun x=>Ent.own _ _ _ _ (flatR x)) (show _=f6L s.g (k + 1) from by rw [f6L,if_pos (by assumption)]))).c (k:=12) rfl rfl).c (k:=11) rfl rfl).c (k:=9) rfl rfl).c (k:=2) rfl rfl).c (k:=1) rfl rfl)),(show ((k + 1):Int) ≤ (s.g.length:Int) from by omega),(show (ln + 1)=(f6L s.g (k + 1)).length from by rw [f6L,if_pos (by assumption),List.length_append,← hln]; rfl),(show ((ln + 1):Int) ≤ ((k + 1):Int) from by omega)⟩,(show s.g.length - (k + 1) < s.g.length - k from by omega)⟩)
          ·skip
           replace hF:=hF.c hF (i:=189) (v:=.bool false) rfl (bF hz14)
           refine xF hF (wp_skip (hK39 _ _ (wp_region_lit (wl (xP 194 (v0:=.int .i64 (IntKind.i64.wrap ((k:Int) + 1))) (v:=iv ((k:Int) + 1)) hF (wi (by omega)) fun a hF=>xB 1 [(182,iv ((k:Int) + 1))] hF fun a hF=>wpList_nil (hK36 _ _ ⟨(k + 1,lA,lC,ln),⟨(((((((((Fr.nil hF).c hF (i:=181) rfl rfl).c hF (i:=180) rfl rfl).c hF (i:=26) rfl rfl).c hF (i:=20) rfl rfl).c hF (i:=17) rfl rfl).c hF (i:=12) rfl rfl).c hF (i:=182) rfl (vi (show ((k:Int) + 1:Int)=((k + 1):Int) from by omega))).c hF (i:=30) rfl rfl),(hM.sub ((((((Sub.nil.c (k:=14) rfl (congrArg (fun x=>Ent.own _ _ _ _ (flatR x)) (show _=f6L s.g (k + 1) from by rw [f6L,if_neg (by assumption)]))).c (k:=12) rfl rfl).c (k:=11) rfl rfl).c (k:=9) rfl rfl).c (k:=2) rfl rfl).c (k:=1) rfl rfl)),(show ((k + 1):Int) ≤ (s.g.length:Int) from by omega),(show ln=(f6L s.g (k + 1)).length from by rw [f6L,if_neg (by assumption)]; assumption),(show (ln:Int) ≤ ((k + 1):Int) from by omega)⟩,(show s.g.length - (k + 1) < s.g.length - k from by omega)⟩))))))
         ·skip
          replace hF:=hF.c hF (i:=183) (v:=.bool false) rfl (bF hz13)
          refine xF hF (wp_exit (hK34 _ _ (wp_seq_k fun K42 hK42=>?_)))
          obtain rfl:k=s.g.length:=by omega
          have hf0:(f6L out 0).length=0:=rfl
          refine wp_region_lit (xB 1 [(33,iv 0)] hF fun a hF=>wpList_nil (hK42 _ _ (wp_seq_k fun K43 hK43=>wp_seq_k fun K44 hK44=>wp_region_lit (xB 3 [(195,.slice cA out.length cC),(196,iv (out.length:Int)),(197,iv 0)] hF fun a hF=>wpList_nil (hK44 _ _ (wp_block (wp_loop_k (G:=Nat) (fun gg a w=>Fr 254 [(33,some (iv ((f6L out gg).length:Int))),(197,some (iv (gg:Int))),(17,some (iv (1 + py % 5))),(20,some (iv bd)),(30,some (.slice lA ln lC)),(195,some (.slice cA out.length cC)),(196,some (iv (out.length:Int)))] a ∧ Mem w0.heap.size w0 [(1,some (.ro bA (lo.map (Value.int .u8)))),(2,some (.ro lA_ (flatE lE l))),(9,some (.sep qS_ (QM qS_ qA_ (capF bl) (fun _=>[])))),(11,some (.ro cA (flatR out))),(12,some (.ro rA_ (flatR s.g))),(14,some (.own (.slice lA ln lC) 62 6 ln (flatR (f6L s.g s.g.length))))] w ∧ ((gg:Int) ≤ (out.length:Int))) (fun gg=>out.length - gg) (0) ?_ ?_)))))))
          ·refine ⟨((((((((Fr.nil hF).c hF (i:=196) rfl rfl).c hF (i:=195) rfl rfl).c hF (i:=30) rfl rfl).c hF (i:=20) rfl rfl).c hF (i:=17) rfl rfl).c hF (i:=197) rfl (vi (show (0:Int)=(0:Int) from by omega))).c hF (i:=33) rfl (vi (show (0:Int)=((f6L out 0).length:Int) from by omega))),(hM.sub ((((((Sub.nil.c (k:=14) rfl rfl).c (k:=12) rfl rfl).c (k:=11) rfl rfl).c (k:=9) rfl rfl).c (k:=2) rfl rfl).c (k:=1) rfl rfl)),(show (0:Int) ≤ (out.length:Int) from by omega)⟩
          ·intro gg a w hI
           intro K45 hK45
           obtain ⟨j,rfl⟩:∃ x,x=gg:=⟨_,rfl⟩
           try dsimp only at hI hK45
           obtain ⟨hF,hM,hz15⟩:=hI
           refine wp_seq_k fun K46 hK46=>wp_region_lit (xB 1 [(198,.bool (decide ((j:Int) < (out.length:Int))))] hF fun a hF=>wpList_nil (hK46 _ _ (wp_seq_k fun K47 hK47=>?_)))
           by_cases hz16:(j:Int) < (out.length:Int)
           ·skip
            replace hF:=hF.c hF (i:=198) (v:=.bool true) rfl (bT hz16)
            refine xT hF (wp_skip (hK47 _ _ (wp_seq_k fun K48 hK48=>wp_block (wp_seq_k fun K49 hK49=>wp_region_lit (wl (xM 199 (v:=.pointer (some (ea cA (j * 6)))) hF hM (yld_ix (kd:=.i64) (e:=63) (len:=out.length) (cap:=cC) (i:=(j:Int)) (size:=6) (A:=cA) hF rfl (by kernel_rfl) (by kernel_rfl) (by kernel_rfl) (by kernel_rfl) (by kernel_rfl) (roK 11 rfl) (by omega) (by omega) (by rw [flatR_length hcm.wr]; (try simp only [List.length_map,List.length_append,List.length_replicate,List.length_set,List.length_cons,List.length_nil,flat2_length,List.length_take]); omega)) fun a w hF hM=>wl (xM 200 (v:=.agg #[iv (rc out j 0),iv (rc out j 1),iv (rc out j 2),iv (rc out j 3),iv (rc out j 4),iv (rc out j 5)]) hF hM (yld_roM (A:=cA) (j:=j * 6) (us:=[iv (rc out j 0),iv (rc out j 1),iv (rc out j 2),iv (rc out j 3),iv (rc out j 4),iv (rc out j 5)]) hF rfl (by kernel_rfl) (by kernel_rfl) (roK 11 rfl) (by kernel_rfl) rfl (rc_sub (k:=j) (f:=0) (m:=6) hcm.wr (by omega) (by decide) rfl)) fun a w hF hM=>?_)))))))
            have:=hcm.el j (by omega)
            refine wl (xN 35 17 (t:=63) (fun b=>.pointer (some ⟨b,0,none⟩)) #[iv 0,iv 0,iv 0,iv 0,iv 0,iv 0] hF hM fun bb11 a w hF hM=>?_)
            refine wl (xS 17 0 #[iv (rc out j 0),iv (rc out j 1),iv (rc out j 2),iv (rc out j 3),iv (rc out j 4),iv (rc out j 5)] hF hM fun w hM=>wpList_nil (hK49 _ _ (wp_seq_k fun K50 hK50=>wp_seq_k fun K51 hK51=>wp_region_lit (xB 2 [(201,pt bb11 1),(202,pt bb11 3)] hF fun a hF=>wl (xL 203 17 3 (v:=iv (rc out j 3)) hF hM fun a w hF hM=>xB 1 [(204,.bool (!decide (rc out j 3=6)))] hF fun a hF=>wpList_nil (hK51 _ _ ?_))))))
            by_cases hz17:rc out j 3=6
            ·skip
             replace hF:=hF.c hF (i:=204) (v:=.bool false) rfl (nT hz17)
             refine xF hF (wp_skip (hK50 _ _ (wp_seq_k fun K52 hK52=>wp_seq_k fun K53 hK53=>?_)))
             have hfj:=hfp.2 j (by omega) (by assumption)
             have hfj1:=hfj.1
             have hfj2:=hfj.2.2.1
             have hfj3:=hfj.2.2.2
             have hel:=hcm.el j (by omega)
             have hmm:84 ≤ rc out j 4 * (1 + py % 5) ∧ rc out j 4 * (1 + py % 5) ≤ 6795:=mul_bd 84 1359 1 5 (by omega) (by omega) (by omega) (by omega) (by decide)
             refine rQ hM (by kernel_rfl) (by kernel_rfl) (xQ 205 (v0:=iv ((f6L out j).length:Int)) (v:=iv ((f6L out j).length:Int)) hF rfl fun a hF=>xQ 206 (v0:=.slice lA ln lC) (v:=.slice lA ln lC) hF rfl fun a hF=>xQ 207 (v0:=iv (ln:Int)) (v:=iv (ln:Int)) hF rfl fun a hF=>xQ 208 (v0:=.bool (decide ((ln:Int) ≤ ((f6L out j).length:Int)))) (v:=.bool false) hF (bF (by omega)) fun a hF=>xQ 209 (v0:=.bool false) (v:=.bool false) hF rfl fun a hF=>xQ 210 (v0:=.slice lA ln lC) (v:=.slice lA ln lC) hF rfl fun a hF=>xQ 211 (v0:=iv ((f6L out j).length:Int)) (v:=iv ((f6L out j).length:Int)) hF rfl fun a hF=>xR 212 (v:=.pointer (some (ea lA (((f6L out j).length) * 6)))) hF (yld_ix (kd:=.i64) (e:=62) (len:=ln) (cap:=lC) (i:=((f6L out j).length:Int)) (size:=6) (A:=lA) hF rfl (by kernel_rfl) (by kernel_rfl) (by kernel_rfl) (by kernel_rfl) (by kernel_rfl) (roO 14 rfl) (by omega) (by omega) (by rw [flatR_length (f6L_wr s.g s.g.length)]; rw [← hln]; (try simp only [List.length_map,List.length_append,List.length_replicate,List.length_set,List.length_cons,List.length_nil,flat2_length,List.length_take]); omega)) fun a hF=>xQ 213 (v0:=.pointer (some (ea lA (((f6L out j).length) * 6 + 1)))) (v:=.pointer (some (ea lA (((f6L out j).length) * 6 + 1)))) hF rfl fun a hF=>?_)
             refine xR 214 (v:=.agg #[iv (rc (f6L s.g s.g.length) ((f6L out j).length) 1),iv (rc (f6L s.g s.g.length) ((f6L out j).length) 2),iv (rc (f6L s.g s.g.length) ((f6L out j).length) 3),iv (rc (f6L s.g s.g.length) ((f6L out j).length) 4),iv (rc (f6L s.g s.g.length) ((f6L out j).length) 5)]) hF (yld_roM (A:=lA) (j:=((f6L out j).length) * 6 + 1) (us:=[iv (rc (f6L s.g s.g.length) ((f6L out j).length) 1),iv (rc (f6L s.g s.g.length) ((f6L out j).length) 2),iv (rc (f6L s.g s.g.length) ((f6L out j).length) 3),iv (rc (f6L s.g s.g.length) ((f6L out j).length) 4),iv (rc (f6L s.g s.g.length) ((f6L out j).length) 5)]) hF rfl (by kernel_rfl) (by kernel_rfl) (roO 14 rfl) (by kernel_rfl) rfl (rc_sub (k:=((f6L out j).length)) (f:=1) (m:=5) (f6L_wr s.g s.g.length) (by omega) (by decide) rfl)) fun a hF=>xQ 215 (v0:=pt bb11 1) (v:=pt bb11 1) hF rfl fun a hF=>xK 216 17 1 (v:=.agg #[iv (rc out j 1),iv (rc out j 2),iv (rc out j 3),iv (rc out j 4),iv (rc out j 5)]) hF fun a hF=>xR 217 (v:=.bool false) hF ((yld_neq (C:=Mem _ _ _) [rc (f6L s.g s.g.length) ((f6L out j).length) 1,rc (f6L s.g s.g.length) ((f6L out j).length) 2,rc (f6L s.g s.g.length) ((f6L out j).length) 3,rc (f6L s.g s.g.length) ((f6L out j).length) 4,rc (f6L s.g s.g.length) ((f6L out j).length) 5] [rc out j 1,rc out j 2,rc out j 3,rc out j 4,rc out j 5] hF rfl (by kernel_rfl) (by kernel_rfl) (by kernel_rfl) rfl (by kernel_rfl) (by kernel_rfl) (by kernel_rfl) rfl rfl).to (nT hfj.2.1)) fun a hF=>xQ 218 (v0:=.bool false) (v:=.bool false) hF rfl fun a hF=>xQ 219 (v0:=.bool false) (v:=.bool false) hF rfl fun a hF=>xQ 220 (v0:=.slice lA ln lC) (v:=.slice lA ln lC) hF rfl fun a hF=>?_
             refine xQ 221 (v0:=iv ((f6L out j).length:Int)) (v:=iv ((f6L out j).length:Int)) hF rfl fun a hF=>xR 222 (v:=.pointer (some (ea lA (((f6L out j).length) * 6)))) hF (yld_ix (kd:=.i64) (e:=62) (len:=ln) (cap:=lC) (i:=((f6L out j).length:Int)) (size:=6) (A:=lA) hF rfl (by kernel_rfl) (by kernel_rfl) (by kernel_rfl) (by kernel_rfl) (by kernel_rfl) (roO 14 rfl) (by omega) (by omega) (by rw [flatR_length (f6L_wr s.g s.g.length)]; rw [← hln]; (try simp only [List.length_map,List.length_append,List.length_replicate,List.length_set,List.length_cons,List.length_nil,flat2_length,List.length_take]); omega)) fun a hF=>xQ 223 (v0:=.pointer (some (ea lA (((f6L out j).length) * 6)))) (v:=.pointer (some (ea lA (((f6L out j).length) * 6)))) hF rfl fun a hF=>xR 224 (v:=iv (rc (f6L s.g s.g.length) ((f6L out j).length) 0)) hF (yld_ro1 (A:=lA) (j:=((f6L out j).length) * 6) hF rfl (by kernel_rfl) (by kernel_rfl) (roO 14 rfl) (by kernel_rfl) (rc_at (n:=6) (k:=((f6L out j).length)) (i:=0) (f6L_wr s.g s.g.length) (by omega) (by decide))) fun a hF=>xQ 225 (v0:=pt bb11 0) (v:=pt bb11 0) hF rfl fun a hF=>xK 226 17 0 (v:=iv (rc out j 0)) hF fun a hF=>xQ 227 (v0:=iv bd) (v:=iv bd) hF rfl fun a hF=>xQ 228 (v0:=.int .i64 (IntKind.i64.wrap (rc out j 0 + bd))) (v:=iv (rc out j 0 + bd)) hF (wi (by omega)) fun a hF=>xQ 229 (v0:=.bool (decide (rc out j 0 + bd < rc (f6L s.g s.g.length) ((f6L out j).length) 0))) (v:=.bool false) hF (bF (by omega)) fun a hF=>xQ 230 (v0:=.bool false) (v:=.bool false) hF rfl fun a hF=>xQ 231 (v0:=.bool false) (v:=.bool false) hF rfl fun a hF=>?_
             refine xQ 232 (v0:=.slice lA ln lC) (v:=.slice lA ln lC) hF rfl fun a hF=>xQ 233 (v0:=iv ((f6L out j).length:Int)) (v:=iv ((f6L out j).length:Int)) hF rfl fun a hF=>xR 234 (v:=.pointer (some (ea lA (((f6L out j).length) * 6)))) hF (yld_ix (kd:=.i64) (e:=62) (len:=ln) (cap:=lC) (i:=((f6L out j).length:Int)) (size:=6) (A:=lA) hF rfl (by kernel_rfl) (by kernel_rfl) (by kernel_rfl) (by kernel_rfl) (by kernel_rfl) (roO 14 rfl) (by omega) (by omega) (by rw [flatR_length (f6L_wr s.g s.g.length)]; rw [← hln]; (try simp only [List.length_map,List.length_append,List.length_replicate,List.length_set,List.length_cons,List.length_nil,flat2_length,List.length_take]); omega)) fun a hF=>xQ 235 (v0:=.pointer (some (ea lA (((f6L out j).length) * 6)))) (v:=.pointer (some (ea lA (((f6L out j).length) * 6)))) hF rfl fun a hF=>xR 236 (v:=iv (rc (f6L s.g s.g.length) ((f6L out j).length) 0)) hF (yld_ro1 (A:=lA) (j:=((f6L out j).length) * 6) hF rfl (by kernel_rfl) (by kernel_rfl) (roO 14 rfl) (by kernel_rfl) (rc_at (n:=6) (k:=((f6L out j).length)) (i:=0) (f6L_wr s.g s.g.length) (by omega) (by decide))) fun a hF=>xQ 237 (v0:=pt bb11 0) (v:=pt bb11 0) hF rfl fun a hF=>xK 238 17 0 (v:=iv (rc out j 0)) hF fun a hF=>xQ 239 (v0:=pt bb11 1) (v:=pt bb11 1) hF rfl fun a hF=>xQ 240 (v0:=pt bb11 4) (v:=pt bb11 4) hF rfl fun a hF=>xK 241 17 4 (v:=iv (rc out j 4)) hF fun a hF=>xQ 242 (v0:=iv (1 + py % 5)) (v:=iv (1 + py % 5)) hF rfl fun a hF=>xQ 243 (v0:=.int .i64 (IntKind.i64.wrap (rc out j 4 * (1 + py % 5)))) (v:=iv (rc out j 4 * (1 + py % 5))) hF (wi (by omega)) fun a hF=>?_
             refine xQ 244 (v0:=.int .i64 (IntKind.i64.wrap (rc out j 0 + rc out j 4 * (1 + py % 5)))) (v:=iv (rc out j 0 + rc out j 4 * (1 + py % 5))) hF (wi (by omega)) fun a hF=>xQ 245 (v0:=.bool (decide (rc (f6L s.g s.g.length) ((f6L out j).length) 0 < rc out j 0 + rc out j 4 * (1 + py % 5)))) (v:=.bool false) hF (bF (by omega)) fun a hF=>xQ 246 (v0:=.bool false) (v:=.bool false) hF rfl fun a hF=>wpQuiet_nil ?_
             intro w hM
             refine hK53 _ _ (xF hF (wp_skip (hK52 _ _ (wp_region_lit (xB 1 [(247,iv ((f6L out j).length:Int))] hF fun a hF=>wl (xP 248 (v0:=.int .i64 (IntKind.i64.wrap (((f6L out j).length:Int) + 1))) (v:=iv (((f6L out j).length:Int) + 1)) hF (wi (by omega)) fun a hF=>xB 1 [(33,iv (((f6L out j).length:Int) + 1))] hF fun a hF=>wpList_nil (hK48 _ _ (wp_region_lit (wl (xP 249 (v0:=.int .i64 (IntKind.i64.wrap ((j:Int) + 1))) (v:=iv ((j:Int) + 1)) hF (wi (by omega)) fun a hF=>?_))))))))))
             refine xB 1 [(197,iv ((j:Int) + 1))] hF fun a hF=>wpList_nil ?_
             have hfn:f6L out (j + 1)=f6L out j ++ [[rc out j 0,rc out j 1,rc out j 2,rc out j 3,rc out j 4,rc out j 5]]:=by rw [f6L,if_pos (by assumption)]
             have hfl:(f6L out (j + 1)).length=(f6L out j).length + 1:=by rw [hfn,List.length_append]; rfl
             refine hK45 _ _ ⟨(j + 1),⟨((((((((Fr.nil hF).c hF (i:=196) rfl rfl).c hF (i:=195) rfl rfl).c hF (i:=30) rfl rfl).c hF (i:=20) rfl rfl).c hF (i:=17) rfl rfl).c hF (i:=197) rfl (vi (show ((j:Int) + 1:Int)=((j + 1):Int) from by omega))).c hF (i:=33) rfl (vi (show (((f6L out j).length:Int) + 1:Int)=((f6L out (j + 1)).length:Int) from by omega))),(hM.sub ((((((Sub.nil.c (k:=14) rfl rfl).c (k:=12) rfl rfl).c (k:=11) rfl rfl).c (k:=9) rfl rfl).c (k:=2) rfl rfl).c (k:=1) rfl rfl)),(show ((j + 1):Int) ≤ (out.length:Int) from by omega)⟩,(show out.length - (j + 1) < out.length - j from by omega)⟩
            ·skip
             replace hF:=hF.c hF (i:=204) (v:=.bool true) rfl (nF hz17)
             refine xT hF (wp_exit (hK48 _ _ (wp_region_lit (wl (xP 249 (v0:=.int .i64 (IntKind.i64.wrap ((j:Int) + 1))) (v:=iv ((j:Int) + 1)) hF (wi (by omega)) fun a hF=>xB 1 [(197,iv ((j:Int) + 1))] hF fun a hF=>wpList_nil ?_)))))
             have hfn:f6L out (j + 1)=f6L out j:=by rw [f6L,if_neg (by assumption)]
             have hfl:(f6L out (j + 1)).length=(f6L out j).length:=by rw [hfn]
             refine hK45 _ _ ⟨(j + 1),⟨((((((((Fr.nil hF).c hF (i:=196) rfl rfl).c hF (i:=195) rfl rfl).c hF (i:=30) rfl rfl).c hF (i:=20) rfl rfl).c hF (i:=17) rfl rfl).c hF (i:=197) rfl (vi (show ((j:Int) + 1:Int)=((j + 1):Int) from by omega))).c hF (i:=33) rfl (vi (show (((f6L out j).length:Int):Int)=((f6L out (j + 1)).length:Int) from by omega))),(hM.sub ((((((Sub.nil.c (k:=14) rfl rfl).c (k:=12) rfl rfl).c (k:=11) rfl rfl).c (k:=9) rfl rfl).c (k:=2) rfl rfl).c (k:=1) rfl rfl)),(show ((j + 1):Int) ≤ (out.length:Int) from by omega)⟩,(show out.length - (j + 1) < out.length - j from by omega)⟩
           ·skip
            replace hF:=hF.c hF (i:=198) (v:=.bool false) rfl (bF hz16)
            refine xF hF (wp_exit (hK43 _ _ (wp_seq_k fun K54 hK54=>wp_region_lit (xB 5 [(250,iv ((f6L out j).length:Int)),(251,.slice lA ln lC),(252,iv (ln:Int)),(253,.bool (decide (((f6L out j).length:Int)=(ln:Int)))),(12,.bool (decide (((f6L out j).length:Int)=(ln:Int))))] hF fun a hF=>wpList_nil (hK54 _ _ (wp_ret (hR0 _ _ (ret_of hF hM (.tmp rfl (.nil)) ?_))))))))
            obtain rfl:j=out.length:=by omega
            have hfe:=hfp.1
            exact ⟨ret_bool (decide_eq_true (by omega)),hM.bel⟩
    ·skip
     have hdx:=dl_bad hbk hsv (by omega)
     refine wp_region_lit (wl (xL 108 5 0 (v:=.agg #[iv (339 + 4 * bx),iv (1 + rx)]) hF hM fun a w hF hM=>wl (xN 109 18 (t:=33) (fun b=>.slice (some ⟨b,0,none⟩) 1 1) #[iv (339 + 4 * bx),iv (1 + rx)] hF hM fun bb12 a w hF hM=>wl (xL 110 6 0 (v:=.agg #[iv rt,iv lt]) hF hM fun a w hF hM=>wl (xM 111 (v:=.tuple #[iv 0,iv 141]) hF hM (xC 6 #[.slice (some ⟨bb12,0,none⟩) 1 1,.agg #[iv rt,iv lt]] hF (fun w hM=>by have:=delay_w rt lt (some ⟨bb12,0,none⟩) [(339 + 4 * bx,1 + rx)] 1 w (hM.roRow (k:=18) rfl); rw [hdx.1,hdx.2.1] at this; exact this)) fun a w hF hM=>xB 5 [(107,.tuple #[iv 0,iv 141]),(112,iv 0),(113,iv 141),(20,iv 0),(19,iv 141)] hF fun a hF=>wpList_nil (hK11 _ _ (wp_seq_k fun K55 hK55=>wp_region_lit (wl (xL 115 5 0 (v:=.agg #[iv (339 + 4 * bx),iv (1 + rx)]) hF hM fun a w hF hM=>wl (xL 116 6 0 (v:=.agg #[iv rt,iv lt]) hF hM fun a w hF hM=>?_))))))))))
     refine wl (xM 117 (v:=.tuple #[iv 0,iv 141]) hF hM (xC 7 #[.agg #[iv (339 + 4 * bx),iv (1 + rx)],.agg #[iv rt,iv lt]] hF (fun w hM=>by have:=backlog_w (339 + 4 * bx) (1 + rx) rt lt w; rw [hdx.2.2.1,hdx.2.2.2] at this; exact this)) fun a w hF hM=>xB 5 [(114,.tuple #[iv 0,iv 141]),(118,iv 0),(119,iv 141),(21,iv 0),(22,iv 141)] hF fun a hF=>wpList_nil (hK55 _ _ (wp_seq_k fun K56 hK56=>wp_seq_k fun K57 hK57=>wp_region_lit (xB 1 [(120,iv 141)] hF fun a hF=>wl (xP 121 (v0:=.bool (!decide (141=0))) (v:=.bool true) hF (nF (by omega)) fun a hF=>xB 4 [(122,.bool true),(123,undef),(124,undef),(125,.bool true)] hF fun a hF=>wpList_nil (hK57 _ _ ?_))))))
     refine xT hF (wp_seq_k fun K58 hK58=>wp_region_lit (xB 1 [(126,iv 141)] hF fun a hF=>wl (xP 127 (v0:=.bool (decide (141=141))) (v:=.bool true) hF (bT (by omega)) fun a hF=>xB 2 [(128,.bool true),(129,iv 141)] hF fun a hF=>wl (xP 130 (v0:=.bool (decide (141=141))) (v:=.bool true) hF (bT (by omega)) fun a hF=>xB 2 [(131,.bool true),(12,.bool true)] hF fun a hF=>wpList_nil (hK58 _ _ (wp_ret (hR0 _ _ ?_)))))))
     refine ret_of hF hM (.tmp rfl (.nil)) (⟨rfl,hM.bel⟩)
   ·skip
    refine wp_region_lit (wl (xL 89 3 0 (v:=.agg #[.slice gA i gC,iv (sumL (altL lo i) i)]) hF hM fun a w hF hM=>xB 1 [(90,iv (1 + py % 5))] hF fun a hF=>wl (xM 91 (v:=.tuple #[.agg #[iv 0,iv 0],iv 4]) hF hM (xC 5 #[.agg #[.slice gA i gC,iv (sumL (altL lo i) i)],iv (1 + py % 5),iv 339] hF (fun w hM=>by have:=of_none gA (altL lo i) gC (sumL (altL lo i) i) (1 + py % 5) 339 w (ro_of_own (hM.ok 4 _ rfl)) (by omega) hga (by rw [hrt]; omega); rw [altL_len] at this; exact this)) fun a w hF hM=>xB 3 [(88,.tuple #[.agg #[iv 0,iv 0],iv 4]),(92,.agg #[iv 0,iv 0]),(93,iv 4)] hF fun a hF=>wl (xN 18 19 (t:=35) (fun b=>.pointer (some ⟨b,0,none⟩)) #[iv 0,iv 0] hF hM fun bb13 a w hF hM=>?_))))
    refine wl (xS 19 0 #[iv 0,iv 0] hF hM fun w hM=>xB 1 [(19,iv 4)] hF fun a hF=>wpList_nil (hK8 _ _ (wp_seq_k fun K59 hK59=>wp_seq_k fun K60 hK60=>wp_region_lit (xB 1 [(94,iv 4)] hF fun a hF=>wl (xP 95 (v0:=.bool (!decide (4=0))) (v:=.bool true) hF (nF (by omega)) fun a hF=>wpList_nil (hK60 _ _ (xT hF ?_)))))))
    refine wp_seq_k fun K61 hK61=>wp_region_lit (xB 1 [(96,iv 4)] hF fun a hF=>wl (xP 97 (v0:=.bool (decide (4=4))) (v:=.bool true) hF (bT (by omega)) fun a hF=>xB 10 [(98,.bool true),(99,undef),(100,undef),(101,undef),(102,undef),(103,undef),(104,undef),(105,undef),(106,.bool true),(12,.bool true)] hF fun a hF=>wpList_nil (hK61 _ _ (wp_ret (hR0 _ _ (ret_of hF hM (.tmp rfl (.nil)) (⟨rfl,hM.bel⟩)))))))
  ·skip
   have hlz:(lo.length:Int) ≤ 0:=by omega
   refine wp_region_lit (wl (xL 89 3 0 (v:=.agg #[.slice gA i gC,iv (sumL (altL lo i) i)]) hF hM fun a w hF hM=>xB 1 [(90,iv (1 + py % 5))] hF fun a hF=>wl (xM 91 (v:=.tuple #[.agg #[iv 0,iv 0],iv 370]) hF hM (xC 5 #[.agg #[.slice gA i gC,iv (sumL (altL lo i) i)],iv (1 + py % 5),iv 339] hF (fun w hM=>by have:=of_bad gA (altL lo i) gC (sumL (altL lo i) i) (1 + py % 5) 339 w (ro_of_own (hM.ok 4 _ rfl)) (by omega) (by rw [alt_bad (by omega)]; decide); rw [altL_len,alt_bad (by omega)] at this; exact this)) fun a w hF hM=>xB 3 [(88,.tuple #[.agg #[iv 0,iv 0],iv 370]),(92,.agg #[iv 0,iv 0]),(93,iv 370)] hF fun a hF=>wl (xN 18 20 (t:=35) (fun b=>.pointer (some ⟨b,0,none⟩)) #[iv 0,iv 0] hF hM fun bb14 a w hF hM=>?_))))
   refine wl (xS 20 0 #[iv 0,iv 0] hF hM fun w hM=>xB 1 [(19,iv 370)] hF fun a hF=>wpList_nil (hK8 _ _ (wp_seq_k fun K62 hK62=>wp_seq_k fun K63 hK63=>wp_region_lit (xB 1 [(94,iv 370)] hF fun a hF=>wl (xP 95 (v0:=.bool (!decide (370=0))) (v:=.bool true) hF (nF (by omega)) fun a hF=>wpList_nil (hK63 _ _ (xT hF ?_)))))))
   refine wp_seq_k fun K64 hK64=>wp_region_lit (xB 1 [(96,iv 370)] hF fun a hF=>wl (xP 97 (v0:=.bool (decide (370=4))) (v:=.bool false) hF (bF (by omega)) fun a hF=>xB 2 [(98,.bool false),(99,iv 370)] hF fun a hF=>wl (xP 100 (v0:=.bool (decide (370=370))) (v:=.bool true) hF (bT (by omega)) fun a hF=>xB 3 [(101,.bool true),(102,.slice bA lo.length bc),(103,iv (lo.length:Int))] hF fun a hF=>wl (xP 104 (v0:=.bool (decide ((lo.length:Int)=0))) (v:=.bool true) hF (bT (by omega)) fun a hF=>xB 3 [(105,.bool true),(106,.bool true),(12,.bool true)] hF fun a hF=>wpList_nil (hK64 _ _ (wp_ret ?_))))))
   refine hR0 _ _ (ret_of hF hM (.tmp rfl (.nil)) (⟨rfl,hM.bel⟩))
 refine wp_seq_k fun K65 hK65=>wp_region_lit (xB 1 [(14,iv 0)] hF fun a hF=>wpList_nil (hK65 _ _ (wp_block (wp_loop_k (G:=Nat × Option Addr × Nat) (fun gg a w=>Fr 254 [(14,some (iv (gg.1:Int))),(0,some (.slice bA lo.length bc)),(1,some (.int .u8 py)),(2,some (.int .i16 sx)),(3,some (.int .u8 bx)),(4,some (.int .u16 rx)),(5,some (.slice lA_ l.length lc_)),(12,some (.bool false)),(13,some (pt bb1 0))] a ∧ Mem w0.heap.size w0 [(1,some (.ro bA (lo.map (Value.int .u8)))),(2,some (.ro lA_ (flatE lE l))),(3,some (.row bb1 29 #[.slice gg.2.1 gg.1 gg.2.2,iv (sumL (altL lo gg.1) gg.1)])),(4,some (.own (.slice gg.2.1 gg.1 gg.2.2) 31 2 gg.1 (flat2 (altL lo gg.1))))] w ∧ ((gg.1:Int) ≤ (lo.length:Int)) ∧ ((gg.1:Int) ≤ 16)) (fun gg=>16 - gg.1) (0,none,0) ?_ ?_))))
 ·refine ⟨((((((((((Fr.nil hF).c hF (i:=13) rfl rfl).c hF (i:=12) rfl rfl).c hF (i:=5) rfl rfl).c hF (i:=4) rfl rfl).c hF (i:=3) rfl rfl).c hF (i:=2) rfl rfl).c hF (i:=1) rfl rfl).c hF (i:=0) rfl rfl).c hF (i:=14) rfl (vi (show (0:Int)=(0:Int) from by omega))),(hM.sub ((((Sub.nil.c (k:=4) rfl (congrArg (fun x=>Ent.own _ _ _ _ (flat2 x)) (show []=altL lo 0 from rfl))).c (k:=3) rfl (congrArg (fun z=>Ent.row _ _ #[_,Value.int .i64 z]) (show (0:Int)=sumL (altL lo 0) 0 from rfl))).c (k:=2) rfl rfl).c (k:=1) rfl rfl)),(show (0:Int) ≤ (lo.length:Int) from by omega),(show (0:Int) ≤ 16 from by omega)⟩
 intro gg a w hI
 intro K66 hK66
 obtain ⟨i,gA,gC⟩:=gg
 try dsimp only at hI hK66
 obtain ⟨hF,hM,hz18,hz19⟩:=hI
 have hsb:=altL_sum_bd hlo i (by omega)
 have hal:=altL_len lo i
 refine wp_seq_k fun K67 hK67=>wp_seq_k fun K68 hK68=>?_
 by_cases hz20:(i:Int) < (lo.length:Int)
 ·refine wp_region_lit (xB 3 [(38,iv (i:Int)),(39,.slice bA lo.length bc),(40,iv (lo.length:Int))] hF fun a hF=>wl (xP 41 (v0:=.bool (decide ((i:Int) < (lo.length:Int)))) (v:=.bool true) hF (bT hz20) fun a hF=>xB 4 [(42,.bool true),(43,iv (i:Int)),(44,.bool (decide ((i:Int) < 16))),(45,.bool (decide ((i:Int) < 16)))] hF fun a hF=>wpList_nil (hK68 _ _ ?_)))
  by_cases hz21:(i:Int) < 16
  ·replace hF:=hF.c hF (i:=44) (v:=.bool true) rfl (bT hz21)
   replace hF:=hF.c hF (i:=45) (v:=.bool true) rfl (bT hz21)
   refine xT hF (wp_skip (hK67 _ _ (wp_seq_k fun K69 hK69=>wp_block (wp_seq_k fun K70 hK70=>wp_region_lit (xB 1 [(48,iv (i:Int))] hF fun a hF=>wl (xM 49 (v:=iv ((i:Int) % 2)) hF hM (yld_rem (i:Int) 2 hF rfl (by kernel_rfl) (by kernel_rfl) (by kernel_rfl) (by decide) (Int.tmod_eq_emod_of_nonneg (by omega))) fun a w hF hM=>wl (xP 50 (v0:=.int .i64 (IntKind.i64.wrap (128 - (i:Int) % 2))) (v:=iv (128 - (i:Int) % 2)) hF (wi (by omega)) fun a hF=>xB 2 [(51,.slice bA lo.length bc),(52,iv (i:Int))] hF fun a hF=>wl (xM 53 (v:=.pointer (some (ea bA (i)))) hF hM (yld_ix (kd:=.i64) (e:=5) (len:=lo.length) (cap:=bc) (i:=(i:Int)) (size:=1) (A:=bA) hF rfl (by kernel_rfl) (by kernel_rfl) (by kernel_rfl) (by kernel_rfl) (by kernel_rfl) (roK 1 rfl) (by omega) (by omega) (by rw [List.length_map]; omega)) fun a w hF hM=>?_))))))))
   refine wl (xM 54 (v:=.int .u8 (nt lo i)) hF hM (yld_ro1 (A:=bA) (j:=i) hF rfl (by kernel_rfl) (by kernel_rfl) (roK 1 rfl) (by kernel_rfl) (nt_at (by omega))) fun a w hF hM=>?_)
   have:=hlo i (by omega)
   refine wl (xP 55 (v0:=.int .i64 (IntKind.i64.wrap (nt lo i))) (v:=iv (nt lo i)) hF (vi (IntWalk.i64_in _ (by omega))) fun a hF=>wl (xP 56 (v0:=.int .i64 (IntKind.i64.wrap (8 * nt lo i))) (v:=iv (8 * nt lo i)) hF (wi (by omega)) fun a hF=>xB 1 [(57,iv (i:Int))] hF fun a hF=>wl (xM 58 (v:=iv ((i:Int) % 2)) hF hM (yld_rem (i:Int) 2 hF rfl (by kernel_rfl) (by kernel_rfl) (by kernel_rfl) (by decide) (Int.tmod_eq_emod_of_nonneg (by omega))) fun a w hF hM=>wl (xP 59 (v0:=.int .i64 (IntKind.i64.wrap (9 * ((i:Int) % 2)))) (v:=iv (9 * ((i:Int) % 2))) hF (wi (by omega)) fun a hF=>wl (xP 60 (v0:=.int .i64 (IntKind.i64.wrap (1 + 9 * ((i:Int) % 2)))) (v:=iv (1 + 9 * ((i:Int) % 2))) hF (wi (by omega)) fun a hF=>?_)))))
   have hz22:0 ≤ 8 * nt lo i * (1 + 9 * ((i:Int) % 2)) ∧ 8 * nt lo i * (1 + 9 * ((i:Int) % 2)) ≤ 20400:=mul_bd (0) (2040) (1) (10) (by omega) (by omega) (by omega) (by omega) (by decide)
   refine wl (xP 61 (v0:=.int .i64 (IntKind.i64.wrap (8 * nt lo i * (1 + 9 * ((i:Int) % 2))))) (v:=iv (8 * nt lo i * (1 + 9 * ((i:Int) % 2)))) hF (wi (by omega)) fun a hF=>wl (xP 62 (v0:=.int .i64 (IntKind.i64.wrap (1 + 8 * nt lo i * (1 + 9 * ((i:Int) % 2))))) (v:=iv (1 + 8 * nt lo i * (1 + 9 * ((i:Int) % 2)))) hF (wi (by omega)) fun a hF=>xB 1 [(63,.agg #[iv (128 - (i:Int) % 2),iv (1 + 8 * nt lo i * (1 + 9 * ((i:Int) % 2)))])] hF fun a hF=>wl (xN 15 21 (t:=31) (fun b=>.pointer (some ⟨b,0,none⟩)) #[iv 0,iv 0] hF hM fun bb15 a w hF hM=>?_)))
   refine wl (xS 21 0 #[iv (128 - (i:Int) % 2),iv (1 + 8 * nt lo i * (1 + 9 * ((i:Int) % 2)))] hF hM fun w hM=>wpList_nil (hK70 _ _ (wp_seq_k fun K71 hK71=>wp_region_lit (xB 1 [(64,pt bb1 0)] hF fun a hF=>wl (xL 65 3 0 (v:=.slice gA i gC) hF hM fun a w hF hM=>wl (xL 66 21 0 (v:=.agg #[iv (128 - (i:Int) % 2),iv (1 + 8 * nt lo i * (1 + 9 * ((i:Int) % 2)))]) hF hM fun a w hF hM=>wl (xN 67 22 (t:=31) (fun b=>.slice (some ⟨b,0,none⟩) 1 1) #[iv (128 - (i:Int) % 2),iv (1 + 8 * nt lo i * (1 + 9 * ((i:Int) % 2)))] hF hM fun bb16 a w hF hM=>wl (sApp 68 4 (e:=31) (size:=2) (bytes:=16) (z:=.agg #[iv 0,iv 0]) (m:=1) (c:=1) (l:=i) (cap:=gC) (A:=gA) (news:=[iv (128 - (i:Int) % 2),iv (1 + 8 * nt lo i * (1 + 9 * ((i:Int) % 2)))]) (flat2 ((altL lo i) ++ [(128 - (i:Int) % 2,1 + 8 * nt lo i * (1 + 9 * ((i:Int) % 2)))])) hF hM (by kernel_rfl) rfl (by kernel_rfl) (by kernel_rfl) (by kernel_rfl) rfl rfl rfl rfl (roR 22 rfl) (by simp [Value.oneCell']) (by omega) (by decide) (flat2_snoc' _ _ _) fun AA17 cc17 a w hF hM=>xB 1 [(69,pt bb1 0)] hF fun a hF=>?_))))))))
   refine wl (xS 3 0 #[.slice AA17 (i + 1) cc17,iv (sumL (altL lo i) i)] hF hM fun w hM=>wpList_nil (hK71 _ _ (wp_region_lit (xB 1 [(70,pt bb1 1)] hF fun a hF=>wl (xL 71 3 1 (v:=iv (sumL (altL lo i) i)) hF hM fun a w hF hM=>xB 1 [(72,pt bb15 1)] hF fun a hF=>wl (xL 73 21 1 (v:=iv (1 + 8 * nt lo i * (1 + 9 * ((i:Int) % 2)))) hF hM fun a w hF hM=>wl (xP 74 (v0:=.int .i64 (IntKind.i64.wrap (sumL (altL lo i) i + (1 + 8 * nt lo i * (1 + 9 * ((i:Int) % 2)))))) (v:=iv (sumL (altL lo i) i + (1 + 8 * nt lo i * (1 + 9 * ((i:Int) % 2))))) hF (wi (by omega)) fun a hF=>xB 1 [(75,pt bb1 1)] hF fun a hF=>wl (xS 3 1 #[.slice AA17 (i + 1) cc17,iv (sumL (altL lo i) i + (1 + 8 * nt lo i * (1 + 9 * ((i:Int) % 2))))] hF hM fun w hM=>wpList_nil ?_))))))))
   refine hK69 _ _ (wp_region_lit (xB 1 [(46,iv (i:Int))] hF fun a hF=>wl (xP 47 (v0:=.int .i64 (IntKind.i64.wrap ((i:Int) + 1))) (v:=iv ((i:Int) + 1)) hF (wi (by omega)) fun a hF=>xB 1 [(14,iv ((i:Int) + 1))] hF fun a hF=>wpList_nil (hK66 _ _ ⟨(i + 1,AA17,cc17),⟨((((((((((Fr.nil hF).c hF (i:=13) rfl rfl).c hF (i:=12) rfl rfl).c hF (i:=5) rfl rfl).c hF (i:=4) rfl rfl).c hF (i:=3) rfl rfl).c hF (i:=2) rfl rfl).c hF (i:=1) rfl rfl).c hF (i:=0) rfl rfl).c hF (i:=14) rfl (vi (show ((i:Int) + 1:Int)=((i + 1):Int) from by omega))),(hM.sub ((((Sub.nil.c (k:=4) rfl (congrArg (fun x=>Ent.own _ _ _ _ (flat2 x)) (show _=altL lo (i + 1) from by rw [altL_succ,Int.natCast_emod]; rfl))).c (k:=3) rfl (congrArg (fun z=>Ent.row _ _ #[_,Value.int .i64 z]) (show _=sumL (altL lo (i + 1)) (i + 1) from by rw [altL_sum,show (((i % 2:Nat)):Int)=(i:Int) % 2 by omega]))).c (k:=2) rfl rfl).c (k:=1) rfl rfl)),(show ((i + 1):Int) ≤ (lo.length:Int) from by omega),(show ((i + 1):Int) ≤ 16 from by omega)⟩,(show 16 - (i + 1) < 16 - i from by omega)⟩))))
  replace hF:=hF.c hF (i:=44) (v:=.bool false) rfl (bF hz21)
  replace hF:=hF.c hF (i:=45) (v:=.bool false) rfl (bF hz21)
  refine xF hF (wp_exit (hJ5 i gA gC _ _ (((((((((Fr.nil hF).c hF (i:=13) rfl rfl).c hF (i:=12) rfl rfl).c hF (i:=5) rfl rfl).c hF (i:=4) rfl rfl).c hF (i:=3) rfl rfl).c hF (i:=2) rfl rfl).c hF (i:=1) rfl rfl).c hF (i:=0) rfl rfl) (hM.sub ((((Sub.nil.c (k:=4) rfl rfl).c (k:=3) rfl rfl).c (k:=2) rfl rfl).c (k:=1) rfl rfl)) (show (i:Int) ≤ (lo.length:Int) from by omega) (show (i:Int) ≤ 16 from by omega) (show 1 ≤ (i:Int) ∨ (lo.length:Int)=0 from by omega)))
 refine wp_region_lit (xB 3 [(38,iv (i:Int)),(39,.slice bA lo.length bc),(40,iv (lo.length:Int))] hF fun a hF=>wl (xP 41 (v0:=.bool (decide ((i:Int) < (lo.length:Int)))) (v:=.bool false) hF (bF hz20) fun a hF=>xB 4 [(42,.bool false),(43,undef),(44,undef),(45,.bool false)] hF fun a hF=>wpList_nil (hK68 _ _ (xF hF (wp_exit (hJ5 i gA gC _ _ (((((((((Fr.nil hF).c hF (i:=13) rfl rfl).c hF (i:=12) rfl rfl).c hF (i:=5) rfl rfl).c hF (i:=4) rfl rfl).c hF (i:=3) rfl rfl).c hF (i:=2) rfl rfl).c hF (i:=1) rfl rfl).c hF (i:=0) rfl rfl) (hM.sub ((((Sub.nil.c (k:=4) rfl rfl).c (k:=3) rfl rfl).c (k:=2) rfl rfl).c (k:=1) rfl rfl)) (show (i:Int) ≤ (lo.length:Int) from by omega) (show (i:Int) ≤ 16 from by omega) (show 1 ≤ (i:Int) ∨ (lo.length:Int)=0 from by omega)))))))
end Go.Proofs.YtlngflbamkgjlaaGreat
