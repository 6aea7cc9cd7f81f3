import Derived.Test.YtjebcgbmlbemcaaGreatDoorPFnExecuteContractx11
namespace Go.Proofs.YtjebcgbmlbemcaaGreatDoor.PFnExecuteContract
open Go.RowKit Go.Proofs.YtjebcgbmlbemcaaGreatDoorW.PrintWords Go.Proofs.YtjebcgbmlbemcaaGreatDoorW.PrintLast Go.Proofs.YtjebcgbmlbemcaaGreatDoorW.PrintMore
set_option maxHeartbeats 8000000
set_option maxRecDepth 100000
attribute [local go_sem] max2_int min2_int max_two min_two max_three min_three max_four min_four
set_option linter.unusedVariables false
set_option linter.unusedSimpArgs false
def s1f_.l0:Nat→Int→List Int→Int→List Int→Int→Option (List Int×Int)
  | 0,_,_,_,_,_=>none
  | k+1,x1,x5,x6,ab,ac=>if x6<x1 then ((s15_.f k ab ac (wrap64 (x6+1))).bind fun aa=>(if aa.1=x6 then (if x5.length<17592186044416 then (s1f_.l0 k x1 (x5 ++ [x6]) (wrap64 (x6+1)) ab aa.2) else (none)) else (if 0≤aa.1 then (if aa.1<(x5.length:Int) then (if x5.length<17592186044416 then ((some (x5 ++ [rd x5 aa.1]:List Int)).bind fun af=>(if aa.1<(af.length:Int) then (s1f_.l0 k x1 (af.set (aa.1:Int).toNat x6) (wrap64 (x6+1)) ab aa.2) else (none))) else (none)) else (none)) else (none)))) else (some (x5,ac))
def s1f_.f (k:Nat) (s0_0:List Int) (s0_1:Int) (a1:Int):Option (List Int×Int):=s1f_.l0 k a1 (([]:List Int)) 0 s0_0 s0_1
theorem s1f_.calls (k:Nat) (g:Nat) (s0_0:List Int) (s0_1:Int) (a1:Int) (r1:List Int) (r2:Int) (w0 w:World) (hI:IsS76 w0 w g s0_0 s0_1) (hB:Below w0.heap.size w0 w) (h:s1f_.f k s0_0 s0_1 a1=some (r1,r2)) :
    Calls Tryz.prog 56 #[.pointer (some ⟨g,0,none⟩),.int .i64 a1] w fun e w' => ∃ v0_:Value,e = .returned (v0_)∧Kd.R (Kd.int .i64) 3 w' w.heap.size (fun _=>True) v0_ r1∧IsS76 w0 w' g s0_0 r2∧Below w0.heap.size w0 w'∧KeepBut w w' g none:=by
 have HI0:=A0_ hI
 have HK:=A0_ (KeepBut.refl w g none)
 have HL:=A0_ hB.size;clear hI;have HW0:=A0_ hB.size;have HB:=A0_ hB;clear hB
 have H:(s1f_.l0 k a1 (([]:List Int)) 0 s0_0 s0_1)=some (r1,r2):=h
 clear h
 obtain⟨az,ak⟩ : ∃ y_:List Int,y_=(([]:List Int)):=⟨_,rfl⟩
 replace H:(s1f_.l0 k a1 az 0 s0_0 s0_1)=some (r1,r2):=zH ak H
 have ax:=A0_ ak;clear ak;have H':=A0_ H;clear H
 go_enter Tryz.func56,Tryz.ntmps56
 go_wp2_with (first|((with_reducible refine gD (N:=8) rfl ?_);refine Kd.R_lit (Kd.int .i64) _ 3 ?hg (N:=8) ?hd (xs:=([]:List Int)) (inner := []) (ok:=fun _=>True) (okp:=fun _=>True) ?hr ?hp (fun _ hk=>hk) trivial (Below.refl _ _) (Nat.le_refl _) (by simp) ?_;(case hd=>rfl);(case hg=>rfl);(case hr=>first|(go_simp;done)|(go_simp;rfl));(case hp=>exact(Reps.none _ _));intro bf w3 aq hb hg_ hnew_;clear hg_ hnew_;(first|rw [← ax.out] at aq|(simp only [Int.reduceToNat] at aq;rw [← ax.out] at aq));have aH:=A0_ (rL aq (keep_size (w:=w) (g:=g) (row:=none) (zKp HK)));replace HK:=A0_ (KeepBut.trans (zKp HK) (KeepBut.of_below hb g none) (.inl rfl));replace HB:=A0_ (bT (zBw HB) hb);replace HI0:=A0_ (IsS76.below (zIs HI0) hb);clear hb aq))
 go_loopg [5,6] k (fun kq v5 v6 w' => ∃ (ag:List Int) (aa:Int) (af:Int),v6 = .int .i64 aa∧Aside0 (s1f_.l0 kq a1 ag aa s0_0 af=some (r1,r2))∧Aside0 (kq≤k)∧Aside0 (Kd.R (Kd.int .i64) 3 w' w.heap.size (fun _=>True) v5 ag)∧Aside0 (IsS76 w0 w' g s0_0 af)∧Aside0 (KeepBut w w' g none)∧Aside0 (Below w0.heap.size w0 w'))
 case atStart=>exact⟨(az),(0),(s0_1),zt,H',⟨Nat.le_refl _⟩,⟨zR_ aH⟩,⟨zIs HI0⟩,⟨zKp HK⟩,⟨zBw HB⟩⟩
 case round =>
  clear H';obtain⟨ag,aa,af,rfl,HA,ay,ac,HI0,HK,HB⟩:=hrel
  cases gk with
  | zero=>exact absurd HA.out (by simp [s1f_.l0])
  | succ k1 =>
   have H:=HA.out;clear HA;simp only [s1f_.l0] at H
   by_cases c5:aa<a1
   ·rw [if_pos c5] at H
    have aX:=dT c5;clear c5;obtain⟨⟨ab,ai⟩,A6,H⟩:=zbind H;dsimp only at H
    by_cases c7:ab=aa
    ·rw [if_pos c7] at H
     have aY:(ab == aa)=true:=beq_iff_eq.mpr c7
     have aZ:(ab != aa)=false:=bne_eq_false_iff_eq.mpr c7
     clear c7
     have c8:=zpc H;replace H:=zph H
     have a4:=A0_ c8;clear c8
     obtain⟨aA,al⟩ : ∃ y_:List Int,y_=(ag ++ [aa]):=⟨_,rfl⟩
     replace H:(s1f_.l0 k1 a1 aA (wrap64 (aa+1)) s0_0 ai)=some (r1,r2):=zH al H
     have aI:=A0_ al;clear al;have H':=A0_ H;clear H
     go_wp2_with (first|((with_reducible refine gC (f:=22) rfl ?_);refine zJ (some 17) Tryz.func22 #[.pointer (some ⟨g,0,none⟩),.int .i64 (wrap64 (aa+1))] ?_;(with_reducible refine(s15_.calls k1 g s0_0 af (wrap64 (aa+1)) ab ai w0 _ ?am ?an A6.out).mono ?_);(case am=>repeat(first|(with_reducible first|exact HI0.out|apply IsS76.alloc|apply IsS76.drewN|apply IsS76.drew|apply IsS76.set_1)|exact HI0.out));(case an=>repeat(first|(with_reducible first|exact HB.out|apply bA|apply bN|apply bD|refine bS ?_ (IsS76.ge HI0.out))|exact HB.out));rintro e w9 ⟨rfl,hi,hb,hk⟩;refine⟨_,rfl,?_⟩;replace ac:=A0_ (rM (Kd.R_keep (IsS76.apart (show IsS76 w0 _ g s0_0 af from zIs HI0) (zR_ ac) (by decide)) hk (fun _ h=>h.2)) (fun _ h=>h.1));replace HK:=A0_ (KeepBut.trans (zKp HK) hk (.inl rfl));replace HB:=A0_ (hb);replace HI0:=A0_ (hi);(try clear hb))|((with_reducible refine gB (b := .append) (xs := #[.tmp 21,.tmp 23]) rfl ?_);at_builtin;refine Kd.R_append (Kd.int .i64) w.heap.size rfl (.tmp 21) (.tmp 23) 23 3 (.int .i64 0) 8 rfl Tryz.underlying23 info3 rfl (by decide) (by omega) u5 ag aa [.int .i64 aa] (fun _=>True) (fun _=>False) rfl rfl ?aP (fun _ hk=>hk.elim) ?aF ?aO (Below.refl _ _) ?aS ?aL ?_;(case aP=>exact rfl);(case aF=>exact(fun _ _=>trivial));(case aO=>exact(zR_ ac));(case aS=>exact(keep_size (w:=w) (g:=g) (row:=none) (zKp HK)));(case aL=>have:=a4.out;omega);intro bg w10 ho hb hg hat;rw [← aI.out] at ho;replace HB:=A0_ (below_weaken (zBw HB) HL.out hb);replace HI0:=A0_ (IsS76.grown (zIs HI0) hg (IsS76.own_ne HI0.out ac.out (by decide)));replace HK:=A0_ (KeepBut.trans (zKp HK) (KeepBut.of_grown hg g) (Kd.R_base2 ac.out));have aJ:=A0_ (ho);clear ac ho hb hg hat))
     go_roundg k1
     case measure=>have:=ay.out;omega
     case rel=>exact⟨(aA),(wrap64 (aa+1)),(ai),zt,H',⟨by have:=ay.out;omega⟩,⟨zR_ aJ⟩,⟨zIs HI0⟩,⟨zKp HK⟩,⟨zBw HB⟩⟩
    rw [if_neg c7] at H
    have aY:(ab == aa)=false:=beq_eq_false_iff_ne.mpr c7
    have aZ:(ab != aa)=true:=bne_iff_ne.mpr c7
    have aT:=zpc H;replace H:=zph H
    have bc:=dT aT;clear aT
    have aU:=zpc H;replace H:=zph H
    have bd:=dT aU;clear aU
    have aV:=zpc H;replace H:=zph H
    have aK:=A0_ aV;clear aV
    obtain⟨aj,ao⟩ : ∃ y_:List Int,y_=(ag ++ [rd ag ab]):=⟨_,rfl⟩
    replace H:(if ab<(aj.length:Int) then (s1f_.l0 k1 a1 (aj.set (ab:Int).toNat aa) (wrap64 (aa+1)) s0_0 ai) else (none))=some (r1,r2):=zH ao H
    have aM:=A0_ ao;clear ao
    have aW:=zpc H;replace H:=zph H
    have be:=dT aW;clear aW
    obtain⟨ar,ap⟩ : ∃ y_:List Int,y_=(aj.set (ab:Int).toNat aa):=⟨_,rfl⟩
    replace H:(s1f_.l0 k1 a1 ar (wrap64 (aa+1)) s0_0 ai)=some (r1,r2):=zH ap H
    have aN:=A0_ ap;clear ap;have H':=A0_ H;clear H
    go_wp2_with (first|((with_reducible refine gC (f:=22) rfl ?_);refine zJ (some 17) Tryz.func22 #[.pointer (some ⟨g,0,none⟩),.int .i64 (wrap64 (aa+1))] ?_;(with_reducible refine(s15_.calls k1 g s0_0 af (wrap64 (aa+1)) ab ai w0 _ ?am ?an A6.out).mono ?_);(case am=>repeat(first|(with_reducible first|exact HI0.out|apply IsS76.alloc|apply IsS76.drewN|apply IsS76.drew|apply IsS76.set_1)|exact HI0.out));(case an=>repeat(first|(with_reducible first|exact HB.out|apply bA|apply bN|apply bD|refine bS ?_ (IsS76.ge HI0.out))|exact HB.out));rintro e w16 ⟨rfl,hi,hb,hk⟩;refine⟨_,rfl,?_⟩;replace ac:=A0_ (rM (Kd.R_keep (IsS76.apart (show IsS76 w0 _ g s0_0 af from zIs HI0) (zR_ ac) (by decide)) hk (fun _ h=>h.2)) (fun _ h=>h.1));replace HK:=A0_ (KeepBut.trans (zKp HK) hk (.inl rfl));replace HB:=A0_ (hb);replace HI0:=A0_ (hi);(try clear hb);obtain⟨bh,a5,a6⟩:=rS ac.out;subst a6;have au:0≤(ab:Int):=zd;have av:ab<(ag.length:Int):=zd;obtain⟨aQ,a7,a9⟩:=tI (rR ac.out).2.2 ab au av;cases a7;replace au:=eq_true au;replace av:=eq_true av)|((with_reducible refine gB (b := .append) (xs := #[.tmp 25,.tmp 30]) rfl ?_);at_builtin;refine Kd.R_append (Kd.int .i64) w.heap.size rfl (.tmp 25) (.tmp 30) 23 3 (.int .i64 0) 8 rfl Tryz.underlying23 info3 rfl (by decide) (by omega) (.slice (some aQ) ag.length a5) ag (rd ag ab) [.int .i64 (rd ag ab)] (fun _=>True) (fun _=>False) rfl rfl ?aP (fun _ hk=>hk.elim) ?aF ?aO (Below.refl _ _) ?aS ?aL ?_;(case aP=>exact rfl);(case aF=>exact(fun _ _=>trivial));(case aO=>exact(zR_ ac));(case aS=>exact(keep_size (w:=w) (g:=g) (row:=none) (zKp HK)));(case aL=>have:=aK.out;omega);intro bi w18 ho hb hg hat;rw [← aM.out] at ho;replace HB:=A0_ (below_weaken (zBw HB) HL.out hb);replace HI0:=A0_ (IsS76.grown (zIs HI0) hg (IsS76.own_ne HI0.out ac.out (by decide)));replace HK:=A0_ (KeepBut.trans (zKp HK) (KeepBut.of_grown hg g) (Kd.R_base2 ac.out));have ah:=A0_ (ho);clear ac ho hb hg hat;have aC:0≤(ab:Int):=zd;have aD:(ab:Int)<((aj.length:Int):Int):=zd;obtain⟨aw,a8,aE,aG,gl15,cl15,HG15⟩:=Kd.R_form ah.out (by omega);(first|cases aE|(injection aE with ea_ en_ ec_;(first|subst ea_|(injection ea_ with ea_;subst ea_));subst ec_;clear en_));have GB15:=A0_ aG;have GG15:=A0_ HG15;clear aG gl15 HG15;obtain⟨ba,bb⟩:=Kd.R_celln 0 ah.out (ab:Int) aC aD;replace aC:=eq_true aC;replace aD:=eq_true aD;obtain⟨hy19_,hz19_⟩:=Kd.R_celln 0 ah.out (ab:Int) (zd) (zd);have HP19:=Kd.R_putg ah.out (ab:Int) aa)|((with_reducible refine gS (t:=3) (p:=35) rfl ?_);refine store_event (t:=3) (p:=35) (v := ?vo_w20) (w1:=(w18.setCell ⟨aw,(ab:Int).toNat,none⟩ (.int .i64 aa))) ?hg ?ho ?hn ?hr ?_;(case ho=>rfl);(case hg=>rfl);(case hn=>rfl);(case hr=>first|(go_simp;done)|(go_simp;rfl));intro w20 hw;have hg:w18.grownBy w20 (some aw):=(by rw [hw];exact HP19.2);have hp_:Kd.R (Kd.int .i64) 3 w20 w.heap.size (fun _=>True) (.slice (some ⟨aw,0,none⟩) aj.length a8) ar:=(by rw [hw,aN.out];exact HP19.1);clear HP19;replace HI0:=A0_ (IsS76.grown (zIs HI0) hg (IsS76.own_ne HI0.out ah.out (by decide)));replace HB:=A0_ ((by rw [hw];exact bS (HB.out) (Nat.le_trans HL.out GB15.out):Below w0.heap.size w0 w20));replace HK:=A0_ (KeepBut.trans (zKp HK) (KeepBut.of_grown hg g) (Kd.R_base2 ah.out));replace ah:=A0_ (hp_);clear hg hw hp_))
    go_roundg k1
    case measure=>have:=ay.out;omega
    case rel=>exact⟨(ar),(wrap64 (aa+1)),(ai),zt,H',⟨by have:=ay.out;omega⟩,⟨zR_ ah⟩,⟨zIs HI0⟩,⟨zKp HK⟩,⟨zBw HB⟩⟩
   rw [if_neg c5] at H;have aX:=dF c5;clear c5;simp only [Option.some.injEq,Prod.mk.injEq] at H;obtain⟨rfl,rfl⟩:=H
   go_wp2
   go_ret
   exact⟨_,by first|rfl|(simp [*] <;> rfl),zR_ ac,zIs HI0,zBw HB,zKp HK⟩
end Go.Proofs.YtjebcgbmlbemcaaGreatDoor.PFnExecuteContract
