import Derived.Test.YtmegggomhjgehaaPFnCoverConjx0
namespace Go.Proofs.Ytmegggomhjgehaa.PFnCoverConj
open Go.RowKit Go.Proofs.YtmegggomhjgehaaW.PrintWords Go.Proofs.YtmegggomhjgehaaW.PrintLast Go.Proofs.YtmegggomhjgehaaW.PrintMore
set_option maxHeartbeats 8000000
set_option maxRecDepth 100000
attribute [local go_sem] max2_int min2_int max_two min_two max_three min_three max_four min_four
mutual
def s12_.l0:Nat→List Int→List (List Int)→List Bool→Int→Option ((List (List Int)))
  | 0,_,_,_,_=>none
  | k+1,x0,x3,x4,x5=>if x5<(x0.length:Int) then (if 0≤x5 then (if x5<(x4.length:Int) then (if rdOf false x4 x5=true then (s12_.l0 k x0 x3 x4 (wrap64 (x5+1))) else (s12_.l1 k x0 x3 x4 x5 (([]:List Int)) x5)) else (none)) else (none)) else (some x3)
def s12_.l1:Nat→List Int→List (List Int)→List Bool→Int→List Int→Int→Option ((List (List Int)))
  | 0,_,_,_,_,_,_=>none
  | k+1,x0,x3,x4,x5,x6,x7=>if 0≤x7 then (if x7<(x4.length:Int) then (if rdOf false x4 x7=true then (if x3.length<5864062014805 then (s12_.l0 k x0 (x3 ++ [x6]) x4 (wrap64 (x5+1))) else (none)) else (if x6.length<17592186044416 then (if x7<(x0.length:Int) then (s12_.l1 k x0 x3 (x4.set (x7:Int).toNat true) x5 (x6 ++ [x7]) (rd x0 x7)) else (none)) else (none))) else (none)) else (none)
end
def s12_.f (k:Nat) (l0:List Int):Option ((List (List Int))):=if 0≤(l0.length:Int) then (if ((l0.length:Int):Int).toNat≤281474976710656 then (s12_.l0 k l0 (([]:List (List Int))) (List.replicate ((l0.length:Int):Int).toNat false) 0) else (none)) else (none)
theorem s12_.calls (k:Nat) (A0:Option Addr) (c0:Nat) (l0:List Int) (r:List (List Int)) (w:World) (bC:Kd.C (Kd.int .i64) w A0 l0.length l0) (bE:l0.length≤c0) (h:s12_.f k l0=some r) :
    Calls Try.prog 71 #[.slice A0 l0.length c0] w fun e w' => ∃ v0_:Value,e = .returned (v0_)∧Kd.S (Kd.slice 3 (Kd.int .i64)) 23 w' w.heap.size (fun _=>True) v0_ r∧Below w.heap.size w w':=by
 have bR:=A0_ bC;have b9:=A0_ bE;clear bC bE
 have HB:=A0_ (Below.refl w.heap.size w)
 have H:(if 0≤(l0.length:Int) then (if ((l0.length:Int):Int).toNat≤281474976710656 then (s12_.l0 k l0 (([]:List (List Int))) (List.replicate ((l0.length:Int):Int).toNat false) 0) else (none)) else (none))=some r:=h
 clear h
 obtain⟨aQ,ay⟩ : ∃ y_:List (List Int),y_=(([]:List (List Int))):=⟨_,rfl⟩
 replace H:(if 0≤(l0.length:Int) then (if ((l0.length:Int):Int).toNat≤281474976710656 then (s12_.l0 k l0 aQ (List.replicate ((l0.length:Int):Int).toNat false) 0) else (none)) else (none))=some r:=zH ay H
 have aX:=A0_ ay;clear ay
 have c2:=zpc H;replace H:=zph H
 have a6:=eq_true c2;have a7:=dT c2;clear c2
 have c3:=zpc H;replace H:=zph H
 have a8:=eq_true c3;have a9:=dT c3;clear c3
 obtain⟨ba,az⟩ : ∃ y_:List Bool,y_=(List.replicate ((l0.length:Int):Int).toNat false):=⟨_,rfl⟩
 replace H:(s12_.l0 k l0 aQ ba 0)=some r:=zH az H
 have aY:=A0_ az;clear az;have H':=A0_ H;clear H
 go_enter Try.func71,Try.ntmps71
 go_wp2_with (first|((with_reducible refine gD (N:=8) rfl ?_);refine Kd.S_lit (Kd.slice 3 (Kd.int .i64)) _ 23 ?hg (N:=8) ?hd (xs:=([]:List (List Int))) (inner := []) (ok:=fun _=>True) (okp:=fun _=>True) ?hr ?hp (fun _ hk=>hk) trivial (Below.refl _ _) (Nat.le_refl _) (by simp) ?_;(case hd=>rfl);(case hg=>rfl);(case hr=>first|(go_simp;done)|(go_simp;rfl));(case hp=>exact(Reps.none _ _));intro bY w4 aK hb hg_ hnew_;clear hg_ hnew_;(first|rw [← aX.out] at aK|(simp only [Int.reduceToNat] at aK;rw [← aX.out] at aK));have aA:=A0_ (Kd.S_lower aK (bZ (zB_ HB)));replace HB:=zB HB hb;clear hb aK)|((with_reducible refine gD (N:=11) rfl ?_);refine Kd.R_make Kd.bool _ 4 rfl (N:=11) rfl 60 _ _ rfl (l0.length:Int) rfl rfl Try.underlying60 (.bool false) 1 info4 rfl (by decide) (by omega) false (ok:=fun _=>True) (okp:=fun _=>True) rfl (fun _ hk=>hk) trivial (zd) (Nat.le_trans (Nat.mul_le_mul_right _ (zd:(l0.length:Int).toNat≤281474976710656)) (by omega)) (Below.refl _ _) (Nat.le_refl _) ?_;intro bK w6 aM hb hg_ hnew_;clear hg_ hnew_;(first|rw [← aY.out] at aM|(simp only [Int.reduceToNat] at aM;rw [← aY.out] at aM));replace aA:=zS aA hb;have bm:=A0_ (rL aM (bZ (zB_ HB)));replace HB:=zB HB hb;clear hb aM))
 go_loopg [3,5] k (fun kq v3 v5 w' => ∃ (ag:List (List Int)) (aj:List Bool) (ab:Int),v5 = .int .i64 ab∧Aside0 (s12_.l0 kq l0 ag aj ab=some r)∧Aside0 (kq≤k)∧Aside0 (Kd.S (Kd.slice 3 (Kd.int .i64)) 23 w' w.heap.size (fun _=>True) v3 ag)∧Aside0 (Kd.R Kd.bool 4 w' w.heap.size (fun _=>True) bK aj)∧Aside0 (Below w.heap.size w w'))
 case atStart=>exact⟨(aQ),(ba),(0),zt,H',⟨Nat.le_refl _⟩,⟨zS_ aA⟩,⟨zR_ bm⟩,⟨zB_ HB⟩⟩
 case round =>
  clear H';(try clear c2);(try clear a6);(try clear a7);(try clear c3);(try clear a8);(try clear a9);obtain⟨ag,aj,ab,rfl,HA,ax,ae,ac,HB⟩:=hrel
  cases gk with
  | zero=>exact absurd HA.out (by simp [s12_.l0])
  | succ k1 =>
   have H:=HA.out;clear HA;simp only [s12_.l0] at H
   by_cases c8:ab<(l0.length:Int)
   ·rw [if_pos c8] at H
    have bb:=dT c8;clear c8
    have c9:=zpc H;replace H:=zph H
    have bL:=dT c9;clear c9
    have bc:=zpc H;replace H:=zph H
    have bn:=dT bc;clear bc
    obtain⟨bq11,hbq11⟩ : ∃ b_:Bool,b_=(rdOf false aj ab):=⟨_,rfl⟩
    replace H:(if bq11=true then (s12_.l0 k1 l0 ag aj (wrap64 (ab+1))) else (s12_.l1 k1 l0 ag aj ab (([]:List Int)) ab))=some r:=by rw [← hbq11] at H;exact H
    have Nbq11:=A0_ hbq11;clear hbq11
    by_cases aN:bq11=true
    ·subst aN
     rw [if_pos rfl] at H;have H':=A0_ H;clear H;obtain⟨b2,b3,bM⟩:=rS ac.out;subst bM
     have an:0≤(ab:Int):=zd
     have ao:ab<(aj.length:Int):=zd
     obtain⟨ar,aT,am⟩:=Kd.at_bool (rR ac.out).2.2 ab an ao
     (try rw [← Nbq11.out] at am)
     cases aT
     replace an:=eq_true an;replace ao:=eq_true ao
     go_wp2
     go_roundg k1
     case measure=>have:=ax.out;omega
     case rel=>exact⟨(ag),(aj),(wrap64 (ab+1)),zt,H',⟨by have:=ax.out;omega⟩,⟨zS_ ae⟩,⟨zR_ ac⟩,⟨zB_ HB⟩⟩
    replace aN:=Bool.eq_false_iff.mpr aN;subst aN
    rw [if_neg (show ¬ (false=true) by decide)] at H
    obtain⟨bd,aC⟩ : ∃ y_:List Int,y_=(([]:List Int)):=⟨_,rfl⟩
    replace H:(s12_.l1 k1 l0 ag aj ab bd ab)=some r:=zH aC H
    have aZ:=A0_ aC;clear aC;have H':=A0_ H;clear H;obtain⟨b4,aD,bO⟩:=rS ac.out;subst bO
    have an:0≤(ab:Int):=zd
    have ao:ab<(aj.length:Int):=zd
    obtain⟨ar,aT,am⟩:=Kd.at_bool (rR ac.out).2.2 ab an ao
    (try rw [← Nbq11.out] at am)
    cases aT
    replace an:=eq_true an;replace ao:=eq_true ao
    go_wp2_with (first|((with_reducible refine gD (N:=22) rfl ?_);refine Kd.R_lit (Kd.int .i64) _ 3 ?hg (N:=22) ?hd (xs:=([]:List Int)) (inner := []) (ok:=fun _=>True) (okp:=fun _=>True) ?hr ?hp (fun _ hk=>hk) trivial (Below.refl _ _) (Nat.le_refl _) (by simp) ?_;(case hd=>rfl);(case hg=>rfl);(case hr=>first|(go_simp;done)|(go_simp;rfl));(case hp=>exact(Reps.none _ _));intro b5 w15 au hb hg_ hnew_;clear hg_ hnew_;(first|rw [← aZ.out] at au|(simp only [Int.reduceToNat] at au;rw [← aZ.out] at au));replace ae:=A0_ (Kd.S_elder' (zS_ ae) (Kd.R_base au) hb);replace ac:=zR ac hb;have bo:=A0_ (rL au (bZ (zB_ HB)));replace HB:=zB HB hb;clear hb au))
    (try generalize Value.pointer (some (ar.add (ab:Int).toNat))=pz_)
    go_loopg [6,7] k1 (fun kq v6 v7 w' => ∃ (ah:List Bool) (ai:List Int) (aa:Int),v7 = .int .i64 aa∧Aside0 (s12_.l1 kq l0 ag ah ab ai aa=some r)∧Aside0 (kq≤k1)∧Aside0 (Kd.S (Kd.slice 3 (Kd.int .i64)) 23 w' w.heap.size (fun k_=>nO k_ v6) u3 ag)∧Aside0 (Kd.R Kd.bool 4 w' w.heap.size (fun _=>True) (.slice (some ar) aj.length aD) ah)∧Aside0 (Kd.R (Kd.int .i64) 3 w' w.heap.size (fun _=>True) v6 ai)∧Aside0 (Below w.heap.size w w'))
    case atStart=>exact⟨(aj),(bd),(ab),zt,H',⟨Nat.le_refl _⟩,⟨zmS ae (fun _ hk=>hk.2)⟩,⟨zR_ ac⟩,⟨zR_ bo⟩,⟨zB_ HB⟩⟩
    case round =>
     clear H';(try clear c2);(try clear a6);(try clear a7);(try clear c3);(try clear a8);(try clear a9);(try clear c8);(try clear bb);(try clear c9);(try clear bL);(try clear bc);(try clear bn);(try clear aN);(try clear am);(try clear an);(try clear ao);obtain⟨ah,ai,aa,rfl,HA,a4,ae,ac,al,HB⟩:=hrel;have af:=(rR ac.out).1;rw [af] at ac;(try simp only [af]);(try simp only [af] at ae);(try simp only [af] at al)
     cases gk with
     | zero=>exact absurd HA.out (by simp [s12_.l1])
     | succ k2 =>
      have H:=HA.out;clear HA;simp only [s12_.l1] at H
      have bF:=zpc H;replace H:=zph H
      have bW:=dT bF;clear bF
      have bG:=zpc H;replace H:=zph H
      have bp:=dT bG;(try simp only [af] at bp);clear bG
      obtain⟨bq19,hbq19⟩ : ∃ b_:Bool,b_=(rdOf false ah aa):=⟨_,rfl⟩
      replace H:(if bq19=true then (if ag.length<5864062014805 then (s12_.l0 k2 l0 (ag ++ [ai]) ah (wrap64 (ab+1))) else (none)) else (if ai.length<17592186044416 then (if aa<(l0.length:Int) then (s12_.l1 k2 l0 ag (ah.set (aa:Int).toNat true) ab (ai ++ [aa]) (rd l0 aa)) else (none)) else (none)))=some r:=by rw [← hbq19] at H;exact H
      have Nbq19:=A0_ hbq19;clear hbq19
      by_cases a5:bq19=true
      ·subst a5
       rw [if_pos rfl] at H
       have bH:=zpc H;replace H:=zph H
       have bq:=A0_ bH;clear bH
       obtain⟨be,aE⟩ : ∃ y_:List (List Int),y_=(ag ++ [ai]):=⟨_,rfl⟩
       replace H:(s12_.l0 k2 l0 be ah (wrap64 (ab+1)))=some r:=zH aE H
       have br:=A0_ aE;clear aE;have H':=A0_ H;clear H
       have ap:0≤(aa:Int):=zd
       have aq:aa<(ah.length:Int):=zd
       obtain⟨aG,aU,ak⟩:=Kd.at_bool (rR ac.out).2.2 aa ap aq
       (try rw [← Nbq11.out] at ak)
       (try rw [← Nbq19.out] at ak)
       obtain rfl:ar=aG:=(by injection aU)
       replace ap:=eq_true ap;replace aq:=eq_true aq;obtain⟨bf,bg,bP⟩:=rS al.out;subst bP
       go_wp2_with (first|((with_reducible refine gB (b := .append) (xs := #[.tmp 40,.tmp 42]) rfl ?_);at_builtin;refine Kd.S_append (Kd.slice 3 (Kd.int .i64)) (w0:=w) w.heap.size rfl (.tmp 40) (.tmp 42) 26 23 (.slice none 0 0) 24 rfl Try.underlying26 info23 rfl (by decide) (by omega) u3 ag ai [.slice bf ai.length bg] (fun _=>True) (fun k_=>some k_=(.slice bf ai.length bg:Value).ownBlock) rfl rfl ?aP (fun k_ hk_=>((rM (ok':=fun k_=>((fun _=>True)) k_∧nO k_ u3) (Kd.R_apart' (al.out) (Kd.S_typed ae.out) (by decide)) (fun k_ hk=>⟨trivial,hk.2⟩))).1 k_ hk_.symm) ?aF ?aO ?aB ?aS ?aL ?_;(case aP=>exact Kd.M_row (rM (Kd.R_tight rfl (rM (ok':=fun k_=>((fun _=>True)) k_∧nO k_ u3) (Kd.R_apart' (al.out) (Kd.S_typed ae.out) (by decide)) (fun k_ hk=>⟨trivial,hk.2⟩))) (fun _ h_=>h_)));(case aB=>exact(zB_ HB));(case aF=>exact(fun _ _=>trivial));(case aO=>exact(zmS ae (fun k_ hk=>⟨trivial,fun e_=>hk e_⟩)));(case aS=>exact(bZ (zB_ HB)));(case aL=>have:=bq.out;omega);intro b6 w22 ho hb hg hat;rw [← br.out] at ho;replace ac:=A0_ (Kd.R_over' (zR_ ac) (Kd.S_typed (zS_ ae)) (by decide) hg);replace HB:=A0_ (hb);have bu:=A0_ (ho);clear ae al ho hb hg hat))
       (try simp only [← af])
       go_roundg k2
       case measure=>have:=ax.out;have:=a4.out;omega
       case rel=>exact⟨(be),(ah),(wrap64 (ab+1)),zt,H',⟨by have:=ax.out;have:=a4.out;omega⟩,⟨by(try simp only [af]);(with_reducible repeat(first|apply sA|apply sN|apply sD));exact bu.out⟩,⟨by(try simp only [af]);(with_reducible repeat(first|apply rA|apply rN|apply rD));exact ac.out⟩,⟨zB_ HB⟩⟩
      replace a5:=Bool.eq_false_iff.mpr a5;subst a5
      rw [if_neg (show ¬ (false=true) by decide)] at H
      obtain⟨aH,aI⟩ : ∃ y_:List Bool,y_=(ah.set (aa:Int).toNat true):=⟨_,rfl⟩
      replace H:(if ai.length<17592186044416 then (if aa<(l0.length:Int) then (s12_.l1 k2 l0 ag aH ab (ai ++ [aa]) (rd l0 aa)) else (none)) else (none))=some r:=zH aI H
      have bv:=A0_ aI;clear aI
      have bI:=zpc H;replace H:=zph H
      have bw:=A0_ bI;clear bI
      obtain⟨bh,aJ⟩ : ∃ y_:List Int,y_=(ai ++ [aa]):=⟨_,rfl⟩
      replace H:(if aa<(l0.length:Int) then (s12_.l1 k2 l0 ag aH ab bh (rd l0 aa)) else (none))=some r:=zH aJ H
      have bx:=A0_ aJ;clear aJ
      have bJ:=zpc H;replace H:=zph H
      have bz:=dT bJ;(try simp only [af] at bz);clear bJ;have H':=A0_ H;clear H
      have ap:0≤(aa:Int):=zd
      have aq:aa<(ah.length:Int):=zd
      obtain⟨aG,aU,ak⟩:=Kd.at_bool (rR ac.out).2.2 aa ap aq
      (try rw [← Nbq11.out] at ak)
      (try rw [← Nbq19.out] at ak)
      obtain rfl:ar=aG:=(by injection aU)
      replace ap:=eq_true ap;replace aq:=eq_true aq
      have bi:0≤(aa:Int):=zd
      have bj:(aa:Int)<((ah.length:Int):Int):=zd
      obtain⟨aw,b7,bk,bl,gl24,cl24,HG24⟩:=Kd.R_form ac.out (by omega)
      (first|cases bk|(injection bk with ea_ en_ ec_;(first|subst ea_|(injection ea_ with ea_;subst ea_));subst ec_;clear en_))
      have GB24:=A0_ bl;have GG24:=A0_ HG24;clear bl gl24 HG24
      (first|simp only [add_plain] at am|skip)
      (first|simp only [add_plain] at ak|skip)
      obtain⟨bU,bV⟩:=Kd.R_celln false ac.out (aa:Int) bi bj
      replace bi:=eq_true bi;replace bj:=eq_true bj
      have HP27:=Kd.R_putg ac.out (aa:Int) true
      go_wp2_with (first|((with_reducible refine gS (t:=4) (p:=35) rfl ?_);refine store_event (t:=4) (p:=35) (v := ?vo_w28) (w1:=(wr.setCell ⟨aw,(aa:Int).toNat,none⟩ (.bool true))) ?hg ?ho ?hn ?hr ?_;(case ho=>rfl);(case hg=>rfl);(case hn=>rfl);(case hr=>first|(go_simp;done)|(go_simp;rfl));intro w28 hw;have hg:wr.grownBy w28 (some aw):=(by rw [hw];exact HP27.2);have hp_:Kd.R Kd.bool 4 w28 w.heap.size (fun _=>True) (.slice (some ⟨aw,0,none⟩) ah.length aD) aH:=(by rw [hw,bv.out];exact HP27.1);clear HP27;replace ae:=A0_ (Kd.S_over' (v:=(.slice (some ⟨aw,0,none⟩) ah.length aD)) (zS_ ae) (Kd.R_typed ac.out) (by decide) hg);replace al:=A0_ (Kd.R_over' (v:=(.slice (some ⟨aw,0,none⟩) ah.length aD)) (zR_ al) (Kd.R_typed ac.out) (by decide) hg);replace ac:=A0_ (hp_);replace HB:=A0_ ((by rw [hw];exact bS (HB.out) GB24.out:Below w.heap.size w w28));clear hg hw hp_)|((with_reducible refine gB (b := .append) (xs := #[.tmp 36,.tmp 38]) rfl ?_);at_builtin;refine Kd.R_append (Kd.int .i64) (w0:=w) w.heap.size rfl (.tmp 36) (.tmp 38) 23 3 (.int .i64 0) 8 rfl Try.underlying23 info3 rfl (by decide) (by omega) u6 ai aa [.int .i64 aa] (fun _=>True) (fun _=>False) rfl rfl ?aP (fun _ hk=>hk.elim) ?aF ?aO ?aB ?aS ?aL ?_;(case aP=>exact rfl);(case aB=>exact(zB_ HB));(case aF=>exact(fun _ _=>trivial));(case aO=>exact(zR_ al));(case aS=>exact(bZ (zB_ HB)));(case aL=>have:=bw.out;omega);intro b8 w29 ho hb hg hat;rw [← bx.out] at ho;replace ae:=A0_ (Kd.S_after (ok:=(fun _=>True)) (zmS ae (fun _ hk=>⟨trivial,hk⟩)) hg hat);replace ac:=A0_ (Kd.R_over' (zR_ ac) (Kd.R_typed (zR_ al)) (by decide) hg);replace HB:=A0_ (hb);have bB:=A0_ (ho);clear al ho hb hg hat;have aV:0≤(aa:Int):=zd;have aW:aa<(l0.length:Int):=zd;obtain⟨bX,bQ,av⟩:=tI bR.out aa aV aW;cases bQ;try replace av:=(HB.out.cell (wL w _ av)).trans av;replace aV:=eq_true aV;replace aW:=eq_true aW))
      (try simp only [← af])
      go_roundg k2
      case measure=>have:=ax.out;have:=a4.out;omega
      case rel=>exact⟨(aH),(bh),(rd l0 aa),zt,H',⟨by have:=ax.out;have:=a4.out;omega⟩,⟨by(try simp only [af]);(with_reducible repeat(first|apply sA|apply sN|apply sD));exact sM ae.out (fun _ hk=>hk.2)⟩,⟨by(try simp only [af]);(with_reducible repeat(first|apply rA|apply rN|apply rD));exact ac.out⟩,⟨by(try simp only [af]);(with_reducible repeat(first|apply rA|apply rN|apply rD));exact bB.out⟩,⟨zB_ HB⟩⟩
   rw [if_neg c8] at H;have bb:=dF c8;clear c8;obtain rfl:=sI H
   go_wp2
   go_ret
   exact⟨_,by first|rfl|(simp [*] <;> rfl),zS_ ae,zB_ HB⟩
mutual
def s1d_.l0:Nat→List Int→List (List Int)→Int→Option (List Int)
  | 0,_,_,_=>none
  | k+1,x3,x4,x5=>if x5<(x4.length:Int) then (s1d_.l1 k x3 x4 x5 0) else (some x3)
def s1d_.l1:Nat→List Int→List (List Int)→Int→Int→Option (List Int)
  | 0,_,_,_,_=>none
  | k+1,x3,x4,x5,x6=>if 0≤x5 then (if x5<(x4.length:Int) then (if x6<((rd_L1 x4 x5).length:Int) then (if 0≤x6 then (if 0≤(rd (rd_L1 x4 x5) x6) then (if (rd (rd_L1 x4 x5) x6)<(x3.length:Int) then (s1d_.l1 k (x3.set ((rd (rd_L1 x4 x5) x6):Int).toNat x5) x4 x5 (wrap64 (x6+1))) else (none)) else (none)) else (none)) else (s1d_.l0 k x3 x4 (wrap64 (x5+1)))) else (none)) else (none)
end
def s1d_.f (k:Nat) (l0:List Int):Option (List Int):=if 0≤(l0.length:Int) then (if ((l0.length:Int):Int).toNat≤35184372088832 then ((s12_.f k l0).bind fun aa=>(s1d_.l0 k (List.replicate ((l0.length:Int):Int).toNat 0) aa 0)) else (none)) else (none)
theorem s1d_.calls (k:Nat) (A0:Option Addr) (c0:Nat) (l0:List Int) (r:List Int) (w:World) (bl:Kd.C (Kd.int .i64) w A0 l0.length l0) (bm:l0.length≤c0) (h:s1d_.f k l0=some r) :
    Calls Try.prog 91 #[.slice A0 l0.length c0] w fun e w' => ∃ v0_:Value,e = .returned (v0_)∧Kd.R (Kd.int .i64) 3 w' w.heap.size (fun _=>True) v0_ r∧Below w.heap.size w w':=by
 have bE:=A0_ bl;have bF:=A0_ bm;clear bl bm
 have HB:=A0_ (Below.refl w.heap.size w)
 have H:(if 0≤(l0.length:Int) then (if ((l0.length:Int):Int).toNat≤35184372088832 then ((s12_.f k l0).bind fun ab=>(s1d_.l0 k (List.replicate ((l0.length:Int):Int).toNat 0) ab 0)) else (none)) else (none))=some r:=h
 clear h
 have c2:=zpc H;replace H:=zph H
 have aY:=eq_true c2;have aZ:=dT c2;clear c2
 have c3:=zpc H;replace H:=zph H
 have a4:=eq_true c3;have a5:=dT c3;clear c3
 obtain⟨a6,aA⟩ : ∃ y_:List Int,y_=(List.replicate ((l0.length:Int):Int).toNat 0):=⟨_,rfl⟩
 replace H:((s12_.f k l0).bind fun ab=>(s1d_.l0 k a6 ab 0))=some r:=zH aA H
 have aT:=A0_ aA;clear aA;obtain⟨ab,A4,H⟩:=zbind H;have H':=A0_ H;clear H
 go_enter Try.func91,Try.ntmps91
 go_wp2_with (first|((with_reducible refine gD (N:=9) rfl ?_);refine Kd.R_make (Kd.int .i64) _ 3 rfl (N:=9) rfl 23 _ _ rfl (l0.length:Int) rfl rfl Try.underlying23 (.int .i64 0) 8 info3 rfl (by decide) (by omega) 0 (ok:=fun _=>True) (okp:=fun _=>True) rfl (fun _ hk=>hk) trivial (zd) (Nat.le_trans (Nat.mul_le_mul_right _ (zd:(l0.length:Int).toNat≤35184372088832)) (by omega)) (Below.refl _ _) (Nat.le_refl _) ?_;intro aC w5 aI hb hg_ hnew_;clear hg_ hnew_;(first|rw [← aT.out] at aI|(simp only [Int.reduceToNat] at aI;rw [← aT.out] at aI));have ar:=A0_ (rL aI (bZ (zB_ HB)));replace HB:=zB HB hb;clear hb aI)|((with_reducible refine gC (f:=71) rfl ?_);refine zJ (some 11) Try.func71 #[.slice A0 l0.length c0] ?_;(with_reducible refine(s12_.calls k _ _ l0 ab _ ?bf ?bg A4.out).mono ?_);(case bf=>exact zC bE HB);(case bg=>exact bF.out);rintro e w7 ⟨bv,rfl,bn,hb⟩;refine⟨_,rfl,?_⟩;have bh:=A0_ (Kd.S_lower (Kd.S_new' bn (rX (zR_ ar))) (bZ (zB_ HB)));replace ar:=zR ar hb;replace HB:=zB HB hb;(try clear hb);(try clear bn)))
 go_loopg [5] k (fun kq v5 w' => ∃ (aD:List Int) (aa:Int),v5 = .int .i64 aa∧Aside0 (s1d_.l0 kq aD ab aa=some r)∧Aside0 (kq≤k)∧Aside0 (Kd.R (Kd.int .i64) 3 w' w.heap.size (fun _=>True) aC aD)∧Aside0 (Kd.S (Kd.slice 3 (Kd.int .i64)) 23 w' w.heap.size (fun k_=>nO k_ aC) bv ab)∧Aside0 (Below w.heap.size w w'))
 case atStart=>exact⟨(a6),(0),zt,H',⟨Nat.le_refl _⟩,⟨zR_ ar⟩,⟨zmS bh (fun _ hk=>hk.2)⟩,⟨zB_ HB⟩⟩
 case round =>
  clear H';(try clear c2);(try clear aY);(try clear aZ);(try clear c3);(try clear a4);(try clear a5);obtain⟨aD,aa,rfl,HA,aU,aj,ac,HB⟩:=hrel
  cases gk with
  | zero=>exact absurd HA.out (by simp [s1d_.l0])
  | succ k1 =>
   have H:=HA.out;clear HA;simp only [s1d_.l0] at H
   by_cases c8:aa<(ab.length:Int)
   ·rw [if_pos c8] at H
    have a7:=dT c8;clear c8;have H':=A0_ H;clear H;obtain⟨bG,a8,bH⟩:=Kd.S_slice ac.out;subst bH
    go_wp2
    go_loopg [6] k1 (fun kq v6 w' => ∃ (af:List Int) (ae:Int),v6 = .int .i64 ae∧Aside0 (s1d_.l1 kq af ab aa ae=some r)∧Aside0 (kq≤k1)∧Aside0 (Kd.R (Kd.int .i64) 3 w' w.heap.size (fun _=>True) aC af)∧Aside0 (Kd.S (Kd.slice 3 (Kd.int .i64)) 23 w' w.heap.size (fun k_=>nO k_ aC) (.slice bG ab.length a8) ab)∧Aside0 (Below w.heap.size w w'))
    case atStart=>exact⟨(aD),(0),zt,H',⟨Nat.le_refl _⟩,⟨zR_ aj⟩,⟨zS_ ac⟩,⟨zB_ HB⟩⟩
    case round =>
     clear H';(try clear c2);(try clear aY);(try clear aZ);(try clear c3);(try clear a4);(try clear a5);(try clear c8);(try clear a7);obtain⟨af,ae,rfl,HA,aV,aj,ac,HB⟩:=hrel
     cases gk with
     | zero=>exact absurd HA.out (by simp [s1d_.l1])
     | succ k2 =>
      have H:=HA.out;clear HA;simp only [s1d_.l1] at H
      have bo:=zpc H;replace H:=zph H
      have bM:=dT bo;clear bo
      have bp:=zpc H;replace H:=zph H
      have bO:=dT bp;clear bp
      by_cases av:ae<((rd_L1 ab aa).length:Int)
      ·rw [if_pos av] at H
       have bi:=dT av;clear av
       have bq:=zpc H;replace H:=zph H
       have bP:=dT bq;clear bq
       have br:=zpc H;replace H:=zph H
       have bQ:=dT br;clear br
       have bu:=zpc H;replace H:=zph H
       have bR:=dT bu;clear bu
       obtain⟨aK,aE⟩ : ∃ y_:List Int,y_=(af.set ((rd (rd_L1 ab aa) ae):Int).toNat aa):=⟨_,rfl⟩
       replace H:(s1d_.l1 k2 aK ab aa (wrap64 (ae+1)))=some r:=zH aE H
       have bj:=A0_ aE;clear aE;have H':=A0_ H;clear H
       have ak:0≤(aa:Int):=zd
       have al:aa<(ab.length:Int):=zd
       obtain⟨au,a9,ba,aM,ao,ah,ai⟩:=at_L1 (Kd.S_reads' ac.out).2.2 aa ak al
       cases aM
       obtain⟨ce550,hce550,hMe550,an⟩:=Kd.S_get ac.out [] aa ak (by first|exact al|exact zd|(have e_:=(Kd.S_reads' ac.out).1;omega))
       obtain⟨ve550_0,rfl,ag⟩:=hMe550;have hv550_0:=an 0 _ rfl
       rw [Nat.add_zero,show((Kd.slice 3 (Kd.int .i64))).sz=1 from rfl,Nat.mul_one] at hv550_0
       replace hv550_0:=sI (hv550_0.symm.trans ao)
       rw [hv550_0] at ag
       have HL550_0:=A0_ (show Kd.R (Kd.int .i64) 3 _ _ _ _ (rd_L1 ab aa) from ag)
       clear hv550_0 ag an hce550;have aW:=A0_ ai;have aX:=A0_ ah;clear ai ah;replace ak:=eq_true ak;replace al:=eq_true al
       have aG:0≤(aa:Int):=zd
       have aH:aa<(ab.length:Int):=zd
       obtain⟨bk,bI,bJ,bw,aw,ax,ay⟩:=at_L1 (Kd.S_reads' ac.out).2.2 aa aG aH
       obtain rfl:au=bk:=(by injection bw)
       obtain⟨ce551,hce551,hMe551,aJ⟩:=Kd.S_get ac.out [] aa aG (by first|exact aH|exact zd|(have e_:=(Kd.S_reads' ac.out).1;omega))
       obtain⟨ve551_0,rfl,aq⟩:=hMe551;have hv551_0:=aJ 0 _ rfl
       rw [Nat.add_zero,show((Kd.slice 3 (Kd.int .i64))).sz=1 from rfl,Nat.mul_one] at hv551_0
       replace hv551_0:=sI (hv551_0.symm.trans aw)
       rw [hv551_0] at aq
       have HL551_0:=A0_ (show Kd.R (Kd.int .i64) 3 _ _ _ _ (rd_L1 ab aa) from aq)
       clear hv551_0 aq aJ hce551;have az:=A0_ ay;have bB:=A0_ ax;clear ay ax;replace aG:=eq_true aG;replace aH:=eq_true aH
       have ea_:=sI (ao.symm.trans aw)
       injection ea_ with ea_ en_ ec_
       subst ea_;subst ec_;clear en_
       have aN:0≤(ae:Int):=zd
       have aQ:ae<((rd_L1 ab aa).length:Int):=zd
       obtain⟨bU,bx,bC⟩:=tI (by repeat(first|(with_reducible exact az.out)|(with_reducible refine cA ?_ _)|(with_reducible refine cN ?_ _)|(with_reducible refine cD ?_)|exact az.out)) ae aN aQ
       cases bx
       replace aN:=eq_true aN;replace aQ:=eq_true aQ
       have bb:0≤((rd (rd_L1 ab aa) ae):Int):=zd
       have bc:((rd (rd_L1 ab aa) ae):Int)<((af.length:Int):Int):=zd
       obtain⟨am,ap,bd,be,gl16,cl16,HG16⟩:=Kd.R_form aj.out (by omega)
       (first|cases bd|(injection bd with ea_ en_ ec_;(first|subst ea_|(injection ea_ with ea_;subst ea_));subst ec_;clear en_))
       have GB16:=A0_ be;have GG16:=A0_ HG16;clear be gl16 HG16
       obtain⟨bK,bL⟩:=Kd.R_celln 0 aj.out ((rd (rd_L1 ab aa) ae):Int) bb bc
       replace bb:=eq_true bb;replace bc:=eq_true bc
       have HP17:=Kd.R_putg aj.out ((rd (rd_L1 ab aa) ae):Int) aa
       go_wp2_with (first|((with_reducible refine gS (t:=3) (p:=36) rfl ?_);refine store_event (t:=3) (p:=36) (v := ?vo_w18) (w1:=(wr.setCell ⟨am,((rd (rd_L1 ab aa) ae):Int).toNat,none⟩ (.int .i64 aa))) ?hg ?ho ?hn ?hr ?_;(case ho=>rfl);(case hg=>rfl);(case hn=>rfl);(case hr=>first|(go_simp;done)|(go_simp;rfl));intro w18 hw;have hg:wr.grownBy w18 (some am):=(by rw [hw];exact HP17.2);have hp_:Kd.R (Kd.int .i64) 3 w18 w.heap.size (fun _=>True) (.slice (some ⟨am,0,none⟩) af.length ap) aK:=(by rw [hw,bj.out];exact HP17.1);clear HP17;replace aj:=A0_ (hp_);replace ac:=A0_ (Kd.S_after (v:=(.slice (some ⟨am,0,none⟩) af.length ap)) (v1:=(.slice (some ⟨am,0,none⟩) af.length ap)) (ok:=(fun _=>True)) (zmS ac (fun _ hk=>⟨trivial,hk⟩)) hg (.inl rfl));replace HL550_0:=A0_ (Kd.R_after (v:=(.slice (some ⟨am,0,none⟩) af.length ap)) (v1:=(.slice (some ⟨am,0,none⟩) af.length ap)) (ok:=(fun k_=>nL k_ (some au) ab a8)) (zmR HL550_0 (fun _ hk=>⟨hk.2,hk.1⟩)) hg (.inl rfl));replace HL551_0:=A0_ (Kd.R_after (v:=(.slice (some ⟨am,0,none⟩) af.length ap)) (v1:=(.slice (some ⟨am,0,none⟩) af.length ap)) (ok:=(fun k_=>nL k_ (some au) ab a8)) (zmR HL551_0 (fun _ hk=>⟨hk.2,hk.1⟩)) hg (.inl rfl));replace HB:=A0_ ((by rw [hw];exact bS (HB.out) GB16.out:Below w.heap.size w w18));clear hg hw hp_))
       go_roundg k2
       case measure=>have:=aU.out;have:=aV.out;omega
       case rel=>exact⟨(aK),(wrap64 (ae+1)),zt,H',⟨by have:=aU.out;have:=aV.out;omega⟩,⟨zR_ aj⟩,⟨zmS ac (fun _ hk=>hk.2)⟩,⟨zB_ HB⟩⟩
      rw [if_neg av] at H;have bi:=dF av;clear av;have H':=A0_ H;clear H
      have ak:0≤(aa:Int):=zd
      have al:aa<(ab.length:Int):=zd
      obtain⟨au,a9,ba,aM,ao,ah,ai⟩:=at_L1 (Kd.S_reads' ac.out).2.2 aa ak al
      cases aM
      obtain⟨ce550,hce550,hMe550,an⟩:=Kd.S_get ac.out [] aa ak (by first|exact al|exact zd|(have e_:=(Kd.S_reads' ac.out).1;omega))
      obtain⟨ve550_0,rfl,ag⟩:=hMe550;have hv550_0:=an 0 _ rfl
      rw [Nat.add_zero,show((Kd.slice 3 (Kd.int .i64))).sz=1 from rfl,Nat.mul_one] at hv550_0
      replace hv550_0:=sI (hv550_0.symm.trans ao)
      rw [hv550_0] at ag
      have HL550_0:=A0_ (show Kd.R (Kd.int .i64) 3 _ _ _ _ (rd_L1 ab aa) from ag)
      clear hv550_0 ag an hce550;have aW:=A0_ ai;have aX:=A0_ ah;clear ai ah;replace ak:=eq_true ak;replace al:=eq_true al
      go_wp2
      go_roundg k2
      case measure=>have:=aU.out;have:=aV.out;omega
      case rel=>exact⟨(af),(wrap64 (aa+1)),zt,H',⟨by have:=aU.out;have:=aV.out;omega⟩,⟨zR_ aj⟩,⟨zS_ ac⟩,⟨zB_ HB⟩⟩
   rw [if_neg c8] at H;have a7:=dF c8;clear c8;obtain rfl:=sI H;obtain⟨bV,bW,bz⟩:=Kd.S_slice ac.out;subst bz
   go_wp2
   go_ret
   exact⟨_,by first|rfl|(simp [*] <;> rfl),zR_ aj,zB_ HB⟩
def s10_.l0:Nat→List Int→List Int→Int→Option (List Int)
  | 0,_,_,_=>none
  | k+1,x0,x3,x4=>if x4<(x0.length:Int) then (if 0≤x4 then (if 0≤(rd x0 x4) then (if (rd x0 x4)<(x3.length:Int) then (s10_.l0 k x0 (x3.set ((rd x0 x4):Int).toNat x4) (wrap64 (x4+1))) else (none)) else (none)) else (none)) else (some x3)
def s10_.f (k:Nat) (l0:List Int):Option (List Int):=if 0≤(l0.length:Int) then (if ((l0.length:Int):Int).toNat≤35184372088832 then (s10_.l0 k l0 (List.replicate ((l0.length:Int):Int).toNat 0) 0) else (none)) else (none)
theorem s10_.calls (k:Nat) (A0:Option Addr) (c0:Nat) (l0:List Int) (r:List Int) (w:World) (aw:Kd.C (Kd.int .i64) w A0 l0.length l0) (ax:l0.length≤c0) (h:s10_.f k l0=some r) :
    Calls Try.prog 93 #[.slice A0 l0.length c0] w fun e w' => ∃ v0_:Value,e = .returned (v0_)∧Kd.R (Kd.int .i64) 3 w' w.heap.size (fun _=>True) v0_ r∧Below w.heap.size w w':=by
 have aJ:=A0_ aw;have aV:=A0_ ax;clear aw ax
 have HB:=A0_ (Below.refl w.heap.size w)
 have H:(if 0≤(l0.length:Int) then (if ((l0.length:Int):Int).toNat≤35184372088832 then (s10_.l0 k l0 (List.replicate ((l0.length:Int):Int).toNat 0) 0) else (none)) else (none))=some r:=h
 clear h
 have c2:=zpc H;replace H:=zph H
 have az:=eq_true c2;have aA:=dT c2;clear c2
 have c3:=zpc H;replace H:=zph H
 have aC:=eq_true c3;have aD:=dT c3;clear c3
 obtain⟨an,af⟩ : ∃ y_:List Int,y_=(List.replicate ((l0.length:Int):Int).toNat 0):=⟨_,rfl⟩
 replace H:(s10_.l0 k l0 an 0)=some r:=zH af H
 have am:=A0_ af;clear af;have H':=A0_ H;clear H
 go_enter Try.func93,Try.ntmps93
 go_wp2_with (first|((with_reducible refine gD (N:=7) rfl ?_);refine Kd.R_make (Kd.int .i64) _ 3 rfl (N:=7) rfl 23 _ _ rfl (l0.length:Int) rfl rfl Try.underlying23 (.int .i64 0) 8 info3 rfl (by decide) (by omega) 0 (ok:=fun _=>True) (okp:=fun _=>True) rfl (fun _ hk=>hk) trivial (zd) (Nat.le_trans (Nat.mul_le_mul_right _ (zd:(l0.length:Int).toNat≤35184372088832)) (by omega)) (Below.refl _ _) (Nat.le_refl _) ?_;intro aE w4 ah hb hg_ hnew_;clear hg_ hnew_;(first|rw [← am.out] at ah|(simp only [Int.reduceToNat] at ah;rw [← am.out] at ah));have au:=A0_ (rL ah (bZ (zB_ HB)));replace HB:=zB HB hb;clear hb ah))
 go_loopg [4] k (fun kq v4 w' => ∃ (ab:List Int) (aa:Int),v4 = .int .i64 aa∧Aside0 (s10_.l0 kq l0 ab aa=some r)∧Aside0 (kq≤k)∧Aside0 (Kd.R (Kd.int .i64) 3 w' w.heap.size (fun _=>True) aE ab)∧Aside0 (Below w.heap.size w w'))
 case atStart=>exact⟨(an),(0),zt,H',⟨Nat.le_refl _⟩,⟨zR_ au⟩,⟨zB_ HB⟩⟩
 case round =>
  clear H';(try clear c2);(try clear az);(try clear aA);(try clear c3);(try clear aC);(try clear aD);obtain⟨ab,aa,rfl,HA,ay,ac,HB⟩:=hrel
  cases gk with
  | zero=>exact absurd HA.out (by simp [s10_.l0])
  | succ k1 =>
   have H:=HA.out;clear HA;simp only [s10_.l0] at H
   by_cases c6:aa<(l0.length:Int)
   ·rw [if_pos c6] at H
    have aG:=dT c6;clear c6
    have c7:=zpc H;replace H:=zph H
    have aQ:=dT c7;clear c7
    have c8:=zpc H;replace H:=zph H
    have aT:=dT c8;clear c8
    have c9:=zpc H;replace H:=zph H
    have aU:=dT c9;clear c9
    obtain⟨ai,ag⟩ : ∃ y_:List Int,y_=(ab.set ((rd l0 aa):Int).toNat aa):=⟨_,rfl⟩
    replace H:(s10_.l0 k1 l0 ai (wrap64 (aa+1)))=some r:=zH ag H
    have av:=A0_ ag;clear ag;have H':=A0_ H;clear H
    have aj:0≤(aa:Int):=zd
    have ak:aa<(l0.length:Int):=zd
    obtain⟨aN,aH,ae⟩:=tI aJ.out aa aj ak
    cases aH
    try replace ae:=(HB.out.cell (wL w _ ae)).trans ae
    replace aj:=eq_true aj;replace ak:=eq_true ak
    have ao:0≤((rd l0 aa):Int):=zd
    have ap:((rd l0 aa):Int)<((ab.length:Int):Int):=zd
    obtain⟨al,aI,aq,ar,gl10,cl10,HG10⟩:=Kd.R_form ac.out (by omega)
    (first|cases aq|(injection aq with ea_ en_ ec_;(first|subst ea_|(injection ea_ with ea_;subst ea_));subst ec_;clear en_))
    have GB10:=A0_ ar;have GG10:=A0_ HG10;clear ar gl10 HG10
    obtain⟨aK,aM⟩:=Kd.R_celln 0 ac.out ((rd l0 aa):Int) ao ap
    replace ao:=eq_true ao;replace ap:=eq_true ap
    have HP11:=Kd.R_putg ac.out ((rd l0 aa):Int) aa
    go_wp2_with (first|((with_reducible refine gS (t:=3) (p:=20) rfl ?_);refine store_event (t:=3) (p:=20) (v := ?vo_w12) (w1:=(wr.setCell ⟨al,((rd l0 aa):Int).toNat,none⟩ (.int .i64 aa))) ?hg ?ho ?hn ?hr ?_;(case ho=>rfl);(case hg=>rfl);(case hn=>rfl);(case hr=>first|(go_simp;done)|(go_simp;rfl));intro w12 hw;have hg:wr.grownBy w12 (some al):=(by rw [hw];exact HP11.2);have hp_:Kd.R (Kd.int .i64) 3 w12 w.heap.size (fun _=>True) (.slice (some ⟨al,0,none⟩) ab.length aI) ai:=(by rw [hw,av.out];exact HP11.1);clear HP11;replace ac:=A0_ (hp_);replace HB:=A0_ ((by rw [hw];exact bS (HB.out) GB10.out:Below w.heap.size w w12));clear hg hw hp_))
    go_roundg k1
    case measure=>have:=ay.out;omega
    case rel=>exact⟨(ai),(wrap64 (aa+1)),zt,H',⟨by have:=ay.out;omega⟩,⟨zR_ ac⟩,⟨zB_ HB⟩⟩
   rw [if_neg c6] at H;have aG:=dF c6;clear c6;obtain rfl:=sI H
   go_wp2
   go_ret
   exact⟨_,by first|rfl|(simp [*] <;> rfl),zR_ ac,zB_ HB⟩
def s16_.f (l0:List Int):Option (List Int):=(some (([]:List Int):List Int)).bind fun aa=>(if aa.length+l0.length<17592186044416 then (some (aa ++ l0)) else (none))
theorem s16_.calls (A0:Option Addr) (c0:Nat) (l0:List Int) (r:List Int) (w:World) (aj:Kd.C (Kd.int .i64) w A0 l0.length l0) (ak:l0.length≤c0) (h:s16_.f l0=some r) :
    Calls Try.prog 97 #[.slice A0 l0.length c0] w fun e w' => ∃ v0_:Value,e = .returned (v0_)∧Kd.R (Kd.int .i64) 3 w' w.heap.size (fun _=>True) v0_ r∧Below w.heap.size w w':=by
 have ao:=A0_ aj;have aq:=A0_ ak;clear aj ak
 have HB:=A0_ (Below.refl w.heap.size w)
 have H:((some (([]:List Int):List Int)).bind fun aa=>(if aa.length+l0.length<17592186044416 then (some (aa ++ l0)) else (none)))=some r:=h
 clear h
 obtain⟨aa,ab⟩ : ∃ y_:List Int,y_=(([]:List Int)):=⟨_,rfl⟩
 replace H:(if aa.length+l0.length<17592186044416 then (some (aa ++ l0)) else (none))=some r:=zH ab H
 have af:=A0_ ab;clear ab
 have c2:=zpc H;replace H:=zph H
 have al:=A0_ c2;clear c2
 obtain⟨am,ac⟩ : ∃ y_:List Int,y_=(aa ++ l0):=⟨_,rfl⟩
 replace H:(some am)=some r:=zH ac H
 have ah:=A0_ ac;clear ac;obtain rfl:=sI H
 go_enter Try.func97,Try.ntmps97
 go_wp2_with (first|((with_reducible refine gD (N:=3) rfl ?_);refine Kd.R_lit (Kd.int .i64) _ 3 ?hg (N:=3) ?hd (xs:=([]:List Int)) (inner := []) (ok:=fun _=>True) (okp:=fun _=>True) ?hr ?hp (fun _ hk=>hk) trivial (Below.refl _ _) (Nat.le_refl _) (by simp) ?_;(case hd=>rfl);(case hg=>rfl);(case hr=>first|(go_simp;done)|(go_simp;rfl));(case hp=>exact(Reps.none _ _));intro an w3 ae hb hg_ hnew_;clear hg_ hnew_;(first|rw [← af.out] at ae|(simp only [Int.reduceToNat] at ae;rw [← af.out] at ae));have ag:=A0_ (rL ae (bZ (zB_ HB)));replace HB:=zB HB hb;clear hb ae)|((with_reducible refine gB (b := .append) (xs := #[.tmp 3,.tmp 4]) rfl ?_);at_builtin;refine Kd.R_append_rows (Kd.int .i64) (w0:=w) w.heap.size rfl (.tmp 3) (.tmp 4) 23 3 (.int .i64 0) 8 rfl Try.underlying23 info3 rfl (by decide) (by omega) an aa l0 _ _ _ (fun _=>True) (fun _=>False) rfl rfl ?aO ?aR (fun _ _ h=>h) (fun _ h=>h.elim) ?aF ?aB ?aS ?aL ?_;(case aR=>exact zC ao HB);(case aB=>exact(zB_ HB));(case aF=>exact(fun _ _=>trivial));(case aO=>exact(zR_ ag));(case aS=>exact(bZ (zB_ HB)));(case aL=>have:=al.out;omega);intro ap w5 ho hb hg hat;rw [← ah.out] at ho;replace HB:=A0_ (hb);have ai:=A0_ (ho);clear ag ho hb hg hat))
 go_ret
 exact⟨_,by first|rfl|(simp [*] <;> rfl),zR_ ai,zB_ HB⟩
def s1c_.l0:Nat→List Int→Int→Int→List Int→List Int→Option (List Int)
  | 0,_,_,_,_,_=>none
  | k+1,x3,x4,x5,ab,aa=>if x5<(x3.length:Int) then (if 0≤x5 then (if x5<(aa.length:Int) then (if x5<(rd aa x5) then (if 0≤(rd aa x5) then (if (rd aa x5)<(x3.length:Int) then (s1c_.l0 k ((x3.set (x5:Int).toNat x4).set ((rd aa x5):Int).toNat x4) (wrap64 (x4+1)) (wrap64 (x5+1)) ab aa) else (none)) else (none)) else (s1c_.l0 k x3 x4 (wrap64 (x5+1)) ab aa)) else (none)) else (none)) else (some x3)
def s1c_.f (k:Nat) (ab:List Int) (aa:List Int):Option (List Int):=if 0≤(aa.length:Int) then (if ((aa.length:Int):Int).toNat≤35184372088832 then (s1c_.l0 k (List.replicate ((aa.length:Int):Int).toNat 0) 0 0 ab aa) else (none)) else (none)
theorem s1c_.calls (k:Nat) (al:Option Addr) (am:Nat) (af:List Int) (au:Option Addr) (an:Nat) (ac:List Int) (r:List Int) (w:World) (aI:Kd.C (Kd.int .i64) w al af.length af) (aJ:af.length≤am) (aK:Kd.C (Kd.int .i64) w au ac.length ac) (aM:ac.length≤an) (h:s1c_.f k af ac=some r) :
    Calls Try.prog 112 #[.agg #[.slice al af.length am,.slice au ac.length an]] w fun e w' => ∃ v0_:Value,e = .returned (v0_)∧Kd.R (Kd.int .i64) 3 w' w.heap.size (fun _=>True) v0_ r∧Below w.heap.size w w':=by
 have bX:=Try.underlying25;have bM:=A0_ aI;have bO:=A0_ aJ;clear aI aJ;have av:=A0_ aK;have bP:=A0_ aM;clear aK aM
 have HB:=A0_ (Below.refl w.heap.size w)
 have H:(if 0≤(ac.length:Int) then (if ((ac.length:Int):Int).toNat≤35184372088832 then (s1c_.l0 k (List.replicate ((ac.length:Int):Int).toNat 0) 0 0 af ac) else (none)) else (none))=some r:=h
 clear h
 have c2:=zpc H;replace H:=zph H
 have bh:=eq_true c2;have bi:=dT c2;clear c2
 have c3:=zpc H;replace H:=zph H
 have bj:=eq_true c3;have bk:=dT c3;clear c3
 obtain⟨aT,aw⟩ : ∃ y_:List Int,y_=(List.replicate ((ac.length:Int):Int).toNat 0):=⟨_,rfl⟩
 replace H:(s1c_.l0 k aT 0 0 af ac)=some r:=zH aw H
 have aN:=A0_ aw;clear aw;have H':=A0_ H;clear H
 go_enter Try.func112,Try.ntmps112
 go_wp2_with (first|((with_reducible refine gD (N:=1) rfl ?_);refine zX (N:=1) (cs := #[.slice al af.length am,.slice au ac.length an]) (t:=25) ?_;intro ax hg w4 hbox hb;have aa:=A0_ (hbox);have bQ:=zG hg HB;have bR:=zG hg HB;replace HB:=zB HB hb;clear hb hbox hg;have aU:=zc0 aa;have aV:=zc1 aa;have aW:=kF aa.out 0;have aX:=kF aa.out 1)|((with_reducible refine gD (N:=9) rfl ?_);refine Kd.R_make (Kd.int .i64) _ 3 rfl (N:=9) rfl 23 _ _ rfl (ac.length:Int) rfl rfl Try.underlying23 (.int .i64 0) 8 info3 rfl (by decide) (by omega) 0 (ok:=fun _=>True) (okp:=fun _=>True) rfl (fun _ hk=>hk) trivial (zd) (Nat.le_trans (Nat.mul_le_mul_right _ (zd:(ac.length:Int).toNat≤35184372088832)) (by omega)) (Below.refl _ _) (Nat.le_refl _) ?_;intro bl w6 aA hb hg_ hnew_;clear hg_ hnew_;(first|rw [← aN.out] at aA|(simp only [Int.reduceToNat] at aA;rw [← aN.out] at aA));have a9:=A0_ (rL aA (bZ (zB_ HB)));replace aa:=zK aa hb;replace HB:=zB HB hb;clear hb aA))
 go_loopg [4,5] k (fun kq v4 v5 w' => ∃ (ai:List Int) (ag:Int) (ab:Int),v4 = .int .i64 ag∧v5 = .int .i64 ab∧Aside0 (s1c_.l0 kq ai ag ab af ac=some r)∧Aside0 (kq≤k)∧Aside0 (Kd.R (Kd.int .i64) 3 w' w.heap.size (fun _=>True) bl ai)∧Aside0 (w'.heap[ax]? = some (.cells #[(.slice al af.length am),(.slice au ac.length an)] 25 (0,0)))∧Aside0 (Below w.heap.size w w'))
 case atStart=>exact⟨(aT),(0),(0),zt,zt,H',⟨Nat.le_refl _⟩,⟨zR_ a9⟩,⟨zK_ aa⟩,⟨zB_ HB⟩⟩
 case round =>
  clear H';(try clear c2);(try clear bh);(try clear bi);(try clear c3);(try clear bj);(try clear bk);(try clear aU);(try clear aV);(try clear aW);(try clear aX);obtain⟨ai,ag,ab,rfl,rfl,HA,aQ,ae,aa,HB⟩:=hrel
  cases gk with
  | zero=>exact absurd HA.out (by simp [s1c_.l0])
  | succ k1 =>
   have H:=HA.out;clear HA;simp only [s1c_.l0] at H
   by_cases c8:ab<(ai.length:Int)
   ·rw [if_pos c8] at H
    have bm:=dT c8;clear c8
    have c9:=zpc H;replace H:=zph H
    have bY:=dT c9;clear c9
    have be:=zpc H;replace H:=zph H
    have bU:=dT be;clear be
    by_cases ar:ab<(rd ac ab)
    ·rw [if_pos ar] at H
     have ba:=dT ar;clear ar
     obtain⟨aC,ay⟩ : ∃ y_:List Int,y_=(ai.set (ab:Int).toNat ag):=⟨_,rfl⟩
     replace H:(if 0≤(rd ac ab) then (if (rd ac ab)<(ai.length:Int) then (s1c_.l0 k1 (aC.set ((rd ac ab):Int).toNat ag) (wrap64 (ag+1)) (wrap64 (ab+1)) af ac) else (none)) else (none))=some r:=zH ay H
     have bb:=A0_ ay;clear ay
     have bf:=zpc H;replace H:=zph H
     have bV:=dT bf;clear bf
     have bg:=zpc H;replace H:=zph H
     have bW:=dT bg;clear bg
     obtain⟨aD,az⟩ : ∃ y_:List Int,y_=(aC.set ((rd ac ab):Int).toNat ag):=⟨_,rfl⟩
     replace H:(s1c_.l0 k1 aD (wrap64 (ag+1)) (wrap64 (ab+1)) af ac)=some r:=zH az H
     have bc:=A0_ az;clear az;have H':=A0_ H;clear H;obtain⟨b2,aY,bn⟩:=rS ae.out;subst bn;have br:=zc0 aa;have bu:=zc1 aa;have bv:=kF aa.out 0;have bw:=kF aa.out 1
     have aj:0≤(ab:Int):=zd
     have ak:ab<(ac.length:Int):=zd
     obtain⟨aq,aE,ah⟩:=tI av.out ab aj ak
     cases aE
     try replace ah:=(HB.out.cell (wL w _ ah)).trans ah
     replace aj:=eq_true aj;replace ak:=eq_true ak
     have aZ:0≤(ab:Int):=zd
     have a4:(ab:Int)<((ai.length:Int):Int):=zd
     obtain⟨ao,b3,a5,a6,gl12,cl12,HG12⟩:=Kd.R_form ae.out (by omega)
     (first|cases a5|(injection a5 with ea_ en_ ec_;(first|subst ea_|(injection ea_ with ea_;subst ea_));subst ec_;clear en_))
     have GB12:=A0_ a6;have GG12:=A0_ HG12;clear a6 gl12 HG12
     obtain⟨bI,bJ⟩:=Kd.R_celln 0 ae.out (ab:Int) aZ a4
     replace aZ:=eq_true aZ;replace a4:=eq_true a4
     have HP18:=Kd.R_putg ae.out (ab:Int) ag
     go_wp2_with (first|((with_reducible refine gS (t:=3) (p:=26) rfl ?_);refine store_event (t:=3) (p:=26) (v := ?vo_w19) (w1:=(wr.setCell ⟨ao,(ab:Int).toNat,none⟩ (.int .i64 ag))) ?hg ?ho ?hn ?hr ?_;(case ho=>rfl);(case hg=>rfl);(case hn=>rfl);(case hr=>first|(go_simp;done)|(go_simp;rfl));intro w19 hw;have hg:wr.grownBy w19 (some ao):=(by rw [hw];exact HP18.2);have hp_:Kd.R (Kd.int .i64) 3 w19 w.heap.size (fun _=>True) (.slice (some ⟨ao,0,none⟩) ai.length aY) aC:=(by rw [hw,bb.out];exact HP18.1);clear HP18;replace aa:=A0_ (blk_grown (g:=ax) (o := .cells #[.slice al af.length am,.slice (some aq) ac.length an] 25 (0,0)) (zK_ aa) hg (Kd.R_ne ae.out aa.out (by decide)));replace ae:=A0_ (hp_);replace HB:=A0_ ((by rw [hw];exact bS (HB.out) GB12.out:Below w.heap.size w w19));clear hg hw hp_;have bx:=zc0 aa;have bz:=zc1 aa;have bB:=kF aa.out 0;have bC:=kF aa.out 1;have aG:0≤(ab:Int):=zd;have aH:ab<(ac.length:Int):=zd;obtain⟨bd,bo,ap⟩:=tI av.out ab aG aH;obtain rfl:aq=bd:=(by injection bo);try replace ap:=(HB.out.cell (wL w _ ap)).trans ap;replace aG:=eq_true aG;replace aH:=eq_true aH;have a7:0≤((rd ac ab):Int):=zd;have a8:((rd ac ab):Int)<((ai.length:Int):Int):=zd;obtain⟨bK,bL⟩:=Kd.R_celln 0 ae.out ((rd ac ab):Int) a7 a8;replace a7:=eq_true a7;replace a8:=eq_true a8;obtain⟨hy21_,hz21_⟩:=Kd.R_celln 0 ae.out ((rd ac ab):Int) (zd) (zd);have HP21:=Kd.R_putg ae.out ((rd ac ab):Int) ag)|((with_reducible refine gS (t:=3) (p:=34) rfl ?_);refine store_event (t:=3) (p:=34) (v := ?vo_w22) (w1:=(w19.setCell ⟨ao,((rd ac ab):Int).toNat,none⟩ (.int .i64 ag))) ?hg ?ho ?hn ?hr ?_;(case ho=>rfl);(case hg=>rfl);(case hn=>rfl);(case hr=>first|(go_simp;done)|(go_simp;rfl));intro w22 hw;have hg:w19.grownBy w22 (some ao):=(by rw [hw];exact HP21.2);have hp_:Kd.R (Kd.int .i64) 3 w22 w.heap.size (fun _=>True) (.slice (some ⟨ao,0,none⟩) ai.length aY) aD:=(by rw [hw,bc.out];exact HP21.1);clear HP21;replace aa:=A0_ (blk_grown (g:=ax) (o := .cells #[.slice al af.length am,.slice (some aq) ac.length an] 25 (0,0)) (zK_ aa) hg (Kd.R_ne ae.out aa.out (by decide)));replace ae:=A0_ (hp_);replace HB:=A0_ ((by rw [hw];exact bS (HB.out) GB12.out:Below w.heap.size w w22));clear hg hw hp_))
     go_roundg k1
     case measure=>have:=aQ.out;omega
     case rel=>exact⟨(aD),(wrap64 (ag+1)),(wrap64 (ab+1)),zt,zt,H',⟨by have:=aQ.out;omega⟩,⟨zR_ ae⟩,⟨zK_ aa⟩,⟨zB_ HB⟩⟩
    rw [if_neg ar] at H;have ba:=dF ar;clear ar;have H':=A0_ H;clear H;obtain⟨b4,b5,bp⟩:=rS ae.out;subst bp;have bE:=zc0 aa;have bF:=zc1 aa;have bG:=kF aa.out 0;have bH:=kF aa.out 1
    have aj:0≤(ab:Int):=zd
    have ak:ab<(ac.length:Int):=zd
    obtain⟨aq,aE,ah⟩:=tI av.out ab aj ak
    cases aE
    try replace ah:=(HB.out.cell (wL w _ ah)).trans ah
    replace aj:=eq_true aj;replace ak:=eq_true ak
    go_wp2
    go_roundg k1
    case measure=>have:=aQ.out;omega
    case rel=>exact⟨(ai),(ag),(wrap64 (ab+1)),zt,zt,H',⟨by have:=aQ.out;omega⟩,⟨zR_ ae⟩,⟨zK_ aa⟩,⟨zB_ HB⟩⟩
   rw [if_neg c8] at H;have bm:=dF c8;clear c8;obtain rfl:=sI H;obtain⟨b6,b7,bq⟩:=rS ae.out;subst bq
   go_wp2
   go_ret
   exact⟨_,by first|rfl|(simp [*] <;> rfl),zR_ ae,zB_ HB⟩
end Go.Proofs.Ytmegggomhjgehaa.PFnCoverConj
