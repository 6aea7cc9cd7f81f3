import Derived.StillTailTactics
import Derived.Test.YtjebcgbmlbemcaaGreatDoorPFnExecuteContractx0
namespace Go.Proofs.YtjebcgbmlbemcaaGreatDoor.PFnExecuteContract
open Go.RowKit Go.Proofs.YtjebcgbmlbemcaaGreatDoorW.PrintWords Go.Proofs.YtjebcgbmlbemcaaGreatDoorW.PrintLast Go.Proofs.YtjebcgbmlbemcaaGreatDoorW.PrintMore
set_option maxHeartbeats 8000000
set_option maxRecDepth 100000
attribute [local go_sem] max2_int min2_int max_two min_two max_three min_three max_four min_four
set_option linter.unusedVariables false
set_option linter.unusedSimpArgs false
mutual
def i9_.l0:Nat→List Int→List (List Int)→List Bool→Int→Int→Option ((List (List Int)))
  | 0,_,_,_,_,_=>none
  | k+1,x0,x3,x4,ab,aa=>if aa<ab then (i9_.l1 k x0 x3 x4 (([]:List Int)) aa ab aa) else (some x3)
def i9_.l1:Nat→List Int→List (List Int)→List Bool→List Int→Int→Int→Int→Option ((List (List Int)))
  | 0,_,_,_,_,_,_,_=>none
  | k+1,x0,x3,x4,x6,x7,aa,ab=>if 0≤x7 then (if x7<(x4.length:Int) then (if rdOf false x4 x7=true then (if (x6.length:Int)>0 then (if x3.length<5864062014805 then (i9_.l0 k x0 (x3 ++ [x6]) x4 aa (wrap64 (ab+1))) else (none)) else (i9_.l0 k x0 x3 x4 aa (wrap64 (ab+1)))) else (if x6.length<17592186044416 then (if x7<(x0.length:Int) then (i9_.l1 k x0 x3 (x4.set (x7:Int).toNat true) (x6 ++ [x7]) (rd x0 x7) aa ab) else (none)) else (none))) else (none)) else (none)
end
def i9_.f (k:Nat) (l0:List Int):Option ((List (List Int))):=if 0≤(l0.length:Int) then (if ((l0.length:Int):Int).toNat≤281474976710656 then (i9_.l0 k l0 (([]:List (List Int))) (List.replicate ((l0.length:Int):Int).toNat false) (l0.length:Int) 0) else (none)) else (none)
theorem i9_.calls (k:Nat) (A0:Option Addr) (c0:Nat) (l0:List Int) (r:List (List Int)) (w:World) (bu:Kd.C (Kd.int .i64) w A0 l0.length l0) (bv:l0.length≤c0) (h:i9_.f k l0=some r) :
    Calls Tryz.prog 81 #[.slice A0 l0.length c0] w fun e w' => ∃ v0_:Value,e = .returned (v0_)∧Kd.S (Kd.slice 3 (Kd.int .i64)) 23 w' w.heap.size (fun _=>True) v0_ r∧Below w.heap.size w w':=by
 have bL:=A0_ bu;have cg:=A0_ bv;clear bu bv
 have HB:=A0_ (Below.refl w.heap.size w)
 have H:(if 0≤(l0.length:Int) then (if ((l0.length:Int):Int).toNat≤281474976710656 then (i9_.l0 k l0 (([]:List (List Int))) (List.replicate ((l0.length:Int):Int).toNat false) (l0.length:Int) 0) else (none)) else (none))=some r:=h
 clear h
 obtain⟨aJ,ax⟩ : ∃ y_:List (List Int),y_=(([]:List (List Int))):=⟨_,rfl⟩
 replace H:(if 0≤(l0.length:Int) then (if ((l0.length:Int):Int).toNat≤281474976710656 then (i9_.l0 k l0 aJ (List.replicate ((l0.length:Int):Int).toNat false) (l0.length:Int) 0) else (none)) else (none))=some r:=zH ax H
 have aQ:=A0_ ax;clear ax
 have c2:=zpc H;replace H:=zph H
 have aX:=eq_true c2;have aY:=dT c2;clear c2
 have c3:=zpc H;replace H:=zph H
 have aZ:=eq_true c3;have a4:=dT c3;clear c3
 obtain⟨a5,ay⟩ : ∃ y_:List Bool,y_=(List.replicate ((l0.length:Int):Int).toNat false):=⟨_,rfl⟩
 replace H:(i9_.l0 k l0 aJ a5 (l0.length:Int) 0)=some r:=zH ay H
 have aT:=A0_ ay;clear ay;have H':=A0_ H;clear H
 go_enter Tryz.func81,Tryz.ntmps81
 go_wp2_with (first|((with_reducible refine gD (N:=8) rfl ?_);refine Kd.S_lit (Kd.slice 3 (Kd.int .i64)) _ 23 ?hg (N:=8) ?hd (xs:=([]:List (List Int))) (inner := []) (ok:=fun _=>True) (okp:=fun _=>True) ?hr ?hp (fun _ hk=>hk) trivial (Below.refl _ _) (Nat.le_refl _) (by simp) ?_;(case hd=>rfl);(case hg=>rfl);(case hr=>first|(go_simp;done)|(go_simp;rfl));(case hp=>exact(Reps.none _ _));intro bV w4 aH hb hg_ hnew_;clear hg_ hnew_;(first|rw [← aQ.out] at aH|(simp only [Int.reduceToNat] at aH;rw [← aQ.out] at aH));have az:=A0_ (Kd.S_lower aH (bZ (zB_ HB)));replace HB:=zB HB hb;clear hb aH)|((with_reducible refine gD (N:=11) rfl ?_);refine Kd.R_make Kd.bool _ 4 rfl (N:=11) rfl 97 _ _ rfl (l0.length:Int) rfl rfl Tryz.underlying97 (.bool false) 1 info4 rfl (by decide) (by omega) false (ok:=fun _=>True) (okp:=fun _=>True) rfl (fun _ hk=>hk) trivial (zd) (Nat.le_trans (Nat.mul_le_mul_right _ (zd:(l0.length:Int).toNat≤281474976710656)) (by omega)) (Below.refl _ _) (Nat.le_refl _) ?_;intro a6 w6 aI hb hg_ hnew_;clear hg_ hnew_;(first|rw [← aT.out] at aI|(simp only [Int.reduceToNat] at aI;rw [← aT.out] at aI));replace az:=zS az hb;have bh:=A0_ (rL aI (bZ (zB_ HB)));replace HB:=zB HB hb;clear hb aI))
 go_loopg [3,14] k (fun kq v3 v14 w' => ∃ (ai:List (List Int)) (ap:List Bool) (ac:Int),v14 = .int .i64 ac∧Aside0 (i9_.l0 kq l0 ai ap (l0.length:Int) ac=some r)∧Aside0 (kq≤k)∧Aside0 (Kd.S (Kd.slice 3 (Kd.int .i64)) 23 w' w.heap.size (fun _=>True) v3 ai)∧Aside0 (Kd.R Kd.bool 4 w' w.heap.size (fun _=>True) a6 ap)∧Aside0 (Below w.heap.size w w'))
 case atStart=>exact⟨(aJ),(a5),(0),zt,H',⟨Nat.le_refl _⟩,⟨zS_ az⟩,⟨zR_ bh⟩,⟨zB_ HB⟩⟩
 case round =>
  clear H';(try clear c2);(try clear aX);(try clear aY);(try clear c3);(try clear aZ);(try clear a4);obtain⟨ai,ap,ac,rfl,HA,au,ah,ab,HB⟩:=hrel
  cases gk with
  | zero=>exact absurd HA.out (by simp [i9_.l0])
  | succ k1 =>
   have H:=HA.out;clear HA;simp only [i9_.l0] at H
   by_cases c8:ac<(l0.length:Int)
   ·rw [if_pos c8] at H
    have a7:=dT c8;clear c8
    obtain⟨a8,aA⟩ : ∃ y_:List Int,y_=(([]:List Int)):=⟨_,rfl⟩
    replace H:(i9_.l1 k1 l0 ai ap a8 ac (l0.length:Int) ac)=some r:=zH aA H
    have aU:=A0_ aA;clear aA;have H':=A0_ H;clear H
    go_wp2_with (first|((with_reducible refine gD (N:=17) rfl ?_);refine Kd.R_lit (Kd.int .i64) _ 3 ?hg (N:=17) ?hd (xs:=([]:List Int)) (inner := []) (ok:=fun _=>True) (okp:=fun _=>True) ?hr ?hp (fun _ hk=>hk) trivial (Below.refl _ _) (Nat.le_refl _) (by simp) ?_;(case hd=>rfl);(case hg=>rfl);(case hr=>first|(go_simp;done)|(go_simp;rfl));(case hp=>exact(Reps.none _ _));intro bW w9 an hb hg_ hnew_;clear hg_ hnew_;(first|rw [← aU.out] at an|(simp only [Int.reduceToNat] at an;rw [← aU.out] at an));replace ah:=A0_ (Kd.S_elder' (zS_ ah) (Kd.R_base an) hb);replace ab:=zR ab hb;have bi:=A0_ (rL an (bZ (zB_ HB)));replace HB:=zB HB hb;clear hb an))
    go_loopg [6,7] k1 (fun kq v6 v7 w' => ∃ (ag:List Bool) (af:List Int) (aa:Int),v7 = .int .i64 aa∧Aside0 (i9_.l1 kq l0 ai ag af aa (l0.length:Int) ac=some r)∧Aside0 (kq≤k1)∧Aside0 (Kd.S (Kd.slice 3 (Kd.int .i64)) 23 w' w.heap.size (fun k_=>nO k_ v6) u3 ai)∧Aside0 (Kd.R Kd.bool 4 w' w.heap.size (fun _=>True) a6 ag)∧Aside0 (Kd.R (Kd.int .i64) 3 w' w.heap.size (fun _=>True) v6 af)∧Aside0 (Below w.heap.size w w'))
    case atStart=>exact⟨(ap),(a8),(ac),zt,H',⟨Nat.le_refl _⟩,⟨zmS ah (fun _ hk=>hk.2)⟩,⟨zR_ ab⟩,⟨zR_ bi⟩,⟨zB_ HB⟩⟩
    case round =>
     clear H';(try clear c2);(try clear aX);(try clear aY);(try clear c3);(try clear aZ);(try clear a4);(try clear c8);(try clear a7);obtain⟨ag,af,aa,rfl,HA,av,ah,ab,am,HB⟩:=hrel
     cases gk with
     | zero=>exact absurd HA.out (by simp [i9_.l1])
     | succ k2 =>
      have H:=HA.out;clear HA;simp only [i9_.l1] at H
      have bx:=zpc H;replace H:=zph H
      have bP:=dT bx;clear bx
      have bz:=zpc H;replace H:=zph H
      have bQ:=dT bz;clear bz
      obtain⟨bq13,hbq13⟩ : ∃ b_:Bool,b_=(rdOf false ag aa):=⟨_,rfl⟩
      replace H:(if bq13=true then (if (af.length:Int)>0 then (if ai.length<5864062014805 then (i9_.l0 k2 l0 (ai ++ [af]) ag (l0.length:Int) (wrap64 (ac+1))) else (none)) else (i9_.l0 k2 l0 ai ag (l0.length:Int) (wrap64 (ac+1)))) else (if af.length<17592186044416 then (if aa<(l0.length:Int) then (i9_.l1 k2 l0 ai (ag.set (aa:Int).toNat true) (af ++ [aa]) (rd l0 aa) (l0.length:Int) ac) else (none)) else (none)))=some r:=by rw [← hbq13] at H;exact H
      have Nbq13:=A0_ hbq13;clear hbq13
      by_cases aV:bq13=true
      ·subst aV
       rw [if_pos rfl] at H
       by_cases aw:(af.length:Int)>0
       ·rw [if_pos aw] at H
        have bj:decide (0<(af.length:Int))=true:=dT aw
        have bk:decide (0<af.length)=true:=dT (by omega)
        clear aw
        have bB:=zpc H;replace H:=zph H
        have bl:=A0_ bB;clear bB
        obtain⟨a9,aC⟩ : ∃ y_:List (List Int),y_=(ai ++ [af]):=⟨_,rfl⟩
        replace H:(i9_.l0 k2 l0 a9 ag (l0.length:Int) (wrap64 (ac+1)))=some r:=zH aC H
        have bm:=A0_ aC;clear aC;have H':=A0_ H;clear H;obtain⟨bX,bY,bF⟩:=rS ab.out;subst bF
        have ak:0≤(aa:Int):=zd
        have al:aa<(ag.length:Int):=zd
        obtain⟨aW,aq,aj⟩:=Kd.at_bool (rR ab.out).2.2 aa ak al
        (try rw [← Nbq13.out] at aj)
        cases aq
        replace ak:=eq_true ak;replace al:=eq_true al;obtain⟨ba,bb,bG⟩:=rS am.out;subst bG
        go_wp2_with (first|((with_reducible refine gB (b := .append) (xs := #[.tmp 38,.tmp 40]) rfl ?_);at_builtin;refine Kd.S_append (Kd.slice 3 (Kd.int .i64)) (w0:=w) w.heap.size rfl (.tmp 38) (.tmp 40) 68 23 (.slice none 0 0) 24 rfl Tryz.underlying68 info23 rfl (by decide) (by omega) u3 ai af [.slice ba af.length bb] (fun _=>True) (fun k_=>some k_=(.slice ba af.length bb:Value).ownBlock) rfl rfl ?aP (fun k_ hk_=>((rM (ok':=fun k_=>((fun _=>True)) k_∧nO k_ u3) (Kd.R_apart' (am.out) (Kd.S_typed ah.out) (by decide)) (fun k_ hk=>⟨trivial,hk.2⟩))).1 k_ hk_.symm) ?aF ?aO ?aB ?aS ?aL ?_;(case aP=>exact Kd.M_row (rM (Kd.R_tight rfl (rM (ok':=fun k_=>((fun _=>True)) k_∧nO k_ u3) (Kd.R_apart' (am.out) (Kd.S_typed ah.out) (by decide)) (fun k_ hk=>⟨trivial,hk.2⟩))) (fun _ h_=>h_)));(case aB=>exact(zB_ HB));(case aF=>exact(fun _ _=>trivial));(case aO=>exact(zmS ah (fun k_ hk=>⟨trivial,fun e_=>hk e_⟩)));(case aS=>exact(bZ (zB_ HB)));(case aL=>have:=bl.out;omega);intro b5 w19 ho hb hg hat;rw [← bm.out] at ho;replace ab:=A0_ (Kd.R_over' (zR_ ab) (Kd.S_typed (zS_ ah)) (by decide) hg);replace HB:=A0_ (hb);have bn:=A0_ (ho);clear ah am ho hb hg hat))
        go_roundg k2
        case measure=>have:=au.out;have:=av.out;omega
        case rel=>exact⟨(a9),(ag),(wrap64 (ac+1)),zt,H',⟨by have:=au.out;have:=av.out;omega⟩,⟨zS_ bn⟩,⟨zR_ ab⟩,⟨zB_ HB⟩⟩
       rw [if_neg aw] at H
       have bj:decide (0<(af.length:Int))=false:=dF aw
       have bk:decide (0<af.length)=false:=dF (by omega)
       clear aw;have H':=A0_ H;clear H;obtain⟨b6,b7,bH⟩:=rS ab.out;subst bH
       have ak:0≤(aa:Int):=zd
       have al:aa<(ag.length:Int):=zd
       obtain⟨aW,aq,aj⟩:=Kd.at_bool (rR ab.out).2.2 aa ak al
       (try rw [← Nbq13.out] at aj)
       cases aq
       replace ak:=eq_true ak;replace al:=eq_true al;obtain⟨b8,b9,bI⟩:=rS am.out;subst bI
       go_wp2
       go_roundg k2
       case measure=>have:=au.out;have:=av.out;omega
       case rel=>exact⟨(ai),(ag),(wrap64 (ac+1)),zt,H',⟨by have:=au.out;have:=av.out;omega⟩,⟨zmS ah (fun _ hk=>trivial)⟩,⟨zR_ ab⟩,⟨zB_ HB⟩⟩
      replace aV:=Bool.eq_false_iff.mpr aV;subst aV
      rw [if_neg (show ¬ (false=true) by decide)] at H
      obtain⟨aD,aE⟩ : ∃ y_:List Bool,y_=(ag.set (aa:Int).toNat true):=⟨_,rfl⟩
      replace H:(if af.length<17592186044416 then (if aa<(l0.length:Int) then (i9_.l1 k2 l0 ai aD (af ++ [aa]) (rd l0 aa) (l0.length:Int) ac) else (none)) else (none))=some r:=zH aE H
      have bo:=A0_ aE;clear aE
      have bC:=zpc H;replace H:=zph H
      have bp:=A0_ bC;clear bC
      obtain⟨bc,aG⟩ : ∃ y_:List Int,y_=(af ++ [aa]):=⟨_,rfl⟩
      replace H:(if aa<(l0.length:Int) then (i9_.l1 k2 l0 ai aD bc (rd l0 aa) (l0.length:Int) ac) else (none))=some r:=zH aG H
      have bq:=A0_ aG;clear aG
      have bE:=zpc H;replace H:=zph H
      have bR:=dT bE;clear bE;have H':=A0_ H;clear H;obtain⟨cd,aK,bJ⟩:=rS ab.out;subst bJ
      have ak:0≤(aa:Int):=zd
      have al:aa<(ag.length:Int):=zd
      obtain⟨aW,aq,aj⟩:=Kd.at_bool (rR ab.out).2.2 aa ak al
      (try rw [← Nbq13.out] at aj)
      cases aq
      replace ak:=eq_true ak;replace al:=eq_true al
      have bd:0≤(aa:Int):=zd
      have be:(aa:Int)<((ag.length:Int):Int):=zd
      obtain⟨ar,ce,bf,bg,gl22,cl22,HG22⟩:=Kd.R_form ab.out (by omega)
      (first|cases bf|(injection bf with ea_ en_ ec_;(first|subst ea_|(injection ea_ with ea_;subst ea_));subst ec_;clear en_))
      have GB22:=A0_ bg;have GG22:=A0_ HG22;clear bg gl22 HG22
      (first|simp only [add_plain] at aj|skip)
      obtain⟨bM,bO⟩:=Kd.R_celln false ab.out (aa:Int) bd be
      replace bd:=eq_true bd;replace be:=eq_true be
      have HP26:=Kd.R_putg ab.out (aa:Int) true
      go_wp2_with (first|((with_reducible refine gS (t:=4) (p:=30) rfl ?_);refine store_event (t:=4) (p:=30) (v := ?vo_w27) (w1:=(wr.setCell ⟨ar,(aa:Int).toNat,none⟩ (.bool true))) ?hg ?ho ?hn ?hr ?_;(case ho=>rfl);(case hg=>rfl);(case hn=>rfl);(case hr=>first|(go_simp;done)|(go_simp;rfl));intro w27 hw;have hg:wr.grownBy w27 (some ar):=(by rw [hw];exact HP26.2);have hp_:Kd.R Kd.bool 4 w27 w.heap.size (fun _=>True) (.slice (some ⟨ar,0,none⟩) ag.length aK) aD:=(by rw [hw,bo.out];exact HP26.1);clear HP26;replace ah:=A0_ (Kd.S_over' (v:=(.slice (some ⟨ar,0,none⟩) ag.length aK)) (zS_ ah) (Kd.R_typed ab.out) (by decide) hg);replace am:=A0_ (Kd.R_over' (v:=(.slice (some ⟨ar,0,none⟩) ag.length aK)) (zR_ am) (Kd.R_typed ab.out) (by decide) hg);replace ab:=A0_ (hp_);replace HB:=A0_ ((by rw [hw];exact bS (HB.out) GB22.out:Below w.heap.size w w27));clear hg hw hp_)|((with_reducible refine gB (b := .append) (xs := #[.tmp 31,.tmp 33]) rfl ?_);at_builtin;refine Kd.R_append (Kd.int .i64) (w0:=w) w.heap.size rfl (.tmp 31) (.tmp 33) 23 3 (.int .i64 0) 8 rfl Tryz.underlying23 info3 rfl (by decide) (by omega) u6 af aa [.int .i64 aa] (fun _=>True) (fun _=>False) rfl rfl ?aP (fun _ hk=>hk.elim) ?aF ?aO ?aB ?aS ?aL ?_;(case aP=>exact rfl);(case aB=>exact(zB_ HB));(case aF=>exact(fun _ _=>trivial));(case aO=>exact(zR_ am));(case aS=>exact(bZ (zB_ HB)));(case aL=>have:=bp.out;omega);intro cf w28 ho hb hg hat;rw [← bq.out] at ho;replace ah:=A0_ (Kd.S_after (ok:=(fun _=>True)) (zmS ah (fun _ hk=>⟨trivial,hk⟩)) hg hat);replace ab:=A0_ (Kd.R_over' (zR_ ab) (Kd.R_typed (zR_ am)) (by decide) hg);replace HB:=A0_ (hb);have br:=A0_ (ho);clear am ho hb hg hat;have aM:0≤(aa:Int):=zd;have aN:aa<(l0.length:Int):=zd;obtain⟨bU,bK,ao⟩:=tI bL.out aa aM aN;cases bK;try replace ao:=(HB.out.cell (wL w _ ao)).trans ao;replace aM:=eq_true aM;replace aN:=eq_true aN))
      go_roundg k2
      case measure=>have:=au.out;have:=av.out;omega
      case rel=>exact⟨(aD),(bc),(rd l0 aa),zt,H',⟨by have:=au.out;have:=av.out;omega⟩,⟨zmS ah (fun _ hk=>hk.2)⟩,⟨zR_ ab⟩,⟨zR_ br⟩,⟨zB_ HB⟩⟩
   rw [if_neg c8] at H;have a7:=dF c8;clear c8;obtain rfl:=sI H
   go_wp2
   go_ret
   exact⟨_,by first|rfl|(simp [*] <;> rfl),zS_ ah,zB_ HB⟩
theorem sn_.rb1 (A : Option Addr) (c : Nat) (l : List Bool) (gc : Nat) (d : Int) (w : World) (hl : Kd.C Kd.bool w A l.length l) (hc : l.length ≤ c)
    (hb:w.heap[gc]? = some (.cells #[.slice A l.length c] 97 (0,0))) (h0:0≤d) (h1:d<(l.length:Int)) :
    Calls Tryz.prog 85 #[.int .i64 d,.pointer (some ⟨gc,0,none⟩)] w fun e w'=>e = .returned (.bool (rdOf false l d))∧Below w.heap.size w w':=by
 have HB:=A0_ (Below.refl w.heap.size w)
 have hz:w.cell? ⟨gc,0,none⟩=some (.slice A l.length c):=(kC hb 0).trans rfl
 obtain⟨ad,ea,hx⟩:=Kd.at_bool hl d h0 h1;subst ea
 have HL:=A0_ hl;have HB0:=A0_ hb;clear hl hb
 have p0:=eq_true h0;have p1:=eq_true h1
 go_enter Tryz.func85,Tryz.ntmps85
 go_wp2
 go_ret
 exact⟨rfl,by repeat(first|exact HB.out|apply bA|apply bN|apply bD)⟩
/-- Is one of the first i points among those that are told? -/
def sn_.hasB (l:List Int) (b:List Bool) (i:Nat):Bool:=(l.take i).any (fun x=>rdOf false b x)
theorem sn_.hasB_succ (l:List Int) (b:List Bool) (i:Nat) (h:i<l.length):sn_.hasB l b (i+1)=(sn_.hasB l b i || rdOf false b (rd l (i:Int))):=by
  unfold sn_.hasB
  rw [List.take_succ_eq_append_getElem h,List.any_append]
  simp [rd,List.getD_eq_getElem?_getD,h]
theorem sn_.hasB_up (l:List Int) (b:List Bool) {i j:Nat} (h:i≤j) (q:sn_.hasB l b i=true):sn_.hasB l b j=true:=by
  unfold sn_.hasB at *
  obtain⟨x,hx,e⟩:=List.any_eq_true.1 q
  exact List.any_eq_true.2 ⟨x,(List.take_subset_take_left l h) hx,e⟩
theorem sn_.ix1 (A0 : Option Addr) (c0 : Nat) (l : List Int) (A : Option Addr) (c : Nat) (b : List Bool) (gc : Nat) (w : World) (hl : Kd.C (Kd.int .i64) w A0 l.length l) (ac : l.length ≤ c0) (hb : Kd.C Kd.bool w A b.length b) (hc : b.length ≤ c)
    (hbx:w.heap[gc]? = some (.cells #[.slice A b.length c] 97 (0,0))) (hall : ∀ i,0≤i→i<(l.length:Int)→0≤rd l i∧rd l i<(b.length:Int)) :
    Calls Tryz.prog 117 #[.slice A0 l.length c0,.func (.func 85) #[] #[.pointer (some ⟨gc,0,none⟩)]] w fun e w'=>(∃ r:Int,e = .returned (.int .i64 r)∧(0≤r↔sn_.hasB l b l.length=true))∧Below w.heap.size w w':=by
 have HB:=A0_ (Below.refl w.heap.size w)
 have HL:=A0_ hl;have HA:=A0_ hall;have HBX:=A0_ hbx;have HBB:=A0_ hb;have HC:=A0_ hc;have ag:=A0_ ac
 clear hl hall hbx hb hc ac
 go_enter Tryz.func117,Tryz.ntmps117
 go_wp2
 go_loopw [8] (fun v8 wr => ∃ (i:Int),v8 = .int .i64 i∧Aside0 (0≤i∧i≤(l.length:Int)∧sn_.hasB l b i.toNat=false)∧Aside0 (Below w.heap.size w wr)) (fun i _=>l.length - (intOf i).toNat)
 case atStart=>exact⟨0,rfl,⟨by omega,by omega,by simp [sn_.hasB]⟩,⟨by repeat(first|exact HB.out|apply bA|apply bN|apply bD)⟩⟩
 case round =>
  clear HB;obtain⟨i,rfl,HI,HB⟩:=hrel;obtain⟨aa,af,ab⟩:=HI.out
  by_cases c1:i<(l.length:Int)
  · obtain⟨ad,ea,hx⟩:=tI (cB HL.out HB.out) i aa c1
    subst ea;have hr:=HA.out i aa c1
    have hR:=sn_.rb1 A c b gc (rd l i) wr (cB HBB.out HB.out) HC.out (kB HBX.out HB.out) hr.1 hr.2
    have HR:=A0_ hR;clear hR
    have p0:=eq_true aa;have p1:=eq_true c1
    have hs:=sn_.hasB_succ l b i.toNat (by omega)
    rw [Int.toNat_of_nonneg aa,ab,Bool.false_or] at hs
    have HS:=A0_ hs;clear hs
    have HLt:=A0_ c1
    have HW:=A0_ (show wrap64 (i+1)=i+1 by have:=HLt.out;have:=HI.out;have:=HL.out.2.1;unfold wrap64;omega)
    clear aa af ab hr c1
    cases q:rdOf false b (rd l i)
    · rw [q] at HR HS
      go_wp2_with (go_at_call 85;refine HR.out.mono ?_;rintro e w' ⟨rfl,hb'⟩)
      go_roundw
      case rel=>exact⟨i+1,by rw [HW.out],⟨by have:=HI.out;have:=HLt.out;omega,by have:=HI.out;have:=HLt.out;omega,by rw [show(i+1).toNat=i.toNat+1 by have:=HI.out;omega];exact HS.out⟩,⟨by repeat(first|exact bT HB.out hb'|apply bA|apply bN|apply bD)⟩⟩
      case measure=>simp only [intOf,HW.out];have:=HI.out;have:=HLt.out;omega
    rw [q] at HR HS
    go_wp2_with (go_at_call 85;refine HR.out.mono ?_;rintro e w' ⟨rfl,hb'⟩)
    go_ret
    exact⟨⟨i,rfl,⟨fun _=>sn_.hasB_up l b (by have:=HLt.out;have:=HI.out;omega) HS.out,fun _=>HI.out.1⟩⟩,by repeat(first|exact bT HB.out hb'|apply bA|apply bN|apply bD)⟩
  have p1:=eq_false c1
  have e1:i.toNat=l.length:=by omega
  rw [e1] at ab;clear aa af c1
  go_wp2
  go_ret
  exact⟨⟨-1,rfl,⟨fun h_=>absurd h_ (by decide),fun h_=>by rw [ab] at h_;cases h_⟩⟩,by repeat(first|exact HB.out|apply bA|apply bN|apply bD)⟩
theorem sn_.cf1 (A0 : Option Addr) (c0 : Nat) (l : List Int) (A : Option Addr) (c : Nat) (b : List Bool) (gc : Nat) (w : World) (hl : Kd.C (Kd.int .i64) w A0 l.length l) (aa : l.length ≤ c0) (hb : Kd.C Kd.bool w A b.length b) (hc : b.length ≤ c)
    (hbx:w.heap[gc]? = some (.cells #[.slice A b.length c] 97 (0,0))) (hall : ∀ i,0≤i→i<(l.length:Int)→0≤rd l i∧rd l i<(b.length:Int)) :
    Calls Tryz.prog 84 #[.slice A0 l.length c0,.func (.func 85) #[] #[.pointer (some ⟨gc,0,none⟩)]] w fun e w'=>e = .returned (.bool (sn_.hasB l b l.length))∧Below w.heap.size w w':=by
 have HI:=A0_ (sn_.ix1 A0 c0 l A c b gc w hl aa hb hc hbx hall)
 clear hl aa hb hc hbx hall
 go_enter Tryz.func84,Tryz.ntmps84
 go_wp2_with (go_at_call 117;refine HI.out.mono ?_;rintro e w' ⟨⟨r,rfl,hr⟩,hb'⟩)
 go_ret
 refine⟨?_,by repeat(first|exact hb'|apply bA|apply bN|apply bD)⟩
 cases q:sn_.hasB l b l.length
 · rw [q] at hr
   have : ¬ 0≤r:=fun h_=>by have:=hr.1 h_;cases this
   simp [this]
 have:0≤r:=hr.2 q
 simp [this]
def sn_.f (l0:List Int) (l1:List Bool):Option Bool:=if ∀ i:Fin l0.length,0≤rd l0 (i.val:Int)∧rd l0 (i.val:Int)<(l1.length:Int) then some (sn_.hasB l0 l1 l0.length) else none
theorem sn_.calls (A0:Option Addr) (c0:Nat) (l0:List Int) (A1:Option Addr) (c1:Nat) (l1:List Bool) (gb:Nat) (r:Bool) (w:World) (aa:Kd.C (Kd.int .i64) w A0 l0.length l0) (ab:l0.length≤c0) (ac:Kd.C Kd.bool w A1 l1.length l1) (af:l1.length≤c1) (hb:w.heap[gb]? = some (.cells #[.slice A1 l1.length c1] 97 (0,0))) (h:sn_.f l0 l1=some r) :
    Calls Tryz.prog 84 #[.slice A0 l0.length c0,.func (.func 85) #[] #[.pointer (some ⟨gb,0,none⟩)]] w fun e w'=>e = .returned (.bool r)∧Below w.heap.size w w':=by
  unfold sn_.f at h
  split at h
  · rename_i q
    obtain rfl:=sI h
    exact sn_.cf1 A0 c0 l0 A1 c1 l1 gb w aa ab ac af hb (fun i h0 h1=>by have:=q ⟨i.toNat,by omega⟩;rw [show((i.toNat:Nat):Int)=i by omega] at this;exact this)
  cases h
end Go.Proofs.YtjebcgbmlbemcaaGreatDoor.PFnExecuteContract
