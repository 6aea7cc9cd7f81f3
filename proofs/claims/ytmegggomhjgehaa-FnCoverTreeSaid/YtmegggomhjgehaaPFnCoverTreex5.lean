import Derived.Test.YtmegggomhjgehaaPFnCoverTreex3
import Derived.Test.YtmegggomhjgehaaPFnCoverTreex4
namespace Go.Proofs.Ytmegggomhjgehaa.PFnCoverTree
open Go.RowKit Go.Proofs.YtmegggomhjgehaaW.PrintWords Go.Proofs.YtmegggomhjgehaaW.PrintLast Go.Proofs.YtmegggomhjgehaaW.PrintMore
set_option maxHeartbeats 8000000
set_option maxRecDepth 100000
attribute [local go_sem] max2_int min2_int max_two min_two max_three min_three max_four min_four
set_option linter.unusedVariables false
set_option linter.unusedSimpArgs false
def ig_.l0:Nat→List Int→List Int→Int→Int→List Int→List Int→Option (List Int)
  | 0,_,_,_,_,_,_=>none
  | k+1,x3,ac,af,aa,ae,ab=>if aa<af then (if 0≤aa then (if aa<(ac.length:Int) then (if 0≤(rd ac aa) then (if (rd ac aa)<(ab.length:Int) then (if (rd ac aa)<(x3.length:Int) then (if 0≤(rd ab (rd ac aa)) then (if (rd ab (rd ac aa))<(x3.length:Int) then (ig_.l0 k ((x3.set ((rd ac aa):Int).toNat aa).set ((rd ab (rd ac aa)):Int).toNat aa) ac af (wrap64 (aa+1)) ae ab) else (none)) else (none)) else (none)) else (none)) else (none)) else (none)) else (none)) else (some x3)
def ig_.f (k:Nat) (ab:List Int) (aa:List Int):Option (List Int):=if 0≤(aa.length:Int) then (if ((aa.length:Int):Int).toNat≤35184372088832 then ((ih_.f k ab aa).bind fun ac=>(ig_.l0 k (List.replicate ((aa.length:Int):Int).toNat 0) ac (ac.length:Int) 0 ab aa)) else (none)) else (none)
theorem ig_.calls (k:Nat) (ak:Option Addr) (al:Nat) (af:List Int) (aq:Option Addr) (am:Nat) (ac:List Int) (r:List Int) (w:World) (aI:Kd.C (Kd.int .i64) w ak af.length af) (aJ:af.length≤al) (aK:Kd.C (Kd.int .i64) w aq ac.length ac) (aM:ac.length≤am) (h:ig_.f k af ac=some r) :
    Calls Try.prog 104 #[.agg #[.slice ak af.length al,.slice aq ac.length am]] w fun e w' => ∃ v0_:Value,e = .returned (v0_)∧Kd.R (Kd.int .i64) 3 w' w.heap.size (fun _=>True) v0_ r∧Below w.heap.size w w':=by
 have b9:=Try.underlying25;have bh:=A0_ aI;have bi:=A0_ aJ;clear aI aJ;have aN:=A0_ aK;have bj:=A0_ aM;clear aK aM
 have HB:=A0_ (Below.refl w.heap.size w)
 have H:(if 0≤(ac.length:Int) then (if ((ac.length:Int):Int).toNat≤35184372088832 then ((ih_.f k af ac).bind fun ab=>(ig_.l0 k (List.replicate ((ac.length:Int):Int).toNat 0) ab (ab.length:Int) 0 af ac)) else (none)) else (none))=some r:=h
 clear h
 have c2:=zpc H;replace H:=zph H
 have bE:=eq_true c2;have bF:=dT c2;clear c2
 have c3:=zpc H;replace H:=zph H
 have bG:=eq_true c3;have bH:=dT c3;clear c3
 obtain⟨aW,au⟩ : ∃ y_:List Int,y_=(List.replicate ((ac.length:Int):Int).toNat 0):=⟨_,rfl⟩
 replace H:((ih_.f k af ac).bind fun ab=>(ig_.l0 k aW ab (ab.length:Int) 0 af ac))=some r:=zH au H
 have aQ:=A0_ au;clear au;obtain⟨ab,A4,H⟩:=zbind H;have H':=A0_ H;clear H
 go_enter Try.func104,Try.ntmps104
 go_wp2_with (first|((with_reducible refine gD (N:=1) rfl ?_);refine zX (N:=1) (cs := #[.slice ak af.length al,.slice aq ac.length am]) (t:=25) ?_;intro av hg w5 hbox hb;have ae:=A0_ (hbox);have bX:=zG hg HB;have bY:=zG hg HB;replace HB:=zB HB hb;clear hb hbox hg;have aX:=zc0 ae;have aY:=zc1 ae;have aZ:=kF ae.out 0;have a3:=kF ae.out 1)|((with_reducible refine gD (N:=9) rfl ?_);refine Kd.R_make (Kd.int .i64) _ 3 rfl (N:=9) rfl 23 _ _ rfl (ac.length:Int) rfl rfl Try.underlying23 (.int .i64 0) 8 info3 rfl (by decide) (by omega) 0 (ok:=fun _=>True) (okp:=fun _=>True) rfl (fun _ hk=>hk) trivial (zd) (Nat.le_trans (Nat.mul_le_mul_right _ (zd:(ac.length:Int).toNat≤35184372088832)) (by omega)) (Below.refl _ _) (Nat.le_refl _) ?_;intro a4 w7 az hb hg_ hnew_;clear hg_ hnew_;(first|rw [← aQ.out] at az|(simp only [Int.reduceToNat] at az;rw [← aQ.out] at az));have ap:=A0_ (rL az (bZ (zB_ HB)));replace ae:=zK ae hb;replace HB:=zB HB hb;clear hb az;have a5:=zc0 ae;have a6:=zc1 ae;have a7:=kF ae.out 0;have a8:=kF ae.out 1)|((with_reducible refine gC (f:=105) rfl ?_);refine zJ (some 11) Try.func105 #[.agg #[.slice ak af.length al,.slice aq ac.length am]] ?_;(with_reducible refine(ih_.calls k _ _ af _ _ ac ab _ ?bk ?bl ?bm ?bn A4.out).mono ?_);(case bk=>exact zC bh HB);(case bl=>exact bi.out);(case bm=>exact zC aN HB);(case bn=>exact bj.out);rintro e w10 ⟨ca,rfl,a9,hb⟩;refine⟨_,rfl,?_⟩;have aT:=A0_ (rL (Kd.R_new' a9 (rX (zR_ ap))) (bZ (zB_ HB)));replace ap:=A0_ (Kd.R_elder' (zR_ ap) (Kd.R_base a9) hb);replace ae:=zK ae hb;replace HB:=zB HB hb;(try clear hb);(try clear a9);obtain⟨ba,aw,bI⟩:=rS aT.out;subst bI))
 go_loopg [13] k (fun kq v13 w' => ∃ (ag:List Int) (aa:Int),v13 = .int .i64 aa∧Aside0 (ig_.l0 kq ag ab (ab.length:Int) aa af ac=some r)∧Aside0 (kq≤k)∧Aside0 (Kd.R (Kd.int .i64) 3 w' w.heap.size (fun k_=>some k_≠((.slice ba ab.length aw):Value).ownBlock) a4 ag)∧Aside0 (Kd.R (Kd.int .i64) 3 w' w.heap.size (fun k_=>some k_≠(a4:Value).ownBlock) (.slice ba ab.length aw) ab)∧Aside0 (w'.heap[av]? = some (.cells #[(.slice ak af.length al),(.slice aq ac.length am)] 25 (0,0)))∧Aside0 (Below w.heap.size w w'))
 case atStart=>exact⟨(aW),(0),zt,H',⟨Nat.le_refl _⟩,⟨zmR ap (fun _ hk=>hk.2)⟩,⟨zmR aT (fun _ hk=>hk.2)⟩,⟨zK_ ae⟩,⟨zB_ HB⟩⟩
 case round =>
  clear H';(try clear c2);(try clear bE);(try clear bF);(try clear c3);(try clear bG);(try clear bH);(try clear aX);(try clear aY);(try clear a5);(try clear a6);(try clear aZ);(try clear a3);(try clear a7);(try clear a8);obtain⟨ag,aa,rfl,HA,br,ah,aj,ae,HB⟩:=hrel
  cases gk with
  | zero=>exact absurd HA.out (by simp [ig_.l0])
  | succ k1 =>
   have H:=HA.out;clear HA;simp only [ig_.l0] at H
   by_cases ar:aa<(ab.length:Int)
   ·rw [if_pos ar] at H
    have bo:=dT ar;clear ar
    have bu:=zpc H;replace H:=zph H
    have b2:=dT bu;clear bu
    have bv:=zpc H;replace H:=zph H
    have b3:=dT bv;clear bv
    have bw:=zpc H;replace H:=zph H
    have b4:=dT bw;clear bw
    have bx:=zpc H;replace H:=zph H
    have b5:=dT bx;clear bx
    have bz:=zpc H;replace H:=zph H
    have b6:=dT bz;clear bz
    obtain⟨aA,ax⟩ : ∃ y_:List Int,y_=(ag.set ((rd ab aa):Int).toNat aa):=⟨_,rfl⟩
    replace H:(if 0≤(rd ac (rd ab aa)) then (if (rd ac (rd ab aa))<(ag.length:Int) then (ig_.l0 k1 (aA.set ((rd ac (rd ab aa)):Int).toNat aa) ab (ab.length:Int) (wrap64 (aa+1)) af ac) else (none)) else (none))=some r:=zH ax H
    have bp:=A0_ ax;clear ax
    have bB:=zpc H;replace H:=zph H
    have b7:=dT bB;clear bB
    have bC:=zpc H;replace H:=zph H
    have b8:=dT bC;clear bC
    obtain⟨aC,ay⟩ : ∃ y_:List Int,y_=(aA.set ((rd ac (rd ab aa)):Int).toNat aa):=⟨_,rfl⟩
    replace H:(ig_.l0 k1 aC ab (ab.length:Int) (wrap64 (aa+1)) af ac)=some r:=zH ay H
    have bq:=A0_ ay;clear ay;have H':=A0_ H;clear H
    have aD:0≤(aa:Int):=zd
    have aE:aa<(ab.length:Int):=zd
    obtain⟨aU,bJ,bL⟩:=tI (rR aj.out).2.2 aa aD aE
    cases bJ
    replace aD:=eq_true aD;replace aE:=eq_true aE;have bM:=zc0 ae;have bO:=zc1 ae;have bP:=kF ae.out 0;have bQ:=kF ae.out 1
    have aG:0≤((rd ab aa):Int):=zd
    have aH:(rd ab aa)<(ac.length:Int):=zd
    obtain⟨aV,bK,an⟩:=tI aN.out (rd ab aa) aG aH
    cases bK
    try replace an:=(HB.out.cell (wL w _ an)).trans an
    replace aG:=eq_true aG;replace aH:=eq_true aH
    have bb:0≤((rd ab aa):Int):=zd
    have bc:((rd ab aa):Int)<((ag.length:Int):Int):=zd
    obtain⟨ai,ao,bd,be,gl18,cl18,HG18⟩:=Kd.R_form ah.out (by omega)
    (first|cases bd|(injection bd with ea_ en_ ec_;(first|subst ea_|(injection ea_ with ea_;subst ea_));subst ec_;clear en_))
    have GB18:=A0_ be;have GG18:=A0_ HG18;clear be gl18 HG18
    obtain⟨bR,bU⟩:=Kd.R_celln 0 ah.out ((rd ab aa):Int) bb bc
    replace bb:=eq_true bb;replace bc:=eq_true bc
    have HP23:=Kd.R_putg ah.out ((rd ab aa):Int) aa
    go_wp2_with (first|((with_reducible refine gS (t:=3) (p:=28) rfl ?_);refine store_event (t:=3) (p:=28) (v := ?vo_w24) (w1:=(wr.setCell ⟨ai,((rd ab aa):Int).toNat,none⟩ (.int .i64 aa))) ?hg ?ho ?hn ?hr ?_;(case ho=>rfl);(case hg=>rfl);(case hn=>rfl);(case hr=>first|(go_simp;done)|(go_simp;rfl));intro w24 hw;have hg:wr.grownBy w24 (some ai):=(by rw [hw];exact HP23.2);have hp_:Kd.R (Kd.int .i64) 3 w24 w.heap.size (fun k_=>some k_≠(.slice (some aU) ab.length aw:Value).ownBlock) (.slice (some ⟨ai,0,none⟩) ag.length ao) aA:=(by rw [hw,bp.out];exact HP23.1);clear HP23;replace aj:=A0_ (Kd.R_after (v:=(.slice (some ⟨ai,0,none⟩) ag.length ao)) (v1:=(.slice (some ⟨ai,0,none⟩) ag.length ao)) (ok:=(fun _=>True)) (zmR aj (fun _ hk=>⟨trivial,hk⟩)) hg (.inl rfl));replace ae:=A0_ (blk_grown (g:=av) (o := .cells #[.slice ak af.length al,.slice (some aV) ac.length am] 25 (0,0)) (zK_ ae) hg (Kd.R_ne ah.out ae.out (by decide)));replace ah:=A0_ (hp_);replace HB:=A0_ ((by rw [hw];exact bS (HB.out) GB18.out:Below w.heap.size w w24));clear hg hw hp_;have bf:0≤((rd ac (rd ab aa)):Int):=zd;have bg:((rd ac (rd ab aa)):Int)<((ag.length:Int):Int):=zd;obtain⟨bV,bW⟩:=Kd.R_celln 0 ah.out ((rd ac (rd ab aa)):Int) bf bg;replace bf:=eq_true bf;replace bg:=eq_true bg;obtain⟨hy25_,hz25_⟩:=Kd.R_celln 0 ah.out ((rd ac (rd ab aa)):Int) (zd) (zd);have HP25:=Kd.R_putg ah.out ((rd ac (rd ab aa)):Int) aa)|((with_reducible refine gS (t:=3) (p:=29) rfl ?_);refine store_event (t:=3) (p:=29) (v := ?vo_w26) (w1:=(w24.setCell ⟨ai,((rd ac (rd ab aa)):Int).toNat,none⟩ (.int .i64 aa))) ?hg ?ho ?hn ?hr ?_;(case ho=>rfl);(case hg=>rfl);(case hn=>rfl);(case hr=>first|(go_simp;done)|(go_simp;rfl));intro w26 hw;have hg:w24.grownBy w26 (some ai):=(by rw [hw];exact HP25.2);have hp_:Kd.R (Kd.int .i64) 3 w26 w.heap.size (fun k_=>some k_≠(.slice (some aU) ab.length aw:Value).ownBlock) (.slice (some ⟨ai,0,none⟩) ag.length ao) aC:=(by rw [hw,bq.out];exact HP25.1);clear HP25;replace aj:=A0_ (Kd.R_after (v:=(.slice (some ⟨ai,0,none⟩) ag.length ao)) (v1:=(.slice (some ⟨ai,0,none⟩) ag.length ao)) (ok:=(fun _=>True)) (zR_ aj) hg (.inl rfl));replace ae:=A0_ (blk_grown (g:=av) (o := .cells #[.slice ak af.length al,.slice (some aV) ac.length am] 25 (0,0)) (zK_ ae) hg (Kd.R_ne ah.out ae.out (by decide)));replace ah:=A0_ (hp_);replace HB:=A0_ ((by rw [hw];exact bS (HB.out) GB18.out:Below w.heap.size w w26));clear hg hw hp_))
    go_roundg k1
    case measure=>have:=br.out;omega
    case rel=>exact⟨(aC),(wrap64 (aa+1)),zt,H',⟨by have:=br.out;omega⟩,⟨zR_ ah⟩,⟨zmR aj (fun _ hk=>hk.2)⟩,⟨zK_ ae⟩,⟨zB_ HB⟩⟩
   rw [if_neg ar] at H;have bo:=dF ar;clear ar;obtain rfl:=sI H
   go_wp2
   go_ret
   exact⟨_,by first|rfl|(simp [*] <;> rfl),zmR ah (fun _ hk=>trivial),zB_ HB⟩
def i9_.f (k:Nat) (ac:List Int) (ab:List Int) (l1:List (List Int)) (a2:Int):Option (List Int):=(ig_.f k ac ab).bind fun aa=>(if 0≤a2 then (if a2<(aa.length:Int) then (if 0≤(rd aa a2) then (if (rd aa a2)<(l1.length:Int) then (if a2<(ab.length:Int) then (if a2>(rd ab a2) then ((ia_.f k (rd_L1 l1 (rd aa a2))).bind fun ae=>(some ae)) else (some (rd_L1 l1 (rd aa a2)))) else (none)) else (none)) else (none)) else (none)) else (none))
theorem i9_.calls (k:Nat) (ay:Option Addr) (az:Nat) (ag:List Int) (aA:Option Addr) (aC:Nat) (ac:List Int) (P1_:Nat→Prop) (A1:Option Addr) (c1:Nat) (l1:List (List Int)) (a2:Int) (r:List Int) (w:World) (aW:Kd.C (Kd.int .i64) w ay ag.length ag) (aX:ag.length≤az) (aY:Kd.C (Kd.int .i64) w aA ac.length ac) (aZ:ac.length≤aC) (bB:Kd.V (Kd.slice 3 (Kd.int .i64)) 23 w w.heap.size (fun k_=>P1_ k_) (.slice A1 l1.length c1) l1) (h:i9_.f k ag ac l1 a2=some r) :
    Calls Try.prog 62 #[.agg #[.slice ay ag.length az,.slice aA ac.length aC],.slice A1 l1.length c1,.int .i64 a2] w fun e w' => ∃ v0_:Value,e = .returned (v0_)∧Kd.V (Kd.int .i64) 3 w' w.heap.size (fun k_=>(P1_ k_∨w.heap.size≤k_)) v0_ r∧Below w.heap.size w w':=by
 have bE:=Try.underlying25;have a3:=A0_ aW;have a4:=A0_ aX;clear aW aX;have aE:=A0_ aY;have a5:=A0_ aZ;clear aY aZ
 have ah:=A0_ (show Kd.V (Kd.slice 3 (Kd.int .i64)) 23 w w.heap.size (fun k_=>(P1_ k_∨w.heap.size≤k_)) (.slice A1 l1.length c1) l1 from Kd.V_mono bB (fun k_ hk => .inl hk))
 have HB:=A0_ (Below.refl w.heap.size w)
 have H:((ig_.f k ag ac).bind fun ab=>(if 0≤a2 then (if a2<(ab.length:Int) then (if 0≤(rd ab a2) then (if (rd ab a2)<(l1.length:Int) then (if a2<(ac.length:Int) then (if a2>(rd ac a2) then ((ia_.f k (rd_L1 l1 (rd ab a2))).bind fun aQ=>(some aQ)) else (some (rd_L1 l1 (rd ab a2)))) else (none)) else (none)) else (none)) else (none)) else (none)))=some r:=h
 clear h;obtain⟨ab,A4,H⟩:=zbind H
 have c5:=zpc H;replace H:=zph H
 have bF:=dT c5;clear c5
 have c6:=zpc H;replace H:=zph H
 have bG:=dT c6;clear c6
 have c7:=zpc H;replace H:=zph H
 have bH:=dT c7;clear c7
 have c8:=zpc H;replace H:=zph H
 have bI:=dT c8;clear c8
 have c9:=zpc H;replace H:=zph H
 have bJ:=dT c9;clear c9
 by_cases aG:a2>(rd ac a2)
 ·rw [if_pos aG] at H
  have a7:decide ((rd ac a2)<a2)=true:=dT aG
  clear aG;obtain⟨aQ,bC,H⟩:=zbind H;obtain rfl:=sI H
  go_enter Try.func62,Try.ntmps62
  go_wp2_with (first|((with_reducible refine gD (N:=3) rfl ?_);refine zX (N:=3) (cs := #[.slice ay ag.length az,.slice aA ac.length aC]) (t:=25) ?_;intro aI hg w12 hbox hb;replace ah:=A0_ (Kd.V_below (Kd.V_elderB (by(with_reducible repeat(first|apply Kd.V_alloc|apply Kd.V_drewN|apply Kd.V_drew));exact ah.out) aI (Nat.le_of_eq hg.symm)) hb);have aa:=A0_ (hbox);have a8:=zG hg HB;have a9:=zG hg HB;replace HB:=zB HB hb;clear hb hbox hg;have bh:=zc0 aa;have bi:=zc1 aa;have bj:=kF aa.out 0;have bk:=kF aa.out 1)|((with_reducible refine gC (f:=104) rfl ?_);refine zJ (some 10) Try.func104 #[.agg #[.slice ay ag.length az,.slice aA ac.length aC]] ?_;(with_reducible refine(ig_.calls k _ _ ag _ _ ac ab _ ?aw ?ax ?aJ ?aK A4.out).mono ?_);(case aw=>exact zC a3 HB);(case ax=>exact a4.out);(case aJ=>exact zC aE HB);(case aK=>exact a5.out);rintro e w14 ⟨be,rfl,ak,hb⟩;refine⟨_,rfl,?_⟩;replace ah:=A0_ (Kd.V_elder' (by(with_reducible repeat(first|apply Kd.V_alloc|apply Kd.V_drewN|apply Kd.V_drew));exact ah.out) (Kd.R_base ak) hb);have aj:=A0_ (rL (Kd.R_newM (M:=fun k_=>(w.heap.size≤k_)) ak (bZ (zB_ HB)) (fun k_ h_=>h_)) (bZ (zB_ HB)));replace aa:=zK aa hb;replace HB:=zB HB hb;(try clear hb);(try clear ak);obtain⟨bK,bL,bf⟩:=rS aj.out;subst bf;have aq:0≤(a2:Int):=zd;have ar:a2<(ab.length:Int):=zd;obtain⟨ba,aT,a6⟩:=tI (rR aj.out).2.2 a2 aq ar;cases aT;replace aq:=eq_true aq;replace ar:=eq_true ar;have an:0≤((rd ab a2):Int):=zd;have ao:(rd ab a2)<(l1.length:Int):=zd;obtain⟨bb,aM,aN,aU,aD,al,am⟩:=at_L1 (Kd.V_reads' ah.out).2.2 (rd ab a2) an ao;cases aU;obtain⟨ce214,hce214,hMe214,ap⟩:=Kd.V_get ah.out [] (rd ab a2) an (by first|exact ao|exact zd|(have e_:=(Kd.V_reads' ah.out).1;omega));obtain⟨ua214_0,uc214_0,rfl,ul214_0,ae⟩:=Kd.FK_slice_open hMe214;have hv214_0:=ap 0 _ rfl;rw [Nat.add_zero,show((Kd.slice 3 (Kd.int .i64))).sz=1 from rfl,Nat.mul_one] at hv214_0;replace hv214_0:=sI (hv214_0.symm.trans aD);injection hv214_0 with hva_ hvn_ hvc_;rw [hva_] at ae;rw [hvc_] at ul214_0;have HL214_0:=A0_ (show Kd.V (Kd.int .i64) 3 _ w.heap.size _ _ (rd_L1 l1 (rd ab a2)) from Kd.V_mk ul214_0 ae);clear hva_ hvn_ hvc_ ae ul214_0 ap hce214;have ai:=A0_ am;have aH:=A0_ al;clear am al;replace an:=eq_true an;replace ao:=eq_true ao;have bl:=zc0 aa;have bm:=zc1 aa;have bn:=kF aa.out 0;have bo:=kF aa.out 1;have au:0≤(a2:Int):=zd;have av:a2<(ac.length:Int):=zd;obtain⟨bc,aV,af⟩:=tI aE.out a2 au av;cases aV;try replace af:=(HB.out.cell (wL w _ af)).trans af;replace au:=eq_true au;replace av:=eq_true av)|((with_reducible refine gC (f:=60) rfl ?_);refine zJ (some 24) Try.func60 #[.slice aM (rd_L1 l1 (rd ab a2)).length aN] ?_;(with_reducible refine(ia_.calls k _ _ (rd_L1 l1 (rd ab a2)) aQ _ ?aw ?ax bC.out).mono ?_);(case aw=>repeat(first|exact(by repeat(first|(with_reducible exact ai.out)|(with_reducible refine cA ?_ _)|(with_reducible refine cN ?_ _)|(with_reducible refine cD ?_)|exact ai.out))|(with_reducible refine cA ?_ _)|(with_reducible refine cN ?_ _)|(with_reducible refine cD ?_)));(case ax=>exact aH.out);rintro e w17 ⟨bM,rfl,ak,hb⟩;refine⟨_,rfl,?_⟩;replace ah:=A0_ (Kd.V_elder' (by(with_reducible repeat(first|apply Kd.V_alloc|apply Kd.V_drewN|apply Kd.V_drew));exact ah.out) (Kd.R_base ak) hb);replace HL214_0:=A0_ (Kd.V_elder' (by(with_reducible repeat(first|apply Kd.V_alloc|apply Kd.V_drewN|apply Kd.V_drew));exact HL214_0.out) (Kd.R_base ak) hb);have bd:=A0_ (rL (Kd.R_new' (Kd.R_newM (M:=fun k_=>(w.heap.size≤k_)) ak (bZ (zB_ HB)) (fun k_ h_=>h_)) (rX (zR_ aj))) (bZ (zB_ HB)));replace aj:=A0_ (Kd.R_elder' (zR_ aj) (Kd.R_base ak) hb);replace aa:=zK aa hb;replace ai:=A0_ (cB (by repeat(first|(with_reducible exact ai.out)|(with_reducible refine cA ?_ _)|(with_reducible refine cN ?_ _)|(with_reducible refine cD ?_)|exact ai.out)) hb);replace HB:=zB HB hb;(try clear hb);(try clear ak)))
  go_ret
  exact⟨_,by first|rfl|(simp [*] <;> rfl),Kd.V_mono (Kd.R_V (zmR bd (fun _ hk=>hk.1.1))) (fun k_ hk=>by first|exact⟨(.inr (hk.1)),hk.2⟩|exact(.inr (hk))),zB_ HB⟩
 rw [if_neg aG] at H
 have a7:decide ((rd ac a2)<a2)=false:=dF aG
 clear aG;obtain rfl:=sI H
 go_enter Try.func62,Try.ntmps62
 go_wp2_with (first|((with_reducible refine gD (N:=3) rfl ?_);refine zX (N:=3) (cs := #[.slice ay ag.length az,.slice aA ac.length aC]) (t:=25) ?_;intro aI hg w18 hbox hb;replace ah:=A0_ (Kd.V_below (Kd.V_elderB (by(with_reducible repeat(first|apply Kd.V_alloc|apply Kd.V_drewN|apply Kd.V_drew));exact ah.out) aI (Nat.le_of_eq hg.symm)) hb);have aa:=A0_ (hbox);have a8:=zG hg HB;have a9:=zG hg HB;replace HB:=zB HB hb;clear hb hbox hg;have bp:=zc0 aa;have bq:=zc1 aa;have br:=kF aa.out 0;have bu:=kF aa.out 1)|((with_reducible refine gC (f:=104) rfl ?_);refine zJ (some 10) Try.func104 #[.agg #[.slice ay ag.length az,.slice aA ac.length aC]] ?_;(with_reducible refine(ig_.calls k _ _ ag _ _ ac ab _ ?aw ?ax ?aJ ?aK A4.out).mono ?_);(case aw=>exact zC a3 HB);(case ax=>exact a4.out);(case aJ=>exact zC aE HB);(case aK=>exact a5.out);rintro e w20 ⟨be,rfl,ak,hb⟩;refine⟨_,rfl,?_⟩;replace ah:=A0_ (Kd.V_elder' (by(with_reducible repeat(first|apply Kd.V_alloc|apply Kd.V_drewN|apply Kd.V_drew));exact ah.out) (Kd.R_base ak) hb);have aj:=A0_ (rL (Kd.R_newM (M:=fun k_=>(w.heap.size≤k_)) ak (bZ (zB_ HB)) (fun k_ h_=>h_)) (bZ (zB_ HB)));replace aa:=zK aa hb;replace HB:=zB HB hb;(try clear hb);(try clear ak);obtain⟨bO,bP,bg⟩:=rS aj.out;subst bg;have aq:0≤(a2:Int):=zd;have ar:a2<(ab.length:Int):=zd;obtain⟨ba,aT,a6⟩:=tI (rR aj.out).2.2 a2 aq ar;cases aT;replace aq:=eq_true aq;replace ar:=eq_true ar;have an:0≤((rd ab a2):Int):=zd;have ao:(rd ab a2)<(l1.length:Int):=zd;obtain⟨bb,aM,aN,aU,aD,al,am⟩:=at_L1 (Kd.V_reads' ah.out).2.2 (rd ab a2) an ao;cases aU;obtain⟨ce214,hce214,hMe214,ap⟩:=Kd.V_get ah.out [] (rd ab a2) an (by first|exact ao|exact zd|(have e_:=(Kd.V_reads' ah.out).1;omega));obtain⟨ua214_0,uc214_0,rfl,ul214_0,ae⟩:=Kd.FK_slice_open hMe214;have hv214_0:=ap 0 _ rfl;rw [Nat.add_zero,show((Kd.slice 3 (Kd.int .i64))).sz=1 from rfl,Nat.mul_one] at hv214_0;replace hv214_0:=sI (hv214_0.symm.trans aD);injection hv214_0 with hva_ hvn_ hvc_;rw [hva_] at ae;rw [hvc_] at ul214_0;have HL214_0:=A0_ (show Kd.V (Kd.int .i64) 3 _ w.heap.size _ _ (rd_L1 l1 (rd ab a2)) from Kd.V_mk ul214_0 ae);clear hva_ hvn_ hvc_ ae ul214_0 ap hce214;have ai:=A0_ am;have aH:=A0_ al;clear am al;replace an:=eq_true an;replace ao:=eq_true ao;have bv:=zc0 aa;have bw:=zc1 aa;have bx:=kF aa.out 0;have bz:=kF aa.out 1;have au:0≤(a2:Int):=zd;have av:a2<(ac.length:Int):=zd;obtain⟨bc,aV,af⟩:=tI aE.out a2 au av;cases aV;try replace af:=(HB.out.cell (wL w _ af)).trans af;replace au:=eq_true au;replace av:=eq_true av))
 go_ret
 exact⟨_,by first|rfl|(simp [*] <;> rfl),by(with_reducible repeat(first|apply Kd.V_alloc|apply Kd.V_drewN|apply Kd.V_drew));exact Kd.V_mono HL214_0.out (fun _ hk=>hk.1.1),zB_ HB⟩
def ij_.l0:Nat→List Int→List Int→List Int→Int→Int→Option (List Int)
  | 0,_,_,_,_,_=>none
  | k+1,x1,x5,ab,ac,aa=>if aa<ac then (if 0≤aa then (if aa<(ab.length:Int) then (if 0≤(rd ab aa) then (if (rd ab aa)<(x1.length:Int) then (if aa<(x5.length:Int) then (ij_.l0 k x1 (x5.set (aa:Int).toNat (rd x1 (rd ab aa))) ab ac (wrap64 (aa+1))) else (none)) else (none)) else (none)) else (none)) else (none)) else (some x5)
def ij_.f (k:Nat) (l0:List Int) (l1:List Int):Option (List Int):=if 0≤(l0.length:Int) then (if ((l0.length:Int):Int).toNat≤35184372088832 then (ij_.l0 k l1 (List.replicate ((l0.length:Int):Int).toNat 0) l0 (l0.length:Int) 0) else (none)) else (none)
theorem ij_.calls (k:Nat) (A0:Option Addr) (c0:Nat) (l0:List Int) (A1:Option Addr) (c1:Nat) (l1:List Int) (r:List Int) (w:World) (az:Kd.C (Kd.int .i64) w A0 l0.length l0) (aA:l0.length≤c0) (aC:Kd.C (Kd.int .i64) w A1 l1.length l1) (aD:l1.length≤c1) (h:ij_.f k l0 l1=some r) :
    Calls Try.prog 69 #[.slice A0 l0.length c0,.slice A1 l1.length c1] w fun e w' => ∃ v0_:Value,e = .returned (v0_)∧Kd.R (Kd.int .i64) 3 w' w.heap.size (fun _=>True) v0_ r∧Below w.heap.size w w':=by
 have aX:=A0_ az;have bb:=A0_ aA;clear az aA;have aY:=A0_ aC;have bc:=A0_ aD;clear aC aD
 have HB:=A0_ (Below.refl w.heap.size w)
 have H:(if 0≤(l0.length:Int) then (if ((l0.length:Int):Int).toNat≤35184372088832 then (ij_.l0 k l1 (List.replicate ((l0.length:Int):Int).toNat 0) l0 (l0.length:Int) 0) else (none)) else (none))=some r:=h
 clear h
 have c3:=zpc H;replace H:=zph H
 have aJ:=eq_true c3;have aK:=dT c3;clear c3
 have c4:=zpc H;replace H:=zph H
 have aM:=eq_true c4;have aN:=dT c4;clear c4
 obtain⟨aq,ag⟩ : ∃ y_:List Int,y_=(List.replicate ((l0.length:Int):Int).toNat 0):=⟨_,rfl⟩
 replace H:(ij_.l0 k l1 aq l0 (l0.length:Int) 0)=some r:=zH ag H
 have ap:=A0_ ag;clear ag;have H':=A0_ H;clear H
 go_enter Try.func69,Try.ntmps69
 go_wp2_with (first|((with_reducible refine gD (N:=10) rfl ?_);refine Kd.R_make (Kd.int .i64) _ 3 rfl (N:=10) rfl 23 _ _ rfl (l0.length:Int) rfl rfl Try.underlying23 (.int .i64 0) 8 info3 rfl (by decide) (by omega) 0 (ok:=fun _=>True) (okp:=fun _=>True) rfl (fun _ hk=>hk) trivial (zd) (Nat.le_trans (Nat.mul_le_mul_right _ (zd:(l0.length:Int).toNat≤35184372088832)) (by omega)) (Below.refl _ _) (Nat.le_refl _) ?_;intro aQ w5 ai hb hg_ hnew_;clear hg_ hnew_;(first|rw [← ap.out] at ai|(simp only [Int.reduceToNat] at ai;rw [← ap.out] at ai));have ax:=A0_ (rL ai (bZ (zB_ HB)));replace HB:=zB HB hb;clear hb ai))
 go_loopg [13] k (fun kq v13 w' => ∃ (ab:List Int) (aa:Int),v13 = .int .i64 aa∧Aside0 (ij_.l0 kq l1 ab l0 (l0.length:Int) aa=some r)∧Aside0 (kq≤k)∧Aside0 (Kd.R (Kd.int .i64) 3 w' w.heap.size (fun _=>True) aQ ab)∧Aside0 (Below w.heap.size w w'))
 case atStart=>exact⟨(aq),(0),zt,H',⟨Nat.le_refl _⟩,⟨zR_ ax⟩,⟨zB_ HB⟩⟩
 case round =>
  clear H';(try clear c1);(try clear c3);(try clear aJ);(try clear aK);(try clear c4);(try clear aM);(try clear aN);obtain⟨ab,aa,rfl,HA,aE,ac,HB⟩:=hrel
  cases gk with
  | zero=>exact absurd HA.out (by simp [ij_.l0])
  | succ k1 =>
   have H:=HA.out;clear HA;simp only [ij_.l0] at H
   by_cases c7:aa<(l0.length:Int)
   ·rw [if_pos c7] at H
    have aT:=dT c7;clear c7
    have c8:=zpc H;replace H:=zph H
    have a9:=dT c8;clear c8
    have c9:=zpc H;replace H:=zph H
    have ba:=dT c9;clear c9
    have aG:=zpc H;replace H:=zph H
    have a4:=dT aG;clear aG
    have aH:=zpc H;replace H:=zph H
    have a5:=dT aH;clear aH
    have aI:=zpc H;replace H:=zph H
    have a6:=dT aI;clear aI
    obtain⟨aj,ah⟩ : ∃ y_:List Int,y_=(ab.set (aa:Int).toNat (rd l1 (rd l0 aa))):=⟨_,rfl⟩
    replace H:(ij_.l0 k1 l1 aj l0 (l0.length:Int) (wrap64 (aa+1)))=some r:=zH ah H
    have ay:=A0_ ah;clear ah;have H':=A0_ H;clear H
    have ak:0≤(aa:Int):=zd
    have al:aa<(l0.length:Int):=zd
    obtain⟨a7,aU,ae⟩:=tI aX.out aa ak al
    cases aU
    try replace ae:=(HB.out.cell (wL w _ ae)).trans ae
    replace ak:=eq_true ak;replace al:=eq_true al
    have am:0≤((rd l0 aa):Int):=zd
    have an:(rd l0 aa)<(l1.length:Int):=zd
    obtain⟨a8,aV,af⟩:=tI aY.out (rd l0 aa) am an
    cases aV
    try replace af:=(HB.out.cell (wL w _ af)).trans af
    replace am:=eq_true am;replace an:=eq_true an
    have ar:0≤(aa:Int):=zd
    have au:(aa:Int)<((ab.length:Int):Int):=zd
    obtain⟨ao,aW,av,aw,gl13,cl13,HG13⟩:=Kd.R_form ac.out (by omega)
    (first|cases av|(injection av with ea_ en_ ec_;(first|subst ea_|(injection ea_ with ea_;subst ea_));subst ec_;clear en_))
    have GB13:=A0_ aw;have GG13:=A0_ HG13;clear aw gl13 HG13
    obtain⟨aZ,a3⟩:=Kd.R_celln 0 ac.out (aa:Int) ar au
    replace ar:=eq_true ar;replace au:=eq_true au
    have HP14:=Kd.R_putg ac.out (aa:Int) (rd l1 (rd l0 aa))
    go_wp2_with (first|((with_reducible refine gS (t:=3) (p:=24) rfl ?_);refine store_event (t:=3) (p:=24) (v := ?vo_w15) (w1:=(wr.setCell ⟨ao,(aa:Int).toNat,none⟩ (.int .i64 (rd l1 (rd l0 aa))))) ?hg ?ho ?hn ?hr ?_;(case ho=>rfl);(case hg=>rfl);(case hn=>rfl);(case hr=>first|(go_simp;done)|(go_simp;rfl));intro w15 hw;have hg:wr.grownBy w15 (some ao):=(by rw [hw];exact HP14.2);have hp_:Kd.R (Kd.int .i64) 3 w15 w.heap.size (fun _=>True) (.slice (some ⟨ao,0,none⟩) ab.length aW) aj:=(by rw [hw,ay.out];exact HP14.1);clear HP14;replace ac:=A0_ (hp_);replace HB:=A0_ ((by rw [hw];exact bS (HB.out) GB13.out:Below w.heap.size w w15));clear hg hw hp_))
    go_roundg k1
    case measure=>have:=aE.out;omega
    case rel=>exact⟨(aj),(wrap64 (aa+1)),zt,H',⟨by have:=aE.out;omega⟩,⟨zR_ ac⟩,⟨zB_ HB⟩⟩
   rw [if_neg c7] at H;have aT:=dF c7;clear c7;obtain rfl:=sI H
   go_wp2
   go_ret
   exact⟨_,by first|rfl|(simp [*] <;> rfl),zR_ ac,zB_ HB⟩
def ss_.f (l0:List Int):Option (List Int):=if l0.length≤1048576 then some l0 else none
theorem ss_.calls (A0:Option Addr) (c0:Nat) (l0:List Int) (r:List Int) (w:World) (ah:Kd.C (Kd.int .i64) w A0 l0.length l0) (ai:l0.length≤c0) (h:ss_.f l0=some r) :
    Calls Try.prog 106 #[.slice A0 l0.length c0] w fun e w' => ∃ v0_:Value,e = .returned (v0_)∧Kd.R (Kd.int .i64) 3 w' w.heap.size (fun _=>True) v0_ r∧Below w.heap.size w w':=by
  unfold ss_.f at h
  by_cases hl:l0.length≤1048576
  · rw [if_pos hl] at h
    obtain rfl:=sI h;clear h;have aj:=A0_ ah;have an:=A0_ ai;have HL:=A0_ hl;clear ah ai hl
    have HB:=A0_ (Below.refl w.heap.size w)
    have he : ∀ w:World,(Go.binOp .eql 23 (.slice A0 l0.length c0) (.slice none 0 0)).run Try.prog w = .ok (.bool A0.isNone) w:=fun w=>by cases A0 <;> kernel_rfl
    cases A0 with
    | none =>
      have hz:l0 = []:=by
        rcases Nat.eq_zero_or_pos l0.length with z|z
        · exact List.length_eq_zero_iff.1 z
        obtain⟨ad,e,_⟩:=aj.out.2.2 z
        cases e
      have HZ:=A0_ hz;clear hz
      go_enter Try.func106,Try.ntmps106
      go_wp2
      go_ret
      exact⟨_,rfl,by rw [HZ.out];exact Kd.R_nil _ _ _ _ _,HB.out⟩
    | some ad =>
      obtain⟨ac,hy⟩ : ∃ y_:List Int,y_=([]:List Int):=⟨_,rfl⟩
      have aa:=A0_ hy;clear hy
      have af:=A0_ (show l0=ac ++ l0 by rw [aa.out];rfl)
      have ak:=A0_ (show ac.length+l0.length<17592186044416 by rw [aa.out];have:=HL.out;simp;omega)
      go_enter Try.func106,Try.ntmps106
      go_wp2_with (first|((with_reducible refine gD (N:=5) rfl ?_);refine Kd.R_lit (Kd.int .i64) _ 3 ?hg (N:=5) ?hd (xs:=([]:List Int)) (inner := []) (ok:=fun _=>True) (okp:=fun _=>True) ?hr ?hp (fun _ hk=>hk) trivial (Below.refl _ _) (Nat.le_refl _) (by simp) ?_;(case hd=>rfl);(case hg=>rfl);(case hr=>first|(go_simp;done)|(go_simp;rfl));(case hp=>exact(Reps.none _ _));intro al w3 ab hb hg_ hnew_;clear hg_ hnew_;(first|rw [← aa.out] at ab|(simp only [Int.reduceToNat] at ab;rw [← aa.out] at ab));have ae:=A0_ (rL ab (bZ (zB_ HB)));replace HB:=zB HB hb;clear hb ab)|((with_reducible refine gB (b := .append) (xs := #[.tmp 5,.tmp 6]) rfl ?_);at_builtin;refine Kd.R_append_rows (Kd.int .i64) (w0:=w) w.heap.size rfl (.tmp 5) (.tmp 6) 23 3 (.int .i64 0) 8 rfl Try.underlying23 info3 rfl (by decide) (by omega) al ac l0 _ _ _ (fun _=>True) (fun _=>False) rfl rfl ?aO ?aR (fun _ _ h=>h) (fun _ h=>h.elim) ?aF ?aB ?aS ?aL ?_;(case aR=>exact zC aj HB);(case aB=>exact(zB_ HB));(case aF=>exact(fun _ _=>trivial));(case aO=>exact(zR_ ae));(case aS=>exact(bZ (zB_ HB)));(case aL=>have:=ak.out;omega);intro am w5 ho hb hg hat;rw [← af.out] at ho;replace HB:=A0_ (hb);have ag:=A0_ (ho);clear ae ho hb hg hat))
      go_ret
      exact⟨_,rfl,zR_ ag,(zB_ HB)⟩
  rw [if_neg hl] at h;cases h
def ic_.l0:Nat→List (List Int)→Int→List Int→List Int→List (List Int)→List Int→Int→Int→List Int→List Int→Option ((List (List Int)))
  | 0,_,_,_,_,_,_,_,_,_,_=>none
  | k+1,x1,x2,x3,x9,af,ac,ag,ab,ae,aa=>if ab<ag then (if 0≤ab then (if ab<(ac.length:Int) then (if ab<(x1.length:Int) then ((ss_.f (rd_L1 x1 ab)).bind fun ah=>(if 0≤(rd ac ab) then (if (rd ac ab)<(x9.length:Int) then (if (rd x9 (rd ac ab))=x2 then ((ia_.f k x3).bind fun aj=>((ij_.f k aj ah).bind fun ai=>(if (rd ac ab)<(aa.length:Int) then (if 0≤(rd aa (rd ac ab)) then (if (rd aa (rd ac ab))<(x9.length:Int) then (if (rd x9 (rd aa (rd ac ab)))=x2 then ((ij_.f k ai x3).bind fun ak=>(if af.length<5864062014805 then (ic_.l0 k x1 x2 x3 x9 (af ++ [ak]) ac ag (wrap64 (ab+1)) ae aa) else (none))) else (if af.length<5864062014805 then (ic_.l0 k x1 x2 x3 x9 (af ++ [ai]) ac ag (wrap64 (ab+1)) ae aa) else (none))) else (none)) else (none)) else (none)))) else (if (rd ac ab)<(aa.length:Int) then (if 0≤(rd aa (rd ac ab)) then (if (rd aa (rd ac ab))<(x9.length:Int) then (if (rd x9 (rd aa (rd ac ab)))=x2 then ((ij_.f k ah x3).bind fun al=>(if af.length<5864062014805 then (ic_.l0 k x1 x2 x3 x9 (af ++ [al]) ac ag (wrap64 (ab+1)) ae aa) else (none))) else (if af.length<5864062014805 then (ic_.l0 k x1 x2 x3 x9 (af ++ [ah]) ac ag (wrap64 (ab+1)) ae aa) else (none))) else (none)) else (none)) else (none))) else (none)) else (none))) else (none)) else (none)) else (none)) else (some af)
def ic_.f (k:Nat) (aa:List Int) (ab:List Int) (l1:List (List Int)) (a2:Int) (l3:List Int):Option ((List (List Int))):=(io_.f k aa ab).bind fun ae=>((ih_.f k aa ab).bind fun ac=>(ic_.l0 k l1 a2 l3 ae (([]:List (List Int))) ac (ac.length:Int) 0 aa ab))
theorem ic_.calls (k:Nat) (aX:Option Addr) (aY:Nat) (ap:List Int) (bh:Option Addr) (aZ:Nat) (aj:List Int) (A1:Option Addr) (c1:Nat) (l1:List (List Int)) (a2:Int) (A3:Option Addr) (c3:Nat) (l3:List Int) (r:List (List Int)) (w:World) (cd:Kd.C (Kd.int .i64) w aX ap.length ap) (ce:ap.length≤aY) (cf:Kd.C (Kd.int .i64) w bh aj.length aj) (cg:aj.length≤aZ) (dl:Kd.C (Kd.slice 3 (Kd.int .i64)) w A1 l1.length l1) (dm:l1.length≤c1) (dn:Kd.C (Kd.int .i64) w A3 l3.length l3) (dp:l3.length≤c3) (h:ic_.f k ap aj l1 a2 l3=some r) :
    Calls Try.prog 63 #[.agg #[.slice aX ap.length aY,.slice bh aj.length aZ],.slice A1 l1.length c1,.int .i64 a2,.slice A3 l3.length c3] w fun e w' => ∃ v0_:Value,e = .returned (v0_)∧Kd.S (Kd.slice 3 (Kd.int .i64)) 23 w' w.heap.size (fun _=>True) v0_ r∧Below w.heap.size w w':=by
 have ey:=Try.underlying25;have ch:=A0_ cd;have ci:=A0_ ce;clear cd ce;have a4:=A0_ cf;have cj:=A0_ cg;clear cf cg;have ck:=A0_ dl;have eL:=A0_ dm;clear dl dm;have cl:=A0_ dn;have cm:=A0_ dp;clear dn dp
 have HB:=A0_ (Below.refl w.heap.size w)
 have H:((io_.f k ap aj).bind fun ak=>((ih_.f k ap aj).bind fun ab=>(ic_.l0 k l1 a2 l3 ak (([]:List (List Int))) ab (ab.length:Int) 0 ap aj)))=some r:=h
 clear h;obtain⟨ak,A5,H⟩:=zbind H
 obtain⟨cx,bw⟩ : ∃ y_:List (List Int),y_=(([]:List (List Int))):=⟨_,rfl⟩
 replace H:((ih_.f k ap aj).bind fun ab=>(ic_.l0 k l1 a2 l3 ak cx ab (ab.length:Int) 0 ap aj))=some r:=zH bw H
 have cn:=A0_ bw;clear bw;obtain⟨ab,A6,H⟩:=zbind H;have H':=A0_ H;clear H
 go_enter Try.func63,Try.ntmps63
 go_wp2_with (first|((with_reducible refine gD (N:=4) rfl ?_);refine zX (N:=4) (cs := #[.slice aX ap.length aY,.slice bh aj.length aZ]) (t:=25) ?_;intro bg hg w7 hbox hb;have ac:=A0_ (hbox);have el:=zG hg HB;have em:=zG hg HB;replace HB:=zB HB hb;clear hb hbox hg;have cy:=zc0 ac;have cz:=zc1 ac;have cC:=kF ac.out 0;have cE:=kF ac.out 1)|((with_reducible refine gC (f:=59) rfl ?_);refine zJ (some 15) Try.func59 #[.agg #[.slice aX ap.length aY,.slice bh aj.length aZ]] ?_;(with_reducible refine(io_.calls k _ _ ap _ _ aj ak _ ?al ?am ?aH ?aI A5.out).mono ?_);(case al=>exact zC ch HB);(case am=>exact ci.out);(case aH=>exact zC a4 HB);(case aI=>exact cj.out);rintro e w9 ⟨b2,rfl,ah,hb⟩;refine⟨_,rfl,?_⟩;have a3:=A0_ (rL ah (bZ (zB_ HB)));replace ac:=zK ac hb;replace HB:=zB HB hb;(try clear hb);(try clear ah))|((with_reducible refine gD (N:=16) rfl ?_);refine Kd.S_lit (Kd.slice 3 (Kd.int .i64)) _ 23 ?hg (N:=16) ?hd (xs:=([]:List (List Int))) (inner := []) (ok:=fun _=>True) (okp:=fun _=>True) ?hr ?hp (fun _ hk=>hk) trivial (Below.refl _ _) (Nat.le_refl _) (by simp) ?_;(case hd=>rfl);(case hg=>rfl);(case hr=>first|(go_simp;done)|(go_simp;rfl));(case hp=>exact(Reps.none _ _));intro ez w10 bn hb hg_ hnew_;clear hg_ hnew_;(first|rw [← cn.out] at bn|(simp only [Int.reduceToNat] at bn;rw [← cn.out] at bn));have bx:=A0_ (Kd.S_lower (Kd.S_new' bn (rX (zR_ a3))) (bZ (zB_ HB)));replace a3:=zR a3 hb;replace ac:=zK ac hb;replace HB:=zB HB hb;clear hb bn;have cq:=zc0 ac;have cr:=zc1 ac;have ct:=kF ac.out 0;have cu:=kF ac.out 1)|((with_reducible refine gC (f:=105) rfl ?_);refine zJ (some 18) Try.func105 #[.agg #[.slice aX ap.length aY,.slice bh aj.length aZ]] ?_;(with_reducible refine(ih_.calls k _ _ ap _ _ aj ab _ ?al ?am ?aH ?aI A6.out).mono ?_);(case al=>exact zC ch HB);(case am=>exact ci.out);(case aH=>exact zC a4 HB);(case aI=>exact cj.out);rintro e w13 ⟨eA,rfl,ah,hb⟩;refine⟨_,rfl,?_⟩;replace bx:=A0_ (Kd.S_elder' (zS_ bx) (Kd.R_base ah) hb);have co:=A0_ (rL (Kd.R_new' ah (rX (zR_ a3))) (bZ (zB_ HB)));replace a3:=A0_ (Kd.R_elder' (zR_ a3) (Kd.R_base ah) hb);replace ac:=zK ac hb;replace HB:=zB HB hb;(try clear hb);(try clear ah);obtain⟨b3,ay,dJ⟩:=rS co.out;subst dJ))
 go_loopg [10,20] k (fun kq v10 v20 w' => ∃ (aJ:List (List Int)) (aa:Int),v20 = .int .i64 aa∧Aside0 (ic_.l0 kq l1 a2 l3 ak aJ ab (ab.length:Int) aa ap aj=some r)∧Aside0 (kq≤k)∧Aside0 (Kd.R (Kd.int .i64) 3 w' w.heap.size (fun k_=>some k_≠((.slice b3 ab.length ay):Value).ownBlock) b2 ak)∧Aside0 (Kd.S (Kd.slice 3 (Kd.int .i64)) 23 w' w.heap.size (fun k_=>some k_≠(b2:Value).ownBlock∧some k_≠((.slice b3 ab.length ay):Value).ownBlock) v10 aJ)∧Aside0 (Kd.R (Kd.int .i64) 3 w' w.heap.size (fun k_=>some k_≠(b2:Value).ownBlock) (.slice b3 ab.length ay) ab)∧Aside0 (w'.heap[bg]? = some (.cells #[(.slice aX ap.length aY),(.slice bh aj.length aZ)] 25 (0,0)))∧Aside0 (Below w.heap.size w w'))
 case atStart=>exact⟨(cx),(0),zt,H',⟨Nat.le_refl _⟩,⟨zmR a3 (fun _ hk=>hk.2)⟩,⟨zmS bx (fun _ hk=>⟨hk.1.2,hk.2⟩)⟩,⟨zmR co (fun _ hk=>hk.2)⟩,⟨zK_ ac⟩,⟨zB_ HB⟩⟩
 case round =>
  clear H';(try clear c1);(try clear c3);(try clear cq);(try clear cr);(try clear cy);(try clear cz);(try clear ct);(try clear cu);(try clear cC);(try clear cE);obtain⟨aJ,aa,rfl,HA,bk,ag,ae,af,ac,HB⟩:=hrel
  cases gk with
  | zero=>exact absurd HA.out (by simp [ic_.l0])
  | succ k1 =>
   have H:=HA.out;clear HA;simp only [ic_.l0] at H
   by_cases bv:aa<(ab.length:Int)
   ·rw [if_pos bv] at H
    have cS:=dT bv;clear bv
    have dq:=zpc H;replace H:=zph H
    have en:=dT dq;clear dq
    have dr:=zpc H;replace H:=zph H
    have eo:=dT dr;clear dr
    have dt:=zpc H;replace H:=zph H
    have ep:=dT dt;clear dt;obtain⟨ar,cp,H⟩:=zbind H
    have du:=zpc H;replace H:=zph H
    have eq:=dT du;clear du
    have dv:=zpc H;replace H:=zph H
    have er:=dT dv;clear dv
    by_cases bo:(rd ak (rd ab aa))=a2
    ·rw [if_pos bo] at H
     have cT:((rd ak (rd ab aa)) == a2)=true:=beq_iff_eq.mpr bo
     have cU:((rd ak (rd ab aa)) != a2)=false:=bne_eq_false_iff_eq.mpr bo
     clear bo;obtain⟨aT,dw,H⟩:=zbind H;obtain⟨aU,dx,H⟩:=zbind H
     have dy:=zpc H;replace H:=zph H
     have es:=dT dy;clear dy
     have dz:=zpc H;replace H:=zph H
     have et:=dT dz;clear dz
     have dA:=zpc H;replace H:=zph H
     have eu:=dT dA;clear dA
     by_cases bp:(rd ak (rd aj (rd ab aa)))=a2
     ·rw [if_pos bp] at H
      have cV:((rd ak (rd aj (rd ab aa))) == a2)=true:=beq_iff_eq.mpr bp
      have cW:((rd ak (rd aj (rd ab aa))) != a2)=false:=bne_eq_false_iff_eq.mpr bp
      clear bp;obtain⟨bq,ej,H⟩:=zbind H
      have dB:=zpc H;replace H:=zph H
      have cX:=A0_ dB;clear dB
      obtain⟨cF,bz⟩ : ∃ y_:List (List Int),y_=(aJ ++ [bq]):=⟨_,rfl⟩
      replace H:(ic_.l0 k1 l1 a2 l3 ak cF ab (ab.length:Int) (wrap64 (aa+1)) ap aj)=some r:=zH bz H
      have cY:=A0_ bz;clear bz;have H':=A0_ H;clear H
      have az:0≤(aa:Int):=zd
      have aA:aa<(ab.length:Int):=zd
      obtain⟨aw,a5,bi⟩:=tI (rR af.out).2.2 aa az aA
      cases a5
      replace az:=eq_true az;replace aA:=eq_true aA
      have aC:0≤(aa:Int):=zd
      have aD:aa<(l1.length:Int):=zd
      obtain⟨bB,aV,aW,a6,ao,au,av⟩:=at_L1 ck.out aa aC aD
      cases a6
      try replace ao:=(HB.out.cell (wL w _ ao)).trans ao
      have aK:=A0_ av;have aM:=A0_ au;clear av au;replace aC:=eq_true aC;replace aD:=eq_true aD
      go_wp2_with (first|((with_reducible refine gC (f:=106) rfl ?_);refine zJ (some 29) Try.func106 #[.slice aV (rd_L1 l1 aa).length aW] ?_;(with_reducible refine(ss_.calls _ _ (rd_L1 l1 aa) ar _ ?al ?am cp.out).mono ?_);(case al=>exact zC aK HB);(case am=>exact aM.out);rintro e w31 ⟨b4,rfl,ah,hb⟩;refine⟨_,rfl,?_⟩;replace ae:=A0_ (Kd.S_elder' (zS_ ae) (Kd.R_base ah) hb);have ai:=A0_ (rL (Kd.R_new' (Kd.R_new' ah (rX (zR_ ag))) (rX (zR_ af))) (bZ (zB_ HB)));replace ag:=A0_ (Kd.R_elder' (zR_ ag) (Kd.R_base ah) hb);replace af:=A0_ (Kd.R_elder' (zR_ af) (Kd.R_base ah) hb);replace ac:=zK ac hb;replace HB:=zB HB hb;(try clear hb);(try clear ah);obtain⟨eB,b5,dK⟩:=rS ag.out;subst dK;have aE:0≤((rd ab aa):Int):=zd;have aG:(rd ab aa)<(ak.length:Int):=zd;obtain⟨aq,a7,bj⟩:=tI (rR ag.out).2.2 (rd ab aa) aE aG;cases a7;replace aE:=eq_true aE;replace aG:=eq_true aG)|((with_reducible refine gC (f:=60) rfl ?_);refine zJ (some 37) Try.func60 #[.slice A3 l3.length c3] ?_;(with_reducible refine(ia_.calls k1 _ _ l3 aT _ ?al ?am dw.out).mono ?_);(case al=>exact zC cl HB);(case am=>exact cm.out);rintro e w33 ⟨dL,rfl,ah,hb⟩;refine⟨_,rfl,?_⟩;replace ae:=A0_ (Kd.S_elder' (zS_ ae) (Kd.R_base ah) hb);have an:=A0_ (rL (Kd.R_new' (Kd.R_new' (Kd.R_new' ah (rX (zR_ ag))) (rX (zR_ af))) (rX (zR_ ai))) (bZ (zB_ HB)));replace ag:=A0_ (Kd.R_elder' (zR_ ag) (Kd.R_base ah) hb);replace af:=A0_ (Kd.R_elder' (zR_ af) (Kd.R_base ah) hb);replace ai:=A0_ (Kd.R_elder' (zR_ ai) (Kd.R_base ah) hb);replace ac:=zK ac hb;replace HB:=zB HB hb;(try clear hb);(try clear ah);obtain⟨bC,bE,dM⟩:=rS an.out;subst dM;obtain⟨bF,bG,dN⟩:=rS ai.out;subst dN)|((with_reducible refine gC (f:=69) rfl ?_);refine zJ (some 39) Try.func69 #[.slice bC aT.length bE,.slice bF ar.length bG] ?_;(with_reducible refine(ij_.calls k1 _ _ aT _ _ ar aU _ ?al ?am ?aH ?aI dx.out).mono ?_);(case al=>exact zD an);(case am=>exact(rR an.out).2.1);(case aH=>exact zD ai);(case aI=>exact(rR ai.out).2.1);rintro e w36 ⟨dO,rfl,ah,hb⟩;refine⟨_,rfl,?_⟩;replace ae:=A0_ (Kd.S_elder' (zS_ ae) (Kd.R_base ah) hb);have ax:=A0_ (rL (Kd.R_new' (Kd.R_new' (Kd.R_new' (Kd.R_new' ah (rX (zR_ ag))) (rX (zR_ af))) (rX (zR_ ai))) (rX (zR_ an))) (bZ (zB_ HB)));replace ag:=A0_ (Kd.R_elder' (zR_ ag) (Kd.R_base ah) hb);replace af:=A0_ (Kd.R_elder' (zR_ af) (Kd.R_base ah) hb);replace ai:=A0_ (Kd.R_elder' (zR_ ai) (Kd.R_base ah) hb);replace an:=A0_ (Kd.R_elder' (zR_ an) (Kd.R_base ah) hb);replace ac:=zK ac hb;replace HB:=zB HB hb;(try clear hb);(try clear ah);have d3:=zc0 ac;have d4:=zc1 ac;have d5:=kF ac.out 0;have d6:=kF ac.out 1;have a8:0≤((rd ab aa):Int):=zd;have a9:(rd ab aa)<(aj.length:Int):=zd;obtain⟨bH,b6,aN⟩:=tI a4.out (rd ab aa) a8 a9;cases b6;try replace aN:=(HB.out.cell (wL w _ aN)).trans aN;replace a8:=eq_true a8;replace a9:=eq_true a9;have ba:0≤((rd aj (rd ab aa)):Int):=zd;have bb:(rd aj (rd ab aa))<(ak.length:Int):=zd;obtain⟨bI,b7,cv⟩:=tI (rR ag.out).2.2 (rd aj (rd ab aa)) ba bb;obtain rfl:aq=bI:=(by injection b7);replace ba:=eq_true ba;replace bb:=eq_true bb;obtain⟨bJ,bK,dP⟩:=rS ax.out;subst dP)|((with_reducible refine gC (f:=69) rfl ?_);refine zJ (some 52) Try.func69 #[.slice bJ aU.length bK,.slice A3 l3.length c3] ?_;(with_reducible refine(ij_.calls k1 _ _ aU _ _ l3 bq _ ?al ?am ?aH ?aI ej.out).mono ?_);(case al=>exact zD ax);(case am=>exact(rR ax.out).2.1);(case aH=>exact zC cl HB);(case aI=>exact cm.out);rintro e w39 ⟨eC,rfl,ah,hb⟩;refine⟨_,rfl,?_⟩;replace ae:=A0_ (Kd.S_elder' (zS_ ae) (Kd.R_base ah) hb);have bl:=A0_ (rL (Kd.R_new' (Kd.R_new' (Kd.R_new' (Kd.R_new' (Kd.R_new' ah (rX (zR_ ag))) (rX (zR_ af))) (rX (zR_ ai))) (rX (zR_ an))) (rX (zR_ ax))) (bZ (zB_ HB)));replace ag:=A0_ (Kd.R_elder' (zR_ ag) (Kd.R_base ah) hb);replace af:=A0_ (Kd.R_elder' (zR_ af) (Kd.R_base ah) hb);replace ai:=A0_ (Kd.R_elder' (zR_ ai) (Kd.R_base ah) hb);replace an:=A0_ (Kd.R_elder' (zR_ an) (Kd.R_base ah) hb);replace ax:=A0_ (Kd.R_elder' (zR_ ax) (Kd.R_base ah) hb);replace ac:=zK ac hb;replace HB:=zB HB hb;(try clear hb);(try clear ah);obtain⟨cG,cH,dQ⟩:=rS bl.out;subst dQ)|((with_reducible refine gB (b := .append) (xs := #[.tmp 53,.tmp 55]) rfl ?_);at_builtin;refine Kd.S_append (Kd.slice 3 (Kd.int .i64)) (w0:=w) w.heap.size rfl (.tmp 53) (.tmp 55) 26 23 (.slice none 0 0) 24 rfl Try.underlying26 info23 rfl (by decide) (by omega) u10 aJ bq [.slice cG bq.length cH] (fun k_=>some k_≠(.slice (some aq) ak.length b5:Value).ownBlock∧some k_≠(.slice (some aw) ab.length ay:Value).ownBlock∧some k_≠(.slice bF ar.length bG:Value).ownBlock∧some k_≠(.slice bC aT.length bE:Value).ownBlock∧some k_≠(.slice bJ aU.length bK:Value).ownBlock) (fun k_=>some k_=(.slice cG bq.length cH:Value).ownBlock) rfl rfl ?aP (fun k_ hk_=>((rM (ok':=fun k_=>((fun k_=>some k_≠(.slice (some aq) ak.length b5:Value).ownBlock∧some k_≠(.slice (some aw) ab.length ay:Value).ownBlock∧some k_≠(.slice bF ar.length bG:Value).ownBlock∧some k_≠(.slice bC aT.length bE:Value).ownBlock∧some k_≠(.slice bJ aU.length bK:Value).ownBlock)) k_∧some k_≠(u10:Value).ownBlock) (Kd.R_apart' (bl.out) (Kd.S_typed ae.out) (by decide)) (fun k_ hk=>⟨⟨hk.1.1.1.1.1.2,⟨hk.1.1.1.1.2,⟨hk.1.1.1.2,⟨hk.1.1.2,hk.1.2⟩⟩⟩⟩,hk.2⟩))).1 k_ hk_.symm) ?aF ?aO ?aB ?aS ?aL ?_;(case aP=>exact Kd.M_row (rM (Kd.R_tight rfl (rM (ok':=fun k_=>((fun k_=>some k_≠(.slice (some aq) ak.length b5:Value).ownBlock∧some k_≠(.slice (some aw) ab.length ay:Value).ownBlock∧some k_≠(.slice bF ar.length bG:Value).ownBlock∧some k_≠(.slice bC aT.length bE:Value).ownBlock∧some k_≠(.slice bJ aU.length bK:Value).ownBlock)) k_∧some k_≠(u10:Value).ownBlock) (Kd.R_apart' (bl.out) (Kd.S_typed ae.out) (by decide)) (fun k_ hk=>⟨⟨hk.1.1.1.1.1.2,⟨hk.1.1.1.1.2,⟨hk.1.1.1.2,⟨hk.1.1.2,hk.1.2⟩⟩⟩⟩,hk.2⟩))) (fun _ h_=>h_)));(case aB=>exact(zB_ HB));(case aF=>exact(fun k_ hk=>⟨Kd.fresh' (rX (zR_ ag)) k_ hk,Kd.fresh' (rX (zR_ af)) k_ hk,Kd.fresh' (rX (zR_ ai)) k_ hk,Kd.fresh' (rX (zR_ an)) k_ hk,Kd.fresh' (rX (zR_ ax)) k_ hk⟩));(case aO=>exact(zmS ae (fun k_ hk=>⟨⟨hk.1.1.1.1.1,⟨hk.1.1.1.1.2,⟨hk.1.1.1.2,⟨hk.1.1.2,hk.1.2⟩⟩⟩⟩,fun e_=>hk.2 e_⟩)));(case aS=>exact(bZ (zB_ HB)));(case aL=>have:=cX.out;omega);intro eD w40 ho hb hg hat;rw [← cY.out] at ho;replace ag:=A0_ (Kd.R_over' (zR_ ag) (Kd.S_typed (zS_ ae)) (by decide) hg);replace af:=A0_ (Kd.R_over' (zR_ af) (Kd.S_typed (zS_ ae)) (by decide) hg);replace ac:=A0_ (blk_grown (g:=bg) (o := .cells #[.slice aX ap.length aY,.slice (some bH) aj.length aZ] 25 (0,0)) (zK_ ac) hg (Kd.S_ne ae.out ac.out (by decide)));replace ai:=A0_ (Kd.R_over' (zR_ ai) (Kd.S_typed (zS_ ae)) (by decide) hg);replace an:=A0_ (Kd.R_over' (zR_ an) (Kd.S_typed (zS_ ae)) (by decide) hg);replace ax:=A0_ (Kd.R_over' (zR_ ax) (Kd.S_typed (zS_ ae)) (by decide) hg);replace HB:=A0_ (hb);have cZ:=A0_ (ho);clear ae bl ho hb hg hat))
      go_roundg k1
      case measure=>have:=bk.out;omega
      case rel=>exact⟨(cF),(wrap64 (aa+1)),zt,H',⟨by have:=bk.out;omega⟩,⟨zmR ag (fun _ hk=>hk.1.1.1.1)⟩,⟨zmS cZ (fun _ hk=>⟨hk.1,hk.2.1⟩)⟩,⟨zmR af (fun _ hk=>hk.1.1.1.1)⟩,⟨zK_ ac⟩,⟨zB_ HB⟩⟩
     rw [if_neg bp] at H
     have cV:((rd ak (rd aj (rd ab aa))) == a2)=false:=beq_eq_false_iff_ne.mpr bp
     have cW:((rd ak (rd aj (rd ab aa))) != a2)=true:=bne_iff_ne.mpr bp
     have dC:=zpc H;replace H:=zph H
     have da:=A0_ dC;clear dC
     obtain⟨cI,bL⟩ : ∃ y_:List (List Int),y_=(aJ ++ [aU]):=⟨_,rfl⟩
     replace H:(ic_.l0 k1 l1 a2 l3 ak cI ab (ab.length:Int) (wrap64 (aa+1)) ap aj)=some r:=zH bL H
     have db:=A0_ bL;clear bL;have H':=A0_ H;clear H
     have az:0≤(aa:Int):=zd
     have aA:aa<(ab.length:Int):=zd
     obtain⟨aw,a5,bi⟩:=tI (rR af.out).2.2 aa az aA
     cases a5
     replace az:=eq_true az;replace aA:=eq_true aA
     have aC:0≤(aa:Int):=zd
     have aD:aa<(l1.length:Int):=zd
     obtain⟨bB,aV,aW,a6,ao,au,av⟩:=at_L1 ck.out aa aC aD
     cases a6
     try replace ao:=(HB.out.cell (wL w _ ao)).trans ao
     have aK:=A0_ av;have aM:=A0_ au;clear av au;replace aC:=eq_true aC;replace aD:=eq_true aD
     go_wp2_with (first|((with_reducible refine gC (f:=106) rfl ?_);refine zJ (some 29) Try.func106 #[.slice aV (rd_L1 l1 aa).length aW] ?_;(with_reducible refine(ss_.calls _ _ (rd_L1 l1 aa) ar _ ?al ?am cp.out).mono ?_);(case al=>exact zC aK HB);(case am=>exact aM.out);rintro e w43 ⟨b4,rfl,ah,hb⟩;refine⟨_,rfl,?_⟩;replace ae:=A0_ (Kd.S_elder' (zS_ ae) (Kd.R_base ah) hb);have ai:=A0_ (rL (Kd.R_new' (Kd.R_new' ah (rX (zR_ ag))) (rX (zR_ af))) (bZ (zB_ HB)));replace ag:=A0_ (Kd.R_elder' (zR_ ag) (Kd.R_base ah) hb);replace af:=A0_ (Kd.R_elder' (zR_ af) (Kd.R_base ah) hb);replace ac:=zK ac hb;replace HB:=zB HB hb;(try clear hb);(try clear ah);obtain⟨eE,b8,dR⟩:=rS ag.out;subst dR;have aE:0≤((rd ab aa):Int):=zd;have aG:(rd ab aa)<(ak.length:Int):=zd;obtain⟨aq,a7,bj⟩:=tI (rR ag.out).2.2 (rd ab aa) aE aG;cases a7;replace aE:=eq_true aE;replace aG:=eq_true aG)|((with_reducible refine gC (f:=60) rfl ?_);refine zJ (some 37) Try.func60 #[.slice A3 l3.length c3] ?_;(with_reducible refine(ia_.calls k1 _ _ l3 aT _ ?al ?am dw.out).mono ?_);(case al=>exact zC cl HB);(case am=>exact cm.out);rintro e w45 ⟨dL,rfl,ah,hb⟩;refine⟨_,rfl,?_⟩;replace ae:=A0_ (Kd.S_elder' (zS_ ae) (Kd.R_base ah) hb);have an:=A0_ (rL (Kd.R_new' (Kd.R_new' (Kd.R_new' ah (rX (zR_ ag))) (rX (zR_ af))) (rX (zR_ ai))) (bZ (zB_ HB)));replace ag:=A0_ (Kd.R_elder' (zR_ ag) (Kd.R_base ah) hb);replace af:=A0_ (Kd.R_elder' (zR_ af) (Kd.R_base ah) hb);replace ai:=A0_ (Kd.R_elder' (zR_ ai) (Kd.R_base ah) hb);replace ac:=zK ac hb;replace HB:=zB HB hb;(try clear hb);(try clear ah);obtain⟨bM,bO,dS⟩:=rS an.out;subst dS;obtain⟨bP,bQ,dU⟩:=rS ai.out;subst dU)|((with_reducible refine gC (f:=69) rfl ?_);refine zJ (some 39) Try.func69 #[.slice bM aT.length bO,.slice bP ar.length bQ] ?_;(with_reducible refine(ij_.calls k1 _ _ aT _ _ ar aU _ ?al ?am ?aH ?aI dx.out).mono ?_);(case al=>exact zD an);(case am=>exact(rR an.out).2.1);(case aH=>exact zD ai);(case aI=>exact(rR ai.out).2.1);rintro e w48 ⟨dO,rfl,ah,hb⟩;refine⟨_,rfl,?_⟩;replace ae:=A0_ (Kd.S_elder' (zS_ ae) (Kd.R_base ah) hb);have ax:=A0_ (rL (Kd.R_new' (Kd.R_new' (Kd.R_new' (Kd.R_new' ah (rX (zR_ ag))) (rX (zR_ af))) (rX (zR_ ai))) (rX (zR_ an))) (bZ (zB_ HB)));replace ag:=A0_ (Kd.R_elder' (zR_ ag) (Kd.R_base ah) hb);replace af:=A0_ (Kd.R_elder' (zR_ af) (Kd.R_base ah) hb);replace ai:=A0_ (Kd.R_elder' (zR_ ai) (Kd.R_base ah) hb);replace an:=A0_ (Kd.R_elder' (zR_ an) (Kd.R_base ah) hb);replace ac:=zK ac hb;replace HB:=zB HB hb;(try clear hb);(try clear ah);have d7:=zc0 ac;have d8:=zc1 ac;have d9:=kF ac.out 0;have ea:=kF ac.out 1;have a8:0≤((rd ab aa):Int):=zd;have a9:(rd ab aa)<(aj.length:Int):=zd;obtain⟨bH,b6,aN⟩:=tI a4.out (rd ab aa) a8 a9;cases b6;try replace aN:=(HB.out.cell (wL w _ aN)).trans aN;replace a8:=eq_true a8;replace a9:=eq_true a9;have ba:0≤((rd aj (rd ab aa)):Int):=zd;have bb:(rd aj (rd ab aa))<(ak.length:Int):=zd;obtain⟨bI,b7,cv⟩:=tI (rR ag.out).2.2 (rd aj (rd ab aa)) ba bb;obtain rfl:aq=bI:=(by injection b7);replace ba:=eq_true ba;replace bb:=eq_true bb;obtain⟨cJ,cK,dV⟩:=rS ax.out;subst dV)|((with_reducible refine gB (b := .append) (xs := #[.tmp 53,.tmp 55]) rfl ?_);at_builtin;refine Kd.S_append (Kd.slice 3 (Kd.int .i64)) (w0:=w) w.heap.size rfl (.tmp 53) (.tmp 55) 26 23 (.slice none 0 0) 24 rfl Try.underlying26 info23 rfl (by decide) (by omega) u10 aJ aU [.slice cJ aU.length cK] (fun k_=>some k_≠(.slice (some aq) ak.length b8:Value).ownBlock∧some k_≠(.slice (some aw) ab.length ay:Value).ownBlock∧some k_≠(.slice bP ar.length bQ:Value).ownBlock∧some k_≠(.slice bM aT.length bO:Value).ownBlock) (fun k_=>some k_=(.slice cJ aU.length cK:Value).ownBlock) rfl rfl ?aP (fun k_ hk_=>((rM (ok':=fun k_=>((fun k_=>some k_≠(.slice (some aq) ak.length b8:Value).ownBlock∧some k_≠(.slice (some aw) ab.length ay:Value).ownBlock∧some k_≠(.slice bP ar.length bQ:Value).ownBlock∧some k_≠(.slice bM aT.length bO:Value).ownBlock)) k_∧some k_≠(u10:Value).ownBlock) (Kd.R_apart' (ax.out) (Kd.S_typed ae.out) (by decide)) (fun k_ hk=>⟨⟨hk.1.1.1.1.2,⟨hk.1.1.1.2,⟨hk.1.1.2,hk.1.2⟩⟩⟩,hk.2⟩))).1 k_ hk_.symm) ?aF ?aO ?aB ?aS ?aL ?_;(case aP=>exact Kd.M_row (rM (Kd.R_tight rfl (rM (ok':=fun k_=>((fun k_=>some k_≠(.slice (some aq) ak.length b8:Value).ownBlock∧some k_≠(.slice (some aw) ab.length ay:Value).ownBlock∧some k_≠(.slice bP ar.length bQ:Value).ownBlock∧some k_≠(.slice bM aT.length bO:Value).ownBlock)) k_∧some k_≠(u10:Value).ownBlock) (Kd.R_apart' (ax.out) (Kd.S_typed ae.out) (by decide)) (fun k_ hk=>⟨⟨hk.1.1.1.1.2,⟨hk.1.1.1.2,⟨hk.1.1.2,hk.1.2⟩⟩⟩,hk.2⟩))) (fun _ h_=>h_)));(case aB=>exact(zB_ HB));(case aF=>exact(fun k_ hk=>⟨Kd.fresh' (rX (zR_ ag)) k_ hk,Kd.fresh' (rX (zR_ af)) k_ hk,Kd.fresh' (rX (zR_ ai)) k_ hk,Kd.fresh' (rX (zR_ an)) k_ hk⟩));(case aO=>exact(zmS ae (fun k_ hk=>⟨⟨hk.1.1.1.1,⟨hk.1.1.1.2,⟨hk.1.1.2,hk.1.2⟩⟩⟩,fun e_=>hk.2 e_⟩)));(case aS=>exact(bZ (zB_ HB)));(case aL=>have:=da.out;omega);intro eF w50 ho hb hg hat;rw [← db.out] at ho;replace ag:=A0_ (Kd.R_over' (zR_ ag) (Kd.S_typed (zS_ ae)) (by decide) hg);replace af:=A0_ (Kd.R_over' (zR_ af) (Kd.S_typed (zS_ ae)) (by decide) hg);replace ac:=A0_ (blk_grown (g:=bg) (o := .cells #[.slice aX ap.length aY,.slice (some bH) aj.length aZ] 25 (0,0)) (zK_ ac) hg (Kd.S_ne ae.out ac.out (by decide)));replace ai:=A0_ (Kd.R_over' (zR_ ai) (Kd.S_typed (zS_ ae)) (by decide) hg);replace an:=A0_ (Kd.R_over' (zR_ an) (Kd.S_typed (zS_ ae)) (by decide) hg);replace HB:=A0_ (hb);have dc:=A0_ (ho);clear ae ax ho hb hg hat))
     go_roundg k1
     case measure=>have:=bk.out;omega
     case rel=>exact⟨(cI),(wrap64 (aa+1)),zt,H',⟨by have:=bk.out;omega⟩,⟨zmR ag (fun _ hk=>hk.1.1.1)⟩,⟨zmS dc (fun _ hk=>⟨hk.1,hk.2.1⟩)⟩,⟨zmR af (fun _ hk=>hk.1.1.1)⟩,⟨zK_ ac⟩,⟨zB_ HB⟩⟩
    rw [if_neg bo] at H
    have cT:((rd ak (rd ab aa)) == a2)=false:=beq_eq_false_iff_ne.mpr bo
    have cU:((rd ak (rd ab aa)) != a2)=true:=bne_iff_ne.mpr bo
    have dD:=zpc H;replace H:=zph H
    have ev:=dT dD;clear dD
    have dE:=zpc H;replace H:=zph H
    have ew:=dT dE;clear dE
    have dG:=zpc H;replace H:=zph H
    have ex:=dT dG;clear dG
    by_cases br:(rd ak (rd aj (rd ab aa)))=a2
    ·rw [if_pos br] at H
     have dd:((rd ak (rd aj (rd ab aa))) == a2)=true:=beq_iff_eq.mpr br
     have de:((rd ak (rd aj (rd ab aa))) != a2)=false:=bne_eq_false_iff_eq.mpr br
     clear br;obtain⟨bu,ek,H⟩:=zbind H
     have dH:=zpc H;replace H:=zph H
     have df:=A0_ dH;clear dH
     obtain⟨cL,bR⟩ : ∃ y_:List (List Int),y_=(aJ ++ [bu]):=⟨_,rfl⟩
     replace H:(ic_.l0 k1 l1 a2 l3 ak cL ab (ab.length:Int) (wrap64 (aa+1)) ap aj)=some r:=zH bR H
     have dg:=A0_ bR;clear bR;have H':=A0_ H;clear H
     have az:0≤(aa:Int):=zd
     have aA:aa<(ab.length:Int):=zd
     obtain⟨aw,a5,bi⟩:=tI (rR af.out).2.2 aa az aA
     cases a5
     replace az:=eq_true az;replace aA:=eq_true aA
     have aC:0≤(aa:Int):=zd
     have aD:aa<(l1.length:Int):=zd
     obtain⟨bB,aV,aW,a6,ao,au,av⟩:=at_L1 ck.out aa aC aD
     cases a6
     try replace ao:=(HB.out.cell (wL w _ ao)).trans ao
     have aK:=A0_ av;have aM:=A0_ au;clear av au;replace aC:=eq_true aC;replace aD:=eq_true aD
     go_wp2_with (first|((with_reducible refine gC (f:=106) rfl ?_);refine zJ (some 29) Try.func106 #[.slice aV (rd_L1 l1 aa).length aW] ?_;(with_reducible refine(ss_.calls _ _ (rd_L1 l1 aa) ar _ ?al ?am cp.out).mono ?_);(case al=>exact zC aK HB);(case am=>exact aM.out);rintro e w58 ⟨b4,rfl,ah,hb⟩;refine⟨_,rfl,?_⟩;replace ae:=A0_ (Kd.S_elder' (zS_ ae) (Kd.R_base ah) hb);have ai:=A0_ (rL (Kd.R_new' (Kd.R_new' ah (rX (zR_ ag))) (rX (zR_ af))) (bZ (zB_ HB)));replace ag:=A0_ (Kd.R_elder' (zR_ ag) (Kd.R_base ah) hb);replace af:=A0_ (Kd.R_elder' (zR_ af) (Kd.R_base ah) hb);replace ac:=zK ac hb;replace HB:=zB HB hb;(try clear hb);(try clear ah);obtain⟨eG,b9,dW⟩:=rS ag.out;subst dW;have aE:0≤((rd ab aa):Int):=zd;have aG:(rd ab aa)<(ak.length:Int):=zd;obtain⟨aq,a7,bj⟩:=tI (rR ag.out).2.2 (rd ab aa) aE aG;cases a7;replace aE:=eq_true aE;replace aG:=eq_true aG;have eb:=zc0 ac;have ec:=zc1 ac;have ed:=kF ac.out 0;have ee:=kF ac.out 1;have bc:0≤((rd ab aa):Int):=zd;have bd:(rd ab aa)<(aj.length:Int):=zd;obtain⟨bU,ca,aQ⟩:=tI a4.out (rd ab aa) bc bd;cases ca;try replace aQ:=(HB.out.cell (wL w _ aQ)).trans aQ;replace bc:=eq_true bc;replace bd:=eq_true bd;have be:0≤((rd aj (rd ab aa)):Int):=zd;have bf:(rd aj (rd ab aa))<(ak.length:Int):=zd;obtain⟨bV,cb,cw⟩:=tI (rR ag.out).2.2 (rd aj (rd ab aa)) be bf;obtain rfl:aq=bV:=(by injection cb);replace be:=eq_true be;replace bf:=eq_true bf;obtain⟨bW,bX,dX⟩:=rS ai.out;subst dX)|((with_reducible refine gC (f:=69) rfl ?_);refine zJ (some 52) Try.func69 #[.slice bW ar.length bX,.slice A3 l3.length c3] ?_;(with_reducible refine(ij_.calls k1 _ _ ar _ _ l3 bu _ ?al ?am ?aH ?aI ek.out).mono ?_);(case al=>exact zD ai);(case am=>exact(rR ai.out).2.1);(case aH=>exact zC cl HB);(case aI=>exact cm.out);rintro e w62 ⟨eH,rfl,ah,hb⟩;refine⟨_,rfl,?_⟩;replace ae:=A0_ (Kd.S_elder' (zS_ ae) (Kd.R_base ah) hb);have bm:=A0_ (rL (Kd.R_new' (Kd.R_new' (Kd.R_new' ah (rX (zR_ ag))) (rX (zR_ af))) (rX (zR_ ai))) (bZ (zB_ HB)));replace ag:=A0_ (Kd.R_elder' (zR_ ag) (Kd.R_base ah) hb);replace af:=A0_ (Kd.R_elder' (zR_ af) (Kd.R_base ah) hb);replace ai:=A0_ (Kd.R_elder' (zR_ ai) (Kd.R_base ah) hb);replace ac:=zK ac hb;replace HB:=zB HB hb;(try clear hb);(try clear ah);obtain⟨cM,cO,dY⟩:=rS bm.out;subst dY)|((with_reducible refine gB (b := .append) (xs := #[.tmp 53,.tmp 55]) rfl ?_);at_builtin;refine Kd.S_append (Kd.slice 3 (Kd.int .i64)) (w0:=w) w.heap.size rfl (.tmp 53) (.tmp 55) 26 23 (.slice none 0 0) 24 rfl Try.underlying26 info23 rfl (by decide) (by omega) u10 aJ bu [.slice cM bu.length cO] (fun k_=>some k_≠(.slice (some aq) ak.length b9:Value).ownBlock∧some k_≠(.slice (some aw) ab.length ay:Value).ownBlock∧some k_≠(.slice bW ar.length bX:Value).ownBlock) (fun k_=>some k_=(.slice cM bu.length cO:Value).ownBlock) rfl rfl ?aP (fun k_ hk_=>((rM (ok':=fun k_=>((fun k_=>some k_≠(.slice (some aq) ak.length b9:Value).ownBlock∧some k_≠(.slice (some aw) ab.length ay:Value).ownBlock∧some k_≠(.slice bW ar.length bX:Value).ownBlock)) k_∧some k_≠(u10:Value).ownBlock) (Kd.R_apart' (bm.out) (Kd.S_typed ae.out) (by decide)) (fun k_ hk=>⟨⟨hk.1.1.1.2,⟨hk.1.1.2,hk.1.2⟩⟩,hk.2⟩))).1 k_ hk_.symm) ?aF ?aO ?aB ?aS ?aL ?_;(case aP=>exact Kd.M_row (rM (Kd.R_tight rfl (rM (ok':=fun k_=>((fun k_=>some k_≠(.slice (some aq) ak.length b9:Value).ownBlock∧some k_≠(.slice (some aw) ab.length ay:Value).ownBlock∧some k_≠(.slice bW ar.length bX:Value).ownBlock)) k_∧some k_≠(u10:Value).ownBlock) (Kd.R_apart' (bm.out) (Kd.S_typed ae.out) (by decide)) (fun k_ hk=>⟨⟨hk.1.1.1.2,⟨hk.1.1.2,hk.1.2⟩⟩,hk.2⟩))) (fun _ h_=>h_)));(case aB=>exact(zB_ HB));(case aF=>exact(fun k_ hk=>⟨Kd.fresh' (rX (zR_ ag)) k_ hk,Kd.fresh' (rX (zR_ af)) k_ hk,Kd.fresh' (rX (zR_ ai)) k_ hk⟩));(case aO=>exact(zmS ae (fun k_ hk=>⟨⟨hk.1.1.1,⟨hk.1.1.2,hk.1.2⟩⟩,fun e_=>hk.2 e_⟩)));(case aS=>exact(bZ (zB_ HB)));(case aL=>have:=df.out;omega);intro eI w63 ho hb hg hat;rw [← dg.out] at ho;replace ag:=A0_ (Kd.R_over' (zR_ ag) (Kd.S_typed (zS_ ae)) (by decide) hg);replace af:=A0_ (Kd.R_over' (zR_ af) (Kd.S_typed (zS_ ae)) (by decide) hg);replace ac:=A0_ (blk_grown (g:=bg) (o := .cells #[.slice aX ap.length aY,.slice (some bU) aj.length aZ] 25 (0,0)) (zK_ ac) hg (Kd.S_ne ae.out ac.out (by decide)));replace ai:=A0_ (Kd.R_over' (zR_ ai) (Kd.S_typed (zS_ ae)) (by decide) hg);replace HB:=A0_ (hb);have dh:=A0_ (ho);clear ae bm ho hb hg hat))
     go_roundg k1
     case measure=>have:=bk.out;omega
     case rel=>exact⟨(cL),(wrap64 (aa+1)),zt,H',⟨by have:=bk.out;omega⟩,⟨zmR ag (fun _ hk=>hk.1.1)⟩,⟨zmS dh (fun _ hk=>⟨hk.1,hk.2.1⟩)⟩,⟨zmR af (fun _ hk=>hk.1.1)⟩,⟨zK_ ac⟩,⟨zB_ HB⟩⟩
    rw [if_neg br] at H
    have dd:((rd ak (rd aj (rd ab aa))) == a2)=false:=beq_eq_false_iff_ne.mpr br
    have de:((rd ak (rd aj (rd ab aa))) != a2)=true:=bne_iff_ne.mpr br
    have dI:=zpc H;replace H:=zph H
    have di:=A0_ dI;clear dI
    obtain⟨cP,bY⟩ : ∃ y_:List (List Int),y_=(aJ ++ [ar]):=⟨_,rfl⟩
    replace H:(ic_.l0 k1 l1 a2 l3 ak cP ab (ab.length:Int) (wrap64 (aa+1)) ap aj)=some r:=zH bY H
    have dj:=A0_ bY;clear bY;have H':=A0_ H;clear H
    have az:0≤(aa:Int):=zd
    have aA:aa<(ab.length:Int):=zd
    obtain⟨aw,a5,bi⟩:=tI (rR af.out).2.2 aa az aA
    cases a5
    replace az:=eq_true az;replace aA:=eq_true aA
    have aC:0≤(aa:Int):=zd
    have aD:aa<(l1.length:Int):=zd
    obtain⟨bB,aV,aW,a6,ao,au,av⟩:=at_L1 ck.out aa aC aD
    cases a6
    try replace ao:=(HB.out.cell (wL w _ ao)).trans ao
    have aK:=A0_ av;have aM:=A0_ au;clear av au;replace aC:=eq_true aC;replace aD:=eq_true aD
    go_wp2_with (first|((with_reducible refine gC (f:=106) rfl ?_);refine zJ (some 29) Try.func106 #[.slice aV (rd_L1 l1 aa).length aW] ?_;(with_reducible refine(ss_.calls _ _ (rd_L1 l1 aa) ar _ ?al ?am cp.out).mono ?_);(case al=>exact zC aK HB);(case am=>exact aM.out);rintro e w66 ⟨b4,rfl,ah,hb⟩;refine⟨_,rfl,?_⟩;replace ae:=A0_ (Kd.S_elder' (zS_ ae) (Kd.R_base ah) hb);have ai:=A0_ (rL (Kd.R_new' (Kd.R_new' ah (rX (zR_ ag))) (rX (zR_ af))) (bZ (zB_ HB)));replace ag:=A0_ (Kd.R_elder' (zR_ ag) (Kd.R_base ah) hb);replace af:=A0_ (Kd.R_elder' (zR_ af) (Kd.R_base ah) hb);replace ac:=zK ac hb;replace HB:=zB HB hb;(try clear hb);(try clear ah);obtain⟨eJ,cc,dZ⟩:=rS ag.out;subst dZ;have aE:0≤((rd ab aa):Int):=zd;have aG:(rd ab aa)<(ak.length:Int):=zd;obtain⟨aq,a7,bj⟩:=tI (rR ag.out).2.2 (rd ab aa) aE aG;cases a7;replace aE:=eq_true aE;replace aG:=eq_true aG;have ef:=zc0 ac;have eg:=zc1 ac;have eh:=kF ac.out 0;have ei:=kF ac.out 1;have bc:0≤((rd ab aa):Int):=zd;have bd:(rd ab aa)<(aj.length:Int):=zd;obtain⟨bU,ca,aQ⟩:=tI a4.out (rd ab aa) bc bd;cases ca;try replace aQ:=(HB.out.cell (wL w _ aQ)).trans aQ;replace bc:=eq_true bc;replace bd:=eq_true bd;have be:0≤((rd aj (rd ab aa)):Int):=zd;have bf:(rd aj (rd ab aa))<(ak.length:Int):=zd;obtain⟨bV,cb,cw⟩:=tI (rR ag.out).2.2 (rd aj (rd ab aa)) be bf;obtain rfl:aq=bV:=(by injection cb);replace be:=eq_true be;replace bf:=eq_true bf;obtain⟨cQ,cR,d0⟩:=rS ai.out;subst d0)|((with_reducible refine gB (b := .append) (xs := #[.tmp 53,.tmp 55]) rfl ?_);at_builtin;refine Kd.S_append (Kd.slice 3 (Kd.int .i64)) (w0:=w) w.heap.size rfl (.tmp 53) (.tmp 55) 26 23 (.slice none 0 0) 24 rfl Try.underlying26 info23 rfl (by decide) (by omega) u10 aJ ar [.slice cQ ar.length cR] (fun k_=>some k_≠(.slice (some aq) ak.length cc:Value).ownBlock∧some k_≠(.slice (some aw) ab.length ay:Value).ownBlock) (fun k_=>some k_=(.slice cQ ar.length cR:Value).ownBlock) rfl rfl ?aP (fun k_ hk_=>((rM (ok':=fun k_=>((fun k_=>some k_≠(.slice (some aq) ak.length cc:Value).ownBlock∧some k_≠(.slice (some aw) ab.length ay:Value).ownBlock)) k_∧some k_≠(u10:Value).ownBlock) (Kd.R_apart' (ai.out) (Kd.S_typed ae.out) (by decide)) (fun k_ hk=>⟨⟨hk.1.1.2,hk.1.2⟩,hk.2⟩))).1 k_ hk_.symm) ?aF ?aO ?aB ?aS ?aL ?_;(case aP=>exact Kd.M_row (rM (Kd.R_tight rfl (rM (ok':=fun k_=>((fun k_=>some k_≠(.slice (some aq) ak.length cc:Value).ownBlock∧some k_≠(.slice (some aw) ab.length ay:Value).ownBlock)) k_∧some k_≠(u10:Value).ownBlock) (Kd.R_apart' (ai.out) (Kd.S_typed ae.out) (by decide)) (fun k_ hk=>⟨⟨hk.1.1.2,hk.1.2⟩,hk.2⟩))) (fun _ h_=>h_)));(case aB=>exact(zB_ HB));(case aF=>exact(fun k_ hk=>⟨Kd.fresh' (rX (zR_ ag)) k_ hk,Kd.fresh' (rX (zR_ af)) k_ hk⟩));(case aO=>exact(zmS ae (fun k_ hk=>⟨⟨hk.1.1,hk.1.2⟩,fun e_=>hk.2 e_⟩)));(case aS=>exact(bZ (zB_ HB)));(case aL=>have:=di.out;omega);intro eK w69 ho hb hg hat;rw [← dj.out] at ho;replace ag:=A0_ (Kd.R_over' (zR_ ag) (Kd.S_typed (zS_ ae)) (by decide) hg);replace af:=A0_ (Kd.R_over' (zR_ af) (Kd.S_typed (zS_ ae)) (by decide) hg);replace ac:=A0_ (blk_grown (g:=bg) (o := .cells #[.slice aX ap.length aY,.slice (some bU) aj.length aZ] 25 (0,0)) (zK_ ac) hg (Kd.S_ne ae.out ac.out (by decide)));replace HB:=A0_ (hb);have dk:=A0_ (ho);clear ae ai ho hb hg hat))
    go_roundg k1
    case measure=>have:=bk.out;omega
    case rel=>exact⟨(cP),(wrap64 (aa+1)),zt,H',⟨by have:=bk.out;omega⟩,⟨zmR ag (fun _ hk=>hk.1)⟩,⟨zS_ dk⟩,⟨zmR af (fun _ hk=>hk.1)⟩,⟨zK_ ac⟩,⟨zB_ HB⟩⟩
   rw [if_neg bv] at H;have cS:=dF bv;clear bv;obtain rfl:=sI H
   go_wp2
   go_ret
   exact⟨_,by first|rfl|(simp [*] <;> rfl),zmS ae (fun _ hk=>trivial),zB_ HB⟩
def id_.l0:Nat→List (List Int)→List (List Int)→Int→Int→Option ((List (List Int)))
  | 0,_,_,_,_=>none
  | k+1,x3,x7,x8,x9=>if x9<x8 then (if 0≤x9 then (if x9<(x7.length:Int) then ((ss_.f (rd_L1 x7 x9)).bind fun aa=>(if x3.length<5864062014805 then (id_.l0 k (x3 ++ [aa]) x7 x8 (wrap64 (x9+1))) else (none))) else (none)) else (none)) else (some x3)
def id_.f (k:Nat) (l0:List (List Int)):Option ((List (List Int))):=id_.l0 k (([]:List (List Int))) l0 (l0.length:Int) 0
theorem id_.calls (k:Nat) (A0:Option Addr) (c0:Nat) (l0:List (List Int)) (r:List (List Int)) (w:World) (aH:Kd.C (Kd.slice 3 (Kd.int .i64)) w A0 l0.length l0) (aI:l0.length≤c0) (h:id_.f k l0=some r) :
    Calls Try.prog 64 #[.slice A0 l0.length c0] w fun e w' => ∃ v0_:Value,e = .returned (v0_)∧Kd.S (Kd.slice 3 (Kd.int .i64)) 23 w' w.heap.size (fun _=>True) v0_ r∧Below w.heap.size w w':=by
 have aT:=A0_ aH;have a3:=A0_ aI;clear aH aI
 have HB:=A0_ (Below.refl w.heap.size w)
 have H:(id_.l0 k (([]:List (List Int))) l0 (l0.length:Int) 0)=some r:=h
 clear h
 obtain⟨ar,aj⟩ : ∃ y_:List (List Int),y_=(([]:List (List Int))):=⟨_,rfl⟩
 replace H:(id_.l0 k ar l0 (l0.length:Int) 0)=some r:=zH aj H
 have ao:=A0_ aj;clear aj;have H':=A0_ H;clear H
 go_enter Try.func64,Try.ntmps64
 go_wp2_with (first|((with_reducible refine gD (N:=6) rfl ?_);refine Kd.S_lit (Kd.slice 3 (Kd.int .i64)) _ 23 ?hg (N:=6) ?hd (xs:=([]:List (List Int))) (inner := []) (ok:=fun _=>True) (okp:=fun _=>True) ?hr ?hp (fun _ hk=>hk) trivial (Below.refl _ _) (Nat.le_refl _) (by simp) ?_;(case hd=>rfl);(case hg=>rfl);(case hr=>first|(go_simp;done)|(go_simp;rfl));(case hp=>exact(Reps.none _ _));intro aV w2 al hb hg_ hnew_;clear hg_ hnew_;(first|rw [← ao.out] at al|(simp only [Int.reduceToNat] at al;rw [← ao.out] at al));have aA:=A0_ (Kd.S_lower al (bZ (zB_ HB)));replace HB:=zB HB hb;clear hb al))
 go_loopg [3,9] k (fun kq v3 v9 w' => ∃ (af:List (List Int)) (aa:Int),v9 = .int .i64 aa∧Aside0 (id_.l0 kq af l0 (l0.length:Int) aa=some r)∧Aside0 (kq≤k)∧Aside0 (Kd.S (Kd.slice 3 (Kd.int .i64)) 23 w' w.heap.size (fun _=>True) v3 af)∧Aside0 (Below w.heap.size w w'))
 case atStart=>exact⟨(ar),(0),zt,H',⟨Nat.le_refl _⟩,⟨zS_ aA⟩,⟨zB_ HB⟩⟩
 case round =>
  clear H';obtain⟨af,aa,rfl,HA,aJ,ab,HB⟩:=hrel
  cases gk with
  | zero=>exact absurd HA.out (by simp [id_.l0])
  | succ k1 =>
   have H:=HA.out;clear HA;simp only [id_.l0] at H
   by_cases c4:aa<(l0.length:Int)
   ·rw [if_pos c4] at H
    have aK:=dT c4;clear c4
    have c5:=zpc H;replace H:=zph H
    have aW:=dT c5;clear c5
    have c6:=zpc H;replace H:=zph H
    have aX:=dT c6;clear c6;obtain⟨ag,A7,H⟩:=zbind H
    have c8:=zpc H;replace H:=zph H
    have aM:=A0_ c8;clear c8
    obtain⟨au,ak⟩ : ∃ y_:List (List Int),y_=(af ++ [ag]):=⟨_,rfl⟩
    replace H:(id_.l0 k1 au l0 (l0.length:Int) (wrap64 (aa+1)))=some r:=zH ak H
    have aC:=A0_ ak;clear ak;have H':=A0_ H;clear H
    have am:0≤(aa:Int):=zd
    have an:aa<(l0.length:Int):=zd
    obtain⟨aU,av,aw,aN,ac,ah,ai⟩:=at_L1 aT.out aa am an
    cases aN
    try replace ac:=(HB.out.cell (wL w _ ac)).trans ac
    have ap:=A0_ ai;have aq:=A0_ ah;clear ai ah;replace am:=eq_true am;replace an:=eq_true an
    go_wp2_with (first|((with_reducible refine gC (f:=106) rfl ?_);refine zJ (some 15) Try.func106 #[.slice av (rd_L1 l0 aa).length aw] ?_;(with_reducible refine(ss_.calls _ _ (rd_L1 l0 aa) ag _ ?aD ?aE A7.out).mono ?_);(case aD=>exact zC ap HB);(case aE=>exact aq.out);rintro e w9 ⟨aY,rfl,ax,hb⟩;refine⟨_,rfl,?_⟩;replace ab:=A0_ (Kd.S_elder' (zS_ ab) (Kd.R_base ax) hb);have ae:=A0_ (rL ax (bZ (zB_ HB)));replace HB:=zB HB hb;(try clear hb);(try clear ax);obtain⟨ay,az,aQ⟩:=rS ae.out;subst aQ)|((with_reducible refine gB (b := .append) (xs := #[.tmp 13,.tmp 16]) rfl ?_);at_builtin;refine Kd.S_append (Kd.slice 3 (Kd.int .i64)) (w0:=w) w.heap.size rfl (.tmp 13) (.tmp 16) 26 23 (.slice none 0 0) 24 rfl Try.underlying26 info23 rfl (by decide) (by omega) u3 af ag [.slice ay ag.length az] (fun _=>True) (fun k_=>some k_=(.slice ay ag.length az:Value).ownBlock) rfl rfl ?aP (fun k_ hk_=>((rM (ok':=fun k_=>((fun _=>True)) k_∧some k_≠(u3:Value).ownBlock) (Kd.R_apart' (ae.out) (Kd.S_typed ab.out) (by decide)) (fun k_ hk=>⟨trivial,hk.2⟩))).1 k_ hk_.symm) ?aF ?aO ?aB ?aS ?aL ?_;(case aP=>exact Kd.M_row (rM (Kd.R_tight rfl (rM (ok':=fun k_=>((fun _=>True)) k_∧some k_≠(u3:Value).ownBlock) (Kd.R_apart' (ae.out) (Kd.S_typed ab.out) (by decide)) (fun k_ hk=>⟨trivial,hk.2⟩))) (fun _ h_=>h_)));(case aB=>exact(zB_ HB));(case aF=>exact(fun _ _=>trivial));(case aO=>exact(zmS ab (fun k_ hk=>⟨trivial,fun e_=>hk.2 e_⟩)));(case aS=>exact(bZ (zB_ HB)));(case aL=>have:=aM.out;omega);intro aZ w10 ho hb hg hat;rw [← aC.out] at ho;replace HB:=A0_ (hb);have aG:=A0_ (ho);clear ab ae ho hb hg hat))
    go_roundg k1
    case measure=>have:=aJ.out;omega
    case rel=>exact⟨(au),(wrap64 (aa+1)),zt,H',⟨by have:=aJ.out;omega⟩,⟨zS_ aG⟩,⟨zB_ HB⟩⟩
   rw [if_neg c4] at H;have aK:=dF c4;clear c4;obtain rfl:=sI H
   go_wp2
   go_ret
   exact⟨_,by first|rfl|(simp [*] <;> rfl),zS_ ab,zB_ HB⟩
end Go.Proofs.Ytmegggomhjgehaa.PFnCoverTree
