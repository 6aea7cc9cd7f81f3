import Derived.Test.YtmegggomhjgehaaPFnCoverConjx2
namespace Go.Proofs.Ytmegggomhjgehaa.PFnCoverConj
open Go.RowKit Go.Proofs.YtmegggomhjgehaaW.PrintWords Go.Proofs.YtmegggomhjgehaaW.PrintLast Go.Proofs.YtmegggomhjgehaaW.PrintMore
set_option maxHeartbeats 8000000
set_option maxRecDepth 100000
attribute [local go_sem] max2_int min2_int max_two min_two max_three min_three max_four min_four
def ig_.l0:Nat→List Int→List Int→Int→Int→List Int→List Int→Option (List Int)
  | 0,_,_,_,_,_,_=>none
  | k+1,x3,ac,af,aa,ae,ab=>if aa<af then (if 0≤aa then (if aa<(ac.length:Int) then (if 0≤(rd ac aa) then (if (rd ac aa)<(ab.length:Int) then (if (rd ac aa)<(x3.length:Int) then (if 0≤(rd ab (rd ac aa)) then (if (rd ab (rd ac aa))<(x3.length:Int) then (ig_.l0 k ((x3.set ((rd ac aa):Int).toNat aa).set ((rd ab (rd ac aa)):Int).toNat aa) ac af (wrap64 (aa+1)) ae ab) else (none)) else (none)) else (none)) else (none)) else (none)) else (none)) else (none)) else (some x3)
def ig_.f (k:Nat) (ab:List Int) (aa:List Int):Option (List Int):=if 0≤(aa.length:Int) then (if ((aa.length:Int):Int).toNat≤35184372088832 then ((ih_.f k ab aa).bind fun ac=>(ig_.l0 k (List.replicate ((aa.length:Int):Int).toNat 0) ac (ac.length:Int) 0 ab aa)) else (none)) else (none)
theorem ig_.calls (k:Nat) (ak:Option Addr) (al:Nat) (af:List Int) (aq:Option Addr) (am:Nat) (ac:List Int) (r:List Int) (w:World) (aI:Kd.C (Kd.int .i64) w ak af.length af) (aJ:af.length≤al) (aK:Kd.C (Kd.int .i64) w aq ac.length ac) (aM:ac.length≤am) (h:ig_.f k af ac=some r) :
    Calls Try.prog 104 #[.agg #[.slice ak af.length al,.slice aq ac.length am]] w fun e w' => ∃ v0_:Value,e = .returned (v0_)∧Kd.R (Kd.int .i64) 3 w' w.heap.size (fun _=>True) v0_ r∧Below w.heap.size w w':=by
 have ca:=Try.underlying25;have bi:=A0_ aI;have bj:=A0_ aJ;clear aI aJ;have aN:=A0_ aK;have bk:=A0_ aM;clear aK aM
 have HB:=A0_ (Below.refl w.heap.size w)
 have H:(if 0≤(ac.length:Int) then (if ((ac.length:Int):Int).toNat≤35184372088832 then ((ih_.f k af ac).bind fun ab=>(ig_.l0 k (List.replicate ((ac.length:Int):Int).toNat 0) ab (ab.length:Int) 0 af ac)) else (none)) else (none))=some r:=h
 clear h
 have c2:=zpc H;replace H:=zph H
 have bF:=eq_true c2;have bG:=dT c2;clear c2
 have c3:=zpc H;replace H:=zph H
 have bH:=eq_true c3;have bI:=dT c3;clear c3
 obtain⟨aW,au⟩ : ∃ y_:List Int,y_=(List.replicate ((ac.length:Int):Int).toNat 0):=⟨_,rfl⟩
 replace H:((ih_.f k af ac).bind fun ab=>(ig_.l0 k aW ab (ab.length:Int) 0 af ac))=some r:=zH au H
 have aQ:=A0_ au;clear au;obtain⟨ab,A4,H⟩:=zbind H;have H':=A0_ H;clear H
 go_enter Try.func104,Try.ntmps104
 go_wp2_with (first|((with_reducible refine gD (N:=1) rfl ?_);refine zX (N:=1) (cs := #[.slice ak af.length al,.slice aq ac.length am]) (t:=25) ?_;intro av hg w5 hbox hb;have ae:=A0_ (hbox);have bY:=zG hg HB;have b2:=zG hg HB;replace HB:=zB HB hb;clear hb hbox hg;have aX:=zc0 ae;have aY:=zc1 ae;have aZ:=kF ae.out 0;have a4:=kF ae.out 1)|((with_reducible refine gD (N:=9) rfl ?_);refine Kd.R_make (Kd.int .i64) _ 3 rfl (N:=9) rfl 23 _ _ rfl (ac.length:Int) rfl rfl Try.underlying23 (.int .i64 0) 8 info3 rfl (by decide) (by omega) 0 (ok:=fun _=>True) (okp:=fun _=>True) rfl (fun _ hk=>hk) trivial (zd) (Nat.le_trans (Nat.mul_le_mul_right _ (zd:(ac.length:Int).toNat≤35184372088832)) (by omega)) (Below.refl _ _) (Nat.le_refl _) ?_;intro a5 w7 az hb hg_ hnew_;clear hg_ hnew_;(first|rw [← aQ.out] at az|(simp only [Int.reduceToNat] at az;rw [← aQ.out] at az));have ap:=A0_ (rL az (bZ (zB_ HB)));replace ae:=zK ae hb;replace HB:=zB HB hb;clear hb az;have a6:=zc0 ae;have a7:=zc1 ae;have a8:=kF ae.out 0;have a9:=kF ae.out 1)|((with_reducible refine gC (f:=105) rfl ?_);refine zJ (some 11) Try.func105 #[.agg #[.slice ak af.length al,.slice aq ac.length am]] ?_;(with_reducible refine(ih_.calls k _ _ af _ _ ac ab _ ?bl ?bm ?bn ?bo A4.out).mono ?_);(case bl=>exact zC bi HB);(case bm=>exact bj.out);(case bn=>exact zC aN HB);(case bo=>exact bk.out);rintro e w10 ⟨cb,rfl,ba,hb⟩;refine⟨_,rfl,?_⟩;have aT:=A0_ (rL (Kd.R_new' ba (rX (zR_ ap))) (bZ (zB_ HB)));replace ap:=A0_ (Kd.R_elder' (zR_ ap) (Kd.R_base ba) hb);replace ae:=zK ae hb;replace HB:=zB HB hb;(try clear hb);(try clear ba);obtain⟨bb,aw,bJ⟩:=rS aT.out;subst bJ))
 go_loopg [13] k (fun kq v13 w' => ∃ (ag:List Int) (aa:Int),v13 = .int .i64 aa∧Aside0 (ig_.l0 kq ag ab (ab.length:Int) aa af ac=some r)∧Aside0 (kq≤k)∧Aside0 (Kd.R (Kd.int .i64) 3 w' w.heap.size (fun k_=>some k_≠((.slice bb ab.length aw):Value).ownBlock) a5 ag)∧Aside0 (Kd.R (Kd.int .i64) 3 w' w.heap.size (fun k_=>nO k_ a5) (.slice bb ab.length aw) ab)∧Aside0 (w'.heap[av]? = some (.cells #[(.slice ak af.length al),(.slice aq ac.length am)] 25 (0,0)))∧Aside0 (Below w.heap.size w w'))
 case atStart=>exact⟨(aW),(0),zt,H',⟨Nat.le_refl _⟩,⟨zmR ap (fun _ hk=>hk.2)⟩,⟨zmR aT (fun _ hk=>hk.2)⟩,⟨zK_ ae⟩,⟨zB_ HB⟩⟩
 case round =>
  clear H';(try clear c2);(try clear bF);(try clear bG);(try clear c3);(try clear bH);(try clear bI);(try clear aX);(try clear aY);(try clear a6);(try clear a7);(try clear aZ);(try clear a4);(try clear a8);(try clear a9);obtain⟨ag,aa,rfl,HA,bu,ah,aj,ae,HB⟩:=hrel
  cases gk with
  | zero=>exact absurd HA.out (by simp [ig_.l0])
  | succ k1 =>
   have H:=HA.out;clear HA;simp only [ig_.l0] at H
   by_cases ar:aa<(ab.length:Int)
   ·rw [if_pos ar] at H
    have bp:=dT ar;clear ar
    have bv:=zpc H;replace H:=zph H
    have b3:=dT bv;clear bv
    have bw:=zpc H;replace H:=zph H
    have b4:=dT bw;clear bw
    have bx:=zpc H;replace H:=zph H
    have b5:=dT bx;clear bx
    have bz:=zpc H;replace H:=zph H
    have b6:=dT bz;clear bz
    have bB:=zpc H;replace H:=zph H
    have b7:=dT bB;clear bB
    obtain⟨aA,ax⟩ : ∃ y_:List Int,y_=(ag.set ((rd ab aa):Int).toNat aa):=⟨_,rfl⟩
    replace H:(if 0≤(rd ac (rd ab aa)) then (if (rd ac (rd ab aa))<(ag.length:Int) then (ig_.l0 k1 (aA.set ((rd ac (rd ab aa)):Int).toNat aa) ab (ab.length:Int) (wrap64 (aa+1)) af ac) else (none)) else (none))=some r:=zH ax H
    have bq:=A0_ ax;clear ax
    have bC:=zpc H;replace H:=zph H
    have b8:=dT bC;clear bC
    have bE:=zpc H;replace H:=zph H
    have b9:=dT bE;clear bE
    obtain⟨aC,ay⟩ : ∃ y_:List Int,y_=(aA.set ((rd ac (rd ab aa)):Int).toNat aa):=⟨_,rfl⟩
    replace H:(ig_.l0 k1 aC ab (ab.length:Int) (wrap64 (aa+1)) af ac)=some r:=zH ay H
    have br:=A0_ ay;clear ay;have H':=A0_ H;clear H
    have aD:0≤(aa:Int):=zd
    have aE:aa<(ab.length:Int):=zd
    obtain⟨aU,bK,bM⟩:=tI (rR aj.out).2.2 aa aD aE
    cases bK
    replace aD:=eq_true aD;replace aE:=eq_true aE;have bO:=zc0 ae;have bP:=zc1 ae;have bQ:=kF ae.out 0;have bR:=kF ae.out 1
    have aG:0≤((rd ab aa):Int):=zd
    have aH:(rd ab aa)<(ac.length:Int):=zd
    obtain⟨aV,bL,an⟩:=tI aN.out (rd ab aa) aG aH
    cases bL
    try replace an:=(HB.out.cell (wL w _ an)).trans an
    replace aG:=eq_true aG;replace aH:=eq_true aH
    have bc:0≤((rd ab aa):Int):=zd
    have bd:((rd ab aa):Int)<((ag.length:Int):Int):=zd
    obtain⟨ai,ao,be,bf,gl18,cl18,HG18⟩:=Kd.R_form ah.out (by omega)
    (first|cases be|(injection be with ea_ en_ ec_;(first|subst ea_|(injection ea_ with ea_;subst ea_));subst ec_;clear en_))
    have GB18:=A0_ bf;have GG18:=A0_ HG18;clear bf gl18 HG18
    obtain⟨bU,bV⟩:=Kd.R_celln 0 ah.out ((rd ab aa):Int) bc bd
    replace bc:=eq_true bc;replace bd:=eq_true bd
    have HP23:=Kd.R_putg ah.out ((rd ab aa):Int) aa
    go_wp2_with (first|((with_reducible refine gS (t:=3) (p:=28) rfl ?_);refine store_event (t:=3) (p:=28) (v := ?vo_w24) (w1:=(wr.setCell ⟨ai,((rd ab aa):Int).toNat,none⟩ (.int .i64 aa))) ?hg ?ho ?hn ?hr ?_;(case ho=>rfl);(case hg=>rfl);(case hn=>rfl);(case hr=>first|(go_simp;done)|(go_simp;rfl));intro w24 hw;have hg:wr.grownBy w24 (some ai):=(by rw [hw];exact HP23.2);have hp_:Kd.R (Kd.int .i64) 3 w24 w.heap.size (fun k_=>nL k_ (some aU) ab aw) (.slice (some ⟨ai,0,none⟩) ag.length ao) aA:=(by rw [hw,bq.out];exact HP23.1);clear HP23;replace aj:=A0_ (Kd.R_after (v:=(.slice (some ⟨ai,0,none⟩) ag.length ao)) (v1:=(.slice (some ⟨ai,0,none⟩) ag.length ao)) (ok:=(fun _=>True)) (zmR aj (fun _ hk=>⟨trivial,hk⟩)) hg (.inl rfl));replace ae:=A0_ (blk_grown (g:=av) (o := .cells #[.slice ak af.length al,.slice (some aV) ac.length am] 25 (0,0)) (zK_ ae) hg (Kd.R_ne ah.out ae.out (by decide)));replace ah:=A0_ (hp_);replace HB:=A0_ ((by rw [hw];exact bS (HB.out) GB18.out:Below w.heap.size w w24));clear hg hw hp_;have bg:0≤((rd ac (rd ab aa)):Int):=zd;have bh:((rd ac (rd ab aa)):Int)<((ag.length:Int):Int):=zd;obtain⟨bW,bX⟩:=Kd.R_celln 0 ah.out ((rd ac (rd ab aa)):Int) bg bh;replace bg:=eq_true bg;replace bh:=eq_true bh;obtain⟨hy25_,hz25_⟩:=Kd.R_celln 0 ah.out ((rd ac (rd ab aa)):Int) (zd) (zd);have HP25:=Kd.R_putg ah.out ((rd ac (rd ab aa)):Int) aa)|((with_reducible refine gS (t:=3) (p:=29) rfl ?_);refine store_event (t:=3) (p:=29) (v := ?vo_w26) (w1:=(w24.setCell ⟨ai,((rd ac (rd ab aa)):Int).toNat,none⟩ (.int .i64 aa))) ?hg ?ho ?hn ?hr ?_;(case ho=>rfl);(case hg=>rfl);(case hn=>rfl);(case hr=>first|(go_simp;done)|(go_simp;rfl));intro w26 hw;have hg:w24.grownBy w26 (some ai):=(by rw [hw];exact HP25.2);have hp_:Kd.R (Kd.int .i64) 3 w26 w.heap.size (fun k_=>nL k_ (some aU) ab aw) (.slice (some ⟨ai,0,none⟩) ag.length ao) aC:=(by rw [hw,br.out];exact HP25.1);clear HP25;replace aj:=A0_ (Kd.R_after (v:=(.slice (some ⟨ai,0,none⟩) ag.length ao)) (v1:=(.slice (some ⟨ai,0,none⟩) ag.length ao)) (ok:=(fun _=>True)) (zR_ aj) hg (.inl rfl));replace ae:=A0_ (blk_grown (g:=av) (o := .cells #[.slice ak af.length al,.slice (some aV) ac.length am] 25 (0,0)) (zK_ ae) hg (Kd.R_ne ah.out ae.out (by decide)));replace ah:=A0_ (hp_);replace HB:=A0_ ((by rw [hw];exact bS (HB.out) GB18.out:Below w.heap.size w w26));clear hg hw hp_))
    go_roundg k1
    case measure=>have:=bu.out;omega
    case rel=>exact⟨(aC),(wrap64 (aa+1)),zt,H',⟨by have:=bu.out;omega⟩,⟨zR_ ah⟩,⟨zmR aj (fun _ hk=>hk.2)⟩,⟨zK_ ae⟩,⟨zB_ HB⟩⟩
   rw [if_neg ar] at H;have bp:=dF ar;clear ar;obtain rfl:=sI H
   go_wp2
   go_ret
   exact⟨_,by first|rfl|(simp [*] <;> rfl),zmR ah (fun _ hk=>trivial),zB_ HB⟩
def ia_.f (k:Nat) (ac:List Int) (ab:List Int) (l1:List (List Int)) (a2:Int):Option (List Int):=(ig_.f k ac ab).bind fun aa=>(if 0≤a2 then (if a2<(aa.length:Int) then (if 0≤(rd aa a2) then (if (rd aa a2)<(l1.length:Int) then (if a2<(ab.length:Int) then (if a2>(rd ab a2) then ((ib_.f k (rd_L1 l1 (rd aa a2))).bind fun ae=>(some ae)) else (some (rd_L1 l1 (rd aa a2)))) else (none)) else (none)) else (none)) else (none)) else (none))
theorem ia_.calls (k:Nat) (ay:Option Addr) (az:Nat) (ag:List Int) (aA:Option Addr) (aC:Nat) (ac:List Int) (P1_:Nat→Prop) (A1:Option Addr) (c1:Nat) (l1:List (List Int)) (a2:Int) (r:List Int) (w:World) (aW:Kd.C (Kd.int .i64) w ay ag.length ag) (aX:ag.length≤az) (aY:Kd.C (Kd.int .i64) w aA ac.length ac) (aZ:ac.length≤aC) (bC:Kd.V (Kd.slice 3 (Kd.int .i64)) 23 w w.heap.size (fun k_=>P1_ k_) (.slice A1 l1.length c1) l1) (h:ia_.f k ag ac l1 a2=some r) :
    Calls Try.prog 62 #[.agg #[.slice ay ag.length az,.slice aA ac.length aC],.slice A1 l1.length c1,.int .i64 a2] w fun e w' => ∃ v0_:Value,e = .returned (v0_)∧Kd.V (Kd.int .i64) 3 w' w.heap.size (fun k_=>(P1_ k_∨w.heap.size≤k_)) v0_ r∧Below w.heap.size w w':=by
 have bF:=Try.underlying25;have a4:=A0_ aW;have a5:=A0_ aX;clear aW aX;have aE:=A0_ aY;have a6:=A0_ aZ;clear aY aZ
 have ah:=A0_ (show Kd.V (Kd.slice 3 (Kd.int .i64)) 23 w w.heap.size (fun k_=>(P1_ k_∨w.heap.size≤k_)) (.slice A1 l1.length c1) l1 from Kd.V_mono bC (fun k_ hk => .inl hk))
 have HB:=A0_ (Below.refl w.heap.size w)
 have H:((ig_.f k ag ac).bind fun ab=>(if 0≤a2 then (if a2<(ab.length:Int) then (if 0≤(rd ab a2) then (if (rd ab a2)<(l1.length:Int) then (if a2<(ac.length:Int) then (if a2>(rd ac a2) then ((ib_.f k (rd_L1 l1 (rd ab a2))).bind fun aQ=>(some aQ)) else (some (rd_L1 l1 (rd ab a2)))) else (none)) else (none)) else (none)) else (none)) else (none)))=some r:=h
 clear h;obtain⟨ab,A4,H⟩:=zbind H
 have c5:=zpc H;replace H:=zph H
 have bG:=dT c5;clear c5
 have c6:=zpc H;replace H:=zph H
 have bH:=dT c6;clear c6
 have c7:=zpc H;replace H:=zph H
 have bI:=dT c7;clear c7
 have c8:=zpc H;replace H:=zph H
 have bJ:=dT c8;clear c8
 have c9:=zpc H;replace H:=zph H
 have bK:=dT c9;clear c9
 by_cases aG:a2>(rd ac a2)
 ·rw [if_pos aG] at H
  have a8:decide ((rd ac a2)<a2)=true:=dT aG
  clear aG;obtain⟨aQ,bE,H⟩:=zbind H;obtain rfl:=sI H
  go_enter Try.func62,Try.ntmps62
  go_wp2_with (first|((with_reducible refine gD (N:=3) rfl ?_);refine zX (N:=3) (cs := #[.slice ay ag.length az,.slice aA ac.length aC]) (t:=25) ?_;intro aI hg w12 hbox hb;replace ah:=A0_ (Kd.V_below (Kd.V_elderB (by(with_reducible repeat(first|apply Kd.V_alloc|apply Kd.V_drewN|apply Kd.V_drew));exact ah.out) aI (Nat.le_of_eq hg.symm)) hb);have aa:=A0_ (hbox);have a9:=zG hg HB;have ba:=zG hg HB;replace HB:=zB HB hb;clear hb hbox hg;have bi:=zc0 aa;have bj:=zc1 aa;have bk:=kF aa.out 0;have bl:=kF aa.out 1)|((with_reducible refine gC (f:=104) rfl ?_);refine zJ (some 10) Try.func104 #[.agg #[.slice ay ag.length az,.slice aA ac.length aC]] ?_;(with_reducible refine(ig_.calls k _ _ ag _ _ ac ab _ ?aw ?ax ?aJ ?aK A4.out).mono ?_);(case aw=>exact zC a4 HB);(case ax=>exact a5.out);(case aJ=>exact zC aE HB);(case aK=>exact a6.out);rintro e w14 ⟨bf,rfl,ak,hb⟩;refine⟨_,rfl,?_⟩;replace ah:=A0_ (Kd.V_elder' (by(with_reducible repeat(first|apply Kd.V_alloc|apply Kd.V_drewN|apply Kd.V_drew));exact ah.out) (Kd.R_base ak) hb);have aj:=A0_ (rL (Kd.R_newM (M:=fun k_=>(w.heap.size≤k_)) ak (bZ (zB_ HB)) (fun k_ h_=>h_)) (bZ (zB_ HB)));replace aa:=zK aa hb;replace HB:=zB HB hb;(try clear hb);(try clear ak);obtain⟨bL,bM,bg⟩:=rS aj.out;subst bg;have aq:0≤(a2:Int):=zd;have ar:a2<(ab.length:Int):=zd;obtain⟨bb,aT,a7⟩:=tI (rR aj.out).2.2 a2 aq ar;cases aT;replace aq:=eq_true aq;replace ar:=eq_true ar;have an:0≤((rd ab a2):Int):=zd;have ao:(rd ab a2)<(l1.length:Int):=zd;obtain⟨bc,aM,aN,aU,aD,al,am⟩:=at_L1 (Kd.V_reads' ah.out).2.2 (rd ab a2) an ao;cases aU;obtain⟨ce164,hce164,hMe164,ap⟩:=Kd.V_get ah.out [] (rd ab a2) an (by first|exact ao|exact zd|(have e_:=(Kd.V_reads' ah.out).1;omega));obtain⟨ua164_0,uc164_0,rfl,ul164_0,ae⟩:=Kd.FK_slice_open hMe164;have hv164_0:=ap 0 _ rfl;rw [Nat.add_zero,show((Kd.slice 3 (Kd.int .i64))).sz=1 from rfl,Nat.mul_one] at hv164_0;replace hv164_0:=sI (hv164_0.symm.trans aD);injection hv164_0 with hva_ hvn_ hvc_;rw [hva_] at ae;rw [hvc_] at ul164_0;have HL164_0:=A0_ (show Kd.V (Kd.int .i64) 3 _ w.heap.size _ _ (rd_L1 l1 (rd ab a2)) from Kd.V_mk ul164_0 ae);clear hva_ hvn_ hvc_ ae ul164_0 ap hce164;have ai:=A0_ am;have aH:=A0_ al;clear am al;replace an:=eq_true an;replace ao:=eq_true ao;have bm:=zc0 aa;have bn:=zc1 aa;have bo:=kF aa.out 0;have bp:=kF aa.out 1;have au:0≤(a2:Int):=zd;have av:a2<(ac.length:Int):=zd;obtain⟨bd,aV,af⟩:=tI aE.out a2 au av;cases aV;try replace af:=(HB.out.cell (wL w _ af)).trans af;replace au:=eq_true au;replace av:=eq_true av)|((with_reducible refine gC (f:=60) rfl ?_);refine zJ (some 24) Try.func60 #[.slice aM (rd_L1 l1 (rd ab a2)).length aN] ?_;(with_reducible refine(ib_.calls k _ _ (rd_L1 l1 (rd ab a2)) aQ _ ?aw ?ax bE.out).mono ?_);(case aw=>repeat(first|exact(by repeat(first|(with_reducible exact ai.out)|(with_reducible refine cA ?_ _)|(with_reducible refine cN ?_ _)|(with_reducible refine cD ?_)|exact ai.out))|(with_reducible refine cA ?_ _)|(with_reducible refine cN ?_ _)|(with_reducible refine cD ?_)));(case ax=>exact aH.out);rintro e w17 ⟨bO,rfl,ak,hb⟩;refine⟨_,rfl,?_⟩;replace ah:=A0_ (Kd.V_elder' (by(with_reducible repeat(first|apply Kd.V_alloc|apply Kd.V_drewN|apply Kd.V_drew));exact ah.out) (Kd.R_base ak) hb);replace HL164_0:=A0_ (Kd.V_elder' (by(with_reducible repeat(first|apply Kd.V_alloc|apply Kd.V_drewN|apply Kd.V_drew));exact HL164_0.out) (Kd.R_base ak) hb);have be:=A0_ (rL (Kd.R_new' (Kd.R_newM (M:=fun k_=>(w.heap.size≤k_)) ak (bZ (zB_ HB)) (fun k_ h_=>h_)) (rX (zR_ aj))) (bZ (zB_ HB)));replace aj:=A0_ (Kd.R_elder' (zR_ aj) (Kd.R_base ak) hb);replace aa:=zK aa hb;replace ai:=A0_ (cB (by repeat(first|(with_reducible exact ai.out)|(with_reducible refine cA ?_ _)|(with_reducible refine cN ?_ _)|(with_reducible refine cD ?_)|exact ai.out)) hb);replace HB:=zB HB hb;(try clear hb);(try clear ak)))
  go_ret
  exact⟨_,by first|rfl|(simp [*] <;> rfl),Kd.V_mono (Kd.R_V (zmR be (fun _ hk=>hk.1.1))) (fun k_ hk=>by first|exact⟨(.inr (hk.1)),hk.2⟩|exact(.inr (hk))),zB_ HB⟩
 rw [if_neg aG] at H
 have a8:decide ((rd ac a2)<a2)=false:=dF aG
 clear aG;obtain rfl:=sI H
 go_enter Try.func62,Try.ntmps62
 go_wp2_with (first|((with_reducible refine gD (N:=3) rfl ?_);refine zX (N:=3) (cs := #[.slice ay ag.length az,.slice aA ac.length aC]) (t:=25) ?_;intro aI hg w18 hbox hb;replace ah:=A0_ (Kd.V_below (Kd.V_elderB (by(with_reducible repeat(first|apply Kd.V_alloc|apply Kd.V_drewN|apply Kd.V_drew));exact ah.out) aI (Nat.le_of_eq hg.symm)) hb);have aa:=A0_ (hbox);have a9:=zG hg HB;have ba:=zG hg HB;replace HB:=zB HB hb;clear hb hbox hg;have bq:=zc0 aa;have br:=zc1 aa;have bu:=kF aa.out 0;have bv:=kF aa.out 1)|((with_reducible refine gC (f:=104) rfl ?_);refine zJ (some 10) Try.func104 #[.agg #[.slice ay ag.length az,.slice aA ac.length aC]] ?_;(with_reducible refine(ig_.calls k _ _ ag _ _ ac ab _ ?aw ?ax ?aJ ?aK A4.out).mono ?_);(case aw=>exact zC a4 HB);(case ax=>exact a5.out);(case aJ=>exact zC aE HB);(case aK=>exact a6.out);rintro e w20 ⟨bf,rfl,ak,hb⟩;refine⟨_,rfl,?_⟩;replace ah:=A0_ (Kd.V_elder' (by(with_reducible repeat(first|apply Kd.V_alloc|apply Kd.V_drewN|apply Kd.V_drew));exact ah.out) (Kd.R_base ak) hb);have aj:=A0_ (rL (Kd.R_newM (M:=fun k_=>(w.heap.size≤k_)) ak (bZ (zB_ HB)) (fun k_ h_=>h_)) (bZ (zB_ HB)));replace aa:=zK aa hb;replace HB:=zB HB hb;(try clear hb);(try clear ak);obtain⟨bP,bQ,bh⟩:=rS aj.out;subst bh;have aq:0≤(a2:Int):=zd;have ar:a2<(ab.length:Int):=zd;obtain⟨bb,aT,a7⟩:=tI (rR aj.out).2.2 a2 aq ar;cases aT;replace aq:=eq_true aq;replace ar:=eq_true ar;have an:0≤((rd ab a2):Int):=zd;have ao:(rd ab a2)<(l1.length:Int):=zd;obtain⟨bc,aM,aN,aU,aD,al,am⟩:=at_L1 (Kd.V_reads' ah.out).2.2 (rd ab a2) an ao;cases aU;obtain⟨ce164,hce164,hMe164,ap⟩:=Kd.V_get ah.out [] (rd ab a2) an (by first|exact ao|exact zd|(have e_:=(Kd.V_reads' ah.out).1;omega));obtain⟨ua164_0,uc164_0,rfl,ul164_0,ae⟩:=Kd.FK_slice_open hMe164;have hv164_0:=ap 0 _ rfl;rw [Nat.add_zero,show((Kd.slice 3 (Kd.int .i64))).sz=1 from rfl,Nat.mul_one] at hv164_0;replace hv164_0:=sI (hv164_0.symm.trans aD);injection hv164_0 with hva_ hvn_ hvc_;rw [hva_] at ae;rw [hvc_] at ul164_0;have HL164_0:=A0_ (show Kd.V (Kd.int .i64) 3 _ w.heap.size _ _ (rd_L1 l1 (rd ab a2)) from Kd.V_mk ul164_0 ae);clear hva_ hvn_ hvc_ ae ul164_0 ap hce164;have ai:=A0_ am;have aH:=A0_ al;clear am al;replace an:=eq_true an;replace ao:=eq_true ao;have bw:=zc0 aa;have bx:=zc1 aa;have bz:=kF aa.out 0;have bB:=kF aa.out 1;have au:0≤(a2:Int):=zd;have av:a2<(ac.length:Int):=zd;obtain⟨bd,aV,af⟩:=tI aE.out a2 au av;cases aV;try replace af:=(HB.out.cell (wL w _ af)).trans af;replace au:=eq_true au;replace av:=eq_true av))
 go_ret
 exact⟨_,by first|rfl|(simp [*] <;> rfl),by(with_reducible repeat(first|apply Kd.V_alloc|apply Kd.V_drewN|apply Kd.V_drew));exact Kd.V_mono HL164_0.out (fun _ hk=>hk.1.1),zB_ HB⟩
end Go.Proofs.Ytmegggomhjgehaa.PFnCoverConj
