import Derived.Test.YtmegggomhjgehaaPFnCoverConjx0
namespace Go.Proofs.Ytmegggomhjgehaa.PFnCoverConj
open Go.RowKit Go.Proofs.YtmegggomhjgehaaW.PrintWords Go.Proofs.YtmegggomhjgehaaW.PrintLast Go.Proofs.YtmegggomhjgehaaW.PrintMore
set_option maxHeartbeats 8000000
set_option maxRecDepth 100000
attribute [local go_sem] max2_int min2_int max_two min_two max_three min_three max_four min_four
mutual
def ik_.l0:Nat→Int→List Int→Int→Int→List Int→List Int→Option (List Int)
  | 0,_,_,_,_,_,_=>none
  | k+1,x1,x5,ae,ac,aa,ab=>if ac<ae then (if 0≤ac then (if ac<(x5.length:Int) then (ik_.l0 k x1 (x5.set (ac:Int).toNat (-1)) ae (wrap64 (ac+1)) aa ab) else (none)) else (none)) else (if 0≤x1 then (if x1<(x5.length:Int) then (ik_.l1 k (x5.set (x1:Int).toNat 0) (([x1]:List Int)) 0 aa ab) else (none)) else (none))
def ik_.l1:Nat→List Int→List Int→Int→List Int→List Int→Option (List Int)
  | 0,_,_,_,_,_=>none
  | k+1,x5,x7,x8,aa,ab=>if x8<(x7.length:Int) then (if 0≤x8 then (if 0≤(rd x7 x8) then (if (rd x7 x8)<(aa.length:Int) then (if (rd x7 x8)<(ab.length:Int) then ((some (([rd aa (rd x7 x8),rd ab (rd x7 x8)]:List Int):List Int)).bind fun ac=>(ik_.l2 k x5 x7 x8 ac (ac.length:Int) 0 aa ab)) else (none)) else (none)) else (none)) else (none)) else (some x5)
def ik_.l2:Nat→List Int→List Int→Int→List Int→Int→Int→List Int→List Int→Option (List Int)
  | 0,_,_,_,_,_,_,_,_=>none
  | k+1,x5,x7,x8,ae,af,aa,ab,ac=>if aa<af then (if 0≤aa then (if aa<(ae.length:Int) then (if 0≤(rd ae aa) then (if (rd ae aa)<(x5.length:Int) then (if (rd x5 (rd ae aa))<0 then (if x7.length<17592186044416 then (ik_.l2 k (x5.set ((rd ae aa):Int).toNat (x7.length:Int)) (x7 ++ [rd ae aa]) x8 ae af (wrap64 (aa+1)) ab ac) else (none)) else (ik_.l2 k x5 x7 x8 ae af (wrap64 (aa+1)) ab ac)) else (none)) else (none)) else (none)) else (none)) else (ik_.l1 k x5 x7 (wrap64 (x8+1)) ab ac)
end
def ik_.f (k:Nat) (aa:List Int) (ac:List Int) (a1:Int):Option (List Int):=if 0≤(aa.length:Int) then (if ((aa.length:Int):Int).toNat≤35184372088832 then ((some (List.replicate ((aa.length:Int):Int).toNat 0:List Int)).bind fun ab=>(ik_.l0 k a1 ab (ab.length:Int) 0 aa ac)) else (none)) else (none)
def ik_.T12:Bool×List (List Nat×List Nat):=(true,[([],[]),([0],[0]),([],[]),([],[]),([2,3],[2,3]),([4],[4]),([1,5],[1,5]),([6],[6]),([],[]),([8],[8]),([],[]),([],[]),([10,11],[10,11]),([12],[12]),([9,13],[9,13]),([14],[14]),([7,15],[7,15]),([16],[16]),([],[])])
def ik_.B12:List Nat := [0,1,0,0,12,28,63,127,0,256,0,0,3072,7168,16128,32512,65535,131071,0]
theorem ik_.tab12:rtab .any (opsOf Try.f61 12)=ik_.T12:=by kernel_rfl
theorem ik_.bits12:waitsOk ik_.T12.2 ik_.B12=true:=by kernel_rfl
theorem ik_.calls (k:Nat) (aK:Option Addr) (ay:Nat) (ag:List Int) (aM:Option Addr) (az:Nat) (aj:List Int) (a1:Int) (r:List Int) (w:World) (b7:Kd.C (Kd.int .i64) w aK ag.length ag) (b8:ag.length≤ay) (b9:Kd.C (Kd.int .i64) w aM aj.length aj) (ca:aj.length≤az) (h:ik_.f k ag aj a1=some r) :
    Calls Try.prog 61 #[.agg #[.slice aK ag.length ay,.slice aM aj.length az],.int .i64 a1] w fun e w' => ∃ v0_:Value,e = .returned (v0_)∧Kd.R (Kd.int .i64) 3 w' w.heap.size (fun _=>True) v0_ r∧Below w.heap.size w w':=by
 have dw:=Try.underlying25;have cE:=A0_ b7;have dn:=A0_ b8;clear b7 b8;have cF:=A0_ b9;have dp:=A0_ ca;clear b9 ca
 have HB:=A0_ (Below.refl w.heap.size w)
 have H:(if 0≤(ag.length:Int) then (if ((ag.length:Int):Int).toNat≤35184372088832 then ((some (List.replicate ((ag.length:Int):Int).toNat 0:List Int)).bind fun aD=>(ik_.l0 k a1 aD (aD.length:Int) 0 ag aj)) else (none)) else (none))=some r:=h
 clear h
 have c3:=zpc H;replace H:=zph H
 have bR:=eq_true c3;have bU:=dT c3;clear c3
 have c4:=zpc H;replace H:=zph H
 have bV:=eq_true c4;have bW:=dT c4;clear c4
 obtain⟨aD,bm⟩ : ∃ y_:List Int,y_=(List.replicate ((ag.length:Int):Int).toNat 0):=⟨_,rfl⟩
 replace H:(ik_.l0 k a1 aD (aD.length:Int) 0 ag aj)=some r:=zH bm H
 have cb:=A0_ bm;clear bm;have H':=A0_ H;clear H
 go_enter Try.func61,Try.ntmps61
 go_wp2_with (first|((with_reducible refine gD (N:=2) rfl ?_);refine zX (N:=2) (cs := #[.slice aK ag.length ay,.slice aM aj.length az]) (t:=25) ?_;intro av hg w5 hbox hb;have aa:=A0_ (hbox);have dq:=zG hg HB;have dr:=zG hg HB;replace HB:=zB HB hb;clear hb hbox hg;have bb:=zc0 aa;have bc:=zc1 aa;have bd:=kF aa.out 0;have be:=kF aa.out 1)|((with_reducible refine gD (N:=14) rfl ?_);refine Kd.R_make (Kd.int .i64) _ 3 rfl (N:=14) rfl 23 _ _ rfl (ag.length:Int) rfl rfl Try.underlying23 (.int .i64 0) 8 info3 rfl (by decide) (by omega) 0 (ok:=fun _=>True) (okp:=fun _=>True) rfl (fun _ hk=>hk) trivial (zd) (Nat.le_trans (Nat.mul_le_mul_right _ (zd:(ag.length:Int).toNat≤35184372088832)) (by omega)) (Below.refl _ _) (Nat.le_refl _) ?_;intro dx w7 bP hb hg_ hnew_;clear hg_ hnew_;(first|rw [← cb.out] at bP|(simp only [Int.reduceToNat] at bP;rw [← cb.out] at bP));have cc:=A0_ (rL bP (bZ (zB_ HB)));replace aa:=zK aa hb;replace HB:=zB HB hb;clear hb bP;obtain⟨dg,aA,dh⟩:=rS cc.out;subst dh))
 go_loopg [17] k (fun kq v17 w' => ∃ (aC:List Int) (ap:Int),v17 = .int .i64 ap∧Aside0 (ik_.l0 kq a1 aC (aD.length:Int) ap ag aj=some r)∧Aside0 (kq≤k)∧Aside0 (Kd.R (Kd.int .i64) 3 w' w.heap.size (fun _=>True) (.slice dg aD.length aA) aC)∧Aside0 (w'.heap[av]? = some (.cells #[(.slice aK ag.length ay),(.slice aM aj.length az)] 25 (0,0)))∧Aside0 (Below w.heap.size w w'))
 case atStart=>exact⟨(aD),(0),zt,H',⟨Nat.le_refl _⟩,⟨zR_ cc⟩,⟨zK_ aa⟩,⟨zB_ HB⟩⟩
 case round =>
  clear H';(try clear c3);(try clear bR);(try clear bU);(try clear c4);(try clear bV);(try clear bW);(try clear bb);(try clear bc);(try clear bd);(try clear be);obtain⟨aC,ap,rfl,HA,a8,ac,aa,HB⟩:=hrel;have ab:=(rR ac.out).1;rw [ab] at ac;(try simp only [ab]);(try simp only [ab] at aa)
  cases gk with
  | zero=>exact absurd HA.out (by simp [ik_.l0])
  | succ k1 =>
   have H:=HA.out;clear HA;simp only [ik_.l0] at H
   by_cases a9:ap<(aD.length:Int)
   ·rw [if_pos a9] at H
    have aX:=dT a9;(try simp only [ab] at aX);clear a9
    have cS:=zpc H;replace H:=zph H
    have dt:=dT cS;clear cS
    have cT:=zpc H;replace H:=zph H
    have cG:=dT cT;(try simp only [ab] at cG);clear cT
    obtain⟨bX,bn⟩ : ∃ y_:List Int,y_=(aC.set (ap:Int).toNat (-1)):=⟨_,rfl⟩
    replace H:(ik_.l0 k1 a1 bX (aD.length:Int) (wrap64 (ap+1)) ag aj)=some r:=zH bn H
    have cH:=A0_ bn;clear bn;have H':=A0_ H;clear H
    have cl:0≤(ap:Int):=zd
    have cm:(ap:Int)<((aC.length:Int):Int):=zd
    obtain⟨bY,dy,cn,co,gl13,cl13,HG13⟩:=Kd.R_form ac.out (by omega)
    (first|cases cn|(injection cn with ea_ en_ ec_;(first|subst ea_|(injection ea_ with ea_;subst ea_));subst ec_;clear en_))
    have GB13:=A0_ co;have GG13:=A0_ HG13;clear co gl13 HG13
    obtain⟨di,dj⟩:=Kd.R_celln 0 ac.out (ap:Int) cl cm
    replace cl:=eq_true cl;replace cm:=eq_true cm
    have HP14:=Kd.R_putg ac.out (ap:Int) (-1)
    go_wp2_with (first|((with_reducible refine gS (t:=3) (p:=22) rfl ?_);refine store_event (t:=3) (p:=22) (v := ?vo_w15) (w1:=(wr.setCell ⟨bY,(ap:Int).toNat,none⟩ (.int .i64 (-1)))) ?hg ?ho ?hn ?hr ?_;(case ho=>rfl);(case hg=>rfl);(case hn=>rfl);(case hr=>first|(go_simp;done)|(go_simp;rfl));intro w15 hw;have hg:wr.grownBy w15 (some bY):=(by rw [hw];exact HP14.2);have hp_:Kd.R (Kd.int .i64) 3 w15 w.heap.size (fun _=>True) (.slice (some ⟨bY,0,none⟩) aC.length aA) bX:=(by rw [hw,cH.out];exact HP14.1);clear HP14;replace aa:=A0_ (blk_grown (g:=av) (o := .cells #[.slice aK ag.length ay,.slice aM aj.length az] 25 (0,0)) (zK_ aa) hg (Kd.R_ne ac.out aa.out (by decide)));replace ac:=A0_ (hp_);replace HB:=A0_ ((by rw [hw];exact bS (HB.out) GB13.out:Below w.heap.size w w15));clear hg hw hp_))
    (try simp only [← ab])
    go_roundg k1
    case measure=>have:=a8.out;omega
    case rel=>exact⟨(bX),(wrap64 (ap+1)),zt,H',⟨by have:=a8.out;omega⟩,⟨by(try simp only [ab]);(with_reducible repeat(first|apply rA|apply rN|apply rD));exact ac.out⟩,⟨by(try simp only [ab]);exact zK_ aa⟩,⟨zB_ HB⟩⟩
   rw [if_neg a9] at H;have aX:=dF a9;(try simp only [ab] at aX);clear a9
   have cd:=zpc H;replace H:=zph H
   have ce:=dT cd;clear cd
   have cf:=zpc H;replace H:=zph H
   have bo:=dT cf;(try simp only [ab] at bo);clear cf
   obtain⟨bp,bq⟩ : ∃ y_:List Int,y_=(aC.set (a1:Int).toNat 0):=⟨_,rfl⟩
   replace H:(ik_.l1 k1 bp (([a1]:List Int)) 0 ag aj)=some r:=zH bq H
   have cI:=A0_ bq;clear bq
   obtain⟨cp,br⟩ : ∃ y_:List Int,y_=(([a1]:List Int)):=⟨_,rfl⟩
   replace H:(ik_.l1 k1 bp cp 0 ag aj)=some r:=zH br H
   have cg:=A0_ br;clear br;have H':=A0_ H;clear H
   have bf:0≤(a1:Int):=zd
   have bg:(a1:Int)<((aC.length:Int):Int):=zd
   obtain⟨an,dz,cq,cr,gl18,cl18,HG18⟩:=Kd.R_form ac.out (by omega)
   (first|cases cq|(injection cq with ea_ en_ ec_;(first|subst ea_|(injection ea_ with ea_;subst ea_));subst ec_;clear en_))
   have GB18:=A0_ cr;have GG18:=A0_ HG18;clear cr gl18 HG18
   obtain⟨bQ,dk⟩:=Kd.R_celln 0 ac.out (a1:Int) bf bg
   replace bf:=eq_true bf;replace bg:=eq_true bg
   have HP19:=Kd.R_putg ac.out (a1:Int) 0
   go_wp2_with (first|((with_reducible refine gS (t:=3) (p:=26) rfl ?_);refine store_event (t:=3) (p:=26) (v := ?vo_w20) (w1:=(wr.setCell ⟨an,(a1:Int).toNat,none⟩ (.int .i64 0))) ?hg ?ho ?hn ?hr ?_;(case ho=>rfl);(case hg=>rfl);(case hn=>rfl);(case hr=>first|(go_simp;done)|(go_simp;rfl));intro w20 hw;have hg:wr.grownBy w20 (some an):=(by rw [hw];exact HP19.2);have hp_:Kd.R (Kd.int .i64) 3 w20 w.heap.size (fun _=>True) (.slice (some ⟨an,0,none⟩) aC.length aA) bp:=(by rw [hw,cI.out];exact HP19.1);clear HP19;replace aa:=A0_ (blk_grown (g:=av) (o := .cells #[.slice aK ag.length ay,.slice aM aj.length az] 25 (0,0)) (zK_ aa) hg (Kd.R_ne ac.out aa.out (by decide)));replace ac:=A0_ (hp_);replace HB:=A0_ ((by rw [hw];exact bS (HB.out) GB18.out:Below w.heap.size w w20));clear hg hw hp_)|((with_reducible refine gD (N:=28) rfl ?_);refine Kd.R_lit (Kd.int .i64) _ 3 ?hg (N:=28) ?hd (xs:=([a1]:List Int)) (inner := [.int .i64 a1]) (ok:=fun _=>True) (okp:=fun _=>True) ?hr ?hp (fun _ hk=>hk) trivial (Below.refl _ _) (Nat.le_refl _) (by simp) ?_;(case hd=>rfl);(case hg=>rfl);(case hr=>first|(go_simp;done)|(go_simp;rfl));(case hp=>exact(Reps.one (show Kd.M (Kd.int .i64) _ _ _ a1 [.int .i64 a1] from rfl) (Reps.none _ _)));intro dA w21 a5 hb hg_ hnew_;clear hg_ hnew_;(first|rw [← cg.out] at a5|(simp only [Int.reduceToNat] at a5;rw [← cg.out] at a5));have cJ:=A0_ (rL (Kd.R_new' a5 (rX (zR_ ac))) (bZ (zB_ HB)));replace ac:=A0_ (Kd.R_elder' (zR_ ac) (Kd.R_base a5) hb);replace aa:=zK aa hb;replace HB:=zB HB hb;clear hb a5))
   go_loopg [7,8] k1 (fun kq v7 v8 w' => ∃ (aG:List Int) (ak:List Int) (ae:Int),v8 = .int .i64 ae∧Aside0 (ik_.l1 kq aG ak ae ag aj=some r)∧Aside0 (kq≤k1)∧Aside0 (Kd.R (Kd.int .i64) 3 w' w.heap.size (fun k_=>nO k_ v7) (.slice (some ⟨an,0,none⟩) aC.length aA) aG)∧Aside0 (Kd.R (Kd.int .i64) 3 w' w.heap.size (fun k_=>some k_≠((.slice (some ⟨an,0,none⟩) aC.length aA):Value).ownBlock) v7 ak)∧Aside0 (w'.heap[av]? = some (.cells #[(.slice aK ag.length ay),(.slice aM aj.length az)] 25 (0,0)))∧Aside0 (Below w.heap.size w w'))
   case atStart=>exact⟨(bp),(cp),(0),zt,H',⟨Nat.le_refl _⟩,⟨by(try simp only [ab]);(with_reducible repeat(first|apply rA|apply rN|apply rD));exact rM ac.out (fun _ hk=>hk.2)⟩,⟨by(try simp only [ab]);(with_reducible repeat(first|apply rA|apply rN|apply rD));exact rM cJ.out (fun _ hk=>hk.2)⟩,⟨by(try simp only [ab]);exact zK_ aa⟩,⟨zB_ HB⟩⟩
   case round =>
    clear H';(try clear c3);(try clear bR);(try clear bU);(try clear c4);(try clear bV);(try clear bW);(try clear a9);(try clear aX);(try clear cd);(try clear ce);(try clear cf);(try clear bo);(try clear bf);(try clear bg);(try clear bb);(try clear bc);(try clear bd);(try clear be);(try clear bQ);(try clear bf);(try clear bg);obtain⟨aG,ak,ae,rfl,HA,bi,ac,am,aa,HB⟩:=hrel;have ai:=(rR ac.out).1;rw [ai] at ac;(try simp only [ai]);(try simp only [ai] at aa);(try simp only [ai] at am)
    cases gk with
    | zero=>exact absurd HA.out (by simp [ik_.l1])
    | succ k2 =>
     have H:=HA.out;clear HA;simp only [ik_.l1] at H
     by_cases bh:ae<(ak.length:Int)
     ·rw [if_pos bh] at H
      have aH:=dT bh;(try simp only [ab] at aH);(try simp only [ai] at aH);clear bh
      have ct:=zpc H;replace H:=zph H
      have cK:=dT ct;clear ct
      have cu:=zpc H;replace H:=zph H
      have cL:=dT cu;clear cu
      have cv:=zpc H;replace H:=zph H
      have bu:=dT cv;(try simp only [ab] at bu);(try simp only [ai] at bu);clear cv
      have cw:=zpc H;replace H:=zph H
      have bv:=dT cw;(try simp only [ab] at bv);(try simp only [ai] at bv);clear cw
      obtain⟨ah,bw⟩ : ∃ y_:List Int,y_=(([rd ag (rd ak ae),rd aj (rd ak ae)]:List Int)):=⟨_,rfl⟩
      replace H:(ik_.l2 k2 aG ak ae ah (ah.length:Int) 0 ag aj)=some r:=zH bw H
      have ch:=A0_ bw;clear bw;have H':=A0_ H;clear H;obtain⟨dB,dC,cZ⟩:=rS am.out;subst cZ
      try go_wp2
      replace ac:=A0_ (rD ac.out)
      replace am:=A0_ (rD am.out)
      replace aa:=A0_ (kD aa.out)
      replace HB:=A0_ (bD HB.out)
      have bx:0≤(ae:Int):=zd
      have bz:ae<(ak.length:Int):=zd
      obtain⟨ba,da,a6⟩:=tI (rR am.out).2.2 ae bx bz
      cases da
      replace bx:=eq_true bx;replace bz:=eq_true bz
      have bB:0≤((rd ak ae):Int):=zd
      have bC:(rd ak ae)<(ag.length:Int):=zd
      obtain⟨aY,db,aw⟩:=tI cE.out (rd ak ae) bB bC
      have aI:=aw
      cases db
      try replace aw:=(HB.out.cell (wL w _ aw)).trans aw
      replace bB:=eq_true bB;replace bC:=eq_true bC
      have bE:0≤(ae:Int):=zd
      have bF:ae<(ak.length:Int):=zd
      obtain⟨ci,dc,a7⟩:=tI (rR am.out).2.2 ae bE bF
      obtain rfl:ba=ci:=(by injection dc)
      replace bE:=eq_true bE;replace bF:=eq_true bF
      have bG:0≤((rd ak ae):Int):=zd
      have bH:(rd ak ae)<(aj.length:Int):=zd
      obtain⟨aZ,dd,ax⟩:=tI cF.out (rd ak ae) bG bH
      have aJ:=ax
      cases dd
      try replace ax:=(HB.out.cell (wL w _ ax)).trans ax
      replace bG:=eq_true bG;replace bH:=eq_true bH
      refine start_ (n:=19) (S:=fun w'=>w'.cell? ⟨av,0,none⟩=some (.slice (some aY) ag.length ay)∧w'.cell? ⟨av,1,none⟩=some (.slice (some aZ) aj.length az)∧w'.cell? (ba.add (ae).toNat)=some (.int .i64 (rd ak ae))∧w'.cell? (aY.add ((rd ak ae)).toNat)=some (.int .i64 (rd ag (rd ak ae)))∧w'.cell? (ba.add (ae).toNat)=some (.int .i64 (rd ak ae))∧w'.cell? (aZ.add ((rd ak ae)).toNat)=some (.int .i64 (rd aj (rd ak ae)))) (ds := []) (bs 19 0) (by kernel_rfl) rfl rfl ⟨(kC aa.out 0).trans rfl,(kC aa.out 1).trans rfl,a6,((HB.out.cell (wL w _ aI)).trans aI),a7,((HB.out.cell (wL w _ aJ)).trans aJ)⟩ (fun hHeld => ?_);refine with_tabW ik_.tab12 ik_.bits12 (fun HT_ HW_ => ?_)
      generalize wr.drew=w29 at ac am aa HB a6 aw a7 ax hHeld ⊢
      refine zP 0 (some 35) (bs 19 1) ?_
      refine zP 2 (some 37) (bs 19 5) ?_
      refine zP 3 (some 38) (bs 19 13) ?_
      refine zP 4 (some 39) (bs 19 29) ?_
      refine zP 8 (some 43) (bs 19 285) ?_
      refine zP 10 (some 45) (bs 19 1309) ?_
      refine zP 11 (some 46) (bs 19 3357) ?_
      refine zP 12 (some 47) (bs 19 7453) ?_
      refine zP 18 (some 53) (bs 19 269597) ?_
      refine zT 1 (some 36) (bs 19 269599) hHeld ?_
      refine zT 5 (some 40) (bs 19 269631) hHeld ?_
      refine zP 6 (some 41) (bs 19 269695) ?_
      refine zT 7 (some 42) (bs 19 269823) hHeld ?_
      refine zT 9 (some 44) (bs 19 270335) hHeld ?_
      refine zT 13 (some 48) (bs 19 278527) hHeld ?_
      refine zP 14 (some 49) (bs 19 294911) ?_
      refine zT 15 (some 50) (bs 19 327679) hHeld ?_
      refine one_ (i:=16) (N:=some 51) (bs 19 393215) rfl rfl (one_of HT_.out (by kernel_rfl)) (by decide) (fun K hK => ?_)
      refine Kd.R_lit_step (Kd.int .i64) _ 3 ?hg (N:=51) ?hd (xs:=([rd ag (rd ak ae),rd aj (rd ak ae)]:List Int)) (inner := [.int .i64 (rd ag (rd ak ae)),.int .i64 (rd aj (rd ak ae))]) (ok:=fun _=>True) (okp:=fun _=>True) ?hr ?hp (fun _ hk=>hk) trivial (Below.refl _ _) (Nat.le_refl _) (by simp) ?_;(case hd=>rfl);(case hg=>rfl);(case hr=>first|(go_simp;done)|(go_simp;rfl));(case hp=>exact(Reps.one (show Kd.M (Kd.int .i64) _ _ _ (rd ag (rd ak ae)) [.int .i64 (rd ag (rd ak ae))] from rfl) (Reps.one (show Kd.M (Kd.int .i64) _ _ _ (rd aj (rd ak ae)) [.int .i64 (rd aj (rd ak ae))] from rfl) (Reps.none _ _))))
      intro dD w30 aN hb hg_ hnew_
      have HS2_:=(hb.cell (wL _ _ (hHeld.2.2.1))).trans (hHeld.2.2.1)
      have HS4_:=(hb.cell (wL _ _ (hHeld.2.2.2.2.1))).trans (hHeld.2.2.2.2.1)
      clear hg_ hnew_
      (first|rw [← ch.out] at aN|(simp only [Int.reduceToNat] at aN;rw [← ch.out] at aN))
      have cj:=A0_ (rL (Kd.R_new' (Kd.R_new' aN (rX (zR_ ac))) (rX (zR_ am))) (bZ (zB_ HB)))
      replace ac:=A0_ (Kd.R_elder' (zR_ ac) (Kd.R_base aN) hb)
      replace am:=A0_ (Kd.R_elder' (zR_ am) (Kd.R_base aN) hb)
      replace aa:=zK aa hb;replace HB:=zB HB hb;clear hb aN;obtain⟨b2,aQ,cx⟩:=rS cj.out
      (first|subst cx|(injection cx with f1_ f2_ f3_;have f4_:=f1_.symm;have f5_:=f3_.symm;clear f1_ f2_ f3_;subst f4_;subst f5_))
      refine hK.out _ _ ⟨(kC aa.out 0).trans rfl,(kC aa.out 1).trans rfl,HS2_,((HB.out.cell (wL w _ aI)).trans aI),HS4_,((HB.out.cell (wL w _ aJ)).trans aJ)⟩ (fun hHeld => ?_)
      clear hK K
      refine zN (some 51) ?_
      refine zP 17 (some 52) (bs 19 524287) ?_
      refine done_ (done_of HT_.out (by kernel_rfl)) ?_
      try go_wp2
      (try generalize Value.pointer (some (ba.add (ae:Int).toNat))=pz_)
      (try generalize Value.pointer (some (ci.add (ae:Int).toNat))=pz_)
      go_loopg [7,53] k2 (fun kq v7 v53 w' => ∃ (ao:List Int) (aq:List Int) (af:Int),v53 = .int .i64 af∧Aside0 (ik_.l2 kq ao aq ae ah (ah.length:Int) af ag aj=some r)∧Aside0 (kq≤k2)∧Aside0 (Kd.R (Kd.int .i64) 3 w' w.heap.size (fun k_=>nO k_ v7∧some k_≠((.slice b2 ah.length aQ):Value).ownBlock) (.slice (some ⟨an,0,none⟩) aG.length aA) ao)∧Aside0 (Kd.R (Kd.int .i64) 3 w' w.heap.size (fun k_=>some k_≠((.slice (some ⟨an,0,none⟩) aG.length aA):Value).ownBlock∧some k_≠((.slice b2 ah.length aQ):Value).ownBlock) v7 aq)∧Aside0 (Kd.R (Kd.int .i64) 3 w' w.heap.size (fun k_=>some k_≠((.slice (some ⟨an,0,none⟩) aG.length aA):Value).ownBlock∧nO k_ v7) (.slice b2 ah.length aQ) ah)∧Aside0 (w'.heap[av]? = some (.cells #[(.slice (some aY) ag.length ay),(.slice (some aZ) aj.length az)] 25 (0,0)))∧Aside0 (Below w.heap.size w w'))
      case atStart=>exact⟨(aG),(ak),(0),zt,H',⟨Nat.le_refl _⟩,⟨by(try simp only [ab]);(try simp only [ai]);(with_reducible repeat(first|apply rA|apply rN|apply rD));exact ac.out⟩,⟨by(try simp only [ab]);(try simp only [ai]);(with_reducible repeat(first|apply rA|apply rN|apply rD));exact am.out⟩,⟨by(try simp only [ab]);(try simp only [ai]);(with_reducible repeat(first|apply rA|apply rN|apply rD));exact rM cj.out (fun _ hk=>⟨hk.1.2,hk.2⟩)⟩,⟨by(try simp only [ab]);(try simp only [ai]);exact zK_ aa⟩,⟨zB_ HB⟩⟩
      case round =>
       clear H';(try clear c3);(try clear bR);(try clear bU);(try clear c4);(try clear bV);(try clear bW);(try clear a9);(try clear aX);(try clear cd);(try clear ce);(try clear cf);(try clear bo);(try clear bf);(try clear bg);(try clear bh);(try clear aH);(try clear ct);(try clear cK);(try clear cu);(try clear cL);(try clear cv);(try clear bu);(try clear cw);(try clear bv);(try clear bb);(try clear bc);(try clear bd);(try clear be);(try clear bQ);(try clear a6);(try clear aw);(try clear a7);(try clear ax);(try clear bf);(try clear bx);(try clear bB);(try clear bE);(try clear bG);(try clear bg);(try clear bz);(try clear bC);(try clear bF);(try clear bH);obtain⟨ao,aq,af,rfl,HA,bj,ac,am,au,aa,HB⟩:=hrel;have al:=(rR ac.out).1;rw [al] at ac;(try simp only [al]);(try simp only [al] at aa);(try simp only [al] at am);(try simp only [al] at au)
       cases gk with
       | zero=>exact absurd HA.out (by simp [ik_.l2])
       | succ k3 =>
        have H:=HA.out;clear HA;simp only [ik_.l2] at H
        by_cases bk:af<(ah.length:Int)
        ·rw [if_pos bk] at H
         have aE:=dT bk;(try simp only [ab] at aE);(try simp only [ai] at aE);(try simp only [al] at aE);clear bk
         have cU:=zpc H;replace H:=zph H
         have du:=dT cU;clear cU
         have cV:=zpc H;replace H:=zph H
         have bI:=dT cV;(try simp only [ab] at bI);(try simp only [ai] at bI);(try simp only [al] at bI);clear cV
         have cW:=zpc H;replace H:=zph H
         have dv:=dT cW;clear cW
         have cX:=zpc H;replace H:=zph H
         have bJ:=dT cX;(try simp only [ab] at bJ);(try simp only [ai] at bJ);(try simp only [al] at bJ);clear cX
         by_cases bl:(rd ao (rd ah af))<0
         ·rw [if_pos bl] at H
          have cM:=dT bl;clear bl
          obtain⟨bK,bL⟩ : ∃ y_:List Int,y_=(ao.set ((rd ah af):Int).toNat (aq.length:Int)):=⟨_,rfl⟩
          replace H:(if aq.length<17592186044416 then (ik_.l2 k3 bK (aq ++ [rd ah af]) ae ah (ah.length:Int) (wrap64 (af+1)) ag aj) else (none))=some r:=zH bL H
          have cO:=A0_ bL;clear bL
          have cY:=zpc H;replace H:=zph H
          have cP:=A0_ cY;clear cY
          obtain⟨cy,bM⟩ : ∃ y_:List Int,y_=(aq ++ [rd ah af]):=⟨_,rfl⟩
          replace H:(ik_.l2 k3 bK cy ae ah (ah.length:Int) (wrap64 (af+1)) ag aj)=some r:=zH bM H
          have cQ:=A0_ bM;clear bM;have H':=A0_ H;clear H
          have aT:0≤(af:Int):=zd
          have aU:af<(ah.length:Int):=zd
          obtain⟨a4,b3,ck⟩:=tI (rR au.out).2.2 af aT aU
          cases b3
          replace aT:=eq_true aT;replace aU:=eq_true aU
          have aV:0≤((rd ah af):Int):=zd
          have aW:(rd ah af)<(ao.length:Int):=zd
          obtain⟨bO,b4,ar⟩:=tI (rR ac.out).2.2 (rd ah af) aV aW
          obtain rfl:(⟨an,0,none⟩:Addr)=bO:=(by injection b4)
          (first|simp only [add_plain] at ar|simp only [add_at] at ar|simp only [Addr.add,Nat.zero_add] at ar|skip)
          replace aV:=eq_true aV;replace aW:=eq_true aW;obtain⟨b5,b6,de⟩:=rS am.out;subst de
          have cz:0≤((rd ah af):Int):=zd
          have cC:((rd ah af):Int)<((ao.length:Int):Int):=zd
          obtain⟨dl,dm⟩:=Kd.R_celln 0 ac.out ((rd ah af):Int) cz cC
          replace cz:=eq_true cz;replace cC:=eq_true cC
          have HP42:=Kd.R_putg ac.out ((rd ah af):Int) (aq.length:Int)
          go_wp2_with (first|((with_reducible refine gS (t:=3) (p:=66) rfl ?_);refine store_event (t:=3) (p:=66) (v := ?vo_w43) (w1:=(wr.setCell ⟨an,((rd ah af):Int).toNat,none⟩ (.int .i64 (aq.length:Int)))) ?hg ?ho ?hn ?hr ?_;(case ho=>rfl);(case hg=>rfl);(case hn=>rfl);(case hr=>first|(go_simp;done)|(go_simp;rfl));intro w43 hw;have hg:wr.grownBy w43 (some an):=(by rw [hw];exact HP42.2);have hp_:Kd.R (Kd.int .i64) 3 w43 w.heap.size (fun k_=>nL k_ b5 aq b6∧nL k_ (some a4) ah aQ) (.slice (some ⟨an,0,none⟩) ao.length aA) bK:=(by rw [hw,cO.out];exact HP42.1);clear HP42;replace am:=A0_ (Kd.R_after (v:=(.slice (some ⟨an,0,none⟩) ao.length aA)) (v1:=(.slice (some ⟨an,0,none⟩) ao.length aA)) (ok:=(fun k_=>nL k_ (some a4) ah aQ)) (zmR am (fun _ hk=>⟨hk.2,hk.1⟩)) hg (.inl rfl));replace au:=A0_ (Kd.R_after (v:=(.slice (some ⟨an,0,none⟩) ao.length aA)) (v1:=(.slice (some ⟨an,0,none⟩) ao.length aA)) (ok:=(fun k_=>nL k_ b5 aq b6)) (zmR au (fun _ hk=>⟨hk.2,hk.1⟩)) hg (.inl rfl));replace aa:=A0_ (blk_grown (g:=av) (o := .cells #[.slice (some aY) ag.length ay,.slice (some aZ) aj.length az] 25 (0,0)) (zK_ aa) hg (Kd.R_ne ac.out aa.out (by decide)));replace ac:=A0_ (hp_);replace HB:=A0_ ((by rw [hw];exact bS (HB.out) GB18.out:Below w.heap.size w w43));clear hg hw hp_)|((with_reducible refine gB (b := .append) (xs := #[.tmp 67,.tmp 69]) rfl ?_);at_builtin;refine Kd.R_append (Kd.int .i64) (w0:=w) w.heap.size rfl (.tmp 67) (.tmp 69) 23 3 (.int .i64 0) 8 rfl Try.underlying23 info3 rfl (by decide) (by omega) (.slice b5 aq.length b6) aq (rd ah af) [.int .i64 (rd ah af)] (fun k_=>some k_≠(.slice (some ⟨an,0,none⟩) ao.length aA:Value).ownBlock∧nL k_ (some a4) ah aQ) (fun _=>False) rfl rfl ?aP (fun _ hk=>hk.elim) ?aF ?aO ?aB ?aS ?aL ?_;(case aP=>exact rfl);(case aB=>exact(zB_ HB));(case aF=>exact(fun k_ hk=>⟨Kd.fresh' (rX (zR_ ac)) k_ hk,Kd.fresh' (rX (zR_ au)) k_ hk⟩));(case aO=>exact(zmR am (fun _ hk=>⟨hk.2,hk.1⟩)));(case aS=>exact(bZ (zB_ HB)));(case aL=>have:=cP.out;omega);intro dE w44 ho hb hg hat;rw [← cQ.out] at ho;replace ac:=A0_ (Kd.R_after (ok:=(fun k_=>nL k_ (some a4) ah aQ)) (zmR ac (fun _ hk=>⟨hk.2,hk.1⟩)) hg hat);replace au:=A0_ (Kd.R_after (ok:=(fun k_=>some k_≠(.slice (some ⟨an,0,none⟩) ao.length aA:Value).ownBlock)) (zmR au (fun _ hk=>⟨hk.2,hk.1⟩)) hg hat);replace aa:=A0_ (blk_grown (g:=av) (o := .cells #[.slice (some aY) ag.length ay,.slice (some aZ) aj.length az] 25 (0,0)) (zK_ aa) hg (Kd.R_ne am.out aa.out (by decide)));replace HB:=A0_ (hb);have cR:=A0_ (ho);clear am ho hb hg hat))
          (try simp only [← al])
          go_roundg k3
          case measure=>have:=a8.out;have:=bi.out;have:=bj.out;omega
          case rel=>exact⟨(bK),(cy),(wrap64 (af+1)),zt,H',⟨by have:=a8.out;have:=bi.out;have:=bj.out;omega⟩,⟨by(try simp only [ab]);(try simp only [ai]);(try simp only [al]);(with_reducible repeat(first|apply rA|apply rN|apply rD));exact rM ac.out (fun _ hk=>⟨hk.2,hk.1⟩)⟩,⟨by(try simp only [ab]);(try simp only [ai]);(try simp only [al]);(with_reducible repeat(first|apply rA|apply rN|apply rD));exact cR.out⟩,⟨by(try simp only [ab]);(try simp only [ai]);(try simp only [al]);(with_reducible repeat(first|apply rA|apply rN|apply rD));exact au.out⟩,⟨by(try simp only [ab]);(try simp only [ai]);(try simp only [al]);exact zK_ aa⟩,⟨zB_ HB⟩⟩
         rw [if_neg bl] at H;have cM:=dF bl;clear bl;have H':=A0_ H;clear H
         have aT:0≤(af:Int):=zd
         have aU:af<(ah.length:Int):=zd
         obtain⟨a4,b3,ck⟩:=tI (rR au.out).2.2 af aT aU
         cases b3
         replace aT:=eq_true aT;replace aU:=eq_true aU
         have aV:0≤((rd ah af):Int):=zd
         have aW:(rd ah af)<(ao.length:Int):=zd
         obtain⟨bO,b4,ar⟩:=tI (rR ac.out).2.2 (rd ah af) aV aW
         obtain rfl:(⟨an,0,none⟩:Addr)=bO:=(by injection b4)
         (first|simp only [add_plain] at ar|simp only [add_at] at ar|simp only [Addr.add,Nat.zero_add] at ar|skip)
         replace aV:=eq_true aV;replace aW:=eq_true aW
         go_wp2
         (try simp only [← al])
         go_roundg k3
         case measure=>have:=a8.out;have:=bi.out;have:=bj.out;omega
         case rel=>exact⟨(ao),(aq),(wrap64 (af+1)),zt,H',⟨by have:=a8.out;have:=bi.out;have:=bj.out;omega⟩,⟨by(try simp only [ab]);(try simp only [ai]);(try simp only [al]);(with_reducible repeat(first|apply rA|apply rN|apply rD));exact ac.out⟩,⟨by(try simp only [ab]);(try simp only [ai]);(try simp only [al]);(with_reducible repeat(first|apply rA|apply rN|apply rD));exact am.out⟩,⟨by(try simp only [ab]);(try simp only [ai]);(try simp only [al]);(with_reducible repeat(first|apply rA|apply rN|apply rD));exact au.out⟩,⟨by(try simp only [ab]);(try simp only [ai]);(try simp only [al]);exact zK_ aa⟩,⟨zB_ HB⟩⟩
        rw [if_neg bk] at H;have aE:=dF bk;(try simp only [ab] at aE);(try simp only [ai] at aE);(try simp only [al] at aE);clear bk;have H':=A0_ H;clear H
        go_wp2
        (try simp only [← ai,← al])
        go_roundg k3
        case measure=>have:=a8.out;have:=bi.out;have:=bj.out;omega
        case rel=>exact⟨(ao),(aq),(wrap64 (ae+1)),zt,H',⟨by have:=a8.out;have:=bi.out;have:=bj.out;omega⟩,⟨by(try simp only [ab]);(try simp only [ai]);(try simp only [al]);(with_reducible repeat(first|apply rA|apply rN|apply rD));exact rM ac.out (fun _ hk=>hk.1)⟩,⟨by(try simp only [ab]);(try simp only [ai]);(try simp only [al]);(with_reducible repeat(first|apply rA|apply rN|apply rD));exact rM am.out (fun _ hk=>hk.1)⟩,⟨by(try simp only [ab]);(try simp only [ai]);(try simp only [al]);exact zK_ aa⟩,⟨zB_ HB⟩⟩
     rw [if_neg bh] at H;have aH:=dF bh;(try simp only [ab] at aH);(try simp only [ai] at aH);clear bh;obtain rfl:=sI H;obtain⟨dG,dH,df⟩:=rS am.out;subst df
     go_wp2
     go_ret
     exact⟨_,by first|rfl|(simp [*] <;> rfl),zmR ac (fun _ hk=>trivial),zB_ HB⟩
end Go.Proofs.Ytmegggomhjgehaa.PFnCoverConj
