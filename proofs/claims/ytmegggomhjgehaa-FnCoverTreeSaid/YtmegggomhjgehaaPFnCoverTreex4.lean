import Derived.Test.YtmegggomhjgehaaPFnCoverTreex0
namespace Go.Proofs.Ytmegggomhjgehaa.PFnCoverTree
open Go.RowKit Go.Proofs.YtmegggomhjgehaaW.PrintWords Go.Proofs.YtmegggomhjgehaaW.PrintLast Go.Proofs.YtmegggomhjgehaaW.PrintMore
set_option maxHeartbeats 8000000
set_option maxRecDepth 100000
attribute [local go_sem] max2_int min2_int max_two min_two max_three min_three max_four min_four
set_option linter.unusedVariables false
set_option linter.unusedSimpArgs false
mutual
def ik_.l0:Nat→Int→List Int→Int→Int→List Int→List Int→Option (List Int)
  | 0,_,_,_,_,_,_=>none
  | k+1,x1,x5,ae,ac,aa,ab=>if ac<ae then (if 0≤ac then (if ac<(x5.length:Int) then (ik_.l0 k x1 (x5.set (ac:Int).toNat (-1)) ae (wrap64 (ac+1)) aa ab) else (none)) else (none)) else (if 0≤x1 then (if x1<(x5.length:Int) then (ik_.l1 k (x5.set (x1:Int).toNat 0) (([x1]:List Int)) 0 aa ab) else (none)) else (none))
def ik_.l1:Nat→List Int→List Int→Int→List Int→List Int→Option (List Int)
  | 0,_,_,_,_,_=>none
  | k+1,x5,x7,x8,aa,ab=>if x8<(x7.length:Int) then (if 0≤x8 then (if 0≤(rd x7 x8) then (if (rd x7 x8)<(aa.length:Int) then (if (rd x7 x8)<(ab.length:Int) then ((some (([rd aa (rd x7 x8),rd ab (rd x7 x8)]:List Int):List Int)).bind fun ac=>(ik_.l2 k x5 x7 x8 ac (ac.length:Int) 0 aa ab)) else (none)) else (none)) else (none)) else (none)) else (some x5)
def ik_.l2:Nat→List Int→List Int→Int→List Int→Int→Int→List Int→List Int→Option (List Int)
  | 0,_,_,_,_,_,_,_,_=>none
  | k+1,x5,x7,x8,ae,af,aa,ab,ac=>if aa<af then (if 0≤aa then (if aa<(ae.length:Int) then (if 0≤(rd ae aa) then (if (rd ae aa)<(x5.length:Int) then (if (rd x5 (rd ae aa))<0 then (if x7.length<17592186044416 then (ik_.l2 k (x5.set ((rd ae aa):Int).toNat (x7.length:Int)) (x7 ++ [rd ae aa]) x8 ae af (wrap64 (aa+1)) ab ac) else (none)) else (ik_.l2 k x5 x7 x8 ae af (wrap64 (aa+1)) ab ac)) else (none)) else (none)) else (none)) else (none)) else (ik_.l1 k x5 x7 (wrap64 (x8+1)) ab ac)
end
def ik_.f (k:Nat) (aa:List Int) (ac:List Int) (a1:Int):Option (List Int):=if 0≤(aa.length:Int) then (if ((aa.length:Int):Int).toNat≤35184372088832 then ((some (List.replicate ((aa.length:Int):Int).toNat 0:List Int)).bind fun ab=>(ik_.l0 k a1 ab (ab.length:Int) 0 aa ac)) else (none)) else (none)
def ik_.T12:Bool×List (List Nat×List Nat):=(true,[([],[]),([0],[0]),([],[]),([],[]),([2,3],[2,3]),([4],[4]),([1,5],[1,5]),([6],[6]),([],[]),([8],[8]),([],[]),([],[]),([10,11],[10,11]),([12],[12]),([9,13],[9,13]),([14],[14]),([7,15],[7,15]),([16],[16]),([],[])])
def ik_.B12:List Nat := [0,1,0,0,12,28,63,127,0,256,0,0,3072,7168,16128,32512,65535,131071,0]
theorem ik_.tab12:rtab .any (opsOf Try.f61 12)=ik_.T12:=by kernel_rfl
theorem ik_.bits12:waitsOk ik_.T12.2 ik_.B12=true:=by kernel_rfl
theorem ik_.calls (k:Nat) (aK:Option Addr) (ay:Nat) (ag:List Int) (aM:Option Addr) (az:Nat) (aj:List Int) (a1:Int) (r:List Int) (w:World) (b6:Kd.C (Kd.int .i64) w aK ag.length ag) (b7:ag.length≤ay) (b8:Kd.C (Kd.int .i64) w aM aj.length aj) (b9:aj.length≤az) (h:ik_.f k ag aj a1=some r) :
    Calls Try.prog 61 #[.agg #[.slice aK ag.length ay,.slice aM aj.length az],.int .i64 a1] w fun e w' => ∃ v0_:Value,e = .returned (v0_)∧Kd.R (Kd.int .i64) 3 w' w.heap.size (fun _=>True) v0_ r∧Below w.heap.size w w':=by
 have dv:=Try.underlying25;have cC:=A0_ b6;have dm:=A0_ b7;clear b6 b7;have cE:=A0_ b8;have dn:=A0_ b9;clear b8 b9
 have HB:=A0_ (Below.refl w.heap.size w)
 have H:(if 0≤(ag.length:Int) then (if ((ag.length:Int):Int).toNat≤35184372088832 then ((some (List.replicate ((ag.length:Int):Int).toNat 0:List Int)).bind fun aD=>(ik_.l0 k a1 aD (aD.length:Int) 0 ag aj)) else (none)) else (none))=some r:=h
 clear h
 have c3:=zpc H;replace H:=zph H
 have bQ:=eq_true c3;have bR:=dT c3;clear c3
 have c4:=zpc H;replace H:=zph H
 have bU:=eq_true c4;have bV:=dT c4;clear c4
 obtain⟨aD,bl⟩ : ∃ y_:List Int,y_=(List.replicate ((ag.length:Int):Int).toNat 0):=⟨_,rfl⟩
 replace H:(ik_.l0 k a1 aD (aD.length:Int) 0 ag aj)=some r:=zH bl H
 have ca:=A0_ bl;clear bl;have H':=A0_ H;clear H
 go_enter Try.func61,Try.ntmps61
 go_wp2_with (first|((with_reducible refine gD (N:=2) rfl ?_);refine zX (N:=2) (cs := #[.slice aK ag.length ay,.slice aM aj.length az]) (t:=25) ?_;intro av hg w5 hbox hb;have aa:=A0_ (hbox);have dp:=zG hg HB;have dq:=zG hg HB;replace HB:=zB HB hb;clear hb hbox hg;have ba:=zc0 aa;have bb:=zc1 aa;have bc:=kF aa.out 0;have bd:=kF aa.out 1)|((with_reducible refine gD (N:=14) rfl ?_);refine Kd.R_make (Kd.int .i64) _ 3 rfl (N:=14) rfl 23 _ _ rfl (ag.length:Int) rfl rfl Try.underlying23 (.int .i64 0) 8 info3 rfl (by decide) (by omega) 0 (ok:=fun _=>True) (okp:=fun _=>True) rfl (fun _ hk=>hk) trivial (zd) (Nat.le_trans (Nat.mul_le_mul_right _ (zd:(ag.length:Int).toNat≤35184372088832)) (by omega)) (Below.refl _ _) (Nat.le_refl _) ?_;intro dw w7 bO hb hg_ hnew_;clear hg_ hnew_;(first|rw [← ca.out] at bO|(simp only [Int.reduceToNat] at bO;rw [← ca.out] at bO));have cb:=A0_ (rL bO (bZ (zB_ HB)));replace aa:=zK aa hb;replace HB:=zB HB hb;clear hb bO;obtain⟨df,aA,dg⟩:=rS cb.out;subst dg))
 go_loopg [17] k (fun kq v17 w' => ∃ (aC:List Int) (ap:Int),v17 = .int .i64 ap∧Aside0 (ik_.l0 kq a1 aC (aD.length:Int) ap ag aj=some r)∧Aside0 (kq≤k)∧Aside0 (Kd.R (Kd.int .i64) 3 w' w.heap.size (fun _=>True) (.slice df aD.length aA) aC)∧Aside0 (w'.heap[av]? = some (.cells #[(.slice aK ag.length ay),(.slice aM aj.length az)] 25 (0,0)))∧Aside0 (Below w.heap.size w w'))
 case atStart=>exact⟨(aD),(0),zt,H',⟨Nat.le_refl _⟩,⟨zR_ cb⟩,⟨zK_ aa⟩,⟨zB_ HB⟩⟩
 case round =>
  clear H';(try clear c3);(try clear bQ);(try clear bR);(try clear c4);(try clear bU);(try clear bV);(try clear ba);(try clear bb);(try clear bc);(try clear bd);obtain⟨aC,ap,rfl,HA,a7,ac,aa,HB⟩:=hrel;have ab:=(rR ac.out).1;rw [ab] at ac;(try simp only [ab]);(try simp only [ab] at aa)
  cases gk with
  | zero=>exact absurd HA.out (by simp [ik_.l0])
  | succ k1 =>
   have H:=HA.out;clear HA;simp only [ik_.l0] at H
   by_cases a8:ap<(aD.length:Int)
   ·rw [if_pos a8] at H
    have aX:=dT a8;(try simp only [ab] at aX);clear a8
    have cR:=zpc H;replace H:=zph H
    have dr:=dT cR;clear cR
    have cS:=zpc H;replace H:=zph H
    have cF:=dT cS;(try simp only [ab] at cF);clear cS
    obtain⟨bW,bm⟩ : ∃ y_:List Int,y_=(aC.set (ap:Int).toNat (-1)):=⟨_,rfl⟩
    replace H:(ik_.l0 k1 a1 bW (aD.length:Int) (wrap64 (ap+1)) ag aj)=some r:=zH bm H
    have cG:=A0_ bm;clear bm;have H':=A0_ H;clear H
    have ck:0≤(ap:Int):=zd
    have cl:(ap:Int)<((aC.length:Int):Int):=zd
    obtain⟨bX,dx,cm,cn,gl13,cl13,HG13⟩:=Kd.R_form ac.out (by omega)
    (first|cases cm|(injection cm with ea_ en_ ec_;(first|subst ea_|(injection ea_ with ea_;subst ea_));subst ec_;clear en_))
    have GB13:=A0_ cn;have GG13:=A0_ HG13;clear cn gl13 HG13
    obtain⟨dh,di⟩:=Kd.R_celln 0 ac.out (ap:Int) ck cl
    replace ck:=eq_true ck;replace cl:=eq_true cl
    have HP14:=Kd.R_putg ac.out (ap:Int) (-1)
    go_wp2_with (first|((with_reducible refine gS (t:=3) (p:=22) rfl ?_);refine store_event (t:=3) (p:=22) (v := ?vo_w15) (w1:=(wr.setCell ⟨bX,(ap:Int).toNat,none⟩ (.int .i64 (-1)))) ?hg ?ho ?hn ?hr ?_;(case ho=>rfl);(case hg=>rfl);(case hn=>rfl);(case hr=>first|(go_simp;done)|(go_simp;rfl));intro w15 hw;have hg:wr.grownBy w15 (some bX):=(by rw [hw];exact HP14.2);have hp_:Kd.R (Kd.int .i64) 3 w15 w.heap.size (fun _=>True) (.slice (some ⟨bX,0,none⟩) aC.length aA) bW:=(by rw [hw,cG.out];exact HP14.1);clear HP14;replace aa:=A0_ (blk_grown (g:=av) (o := .cells #[.slice aK ag.length ay,.slice aM aj.length az] 25 (0,0)) (zK_ aa) hg (Kd.R_ne ac.out aa.out (by decide)));replace ac:=A0_ (hp_);replace HB:=A0_ ((by rw [hw];exact bS (HB.out) GB13.out:Below w.heap.size w w15));clear hg hw hp_))
    (try simp only [← ab])
    go_roundg k1
    case measure=>have:=a7.out;omega
    case rel=>exact⟨(bW),(wrap64 (ap+1)),zt,H',⟨by have:=a7.out;omega⟩,⟨by(try simp only [ab]);(with_reducible repeat(first|apply rA|apply rN|apply rD));exact ac.out⟩,⟨by(try simp only [ab]);exact zK_ aa⟩,⟨zB_ HB⟩⟩
   rw [if_neg a8] at H;have aX:=dF a8;(try simp only [ab] at aX);clear a8
   have cc:=zpc H;replace H:=zph H
   have cd:=dT cc;clear cc
   have ce:=zpc H;replace H:=zph H
   have bn:=dT ce;(try simp only [ab] at bn);clear ce
   obtain⟨bo,bp⟩ : ∃ y_:List Int,y_=(aC.set (a1:Int).toNat 0):=⟨_,rfl⟩
   replace H:(ik_.l1 k1 bo (([a1]:List Int)) 0 ag aj)=some r:=zH bp H
   have cH:=A0_ bp;clear bp
   obtain⟨co,bq⟩ : ∃ y_:List Int,y_=(([a1]:List Int)):=⟨_,rfl⟩
   replace H:(ik_.l1 k1 bo co 0 ag aj)=some r:=zH bq H
   have cf:=A0_ bq;clear bq;have H':=A0_ H;clear H
   have be:0≤(a1:Int):=zd
   have bf:(a1:Int)<((aC.length:Int):Int):=zd
   obtain⟨an,dy,cp,cq,gl18,cl18,HG18⟩:=Kd.R_form ac.out (by omega)
   (first|cases cp|(injection cp with ea_ en_ ec_;(first|subst ea_|(injection ea_ with ea_;subst ea_));subst ec_;clear en_))
   have GB18:=A0_ cq;have GG18:=A0_ HG18;clear cq gl18 HG18
   obtain⟨bP,dj⟩:=Kd.R_celln 0 ac.out (a1:Int) be bf
   replace be:=eq_true be;replace bf:=eq_true bf
   have HP19:=Kd.R_putg ac.out (a1:Int) 0
   go_wp2_with (first|((with_reducible refine gS (t:=3) (p:=26) rfl ?_);refine store_event (t:=3) (p:=26) (v := ?vo_w20) (w1:=(wr.setCell ⟨an,(a1:Int).toNat,none⟩ (.int .i64 0))) ?hg ?ho ?hn ?hr ?_;(case ho=>rfl);(case hg=>rfl);(case hn=>rfl);(case hr=>first|(go_simp;done)|(go_simp;rfl));intro w20 hw;have hg:wr.grownBy w20 (some an):=(by rw [hw];exact HP19.2);have hp_:Kd.R (Kd.int .i64) 3 w20 w.heap.size (fun _=>True) (.slice (some ⟨an,0,none⟩) aC.length aA) bo:=(by rw [hw,cH.out];exact HP19.1);clear HP19;replace aa:=A0_ (blk_grown (g:=av) (o := .cells #[.slice aK ag.length ay,.slice aM aj.length az] 25 (0,0)) (zK_ aa) hg (Kd.R_ne ac.out aa.out (by decide)));replace ac:=A0_ (hp_);replace HB:=A0_ ((by rw [hw];exact bS (HB.out) GB18.out:Below w.heap.size w w20));clear hg hw hp_)|((with_reducible refine gD (N:=28) rfl ?_);refine Kd.R_lit (Kd.int .i64) _ 3 ?hg (N:=28) ?hd (xs:=([a1]:List Int)) (inner := [.int .i64 a1]) (ok:=fun _=>True) (okp:=fun _=>True) ?hr ?hp (fun _ hk=>hk) trivial (Below.refl _ _) (Nat.le_refl _) (by simp) ?_;(case hd=>rfl);(case hg=>rfl);(case hr=>first|(go_simp;done)|(go_simp;rfl));(case hp=>exact(Reps.one (show Kd.M (Kd.int .i64) _ _ _ a1 [.int .i64 a1] from rfl) (Reps.none _ _)));intro dz w21 a4 hb hg_ hnew_;clear hg_ hnew_;(first|rw [← cf.out] at a4|(simp only [Int.reduceToNat] at a4;rw [← cf.out] at a4));have cI:=A0_ (rL (Kd.R_new' a4 (rX (zR_ ac))) (bZ (zB_ HB)));replace ac:=A0_ (Kd.R_elder' (zR_ ac) (Kd.R_base a4) hb);replace aa:=zK aa hb;replace HB:=zB HB hb;clear hb a4))
   go_loopg [7,8] k1 (fun kq v7 v8 w' => ∃ (aG:List Int) (ak:List Int) (ae:Int),v8 = .int .i64 ae∧Aside0 (ik_.l1 kq aG ak ae ag aj=some r)∧Aside0 (kq≤k1)∧Aside0 (Kd.R (Kd.int .i64) 3 w' w.heap.size (fun k_=>some k_≠(v7:Value).ownBlock) (.slice (some ⟨an,0,none⟩) aC.length aA) aG)∧Aside0 (Kd.R (Kd.int .i64) 3 w' w.heap.size (fun k_=>some k_≠((.slice (some ⟨an,0,none⟩) aC.length aA):Value).ownBlock) v7 ak)∧Aside0 (w'.heap[av]? = some (.cells #[(.slice aK ag.length ay),(.slice aM aj.length az)] 25 (0,0)))∧Aside0 (Below w.heap.size w w'))
   case atStart=>exact⟨(bo),(co),(0),zt,H',⟨Nat.le_refl _⟩,⟨by(try simp only [ab]);(with_reducible repeat(first|apply rA|apply rN|apply rD));exact rM ac.out (fun _ hk=>hk.2)⟩,⟨by(try simp only [ab]);(with_reducible repeat(first|apply rA|apply rN|apply rD));exact rM cI.out (fun _ hk=>hk.2)⟩,⟨by(try simp only [ab]);exact zK_ aa⟩,⟨zB_ HB⟩⟩
   case round =>
    clear H';(try clear c3);(try clear bQ);(try clear bR);(try clear c4);(try clear bU);(try clear bV);(try clear a8);(try clear aX);(try clear cc);(try clear cd);(try clear ce);(try clear bn);(try clear be);(try clear bf);(try clear ba);(try clear bb);(try clear bc);(try clear bd);(try clear bP);(try clear be);(try clear bf);obtain⟨aG,ak,ae,rfl,HA,bh,ac,am,aa,HB⟩:=hrel;have ai:=(rR ac.out).1;rw [ai] at ac;(try simp only [ai]);(try simp only [ai] at aa);(try simp only [ai] at am)
    cases gk with
    | zero=>exact absurd HA.out (by simp [ik_.l1])
    | succ k2 =>
     have H:=HA.out;clear HA;simp only [ik_.l1] at H
     by_cases bg:ae<(ak.length:Int)
     ·rw [if_pos bg] at H
      have aH:=dT bg;(try simp only [ab] at aH);(try simp only [ai] at aH);clear bg
      have cr:=zpc H;replace H:=zph H
      have cJ:=dT cr;clear cr
      have ct:=zpc H;replace H:=zph H
      have cK:=dT ct;clear ct
      have cu:=zpc H;replace H:=zph H
      have br:=dT cu;(try simp only [ab] at br);(try simp only [ai] at br);clear cu
      have cv:=zpc H;replace H:=zph H
      have bu:=dT cv;(try simp only [ab] at bu);(try simp only [ai] at bu);clear cv
      obtain⟨ah,bv⟩ : ∃ y_:List Int,y_=(([rd ag (rd ak ae),rd aj (rd ak ae)]:List Int)):=⟨_,rfl⟩
      replace H:(ik_.l2 k2 aG ak ae ah (ah.length:Int) 0 ag aj)=some r:=zH bv H
      have cg:=A0_ bv;clear bv;have H':=A0_ H;clear H;obtain⟨dA,dB,cY⟩:=rS am.out;subst cY
      try go_wp2
      replace ac:=A0_ (rD ac.out)
      replace am:=A0_ (rD am.out)
      replace aa:=A0_ (kD aa.out)
      replace HB:=A0_ (bD HB.out)
      have bw:0≤(ae:Int):=zd
      have bx:ae<(ak.length:Int):=zd
      obtain⟨a9,cZ,a5⟩:=tI (rR am.out).2.2 ae bw bx
      cases cZ
      replace bw:=eq_true bw;replace bx:=eq_true bx
      have bz:0≤((rd ak ae):Int):=zd
      have bB:(rd ak ae)<(ag.length:Int):=zd
      obtain⟨aY,da,aw⟩:=tI cC.out (rd ak ae) bz bB
      have aI:=aw
      cases da
      try replace aw:=(HB.out.cell (wL w _ aw)).trans aw
      replace bz:=eq_true bz;replace bB:=eq_true bB
      have bC:0≤(ae:Int):=zd
      have bE:ae<(ak.length:Int):=zd
      obtain⟨ch,db,a6⟩:=tI (rR am.out).2.2 ae bC bE
      obtain rfl:a9=ch:=(by injection db)
      replace bC:=eq_true bC;replace bE:=eq_true bE
      have bF:0≤((rd ak ae):Int):=zd
      have bG:(rd ak ae)<(aj.length:Int):=zd
      obtain⟨aZ,dc,ax⟩:=tI cE.out (rd ak ae) bF bG
      have aJ:=ax
      cases dc
      try replace ax:=(HB.out.cell (wL w _ ax)).trans ax
      replace bF:=eq_true bF;replace bG:=eq_true bG
      refine start_ (n:=19) (S:=fun w'=>w'.cell? ⟨av,0,none⟩=some (.slice (some aY) ag.length ay)∧w'.cell? ⟨av,1,none⟩=some (.slice (some aZ) aj.length az)∧w'.cell? (a9.add (ae).toNat)=some (.int .i64 (rd ak ae))∧w'.cell? (aY.add ((rd ak ae)).toNat)=some (.int .i64 (rd ag (rd ak ae)))∧w'.cell? (a9.add (ae).toNat)=some (.int .i64 (rd ak ae))∧w'.cell? (aZ.add ((rd ak ae)).toNat)=some (.int .i64 (rd aj (rd ak ae)))) (ds := []) (bs 19 0) (by kernel_rfl) rfl rfl ⟨(kC aa.out 0).trans rfl,(kC aa.out 1).trans rfl,a5,((HB.out.cell (wL w _ aI)).trans aI),a6,((HB.out.cell (wL w _ aJ)).trans aJ)⟩ (fun hHeld => ?_);refine with_tabW ik_.tab12 ik_.bits12 (fun HT_ HW_ => ?_)
      generalize wr.drew=w29 at ac am aa HB a5 aw a6 ax hHeld ⊢
      refine zP 0 (some 35) (bs 19 1) ?_
      refine zP 2 (some 37) (bs 19 5) ?_
      refine zP 3 (some 38) (bs 19 13) ?_
      refine zP 4 (some 39) (bs 19 29) ?_
      refine zP 8 (some 43) (bs 19 285) ?_
      refine zP 10 (some 45) (bs 19 1309) ?_
      refine zP 11 (some 46) (bs 19 3357) ?_
      refine zP 12 (some 47) (bs 19 7453) ?_
      refine zP 18 (some 53) (bs 19 269597) ?_
      refine zT 1 (some 36) (bs 19 269599) hHeld ?_
      refine zT 5 (some 40) (bs 19 269631) hHeld ?_
      refine zP 6 (some 41) (bs 19 269695) ?_
      refine zT 7 (some 42) (bs 19 269823) hHeld ?_
      refine zT 9 (some 44) (bs 19 270335) hHeld ?_
      refine zT 13 (some 48) (bs 19 278527) hHeld ?_
      refine zP 14 (some 49) (bs 19 294911) ?_
      refine zT 15 (some 50) (bs 19 327679) hHeld ?_
      refine one_ (i:=16) (N:=some 51) (bs 19 393215) rfl rfl (one_of HT_.out (by kernel_rfl)) (by decide) (fun K hK => ?_)
      refine Kd.R_lit_step (Kd.int .i64) _ 3 ?hg (N:=51) ?hd (xs:=([rd ag (rd ak ae),rd aj (rd ak ae)]:List Int)) (inner := [.int .i64 (rd ag (rd ak ae)),.int .i64 (rd aj (rd ak ae))]) (ok:=fun _=>True) (okp:=fun _=>True) ?hr ?hp (fun _ hk=>hk) trivial (Below.refl _ _) (Nat.le_refl _) (by simp) ?_;(case hd=>rfl);(case hg=>rfl);(case hr=>first|(go_simp;done)|(go_simp;rfl));(case hp=>exact(Reps.one (show Kd.M (Kd.int .i64) _ _ _ (rd ag (rd ak ae)) [.int .i64 (rd ag (rd ak ae))] from rfl) (Reps.one (show Kd.M (Kd.int .i64) _ _ _ (rd aj (rd ak ae)) [.int .i64 (rd aj (rd ak ae))] from rfl) (Reps.none _ _))))
      intro dC w30 aN hb hg_ hnew_
      have HS2_:=(hb.cell (wL _ _ (hHeld.2.2.1))).trans (hHeld.2.2.1)
      have HS4_:=(hb.cell (wL _ _ (hHeld.2.2.2.2.1))).trans (hHeld.2.2.2.2.1)
      clear hg_ hnew_
      (first|rw [← cg.out] at aN|(simp only [Int.reduceToNat] at aN;rw [← cg.out] at aN))
      have ci:=A0_ (rL (Kd.R_new' (Kd.R_new' aN (rX (zR_ ac))) (rX (zR_ am))) (bZ (zB_ HB)))
      replace ac:=A0_ (Kd.R_elder' (zR_ ac) (Kd.R_base aN) hb)
      replace am:=A0_ (Kd.R_elder' (zR_ am) (Kd.R_base aN) hb)
      replace aa:=zK aa hb;replace HB:=zB HB hb;clear hb aN;obtain⟨bY,aQ,cw⟩:=rS ci.out
      (first|subst cw|(injection cw with f1_ f2_ f3_;have f4_:=f1_.symm;have f5_:=f3_.symm;clear f1_ f2_ f3_;subst f4_;subst f5_))
      refine hK.out _ _ ⟨(kC aa.out 0).trans rfl,(kC aa.out 1).trans rfl,HS2_,((HB.out.cell (wL w _ aI)).trans aI),HS4_,((HB.out.cell (wL w _ aJ)).trans aJ)⟩ (fun hHeld => ?_)
      clear hK K
      refine zN (some 51) ?_
      refine zP 17 (some 52) (bs 19 524287) ?_
      refine done_ (done_of HT_.out (by kernel_rfl)) ?_
      try go_wp2
      (try generalize Value.pointer (some (a9.add (ae:Int).toNat))=pz_)
      (try generalize Value.pointer (some (ch.add (ae:Int).toNat))=pz_)
      go_loopg [7,53] k2 (fun kq v7 v53 w' => ∃ (ao:List Int) (aq:List Int) (af:Int),v53 = .int .i64 af∧Aside0 (ik_.l2 kq ao aq ae ah (ah.length:Int) af ag aj=some r)∧Aside0 (kq≤k2)∧Aside0 (Kd.R (Kd.int .i64) 3 w' w.heap.size (fun k_=>some k_≠(v7:Value).ownBlock∧some k_≠((.slice bY ah.length aQ):Value).ownBlock) (.slice (some ⟨an,0,none⟩) aG.length aA) ao)∧Aside0 (Kd.R (Kd.int .i64) 3 w' w.heap.size (fun k_=>some k_≠((.slice (some ⟨an,0,none⟩) aG.length aA):Value).ownBlock∧some k_≠((.slice bY ah.length aQ):Value).ownBlock) v7 aq)∧Aside0 (Kd.R (Kd.int .i64) 3 w' w.heap.size (fun k_=>some k_≠((.slice (some ⟨an,0,none⟩) aG.length aA):Value).ownBlock∧some k_≠(v7:Value).ownBlock) (.slice bY ah.length aQ) ah)∧Aside0 (w'.heap[av]? = some (.cells #[(.slice (some aY) ag.length ay),(.slice (some aZ) aj.length az)] 25 (0,0)))∧Aside0 (Below w.heap.size w w'))
      case atStart=>exact⟨(aG),(ak),(0),zt,H',⟨Nat.le_refl _⟩,⟨by(try simp only [ab]);(try simp only [ai]);(with_reducible repeat(first|apply rA|apply rN|apply rD));exact ac.out⟩,⟨by(try simp only [ab]);(try simp only [ai]);(with_reducible repeat(first|apply rA|apply rN|apply rD));exact am.out⟩,⟨by(try simp only [ab]);(try simp only [ai]);(with_reducible repeat(first|apply rA|apply rN|apply rD));exact rM ci.out (fun _ hk=>⟨hk.1.2,hk.2⟩)⟩,⟨by(try simp only [ab]);(try simp only [ai]);exact zK_ aa⟩,⟨zB_ HB⟩⟩
      case round =>
       clear H';(try clear c3);(try clear bQ);(try clear bR);(try clear c4);(try clear bU);(try clear bV);(try clear a8);(try clear aX);(try clear cc);(try clear cd);(try clear ce);(try clear bn);(try clear be);(try clear bf);(try clear bg);(try clear aH);(try clear cr);(try clear cJ);(try clear ct);(try clear cK);(try clear cu);(try clear br);(try clear cv);(try clear bu);(try clear ba);(try clear bb);(try clear bc);(try clear bd);(try clear a5);(try clear aw);(try clear a6);(try clear ax);(try clear bP);(try clear bw);(try clear bz);(try clear bC);(try clear be);(try clear bF);(try clear bx);(try clear bB);(try clear bE);(try clear bf);(try clear bG);obtain⟨ao,aq,af,rfl,HA,bi,ac,am,au,aa,HB⟩:=hrel;have al:=(rR ac.out).1;rw [al] at ac;(try simp only [al]);(try simp only [al] at aa);(try simp only [al] at am);(try simp only [al] at au)
       cases gk with
       | zero=>exact absurd HA.out (by simp [ik_.l2])
       | succ k3 =>
        have H:=HA.out;clear HA;simp only [ik_.l2] at H
        by_cases bj:af<(ah.length:Int)
        ·rw [if_pos bj] at H
         have aE:=dT bj;(try simp only [ab] at aE);(try simp only [ai] at aE);(try simp only [al] at aE);clear bj
         have cT:=zpc H;replace H:=zph H
         have dt:=dT cT;clear cT
         have cU:=zpc H;replace H:=zph H
         have bH:=dT cU;(try simp only [ab] at bH);(try simp only [ai] at bH);(try simp only [al] at bH);clear cU
         have cV:=zpc H;replace H:=zph H
         have du:=dT cV;clear cV
         have cW:=zpc H;replace H:=zph H
         have bI:=dT cW;(try simp only [ab] at bI);(try simp only [ai] at bI);(try simp only [al] at bI);clear cW
         by_cases bk:(rd ao (rd ah af))<0
         ·rw [if_pos bk] at H
          have cL:=dT bk;clear bk
          obtain⟨bJ,bK⟩ : ∃ y_:List Int,y_=(ao.set ((rd ah af):Int).toNat (aq.length:Int)):=⟨_,rfl⟩
          replace H:(if aq.length<17592186044416 then (ik_.l2 k3 bJ (aq ++ [rd ah af]) ae ah (ah.length:Int) (wrap64 (af+1)) ag aj) else (none))=some r:=zH bK H
          have cM:=A0_ bK;clear bK
          have cX:=zpc H;replace H:=zph H
          have cO:=A0_ cX;clear cX
          obtain⟨cx,bL⟩ : ∃ y_:List Int,y_=(aq ++ [rd ah af]):=⟨_,rfl⟩
          replace H:(ik_.l2 k3 bJ cx ae ah (ah.length:Int) (wrap64 (af+1)) ag aj)=some r:=zH bL H
          have cP:=A0_ bL;clear bL;have H':=A0_ H;clear H
          have aT:0≤(af:Int):=zd
          have aU:af<(ah.length:Int):=zd
          obtain⟨a3,b2,cj⟩:=tI (rR au.out).2.2 af aT aU
          cases b2
          replace aT:=eq_true aT;replace aU:=eq_true aU
          have aV:0≤((rd ah af):Int):=zd
          have aW:(rd ah af)<(ao.length:Int):=zd
          obtain⟨bM,b3,ar⟩:=tI (rR ac.out).2.2 (rd ah af) aV aW
          obtain rfl:(⟨an,0,none⟩:Addr)=bM:=(by injection b3)
          (first|simp only [add_plain] at ar|simp only [add_at] at ar|simp only [Addr.add,Nat.zero_add] at ar|skip)
          replace aV:=eq_true aV;replace aW:=eq_true aW;obtain⟨b4,b5,dd⟩:=rS am.out;subst dd
          have cy:0≤((rd ah af):Int):=zd
          have cz:((rd ah af):Int)<((ao.length:Int):Int):=zd
          obtain⟨dk,dl⟩:=Kd.R_celln 0 ac.out ((rd ah af):Int) cy cz
          replace cy:=eq_true cy;replace cz:=eq_true cz
          have HP42:=Kd.R_putg ac.out ((rd ah af):Int) (aq.length:Int)
          go_wp2_with (first|((with_reducible refine gS (t:=3) (p:=66) rfl ?_);refine store_event (t:=3) (p:=66) (v := ?vo_w43) (w1:=(wr.setCell ⟨an,((rd ah af):Int).toNat,none⟩ (.int .i64 (aq.length:Int)))) ?hg ?ho ?hn ?hr ?_;(case ho=>rfl);(case hg=>rfl);(case hn=>rfl);(case hr=>first|(go_simp;done)|(go_simp;rfl));intro w43 hw;have hg:wr.grownBy w43 (some an):=(by rw [hw];exact HP42.2);have hp_:Kd.R (Kd.int .i64) 3 w43 w.heap.size (fun k_=>some k_≠(.slice b4 aq.length b5:Value).ownBlock∧some k_≠(.slice (some a3) ah.length aQ:Value).ownBlock) (.slice (some ⟨an,0,none⟩) ao.length aA) bJ:=(by rw [hw,cM.out];exact HP42.1);clear HP42;replace am:=A0_ (Kd.R_after (v:=(.slice (some ⟨an,0,none⟩) ao.length aA)) (v1:=(.slice (some ⟨an,0,none⟩) ao.length aA)) (ok:=(fun k_=>some k_≠(.slice (some a3) ah.length aQ:Value).ownBlock)) (zmR am (fun _ hk=>⟨hk.2,hk.1⟩)) hg (.inl rfl));replace au:=A0_ (Kd.R_after (v:=(.slice (some ⟨an,0,none⟩) ao.length aA)) (v1:=(.slice (some ⟨an,0,none⟩) ao.length aA)) (ok:=(fun k_=>some k_≠(.slice b4 aq.length b5:Value).ownBlock)) (zmR au (fun _ hk=>⟨hk.2,hk.1⟩)) hg (.inl rfl));replace aa:=A0_ (blk_grown (g:=av) (o := .cells #[.slice (some aY) ag.length ay,.slice (some aZ) aj.length az] 25 (0,0)) (zK_ aa) hg (Kd.R_ne ac.out aa.out (by decide)));replace ac:=A0_ (hp_);replace HB:=A0_ ((by rw [hw];exact bS (HB.out) GB18.out:Below w.heap.size w w43));clear hg hw hp_)|((with_reducible refine gB (b := .append) (xs := #[.tmp 67,.tmp 69]) rfl ?_);at_builtin;refine Kd.R_append (Kd.int .i64) (w0:=w) w.heap.size rfl (.tmp 67) (.tmp 69) 23 3 (.int .i64 0) 8 rfl Try.underlying23 info3 rfl (by decide) (by omega) (.slice b4 aq.length b5) aq (rd ah af) [.int .i64 (rd ah af)] (fun k_=>some k_≠(.slice (some ⟨an,0,none⟩) ao.length aA:Value).ownBlock∧some k_≠(.slice (some a3) ah.length aQ:Value).ownBlock) (fun _=>False) rfl rfl ?aP (fun _ hk=>hk.elim) ?aF ?aO ?aB ?aS ?aL ?_;(case aP=>exact rfl);(case aB=>exact(zB_ HB));(case aF=>exact(fun k_ hk=>⟨Kd.fresh' (rX (zR_ ac)) k_ hk,Kd.fresh' (rX (zR_ au)) k_ hk⟩));(case aO=>exact(zmR am (fun _ hk=>⟨hk.2,hk.1⟩)));(case aS=>exact(bZ (zB_ HB)));(case aL=>have:=cO.out;omega);intro dD w44 ho hb hg hat;rw [← cP.out] at ho;replace ac:=A0_ (Kd.R_after (ok:=(fun k_=>some k_≠(.slice (some a3) ah.length aQ:Value).ownBlock)) (zmR ac (fun _ hk=>⟨hk.2,hk.1⟩)) hg hat);replace au:=A0_ (Kd.R_after (ok:=(fun k_=>some k_≠(.slice (some ⟨an,0,none⟩) ao.length aA:Value).ownBlock)) (zmR au (fun _ hk=>⟨hk.2,hk.1⟩)) hg hat);replace aa:=A0_ (blk_grown (g:=av) (o := .cells #[.slice (some aY) ag.length ay,.slice (some aZ) aj.length az] 25 (0,0)) (zK_ aa) hg (Kd.R_ne am.out aa.out (by decide)));replace HB:=A0_ (hb);have cQ:=A0_ (ho);clear am ho hb hg hat))
          (try simp only [← al])
          go_roundg k3
          case measure=>have:=a7.out;have:=bh.out;have:=bi.out;omega
          case rel=>exact⟨(bJ),(cx),(wrap64 (af+1)),zt,H',⟨by have:=a7.out;have:=bh.out;have:=bi.out;omega⟩,⟨by(try simp only [ab]);(try simp only [ai]);(try simp only [al]);(with_reducible repeat(first|apply rA|apply rN|apply rD));exact rM ac.out (fun _ hk=>⟨hk.2,hk.1⟩)⟩,⟨by(try simp only [ab]);(try simp only [ai]);(try simp only [al]);(with_reducible repeat(first|apply rA|apply rN|apply rD));exact cQ.out⟩,⟨by(try simp only [ab]);(try simp only [ai]);(try simp only [al]);(with_reducible repeat(first|apply rA|apply rN|apply rD));exact au.out⟩,⟨by(try simp only [ab]);(try simp only [ai]);(try simp only [al]);exact zK_ aa⟩,⟨zB_ HB⟩⟩
         rw [if_neg bk] at H;have cL:=dF bk;clear bk;have H':=A0_ H;clear H
         have aT:0≤(af:Int):=zd
         have aU:af<(ah.length:Int):=zd
         obtain⟨a3,b2,cj⟩:=tI (rR au.out).2.2 af aT aU
         cases b2
         replace aT:=eq_true aT;replace aU:=eq_true aU
         have aV:0≤((rd ah af):Int):=zd
         have aW:(rd ah af)<(ao.length:Int):=zd
         obtain⟨bM,b3,ar⟩:=tI (rR ac.out).2.2 (rd ah af) aV aW
         obtain rfl:(⟨an,0,none⟩:Addr)=bM:=(by injection b3)
         (first|simp only [add_plain] at ar|simp only [add_at] at ar|simp only [Addr.add,Nat.zero_add] at ar|skip)
         replace aV:=eq_true aV;replace aW:=eq_true aW
         go_wp2
         (try simp only [← al])
         go_roundg k3
         case measure=>have:=a7.out;have:=bh.out;have:=bi.out;omega
         case rel=>exact⟨(ao),(aq),(wrap64 (af+1)),zt,H',⟨by have:=a7.out;have:=bh.out;have:=bi.out;omega⟩,⟨by(try simp only [ab]);(try simp only [ai]);(try simp only [al]);(with_reducible repeat(first|apply rA|apply rN|apply rD));exact ac.out⟩,⟨by(try simp only [ab]);(try simp only [ai]);(try simp only [al]);(with_reducible repeat(first|apply rA|apply rN|apply rD));exact am.out⟩,⟨by(try simp only [ab]);(try simp only [ai]);(try simp only [al]);(with_reducible repeat(first|apply rA|apply rN|apply rD));exact au.out⟩,⟨by(try simp only [ab]);(try simp only [ai]);(try simp only [al]);exact zK_ aa⟩,⟨zB_ HB⟩⟩
        rw [if_neg bj] at H;have aE:=dF bj;(try simp only [ab] at aE);(try simp only [ai] at aE);(try simp only [al] at aE);clear bj;have H':=A0_ H;clear H
        go_wp2
        (try simp only [← ai,← al])
        go_roundg k3
        case measure=>have:=a7.out;have:=bh.out;have:=bi.out;omega
        case rel=>exact⟨(ao),(aq),(wrap64 (ae+1)),zt,H',⟨by have:=a7.out;have:=bh.out;have:=bi.out;omega⟩,⟨by(try simp only [ab]);(try simp only [ai]);(try simp only [al]);(with_reducible repeat(first|apply rA|apply rN|apply rD));exact rM ac.out (fun _ hk=>hk.1)⟩,⟨by(try simp only [ab]);(try simp only [ai]);(try simp only [al]);(with_reducible repeat(first|apply rA|apply rN|apply rD));exact rM am.out (fun _ hk=>hk.1)⟩,⟨by(try simp only [ab]);(try simp only [ai]);(try simp only [al]);exact zK_ aa⟩,⟨zB_ HB⟩⟩
     rw [if_neg bg] at H;have aH:=dF bg;(try simp only [ab] at aH);(try simp only [ai] at aH);clear bg;obtain rfl:=sI H;obtain⟨dE,dG,de⟩:=rS am.out;subst de
     go_wp2
     go_ret
     exact⟨_,by first|rfl|(simp [*] <;> rfl),zmR ac (fun _ hk=>trivial),zB_ HB⟩
def ih_.l0:Nat→List Int→List Int→Int→Int→Option (List Int)
  | 0,_,_,_,_=>none
  | k+1,x3,x8,x9,aa=>if aa<x9 then (if 0≤aa then (if aa<(x8.length:Int) then (if aa<(rd x8 aa) then (if x3.length<17592186044416 then (ih_.l0 k (x3 ++ [aa]) x8 x9 (wrap64 (aa+1))) else (none)) else (ih_.l0 k x3 x8 x9 (wrap64 (aa+1)))) else (none)) else (none)) else (some x3)
def ih_.f (k:Nat) (ab:List Int) (aa:List Int):Option (List Int):=ih_.l0 k (([]:List Int)) aa (aa.length:Int) 0
theorem ih_.calls (k:Nat) (aj:Option Addr) (ak:Nat) (af:List Int) (an:Option Addr) (al:Nat) (ab:List Int) (r:List Int) (w:World) (au:Kd.C (Kd.int .i64) w aj af.length af) (av:af.length≤ak) (aw:Kd.C (Kd.int .i64) w an ab.length ab) (ax:ab.length≤al) (h:ih_.f k af ab=some r) :
    Calls Try.prog 105 #[.agg #[.slice aj af.length ak,.slice an ab.length al]] w fun e w' => ∃ v0_:Value,e = .returned (v0_)∧Kd.R (Kd.int .i64) 3 w' w.heap.size (fun _=>True) v0_ r∧Below w.heap.size w w':=by
 have a5:=Try.underlying25;have aX:=A0_ au;have aY:=A0_ av;clear au av;have ay:=A0_ aw;have aZ:=A0_ ax;clear aw ax
 have HB:=A0_ (Below.refl w.heap.size w)
 have H:(ih_.l0 k (([]:List Int)) ab (ab.length:Int) 0)=some r:=h
 clear h
 obtain⟨aE,ao⟩ : ∃ y_:List Int,y_=(([]:List Int)):=⟨_,rfl⟩
 replace H:(ih_.l0 k aE ab (ab.length:Int) 0)=some r:=zH ao H
 have az:=A0_ ao;clear ao;have H':=A0_ H;clear H
 go_enter Try.func105,Try.ntmps105
 go_wp2_with (first|((with_reducible refine gD (N:=1) rfl ?_);refine zX (N:=1) (cs := #[.slice aj af.length ak,.slice an ab.length al]) (t:=25) ?_;intro aA hg w2 hbox hb;have ac:=A0_ (hbox);have a3:=zG hg HB;have a4:=zG hg HB;replace HB:=zB HB hb;clear hb hbox hg)|((with_reducible refine gD (N:=6) rfl ?_);refine Kd.R_lit (Kd.int .i64) _ 3 ?hg (N:=6) ?hd (xs:=([]:List Int)) (inner := []) (ok:=fun _=>True) (okp:=fun _=>True) ?hr ?hp (fun _ hk=>hk) trivial (Below.refl _ _) (Nat.le_refl _) (by simp) ?_;(case hd=>rfl);(case hg=>rfl);(case hr=>first|(go_simp;done)|(go_simp;rfl));(case hp=>exact(Reps.none _ _));intro a6 w3 aq hb hg_ hnew_;clear hg_ hnew_;(first|rw [← az.out] at aq|(simp only [Int.reduceToNat] at aq;rw [← az.out] at aq));have aM:=A0_ (rL aq (bZ (zB_ HB)));replace ac:=zK ac hb;replace HB:=zB HB hb;clear hb aq;have aG:=zc0 ac;have aH:=zc1 ac;have aI:=kF ac.out 0;have aJ:=kF ac.out 1))
 go_loopg [3,10] k (fun kq v3 v10 w' => ∃ (ai:List Int) (aa:Int),v10 = .int .i64 aa∧Aside0 (ih_.l0 kq ai ab (ab.length:Int) aa=some r)∧Aside0 (kq≤k)∧Aside0 (Kd.R (Kd.int .i64) 3 w' w.heap.size (fun _=>True) v3 ai)∧Aside0 (w'.heap[aA]? = some (.cells #[(.slice aj af.length ak),(.slice an ab.length al)] 25 (0,0)))∧Aside0 (Below w.heap.size w w'))
 case atStart=>exact⟨(aE),(0),zt,H',⟨Nat.le_refl _⟩,⟨zR_ aM⟩,⟨zK_ ac⟩,⟨zB_ HB⟩⟩
 case round =>
  clear H';(try clear aG);(try clear aH);(try clear aI);(try clear aJ);obtain⟨ai,aa,rfl,HA,aC,am,ac,HB⟩:=hrel
  cases gk with
  | zero=>exact absurd HA.out (by simp [ih_.l0])
  | succ k1 =>
   have H:=HA.out;clear HA;simp only [ih_.l0] at H
   by_cases c6:aa<(ab.length:Int)
   ·rw [if_pos c6] at H
    have aV:=dT c6;clear c6
    have c7:=zpc H;replace H:=zph H
    have a7:=dT c7;clear c7
    have c8:=zpc H;replace H:=zph H
    have a8:=dT c8;clear c8
    by_cases c9:aa<(rd ab aa)
    ·rw [if_pos c9] at H
     have aW:=dT c9;clear c9
     have aU:=zpc H;replace H:=zph H
     have aN:=A0_ aU;clear aU
     obtain⟨aK,ap⟩ : ∃ y_:List Int,y_=(ai ++ [aa]):=⟨_,rfl⟩
     replace H:(ih_.l0 k1 aK ab (ab.length:Int) (wrap64 (aa+1)))=some r:=zH ap H
     have aQ:=A0_ ap;clear ap;have H':=A0_ H;clear H
     have ag:0≤(aa:Int):=zd
     have ah:aa<(ab.length:Int):=zd
     obtain⟨aD,ar,ae⟩:=tI ay.out aa ag ah
     cases ar
     try replace ae:=(HB.out.cell (wL w _ ae)).trans ae
     replace ag:=eq_true ag;replace ah:=eq_true ah
     go_wp2_with (first|((with_reducible refine gB (b := .append) (xs := #[.tmp 18,.tmp 20]) rfl ?_);at_builtin;refine Kd.R_append (Kd.int .i64) (w0:=w) w.heap.size rfl (.tmp 18) (.tmp 20) 23 3 (.int .i64 0) 8 rfl Try.underlying23 info3 rfl (by decide) (by omega) u3 ai aa [.int .i64 aa] (fun _=>True) (fun _=>False) rfl rfl ?aP (fun _ hk=>hk.elim) ?aF ?aO ?aB ?aS ?aL ?_;(case aP=>exact rfl);(case aB=>exact(zB_ HB));(case aF=>exact(fun _ _=>trivial));(case aO=>exact(zR_ am));(case aS=>exact(bZ (zB_ HB)));(case aL=>have:=aN.out;omega);intro a9 w11 ho hb hg hat;rw [← aQ.out] at ho;replace ac:=A0_ (blk_grown (g:=aA) (o := .cells #[.slice aj af.length ak,.slice (some aD) ab.length al] 25 (0,0)) (zK_ ac) hg (Kd.R_ne am.out ac.out (by decide)));replace HB:=A0_ (hb);have aT:=A0_ (ho);clear am ho hb hg hat))
     go_roundg k1
     case measure=>have:=aC.out;omega
     case rel=>exact⟨(aK),(wrap64 (aa+1)),zt,H',⟨by have:=aC.out;omega⟩,⟨zR_ aT⟩,⟨zK_ ac⟩,⟨zB_ HB⟩⟩
    rw [if_neg c9] at H;have aW:=dF c9;clear c9;have H':=A0_ H;clear H
    have ag:0≤(aa:Int):=zd
    have ah:aa<(ab.length:Int):=zd
    obtain⟨aD,ar,ae⟩:=tI ay.out aa ag ah
    cases ar
    try replace ae:=(HB.out.cell (wL w _ ae)).trans ae
    replace ag:=eq_true ag;replace ah:=eq_true ah
    go_wp2
    go_roundg k1
    case measure=>have:=aC.out;omega
    case rel=>exact⟨(ai),(wrap64 (aa+1)),zt,H',⟨by have:=aC.out;omega⟩,⟨zR_ am⟩,⟨zK_ ac⟩,⟨zB_ HB⟩⟩
   rw [if_neg c6] at H;have aV:=dF c6;clear c6;obtain rfl:=sI H
   go_wp2
   go_ret
   exact⟨_,by first|rfl|(simp [*] <;> rfl),zR_ am,zB_ HB⟩
end Go.Proofs.Ytmegggomhjgehaa.PFnCoverTree
