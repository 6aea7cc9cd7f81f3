import Derived.Test.YtmegggomhjgehaaPFnCoverTreex16
namespace Go.Proofs.Ytmegggomhjgehaa.PFnCoverTree
open Go.RowKit Go.Proofs.YtmegggomhjgehaaW.PrintWords Go.Proofs.YtmegggomhjgehaaW.PrintLast Go.Proofs.YtmegggomhjgehaaW.PrintMore
set_option maxHeartbeats 8000000
set_option maxRecDepth 100000
attribute [local go_sem] max2_int min2_int max_two min_two max_three min_three max_four min_four
set_option linter.unusedVariables false
set_option linter.unusedSimpArgs false
mutual
def s17_.l0:Nat→Int→List Int→Int→List Int→List Int→Option (List Int)
  | 0,_,_,_,_,_=>none
  | k+1,x1,x5,x6,aa,ab=>if x6<(x5.length:Int) then (if 0≤x6 then (s17_.l0 k x1 (x5.set (x6:Int).toNat (-1)) (wrap64 (x6+1)) aa ab) else (none)) else (if 0≤x1 then (if x1<(x5.length:Int) then (s17_.l1 k (x5.set (x1:Int).toNat 0) (([x1]:List Int)) 0 aa ab) else (none)) else (none))
def s17_.l1:Nat→List Int→List Int→Int→List Int→List Int→Option (List Int)
  | 0,_,_,_,_,_=>none
  | k+1,x5,x7,x8,aa,ab=>if x8<(x7.length:Int) then (if 0≤x8 then (if 0≤(rd x7 x8) then (if (rd x7 x8)<(aa.length:Int) then (if (rd x7 x8)<(ab.length:Int) then (s17_.l2 k x5 x7 x8 (([rd aa (rd x7 x8),rd ab (rd x7 x8)]:List Int)) 0 aa ab) else (none)) else (none)) else (none)) else (none)) else (some x5)
def s17_.l2:Nat→List Int→List Int→Int→List Int→Int→List Int→List Int→Option (List Int)
  | 0,_,_,_,_,_,_,_=>none
  | k+1,x5,x7,x8,x9,aa,ab,ac=>if aa<2 then (if 0≤aa then (if aa<(x9.length:Int) then (if 0≤(rd x9 aa) then (if (rd x9 aa)<(x5.length:Int) then (if (rd x5 (rd x9 aa))<0 then (if x7.length<17592186044416 then (s17_.l2 k (x5.set ((rd x9 aa):Int).toNat (x7.length:Int)) (x7 ++ [rd x9 aa]) x8 x9 (wrap64 (aa+1)) ab ac) else (none)) else (s17_.l2 k x5 x7 x8 x9 (wrap64 (aa+1)) ab ac)) else (none)) else (none)) else (none)) else (none)) else (s17_.l1 k x5 x7 (wrap64 (x8+1)) ab ac)
end
def s17_.f (k:Nat) (aa:List Int) (ab:List Int) (a1:Int):Option (List Int):=if 0≤(aa.length:Int) then (if ((aa.length:Int):Int).toNat≤35184372088832 then (s17_.l0 k a1 (List.replicate ((aa.length:Int):Int).toNat 0) 0 aa ab) else (none)) else (none)
def s17_.T11:Bool×List (List Nat×List Nat):=(true,[([],[]),([0],[0]),([],[]),([],[]),([2,3],[2,3]),([4],[4]),([1,5],[1,5]),([6],[6]),([],[]),([8],[8]),([],[]),([],[]),([10,11],[10,11]),([12],[12]),([9,13],[9,13]),([14],[14]),([7,15],[7,15]),([16,0,1,2,3,4,5,6,7,8,9,10,11,12,13,14,15,16],[16])])
def s17_.B11:List Nat := [0,1,0,0,12,28,63,127,0,256,0,0,3072,7168,16128,32512,65535,131071]
theorem s17_.tab11:rtab .any (opsOf Try.f94 11)=s17_.T11:=by kernel_rfl
theorem s17_.bits11:waitsOk s17_.T11.2 s17_.B11=true:=by kernel_rfl
theorem s17_.calls (k:Nat) (aH:Option Addr) (az:Nat) (af:List Int) (aI:Option Addr) (aA:Nat) (ah:List Int) (a1:Int) (r:List Int) (w:World) (bY:Kd.C (Kd.int .i64) w aH af.length af) (b2:af.length≤az) (b3:Kd.C (Kd.int .i64) w aI ah.length ah) (b4:ah.length≤aA) (h:s17_.f k af ah a1=some r) :
    Calls Try.prog 94 #[.agg #[.slice aH af.length az,.slice aI ah.length aA],.int .i64 a1] w fun e w' => ∃ v0_:Value,e = .returned (v0_)∧Kd.R (Kd.int .i64) 3 w' w.heap.size (fun _=>True) v0_ r∧Below w.heap.size w w':=by
 have dE:=Try.underlying25;have cy:=A0_ bY;have dx:=A0_ b2;clear bY b2;have cz:=A0_ b3;have dy:=A0_ b4;clear b3 b4
 have HB:=A0_ (Below.refl w.heap.size w)
 have H:(if 0≤(af.length:Int) then (if ((af.length:Int):Int).toNat≤35184372088832 then (s17_.l0 k a1 (List.replicate ((af.length:Int):Int).toNat 0) 0 af ah) else (none)) else (none))=some r:=h
 clear h
 have c3:=zpc H;replace H:=zph H
 have bF:=eq_true c3;have bG:=dT c3;clear c3
 have c4:=zpc H;replace H:=zph H
 have bH:=eq_true c4;have bI:=dT c4;clear c4
 obtain⟨ci,bf⟩ : ∃ y_:List Int,y_=(List.replicate ((af.length:Int):Int).toNat 0):=⟨_,rfl⟩
 replace H:(s17_.l0 k a1 ci 0 af ah)=some r:=zH bf H
 have b5:=A0_ bf;clear bf;have H':=A0_ H;clear H
 go_enter Try.func94,Try.ntmps94
 go_wp2_with (first|((with_reducible refine gD (N:=2) rfl ?_);refine zX (N:=2) (cs := #[.slice aH af.length az,.slice aI ah.length aA]) (t:=25) ?_;intro aw hg w5 hbox hb;have aa:=A0_ (hbox);have dz:=zG hg HB;have dA:=zG hg HB;replace HB:=zB HB hb;clear hb hbox hg;have a4:=zc0 aa;have a5:=zc1 aa;have a6:=kF aa.out 0;have a7:=kF aa.out 1)|((with_reducible refine gD (N:=14) rfl ?_);refine Kd.R_make (Kd.int .i64) _ 3 rfl (N:=14) rfl 23 _ _ rfl (af.length:Int) rfl rfl Try.underlying23 (.int .i64 0) 8 info3 rfl (by decide) (by omega) 0 (ok:=fun _=>True) (okp:=fun _=>True) rfl (fun _ hk=>hk) trivial (zd) (Nat.le_trans (Nat.mul_le_mul_right _ (zd:(af.length:Int).toNat≤35184372088832)) (by omega)) (Below.refl _ _) (Nat.le_refl _) ?_;intro cZ w7 bC hb hg_ hnew_;clear hg_ hnew_;(first|rw [← b5.out] at bC|(simp only [Int.reduceToNat] at bC;rw [← b5.out] at bC));have cC:=A0_ (rL bC (bZ (zB_ HB)));replace aa:=zK aa hb;replace HB:=zB HB hb;clear hb bC))
 go_loopg [6] k (fun kq v6 w' => ∃ (au:List Int) (av:Int),v6 = .int .i64 av∧Aside0 (s17_.l0 kq a1 au av af ah=some r)∧Aside0 (kq≤k)∧Aside0 (Kd.R (Kd.int .i64) 3 w' w.heap.size (fun _=>True) cZ au)∧Aside0 (w'.heap[aw]? = some (.cells #[(.slice aH af.length az),(.slice aI ah.length aA)] 25 (0,0)))∧Aside0 (Below w.heap.size w w'))
 case atStart=>exact⟨(ci),(0),zt,H',⟨Nat.le_refl _⟩,⟨zR_ cC⟩,⟨zK_ aa⟩,⟨zB_ HB⟩⟩
 case round =>
  clear H';(try clear c3);(try clear bF);(try clear bG);(try clear c4);(try clear bH);(try clear bI);(try clear a4);(try clear a5);(try clear a6);(try clear a7);obtain⟨au,av,rfl,HA,aY,ac,aa,HB⟩:=hrel
  cases gk with
  | zero=>exact absurd HA.out (by simp [s17_.l0])
  | succ k1 =>
   have H:=HA.out;clear HA;simp only [s17_.l0] at H
   by_cases c9:av<(au.length:Int)
   ·rw [if_pos c9] at H
    have bJ:=dT c9;clear c9
    have cT:=zpc H;replace H:=zph H
    have dB:=dT cT;clear cT
    obtain⟨bK,bg⟩ : ∃ y_:List Int,y_=(au.set (av:Int).toNat (-1)):=⟨_,rfl⟩
    replace H:(s17_.l0 k1 a1 bK (wrap64 (av+1)) af ah)=some r:=zH bg H
    have cE:=A0_ bg;clear bg;have H':=A0_ H;clear H;obtain⟨dG,da,db⟩:=rS ac.out;subst db
    have cj:0≤(av:Int):=zd
    have ck:(av:Int)<((au.length:Int):Int):=zd
    obtain⟨bL,dH,cl,cm,gl11,cl11,HG11⟩:=Kd.R_form ac.out (by omega)
    (first|cases cl|(injection cl with ea_ en_ ec_;(first|subst ea_|(injection ea_ with ea_;subst ea_));subst ec_;clear en_))
    have GB11:=A0_ cm;have GG11:=A0_ HG11;clear cm gl11 HG11
    obtain⟨dr,dt⟩:=Kd.R_celln 0 ac.out (av:Int) cj ck
    replace cj:=eq_true cj;replace ck:=eq_true ck
    have HP13:=Kd.R_putg ac.out (av:Int) (-1)
    go_wp2_with (first|((with_reducible refine gS (t:=3) (p:=23) rfl ?_);refine store_event (t:=3) (p:=23) (v := ?vo_w14) (w1:=(wr.setCell ⟨bL,(av:Int).toNat,none⟩ (.int .i64 (-1)))) ?hg ?ho ?hn ?hr ?_;(case ho=>rfl);(case hg=>rfl);(case hn=>rfl);(case hr=>first|(go_simp;done)|(go_simp;rfl));intro w14 hw;have hg:wr.grownBy w14 (some bL):=(by rw [hw];exact HP13.2);have hp_:Kd.R (Kd.int .i64) 3 w14 w.heap.size (fun _=>True) (.slice (some ⟨bL,0,none⟩) au.length da) bK:=(by rw [hw,cE.out];exact HP13.1);clear HP13;replace aa:=A0_ (blk_grown (g:=aw) (o := .cells #[.slice aH af.length az,.slice aI ah.length aA] 25 (0,0)) (zK_ aa) hg (Kd.R_ne ac.out aa.out (by decide)));replace ac:=A0_ (hp_);replace HB:=A0_ ((by rw [hw];exact bS (HB.out) GB11.out:Below w.heap.size w w14));clear hg hw hp_))
    go_roundg k1
    case measure=>have:=aY.out;omega
    case rel=>exact⟨(bK),(wrap64 (av+1)),zt,H',⟨by have:=aY.out;omega⟩,⟨zR_ ac⟩,⟨zK_ aa⟩,⟨zB_ HB⟩⟩
   rw [if_neg c9] at H;have bJ:=dF c9;clear c9
   have b6:=zpc H;replace H:=zph H
   have b7:=dT b6;clear b6
   have b8:=zpc H;replace H:=zph H
   have b9:=dT b8;clear b8
   obtain⟨bh,bi⟩ : ∃ y_:List Int,y_=(au.set (a1:Int).toNat 0):=⟨_,rfl⟩
   replace H:(s17_.l1 k1 bh (([a1]:List Int)) 0 af ah)=some r:=zH bi H
   have cF:=A0_ bi;clear bi
   obtain⟨cn,bj⟩ : ∃ y_:List Int,y_=(([a1]:List Int)):=⟨_,rfl⟩
   replace H:(s17_.l1 k1 bh cn 0 af ah)=some r:=zH bj H
   have ca:=A0_ bj;clear bj;have H':=A0_ H;clear H;obtain⟨dI,aq,dc⟩:=rS ac.out;subst dc
   have a8:0≤(a1:Int):=zd
   have a9:(a1:Int)<((au.length:Int):Int):=zd
   obtain⟨am,dJ,co,cp,gl17,cl17,HG17⟩:=Kd.R_form ac.out (by omega)
   (first|cases co|(injection co with ea_ en_ ec_;(first|subst ea_|(injection ea_ with ea_;subst ea_));subst ec_;clear en_))
   have GB17:=A0_ cp;have GG17:=A0_ HG17;clear cp gl17 HG17
   obtain⟨bE,du⟩:=Kd.R_celln 0 ac.out (a1:Int) a8 a9
   replace a8:=eq_true a8;replace a9:=eq_true a9
   have HP19:=Kd.R_putg ac.out (a1:Int) 0
   go_wp2_with (first|((with_reducible refine gS (t:=3) (p:=26) rfl ?_);refine store_event (t:=3) (p:=26) (v := ?vo_w20) (w1:=(wr.setCell ⟨am,(a1:Int).toNat,none⟩ (.int .i64 0))) ?hg ?ho ?hn ?hr ?_;(case ho=>rfl);(case hg=>rfl);(case hn=>rfl);(case hr=>first|(go_simp;done)|(go_simp;rfl));intro w20 hw;have hg:wr.grownBy w20 (some am):=(by rw [hw];exact HP19.2);have hp_:Kd.R (Kd.int .i64) 3 w20 w.heap.size (fun _=>True) (.slice (some ⟨am,0,none⟩) au.length aq) bh:=(by rw [hw,cF.out];exact HP19.1);clear HP19;replace aa:=A0_ (blk_grown (g:=aw) (o := .cells #[.slice aH af.length az,.slice aI ah.length aA] 25 (0,0)) (zK_ aa) hg (Kd.R_ne ac.out aa.out (by decide)));replace ac:=A0_ (hp_);replace HB:=A0_ ((by rw [hw];exact bS (HB.out) GB17.out:Below w.heap.size w w20));clear hg hw hp_)|((with_reducible refine gD (N:=28) rfl ?_);refine Kd.R_lit (Kd.int .i64) _ 3 ?hg (N:=28) ?hd (xs:=([a1]:List Int)) (inner := [.int .i64 a1]) (ok:=fun _=>True) (okp:=fun _=>True) ?hr ?hp (fun _ hk=>hk) trivial (Below.refl _ _) (Nat.le_refl _) (by simp) ?_;(case hd=>rfl);(case hg=>rfl);(case hr=>first|(go_simp;done)|(go_simp;rfl));(case hp=>exact(Reps.one (show Kd.M (Kd.int .i64) _ _ _ a1 [.int .i64 a1] from rfl) (Reps.none _ _)));intro dK w21 aV hb hg_ hnew_;clear hg_ hnew_;(first|rw [← ca.out] at aV|(simp only [Int.reduceToNat] at aV;rw [← ca.out] at aV));have cG:=A0_ (rL (Kd.R_new' aV (rX (zR_ ac))) (bZ (zB_ HB)));replace ac:=A0_ (Kd.R_elder' (zR_ ac) (Kd.R_base aV) hb);replace aa:=zK aa hb;replace HB:=zB HB hb;clear hb aV))
   go_loopg [7,8] k1 (fun kq v7 v8 w' => ∃ (aD:List Int) (ai:List Int) (ae:Int),v8 = .int .i64 ae∧Aside0 (s17_.l1 kq aD ai ae af ah=some r)∧Aside0 (kq≤k1)∧Aside0 (Kd.R (Kd.int .i64) 3 w' w.heap.size (fun k_=>some k_≠(v7:Value).ownBlock) (.slice (some ⟨am,0,none⟩) au.length aq) aD)∧Aside0 (Kd.R (Kd.int .i64) 3 w' w.heap.size (fun k_=>some k_≠((.slice (some ⟨am,0,none⟩) au.length aq):Value).ownBlock) v7 ai)∧Aside0 (w'.heap[aw]? = some (.cells #[(.slice aH af.length az),(.slice aI ah.length aA)] 25 (0,0)))∧Aside0 (Below w.heap.size w w'))
   case atStart=>exact⟨(bh),(cn),(0),zt,H',⟨Nat.le_refl _⟩,⟨zmR ac (fun _ hk=>hk.2)⟩,⟨zmR cG (fun _ hk=>hk.2)⟩,⟨zK_ aa⟩,⟨zB_ HB⟩⟩
   case round =>
    clear H';(try clear c3);(try clear bF);(try clear bG);(try clear c4);(try clear bH);(try clear bI);(try clear c9);(try clear bJ);(try clear b6);(try clear b7);(try clear b8);(try clear b9);(try clear a8);(try clear a9);(try clear a4);(try clear a5);(try clear a6);(try clear a7);(try clear bE);(try clear a8);(try clear a9);obtain⟨aD,ai,ae,rfl,HA,bb,ac,al,aa,HB⟩:=hrel;have ag:=(rR ac.out).1;rw [ag] at ac;(try simp only [ag]);(try simp only [ag] at aa);(try simp only [ag] at al)
    cases gk with
    | zero=>exact absurd HA.out (by simp [s17_.l1])
    | succ k2 =>
     have H:=HA.out;clear HA;simp only [s17_.l1] at H
     by_cases ba:ae<(ai.length:Int)
     ·rw [if_pos ba] at H
      have aZ:=dT ba;(try simp only [ag] at aZ);clear ba
      have cq:=zpc H;replace H:=zph H
      have cH:=dT cq;clear cq
      have cr:=zpc H;replace H:=zph H
      have cI:=dT cr;clear cr
      have ct:=zpc H;replace H:=zph H
      have cb:=dT ct;(try simp only [ag] at cb);clear ct
      have cu:=zpc H;replace H:=zph H
      have cc:=dT cu;(try simp only [ag] at cc);clear cu
      obtain⟨aj,bk⟩ : ∃ y_:List Int,y_=(([rd af (rd ai ae),rd ah (rd ai ae)]:List Int)):=⟨_,rfl⟩
      replace H:(s17_.l2 k2 aD ai ae aj 0 af ah)=some r:=zH bk H
      have cd:=A0_ bk;clear bk;have H':=A0_ H;clear H;obtain⟨dL,dM,dd⟩:=rS al.out;subst dd
      try go_wp2
      replace ac:=A0_ (rD ac.out)
      replace al:=A0_ (rD al.out)
      replace aa:=A0_ (kD aa.out)
      replace HB:=A0_ (bD HB.out)
      have bl:0≤(ae:Int):=zd
      have bm:ae<(ai.length:Int):=zd
      obtain⟨a3,de,aW⟩:=tI (rR al.out).2.2 ae bl bm
      cases de
      replace bl:=eq_true bl;replace bm:=eq_true bm
      have bn:0≤((rd ai ae):Int):=zd
      have bo:(rd ai ae)<(af.length:Int):=zd
      obtain⟨aT,df,ax⟩:=tI cy.out (rd ai ae) bn bo
      have aE:=ax
      cases df
      try replace ax:=(HB.out.cell (wL w _ ax)).trans ax
      replace bn:=eq_true bn;replace bo:=eq_true bo
      have bp:0≤(ae:Int):=zd
      have bq:ae<(ai.length:Int):=zd
      obtain⟨ce,dg,aX⟩:=tI (rR al.out).2.2 ae bp bq
      obtain rfl:a3=ce:=(by injection dg)
      replace bp:=eq_true bp;replace bq:=eq_true bq
      have br:0≤((rd ai ae):Int):=zd
      have bu:(rd ai ae)<(ah.length:Int):=zd
      obtain⟨aU,dh,ay⟩:=tI cz.out (rd ai ae) br bu
      have aG:=ay
      cases dh
      try replace ay:=(HB.out.cell (wL w _ ay)).trans ay
      replace br:=eq_true br;replace bu:=eq_true bu
      refine start_ (n:=18) (S:=fun w'=>w'.cell? ⟨aw,0,none⟩=some (.slice (some aT) af.length az)∧w'.cell? ⟨aw,1,none⟩=some (.slice (some aU) ah.length aA)∧w'.cell? (a3.add (ae).toNat)=some (.int .i64 (rd ai ae))∧w'.cell? (aT.add ((rd ai ae)).toNat)=some (.int .i64 (rd af (rd ai ae)))∧w'.cell? (a3.add (ae).toNat)=some (.int .i64 (rd ai ae))∧w'.cell? (aU.add ((rd ai ae)).toNat)=some (.int .i64 (rd ah (rd ai ae)))) (ds := []) (bs 18 0) (by kernel_rfl) rfl rfl ⟨(kC aa.out 0).trans rfl,(kC aa.out 1).trans rfl,aW,((HB.out.cell (wL w _ aE)).trans aE),aX,((HB.out.cell (wL w _ aG)).trans aG)⟩ (fun hHeld => ?_);refine with_tabW s17_.tab11 s17_.bits11 (fun HT_ HW_ => ?_)
      generalize wr.drew=w29 at ac al aa HB aW ax aX ay hHeld ⊢
      refine zP 0 (some 35) (bs 18 1) ?_
      refine zP 2 (some 37) (bs 18 5) ?_
      refine zP 3 (some 38) (bs 18 13) ?_
      refine zP 4 (some 39) (bs 18 29) ?_
      refine zP 8 (some 43) (bs 18 285) ?_
      refine zP 10 (some 45) (bs 18 1309) ?_
      refine zP 11 (some 46) (bs 18 3357) ?_
      refine zP 12 (some 47) (bs 18 7453) ?_
      refine zT 1 (some 36) (bs 18 7455) hHeld ?_
      refine zT 5 (some 40) (bs 18 7487) hHeld ?_
      refine zP 6 (some 41) (bs 18 7551) ?_
      refine zT 7 (some 42) (bs 18 7679) hHeld ?_
      refine zT 9 (some 44) (bs 18 8191) hHeld ?_
      refine zT 13 (some 48) (bs 18 16383) hHeld ?_
      refine zP 14 (some 49) (bs 18 32767) ?_
      refine zT 15 (some 50) (bs 18 65535) hHeld ?_
      refine one_ (i:=16) (N:=some 51) (bs 18 131071) rfl rfl (one_of HT_.out (by kernel_rfl)) (by decide) (fun K hK => ?_)
      refine Kd.R_lit_step (Kd.int .i64) _ 3 ?hg (N:=51) ?hd (xs:=([rd af (rd ai ae),rd ah (rd ai ae)]:List Int)) (inner := [.int .i64 (rd af (rd ai ae)),.int .i64 (rd ah (rd ai ae))]) (ok:=fun _=>True) (okp:=fun _=>True) ?hr ?hp (fun _ hk=>hk) trivial (Below.refl _ _) (Nat.le_refl _) (by simp) ?_;(case hd=>rfl);(case hg=>rfl);(case hr=>first|(go_simp;done)|(go_simp;rfl));(case hp=>exact(Reps.one (show Kd.M (Kd.int .i64) _ _ _ (rd af (rd ai ae)) [.int .i64 (rd af (rd ai ae))] from rfl) (Reps.one (show Kd.M (Kd.int .i64) _ _ _ (rd ah (rd ai ae)) [.int .i64 (rd ah (rd ai ae))] from rfl) (Reps.none _ _))))
      intro bM w30 aJ hb hg_ hnew_
      have HS2_:=(hb.cell (wL _ _ (hHeld.2.2.1))).trans (hHeld.2.2.1)
      have HS4_:=(hb.cell (wL _ _ (hHeld.2.2.2.2.1))).trans (hHeld.2.2.2.2.1)
      clear hg_ hnew_
      (first|rw [← cd.out] at aJ|(simp only [Int.reduceToNat] at aJ;rw [← cd.out] at aJ))
      have cJ:=A0_ (rL (Kd.R_new' (Kd.R_new' aJ (rX (zR_ ac))) (rX (zR_ al))) (bZ (zB_ HB)))
      replace ac:=A0_ (Kd.R_elder' (zR_ ac) (Kd.R_base aJ) hb)
      replace al:=A0_ (Kd.R_elder' (zR_ al) (Kd.R_base aJ) hb)
      replace aa:=zK aa hb;replace HB:=zB HB hb;clear hb aJ
      refine hK.out _ _ ⟨(kC aa.out 0).trans rfl,(kC aa.out 1).trans rfl,HS2_,((HB.out.cell (wL w _ aE)).trans aE),HS4_,((HB.out.cell (wL w _ aG)).trans aG)⟩ (fun hHeld => ?_)
      clear hK K
      refine zN (some 51) ?_
      refine zP 17 (some 9) (bs 18 262143) ?_
      refine done_ (done_of HT_.out (by kernel_rfl)) ?_
      try go_wp2
      (try generalize Value.pointer (some (a3.add (ae:Int).toNat))=pz_)
      (try generalize Value.pointer (some (ce.add (ae:Int).toNat))=pz_)
      go_loopg [7,10] k2 (fun kq v7 v10 w' => ∃ (an:List Int) (ao:List Int) (ab:Int),v10 = .int .i64 ab∧Aside0 (s17_.l2 kq an ao ae aj ab af ah=some r)∧Aside0 (kq≤k2)∧Aside0 (Kd.R (Kd.int .i64) 3 w' w.heap.size (fun k_=>some k_≠(v7:Value).ownBlock∧some k_≠(bM:Value).ownBlock) (.slice (some ⟨am,0,none⟩) aD.length aq) an)∧Aside0 (Kd.R (Kd.int .i64) 3 w' w.heap.size (fun k_=>some k_≠((.slice (some ⟨am,0,none⟩) aD.length aq):Value).ownBlock∧some k_≠(bM:Value).ownBlock) v7 ao)∧Aside0 (Kd.R (Kd.int .i64) 3 w' w.heap.size (fun k_=>some k_≠((.slice (some ⟨am,0,none⟩) aD.length aq):Value).ownBlock∧some k_≠(v7:Value).ownBlock) bM aj)∧Aside0 (w'.heap[aw]? = some (.cells #[(.slice (some aT) af.length az),(.slice (some aU) ah.length aA)] 25 (0,0)))∧Aside0 (Below w.heap.size w w'))
      case atStart=>exact⟨(aD),(ai),(0),zt,H',⟨Nat.le_refl _⟩,⟨by(try simp only [ag]);(with_reducible repeat(first|apply rA|apply rN|apply rD));exact ac.out⟩,⟨by(try simp only [ag]);(with_reducible repeat(first|apply rA|apply rN|apply rD));exact al.out⟩,⟨by(try simp only [ag]);(with_reducible repeat(first|apply rA|apply rN|apply rD));exact rM cJ.out (fun _ hk=>⟨hk.1.2,hk.2⟩)⟩,⟨by(try simp only [ag]);exact zK_ aa⟩,⟨zB_ HB⟩⟩
      case round =>
       clear H';(try clear c3);(try clear bF);(try clear bG);(try clear c4);(try clear bH);(try clear bI);(try clear c9);(try clear bJ);(try clear b6);(try clear b7);(try clear b8);(try clear b9);(try clear a8);(try clear a9);(try clear ba);(try clear aZ);(try clear cq);(try clear cH);(try clear cr);(try clear cI);(try clear ct);(try clear cb);(try clear cu);(try clear cc);(try clear a4);(try clear a5);(try clear a6);(try clear a7);(try clear bE);(try clear aW);(try clear ax);(try clear aX);(try clear ay);(try clear a8);(try clear bl);(try clear bn);(try clear bp);(try clear br);(try clear a9);(try clear bm);(try clear bo);(try clear bq);(try clear bu);obtain⟨an,ao,ab,rfl,HA,bc,ac,al,ap,aa,HB⟩:=hrel;have ak:=(rR ac.out).1;rw [ak] at ac;(try simp only [ak]);(try simp only [ak] at aa);(try simp only [ak] at al);(try simp only [ak] at ap)
       cases gk with
       | zero=>exact absurd HA.out (by simp [s17_.l2])
       | succ k3 =>
        have H:=HA.out;clear HA;simp only [s17_.l2] at H
        by_cases bd:ab<2
        ·rw [if_pos bd] at H
         have cK:=dT bd;clear bd
         have cU:=zpc H;replace H:=zph H
         have dC:=dT cU;clear cU
         have cV:=zpc H;replace H:=zph H
         have cf:=dT cV;(try simp only [ag] at cf);(try simp only [ak] at cf);clear cV
         have cW:=zpc H;replace H:=zph H
         have dD:=dT cW;clear cW
         have cX:=zpc H;replace H:=zph H
         have cg:=dT cX;(try simp only [ag] at cg);(try simp only [ak] at cg);clear cX
         by_cases be:(rd an (rd aj ab))<0
         ·rw [if_pos be] at H
          have cL:=dT be;clear be
          obtain⟨bv,bw⟩ : ∃ y_:List Int,y_=(an.set ((rd aj ab):Int).toNat (ao.length:Int)):=⟨_,rfl⟩
          replace H:(if ao.length<17592186044416 then (s17_.l2 k3 bv (ao ++ [rd aj ab]) ae aj (wrap64 (ab+1)) af ah) else (none))=some r:=zH bw H
          have cM:=A0_ bw;clear bw
          have cY:=zpc H;replace H:=zph H
          have cO:=A0_ cY;clear cY
          obtain⟨cv,bx⟩ : ∃ y_:List Int,y_=(ao ++ [rd aj ab]):=⟨_,rfl⟩
          replace H:(s17_.l2 k3 bv cv ae aj (wrap64 (ab+1)) af ah)=some r:=zH bx H
          have cP:=A0_ bx;clear bx;have H':=A0_ H;clear H;obtain⟨dN,bz,di⟩:=rS ap.out;subst di
          have aK:0≤(ab:Int):=zd
          have aM:ab<(aj.length:Int):=zd
          obtain⟨aC,bO,ch⟩:=tI (rR ap.out).2.2 ab aK aM
          cases bO
          replace aK:=eq_true aK;replace aM:=eq_true aM
          have aN:0≤((rd aj ab):Int):=zd
          have aQ:(rd aj ab)<(an.length:Int):=zd
          obtain⟨bB,bP,ar⟩:=tI (rR ac.out).2.2 (rd aj ab) aN aQ
          obtain rfl:(⟨am,0,none⟩:Addr)=bB:=(by injection bP)
          (first|simp only [add_plain] at ar|simp only [add_at] at ar|simp only [Addr.add,Nat.zero_add] at ar|skip)
          replace aN:=eq_true aN;replace aQ:=eq_true aQ
          have bQ:0≤(ab:Int):=zd
          have bR:ab<(aj.length:Int):=zd
          obtain⟨cQ,dj,dp⟩:=tI (rR ap.out).2.2 ab bQ bR
          obtain rfl:aC=cQ:=(by injection dj)
          replace bQ:=eq_true bQ;replace bR:=eq_true bR;obtain⟨bU,bV,dk⟩:=rS al.out;subst dk
          have cw:0≤((rd aj ab):Int):=zd
          have cx:((rd aj ab):Int)<((an.length:Int):Int):=zd
          obtain⟨dv,dw⟩:=Kd.R_celln 0 ac.out ((rd aj ab):Int) cw cx
          replace cw:=eq_true cw;replace cx:=eq_true cx
          have HP42:=Kd.R_putg ac.out ((rd aj ab):Int) (ao.length:Int)
          go_wp2_with (first|((with_reducible refine gS (t:=3) (p:=71) rfl ?_);refine store_event (t:=3) (p:=71) (v := ?vo_w43) (w1:=(wr.setCell ⟨am,((rd aj ab):Int).toNat,none⟩ (.int .i64 (ao.length:Int)))) ?hg ?ho ?hn ?hr ?_;(case ho=>rfl);(case hg=>rfl);(case hn=>rfl);(case hr=>first|(go_simp;done)|(go_simp;rfl));intro w43 hw;have hg:wr.grownBy w43 (some am):=(by rw [hw];exact HP42.2);have hp_:Kd.R (Kd.int .i64) 3 w43 w.heap.size (fun k_=>some k_≠(.slice bU ao.length bV:Value).ownBlock∧some k_≠(.slice (some aC) aj.length bz:Value).ownBlock) (.slice (some ⟨am,0,none⟩) an.length aq) bv:=(by rw [hw,cM.out];exact HP42.1);clear HP42;replace al:=A0_ (Kd.R_after (v:=(.slice (some ⟨am,0,none⟩) an.length aq)) (v1:=(.slice (some ⟨am,0,none⟩) an.length aq)) (ok:=(fun k_=>some k_≠(.slice (some aC) aj.length bz:Value).ownBlock)) (zmR al (fun _ hk=>⟨hk.2,hk.1⟩)) hg (.inl rfl));replace ap:=A0_ (Kd.R_after (v:=(.slice (some ⟨am,0,none⟩) an.length aq)) (v1:=(.slice (some ⟨am,0,none⟩) an.length aq)) (ok:=(fun k_=>some k_≠(.slice bU ao.length bV:Value).ownBlock)) (zmR ap (fun _ hk=>⟨hk.2,hk.1⟩)) hg (.inl rfl));replace aa:=A0_ (blk_grown (g:=aw) (o := .cells #[.slice (some aT) af.length az,.slice (some aU) ah.length aA] 25 (0,0)) (zK_ aa) hg (Kd.R_ne ac.out aa.out (by decide)));replace ac:=A0_ (hp_);replace HB:=A0_ ((by rw [hw];exact bS (HB.out) GB17.out:Below w.heap.size w w43));clear hg hw hp_;have bW:0≤(ab:Int):=zd;have bX:ab<(aj.length:Int):=zd;obtain⟨cR,dl,dq⟩:=tI (rR ap.out).2.2 ab bW bX;obtain rfl:aC=cR:=(by injection dl);replace bW:=eq_true bW;replace bX:=eq_true bX)|((with_reducible refine gB (b := .append) (xs := #[.tmp 72,.tmp 77]) rfl ?_);at_builtin;refine Kd.R_append (Kd.int .i64) (w0:=w) w.heap.size rfl (.tmp 72) (.tmp 77) 23 3 (.int .i64 0) 8 rfl Try.underlying23 info3 rfl (by decide) (by omega) (.slice bU ao.length bV) ao (rd aj ab) [.int .i64 (rd aj ab)] (fun k_=>some k_≠(.slice (some ⟨am,0,none⟩) an.length aq:Value).ownBlock∧some k_≠(.slice (some aC) aj.length bz:Value).ownBlock) (fun _=>False) rfl rfl ?aP (fun _ hk=>hk.elim) ?aF ?aO ?aB ?aS ?aL ?_;(case aP=>exact rfl);(case aB=>exact(zB_ HB));(case aF=>exact(fun k_ hk=>⟨Kd.fresh' (rX (zR_ ac)) k_ hk,Kd.fresh' (rX (zR_ ap)) k_ hk⟩));(case aO=>exact(zmR al (fun _ hk=>⟨hk.2,hk.1⟩)));(case aS=>exact(bZ (zB_ HB)));(case aL=>have:=cO.out;omega);intro dO w44 ho hb hg hat;rw [← cP.out] at ho;replace ac:=A0_ (Kd.R_after (ok:=(fun k_=>some k_≠(.slice (some aC) aj.length bz:Value).ownBlock)) (zmR ac (fun _ hk=>⟨hk.2,hk.1⟩)) hg hat);replace ap:=A0_ (Kd.R_after (ok:=(fun k_=>some k_≠(.slice (some ⟨am,0,none⟩) an.length aq:Value).ownBlock)) (zmR ap (fun _ hk=>⟨hk.2,hk.1⟩)) hg hat);replace aa:=A0_ (blk_grown (g:=aw) (o := .cells #[.slice (some aT) af.length az,.slice (some aU) ah.length aA] 25 (0,0)) (zK_ aa) hg (Kd.R_ne al.out aa.out (by decide)));replace HB:=A0_ (hb);have cS:=A0_ (ho);clear al ho hb hg hat))
          (try simp only [← ak])
          go_roundg k3
          case measure=>have:=aY.out;have:=bb.out;have:=bc.out;omega
          case rel=>exact⟨(bv),(cv),(wrap64 (ab+1)),zt,H',⟨by have:=aY.out;have:=bb.out;have:=bc.out;omega⟩,⟨by(try simp only [ag]);(try simp only [ak]);(with_reducible repeat(first|apply rA|apply rN|apply rD));exact rM ac.out (fun _ hk=>⟨hk.2,hk.1⟩)⟩,⟨by(try simp only [ag]);(try simp only [ak]);(with_reducible repeat(first|apply rA|apply rN|apply rD));exact cS.out⟩,⟨by(try simp only [ag]);(try simp only [ak]);(with_reducible repeat(first|apply rA|apply rN|apply rD));exact ap.out⟩,⟨by(try simp only [ag]);(try simp only [ak]);exact zK_ aa⟩,⟨zB_ HB⟩⟩
         rw [if_neg be] at H;have cL:=dF be;clear be;have H':=A0_ H;clear H;obtain⟨dP,dQ,dm⟩:=rS ap.out;subst dm
         have aK:0≤(ab:Int):=zd
         have aM:ab<(aj.length:Int):=zd
         obtain⟨aC,bO,ch⟩:=tI (rR ap.out).2.2 ab aK aM
         cases bO
         replace aK:=eq_true aK;replace aM:=eq_true aM
         have aN:0≤((rd aj ab):Int):=zd
         have aQ:(rd aj ab)<(an.length:Int):=zd
         obtain⟨bB,bP,ar⟩:=tI (rR ac.out).2.2 (rd aj ab) aN aQ
         obtain rfl:(⟨am,0,none⟩:Addr)=bB:=(by injection bP)
         (first|simp only [add_plain] at ar|simp only [add_at] at ar|simp only [Addr.add,Nat.zero_add] at ar|skip)
         replace aN:=eq_true aN;replace aQ:=eq_true aQ
         go_wp2
         (try simp only [← ak])
         go_roundg k3
         case measure=>have:=aY.out;have:=bb.out;have:=bc.out;omega
         case rel=>exact⟨(an),(ao),(wrap64 (ab+1)),zt,H',⟨by have:=aY.out;have:=bb.out;have:=bc.out;omega⟩,⟨by(try simp only [ag]);(try simp only [ak]);(with_reducible repeat(first|apply rA|apply rN|apply rD));exact ac.out⟩,⟨by(try simp only [ag]);(try simp only [ak]);(with_reducible repeat(first|apply rA|apply rN|apply rD));exact al.out⟩,⟨by(try simp only [ag]);(try simp only [ak]);(with_reducible repeat(first|apply rA|apply rN|apply rD));exact ap.out⟩,⟨by(try simp only [ag]);(try simp only [ak]);exact zK_ aa⟩,⟨zB_ HB⟩⟩
        rw [if_neg bd] at H;have cK:=dF bd;clear bd;have H':=A0_ H;clear H
        go_wp2
        (try simp only [← ag,← ak])
        go_roundg k3
        case measure=>have:=aY.out;have:=bb.out;have:=bc.out;omega
        case rel=>exact⟨(an),(ao),(wrap64 (ae+1)),zt,H',⟨by have:=aY.out;have:=bb.out;have:=bc.out;omega⟩,⟨by(try simp only [ag]);(try simp only [ak]);(with_reducible repeat(first|apply rA|apply rN|apply rD));exact rM ac.out (fun _ hk=>hk.1)⟩,⟨by(try simp only [ag]);(try simp only [ak]);(with_reducible repeat(first|apply rA|apply rN|apply rD));exact rM al.out (fun _ hk=>hk.1)⟩,⟨by(try simp only [ag]);(try simp only [ak]);exact zK_ aa⟩,⟨zB_ HB⟩⟩
     rw [if_neg ba] at H;have aZ:=dF ba;(try simp only [ag] at aZ);clear ba;obtain rfl:=sI H;obtain⟨dR,dS,dn⟩:=rS al.out;subst dn
     go_wp2
     go_ret
     exact⟨_,by first|rfl|(simp [*] <;> rfl),zmR ac (fun _ hk=>trivial),zB_ HB⟩
def s1d_.l0:Nat→List Int→Int→Int→Option (Bool)
  | 0,_,_,_=>none
  | k+1,x0,x1,x5=>if x5<(x0.length:Int) then (if 0≤x5 then (if (rd x0 x5)=x1 then (some true) else (s1d_.l0 k x0 x1 (wrap64 (x5+1)))) else (none)) else (some false)
def s1d_.f (k:Nat) (l0:List Int) (a1:Int):Option (Bool):=s1d_.l0 k l0 a1 0
theorem s1d_.calls (k:Nat) (A0:Option Addr) (c0:Nat) (l0:List Int) (a1:Int) (r:Bool) (w:World) (ah:Kd.C (Kd.int .i64) w A0 l0.length l0) (ai:l0.length≤c0) (h:s1d_.f k l0 a1=some r) :
    Calls Try.prog 95 #[.slice A0 l0.length c0,.int .i64 a1] w fun e w'=>e = .returned (.bool r)∧Drawn0 w w':=by
 have aj:=A0_ ah;have ap:=A0_ ai;clear ah ai
 have H:(s1d_.l0 k l0 a1 0)=some r:=h
 clear h;have H':=A0_ H;clear H
 go_enter Try.func95,Try.ntmps95
 go_wp2
 go_loopg [5] k (fun kq v5 w' => ∃ (aa:Int),v5 = .int .i64 aa∧Aside0 (s1d_.l0 kq l0 a1 aa=some r)∧Aside0 (kq≤k)∧Drawn0 w w')
 case atStart=>exact⟨(0),zt,H',⟨Nat.le_refl _⟩,by repeat(first|exact Drawn0.refl _|apply Drawn0.step)⟩
 case round =>
  clear H';obtain⟨aa,rfl,HA,ak,⟨m1,rfl⟩⟩:=hrel
  cases gk with
  | zero=>exact absurd HA.out (by simp [s1d_.l0])
  | succ k1 =>
   have H:=HA.out;clear HA;simp only [s1d_.l0] at H
   by_cases c3:aa<(l0.length:Int)
   ·rw [if_pos c3] at H
    have al:=dT c3;clear c3
    have c4:=zpc H;replace H:=zph H
    have ao:=dT c4;clear c4
    by_cases c5:(rd l0 aa)=a1
    ·rw [if_pos c5] at H
     have am:((rd l0 aa) == a1)=true:=beq_iff_eq.mpr c5
     have an:((rd l0 aa) != a1)=false:=bne_eq_false_iff_eq.mpr c5
     clear c5;obtain rfl:=sI H
     have ab:0≤(aa:Int):=zd
     have ac:aa<(l0.length:Int):=zd
     obtain⟨ag,ae,af⟩:=tI aj.out aa ab ac
     cases ae
     replace ab:=eq_true ab;replace ac:=eq_true ac
     go_wp2
     go_ret
     exact⟨by first|rfl|(simp;done)|(simp [*];done),by repeat(first|exact Drawn0.refl _|apply Drawn0.step)⟩
    rw [if_neg c5] at H
    have am:((rd l0 aa) == a1)=false:=beq_eq_false_iff_ne.mpr c5
    have an:((rd l0 aa) != a1)=true:=bne_iff_ne.mpr c5
    have H':=A0_ H;clear H
    have ab:0≤(aa:Int):=zd
    have ac:aa<(l0.length:Int):=zd
    obtain⟨ag,ae,af⟩:=tI aj.out aa ab ac
    cases ae
    replace ab:=eq_true ab;replace ac:=eq_true ac
    go_wp2
    go_roundg k1
    case measure=>have:=ak.out;omega
    case rel=>exact⟨(wrap64 (aa+1)),zt,H',⟨by have:=ak.out;omega⟩,by repeat(first|exact Drawn0.refl _|apply Drawn0.step)⟩
   rw [if_neg c3] at H;have al:=dF c3;clear c3;obtain rfl:=sI H
   go_wp2
   go_ret
   exact⟨by first|rfl|(simp;done)|(simp [*];done),by repeat(first|exact Drawn0.refl _|apply Drawn0.step)⟩
def s1j_.f (k:Nat) (ac:List Int) (ab:List Int) (l1:List (List Int)) (a2:Int):Option (List Int):=(s1c_.f k ac ab).bind fun aa=>(if 0≤a2 then (if a2<(aa.length:Int) then (if a2<(ab.length:Int) then (if a2<(rd ab a2) then (if 0≤(rd aa a2) then (if (rd aa a2)<(l1.length:Int) then (some (rd_L1 l1 (rd aa a2))) else (none)) else (none)) else (if 0≤(rd aa a2) then (if (rd aa a2)<(l1.length:Int) then ((s10_.f k (rd_L1 l1 (rd aa a2))).bind fun ae=>(some ae)) else (none)) else (none))) else (none)) else (none)) else (none))
theorem s1j_.calls (k:Nat) (aq:Option Addr) (ar:Nat) (af:List Int) (au:Option Addr) (av:Nat) (ac:List Int) (P1_:Nat→Prop) (A1:Option Addr) (c1:Nat) (l1:List (List Int)) (a2:Int) (r:List Int) (w:World) (aW:Kd.C (Kd.int .i64) w aq af.length af) (aX:af.length≤ar) (aY:Kd.C (Kd.int .i64) w au ac.length ac) (aZ:ac.length≤av) (bO:Kd.V (Kd.slice 3 (Kd.int .i64)) 23 w w.heap.size (fun k_=>P1_ k_) (.slice A1 l1.length c1) l1) (h:s1j_.f k af ac l1 a2=some r) :
    Calls Try.prog 96 #[.agg #[.slice aq af.length ar,.slice au ac.length av],.slice A1 l1.length c1,.int .i64 a2] w fun e w' => ∃ v0_:Value,e = .returned (v0_)∧Kd.V (Kd.int .i64) 3 w' w.heap.size (fun k_=>(P1_ k_∨w.heap.size≤k_)) v0_ r∧Below w.heap.size w w':=by
 have b2:=Try.underlying25;have a3:=A0_ aW;have a4:=A0_ aX;clear aW aX;have ay:=A0_ aY;have a5:=A0_ aZ;clear aY aZ
 have ag:=A0_ (show Kd.V (Kd.slice 3 (Kd.int .i64)) 23 w w.heap.size (fun k_=>(P1_ k_∨w.heap.size≤k_)) (.slice A1 l1.length c1) l1 from Kd.V_mono bO (fun k_ hk => .inl hk))
 have HB:=A0_ (Below.refl w.heap.size w)
 have H:((s1c_.f k af ac).bind fun ab=>(if 0≤a2 then (if a2<(ab.length:Int) then (if a2<(ac.length:Int) then (if a2<(rd ac a2) then (if 0≤(rd ab a2) then (if (rd ab a2)<(l1.length:Int) then (some (rd_L1 l1 (rd ab a2))) else (none)) else (none)) else (if 0≤(rd ab a2) then (if (rd ab a2)<(l1.length:Int) then ((s10_.f k (rd_L1 l1 (rd ab a2))).bind fun aT=>(some aT)) else (none)) else (none))) else (none)) else (none)) else (none)))=some r:=h
 clear h;obtain⟨ab,A4,H⟩:=zbind H
 have c5:=zpc H;replace H:=zph H
 have b3:=dT c5;clear c5
 have c6:=zpc H;replace H:=zph H
 have b4:=dT c6;clear c6
 have c7:=zpc H;replace H:=zph H
 have b5:=dT c7;clear c7
 by_cases c8:a2<(rd ac a2)
 ·rw [if_pos c8] at H
  have bk:=dT c8;clear c8
  have c9:=zpc H;replace H:=zph H
  have b6:=dT c9;clear c9
  have bh:=zpc H;replace H:=zph H
  have bU:=dT bh;clear bh;obtain rfl:=sI H
  go_enter Try.func96,Try.ntmps96
  go_wp2_with (first|((with_reducible refine gD (N:=3) rfl ?_);refine zX (N:=3) (cs := #[.slice aq af.length ar,.slice au ac.length av]) (t:=25) ?_;intro aE hg w11 hbox hb;replace ag:=A0_ (Kd.V_below (Kd.V_elderB (by(with_reducible repeat(first|apply Kd.V_alloc|apply Kd.V_drewN|apply Kd.V_drew));exact ag.out) aE (Nat.le_of_eq hg.symm)) hb);have aa:=A0_ (hbox);have bc:=zG hg HB;have bd:=zG hg HB;replace HB:=zB HB hb;clear hb hbox hg;have bq:=zc0 aa;have br:=zc1 aa;have bu:=kF aa.out 0;have bv:=kF aa.out 1)|((with_reducible refine gC (f:=112) rfl ?_);refine zJ (some 9) Try.func112 #[.agg #[.slice aq af.length ar,.slice au ac.length av]] ?_;(with_reducible refine(s1c_.calls k _ _ af _ _ ac ab _ ?ao ?ap ?aG ?aH A4.out).mono ?_);(case ao=>exact zC a3 HB);(case ap=>exact a4.out);(case aG=>exact zC ay HB);(case aH=>exact a5.out);rintro e w13 ⟨bl,rfl,ai,hb⟩;refine⟨_,rfl,?_⟩;replace ag:=A0_ (Kd.V_elder' (by(with_reducible repeat(first|apply Kd.V_alloc|apply Kd.V_drewN|apply Kd.V_drew));exact ag.out) (Kd.R_base ai) hb);have ah:=A0_ (rL (Kd.R_newM (M:=fun k_=>(w.heap.size≤k_)) ai (bZ (zB_ HB)) (fun k_ h_=>h_)) (bZ (zB_ HB)));replace aa:=zK aa hb;replace HB:=zB HB hb;(try clear hb);(try clear ai);obtain⟨b7,b8,bm⟩:=rS ah.out;subst bm;have ak:0≤(a2:Int):=zd;have al:a2<(ab.length:Int):=zd;obtain⟨be,aU,a6⟩:=tI (rR ah.out).2.2 a2 ak al;cases aU;replace ak:=eq_true ak;replace al:=eq_true al;have bw:=zc0 aa;have bx:=zc1 aa;have bz:=kF aa.out 0;have bB:=kF aa.out 1;have am:0≤(a2:Int):=zd;have an:a2<(ac.length:Int):=zd;obtain⟨bf,aV,ae⟩:=tI ay.out a2 am an;cases aV;try replace ae:=(HB.out.cell (wL w _ ae)).trans ae;replace am:=eq_true am;replace an:=eq_true an;have aI:0≤((rd ab a2):Int):=zd;have aJ:(rd ab a2)<(l1.length:Int):=zd;obtain⟨bV,bP,bQ,bn,a7,az,aA⟩:=at_L1 (Kd.V_reads' ag.out).2.2 (rd ab a2) aI aJ;cases bn;obtain⟨ce732,hce732,hMe732,aN⟩:=Kd.V_get ag.out [] (rd ab a2) aI (by first|exact aJ|exact zd|(have e_:=(Kd.V_reads' ag.out).1;omega));obtain⟨ua732_0,uc732_0,rfl,ul732_0,aw⟩:=Kd.FK_slice_open hMe732;have hv732_0:=aN 0 _ rfl;rw [Nat.add_zero,show((Kd.slice 3 (Kd.int .i64))).sz=1 from rfl,Nat.mul_one] at hv732_0;replace hv732_0:=sI (hv732_0.symm.trans a7);injection hv732_0 with hva_ hvn_ hvc_;rw [hva_] at aw;rw [hvc_] at ul732_0;have HL732_0:=A0_ (show Kd.V (Kd.int .i64) 3 _ w.heap.size _ _ (rd_L1 l1 (rd ab a2)) from Kd.V_mk ul732_0 aw);clear hva_ hvn_ hvc_ aw ul732_0 aN hce732;have bC:=A0_ aA;have bE:=A0_ az;clear aA az;replace aI:=eq_true aI;replace aJ:=eq_true aJ))
  go_ret
  exact⟨_,by first|rfl|(simp [*] <;> rfl),by(with_reducible repeat(first|apply Kd.V_alloc|apply Kd.V_drewN|apply Kd.V_drew));exact Kd.V_mono HL732_0.out (fun _ hk=>hk.1.1),zB_ HB⟩
 rw [if_neg c8] at H;have bk:=dF c8;clear c8
 have bi:=zpc H;replace H:=zph H
 have bW:=dT bi;clear bi
 have bj:=zpc H;replace H:=zph H
 have bX:=dT bj;clear bj;obtain⟨aT,bR,H⟩:=zbind H;obtain rfl:=sI H
 go_enter Try.func96,Try.ntmps96
 go_wp2_with (first|((with_reducible refine gD (N:=3) rfl ?_);refine zX (N:=3) (cs := #[.slice aq af.length ar,.slice au ac.length av]) (t:=25) ?_;intro aE hg w19 hbox hb;replace ag:=A0_ (Kd.V_below (Kd.V_elderB (by(with_reducible repeat(first|apply Kd.V_alloc|apply Kd.V_drewN|apply Kd.V_drew));exact ag.out) aE (Nat.le_of_eq hg.symm)) hb);have aa:=A0_ (hbox);have bc:=zG hg HB;have bd:=zG hg HB;replace HB:=zB HB hb;clear hb hbox hg;have bF:=zc0 aa;have bG:=zc1 aa;have bH:=kF aa.out 0;have bI:=kF aa.out 1)|((with_reducible refine gC (f:=112) rfl ?_);refine zJ (some 9) Try.func112 #[.agg #[.slice aq af.length ar,.slice au ac.length av]] ?_;(with_reducible refine(s1c_.calls k _ _ af _ _ ac ab _ ?ao ?ap ?aG ?aH A4.out).mono ?_);(case ao=>exact zC a3 HB);(case ap=>exact a4.out);(case aG=>exact zC ay HB);(case aH=>exact a5.out);rintro e w21 ⟨bl,rfl,ai,hb⟩;refine⟨_,rfl,?_⟩;replace ag:=A0_ (Kd.V_elder' (by(with_reducible repeat(first|apply Kd.V_alloc|apply Kd.V_drewN|apply Kd.V_drew));exact ag.out) (Kd.R_base ai) hb);have ah:=A0_ (rL (Kd.R_newM (M:=fun k_=>(w.heap.size≤k_)) ai (bZ (zB_ HB)) (fun k_ h_=>h_)) (bZ (zB_ HB)));replace aa:=zK aa hb;replace HB:=zB HB hb;(try clear hb);(try clear ai);obtain⟨b9,ca,bo⟩:=rS ah.out;subst bo;have ak:0≤(a2:Int):=zd;have al:a2<(ab.length:Int):=zd;obtain⟨be,aU,a6⟩:=tI (rR ah.out).2.2 a2 ak al;cases aU;replace ak:=eq_true ak;replace al:=eq_true al;have bJ:=zc0 aa;have bK:=zc1 aa;have bL:=kF aa.out 0;have bM:=kF aa.out 1;have am:0≤(a2:Int):=zd;have an:a2<(ac.length:Int):=zd;obtain⟨bf,aV,ae⟩:=tI ay.out a2 am an;cases aV;try replace ae:=(HB.out.cell (wL w _ ae)).trans ae;replace am:=eq_true am;replace an:=eq_true an;have aK:0≤((rd ab a2):Int):=zd;have aM:(rd ab a2)<(l1.length:Int):=zd;obtain⟨bY,ba,bb,bp,a8,aC,aD⟩:=at_L1 (Kd.V_reads' ag.out).2.2 (rd ab a2) aK aM;cases bp;obtain⟨ce733,hce733,hMe733,aQ⟩:=Kd.V_get ag.out [] (rd ab a2) aK (by first|exact aM|exact zd|(have e_:=(Kd.V_reads' ag.out).1;omega));obtain⟨ua733_0,uc733_0,rfl,ul733_0,ax⟩:=Kd.FK_slice_open hMe733;have hv733_0:=aQ 0 _ rfl;rw [Nat.add_zero,show((Kd.slice 3 (Kd.int .i64))).sz=1 from rfl,Nat.mul_one] at hv733_0;replace hv733_0:=sI (hv733_0.symm.trans a8);injection hv733_0 with hva_ hvn_ hvc_;rw [hva_] at ax;rw [hvc_] at ul733_0;have HL733_0:=A0_ (show Kd.V (Kd.int .i64) 3 _ w.heap.size _ _ (rd_L1 l1 (rd ab a2)) from Kd.V_mk ul733_0 ax);clear hva_ hvn_ hvc_ ax ul733_0 aQ hce733;have aj:=A0_ aD;have a9:=A0_ aC;clear aD aC;replace aK:=eq_true aK;replace aM:=eq_true aM)|((with_reducible refine gC (f:=93) rfl ?_);refine zJ (some 28) Try.func93 #[.slice ba (rd_L1 l1 (rd ab a2)).length bb] ?_;(with_reducible refine(s10_.calls k _ _ (rd_L1 l1 (rd ab a2)) aT _ ?ao ?ap bR.out).mono ?_);(case ao=>repeat(first|exact(by repeat(first|(with_reducible exact aj.out)|(with_reducible refine cA ?_ _)|(with_reducible refine cN ?_ _)|(with_reducible refine cD ?_)|exact aj.out))|(with_reducible refine cA ?_ _)|(with_reducible refine cN ?_ _)|(with_reducible refine cD ?_)));(case ap=>exact a9.out);rintro e w24 ⟨cb,rfl,ai,hb⟩;refine⟨_,rfl,?_⟩;replace ag:=A0_ (Kd.V_elder' (by(with_reducible repeat(first|apply Kd.V_alloc|apply Kd.V_drewN|apply Kd.V_drew));exact ag.out) (Kd.R_base ai) hb);replace HL733_0:=A0_ (Kd.V_elder' (by(with_reducible repeat(first|apply Kd.V_alloc|apply Kd.V_drewN|apply Kd.V_drew));exact HL733_0.out) (Kd.R_base ai) hb);have bg:=A0_ (rL (Kd.R_new' (Kd.R_newM (M:=fun k_=>(w.heap.size≤k_)) ai (bZ (zB_ HB)) (fun k_ h_=>h_)) (rX (zR_ ah))) (bZ (zB_ HB)));replace ah:=A0_ (Kd.R_elder' (zR_ ah) (Kd.R_base ai) hb);replace aa:=zK aa hb;replace aj:=A0_ (cB (by repeat(first|(with_reducible exact aj.out)|(with_reducible refine cA ?_ _)|(with_reducible refine cN ?_ _)|(with_reducible refine cD ?_)|exact aj.out)) hb);replace HB:=zB HB hb;(try clear hb);(try clear ai)))
 go_ret
 exact⟨_,by first|rfl|(simp [*] <;> rfl),Kd.V_mono (Kd.R_V (zmR bg (fun _ hk=>hk.1.1))) (fun k_ hk=>by first|exact⟨(.inr (hk.1)),hk.2⟩|exact(.inr (hk))),zB_ HB⟩
end Go.Proofs.Ytmegggomhjgehaa.PFnCoverTree
