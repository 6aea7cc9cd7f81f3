import Derived.Test.YtmegggomhjgehaaPFnCoverTreex8
namespace Go.Proofs.Ytmegggomhjgehaa.PFnCoverTree
open Go.RowKit Go.Proofs.YtmegggomhjgehaaW.PrintWords Go.Proofs.YtmegggomhjgehaaW.PrintLast Go.Proofs.YtmegggomhjgehaaW.PrintMore
set_option maxHeartbeats 8000000
set_option maxRecDepth 100000
attribute [local go_sem] max2_int min2_int max_two min_two max_three min_three max_four min_four
set_option linter.unusedVariables false
set_option linter.unusedSimpArgs false
def st_.l0:Nat→List Int→List Int→List Int→Int→Int→Option (Int)
  | 0,_,_,_,_,_=>none
  | k+1,x0,x1,x9,ac,aa=>if aa<ac then (if 0≤aa then (if aa<(x9.length:Int) then (if aa≥(x1.length:Int) then (some 1) else (if aa<(x1.length:Int) then ((c0_.f (rd x9 aa) (rd x1 aa)).bind fun ab=>(if ab=0 then (st_.l0 k x0 x1 x9 ac (wrap64 (aa+1))) else (some ab))) else (none))) else (none)) else (none)) else (if (x0.length:Int)<(x1.length:Int) then (some (-1)) else (some 0))
def st_.f (k:Nat) (l0:List Int) (l1:List Int):Option (Int):=st_.l0 k l0 l1 l0 (l0.length:Int) 0
theorem st_.calls (k:Nat) (A0:Option Addr) (c0:Nat) (l0:List Int) (A1:Option Addr) (c1:Nat) (l1:List Int) (r:Int) (w:World) (ar:Kd.C (Kd.int .i64) w A0 l0.length l0) (au:l0.length≤c0) (av:Kd.C (Kd.int .i64) w A1 l1.length l1) (aw:l1.length≤c1) (h:st_.f k l0 l1=some r) :
    Calls Try.prog 110 #[.slice A0 l0.length c0,.slice A1 l1.length c1] w fun e w'=>e = .returned (.int .i64 r)∧Drawn0 w w':=by
 have an:=A0_ ar;have aI:=A0_ au;clear ar au;have ax:=A0_ av;have aJ:=A0_ aw;clear av aw
 have H:(st_.l0 k l0 l1 l0 (l0.length:Int) 0)=some r:=h
 clear h;have H':=A0_ H;clear H
 go_enter Try.func110,Try.ntmps110
 go_wp2
 go_loopg [11] k (fun kq v11 w' => ∃ (aa:Int),v11 = .int .i64 aa∧Aside0 (st_.l0 kq l0 l1 l0 (l0.length:Int) aa=some r)∧Aside0 (kq≤k)∧Drawn0 w w')
 case atStart=>exact⟨(0),zt,H',⟨Nat.le_refl _⟩,by repeat(first|exact Drawn0.refl _|apply Drawn0.step)⟩
 case round =>
  clear H';(try clear c1);obtain⟨aa,rfl,HA,ay,⟨m1,rfl⟩⟩:=hrel
  cases gk with
  | zero=>exact absurd HA.out (by simp [st_.l0])
  | succ k1 =>
   have H:=HA.out;clear HA;simp only [st_.l0] at H
   by_cases c3:aa<(l0.length:Int)
   ·rw [if_pos c3] at H
    have az:=dT c3;clear c3
    have c4:=zpc H;replace H:=zph H
    have aE:=dT c4;clear c4
    have c5:=zpc H;replace H:=zph H
    have aG:=dT c5;clear c5
    by_cases c6:aa≥(l1.length:Int)
    ·rw [if_pos c6] at H
     have aA:decide ((l1.length:Int)≤aa)=true:=dT c6
     clear c6;obtain rfl:=sI H
     have ab:0≤(aa:Int):=zd
     have ac:aa<(l0.length:Int):=zd
     obtain⟨al,ai,aj⟩:=tI an.out aa ab ac
     cases ai
     replace ab:=eq_true ab;replace ac:=eq_true ac
     go_wp2
     go_ret
     exact⟨by first|rfl|(simp;done)|(simp [*];done),by repeat(first|exact Drawn0.refl _|apply Drawn0.step)⟩
    rw [if_neg c6] at H
    have aA:decide ((l1.length:Int)≤aa)=false:=dF c6
    clear c6
    have c7:=zpc H;replace H:=zph H
    have aH:=dT c7;clear c7;obtain⟨ae,A8,H⟩:=zbind H
    by_cases c9:ae=0
    ·rw [if_pos c9] at H
     have aC:(ae == 0)=true:=beq_iff_eq.mpr c9
     have aD:(ae != 0)=false:=bne_eq_false_iff_eq.mpr c9
     clear c9;have H':=A0_ H;clear H
     have ab:0≤(aa:Int):=zd
     have ac:aa<(l0.length:Int):=zd
     obtain⟨al,ai,aj⟩:=tI an.out aa ab ac
     cases ai
     replace ab:=eq_true ab;replace ac:=eq_true ac
     have af:0≤(aa:Int):=zd
     have ag:aa<(l1.length:Int):=zd
     obtain⟨ao,ak,am⟩:=tI ax.out aa af ag
     cases ak
     replace af:=eq_true af;replace ag:=eq_true ag
     go_wp2_with (first|((with_reducible refine gC (f:=116) rfl ?_);refine zJ (some 26) Try.func116 #[.int .i64 (rd l0 aa),.int .i64 (rd l1 aa)] ?_;(with_reducible refine(c0_.calls (rd l0 aa) (rd l1 aa) ae _ A8.out).mono ?_);rintro e w' ⟨rfl,⟨nd,rfl⟩⟩;refine⟨_,rfl,?_⟩))
     go_roundg k1
     case measure=>have:=ay.out;omega
     case rel=>exact⟨(wrap64 (aa+1)),zt,H',⟨by have:=ay.out;omega⟩,by repeat(first|exact Drawn0.refl _|apply Drawn0.step)⟩
    rw [if_neg c9] at H
    have aC:(ae == 0)=false:=beq_eq_false_iff_ne.mpr c9
    have aD:(ae != 0)=true:=bne_iff_ne.mpr c9
    obtain rfl:=sI H
    have ab:0≤(aa:Int):=zd
    have ac:aa<(l0.length:Int):=zd
    obtain⟨al,ai,aj⟩:=tI an.out aa ab ac
    cases ai
    replace ab:=eq_true ab;replace ac:=eq_true ac
    have af:0≤(aa:Int):=zd
    have ag:aa<(l1.length:Int):=zd
    obtain⟨ao,ak,am⟩:=tI ax.out aa af ag
    cases ak
    replace af:=eq_true af;replace ag:=eq_true ag
    go_wp2_with (first|((with_reducible refine gC (f:=116) rfl ?_);refine zJ (some 26) Try.func116 #[.int .i64 (rd l0 aa),.int .i64 (rd l1 aa)] ?_;(with_reducible refine(c0_.calls (rd l0 aa) (rd l1 aa) ae _ A8.out).mono ?_);rintro e w' ⟨rfl,⟨nd,rfl⟩⟩;refine⟨_,rfl,?_⟩))
    go_ret
    exact⟨by first|rfl|(simp;done)|(simp [*];done),by repeat(first|exact Drawn0.refl _|apply Drawn0.step)⟩
   rw [if_neg c3] at H;have az:=dF c3;clear c3
   by_cases ah:(l0.length:Int)<(l1.length:Int)
   ·rw [if_pos ah] at H
    have ap:=dT ah
    have aq:decide (l0.length<l1.length)=true:=dT (Int.ofNat_lt.mp ah)
    clear ah;obtain rfl:=sI H
    go_wp2
    go_ret
    exact⟨by first|rfl|(simp;done)|(simp [*];done),by repeat(first|exact Drawn0.refl _|apply Drawn0.step)⟩
   rw [if_neg ah] at H;have ap:=dF ah
   have aq:decide (l0.length<l1.length)=false:=dF (fun h=>ah (Int.ofNat_lt.mpr h))
   clear ah;obtain rfl:=sI H
   go_wp2
   go_ret
   exact⟨by first|rfl|(simp;done)|(simp [*];done),by repeat(first|exact Drawn0.refl _|apply Drawn0.step)⟩
def ib_.f (k:Nat) (ab:List Int) (ac:List Int) (ae:List Int) (af:List Int):Option (Int):=(st_.f k ab ae).bind fun aa=>(if aa=0 then ((st_.f k ac af).bind fun ag=>(some ag)) else (some aa))
theorem ib_.calls (k:Nat) (ao:Option Addr) (ap:Nat) (ab:List Int) (au:Option Addr) (av:Nat) (af:List Int) (aq:Option Addr) (ar:Nat) (ac:List Int) (aw:Option Addr) (ax:Nat) (ag:List Int) (r:Int) (w:World) (az:Kd.C (Kd.int .i64) w ao ab.length ab) (aA:ab.length≤ap) (aC:Kd.C (Kd.int .i64) w au af.length af) (aD:af.length≤av) (aE:Kd.C (Kd.int .i64) w aq ac.length ac) (aG:ac.length≤ar) (aH:Kd.C (Kd.int .i64) w aw ag.length ag) (aI:ag.length≤ax) (h:ib_.f k ab af ac ag=some r) :
    Calls Try.prog 84 #[.agg #[.slice ao ab.length ap,.slice au af.length av],.agg #[.slice aq ac.length ar,.slice aw ag.length ax]] w fun e w'=>e = .returned (.int .i64 r)∧Below w.heap.size w w':=by
 have bp:=Try.underlying25;have aJ:=A0_ az;have aK:=A0_ aA;clear az aA;have aQ:=A0_ aC;have aT:=A0_ aD;clear aC aD;have aM:=A0_ aE;have aN:=A0_ aG;clear aE aG;have aU:=A0_ aH;have aV:=A0_ aI;clear aH aI
 have HB:=A0_ (Below.refl w.heap.size w)
 have H:((st_.f k ab ac).bind fun ah=>(if ah=0 then ((st_.f k af ag).bind fun ay=>(some ay)) else (some ah)))=some r:=h
 clear h;obtain⟨ah,A3,H⟩:=zbind H
 by_cases c4:ah=0
 ·rw [if_pos c4] at H
  have a5:(ah == 0)=true:=beq_iff_eq.mpr c4
  have a6:(ah != 0)=false:=bne_eq_false_iff_eq.mpr c4
  clear c4;obtain⟨ay,A5,H⟩:=zbind H;obtain rfl:=sI H
  go_enter Try.func84,Try.ntmps84
  go_wp2_with (first|((with_reducible refine gD (N:=2) rfl ?_);refine zX (N:=2) (cs := #[.slice ao ab.length ap,.slice au af.length av]) (t:=25) ?_;intro aW hg w6 hbox hb;have aa:=A0_ (hbox);have aX:=zG hg HB;have aY:=zG hg HB;replace HB:=zB HB hb;clear hb hbox hg)|((with_reducible refine gD (N:=3) rfl ?_);refine zX (N:=3) (cs := #[.slice aq ac.length ar,.slice aw ag.length ax]) (t:=25) ?_;intro aZ hg w7 hbox hb;have ae:=A0_ (hbox);have a3:=zG hg HB;have a4:=zG hg HB;replace HB:=zB HB hb;have ai:=zL hg aa;have aj:=zM hg aa;replace aa:=zK aa hb;clear hb hbox hg;have bq:=ai.out;have br:=aj.out;have bj:=zc0 aa;have bk:=zc1 aa;have bl:=kF aa.out 0;have bm:=kF aa.out 1;have a7:=zc0 ae;have a8:=zc1 ae;have a9:=kF ae.out 0;have ba:=kF ae.out 1)|((with_reducible refine gC (f:=110) rfl ?_);refine zJ (some 10) Try.func110 #[.slice ao ab.length ap,.slice aq ac.length ar] ?_;(with_reducible refine(st_.calls k _ _ ab _ _ ac ah _ ?ak ?al ?am ?an A3.out).mono ?_);(case ak=>exact zC aJ HB);(case al=>exact aK.out);(case am=>exact zC aM HB);(case an=>exact aN.out);rintro e w' ⟨rfl,⟨nd,rfl⟩⟩;refine⟨_,rfl,?_⟩)|((with_reducible refine gC (f:=110) rfl ?_);refine zJ (some 18) Try.func110 #[.slice au af.length av,.slice aw ag.length ax] ?_;(with_reducible refine(st_.calls k _ _ af _ _ ag ay _ ?ak ?al ?am ?an A5.out).mono ?_);(case ak=>repeat(first|exact(cB aQ.out (zB_ HB))|(with_reducible refine cA ?_ _)|(with_reducible refine cN ?_ _)|(with_reducible refine cD ?_)));(case al=>exact aT.out);(case am=>repeat(first|exact(cB aU.out (zB_ HB))|(with_reducible refine cA ?_ _)|(with_reducible refine cN ?_ _)|(with_reducible refine cD ?_)));(case an=>exact aV.out);rintro e w' ⟨rfl,⟨nd,rfl⟩⟩;refine⟨_,rfl,?_⟩))
  go_ret
  exact⟨by first|rfl|(simp [*] <;> rfl),zB_ HB⟩
 rw [if_neg c4] at H
 have a5:(ah == 0)=false:=beq_eq_false_iff_ne.mpr c4
 have a6:(ah != 0)=true:=bne_iff_ne.mpr c4
 obtain rfl:=sI H
 go_enter Try.func84,Try.ntmps84
 go_wp2_with (first|((with_reducible refine gD (N:=2) rfl ?_);refine zX (N:=2) (cs := #[.slice ao ab.length ap,.slice au af.length av]) (t:=25) ?_;intro aW hg w11 hbox hb;have aa:=A0_ (hbox);have aX:=zG hg HB;have aY:=zG hg HB;replace HB:=zB HB hb;clear hb hbox hg)|((with_reducible refine gD (N:=3) rfl ?_);refine zX (N:=3) (cs := #[.slice aq ac.length ar,.slice aw ag.length ax]) (t:=25) ?_;intro aZ hg w12 hbox hb;have ae:=A0_ (hbox);have a3:=zG hg HB;have a4:=zG hg HB;replace HB:=zB HB hb;have ai:=zL hg aa;have aj:=zM hg aa;replace aa:=zK aa hb;clear hb hbox hg;have bn:=ai.out;have bo:=aj.out;have bb:=zc0 aa;have bc:=zc1 aa;have bd:=kF aa.out 0;have be:=kF aa.out 1;have bf:=zc0 ae;have bg:=zc1 ae;have bh:=kF ae.out 0;have bi:=kF ae.out 1)|((with_reducible refine gC (f:=110) rfl ?_);refine zJ (some 10) Try.func110 #[.slice ao ab.length ap,.slice aq ac.length ar] ?_;(with_reducible refine(st_.calls k _ _ ab _ _ ac ah _ ?ak ?al ?am ?an A3.out).mono ?_);(case ak=>exact zC aJ HB);(case al=>exact aK.out);(case am=>exact zC aM HB);(case an=>exact aN.out);rintro e w' ⟨rfl,⟨nd,rfl⟩⟩;refine⟨_,rfl,?_⟩))
 go_ret
 exact⟨by first|rfl|(simp [*] <;> rfl),zB_ HB⟩
def im_.f (k:Nat) (aa:List Int) (ab:List Int) (l1:List Int):Option (List Int×List Int):=(ia_.f k l1).bind fun ac=>((ij_.f k ac aa).bind fun ae=>((ij_.f k ae l1).bind fun af=>((ia_.f k l1).bind fun ag=>((ij_.f k ag ab).bind fun ah=>((ij_.f k ah l1).bind fun ai=>(some (af,ai)))))))
def im_.T1:Bool×List (List Nat×List Nat):=(true,[([],[]),([0],[0]),([],[]),([2],[2]),([1,3,1],[1,3]),([],[]),([4,5,4],[4,5]),([],[]),([7,6],[7]),([],[]),([9],[9]),([8,10,8],[8,10]),([],[]),([11,12,11],[11,12]),([6,13],[6,13]),([14,13,0,1,2,3,4,5,6,7,8,9,10,11,12,13,14],[14])])
def im_.B1:List Nat := [0,1,0,4,15,0,63,0,255,0,512,2047,0,8191,16383,32767]
theorem im_.tab1:rtab .any (opsOf Try.f83 1)=im_.T1:=by kernel_rfl
theorem im_.bits1:waitsOk im_.T1.2 im_.B1=true:=by kernel_rfl
theorem im_.calls (k:Nat) (aw:Option Addr) (ax:Nat) (am:List Int) (ay:Option Addr) (az:Nat) (an:List Int) (A1:Option Addr) (c1:Nat) (l1:List Int) (r1:List Int) (r2:List Int) (w:World) (aK:Kd.C (Kd.int .i64) w aw am.length am) (aM:am.length≤ax) (aN:Kd.C (Kd.int .i64) w ay an.length an) (aQ:an.length≤az) (ba:Kd.C (Kd.int .i64) w A1 l1.length l1) (bb:l1.length≤c1) (h:im_.f k am an l1=some (r1,r2)) :
    Calls Try.prog 83 #[.agg #[.slice aw am.length ax,.slice ay an.length az],.slice A1 l1.length c1] w fun e w' => ∃ v0_ v1_:Value,e = .returned (.agg #[v0_,v1_])∧Kd.R (Kd.int .i64) 3 w' w.heap.size (fun k_=>some k_≠(v1_:Value).ownBlock) v0_ r1∧Kd.R (Kd.int .i64) 3 w' w.heap.size (fun k_=>some k_≠(v0_:Value).ownBlock) v1_ r2∧Below w.heap.size w w':=by
 have bw:=Try.underlying25;have a6:=A0_ aK;have a7:=A0_ aM;clear aK aM;have a8:=A0_ aN;have a9:=A0_ aQ;clear aN aQ;have aT:=A0_ ba;have aU:=A0_ bb;clear ba bb
 have HB:=A0_ (Below.refl w.heap.size w)
 have H:((ia_.f k l1).bind fun aA=>((ij_.f k aA am).bind fun aC=>((ij_.f k aC l1).bind fun ar=>((ia_.f k l1).bind fun aD=>((ij_.f k aD an).bind fun aE=>((ij_.f k aE l1).bind fun au=>(some (ar,au))))))))=some (r1,r2):=h
 clear h;obtain⟨aA,A3,H⟩:=zbind H;obtain⟨aC,A4,H⟩:=zbind H;obtain⟨ar,A5,H⟩:=zbind H;obtain⟨aD,A6,H⟩:=zbind H;obtain⟨aE,A7,H⟩:=zbind H;obtain⟨au,A8,H⟩:=zbind H;simp only [Option.some.injEq,Prod.mk.injEq] at H;obtain⟨rfl,rfl⟩:=H
 go_enter Try.func83,Try.ntmps83
 try go_wp2_with (first|((with_reducible refine gD (N:=2) rfl ?_);refine zX (N:=2) (cs := #[.slice aw am.length ax,.slice ay an.length az]) (t:=25) ?_;intro aV hg w9 hbox hb;have aa:=A0_ (hbox);have bo:=zG hg HB;have bp:=zG hg HB;replace HB:=zB HB hb;clear hb hbox hg)|((with_reducible refine gD (N:=4) rfl ?_);refine zX (N:=4) (cs := #[.slice none 0 0,.slice none 0 0]) (t:=25) ?_;intro ah hg w10 hbox hb;have ab:=A0_ (hbox);have bq:=zG hg HB;have br:=zG hg HB;replace HB:=zB HB hb;have ag:=zL hg aa;have av:=zM hg aa;replace aa:=zK aa hb;clear hb hbox hg))
 replace aa:=A0_ (kD aa.out)
 replace ab:=A0_ (kD ab.out)
 replace HB:=A0_ (bD HB.out)
 refine start_ (n:=16) (S:=fun w'=>w'.cell? ⟨aV,0,none⟩=some (.slice aw am.length ax)∧w'.cell? ⟨aV,1,none⟩=some (.slice ay an.length az)) (ds := []) (bs 16 0) (by kernel_rfl) rfl rfl ⟨(kC aa.out 0).trans rfl,(kC aa.out 1).trans rfl⟩ (fun hHeld => ?_);refine with_tabW im_.tab1 im_.bits1 (fun HT_ HW_ => ?_)
 generalize w10.drew=w11 at aa ab HB hHeld ⊢
 refine zP 0 (some 5) (bs 16 1) ?_
 refine zP 2 (some 7) (bs 16 5) ?_
 refine zP 5 (some 10) (bs 16 37) ?_
 refine zP 7 (some 12) (bs 16 165) ?_
 refine zP 9 (some 14) (bs 16 677) ?_
 refine zP 12 (some 17) (bs 16 4773) ?_
 refine zT 3 (some 8) (bs 16 4781) hHeld ?_
 refine zT 10 (some 15) (bs 16 5805) hHeld ?_
 refine one_ (i:=1) (N:=some 6) (bs 16 5807) rfl rfl (one_of HT_.out (by kernel_rfl)) (by decide) (fun K hK => ?_)
 refine zg Try.func60 #[.slice A1 l1.length c1] ?_
 with_reducible refine(ia_.calls k _ _ l1 aA _ ?ai ?aj A3.out).mono ?_
 (case ai=>exact zC aT HB)
 (case aj=>exact aU.out)
 rintro e w12 ⟨bx,rfl,ac,hb⟩
 refine⟨_,rfl,?_⟩
 have ae:=A0_ (rL ac (bZ (zB_ HB)))
 replace aa:=zK aa hb;replace ab:=zK ab hb;replace HB:=zB HB hb;(try clear hb);(try clear ac);obtain⟨bc,bd,aX⟩:=rS ae.out
 (first|subst aX|(injection aX with f1_ f2_ f3_;have f4_:=f1_.symm;have f5_:=f3_.symm;clear f1_ f2_ f3_;subst f4_;subst f5_))
 refine hK.out _ _ ⟨(kC aa.out 0).trans rfl,(kC aa.out 1).trans rfl⟩ (fun hHeld => ?_)
 clear hK K
 refine zN (some 6) ?_
 refine one_ (i:=4) (N:=some 9) (bs 16 5823) rfl rfl (one_of HT_.out (by kernel_rfl)) (by decide) (fun K hK => ?_)
 refine zg Try.func69 #[.slice bc aA.length bd,.slice aw am.length ax] ?_
 with_reducible refine(ij_.calls k _ _ aA _ _ am aC _ ?ai ?aj ?ao ?ap A4.out).mono ?_
 (case ai=>exact zD ae)
 (case aj=>exact(rR ae.out).2.1)
 (case ao=>exact zC a6 HB)
 (case ap=>exact a7.out)
 rintro e w14 ⟨bz,rfl,ac,hb⟩
 refine⟨_,rfl,?_⟩
 have af:=A0_ (rL (Kd.R_new' ac (rX (zR_ ae))) (bZ (zB_ HB)))
 replace ae:=A0_ (Kd.R_elder' (zR_ ae) (Kd.R_base ac) hb)
 replace aa:=zK aa hb;replace ab:=zK ab hb;replace HB:=zB HB hb;(try clear hb);(try clear ac);obtain⟨be,bf,aY⟩:=rS af.out
 (first|subst aY|(injection aY with f1_ f2_ f3_;have f4_:=f1_.symm;have f5_:=f3_.symm;clear f1_ f2_ f3_;subst f4_;subst f5_))
 refine hK.out _ _ ⟨(kC aa.out 0).trans rfl,(kC aa.out 1).trans rfl⟩ (fun hHeld => ?_)
 clear hK K
 refine zN (some 9) ?_
 refine one_ (i:=6) (N:=some 11) (bs 16 5887) rfl rfl (one_of HT_.out (by kernel_rfl)) (by decide) (fun K hK => ?_)
 refine zg Try.func69 #[.slice be aC.length bf,.slice A1 l1.length c1] ?_
 with_reducible refine(ij_.calls k _ _ aC _ _ l1 ar _ ?ai ?aj ?ao ?ap A5.out).mono ?_
 (case ai=>exact zD af)
 (case aj=>exact(rR af.out).2.1)
 (case ao=>exact zC aT HB)
 (case ap=>exact aU.out)
 rintro e w16 ⟨bB,rfl,ac,hb⟩
 refine⟨_,rfl,?_⟩
 have ak:=A0_ (rL (Kd.R_new' (Kd.R_new' ac (rX (zR_ ae))) (rX (zR_ af))) (bZ (zB_ HB)))
 replace ae:=A0_ (Kd.R_elder' (zR_ ae) (Kd.R_base ac) hb)
 replace af:=A0_ (Kd.R_elder' (zR_ af) (Kd.R_base ac) hb)
 replace aa:=zK aa hb;replace ab:=zK ab hb;replace HB:=zB HB hb;(try clear hb);(try clear ac)
 refine hK.out _ _ ⟨(kC aa.out 0).trans rfl,(kC aa.out 1).trans rfl⟩ (fun hHeld => ?_)
 clear hK K
 refine zN (some 11) ?_
 refine one_ (i:=8) (N:=some 13) (bs 16 6143) rfl rfl (one_of HT_.out (by kernel_rfl)) (by decide) (fun K hK => ?_)
 refine zg Try.func60 #[.slice A1 l1.length c1] ?_
 with_reducible refine(ia_.calls k _ _ l1 aD _ ?ai ?aj A6.out).mono ?_
 (case ai=>exact zC aT HB)
 (case aj=>exact aU.out)
 rintro e w17 ⟨bC,rfl,ac,hb⟩
 refine⟨_,rfl,?_⟩
 have al:=A0_ (rL (Kd.R_new' (Kd.R_new' (Kd.R_new' ac (rX (zR_ ae))) (rX (zR_ af))) (rX (zR_ ak))) (bZ (zB_ HB)))
 replace ae:=A0_ (Kd.R_elder' (zR_ ae) (Kd.R_base ac) hb)
 replace af:=A0_ (Kd.R_elder' (zR_ af) (Kd.R_base ac) hb)
 replace ak:=A0_ (Kd.R_elder' (zR_ ak) (Kd.R_base ac) hb)
 replace aa:=zK aa hb;replace ab:=zK ab hb;replace HB:=zB HB hb;(try clear hb);(try clear ac);obtain⟨bg,bh,aZ⟩:=rS al.out
 (first|subst aZ|(injection aZ with f1_ f2_ f3_;have f4_:=f1_.symm;have f5_:=f3_.symm;clear f1_ f2_ f3_;subst f4_;subst f5_))
 refine hK.out _ _ ⟨(kC aa.out 0).trans rfl,(kC aa.out 1).trans rfl⟩ (fun hHeld => ?_)
 clear hK K
 refine zN (some 13) ?_
 refine one_ (i:=11) (N:=some 16) (bs 16 8191) rfl rfl (one_of HT_.out (by kernel_rfl)) (by decide) (fun K hK => ?_)
 refine zg Try.func69 #[.slice bg aD.length bh,.slice ay an.length az] ?_
 with_reducible refine(ij_.calls k _ _ aD _ _ an aE _ ?ai ?aj ?ao ?ap A7.out).mono ?_
 (case ai=>exact zD al)
 (case aj=>exact(rR al.out).2.1)
 (case ao=>exact zC a8 HB)
 (case ap=>exact a9.out)
 rintro e w19 ⟨bE,rfl,ac,hb⟩
 refine⟨_,rfl,?_⟩
 have aq:=A0_ (rL (Kd.R_new' (Kd.R_new' (Kd.R_new' (Kd.R_new' ac (rX (zR_ ae))) (rX (zR_ af))) (rX (zR_ ak))) (rX (zR_ al))) (bZ (zB_ HB)))
 replace ae:=A0_ (Kd.R_elder' (zR_ ae) (Kd.R_base ac) hb)
 replace af:=A0_ (Kd.R_elder' (zR_ af) (Kd.R_base ac) hb)
 replace ak:=A0_ (Kd.R_elder' (zR_ ak) (Kd.R_base ac) hb)
 replace al:=A0_ (Kd.R_elder' (zR_ al) (Kd.R_base ac) hb)
 replace aa:=zK aa hb;replace ab:=zK ab hb;replace HB:=zB HB hb;(try clear hb);(try clear ac);obtain⟨bi,bj,a3⟩:=rS aq.out
 (first|subst a3|(injection a3 with f1_ f2_ f3_;have f4_:=f1_.symm;have f5_:=f3_.symm;clear f1_ f2_ f3_;subst f4_;subst f5_))
 refine hK.out _ _ ⟨(kC aa.out 0).trans rfl,(kC aa.out 1).trans rfl⟩ (fun hHeld => ?_)
 clear hK K
 refine zN (some 16) ?_
 refine one_ (i:=13) (N:=some 18) (bs 16 16383) rfl rfl (one_of HT_.out (by kernel_rfl)) (by decide) (fun K hK => ?_)
 refine zg Try.func69 #[.slice bi aE.length bj,.slice A1 l1.length c1] ?_
 with_reducible refine(ij_.calls k _ _ aE _ _ l1 au _ ?ai ?aj ?ao ?ap A8.out).mono ?_
 (case ai=>exact zD aq)
 (case aj=>exact(rR aq.out).2.1)
 (case ao=>exact zC aT HB)
 (case ap=>exact aU.out)
 rintro e w21 ⟨bF,rfl,ac,hb⟩
 refine⟨_,rfl,?_⟩
 have aW:=A0_ (rL (Kd.R_new' (Kd.R_new' (Kd.R_new' (Kd.R_new' (Kd.R_new' ac (rX (zR_ ae))) (rX (zR_ af))) (rX (zR_ ak))) (rX (zR_ al))) (rX (zR_ aq))) (bZ (zB_ HB)))
 replace ae:=A0_ (Kd.R_elder' (zR_ ae) (Kd.R_base ac) hb)
 replace af:=A0_ (Kd.R_elder' (zR_ af) (Kd.R_base ac) hb)
 replace ak:=A0_ (Kd.R_elder' (zR_ ak) (Kd.R_base ac) hb)
 replace al:=A0_ (Kd.R_elder' (zR_ al) (Kd.R_base ac) hb)
 replace aq:=A0_ (Kd.R_elder' (zR_ aq) (Kd.R_base ac) hb)
 replace aa:=zK aa hb;replace ab:=zK ab hb;replace HB:=zB HB hb;(try clear hb);(try clear ac);obtain⟨aI,aJ,a4⟩:=rS aW.out
 (first|subst a4|(injection a4 with f1_ f2_ f3_;have f4_:=f1_.symm;have f5_:=f3_.symm;clear f1_ f2_ f3_;subst f4_;subst f5_))
 obtain⟨aG,aH,a5⟩:=rS ak.out
 (first|subst a5|(injection a5 with f1_ f2_ f3_;have f4_:=f1_.symm;have f5_:=f3_.symm;clear f1_ f2_ f3_;subst f4_;subst f5_))
 refine hK.out _ _ ⟨(kC aa.out 0).trans rfl,(kC aa.out 1).trans rfl⟩ (fun hHeld => ?_)
 clear hK K
 refine zN (some 18) ?_
 refine zP 14 (some 19) (bs 16 32767) ?_
 refine one_ (i:=15) (N:=none) (bs 16 65535) rfl rfl (one_of HT_.out (by kernel_rfl)) (by decide) (fun K hK => ?_)
 have bG:w21.cell? ⟨ah,0,none⟩=some (.slice none 0 0):=(kC ab.out 0).trans rfl
 have bu:=kF ab.out 0;have bk:=ag.out;have bl:=av.out
 have bH:w21.cell? ⟨ah,1,none⟩=some (.slice none 0 0):=(kC ab.out 1).trans rfl
 have bv:=kF ab.out 1;have bm:=ag.out;have bn:=av.out
 refine skip_ (w1 := ?_) (by rfl) rfl ?_ ?_
 rotate_left
 ·go_simp
  rfl
 refine hK.out _ _ ⟨((cell_far (p:=⟨ah,_,none⟩) ag.out _).trans (((cell_far (p:=⟨ah,_,none⟩) ag.out _).trans (hHeld.1)))),((cell_far (p:=⟨ah,_,none⟩) ag.out _).trans (((cell_far (p:=⟨ah,_,none⟩) ag.out _).trans (hHeld.2))))⟩ (fun hHeld => ?_)
 clear hK K
 refine done_ (done_of HT_.out (by kernel_rfl)) ?_
 try go_wp2
 refine bodyPost_ret (results_cell_row rfl _ _ ah 25 #[.slice aG ar.length aH,.slice aI au.length aJ] (0,0) _ rfl (by refine zbp (cs := #[.slice aG ar.length aH,.slice none 0 0]) ?_ 1 _ rfl;refine zbp (cs := #[.slice none 0 0,.slice none 0 0]) ?_ 0 _ rfl;exact zK_ ab) Try.underlying25 rfl (by kernel_rfl)) rfl ?_
 exact⟨_,_,by first|rfl|(simp [*] <;> rfl),by(with_reducible repeat(first|apply rA|apply rN|apply rD));exact rM (rF (p:=⟨ah,1,none⟩) (rF (p:=⟨ah,0,none⟩) (rY ak.out ab.out (by decide)) (fun _ hk=>hk.2) (.slice aG ar.length aH)) (fun _ hk=>hk.2) (.slice aI au.length aJ)) (fun _ hk=>hk.1.2),by(with_reducible repeat(first|apply rA|apply rN|apply rD));exact rM (rF (p:=⟨ah,1,none⟩) (rF (p:=⟨ah,0,none⟩) (rY aW.out ab.out (by decide)) (fun _ hk=>hk.2) (.slice aG ar.length aH)) (fun _ hk=>hk.2) (.slice aI au.length aJ)) (fun _ hk=>hk.1.1.1.2),zB_ HB⟩
end Go.Proofs.Ytmegggomhjgehaa.PFnCoverTree
