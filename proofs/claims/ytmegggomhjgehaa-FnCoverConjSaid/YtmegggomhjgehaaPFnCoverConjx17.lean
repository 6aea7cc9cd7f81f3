import Derived.Test.YtmegggomhjgehaaPFnCoverConjx5
namespace Go.Proofs.Ytmegggomhjgehaa.PFnCoverConj
open Go.RowKit Go.Proofs.YtmegggomhjgehaaW.PrintWords Go.Proofs.YtmegggomhjgehaaW.PrintLast Go.Proofs.YtmegggomhjgehaaW.PrintMore
set_option maxHeartbeats 8000000
set_option maxRecDepth 100000
attribute [local go_sem] max2_int min2_int max_two min_two max_three min_three max_four min_four
def im_.f (k:Nat) (aa:List Int) (ab:List Int) (l1:List Int):Option (List Int×List Int):=(ib_.f k l1).bind fun ac=>((ij_.f k ac aa).bind fun ae=>((ij_.f k ae l1).bind fun af=>((ib_.f k l1).bind fun ag=>((ij_.f k ag ab).bind fun ah=>((ij_.f k ah l1).bind fun ai=>(some (af,ai)))))))
def im_.T1:Bool×List (List Nat×List Nat):=(true,[([],[]),([0],[0]),([],[]),([2],[2]),([1,3,1],[1,3]),([],[]),([4,5,4],[4,5]),([],[]),([7,6],[7]),([],[]),([9],[9]),([8,10,8],[8,10]),([],[]),([11,12,11],[11,12]),([6,13],[6,13]),([14,13,0,1,2,3,4,5,6,7,8,9,10,11,12,13,14],[14])])
def im_.B1:List Nat := [0,1,0,4,15,0,63,0,255,0,512,2047,0,8191,16383,32767]
theorem im_.tab1:rtab .any (opsOf Try.f83 1)=im_.T1:=by kernel_rfl
theorem im_.bits1:waitsOk im_.T1.2 im_.B1=true:=by kernel_rfl
theorem im_.calls (k:Nat) (aw:Option Addr) (ax:Nat) (am:List Int) (ay:Option Addr) (az:Nat) (an:List Int) (A1:Option Addr) (c1:Nat) (l1:List Int) (r1:List Int) (r2:List Int) (w:World) (aK:Kd.C (Kd.int .i64) w aw am.length am) (aM:am.length≤ax) (aN:Kd.C (Kd.int .i64) w ay an.length an) (aQ:an.length≤az) (bb:Kd.C (Kd.int .i64) w A1 l1.length l1) (bc:l1.length≤c1) (h:im_.f k am an l1=some (r1,r2)) :
    Calls Try.prog 83 #[.agg #[.slice aw am.length ax,.slice ay an.length az],.slice A1 l1.length c1] w fun e w' => ∃ v0_ v1_:Value,e = .returned (.agg #[v0_,v1_])∧Kd.R (Kd.int .i64) 3 w' w.heap.size (fun k_=>nO k_ v1_) v0_ r1∧Kd.R (Kd.int .i64) 3 w' w.heap.size (fun k_=>nO k_ v0_) v1_ r2∧Below w.heap.size w w':=by
 have bx:=Try.underlying25;have a7:=A0_ aK;have a8:=A0_ aM;clear aK aM;have a9:=A0_ aN;have ba:=A0_ aQ;clear aN aQ;have aT:=A0_ bb;have aU:=A0_ bc;clear bb bc
 have HB:=A0_ (Below.refl w.heap.size w)
 have H:((ib_.f k l1).bind fun aA=>((ij_.f k aA am).bind fun aC=>((ij_.f k aC l1).bind fun ar=>((ib_.f k l1).bind fun aD=>((ij_.f k aD an).bind fun aE=>((ij_.f k aE l1).bind fun au=>(some (ar,au))))))))=some (r1,r2):=h
 clear h;obtain⟨aA,A3,H⟩:=zbind H;obtain⟨aC,A4,H⟩:=zbind H;obtain⟨ar,A5,H⟩:=zbind H;obtain⟨aD,A6,H⟩:=zbind H;obtain⟨aE,A7,H⟩:=zbind H;obtain⟨au,A8,H⟩:=zbind H;simp only [Option.some.injEq,Prod.mk.injEq] at H;obtain⟨rfl,rfl⟩:=H
 go_enter Try.func83,Try.ntmps83
 try go_wp2_with (first|((with_reducible refine gD (N:=2) rfl ?_);refine zX (N:=2) (cs := #[.slice aw am.length ax,.slice ay an.length az]) (t:=25) ?_;intro aV hg w9 hbox hb;have aa:=A0_ (hbox);have bp:=zG hg HB;have bq:=zG hg HB;replace HB:=zB HB hb;clear hb hbox hg)|((with_reducible refine gD (N:=4) rfl ?_);refine zX (N:=4) (cs := #[.slice none 0 0,.slice none 0 0]) (t:=25) ?_;intro ah hg w10 hbox hb;have ab:=A0_ (hbox);have br:=zG hg HB;have bu:=zG hg HB;replace HB:=zB HB hb;have ag:=zL hg aa;have av:=zM hg aa;replace aa:=zK aa hb;clear hb hbox hg))
 replace aa:=A0_ (kD aa.out)
 replace ab:=A0_ (kD ab.out)
 replace HB:=A0_ (bD HB.out)
 refine start_ (n:=16) (S:=fun w'=>w'.cell? ⟨aV,0,none⟩=some (.slice aw am.length ax)∧w'.cell? ⟨aV,1,none⟩=some (.slice ay an.length az)) (ds := []) (bs 16 0) (by kernel_rfl) rfl rfl ⟨(kC aa.out 0).trans rfl,(kC aa.out 1).trans rfl⟩ (fun hHeld => ?_);refine with_tabW im_.tab1 im_.bits1 (fun HT_ HW_ => ?_)
 generalize w10.drew=w11 at aa ab HB hHeld ⊢
 refine zP 0 (some 5) (bs 16 1) ?_
 refine zP 2 (some 7) (bs 16 5) ?_
 refine zP 5 (some 10) (bs 16 37) ?_
 refine zP 7 (some 12) (bs 16 165) ?_
 refine zP 9 (some 14) (bs 16 677) ?_
 refine zP 12 (some 17) (bs 16 4773) ?_
 refine zT 3 (some 8) (bs 16 4781) hHeld ?_
 refine zT 10 (some 15) (bs 16 5805) hHeld ?_
 refine one_ (i:=1) (N:=some 6) (bs 16 5807) rfl rfl (one_of HT_.out (by kernel_rfl)) (by decide) (fun K hK => ?_)
 refine zg Try.func60 #[.slice A1 l1.length c1] ?_
 with_reducible refine(ib_.calls k _ _ l1 aA _ ?ai ?aj A3.out).mono ?_
 (case ai=>exact zC aT HB)
 (case aj=>exact aU.out)
 rintro e w12 ⟨bz,rfl,ac,hb⟩
 refine⟨_,rfl,?_⟩
 have ae:=A0_ (rL ac (bZ (zB_ HB)))
 replace aa:=zK aa hb;replace ab:=zK ab hb;replace HB:=zB HB hb;(try clear hb);(try clear ac);obtain⟨bd,be,aX⟩:=rS ae.out
 (first|subst aX|(injection aX with f1_ f2_ f3_;have f4_:=f1_.symm;have f5_:=f3_.symm;clear f1_ f2_ f3_;subst f4_;subst f5_))
 refine hK.out _ _ ⟨(kC aa.out 0).trans rfl,(kC aa.out 1).trans rfl⟩ (fun hHeld => ?_)
 clear hK K
 refine zN (some 6) ?_
 refine one_ (i:=4) (N:=some 9) (bs 16 5823) rfl rfl (one_of HT_.out (by kernel_rfl)) (by decide) (fun K hK => ?_)
 refine zg Try.func69 #[.slice bd aA.length be,.slice aw am.length ax] ?_
 with_reducible refine(ij_.calls k _ _ aA _ _ am aC _ ?ai ?aj ?ao ?ap A4.out).mono ?_
 (case ai=>exact zD ae)
 (case aj=>exact(rR ae.out).2.1)
 (case ao=>exact zC a7 HB)
 (case ap=>exact a8.out)
 rintro e w14 ⟨bB,rfl,ac,hb⟩
 refine⟨_,rfl,?_⟩
 have af:=A0_ (rL (Kd.R_new' ac (rX (zR_ ae))) (bZ (zB_ HB)))
 replace ae:=A0_ (Kd.R_elder' (zR_ ae) (Kd.R_base ac) hb)
 replace aa:=zK aa hb;replace ab:=zK ab hb;replace HB:=zB HB hb;(try clear hb);(try clear ac);obtain⟨bf,bg,aY⟩:=rS af.out
 (first|subst aY|(injection aY with f1_ f2_ f3_;have f4_:=f1_.symm;have f5_:=f3_.symm;clear f1_ f2_ f3_;subst f4_;subst f5_))
 refine hK.out _ _ ⟨(kC aa.out 0).trans rfl,(kC aa.out 1).trans rfl⟩ (fun hHeld => ?_)
 clear hK K
 refine zN (some 9) ?_
 refine one_ (i:=6) (N:=some 11) (bs 16 5887) rfl rfl (one_of HT_.out (by kernel_rfl)) (by decide) (fun K hK => ?_)
 refine zg Try.func69 #[.slice bf aC.length bg,.slice A1 l1.length c1] ?_
 with_reducible refine(ij_.calls k _ _ aC _ _ l1 ar _ ?ai ?aj ?ao ?ap A5.out).mono ?_
 (case ai=>exact zD af)
 (case aj=>exact(rR af.out).2.1)
 (case ao=>exact zC aT HB)
 (case ap=>exact aU.out)
 rintro e w16 ⟨bC,rfl,ac,hb⟩
 refine⟨_,rfl,?_⟩
 have ak:=A0_ (rL (Kd.R_new' (Kd.R_new' ac (rX (zR_ ae))) (rX (zR_ af))) (bZ (zB_ HB)))
 replace ae:=A0_ (Kd.R_elder' (zR_ ae) (Kd.R_base ac) hb)
 replace af:=A0_ (Kd.R_elder' (zR_ af) (Kd.R_base ac) hb)
 replace aa:=zK aa hb;replace ab:=zK ab hb;replace HB:=zB HB hb;(try clear hb);(try clear ac)
 refine hK.out _ _ ⟨(kC aa.out 0).trans rfl,(kC aa.out 1).trans rfl⟩ (fun hHeld => ?_)
 clear hK K
 refine zN (some 11) ?_
 refine one_ (i:=8) (N:=some 13) (bs 16 6143) rfl rfl (one_of HT_.out (by kernel_rfl)) (by decide) (fun K hK => ?_)
 refine zg Try.func60 #[.slice A1 l1.length c1] ?_
 with_reducible refine(ib_.calls k _ _ l1 aD _ ?ai ?aj A6.out).mono ?_
 (case ai=>exact zC aT HB)
 (case aj=>exact aU.out)
 rintro e w17 ⟨bE,rfl,ac,hb⟩
 refine⟨_,rfl,?_⟩
 have al:=A0_ (rL (Kd.R_new' (Kd.R_new' (Kd.R_new' ac (rX (zR_ ae))) (rX (zR_ af))) (rX (zR_ ak))) (bZ (zB_ HB)))
 replace ae:=A0_ (Kd.R_elder' (zR_ ae) (Kd.R_base ac) hb)
 replace af:=A0_ (Kd.R_elder' (zR_ af) (Kd.R_base ac) hb)
 replace ak:=A0_ (Kd.R_elder' (zR_ ak) (Kd.R_base ac) hb)
 replace aa:=zK aa hb;replace ab:=zK ab hb;replace HB:=zB HB hb;(try clear hb);(try clear ac);obtain⟨bh,bi,aZ⟩:=rS al.out
 (first|subst aZ|(injection aZ with f1_ f2_ f3_;have f4_:=f1_.symm;have f5_:=f3_.symm;clear f1_ f2_ f3_;subst f4_;subst f5_))
 refine hK.out _ _ ⟨(kC aa.out 0).trans rfl,(kC aa.out 1).trans rfl⟩ (fun hHeld => ?_)
 clear hK K
 refine zN (some 13) ?_
 refine one_ (i:=11) (N:=some 16) (bs 16 8191) rfl rfl (one_of HT_.out (by kernel_rfl)) (by decide) (fun K hK => ?_)
 refine zg Try.func69 #[.slice bh aD.length bi,.slice ay an.length az] ?_
 with_reducible refine(ij_.calls k _ _ aD _ _ an aE _ ?ai ?aj ?ao ?ap A7.out).mono ?_
 (case ai=>exact zD al)
 (case aj=>exact(rR al.out).2.1)
 (case ao=>exact zC a9 HB)
 (case ap=>exact ba.out)
 rintro e w19 ⟨bF,rfl,ac,hb⟩
 refine⟨_,rfl,?_⟩
 have aq:=A0_ (rL (Kd.R_new' (Kd.R_new' (Kd.R_new' (Kd.R_new' ac (rX (zR_ ae))) (rX (zR_ af))) (rX (zR_ ak))) (rX (zR_ al))) (bZ (zB_ HB)))
 replace ae:=A0_ (Kd.R_elder' (zR_ ae) (Kd.R_base ac) hb)
 replace af:=A0_ (Kd.R_elder' (zR_ af) (Kd.R_base ac) hb)
 replace ak:=A0_ (Kd.R_elder' (zR_ ak) (Kd.R_base ac) hb)
 replace al:=A0_ (Kd.R_elder' (zR_ al) (Kd.R_base ac) hb)
 replace aa:=zK aa hb;replace ab:=zK ab hb;replace HB:=zB HB hb;(try clear hb);(try clear ac);obtain⟨bj,bk,a4⟩:=rS aq.out
 (first|subst a4|(injection a4 with f1_ f2_ f3_;have f4_:=f1_.symm;have f5_:=f3_.symm;clear f1_ f2_ f3_;subst f4_;subst f5_))
 refine hK.out _ _ ⟨(kC aa.out 0).trans rfl,(kC aa.out 1).trans rfl⟩ (fun hHeld => ?_)
 clear hK K
 refine zN (some 16) ?_
 refine one_ (i:=13) (N:=some 18) (bs 16 16383) rfl rfl (one_of HT_.out (by kernel_rfl)) (by decide) (fun K hK => ?_)
 refine zg Try.func69 #[.slice bj aE.length bk,.slice A1 l1.length c1] ?_
 with_reducible refine(ij_.calls k _ _ aE _ _ l1 au _ ?ai ?aj ?ao ?ap A8.out).mono ?_
 (case ai=>exact zD aq)
 (case aj=>exact(rR aq.out).2.1)
 (case ao=>exact zC aT HB)
 (case ap=>exact aU.out)
 rintro e w21 ⟨bG,rfl,ac,hb⟩
 refine⟨_,rfl,?_⟩
 have aW:=A0_ (rL (Kd.R_new' (Kd.R_new' (Kd.R_new' (Kd.R_new' (Kd.R_new' ac (rX (zR_ ae))) (rX (zR_ af))) (rX (zR_ ak))) (rX (zR_ al))) (rX (zR_ aq))) (bZ (zB_ HB)))
 replace ae:=A0_ (Kd.R_elder' (zR_ ae) (Kd.R_base ac) hb)
 replace af:=A0_ (Kd.R_elder' (zR_ af) (Kd.R_base ac) hb)
 replace ak:=A0_ (Kd.R_elder' (zR_ ak) (Kd.R_base ac) hb)
 replace al:=A0_ (Kd.R_elder' (zR_ al) (Kd.R_base ac) hb)
 replace aq:=A0_ (Kd.R_elder' (zR_ aq) (Kd.R_base ac) hb)
 replace aa:=zK aa hb;replace ab:=zK ab hb;replace HB:=zB HB hb;(try clear hb);(try clear ac);obtain⟨aI,aJ,a5⟩:=rS aW.out
 (first|subst a5|(injection a5 with f1_ f2_ f3_;have f4_:=f1_.symm;have f5_:=f3_.symm;clear f1_ f2_ f3_;subst f4_;subst f5_))
 obtain⟨aG,aH,a6⟩:=rS ak.out
 (first|subst a6|(injection a6 with f1_ f2_ f3_;have f4_:=f1_.symm;have f5_:=f3_.symm;clear f1_ f2_ f3_;subst f4_;subst f5_))
 refine hK.out _ _ ⟨(kC aa.out 0).trans rfl,(kC aa.out 1).trans rfl⟩ (fun hHeld => ?_)
 clear hK K
 refine zN (some 18) ?_
 refine zP 14 (some 19) (bs 16 32767) ?_
 refine one_ (i:=15) (N:=none) (bs 16 65535) rfl rfl (one_of HT_.out (by kernel_rfl)) (by decide) (fun K hK => ?_)
 have bH:w21.cell? ⟨ah,0,none⟩=some (.slice none 0 0):=(kC ab.out 0).trans rfl
 have bv:=kF ab.out 0;have bl:=ag.out;have bm:=av.out
 have bI:w21.cell? ⟨ah,1,none⟩=some (.slice none 0 0):=(kC ab.out 1).trans rfl
 have bw:=kF ab.out 1;have bn:=ag.out;have bo:=av.out
 refine skip_ (w1 := ?_) (by rfl) rfl ?_ ?_
 rotate_left
 ·go_simp
  rfl
 refine hK.out _ _ ⟨((cell_far (p:=⟨ah,_,none⟩) ag.out _).trans (((cell_far (p:=⟨ah,_,none⟩) ag.out _).trans (hHeld.1)))),((cell_far (p:=⟨ah,_,none⟩) ag.out _).trans (((cell_far (p:=⟨ah,_,none⟩) ag.out _).trans (hHeld.2))))⟩ (fun hHeld => ?_)
 clear hK K
 refine done_ (done_of HT_.out (by kernel_rfl)) ?_
 try go_wp2
 refine bodyPost_ret (results_cell_row rfl _ _ ah 25 #[.slice aG ar.length aH,.slice aI au.length aJ] (0,0) _ rfl (by refine zbp (cs := #[.slice aG ar.length aH,.slice none 0 0]) ?_ 1 _ rfl;refine zbp (cs := #[.slice none 0 0,.slice none 0 0]) ?_ 0 _ rfl;exact zK_ ab) Try.underlying25 rfl (by kernel_rfl)) rfl ?_
 exact⟨_,_,by first|rfl|(simp [*] <;> rfl),by(with_reducible repeat(first|apply rA|apply rN|apply rD));exact rM (rF (p:=⟨ah,1,none⟩) (rF (p:=⟨ah,0,none⟩) (rY ak.out ab.out (by decide)) (fun _ hk=>hk.2) (.slice aG ar.length aH)) (fun _ hk=>hk.2) (.slice aI au.length aJ)) (fun _ hk=>hk.1.2),by(with_reducible repeat(first|apply rA|apply rN|apply rD));exact rM (rF (p:=⟨ah,1,none⟩) (rF (p:=⟨ah,0,none⟩) (rY aW.out ab.out (by decide)) (fun _ hk=>hk.2) (.slice aG ar.length aH)) (fun _ hk=>hk.2) (.slice aI au.length aJ)) (fun _ hk=>hk.1.1.1.2),zB_ HB⟩
end Go.Proofs.Ytmegggomhjgehaa.PFnCoverConj
