import Derived.Test.YtmegggomhjgehaaPFnCoverConjx12
import Derived.Test.YtmegggomhjgehaaPFnCoverConjx13
set_option linter.unusedSimpArgs false
namespace Go.Proofs.Ytmegggomhjgehaa.PFnCoverConj
open Go.RowKit Go.Proofs.YtmegggomhjgehaaW.PrintWords Go.Proofs.YtmegggomhjgehaaW.PrintLast Go.Proofs.YtmegggomhjgehaaW.PrintMore
set_option maxHeartbeats 8000000
set_option maxRecDepth 100000
attribute [local go_sem] max2_int min2_int max_two min_two max_three min_three max_four min_four
def s1b_.l0:Nat→Int→List Int→Int→Option (Int)
  | 0,_,_,_=>none
  | k+1,x1,x5,x6=>if x6<(x5.length:Int) then (if 0≤x6 then (if (rd x5 x6)=x1 then (some x6) else (s1b_.l0 k x1 x5 (wrap64 (x6+1)))) else (none)) else (some (-1))
def s1b_.f (k:Nat) (aa:List Int) (ab:List Int) (a1:Int):Option (Int):=(s1c_.f k aa ab).bind fun ac=>(s1b_.l0 k a1 ac 0)
theorem s1b_.calls (k:Nat) (aj:Option Addr) (ak:Nat) (ae:List Int) (al:Option Addr) (am:Nat) (af:List Int) (a1:Int) (r:Int) (w:World) (ao:Kd.C (Kd.int .i64) w aj ae.length ae) (ap:ae.length≤ak) (aq:Kd.C (Kd.int .i64) w al af.length af) (ar:af.length≤am) (h:s1b_.f k ae af a1=some r) :
    Calls Try.prog 111 #[.agg #[.slice aj ae.length ak,.slice al af.length am],.int .i64 a1] w fun e w'=>e = .returned (.int .i64 r)∧Below w.heap.size w w':=by
 have a6:=Try.underlying25;have az:=A0_ ao;have aA:=A0_ ap;clear ao ap;have aC:=A0_ aq;have aD:=A0_ ar;clear aq ar
 have HB:=A0_ (Below.refl w.heap.size w)
 have H:((s1c_.f k ae af).bind fun ab=>(s1b_.l0 k a1 ab 0))=some r:=h
 clear h;obtain⟨ab,A3,H⟩:=zbind H;have H':=A0_ H;clear H
 go_enter Try.func111,Try.ntmps111
 go_wp2_with (first|((with_reducible refine gD (N:=2) rfl ?_);refine zX (N:=2) (cs := #[.slice aj ae.length ak,.slice al af.length am]) (t:=25) ?_;intro aE hg w4 hbox hb;have ac:=A0_ (hbox);have a4:=zG hg HB;have a5:=zG hg HB;replace HB:=zB HB hb;clear hb hbox hg;have av:=zc0 ac;have aw:=zc1 ac;have ax:=kF ac.out 0;have ay:=kF ac.out 1)|((with_reducible refine gC (f:=112) rfl ?_);refine zJ (some 8) Try.func112 #[.agg #[.slice aj ae.length ak,.slice al af.length am]] ?_;(with_reducible refine(s1c_.calls k _ _ ae _ _ af ab _ ?aG ?aH ?aI ?aJ A3.out).mono ?_);(case aG=>exact zC az HB);(case aH=>exact aA.out);(case aI=>exact zC aC HB);(case aJ=>exact aD.out);rintro e w6 ⟨aT,rfl,aN,hb⟩;refine⟨_,rfl,?_⟩;have aK:=A0_ (rL aN (bZ (zB_ HB)));replace ac:=zK ac hb;replace HB:=zB HB hb;(try clear hb);(try clear aN)))
 go_loopg [6] k (fun kq v6 w' => ∃ (aa:Int),v6 = .int .i64 aa∧Aside0 (s1b_.l0 kq a1 ab aa=some r)∧Aside0 (kq≤k)∧Aside0 (Kd.R (Kd.int .i64) 3 w' w.heap.size (fun _=>True) aT ab)∧Aside0 (w'.heap[aE]? = some (.cells #[(.slice aj ae.length ak),(.slice al af.length am)] 25 (0,0)))∧Aside0 (Below w.heap.size w w'))
 case atStart=>exact⟨(0),zt,H',⟨Nat.le_refl _⟩,⟨zR_ aK⟩,⟨zK_ ac⟩,⟨zB_ HB⟩⟩
 case round =>
  clear H';(try clear av);(try clear aw);(try clear ax);(try clear ay);obtain⟨aa,rfl,HA,aQ,ai,ac,HB⟩:=hrel
  cases gk with
  | zero=>exact absurd HA.out (by simp [s1b_.l0])
  | succ k1 =>
   have H:=HA.out;clear HA;simp only [s1b_.l0] at H
   by_cases c7:aa<(ab.length:Int)
   ·rw [if_pos c7] at H
    have aU:=dT c7;clear c7
    have c8:=zpc H;replace H:=zph H
    have a7:=dT c8;clear c8
    by_cases c9:(rd ab aa)=a1
    ·rw [if_pos c9] at H
     have aV:((rd ab aa) == a1)=true:=beq_iff_eq.mpr c9
     have aW:((rd ab aa) != a1)=false:=bne_eq_false_iff_eq.mpr c9
     clear c9;obtain rfl:=sI H;obtain⟨a8,a9,aX⟩:=rS ai.out;subst aX
     have ag:0≤(aa:Int):=zd
     have ah:aa<(ab.length:Int):=zd
     obtain⟨aM,an,au⟩:=tI (rR ai.out).2.2 aa ag ah
     cases an
     replace ag:=eq_true ag;replace ah:=eq_true ah
     go_wp2
     go_ret
     exact⟨by first|rfl|(simp [*] <;> rfl),zB_ HB⟩
    rw [if_neg c9] at H
    have aV:((rd ab aa) == a1)=false:=beq_eq_false_iff_ne.mpr c9
    have aW:((rd ab aa) != a1)=true:=bne_iff_ne.mpr c9
    have H':=A0_ H;clear H;obtain⟨ba,bb,aY⟩:=rS ai.out;subst aY
    have ag:0≤(aa:Int):=zd
    have ah:aa<(ab.length:Int):=zd
    obtain⟨aM,an,au⟩:=tI (rR ai.out).2.2 aa ag ah
    cases an
    replace ag:=eq_true ag;replace ah:=eq_true ah
    go_wp2
    go_roundg k1
    case measure=>have:=aQ.out;omega
    case rel=>exact⟨(wrap64 (aa+1)),zt,H',⟨by have:=aQ.out;omega⟩,⟨zR_ ai⟩,⟨zK_ ac⟩,⟨zB_ HB⟩⟩
   rw [if_neg c7] at H;have aU:=dF c7;clear c7;obtain rfl:=sI H;obtain⟨bc,bd,aZ⟩:=rS ai.out;subst aZ
   go_wp2
   go_ret
   exact⟨by first|rfl|(simp [*] <;> rfl),zB_ HB⟩
def s1j_.l0:Nat→List (List Int)→Int→List Int→List Int→List (List Int)→Int→List Int→List Int→Option ((List (List Int)))
  | 0,_,_,_,_,_,_,_,_=>none
  | k+1,x1,x2,x3,x9,af,ae,ac,aa=>if ae<(x1.length:Int) then ((s1b_.f k ac aa ae).bind fun ab=>(if 0≤ae then (if 0≤ab then (if ab<(x9.length:Int) then (if (rd x9 ab)=x2 then ((s10_.f k x3).bind fun ah=>((s13_.f k ah (rd_L1 x1 ae)).bind fun ag=>(if ab<(aa.length:Int) then (if 0≤(rd aa ab) then (if (rd aa ab)<(x9.length:Int) then (if (rd x9 (rd aa ab))=x2 then ((s13_.f k ag x3).bind fun ai=>((s16_.f ai).bind fun aj=>(if af.length<5864062014805 then (s1j_.l0 k x1 x2 x3 x9 (af ++ [aj]) (wrap64 (ae+1)) ac aa) else (none)))) else ((s16_.f ag).bind fun ak=>(if af.length<5864062014805 then (s1j_.l0 k x1 x2 x3 x9 (af ++ [ak]) (wrap64 (ae+1)) ac aa) else (none)))) else (none)) else (none)) else (none)))) else (if ab<(aa.length:Int) then (if 0≤(rd aa ab) then (if (rd aa ab)<(x9.length:Int) then (if (rd x9 (rd aa ab))=x2 then ((s13_.f k (rd_L1 x1 ae) x3).bind fun al=>((s16_.f al).bind fun am=>(if af.length<5864062014805 then (s1j_.l0 k x1 x2 x3 x9 (af ++ [am]) (wrap64 (ae+1)) ac aa) else (none)))) else ((s16_.f (rd_L1 x1 ae)).bind fun an=>(if af.length<5864062014805 then (s1j_.l0 k x1 x2 x3 x9 (af ++ [an]) (wrap64 (ae+1)) ac aa) else (none)))) else (none)) else (none)) else (none))) else (none)) else (none)) else (none))) else (some af)
def s1j_.f (k:Nat) (aa:List Int) (ab:List Int) (l1:List (List Int)) (a2:Int) (l3:List Int):Option ((List (List Int))):=(s1d_.f k aa).bind fun ac=>(s1j_.l0 k l1 a2 l3 ac (([]:List (List Int))) 0 aa ab)
theorem s1j_.calls (k:Nat) (aC:Option Addr) (aD:Nat) (am:List Int) (aW:Option Addr) (aJ:Nat) (af:List Int) (A1:Option Addr) (c1:Nat) (l1:List (List Int)) (a2:Int) (A3:Option Addr) (c3:Nat) (l3:List Int) (r:List (List Int)) (w:World) (cc:Kd.C (Kd.int .i64) w aC am.length am) (cd:am.length≤aD) (ce:Kd.C (Kd.int .i64) w aW af.length af) (cf:af.length≤aJ) (de:Kd.C (Kd.slice 3 (Kd.int .i64)) w A1 l1.length l1) (df:l1.length≤c1) (dg:Kd.C (Kd.int .i64) w A3 l3.length l3) (dh:l3.length≤c3) (h:s1j_.f k am af l1 a2 l3=some r) :
    Calls Try.prog 90 #[.agg #[.slice aC am.length aD,.slice aW af.length aJ],.slice A1 l1.length c1,.int .i64 a2,.slice A3 l3.length c3] w fun e w' => ∃ v0_:Value,e = .returned (v0_)∧Kd.S (Kd.slice 3 (Kd.int .i64)) 23 w' w.heap.size (fun _=>True) v0_ r∧Below w.heap.size w w':=by
 have eG:=Try.underlying25;have bb:=A0_ cc;have bc:=A0_ cd;clear cc cd;have aV:=A0_ ce;have bi:=A0_ cf;clear ce cf;have cg:=A0_ de;have eW:=A0_ df;clear de df;have ch:=A0_ dg;have ci:=A0_ dh;clear dg dh
 have HB:=A0_ (Below.refl w.heap.size w)
 have H:((s1d_.f k am).bind fun ai=>(s1j_.l0 k l1 a2 l3 ai (([]:List (List Int))) 0 am af))=some r:=h
 clear h;obtain⟨ai,A5,H⟩:=zbind H
 obtain⟨cn,bB⟩ : ∃ y_:List (List Int),y_=(([]:List (List Int))):=⟨_,rfl⟩
 replace H:(s1j_.l0 k l1 a2 l3 ai cn 0 am af)=some r:=zH bB H
 have cj:=A0_ bB;clear bB;have H':=A0_ H;clear H
 go_enter Try.func90,Try.ntmps90
 go_wp2_with (first|((with_reducible refine gD (N:=4) rfl ?_);refine zX (N:=4) (cs := #[.slice aC am.length aD,.slice aW af.length aJ]) (t:=25) ?_;intro bd hg w6 hbox hb;have aa:=A0_ (hbox);have ev:=zG hg HB;have ew:=zG hg HB;replace HB:=zB HB hb;clear hb hbox hg;have co:=zc0 aa;have cp:=zc1 aa;have cq:=kF aa.out 0;have cr:=kF aa.out 1)|((with_reducible refine gC (f:=91) rfl ?_);refine zJ (some 16) Try.func91 #[.slice aC am.length aD] ?_;(with_reducible refine(s1d_.calls k _ _ am ai _ ?aj ?ak A5.out).mono ?_);(case aj=>exact zC bb HB);(case ak=>exact bc.out);rintro e w8 ⟨ct,rfl,ah,hb⟩;refine⟨_,rfl,?_⟩;have bj:=A0_ (rL ah (bZ (zB_ HB)));replace aa:=zK aa hb;replace HB:=zB HB hb;(try clear hb);(try clear ah))|((with_reducible refine gD (N:=17) rfl ?_);refine Kd.S_lit (Kd.slice 3 (Kd.int .i64)) _ 23 ?hg (N:=17) ?hd (xs:=([]:List (List Int))) (inner := []) (ok:=fun _=>True) (okp:=fun _=>True) ?hr ?hp (fun _ hk=>hk) trivial (Below.refl _ _) (Nat.le_refl _) (by simp) ?_;(case hd=>rfl);(case hg=>rfl);(case hr=>first|(go_simp;done)|(go_simp;rfl));(case hp=>exact(Reps.none _ _));intro eH w9 bo hb hg_ hnew_;clear hg_ hnew_;(first|rw [← cj.out] at bo|(simp only [Int.reduceToNat] at bo;rw [← cj.out] at bo));have cJ:=A0_ (Kd.S_lower (Kd.S_new' bo (rX (zR_ bj))) (bZ (zB_ HB)));replace bj:=zR bj hb;replace aa:=zK aa hb;replace HB:=zB HB hb;clear hb bo))
 go_loopg [10,11] k (fun kq v10 v11 w' => ∃ (aA:List (List Int)) (ag:Int),v11 = .int .i64 ag∧Aside0 (s1j_.l0 kq l1 a2 l3 ai aA ag am af=some r)∧Aside0 (kq≤k)∧Aside0 (Kd.R (Kd.int .i64) 3 w' w.heap.size (fun _=>True) ct ai)∧Aside0 (Kd.S (Kd.slice 3 (Kd.int .i64)) 23 w' w.heap.size (fun k_=>nO k_ ct) v10 aA)∧Aside0 (w'.heap[bd]? = some (.cells #[(.slice aC am.length aD),(.slice aW af.length aJ)] 25 (0,0)))∧Aside0 (Below w.heap.size w w'))
 case atStart=>exact⟨(cn),(0),zt,H',⟨Nat.le_refl _⟩,⟨zR_ bj⟩,⟨zmS cJ (fun _ hk=>hk.2)⟩,⟨zK_ aa⟩,⟨zB_ HB⟩⟩
 case round =>
  clear H';(try clear c1);(try clear c3);(try clear co);(try clear cp);(try clear cq);(try clear cr);obtain⟨aA,ag,rfl,HA,bh,ac,ab,aa,HB⟩:=hrel
  cases gk with
  | zero=>exact absurd HA.out (by simp [s1j_.l0])
  | succ k1 =>
   have H:=HA.out;clear HA;simp only [s1j_.l0] at H
   by_cases bz:ag<(l1.length:Int)
   ·rw [if_pos bz] at H
    have cK:=dT bz;clear bz;obtain⟨ae,ck,H⟩:=zbind H
    have di:=zpc H;replace H:=zph H
    have ex:=dT di;clear di
    have dj:=zpc H;replace H:=zph H
    have ey:=dT dj;clear dj
    have dk:=zpc H;replace H:=zph H
    have ez:=dT dk;clear dk
    by_cases bp:(rd ai ae)=a2
    ·rw [if_pos bp] at H
     have cL:((rd ai ae) == a2)=true:=beq_iff_eq.mpr bp
     have cM:((rd ai ae) != a2)=false:=bne_eq_false_iff_eq.mpr bp
     clear bp;obtain⟨aK,dl,H⟩:=zbind H;obtain⟨aM,dm,H⟩:=zbind H
     have dn:=zpc H;replace H:=zph H
     have eA:=dT dn;clear dn
     have dp:=zpc H;replace H:=zph H
     have eB:=dT dp;clear dp
     have dq:=zpc H;replace H:=zph H
     have eC:=dT dq;clear dq
     by_cases bq:(rd ai (rd af ae))=a2
     ·rw [if_pos bq] at H
      have cO:((rd ai (rd af ae)) == a2)=true:=beq_iff_eq.mpr bq
      have cP:((rd ai (rd af ae)) != a2)=false:=bne_eq_false_iff_eq.mpr bq
      clear bq;obtain⟨be,ep,H⟩:=zbind H;obtain⟨br,eq,H⟩:=zbind H
      have dr:=zpc H;replace H:=zph H
      have cQ:=A0_ dr;clear dr
      obtain⟨cu,bC⟩ : ∃ y_:List (List Int),y_=(aA ++ [br]):=⟨_,rfl⟩
      replace H:(s1j_.l0 k1 l1 a2 l3 ai cu (wrap64 (ag+1)) am af)=some r:=zH bC H
      have cR:=A0_ bC;clear bC;have H':=A0_ H;clear H;have dQ:=zc0 aa;have dR:=zc1 aa;have dS:=kF aa.out 0;have dU:=kF aa.out 1
      go_wp2_with (first|((with_reducible refine gC (f:=111) rfl ?_);refine zJ (some 26) Try.func111 #[.agg #[.slice aC am.length aD,.slice aW af.length aJ],.int .i64 ag] ?_;(with_reducible refine(s1b_.calls k1 _ _ am _ _ af ag ae _ ?aj ?ak ?au ?av ck.out).mono ?_);(case aj=>exact zC bb HB);(case ak=>exact bc.out);(case au=>exact zC aV HB);(case av=>exact bi.out);rintro e w27 ⟨rfl,hb⟩;refine⟨_,rfl,?_⟩;replace ac:=zR ac hb;replace ab:=zS ab hb;replace aa:=zK aa hb;replace HB:=zB HB hb;(try clear hb);have aw:0≤(ag:Int):=zd;have ax:ag<(l1.length:Int):=zd;obtain⟨bE,aT,aU,aX,ao,aq,ar⟩:=at_L1 cg.out ag aw ax;cases aX;try replace ao:=(HB.out.cell (wL w _ ao)).trans ao;have aE:=A0_ ar;have aG:=A0_ aq;clear ar aq;replace aw:=eq_true aw;replace ax:=eq_true ax;obtain⟨eI,b4,dz⟩:=rS ac.out;subst dz;have ay:0≤(ae:Int):=zd;have az:ae<(ai.length:Int):=zd;obtain⟨ap,aY,bf⟩:=tI (rR ac.out).2.2 ae ay az;cases aY;replace ay:=eq_true ay;replace az:=eq_true az)|((with_reducible refine gC (f:=93) rfl ?_);refine zJ (some 38) Try.func93 #[.slice A3 l3.length c3] ?_;(with_reducible refine(s10_.calls k1 _ _ l3 aK _ ?aj ?ak dl.out).mono ?_);(case aj=>exact zC ch HB);(case ak=>exact ci.out);rintro e w29 ⟨dA,rfl,ah,hb⟩;refine⟨_,rfl,?_⟩;replace ab:=A0_ (Kd.S_elder' (zS_ ab) (Kd.R_base ah) hb);have al:=A0_ (rL (Kd.R_new' ah (rX (zR_ ac))) (bZ (zB_ HB)));replace ac:=A0_ (Kd.R_elder' (zR_ ac) (Kd.R_base ah) hb);replace aa:=zK aa hb;replace HB:=zB HB hb;(try clear hb);(try clear ah);obtain⟨bF,bG,dB⟩:=rS al.out;subst dB)|((with_reducible refine gC (f:=82) rfl ?_);refine zJ (some 40) Try.func82 #[.slice bF aK.length bG,.slice aT (rd_L1 l1 ag).length aU] ?_;(with_reducible refine(s13_.calls k1 _ _ aK _ _ (rd_L1 l1 ag) aM _ ?aj ?ak ?au ?av dm.out).mono ?_);(case aj=>exact zD al);(case ak=>exact(rR al.out).2.1);(case au=>exact zC aE HB);(case av=>exact aG.out);rintro e w31 ⟨dC,rfl,ah,hb⟩;refine⟨_,rfl,?_⟩;replace ab:=A0_ (Kd.S_elder' (zS_ ab) (Kd.R_base ah) hb);have an:=A0_ (rL (Kd.R_new' (Kd.R_new' ah (rX (zR_ ac))) (rX (zR_ al))) (bZ (zB_ HB)));replace ac:=A0_ (Kd.R_elder' (zR_ ac) (Kd.R_base ah) hb);replace al:=A0_ (Kd.R_elder' (zR_ al) (Kd.R_base ah) hb);replace aa:=zK aa hb;replace HB:=zB HB hb;(try clear hb);(try clear ah);have dV:=zc0 aa;have dW:=zc1 aa;have dX:=kF aa.out 0;have dY:=kF aa.out 1;have aZ:0≤(ae:Int):=zd;have a4:ae<(af.length:Int):=zd;obtain⟨bH,b5,aH⟩:=tI aV.out ae aZ a4;cases b5;try replace aH:=(HB.out.cell (wL w _ aH)).trans aH;replace aZ:=eq_true aZ;replace a4:=eq_true a4;have a5:0≤((rd af ae):Int):=zd;have a6:(rd af ae)<(ai.length:Int):=zd;obtain⟨bI,b6,cl⟩:=tI (rR ac.out).2.2 (rd af ae) a5 a6;obtain rfl:ap=bI:=(by injection b6);replace a5:=eq_true a5;replace a6:=eq_true a6;obtain⟨bJ,bK,dD⟩:=rS an.out;subst dD)|((with_reducible refine gC (f:=82) rfl ?_);refine zJ (some 53) Try.func82 #[.slice bJ aM.length bK,.slice A3 l3.length c3] ?_;(with_reducible refine(s13_.calls k1 _ _ aM _ _ l3 be _ ?aj ?ak ?au ?av ep.out).mono ?_);(case aj=>exact zD an);(case ak=>exact(rR an.out).2.1);(case au=>exact zC ch HB);(case av=>exact ci.out);rintro e w34 ⟨eJ,rfl,ah,hb⟩;refine⟨_,rfl,?_⟩;replace ab:=A0_ (Kd.S_elder' (zS_ ab) (Kd.R_base ah) hb);have aN:=A0_ (rL (Kd.R_new' (Kd.R_new' (Kd.R_new' ah (rX (zR_ ac))) (rX (zR_ al))) (rX (zR_ an))) (bZ (zB_ HB)));replace ac:=A0_ (Kd.R_elder' (zR_ ac) (Kd.R_base ah) hb);replace al:=A0_ (Kd.R_elder' (zR_ al) (Kd.R_base ah) hb);replace an:=A0_ (Kd.R_elder' (zR_ an) (Kd.R_base ah) hb);replace aa:=zK aa hb;replace HB:=zB HB hb;(try clear hb);(try clear ah);obtain⟨bL,bM,dE⟩:=rS aN.out;subst dE)|((with_reducible refine gC (f:=97) rfl ?_);refine zJ (some 56) Try.func97 #[.slice bL be.length bM] ?_;(with_reducible refine(s16_.calls _ _ be br _ ?aj ?ak eq.out).mono ?_);(case aj=>exact zD aN);(case ak=>exact(rR aN.out).2.1);rintro e w36 ⟨eK,rfl,ah,hb⟩;refine⟨_,rfl,?_⟩;replace ab:=A0_ (Kd.S_elder' (zS_ ab) (Kd.R_base ah) hb);have bk:=A0_ (rL (Kd.R_new' (Kd.R_new' (Kd.R_new' (Kd.R_new' ah (rX (zR_ ac))) (rX (zR_ al))) (rX (zR_ an))) (rX (zR_ aN))) (bZ (zB_ HB)));replace ac:=A0_ (Kd.R_elder' (zR_ ac) (Kd.R_base ah) hb);replace al:=A0_ (Kd.R_elder' (zR_ al) (Kd.R_base ah) hb);replace an:=A0_ (Kd.R_elder' (zR_ an) (Kd.R_base ah) hb);replace aN:=A0_ (Kd.R_elder' (zR_ aN) (Kd.R_base ah) hb);replace aa:=zK aa hb;replace HB:=zB HB hb;(try clear hb);(try clear ah);obtain⟨cv,cw,dG⟩:=rS bk.out;subst dG)|((with_reducible refine gB (b := .append) (xs := #[.tmp 54,.tmp 57]) rfl ?_);at_builtin;refine Kd.S_append (Kd.slice 3 (Kd.int .i64)) (w0:=w) w.heap.size rfl (.tmp 54) (.tmp 57) 26 23 (.slice none 0 0) 24 rfl Try.underlying26 info23 rfl (by decide) (by omega) u10 aA br [.slice cv br.length cw] (fun k_=>nL k_ (some ap) ai b4∧nL k_ bF aK bG∧nL k_ bJ aM bK∧nL k_ bL be bM) (fun k_=>some k_=(.slice cv br.length cw:Value).ownBlock) rfl rfl ?aP (fun k_ hk_=>((rM (ok':=fun k_=>((fun k_=>nL k_ (some ap) ai b4∧nL k_ bF aK bG∧nL k_ bJ aM bK∧nL k_ bL be bM)) k_∧nO k_ u10) (Kd.R_apart' (bk.out) (Kd.S_typed ab.out) (by decide)) (fun k_ hk=>⟨⟨hk.1.1.1.1.2,⟨hk.1.1.1.2,⟨hk.1.1.2,hk.1.2⟩⟩⟩,hk.2⟩))).1 k_ hk_.symm) ?aF ?aO ?aB ?aS ?aL ?_;(case aP=>exact Kd.M_row (rM (Kd.R_tight rfl (rM (ok':=fun k_=>((fun k_=>nL k_ (some ap) ai b4∧nL k_ bF aK bG∧nL k_ bJ aM bK∧nL k_ bL be bM)) k_∧nO k_ u10) (Kd.R_apart' (bk.out) (Kd.S_typed ab.out) (by decide)) (fun k_ hk=>⟨⟨hk.1.1.1.1.2,⟨hk.1.1.1.2,⟨hk.1.1.2,hk.1.2⟩⟩⟩,hk.2⟩))) (fun _ h_=>h_)));(case aB=>exact(zB_ HB));(case aF=>exact(fun k_ hk=>⟨Kd.fresh' (rX (zR_ ac)) k_ hk,Kd.fresh' (rX (zR_ al)) k_ hk,Kd.fresh' (rX (zR_ an)) k_ hk,Kd.fresh' (rX (zR_ aN)) k_ hk⟩));(case aO=>exact(zmS ab (fun k_ hk=>⟨⟨hk.1.1.1.1,⟨hk.1.1.1.2,⟨hk.1.1.2,hk.1.2⟩⟩⟩,fun e_=>hk.2 e_⟩)));(case aS=>exact(bZ (zB_ HB)));(case aL=>have:=cQ.out;omega);intro eL w37 ho hb hg hat;rw [← cR.out] at ho;replace ac:=A0_ (Kd.R_over' (zR_ ac) (Kd.S_typed (zS_ ab)) (by decide) hg);replace aa:=A0_ (blk_grown (g:=bd) (o := .cells #[.slice aC am.length aD,.slice (some bH) af.length aJ] 25 (0,0)) (zK_ aa) hg (Kd.S_ne ab.out aa.out (by decide)));replace al:=A0_ (Kd.R_over' (zR_ al) (Kd.S_typed (zS_ ab)) (by decide) hg);replace an:=A0_ (Kd.R_over' (zR_ an) (Kd.S_typed (zS_ ab)) (by decide) hg);replace aN:=A0_ (Kd.R_over' (zR_ aN) (Kd.S_typed (zS_ ab)) (by decide) hg);replace HB:=A0_ (hb);have cS:=A0_ (ho);clear ab bk ho hb hg hat))
      go_roundg k1
      case measure=>have:=bh.out;omega
      case rel=>exact⟨(cu),(wrap64 (ag+1)),zt,H',⟨by have:=bh.out;omega⟩,⟨zmR ac (fun _ hk=>trivial)⟩,⟨zmS cS (fun _ hk=>hk.1)⟩,⟨zK_ aa⟩,⟨zB_ HB⟩⟩
     rw [if_neg bq] at H
     have cO:((rd ai (rd af ae)) == a2)=false:=beq_eq_false_iff_ne.mpr bq
     have cP:((rd ai (rd af ae)) != a2)=true:=bne_iff_ne.mpr bq
     obtain⟨bu,er,H⟩:=zbind H
     have dt:=zpc H;replace H:=zph H
     have cT:=A0_ dt;clear dt
     obtain⟨cx,bO⟩ : ∃ y_:List (List Int),y_=(aA ++ [bu]):=⟨_,rfl⟩
     replace H:(s1j_.l0 k1 l1 a2 l3 ai cx (wrap64 (ag+1)) am af)=some r:=zH bO H
     have cU:=A0_ bO;clear bO;have H':=A0_ H;clear H;have dZ:=zc0 aa;have d0:=zc1 aa;have d3:=kF aa.out 0;have d4:=kF aa.out 1
     go_wp2_with (first|((with_reducible refine gC (f:=111) rfl ?_);refine zJ (some 26) Try.func111 #[.agg #[.slice aC am.length aD,.slice aW af.length aJ],.int .i64 ag] ?_;(with_reducible refine(s1b_.calls k1 _ _ am _ _ af ag ae _ ?aj ?ak ?au ?av ck.out).mono ?_);(case aj=>exact zC bb HB);(case ak=>exact bc.out);(case au=>exact zC aV HB);(case av=>exact bi.out);rintro e w42 ⟨rfl,hb⟩;refine⟨_,rfl,?_⟩;replace ac:=zR ac hb;replace ab:=zS ab hb;replace aa:=zK aa hb;replace HB:=zB HB hb;(try clear hb);have aw:0≤(ag:Int):=zd;have ax:ag<(l1.length:Int):=zd;obtain⟨bE,aT,aU,aX,ao,aq,ar⟩:=at_L1 cg.out ag aw ax;cases aX;try replace ao:=(HB.out.cell (wL w _ ao)).trans ao;have aE:=A0_ ar;have aG:=A0_ aq;clear ar aq;replace aw:=eq_true aw;replace ax:=eq_true ax;obtain⟨eM,b7,dH⟩:=rS ac.out;subst dH;have ay:0≤(ae:Int):=zd;have az:ae<(ai.length:Int):=zd;obtain⟨ap,aY,bf⟩:=tI (rR ac.out).2.2 ae ay az;cases aY;replace ay:=eq_true ay;replace az:=eq_true az)|((with_reducible refine gC (f:=93) rfl ?_);refine zJ (some 38) Try.func93 #[.slice A3 l3.length c3] ?_;(with_reducible refine(s10_.calls k1 _ _ l3 aK _ ?aj ?ak dl.out).mono ?_);(case aj=>exact zC ch HB);(case ak=>exact ci.out);rintro e w44 ⟨dA,rfl,ah,hb⟩;refine⟨_,rfl,?_⟩;replace ab:=A0_ (Kd.S_elder' (zS_ ab) (Kd.R_base ah) hb);have al:=A0_ (rL (Kd.R_new' ah (rX (zR_ ac))) (bZ (zB_ HB)));replace ac:=A0_ (Kd.R_elder' (zR_ ac) (Kd.R_base ah) hb);replace aa:=zK aa hb;replace HB:=zB HB hb;(try clear hb);(try clear ah);obtain⟨bP,bQ,dI⟩:=rS al.out;subst dI)|((with_reducible refine gC (f:=82) rfl ?_);refine zJ (some 40) Try.func82 #[.slice bP aK.length bQ,.slice aT (rd_L1 l1 ag).length aU] ?_;(with_reducible refine(s13_.calls k1 _ _ aK _ _ (rd_L1 l1 ag) aM _ ?aj ?ak ?au ?av dm.out).mono ?_);(case aj=>exact zD al);(case ak=>exact(rR al.out).2.1);(case au=>exact zC aE HB);(case av=>exact aG.out);rintro e w46 ⟨dC,rfl,ah,hb⟩;refine⟨_,rfl,?_⟩;replace ab:=A0_ (Kd.S_elder' (zS_ ab) (Kd.R_base ah) hb);have an:=A0_ (rL (Kd.R_new' (Kd.R_new' ah (rX (zR_ ac))) (rX (zR_ al))) (bZ (zB_ HB)));replace ac:=A0_ (Kd.R_elder' (zR_ ac) (Kd.R_base ah) hb);replace al:=A0_ (Kd.R_elder' (zR_ al) (Kd.R_base ah) hb);replace aa:=zK aa hb;replace HB:=zB HB hb;(try clear hb);(try clear ah);have d5:=zc0 aa;have d6:=zc1 aa;have d7:=kF aa.out 0;have d8:=kF aa.out 1;have aZ:0≤(ae:Int):=zd;have a4:ae<(af.length:Int):=zd;obtain⟨bH,b5,aH⟩:=tI aV.out ae aZ a4;cases b5;try replace aH:=(HB.out.cell (wL w _ aH)).trans aH;replace aZ:=eq_true aZ;replace a4:=eq_true a4;have a5:0≤((rd af ae):Int):=zd;have a6:(rd af ae)<(ai.length:Int):=zd;obtain⟨bI,b6,cl⟩:=tI (rR ac.out).2.2 (rd af ae) a5 a6;obtain rfl:ap=bI:=(by injection b6);replace a5:=eq_true a5;replace a6:=eq_true a6;obtain⟨bR,bU,dJ⟩:=rS an.out;subst dJ)|((with_reducible refine gC (f:=97) rfl ?_);refine zJ (some 56) Try.func97 #[.slice bR aM.length bU] ?_;(with_reducible refine(s16_.calls _ _ aM bu _ ?aj ?ak er.out).mono ?_);(case aj=>exact zD an);(case ak=>exact(rR an.out).2.1);rintro e w49 ⟨eN,rfl,ah,hb⟩;refine⟨_,rfl,?_⟩;replace ab:=A0_ (Kd.S_elder' (zS_ ab) (Kd.R_base ah) hb);have bl:=A0_ (rL (Kd.R_new' (Kd.R_new' (Kd.R_new' ah (rX (zR_ ac))) (rX (zR_ al))) (rX (zR_ an))) (bZ (zB_ HB)));replace ac:=A0_ (Kd.R_elder' (zR_ ac) (Kd.R_base ah) hb);replace al:=A0_ (Kd.R_elder' (zR_ al) (Kd.R_base ah) hb);replace an:=A0_ (Kd.R_elder' (zR_ an) (Kd.R_base ah) hb);replace aa:=zK aa hb;replace HB:=zB HB hb;(try clear hb);(try clear ah);obtain⟨cy,cz,dK⟩:=rS bl.out;subst dK)|((with_reducible refine gB (b := .append) (xs := #[.tmp 54,.tmp 57]) rfl ?_);at_builtin;refine Kd.S_append (Kd.slice 3 (Kd.int .i64)) (w0:=w) w.heap.size rfl (.tmp 54) (.tmp 57) 26 23 (.slice none 0 0) 24 rfl Try.underlying26 info23 rfl (by decide) (by omega) u10 aA bu [.slice cy bu.length cz] (fun k_=>nL k_ (some ap) ai b7∧nL k_ bP aK bQ∧nL k_ bR aM bU) (fun k_=>some k_=(.slice cy bu.length cz:Value).ownBlock) rfl rfl ?aP (fun k_ hk_=>((rM (ok':=fun k_=>((fun k_=>nL k_ (some ap) ai b7∧nL k_ bP aK bQ∧nL k_ bR aM bU)) k_∧nO k_ u10) (Kd.R_apart' (bl.out) (Kd.S_typed ab.out) (by decide)) (fun k_ hk=>⟨⟨hk.1.1.1.2,⟨hk.1.1.2,hk.1.2⟩⟩,hk.2⟩))).1 k_ hk_.symm) ?aF ?aO ?aB ?aS ?aL ?_;(case aP=>exact Kd.M_row (rM (Kd.R_tight rfl (rM (ok':=fun k_=>((fun k_=>nL k_ (some ap) ai b7∧nL k_ bP aK bQ∧nL k_ bR aM bU)) k_∧nO k_ u10) (Kd.R_apart' (bl.out) (Kd.S_typed ab.out) (by decide)) (fun k_ hk=>⟨⟨hk.1.1.1.2,⟨hk.1.1.2,hk.1.2⟩⟩,hk.2⟩))) (fun _ h_=>h_)));(case aB=>exact(zB_ HB));(case aF=>exact(fun k_ hk=>⟨Kd.fresh' (rX (zR_ ac)) k_ hk,Kd.fresh' (rX (zR_ al)) k_ hk,Kd.fresh' (rX (zR_ an)) k_ hk⟩));(case aO=>exact(zmS ab (fun k_ hk=>⟨⟨hk.1.1.1,⟨hk.1.1.2,hk.1.2⟩⟩,fun e_=>hk.2 e_⟩)));(case aS=>exact(bZ (zB_ HB)));(case aL=>have:=cT.out;omega);intro eO w50 ho hb hg hat;rw [← cU.out] at ho;replace ac:=A0_ (Kd.R_over' (zR_ ac) (Kd.S_typed (zS_ ab)) (by decide) hg);replace aa:=A0_ (blk_grown (g:=bd) (o := .cells #[.slice aC am.length aD,.slice (some bH) af.length aJ] 25 (0,0)) (zK_ aa) hg (Kd.S_ne ab.out aa.out (by decide)));replace al:=A0_ (Kd.R_over' (zR_ al) (Kd.S_typed (zS_ ab)) (by decide) hg);replace an:=A0_ (Kd.R_over' (zR_ an) (Kd.S_typed (zS_ ab)) (by decide) hg);replace HB:=A0_ (hb);have cV:=A0_ (ho);clear ab bl ho hb hg hat))
     go_roundg k1
     case measure=>have:=bh.out;omega
     case rel=>exact⟨(cx),(wrap64 (ag+1)),zt,H',⟨by have:=bh.out;omega⟩,⟨zmR ac (fun _ hk=>trivial)⟩,⟨zmS cV (fun _ hk=>hk.1)⟩,⟨zK_ aa⟩,⟨zB_ HB⟩⟩
    rw [if_neg bp] at H
    have cL:((rd ai ae) == a2)=false:=beq_eq_false_iff_ne.mpr bp
    have cM:((rd ai ae) != a2)=true:=bne_iff_ne.mpr bp
    have du:=zpc H;replace H:=zph H
    have eD:=dT du;clear du
    have dv:=zpc H;replace H:=zph H
    have eE:=dT dv;clear dv
    have dw:=zpc H;replace H:=zph H
    have eF:=dT dw;clear dw
    by_cases bv:(rd ai (rd af ae))=a2
    ·rw [if_pos bv] at H
     have cW:((rd ai (rd af ae)) == a2)=true:=beq_iff_eq.mpr bv
     have cX:((rd ai (rd af ae)) != a2)=false:=bne_eq_false_iff_eq.mpr bv
     clear bv;obtain⟨bg,es,H⟩:=zbind H;obtain⟨bw,et,H⟩:=zbind H
     have dx:=zpc H;replace H:=zph H
     have cY:=A0_ dx;clear dx
     obtain⟨cC,bV⟩ : ∃ y_:List (List Int),y_=(aA ++ [bw]):=⟨_,rfl⟩
     replace H:(s1j_.l0 k1 l1 a2 l3 ai cC (wrap64 (ag+1)) am af)=some r:=zH bV H
     have cZ:=A0_ bV;clear bV;have H':=A0_ H;clear H;have d9:=zc0 aa;have ea:=zc1 aa;have eb:=kF aa.out 0;have ec:=kF aa.out 1
     go_wp2_with (first|((with_reducible refine gC (f:=111) rfl ?_);refine zJ (some 26) Try.func111 #[.agg #[.slice aC am.length aD,.slice aW af.length aJ],.int .i64 ag] ?_;(with_reducible refine(s1b_.calls k1 _ _ am _ _ af ag ae _ ?aj ?ak ?au ?av ck.out).mono ?_);(case aj=>exact zC bb HB);(case ak=>exact bc.out);(case au=>exact zC aV HB);(case av=>exact bi.out);rintro e w60 ⟨rfl,hb⟩;refine⟨_,rfl,?_⟩;replace ac:=zR ac hb;replace ab:=zS ab hb;replace aa:=zK aa hb;replace HB:=zB HB hb;(try clear hb);have aw:0≤(ag:Int):=zd;have ax:ag<(l1.length:Int):=zd;obtain⟨bE,aT,aU,aX,ao,aq,ar⟩:=at_L1 cg.out ag aw ax;cases aX;try replace ao:=(HB.out.cell (wL w _ ao)).trans ao;have aE:=A0_ ar;have aG:=A0_ aq;clear ar aq;replace aw:=eq_true aw;replace ax:=eq_true ax;obtain⟨eP,b8,dL⟩:=rS ac.out;subst dL;have ay:0≤(ae:Int):=zd;have az:ae<(ai.length:Int):=zd;obtain⟨ap,aY,bf⟩:=tI (rR ac.out).2.2 ae ay az;cases aY;replace ay:=eq_true ay;replace az:=eq_true az;have ed:=zc0 aa;have ee:=zc1 aa;have ef:=kF aa.out 0;have eg:=kF aa.out 1;have a7:0≤(ae:Int):=zd;have a8:ae<(af.length:Int):=zd;obtain⟨bW,b9,aI⟩:=tI aV.out ae a7 a8;cases b9;try replace aI:=(HB.out.cell (wL w _ aI)).trans aI;replace a7:=eq_true a7;replace a8:=eq_true a8;have a9:0≤((rd af ae):Int):=zd;have ba:(rd af ae)<(ai.length:Int):=zd;obtain⟨bX,ca,cm⟩:=tI (rR ac.out).2.2 (rd af ae) a9 ba;obtain rfl:ap=bX:=(by injection ca);replace a9:=eq_true a9;replace ba:=eq_true ba)|((with_reducible refine gC (f:=82) rfl ?_);refine zJ (some 53) Try.func82 #[.slice aT (rd_L1 l1 ag).length aU,.slice A3 l3.length c3] ?_;(with_reducible refine(s13_.calls k1 _ _ (rd_L1 l1 ag) _ _ l3 bg _ ?aj ?ak ?au ?av es.out).mono ?_);(case aj=>exact zC aE HB);(case ak=>exact aG.out);(case au=>exact zC ch HB);(case av=>exact ci.out);rintro e w63 ⟨eQ,rfl,ah,hb⟩;refine⟨_,rfl,?_⟩;replace ab:=A0_ (Kd.S_elder' (zS_ ab) (Kd.R_base ah) hb);have aQ:=A0_ (rL (Kd.R_new' ah (rX (zR_ ac))) (bZ (zB_ HB)));replace ac:=A0_ (Kd.R_elder' (zR_ ac) (Kd.R_base ah) hb);replace aa:=zK aa hb;replace HB:=zB HB hb;(try clear hb);(try clear ah);obtain⟨bY,b2,dM⟩:=rS aQ.out;subst dM)|((with_reducible refine gC (f:=97) rfl ?_);refine zJ (some 56) Try.func97 #[.slice bY bg.length b2] ?_;(with_reducible refine(s16_.calls _ _ bg bw _ ?aj ?ak et.out).mono ?_);(case aj=>exact zD aQ);(case ak=>exact(rR aQ.out).2.1);rintro e w65 ⟨eR,rfl,ah,hb⟩;refine⟨_,rfl,?_⟩;replace ab:=A0_ (Kd.S_elder' (zS_ ab) (Kd.R_base ah) hb);have bm:=A0_ (rL (Kd.R_new' (Kd.R_new' ah (rX (zR_ ac))) (rX (zR_ aQ))) (bZ (zB_ HB)));replace ac:=A0_ (Kd.R_elder' (zR_ ac) (Kd.R_base ah) hb);replace aQ:=A0_ (Kd.R_elder' (zR_ aQ) (Kd.R_base ah) hb);replace aa:=zK aa hb;replace HB:=zB HB hb;(try clear hb);(try clear ah);obtain⟨cE,cF,dN⟩:=rS bm.out;subst dN)|((with_reducible refine gB (b := .append) (xs := #[.tmp 54,.tmp 57]) rfl ?_);at_builtin;refine Kd.S_append (Kd.slice 3 (Kd.int .i64)) (w0:=w) w.heap.size rfl (.tmp 54) (.tmp 57) 26 23 (.slice none 0 0) 24 rfl Try.underlying26 info23 rfl (by decide) (by omega) u10 aA bw [.slice cE bw.length cF] (fun k_=>nL k_ (some ap) ai b8∧nL k_ bY bg b2) (fun k_=>some k_=(.slice cE bw.length cF:Value).ownBlock) rfl rfl ?aP (fun k_ hk_=>((rM (ok':=fun k_=>((fun k_=>nL k_ (some ap) ai b8∧nL k_ bY bg b2)) k_∧nO k_ u10) (Kd.R_apart' (bm.out) (Kd.S_typed ab.out) (by decide)) (fun k_ hk=>⟨⟨hk.1.1.2,hk.1.2⟩,hk.2⟩))).1 k_ hk_.symm) ?aF ?aO ?aB ?aS ?aL ?_;(case aP=>exact Kd.M_row (rM (Kd.R_tight rfl (rM (ok':=fun k_=>((fun k_=>nL k_ (some ap) ai b8∧nL k_ bY bg b2)) k_∧nO k_ u10) (Kd.R_apart' (bm.out) (Kd.S_typed ab.out) (by decide)) (fun k_ hk=>⟨⟨hk.1.1.2,hk.1.2⟩,hk.2⟩))) (fun _ h_=>h_)));(case aB=>exact(zB_ HB));(case aF=>exact(fun k_ hk=>⟨Kd.fresh' (rX (zR_ ac)) k_ hk,Kd.fresh' (rX (zR_ aQ)) k_ hk⟩));(case aO=>exact(zmS ab (fun k_ hk=>⟨⟨hk.1.1,hk.1.2⟩,fun e_=>hk.2 e_⟩)));(case aS=>exact(bZ (zB_ HB)));(case aL=>have:=cY.out;omega);intro eS w66 ho hb hg hat;rw [← cZ.out] at ho;replace ac:=A0_ (Kd.R_over' (zR_ ac) (Kd.S_typed (zS_ ab)) (by decide) hg);replace aa:=A0_ (blk_grown (g:=bd) (o := .cells #[.slice aC am.length aD,.slice (some bW) af.length aJ] 25 (0,0)) (zK_ aa) hg (Kd.S_ne ab.out aa.out (by decide)));replace aQ:=A0_ (Kd.R_over' (zR_ aQ) (Kd.S_typed (zS_ ab)) (by decide) hg);replace HB:=A0_ (hb);have da:=A0_ (ho);clear ab bm ho hb hg hat))
     go_roundg k1
     case measure=>have:=bh.out;omega
     case rel=>exact⟨(cC),(wrap64 (ag+1)),zt,H',⟨by have:=bh.out;omega⟩,⟨zmR ac (fun _ hk=>trivial)⟩,⟨zmS da (fun _ hk=>hk.1)⟩,⟨zK_ aa⟩,⟨zB_ HB⟩⟩
    rw [if_neg bv] at H
    have cW:((rd ai (rd af ae)) == a2)=false:=beq_eq_false_iff_ne.mpr bv
    have cX:((rd ai (rd af ae)) != a2)=true:=bne_iff_ne.mpr bv
    obtain⟨bx,eu,H⟩:=zbind H
    have dy:=zpc H;replace H:=zph H
    have db:=A0_ dy;clear dy
    obtain⟨cG,b3⟩ : ∃ y_:List (List Int),y_=(aA ++ [bx]):=⟨_,rfl⟩
    replace H:(s1j_.l0 k1 l1 a2 l3 ai cG (wrap64 (ag+1)) am af)=some r:=zH b3 H
    have dc:=A0_ b3;clear b3;have H':=A0_ H;clear H;have eh:=zc0 aa;have ei:=zc1 aa;have ej:=kF aa.out 0;have ek:=kF aa.out 1
    go_wp2_with (first|((with_reducible refine gC (f:=111) rfl ?_);refine zJ (some 26) Try.func111 #[.agg #[.slice aC am.length aD,.slice aW af.length aJ],.int .i64 ag] ?_;(with_reducible refine(s1b_.calls k1 _ _ am _ _ af ag ae _ ?aj ?ak ?au ?av ck.out).mono ?_);(case aj=>exact zC bb HB);(case ak=>exact bc.out);(case au=>exact zC aV HB);(case av=>exact bi.out);rintro e w71 ⟨rfl,hb⟩;refine⟨_,rfl,?_⟩;replace ac:=zR ac hb;replace ab:=zS ab hb;replace aa:=zK aa hb;replace HB:=zB HB hb;(try clear hb);have aw:0≤(ag:Int):=zd;have ax:ag<(l1.length:Int):=zd;obtain⟨bE,aT,aU,aX,ao,aq,ar⟩:=at_L1 cg.out ag aw ax;cases aX;try replace ao:=(HB.out.cell (wL w _ ao)).trans ao;have aE:=A0_ ar;have aG:=A0_ aq;clear ar aq;replace aw:=eq_true aw;replace ax:=eq_true ax;obtain⟨eT,cb,dO⟩:=rS ac.out;subst dO;have ay:0≤(ae:Int):=zd;have az:ae<(ai.length:Int):=zd;obtain⟨ap,aY,bf⟩:=tI (rR ac.out).2.2 ae ay az;cases aY;replace ay:=eq_true ay;replace az:=eq_true az;have el:=zc0 aa;have em:=zc1 aa;have en:=kF aa.out 0;have eo:=kF aa.out 1;have a7:0≤(ae:Int):=zd;have a8:ae<(af.length:Int):=zd;obtain⟨bW,b9,aI⟩:=tI aV.out ae a7 a8;cases b9;try replace aI:=(HB.out.cell (wL w _ aI)).trans aI;replace a7:=eq_true a7;replace a8:=eq_true a8;have a9:0≤((rd af ae):Int):=zd;have ba:(rd af ae)<(ai.length:Int):=zd;obtain⟨bX,ca,cm⟩:=tI (rR ac.out).2.2 (rd af ae) a9 ba;obtain rfl:ap=bX:=(by injection ca);replace a9:=eq_true a9;replace ba:=eq_true ba)|((with_reducible refine gC (f:=97) rfl ?_);refine zJ (some 56) Try.func97 #[.slice aT (rd_L1 l1 ag).length aU] ?_;(with_reducible refine(s16_.calls _ _ (rd_L1 l1 ag) bx _ ?aj ?ak eu.out).mono ?_);(case aj=>exact zC aE HB);(case ak=>exact aG.out);rintro e w74 ⟨eU,rfl,ah,hb⟩;refine⟨_,rfl,?_⟩;replace ab:=A0_ (Kd.S_elder' (zS_ ab) (Kd.R_base ah) hb);have bn:=A0_ (rL (Kd.R_new' ah (rX (zR_ ac))) (bZ (zB_ HB)));replace ac:=A0_ (Kd.R_elder' (zR_ ac) (Kd.R_base ah) hb);replace aa:=zK aa hb;replace HB:=zB HB hb;(try clear hb);(try clear ah);obtain⟨cH,cI,dP⟩:=rS bn.out;subst dP)|((with_reducible refine gB (b := .append) (xs := #[.tmp 54,.tmp 57]) rfl ?_);at_builtin;refine Kd.S_append (Kd.slice 3 (Kd.int .i64)) (w0:=w) w.heap.size rfl (.tmp 54) (.tmp 57) 26 23 (.slice none 0 0) 24 rfl Try.underlying26 info23 rfl (by decide) (by omega) u10 aA bx [.slice cH bx.length cI] (fun k_=>nL k_ (some ap) ai cb) (fun k_=>some k_=(.slice cH bx.length cI:Value).ownBlock) rfl rfl ?aP (fun k_ hk_=>((rM (ok':=fun k_=>((fun k_=>nL k_ (some ap) ai cb)) k_∧nO k_ u10) (Kd.R_apart' (bn.out) (Kd.S_typed ab.out) (by decide)) (fun k_ hk=>⟨hk.1.2,hk.2⟩))).1 k_ hk_.symm) ?aF ?aO ?aB ?aS ?aL ?_;(case aP=>exact Kd.M_row (rM (Kd.R_tight rfl (rM (ok':=fun k_=>((fun k_=>nL k_ (some ap) ai cb)) k_∧nO k_ u10) (Kd.R_apart' (bn.out) (Kd.S_typed ab.out) (by decide)) (fun k_ hk=>⟨hk.1.2,hk.2⟩))) (fun _ h_=>h_)));(case aB=>exact(zB_ HB));(case aF=>exact(fun k_ hk=>Kd.fresh' (rX (zR_ ac)) k_ hk));(case aO=>exact(zmS ab (fun k_ hk=>⟨hk.1,fun e_=>hk.2 e_⟩)));(case aS=>exact(bZ (zB_ HB)));(case aL=>have:=db.out;omega);intro eV w75 ho hb hg hat;rw [← dc.out] at ho;replace ac:=A0_ (Kd.R_over' (zR_ ac) (Kd.S_typed (zS_ ab)) (by decide) hg);replace aa:=A0_ (blk_grown (g:=bd) (o := .cells #[.slice aC am.length aD,.slice (some bW) af.length aJ] 25 (0,0)) (zK_ aa) hg (Kd.S_ne ab.out aa.out (by decide)));replace HB:=A0_ (hb);have dd:=A0_ (ho);clear ab bn ho hb hg hat))
    go_roundg k1
    case measure=>have:=bh.out;omega
    case rel=>exact⟨(cG),(wrap64 (ag+1)),zt,H',⟨by have:=bh.out;omega⟩,⟨zmR ac (fun _ hk=>trivial)⟩,⟨zS_ dd⟩,⟨zK_ aa⟩,⟨zB_ HB⟩⟩
   rw [if_neg bz] at H;have cK:=dF bz;clear bz;obtain rfl:=sI H
   go_wp2
   go_ret
   exact⟨_,by first|rfl|(simp [*] <;> rfl),zmS ab (fun _ hk=>trivial),zB_ HB⟩
def sv_.j0:Nat→List (List Int)→Int→List Int→Bool→List Int→List Int→Option ((List (List Int))×Bool)
  | 0,_,_,_,_,_,_=>none
  | k+1,x2,x3,x4,af,aa,ab=>if af=true then (some ((([]:List (List Int))),false)) else ((s1d_.f k aa).bind fun ac=>(if 0≤x3 then (if x3<(ac.length:Int) then ((s1j_.f k aa ab x2 (rd ac x3) x4).bind fun ae=>(some (ae,true))) else (none)) else (none)))
def sv_.f (k:Nat) (aa:List Int) (ab:List Int) (a1:Int) (l2:List (List Int)) (a3:Int) (l4:List Int):Option ((List (List Int))×Bool):=(sz_.f k aa ab a1 l2).bind fun ac=>(if ac=true then ((s17_.f k aa ab a3).bind fun ae=>(if ae=true then ((sy_.f k l4).bind fun af=>(if af=true then (sv_.j0 k l2 a3 l4 ((l4.length:Int) != a1) aa ab) else (sv_.j0 k l2 a3 l4 true aa ab))) else (sv_.j0 k l2 a3 l4 true aa ab))) else (sv_.j0 k l2 a3 l4 true aa ab))
def sv_.T3:Bool×List (List Nat×List Nat):=(true,[([],[]),([],[]),([],[]),([2],[2]),([3],[3]),([],[]),([4,5],[4,5]),([6],[6]),([],[]),([0,1,7,8,4],[0,1,7,8]),([9,9,0,1,2,3,4,5,6,7,8,9],[9]),([10,0,1,2,3,4,5,6,7,8,9,10],[])])
def sv_.B3:List Nat := [0,0,0,4,12,0,60,124,0,511,1023,2047]
theorem sv_.tab3:rtab .any (opsOf Try.f32 3)=sv_.T3:=by kernel_rfl
theorem sv_.bits3:waitsOk sv_.T3.2 sv_.B3=true:=by kernel_rfl
theorem sv_.calls (k:Nat) (am:Option Addr) (an:Nat) (ab:List Int) (aq:Option Addr) (ar:Nat) (ac:List Int) (a1:Int) (A2:Option Addr) (c2:Nat) (l2:List (List Int)) (a3:Int) (A4:Option Addr) (c4:Nat) (l4:List Int) (r1:List (List Int)) (r2:Bool) (w:World) (aM:Kd.C (Kd.int .i64) w am ab.length ab) (aN:ab.length≤an) (aQ:Kd.C (Kd.int .i64) w aq ac.length ac) (aT:ac.length≤ar) (bc:Kd.C (Kd.slice 3 (Kd.int .i64)) w A2 l2.length l2) (bd:l2.length≤c2) (be:Kd.C (Kd.int .i64) w A4 l4.length l4) (bf:l4.length≤c4) (h:sv_.f k ab ac a1 l2 a3 l4=some (r1,r2)) :
    Calls Try.prog 32 #[.agg #[.slice am ab.length an,.slice aq ac.length ar],.int .i64 a1,.slice A2 l2.length c2,.int .i64 a3,.slice A4 l4.length c4] w fun e w' => ∃ v0_:Value,e = .returned (.tuple #[v0_,.bool r2])∧Kd.S (Kd.slice 3 (Kd.int .i64)) 23 w' w.heap.size (fun _=>True) v0_ r1∧Below w.heap.size w w':=by
 have b6:=Try.underlying25;have ai:=A0_ aM;have aj:=A0_ aN;clear aM aN;have ao:=A0_ aQ;have ap:=A0_ aT;clear aQ aT;have aD:=A0_ bc;have aE:=A0_ bd;clear bc bd;have aZ:=A0_ be;have a4:=A0_ bf;clear be bf
 have HB:=A0_ (Below.refl w.heap.size w)
 have H:((sz_.f k ab ac a1 l2).bind fun aH=>(if aH=true then ((s17_.f k ab ac a3).bind fun ay=>(if ay=true then ((sy_.f k l4).bind fun au=>(if au=true then (sv_.j0 k l2 a3 l4 ((l4.length:Int) != a1) ab ac) else (sv_.j0 k l2 a3 l4 true ab ac))) else (sv_.j0 k l2 a3 l4 true ab ac))) else (sv_.j0 k l2 a3 l4 true ab ac)))=some (r1,r2):=h
 clear h;have a5:=A0_ H;clear H
 go_enter Try.func32,Try.ntmps32
 go_upto_region 1 with(first|((with_reducible refine gD (N:=5) rfl ?_);refine zX (N:=5) (cs := #[.slice am ab.length an,.slice aq ac.length ar]) (t:=25) ?_;intro aA hg w7 hbox hb;have aa:=A0_ (hbox);have bY:=zG hg HB;have b2:=zG hg HB;replace HB:=zB HB hb;clear hb hbox hg))
 (try simp only [Act.put,List.setIfInBounds_toArray,List.set_cons_zero,List.set_cons_succ])
 go_cut [33] (fun v33 wc => ∃ (kq:Nat) (ax:Bool),v33 = .bool ax∧Aside0 (sv_.j0 kq l2 a3 l4 ax ab ac=some (r1,r2))∧Aside0 (kq≤k)∧Aside0 (wc.heap[aA]? = some (.cells #[(.slice am ab.length an),(.slice aq ac.length ar)] 25 (0,0)))∧Aside0 (Below w.heap.size w wc))
 case first =>
  have H:=a5.out;clear a5;obtain⟨aH,A8,H⟩:=zbind H
  by_cases c9:aH=true
  ·subst c9
   have H1:((s17_.f k ab ac a3).bind fun ay=>(if ay=true then ((sy_.f k l4).bind fun au=>(if au=true then (sv_.j0 k l2 a3 l4 ((l4.length:Int) != a1) ab ac) else (sv_.j0 k l2 a3 l4 true ab ac))) else (sv_.j0 k l2 a3 l4 true ab ac)))=some (r1,r2):=by rw [if_pos rfl] at H;exact H
   clear H;have H:=H1;clear H1;obtain⟨ay,a6,H⟩:=zbind H
   by_cases aU:ay=true
   ·subst aU
    have H1:((sy_.f k l4).bind fun au=>(if au=true then (sv_.j0 k l2 a3 l4 ((l4.length:Int) != a1) ab ac) else (sv_.j0 k l2 a3 l4 true ab ac)))=some (r1,r2):=by rw [if_pos rfl] at H;exact H
    clear H;have H:=H1;clear H1;obtain⟨au,bg,H⟩:=zbind H
    by_cases aV:au=true
    ·subst aV
     have H1:(sv_.j0 k l2 a3 l4 ((l4.length:Int) != a1) ab ac)=some (r1,r2):=by rw [if_pos rfl] at H;exact H
     clear H;have H:=H1;clear H1;have H':=A0_ H;clear H;have bl:=zc0 aa;have bm:=zc1 aa;have bn:=kF aa.out 0;have bo:=kF aa.out 1
     go_wp2_with (first|((with_reducible refine gC (f:=56) rfl ?_);refine zJ (some 15) Try.func56 #[.agg #[.slice am ab.length an,.slice aq ac.length ar],.int .i64 a1,.slice A2 l2.length c2] ?_;(with_reducible refine(sz_.calls k _ _ ab _ _ ac a1 _ _ l2 true _ ?ae ?af ?ag ?ah ?ak ?al A8.out).mono ?_);(case ae=>exact zC ai HB);(case af=>exact aj.out);(case ag=>exact zC ao HB);(case ah=>exact ap.out);(case ak=>exact zC aD HB);(case al=>exact aE.out);rintro e w15 ⟨rfl,hb⟩;refine⟨_,rfl,?_⟩;replace aa:=zK aa hb;replace HB:=zB HB hb;(try clear hb);have bp:=zc0 aa;have bq:=zc1 aa;have br:=kF aa.out 0;have bu:=kF aa.out 1)|(go_at_call 88;(with_reducible refine(s17_.calls k _ _ ab _ _ ac a3 true _ ?ae ?af ?ag ?ah a6.out).mono ?_);(case ae=>exact zC ai HB);(case af=>exact aj.out);(case ag=>exact zC ao HB);(case ah=>exact ap.out);rintro e w17 ⟨rfl,hb⟩;replace aa:=zK aa hb;replace HB:=zB HB hb;(try clear hb))|(go_at_call 89;(with_reducible refine(sy_.calls k _ _ l4 true _ ?ae ?af bg.out).mono ?_);(case ae=>exact zC aZ HB);(case af=>exact a4.out);rintro e w' ⟨rfl,⟨nd,rfl⟩⟩))
     go_meet
     case rel=>exact⟨_,(((l4.length:Int) != a1)),zt,H',zo,⟨zK_ aa⟩,⟨zB_ HB⟩⟩
    replace aV:=Bool.eq_false_iff.mpr aV;subst aV
    have H1:(sv_.j0 k l2 a3 l4 true ab ac)=some (r1,r2):=by rw [if_neg (show ¬ (false=true) by decide)] at H;exact H
    clear H;have H:=H1;clear H1;have H':=A0_ H;clear H;have bv:=zc0 aa;have bw:=zc1 aa;have bx:=kF aa.out 0;have bz:=kF aa.out 1
    go_wp2_with (first|((with_reducible refine gC (f:=56) rfl ?_);refine zJ (some 15) Try.func56 #[.agg #[.slice am ab.length an,.slice aq ac.length ar],.int .i64 a1,.slice A2 l2.length c2] ?_;(with_reducible refine(sz_.calls k _ _ ab _ _ ac a1 _ _ l2 true _ ?ae ?af ?ag ?ah ?ak ?al A8.out).mono ?_);(case ae=>exact zC ai HB);(case af=>exact aj.out);(case ag=>exact zC ao HB);(case ah=>exact ap.out);(case ak=>exact zC aD HB);(case al=>exact aE.out);rintro e w19 ⟨rfl,hb⟩;refine⟨_,rfl,?_⟩;replace aa:=zK aa hb;replace HB:=zB HB hb;(try clear hb);have bB:=zc0 aa;have bC:=zc1 aa;have bE:=kF aa.out 0;have bF:=kF aa.out 1)|(go_at_call 88;(with_reducible refine(s17_.calls k _ _ ab _ _ ac a3 true _ ?ae ?af ?ag ?ah a6.out).mono ?_);(case ae=>exact zC ai HB);(case af=>exact aj.out);(case ag=>exact zC ao HB);(case ah=>exact ap.out);rintro e w21 ⟨rfl,hb⟩;replace aa:=zK aa hb;replace HB:=zB HB hb;(try clear hb))|(go_at_call 89;(with_reducible refine(sy_.calls k _ _ l4 false _ ?ae ?af bg.out).mono ?_);(case ae=>exact zC aZ HB);(case af=>exact a4.out);rintro e w' ⟨rfl,⟨nd,rfl⟩⟩))
    go_meet
    case rel=>exact⟨_,(true),zt,H',zo,⟨zK_ aa⟩,⟨zB_ HB⟩⟩
   replace aU:=Bool.eq_false_iff.mpr aU;subst aU
   have H1:(sv_.j0 k l2 a3 l4 true ab ac)=some (r1,r2):=by rw [if_neg (show ¬ (false=true) by decide)] at H;exact H
   clear H;have H:=H1;clear H1;have H':=A0_ H;clear H;have bG:=zc0 aa;have bH:=zc1 aa;have bI:=kF aa.out 0;have bJ:=kF aa.out 1
   go_wp2_with (first|((with_reducible refine gC (f:=56) rfl ?_);refine zJ (some 15) Try.func56 #[.agg #[.slice am ab.length an,.slice aq ac.length ar],.int .i64 a1,.slice A2 l2.length c2] ?_;(with_reducible refine(sz_.calls k _ _ ab _ _ ac a1 _ _ l2 true _ ?ae ?af ?ag ?ah ?ak ?al A8.out).mono ?_);(case ae=>exact zC ai HB);(case af=>exact aj.out);(case ag=>exact zC ao HB);(case ah=>exact ap.out);(case ak=>exact zC aD HB);(case al=>exact aE.out);rintro e w23 ⟨rfl,hb⟩;refine⟨_,rfl,?_⟩;replace aa:=zK aa hb;replace HB:=zB HB hb;(try clear hb);have bK:=zc0 aa;have bL:=zc1 aa;have bM:=kF aa.out 0;have bO:=kF aa.out 1)|(go_at_call 88;(with_reducible refine(s17_.calls k _ _ ab _ _ ac a3 false _ ?ae ?af ?ag ?ah a6.out).mono ?_);(case ae=>exact zC ai HB);(case af=>exact aj.out);(case ag=>exact zC ao HB);(case ah=>exact ap.out);rintro e w25 ⟨rfl,hb⟩;replace aa:=zK aa hb;replace HB:=zB HB hb;(try clear hb)))
   go_meet
   case rel=>exact⟨_,(true),zt,H',zo,⟨zK_ aa⟩,⟨zB_ HB⟩⟩
  replace c9:=Bool.eq_false_iff.mpr c9;subst c9
  have H1:(sv_.j0 k l2 a3 l4 true ab ac)=some (r1,r2):=by rw [if_neg (show ¬ (false=true) by decide)] at H;exact H
  clear H;have H:=H1;clear H1;have H':=A0_ H;clear H;have bP:=zc0 aa;have bQ:=zc1 aa;have bR:=kF aa.out 0;have bU:=kF aa.out 1
  go_wp2_with (first|((with_reducible refine gC (f:=56) rfl ?_);refine zJ (some 15) Try.func56 #[.agg #[.slice am ab.length an,.slice aq ac.length ar],.int .i64 a1,.slice A2 l2.length c2] ?_;(with_reducible refine(sz_.calls k _ _ ab _ _ ac a1 _ _ l2 false _ ?ae ?af ?ag ?ah ?ak ?al A8.out).mono ?_);(case ae=>exact zC ai HB);(case af=>exact aj.out);(case ag=>exact zC ao HB);(case ah=>exact ap.out);(case ak=>exact zC aD HB);(case al=>exact aE.out);rintro e w27 ⟨rfl,hb⟩;refine⟨_,rfl,?_⟩;replace aa:=zK aa hb;replace HB:=zB HB hb;(try clear hb)))
  go_meet
  case rel=>exact⟨_,(true),zt,H',zo,⟨zK_ aa⟩,⟨zB_ HB⟩⟩
 case rest =>
  clear a5;(try clear c2);(try clear c4);obtain⟨kq,ax,rfl,HA,cc,aa,HB⟩:=hcut
  cases kq with
  | zero=>exact absurd HA.out (by simp [sv_.j0])
  | succ aW =>
   have H:=HA.out;clear HA;simp only [sv_.j0] at H
   by_cases aX:ax=true
   ·subst aX
    have H1:(some ((([]:List (List Int))),false))=some (r1,r2):=by rw [if_pos rfl] at H;exact H
    clear H;have H:=H1;clear H1
    obtain⟨bj,aC⟩ : ∃ y_:List (List Int),y_=(([]:List (List Int))):=⟨_,rfl⟩
    replace H:(some (bj,false))=some (r1,r2):=zH aC H
    have aY:=A0_ aC;clear aC;simp only [Option.some.injEq,Prod.mk.injEq] at H;obtain⟨rfl,rfl⟩:=H
    go_wp2_with (first|((with_reducible refine gD (N:=34) rfl ?_);refine Kd.S_lit (Kd.slice 3 (Kd.int .i64)) _ 23 ?hg (N:=34) ?hd (xs:=([]:List (List Int))) (inner := []) (ok:=fun _=>True) (okp:=fun _=>True) ?hr ?hp (fun _ hk=>hk) trivial (Below.refl _ _) (Nat.le_refl _) (by simp) ?_;(case hd=>rfl);(case hg=>rfl);(case hr=>first|(go_simp;done)|(go_simp;rfl));(case hp=>exact(Reps.none _ _));intro b7 w29 az hb hg_ hnew_;clear hg_ hnew_;(first|rw [← aY.out] at az|(simp only [Int.reduceToNat] at az;rw [← aY.out] at az));have a8:=A0_ (Kd.S_lower az (bZ (zB_ HB)));replace aa:=zK aa hb;replace HB:=zB HB hb;clear hb az))
    go_ret2
    exact⟨_,by first|rfl|(simp [*] <;> rfl),zS_ a8,zB_ HB⟩
   replace aX:=Bool.eq_false_iff.mpr aX;subst aX
   have H1:((s1d_.f aW ab).bind fun av=>(if 0≤a3 then (if a3<(av.length:Int) then ((s1j_.f aW ab ac l2 (rd av a3) l4).bind fun aI=>(some (aI,true))) else (none)) else (none)))=some (r1,r2):=by rw [if_neg (show ¬ (false=true) by decide)] at H;exact H
   clear H;have H:=H1;clear H1;obtain⟨av,bW,H⟩:=zbind H
   have bh:=zpc H;replace H:=zph H
   have b3:=dT bh;clear bh
   have bi:=zpc H;replace H:=zph H
   have b4:=dT bi;clear bi;obtain⟨aI,bX,H⟩:=zbind H;simp only [Option.some.injEq,Prod.mk.injEq] at H;obtain⟨rfl,rfl⟩:=H
   try go_wp2
   replace aa:=A0_ (kD aa.out)
   replace HB:=A0_ (bD HB.out)
   refine start_ (n:=12) (S:=fun w'=>w'.cell? ⟨aA,0,none⟩=some (.slice am ab.length an)∧w'.cell? ⟨aA,1,none⟩=some (.slice aq ac.length ar)) (ds := []) (bs 12 0) (by kernel_rfl) rfl rfl ⟨(kC aa.out 0).trans rfl,(kC aa.out 1).trans rfl⟩ (fun hHeld => ?_);refine with_tabW sv_.tab3 sv_.bits3 (fun HT_ HW_ => ?_)
   generalize wc.drew=w35 at aa HB hHeld ⊢
   refine zP 1 (some 36) (bs 12 2) ?_
   refine zP 2 (some 37) (bs 12 6) ?_
   refine zP 5 (some 40) (bs 12 38) ?_
   refine zP 8 (some 43) (bs 12 294) ?_
   refine zT 0 (some 35) (bs 12 295) hHeld ?_
   refine zT 3 (some 38) (bs 12 303) hHeld ?_
   refine one_ (i:=4) (N:=some 39) (bs 12 319) rfl rfl (one_of HT_.out (by kernel_rfl)) (by decide) (fun K hK => ?_)
   refine zg Try.func91 #[.slice am ab.length an] ?_
   with_reducible refine(s1d_.calls aW _ _ ab av _ ?ae ?af bW.out).mono ?_
   (case ae=>exact zC ai HB)
   (case af=>exact aj.out)
   rintro e w36 ⟨b8,rfl,aG,hb⟩
   refine⟨_,rfl,?_⟩
   have aw:=A0_ (rL aG (bZ (zB_ HB)))
   replace aa:=zK aa hb;replace HB:=zB HB hb;(try clear hb);(try clear aG);obtain⟨b9,ca,a7⟩:=rS aw.out
   (first|subst a7|(injection a7 with f1_ f2_ f3_;have f4_:=f1_.symm;have f5_:=f3_.symm;clear f1_ f2_ f3_;subst f4_;subst f5_))
   have aJ:0≤(a3:Int):=zd
   have aK:a3<(av.length:Int):=zd
   obtain⟨b5,bk,bV⟩:=tI (rR aw.out).2.2 a3 aJ aK
   cases bk
   replace aJ:=eq_true aJ;replace aK:=eq_true aK
   refine hK.out _ _ ⟨(kC aa.out 0).trans rfl,(kC aa.out 1).trans rfl⟩ (fun hHeld => ?_)
   clear hK K
   refine zN (some 39) ?_
   refine zP 6 (some 41) (bs 12 383) ?_
   refine zO (i:=7) (N:=some 42) (v := ?_) (a' := ?_) (bs 12 511) rfl rfl (one_of HT_.out (by kernel_rfl)) (by decide) (by rfl) ?_ hHeld ?_ ?_
   rotate_left
   ·go_simp
    with_reducible rfl
   rotate_left
   ·simp only [Act.put,List.setIfInBounds_toArray,List.set_cons_zero,List.set_cons_succ,i64_w,i32_w]
    rfl
   refine one_ (i:=9) (N:=some 44) (bs 12 1023) rfl rfl (one_of HT_.out (by kernel_rfl)) (by decide) (fun K hK => ?_)
   refine zg Try.func90 #[.agg #[.slice am ab.length an,.slice aq ac.length ar],.slice A2 l2.length c2,.int .i64 (rd av a3),.slice A4 l4.length c4] ?_
   with_reducible refine(s1j_.calls aW _ _ ab _ _ ac _ _ l2 (rd av a3) _ _ l4 aI _ ?ae ?af ?ag ?ah ?ak ?al ?a9 ?ba bX.out).mono ?_
   (case ae=>exact zC ai HB)
   (case af=>exact aj.out)
   (case ag=>exact zC ao HB)
   (case ah=>exact ap.out)
   (case ak=>exact zC aD HB)
   (case al=>exact aE.out)
   (case a9=>exact zC aZ HB)
   (case ba=>exact a4.out)
   rintro e w38 ⟨cb,rfl,aG,hb⟩
   refine⟨_,rfl,?_⟩
   have bb:=A0_ (Kd.S_lower (Kd.S_new' aG (rX (zR_ aw))) (bZ (zB_ HB)))
   replace aw:=zR aw hb;replace aa:=zK aa hb;replace HB:=zB HB hb;(try clear hb);(try clear aG)
   refine hK.out _ _ ⟨(kC aa.out 0).trans rfl,(kC aa.out 1).trans rfl⟩ (fun hHeld => ?_)
   clear hK K
   refine zN (some 44) ?_
   refine zP 10 (some 10) (bs 12 2047) ?_
   refine zP 11 (some 11) (bs 12 4095) ?_
   refine done_ (done_of HT_.out (by kernel_rfl)) ?_
   try go_wp2
   go_ret2
   exact⟨_,by first|rfl|(simp [*] <;> rfl),zmS bb (fun _ hk=>trivial),zB_ HB⟩
def lq_.l0:Nat→List Int→List Int→Int→Option (Bool)
  | 0,_,_,_=>none
  | k+1,x0,x1,x5=>if x5<(x0.length:Int) then (if 0≤x5 then (if x5<(x1.length:Int) then (if (rd x0 x5)=(rd x1 x5) then (lq_.l0 k x0 x1 (wrap64 (x5+1))) else (some false)) else (none)) else (none)) else (some true)
def lq_.f (k:Nat) (l0:List Int) (l1:List Int):Option (Bool):=if (l0.length:Int)=(l1.length:Int) then (lq_.l0 k l0 l1 0) else (some false)
theorem lq_.calls (k:Nat) (A0:Option Addr) (c0:Nat) (l0:List Int) (A1:Option Addr) (c1:Nat) (l1:List Int) (r:Bool) (w:World) (ap:Kd.C (Kd.int .i64) w A0 l0.length l0) (aq:l0.length≤c0) (ar:Kd.C (Kd.int .i64) w A1 l1.length l1) (au:l1.length≤c1) (h:lq_.f k l0 l1=some r) :
    Calls Try.prog 38 #[.slice A0 l0.length c0,.slice A1 l1.length c1] w fun e w'=>e = .returned (.bool r)∧Drawn0 w w':=by
 have av:=A0_ ap;have aE:=A0_ aq;clear ap aq;have aw:=A0_ ar;have aG:=A0_ au;clear ar au
 have H:(if (l0.length:Int)=(l1.length:Int) then (lq_.l0 k l0 l1 0) else (some false))=some r:=h
 clear h
 by_cases c3:(l0.length:Int)=(l1.length:Int)
 ·rw [if_pos c3] at H
  have ak:((l0.length:Int) == (l1.length:Int))=true:=beq_iff_eq.mpr c3
  have al:((l0.length:Int) != (l1.length:Int))=false:=bne_eq_false_iff_eq.mpr c3
  have am:(l0.length == l1.length)=true:=by first|simpa using c3|(simp at c3 ⊢;omega)
  clear c3;have H':=A0_ H;clear H
  go_enter Try.func38,Try.ntmps38
  go_wp2
  repeat(go_quiet (fail);try go_wp2)
  go_loopg [5] k (fun kq v5 w' => ∃ (aa:Int),v5 = .int .i64 aa∧Aside0 (lq_.l0 kq l0 l1 aa=some r)∧Aside0 (kq≤k)∧Drawn0 w w')
  case atStart=>exact⟨(0),zt,H',⟨Nat.le_refl _⟩,by repeat(first|exact Drawn0.refl _|apply Drawn0.step)⟩
  case round =>
   clear H';(try clear c1);(try clear c3);(try clear ak);(try clear al);(try clear am);obtain⟨aa,rfl,HA,ax,⟨m1,rfl⟩⟩:=hrel
   cases gk with
   | zero=>exact absurd HA.out (by simp [lq_.l0])
   | succ k1 =>
    have H:=HA.out;clear HA;simp only [lq_.l0] at H
    by_cases c4:aa<(l0.length:Int)
    ·rw [if_pos c4] at H
     have ay:=dT c4;clear c4
     have c5:=zpc H;replace H:=zph H
     have aC:=dT c5;clear c5
     have c6:=zpc H;replace H:=zph H
     have aD:=dT c6;clear c6
     by_cases c7:(rd l0 aa)=(rd l1 aa)
     ·rw [if_pos c7] at H
      have az:((rd l0 aa) == (rd l1 aa))=true:=beq_iff_eq.mpr c7
      have aA:((rd l0 aa) != (rd l1 aa))=false:=bne_eq_false_iff_eq.mpr c7
      clear c7;have H':=A0_ H;clear H
      have ab:0≤(aa:Int):=zd
      have ac:aa<(l0.length:Int):=zd
      obtain⟨an,ag,ai⟩:=tI av.out aa ab ac
      cases ag
      replace ab:=eq_true ab;replace ac:=eq_true ac
      have ae:0≤(aa:Int):=zd
      have af:aa<(l1.length:Int):=zd
      obtain⟨ao,ah,aj⟩:=tI aw.out aa ae af
      cases ah
      replace ae:=eq_true ae;replace af:=eq_true af
      go_wp2
      repeat(go_quiet (fail);try go_wp2)
      go_roundg k1
      case measure=>have:=ax.out;omega
      case rel=>exact⟨(wrap64 (aa+1)),zt,H',⟨by have:=ax.out;omega⟩,by repeat(first|exact Drawn0.refl _|apply Drawn0.step)⟩
     rw [if_neg c7] at H
     have az:((rd l0 aa) == (rd l1 aa))=false:=beq_eq_false_iff_ne.mpr c7
     have aA:((rd l0 aa) != (rd l1 aa))=true:=bne_iff_ne.mpr c7
     obtain rfl:=sI H
     have ab:0≤(aa:Int):=zd
     have ac:aa<(l0.length:Int):=zd
     obtain⟨an,ag,ai⟩:=tI av.out aa ab ac
     cases ag
     replace ab:=eq_true ab;replace ac:=eq_true ac
     have ae:0≤(aa:Int):=zd
     have af:aa<(l1.length:Int):=zd
     obtain⟨ao,ah,aj⟩:=tI aw.out aa ae af
     cases ah
     replace ae:=eq_true ae;replace af:=eq_true af
     go_wp2
     repeat(go_quiet (fail);try go_wp2)
     go_ret
     exact⟨by first|rfl|(simp;done)|(simp [*];done),by repeat(first|exact Drawn0.refl _|apply Drawn0.step)⟩
    rw [if_neg c4] at H;have ay:=dF c4;clear c4;obtain rfl:=sI H
    go_wp2
    repeat(go_quiet (fail);try go_wp2)
    go_ret
    exact⟨by first|rfl|(simp;done)|(simp [*];done),by repeat(first|exact Drawn0.refl _|apply Drawn0.step)⟩
 rw [if_neg c3] at H
 have ak:((l0.length:Int) == (l1.length:Int))=false:=beq_eq_false_iff_ne.mpr c3
 have al:((l0.length:Int) != (l1.length:Int))=true:=bne_iff_ne.mpr c3
 have am:(l0.length == l1.length)=false:=by first|simpa using c3|(simp at c3 ⊢;omega)
 obtain rfl:=sI H
 go_enter Try.func38,Try.ntmps38
 go_wp2
 repeat(go_quiet (fail);try go_wp2)
 go_ret
 exact⟨by first|rfl|(simp;done)|(simp [*];done),by repeat(first|exact Drawn0.refl _|apply Drawn0.step)⟩
end Go.Proofs.Ytmegggomhjgehaa.PFnCoverConj
