import Derived.Test.YtmegggomhjgehaaPFnCoverTreex17
import Derived.Test.YtmegggomhjgehaaPFnCoverTreex18
namespace Go.Proofs.Ytmegggomhjgehaa.PFnCoverTree
open Go.RowKit Go.Proofs.YtmegggomhjgehaaW.PrintWords Go.Proofs.YtmegggomhjgehaaW.PrintLast Go.Proofs.YtmegggomhjgehaaW.PrintMore
set_option maxHeartbeats 8000000
set_option maxRecDepth 100000
attribute [local go_sem] max2_int min2_int max_two min_two max_three min_three max_four min_four
set_option linter.unusedVariables false
set_option linter.unusedSimpArgs false
mutual
def sv_.l0:Nat→List (List Int)→List Int→List Int→List Int→Int→List Int→List Int→Option ((List (List Int))×Bool)
  | 0,_,_,_,_,_,_,_=>none
  | k+1,x2,x8,x9,ae,ab,ac,aa=>if ab<(x9.length:Int) then (if 0≤ab then (if 0≤(rd x9 ab) then (if (rd x9 ab)<(aa.length:Int) then (if (rd x9 ab)<(x8.length:Int) then ((s1d_.f k ae (rd x8 (rd x9 ab))).bind fun af=>(if af=true then (if 0≤(rd aa (rd x9 ab)) then (if (rd aa (rd x9 ab))<(x8.length:Int) then ((s1d_.f k ae (rd x8 (rd aa (rd x9 ab)))).bind fun ag=>(sv_.j1 k x2 x8 x9 ae ab (rd x9 ab) (rd aa (rd x9 ab)) (!ag) ac aa)) else (none)) else (none)) else (sv_.j1 k x2 x8 x9 ae ab (rd x9 ab) (rd aa (rd x9 ab)) false ac aa))) else (none)) else (none)) else (none)) else (none)) else (sv_.l1 k x2 (([]:List (List Int))) 0)
def sv_.j1:Nat→List (List Int)→List Int→List Int→List Int→Int→Int→Int→Bool→List Int→List Int→Option ((List (List Int))×Bool)
  | 0,_,_,_,_,_,_,_,_,_,_=>none
  | k+1,x2,x8,x9,ae,af,aj,ac,ak,aa,ab=>if ak=true then (if 0≤ac then (if ac<(x8.length:Int) then ((s1j_.f k aa ab x2 aj).bind fun ag=>((s10_.f k ag).bind fun ah=>((s1i_.f k aa ab x2 (rd x8 ac) ah).bind fun ai=>(if ae.length<17592186044416 then (sv_.l0 k ai x8 x9 (ae ++ [rd x8 ac]) (wrap64 (af+1)) aa ab) else (none))))) else (none)) else (none)) else (sv_.l0 k x2 x8 x9 ae (wrap64 (af+1)) aa ab)
def sv_.l1:Nat→List (List Int)→List (List Int)→Int→Option ((List (List Int))×Bool)
  | 0,_,_,_=>none
  | k+1,x2,ab,aa=>if aa<(x2.length:Int) then (if 0≤aa then ((s16_.f (rd_L1 x2 aa)).bind fun ac=>(if ab.length<5864062014805 then (sv_.l1 k x2 (ab ++ [ac]) (wrap64 (aa+1))) else (none))) else (none)) else (some (ab,true))
end
def sv_.f (k:Nat) (aa:List Int) (ab:List Int) (a1:Int) (l2:List (List Int)):Option ((List (List Int))×Bool):=(sz_.f k aa ab a1 l2).bind fun ae=>(if ae=true then ((s1e_.f k aa).bind fun ac=>((s17_.f k aa ab 0).bind fun af=>((s10_.f k af).bind fun ag=>(if 0<(ac.length:Int) then (sv_.l0 k l2 ac ag (([rd ac 0]:List Int)) 0 aa ab) else (none))))) else (some ((([]:List (List Int))),false)))
def sv_.T12:Bool×List (List Nat×List Nat):=(true,[([],[]),([],[]),([],[]),([],[]),([2,3],[2,3]),([4],[4]),([],[]),([],[]),([],[]),([6,7,8],[6,7,8]),([9,9],[9]),([0,1,5,10,10],[0,1,5,10]),([11,11,0,1,2,3,4,5,6,7,8,9,10,11],[1,7,11])])
def sv_.B12:List Nat := [0,0,0,0,12,28,0,0,0,448,960,2047,4095]
theorem sv_.tab12:rtab .any (opsOf Try.f37 12)=sv_.T12:=by kernel_rfl
theorem sv_.bits12:waitsOk sv_.T12.2 sv_.B12=true:=by kernel_rfl
theorem sv_.calls (k:Nat) (au:Option Addr) (av:Nat) (ag:List Int) (aQ:Option Addr) (aA:Nat) (ae:List Int) (a1:Int) (P2_:Nat→Prop) (A2:Option Addr) (c2:Nat) (l2:List (List Int)) (r1:List (List Int)) (r2:Bool) (w:World) (cm:Kd.C (Kd.int .i64) w au ag.length ag) (cn:ag.length≤av) (co:Kd.C (Kd.int .i64) w aQ ae.length ae) (cp:ae.length≤aA) (ef:Kd.V (Kd.slice 3 (Kd.int .i64)) 23 w w.heap.size (fun k_=>P2_ k_) (.slice A2 l2.length c2) l2) (h:sv_.f k ag ae a1 l2=some (r1,r2)) :
    Calls Try.prog 37 #[.agg #[.slice au ag.length av,.slice aQ ae.length aA],.int .i64 a1,.slice A2 l2.length c2] w fun e w' => ∃ v0_:Value,e = .returned (.tuple #[v0_,.bool r2])∧Kd.S (Kd.slice 3 (Kd.int .i64)) 23 w' w.heap.size (fun k_=>(w.heap.size≤k_)) v0_ r1∧Below w.heap.size w w':=by
 have er:=Try.underlying25;have aX:=A0_ cm;have aY:=A0_ cn;clear cm cn;have aZ:=A0_ co;have bb:=A0_ cp;clear co cp
 have aw:=A0_ (show Kd.V (Kd.slice 3 (Kd.int .i64)) 23 w w.heap.size (fun k_=>(P2_ k_∨w.heap.size≤k_)) (.slice A2 l2.length c2) l2 from Kd.V_mono ef (fun k_ hk => .inl hk))
 have HB:=A0_ (Below.refl w.heap.size w)
 have H:((sz_.f k ag ae a1 l2).bind fun cb=>(if cb=true then ((s1e_.f k ag).bind fun af=>((s17_.f k ag ae 0).bind fun a5=>((s10_.f k a5).bind fun ac=>(if 0<(af.length:Int) then (sv_.l0 k l2 af ac (([rd af 0]:List Int)) 0 ag ae) else (none))))) else (some ((([]:List (List Int))),false))))=some (r1,r2):=h
 clear h;obtain⟨cb,A4,H⟩:=zbind H
 by_cases c5:cb=true
 ·subst c5
  have H1:((s1e_.f k ag).bind fun af=>((s17_.f k ag ae 0).bind fun a5=>((s10_.f k a5).bind fun ac=>(if 0<(af.length:Int) then (sv_.l0 k l2 af ac (([rd af 0]:List Int)) 0 ag ae) else (none)))))=some (r1,r2):=by rw [if_pos rfl] at H;exact H
  clear H;have H:=H1;clear H1;obtain⟨af,A6,H⟩:=zbind H;obtain⟨a5,A7,H⟩:=zbind H;obtain⟨ac,A8,H⟩:=zbind H
  have c9:=zpc H;replace H:=zph H
  have cc:=dT c9
  have cd:decide (0<af.length)=true:=dT (by omega)
  clear c9
  obtain⟨cI,bL⟩ : ∃ y_:List Int,y_=(([rd af 0]:List Int)):=⟨_,rfl⟩
  replace H:(sv_.l0 k l2 af ac cI 0 ag ae)=some (r1,r2):=zH bL H
  have cq:=A0_ bL;clear bL;have H':=A0_ H;clear H
  go_enter Try.func37,Try.ntmps37
  go_wp2_with (first|((with_reducible refine gD (N:=3) rfl ?_);refine zX (N:=3) (cs := #[.slice au ag.length av,.slice aQ ae.length aA]) (t:=25) ?_;intro ao hg w10 hbox hb;replace aw:=A0_ (Kd.V_below (Kd.V_elderB (by(with_reducible repeat(first|apply Kd.V_alloc|apply Kd.V_drewN|apply Kd.V_drew));exact aw.out) ao (Nat.le_of_eq hg.symm)) hb);have aa:=A0_ (hbox);have cY:=zG hg HB;have cZ:=zG hg HB;replace HB:=zB HB hb;clear hb hbox hg;have bf:=zc0 aa;have bg:=zc1 aa;have bh:=kF aa.out 0;have bi:=kF aa.out 1)|((with_reducible refine gC (f:=56) rfl ?_);refine zJ (some 19) Try.func56 #[.agg #[.slice au ag.length av,.slice aQ ae.length aA],.int .i64 a1,.slice A2 l2.length c2] ?_;(with_reducible refine(sz_.calls k _ _ ag _ _ ae a1 _ _ l2 true _ ?aj ?ak ?aE ?aG ?aV ?bc A4.out).mono ?_);(case aj=>exact zC aX HB);(case ak=>exact aY.out);(case aE=>exact zC aZ HB);(case aG=>exact bb.out);(case aV=>repeat(first|exact(Kd.V_reads' aw.out).2.2|(with_reducible refine cA ?_ _)|(with_reducible refine cN ?_ _)|(with_reducible refine cD ?_)));(case bc=>exact(Kd.V_reads' aw.out).2.1);rintro e w12 ⟨rfl,hb⟩;refine⟨_,rfl,?_⟩;replace aw:=A0_ (Kd.V_below (by(with_reducible repeat(first|apply Kd.V_alloc|apply Kd.V_drewN|apply Kd.V_drew));exact aw.out) hb);replace aa:=zK aa hb;replace HB:=zB HB hb;(try clear hb);have bj:=zc0 aa;have bk:=zc1 aa;have bl:=kF aa.out 0;have bm:=kF aa.out 1)|((with_reducible refine gC (f:=91) rfl ?_);refine zJ (some 24) Try.func91 #[.slice au ag.length av] ?_;(with_reducible refine(s1e_.calls k _ _ ag af _ ?aj ?ak A6.out).mono ?_);(case aj=>exact zC aX HB);(case ak=>exact aY.out);rintro e w14 ⟨es,rfl,an,hb⟩;refine⟨_,rfl,?_⟩;replace aw:=A0_ (Kd.V_elder' (by(with_reducible repeat(first|apply Kd.V_alloc|apply Kd.V_drewN|apply Kd.V_drew));exact aw.out) (Kd.R_base an) hb);have aC:=A0_ (rL (Kd.R_newM (M:=fun k_=>(w.heap.size≤k_)) an (bZ (zB_ HB)) (fun k_ h_=>h_)) (bZ (zB_ HB)));replace aa:=zK aa hb;replace HB:=zB HB hb;(try clear hb);(try clear an);have bn:=zc0 aa;have bo:=zc1 aa;have bp:=kF aa.out 0;have bq:=kF aa.out 1)|((with_reducible refine gC (f:=94) rfl ?_);refine zJ (some 26) Try.func94 #[.agg #[.slice au ag.length av,.slice aQ ae.length aA],.int .i64 0] ?_;(with_reducible refine(s17_.calls k _ _ ag _ _ ae 0 a5 _ ?aj ?ak ?aE ?aG A7.out).mono ?_);(case aj=>exact zC aX HB);(case ak=>exact aY.out);(case aE=>exact zC aZ HB);(case aG=>exact bb.out);rintro e w16 ⟨et,rfl,an,hb⟩;refine⟨_,rfl,?_⟩;replace aw:=A0_ (Kd.V_elder' (by(with_reducible repeat(first|apply Kd.V_alloc|apply Kd.V_drewN|apply Kd.V_drew));exact aw.out) (Kd.R_base an) hb);have aH:=A0_ (rL (Kd.R_new' (Kd.R_newM (M:=fun k_=>(w.heap.size≤k_)) an (bZ (zB_ HB)) (fun k_ h_=>h_)) (rX (zR_ aC))) (bZ (zB_ HB)));replace aC:=A0_ (Kd.R_elder' (zR_ aC) (Kd.R_base an) hb);replace aa:=zK aa hb;replace HB:=zB HB hb;(try clear hb);(try clear an);obtain⟨dE,dG,dH⟩:=rS aH.out;subst dH)|((with_reducible refine gC (f:=93) rfl ?_);refine zJ (some 27) Try.func93 #[.slice dE a5.length dG] ?_;(with_reducible refine(s10_.calls k _ _ a5 ac _ ?aj ?ak A8.out).mono ?_);(case aj=>exact zD aH);(case ak=>exact(rR aH.out).2.1);rintro e w18 ⟨bM,rfl,an,hb⟩;refine⟨_,rfl,?_⟩;replace aw:=A0_ (Kd.V_elder' (by(with_reducible repeat(first|apply Kd.V_alloc|apply Kd.V_drewN|apply Kd.V_drew));exact aw.out) (Kd.R_base an) hb);have bC:=A0_ (rL (Kd.R_new' (Kd.R_new' (Kd.R_newM (M:=fun k_=>(w.heap.size≤k_)) an (bZ (zB_ HB)) (fun k_ h_=>h_)) (rX (zR_ aC))) (rX (zR_ aH))) (bZ (zB_ HB)));replace aC:=A0_ (Kd.R_elder' (zR_ aC) (Kd.R_base an) hb);replace aH:=A0_ (Kd.R_elder' (zR_ aH) (Kd.R_base an) hb);replace aa:=zK aa hb;replace HB:=zB HB hb;(try clear hb);(try clear an);obtain⟨eu,ax,dI⟩:=rS aC.out;subst dI;have br:0≤(0:Int):=(by omega);have bu:0<(af.length:Int):=zd;obtain⟨al,dJ,aT⟩:=tI (rR aC.out).2.2 0 br bu;cases dJ;have qi751:(0<af.length)=True:=eq_true (by omega);(try rw [show((0:Int)).toNat=0 from rfl] at aT);(try rw [Addr.add_zero'] at aT);replace br:=eq_true br;replace bu:=eq_true bu)|((with_reducible refine gD (N:=31) rfl ?_);refine Kd.R_lit (Kd.int .i64) _ 3 ?hg (N:=31) ?hd (xs:=([rd af 0]:List Int)) (inner := [.int .i64 (rd af 0)]) (ok:=fun _=>True) (okp:=fun _=>True) ?hr ?hp (fun _ hk=>hk) trivial (Below.refl _ _) (Nat.le_refl _) (by simp) ?_;(case hd=>rfl);(case hg=>rfl);(case hr=>first|(go_simp;done)|(go_simp;rfl));(case hp=>exact(Reps.one (show Kd.M (Kd.int .i64) _ _ _ (rd af 0) [.int .i64 (rd af 0)] from rfl) (Reps.none _ _)));intro ev w20 aW hb hg_ hnew_;clear hg_ hnew_;(first|rw [← cq.out] at aW|(simp only [Int.reduceToNat] at aW;rw [← cq.out] at aW));replace aw:=A0_ (Kd.V_elder' (by(with_reducible repeat(first|apply Kd.V_alloc|apply Kd.V_drewN|apply Kd.V_drew));exact aw.out) (Kd.R_base aW) hb);have da:=A0_ (rL (Kd.R_new' (Kd.R_new' (Kd.R_new' (Kd.R_newM (M:=fun k_=>(w.heap.size≤k_)) aW (bZ (zB_ HB)) (fun k_ h_=>h_)) (rX (zR_ aC))) (rX (zR_ aH))) (rX (zR_ bC))) (bZ (zB_ HB)));replace aC:=A0_ (Kd.R_elder' (zR_ aC) (Kd.R_base aW) hb);replace aH:=A0_ (Kd.R_elder' (zR_ aH) (Kd.R_base aW) hb);replace bC:=A0_ (Kd.R_elder' (zR_ bC) (Kd.R_base aW) hb);replace aa:=zK aa hb;replace HB:=zB HB hb;clear hb aW))
  go_loopg [2,10,11] k (fun kq v2 v10 v11 w' => ∃ (aq:List (List Int)) (ar:List Int) (ab:Int),v11 = .int .i64 ab∧Aside0 (sv_.l0 kq aq af ac ar ab ag ae=some (r1,r2))∧Aside0 (kq≤k)∧Aside0 (Kd.V (Kd.slice 3 (Kd.int .i64)) 23 w' w.heap.size (fun k_=>(P2_ k_∨w.heap.size≤k_)∧some k_≠((.slice (some al) af.length ax):Value).ownBlock∧some k_≠(bM:Value).ownBlock∧some k_≠(v10:Value).ownBlock∧k_≠ao) v2 aq)∧Aside0 (Kd.R (Kd.int .i64) 3 w' w.heap.size (fun k_=>(w.heap.size≤k_)∧some k_≠(bM:Value).ownBlock∧some k_≠(v10:Value).ownBlock) (.slice (some al) af.length ax) af)∧Aside0 (Kd.R (Kd.int .i64) 3 w' w.heap.size (fun k_=>(w.heap.size≤k_)∧some k_≠((.slice (some al) af.length ax):Value).ownBlock∧some k_≠(v10:Value).ownBlock) bM ac)∧Aside0 (Kd.R (Kd.int .i64) 3 w' w.heap.size (fun k_=>(w.heap.size≤k_)∧some k_≠((.slice (some al) af.length ax):Value).ownBlock∧some k_≠(bM:Value).ownBlock) v10 ar)∧Aside0 (w'.heap[ao]? = some (.cells #[(.slice au ag.length av),(.slice aQ ae.length aA)] 25 (0,0)))∧Aside0 (Below w.heap.size w w'))
  case atStart=>exact⟨(l2),(cI),(0),zt,H',⟨Nat.le_refl _⟩,⟨by(with_reducible repeat(first|apply Kd.V_alloc|apply Kd.V_drewN|apply Kd.V_drew));exact Kd.V_mono aw.out (fun _ hk=>⟨hk.1.1.1.1.1,⟨hk.1.1.1.2,⟨hk.1.2,⟨hk.2,hk.1.1.1.1.2⟩⟩⟩⟩)⟩,⟨zmR aC (fun _ hk=>⟨hk.1.1.1.1,⟨hk.1.2,hk.2⟩⟩)⟩,⟨zmR bC (fun _ hk=>⟨hk.1.1.1.1,⟨hk.1.1.2,hk.2⟩⟩)⟩,⟨zmR da (fun _ hk=>⟨hk.1.1.1.1,⟨hk.1.1.2,hk.2⟩⟩)⟩,⟨zK_ aa⟩,⟨zB_ HB⟩⟩
  case round =>
   clear H';(try clear c2);(try clear c5);(try clear c9);(try clear cc);(try clear cd);(try clear bf);(try clear bg);(try clear bj);(try clear bk);(try clear bn);(try clear bo);(try clear bh);(try clear bi);(try clear bl);(try clear bm);(try clear bp);(try clear bq);(try clear aT);(try clear br);(try clear bu);obtain⟨aq,ar,ab,rfl,HA,bz,ai,am,ap,ah,aa,HB⟩:=hrel
   cases gk with
   | zero=>exact absurd HA.out (by simp [sv_.l0])
   | succ k1 =>
    have H:=HA.out;clear HA;simp only [sv_.l0] at H
    by_cases bB:ab<(ac.length:Int)
    ·rw [if_pos bB] at H
     have bO:=dT bB;clear bB
     have cJ:=zpc H;replace H:=zph H
     have db:=dT cJ;clear cJ
     have cK:=zpc H;replace H:=zph H
     have dc:=dT cK;clear cK
     have cL:=zpc H;replace H:=zph H
     have dd:=dT cL;clear cL;have ce:=A0_ H;clear H;obtain⟨ew,aD,dK⟩:=rS ap.out;subst dK
     have bP:0≤(ab:Int):=zd
     have bQ:ab<(ac.length:Int):=zd
     obtain⟨ay,dL,cx⟩:=tI (rR ap.out).2.2 ab bP bQ
     cases dL
     replace bP:=eq_true bP;replace bQ:=eq_true bQ;have cy:=zc0 aa;have cz:=zc1 aa;have cC:=kF aa.out 0;have cE:=kF aa.out 1
     have bR:0≤((rd ac ab):Int):=zd
     have bU:(rd ac ab)<(ae.length:Int):=zd
     obtain⟨a3,dM,a4⟩:=tI aZ.out (rd ac ab) bR bU
     cases dM
     try replace a4:=(HB.out.cell (wL w _ a4)).trans a4
     replace bR:=eq_true bR;replace bU:=eq_true bU
     go_upto_region 11 with(fail)
     go_cut [61] (fun v61 wc => ∃ (kq:Nat) (bd:Bool),v61 = .bool bd∧Aside0 (sv_.j1 kq aq af ac ar ab (rd ac ab) (rd ae (rd ac ab)) bd ag ae=some (r1,r2))∧Aside0 (kq≤k1)∧Aside0 (Kd.V (Kd.slice 3 (Kd.int .i64)) 23 wc w.heap.size (fun k_=>(P2_ k_∨w.heap.size≤k_)∧some k_≠((.slice (some al) af.length ax):Value).ownBlock∧some k_≠((.slice (some ay) ac.length aD):Value).ownBlock∧some k_≠(u10:Value).ownBlock∧k_≠ao) u2 aq)∧Aside0 (Kd.R (Kd.int .i64) 3 wc w.heap.size (fun k_=>(w.heap.size≤k_)∧some k_≠((.slice (some ay) ac.length aD):Value).ownBlock∧some k_≠(u10:Value).ownBlock) (.slice (some al) af.length ax) af)∧Aside0 (Kd.R (Kd.int .i64) 3 wc w.heap.size (fun k_=>(w.heap.size≤k_)∧some k_≠((.slice (some al) af.length ax):Value).ownBlock∧some k_≠(u10:Value).ownBlock) (.slice (some ay) ac.length aD) ac)∧Aside0 (Kd.R (Kd.int .i64) 3 wc w.heap.size (fun k_=>(w.heap.size≤k_)∧some k_≠((.slice (some al) af.length ax):Value).ownBlock∧some k_≠((.slice (some ay) ac.length aD):Value).ownBlock) u10 ar)∧Aside0 (wc.heap[ao]? = some (.cells #[(.slice au ag.length av),(.slice (some a3) ae.length aA)] 25 (0,0)))∧Aside0 (Below w.heap.size w wc))
     case first =>
      have H:=ce.out;clear ce
      have du:=zpc H;replace H:=zph H
      have cr:=dT du;clear du
      (first|rw [cr]|(simp only [i64_w,i32_w];rw [cr])|skip)
      obtain⟨dN,dv,H⟩:=zbind H
      by_cases ct:dN=true
      ·subst ct
       have H1:(if 0≤(rd ae (rd ac ab)) then (if (rd ae (rd ac ab))<(af.length:Int) then ((s1d_.f k1 ar (rd af (rd ae (rd ac ab)))).bind fun bV=>(sv_.j1 k1 aq af ac ar ab (rd ac ab) (rd ae (rd ac ab)) (!bV) ag ae)) else (none)) else (none))=some (r1,r2):=by rw [if_pos rfl] at H;exact H
       clear H;have H:=H1;clear H1
       have dw:=zpc H;replace H:=zph H
       have el:=dT dw;clear dw
       have dx:=zpc H;replace H:=zph H
       have em:=dT dx;clear dx;obtain⟨bV,eg,H⟩:=zbind H;have H':=A0_ H;clear H
       have a6:0≤((rd ac ab):Int):=zd
       have a7:(rd ac ab)<(af.length:Int):=zd
       obtain⟨bW,cf,cF⟩:=tI (rR am.out).2.2 (rd ac ab) a6 a7
       obtain rfl:al=bW:=(by injection cf)
       replace a6:=eq_true a6;replace a7:=eq_true a7;obtain⟨dO,dP,dQ⟩:=rS ah.out;subst dQ
       go_wp2_with (first|((with_reducible refine gC (f:=95) rfl ?_);refine zJ (some 52) Try.func95 #[.slice dO ar.length dP,.int .i64 (rd af (rd ac ab))] ?_;(with_reducible refine(s1d_.calls k1 _ _ ar (rd af (rd ac ab)) true _ ?aj ?ak dv.out).mono ?_);(case aj=>exact zD ah);(case ak=>exact(rR ah.out).2.1);rintro e w' ⟨rfl,⟨nd,rfl⟩⟩;refine⟨_,rfl,?_⟩;have cg:0≤((rd ae (rd ac ab)):Int):=zd;have ch:(rd ae (rd ac ab))<(af.length:Int):=zd;obtain⟨de,dR,d9⟩:=tI (rR am.out).2.2 (rd ae (rd ac ab)) cg ch;obtain rfl:al=de:=(by injection dR);replace cg:=eq_true cg;replace ch:=eq_true ch)|(go_at_call 95;(with_reducible refine(s1d_.calls k1 _ _ ar (rd af (rd ae (rd ac ab))) bV _ ?aj ?ak eg.out).mono ?_);(case aj=>exact zD ah);(case ak=>exact(rR ah.out).2.1);rintro e w' ⟨rfl,⟨nd,rfl⟩⟩))
       go_meet
       case rel=>exact⟨_,(!bV),zt,H',⟨by have:=bz.out;first|omega|exact Nat.le_refl _⟩,⟨by(with_reducible repeat(first|apply Kd.V_alloc|apply Kd.V_drewN|apply Kd.V_drew));exact ai.out⟩,⟨zR_ am⟩,⟨zR_ ap⟩,⟨zR_ ah⟩,⟨zK_ aa⟩,⟨zB_ HB⟩⟩
      replace ct:=Bool.eq_false_iff.mpr ct;subst ct
      have H1:(sv_.j1 k1 aq af ac ar ab (rd ac ab) (rd ae (rd ac ab)) false ag ae)=some (r1,r2):=by rw [if_neg (show ¬ (false=true) by decide)] at H;exact H
      clear H;have H:=H1;clear H1;have H':=A0_ H;clear H
      have a6:0≤((rd ac ab):Int):=zd
      have a7:(rd ac ab)<(af.length:Int):=zd
      obtain⟨bW,cf,cF⟩:=tI (rR am.out).2.2 (rd ac ab) a6 a7
      obtain rfl:al=bW:=(by injection cf)
      replace a6:=eq_true a6;replace a7:=eq_true a7;obtain⟨dS,dU,dV⟩:=rS ah.out;subst dV
      go_wp2_with (first|((with_reducible refine gC (f:=95) rfl ?_);refine zJ (some 52) Try.func95 #[.slice dS ar.length dU,.int .i64 (rd af (rd ac ab))] ?_;(with_reducible refine(s1d_.calls k1 _ _ ar (rd af (rd ac ab)) false _ ?aj ?ak dv.out).mono ?_);(case aj=>exact zD ah);(case ak=>exact(rR ah.out).2.1);rintro e w' ⟨rfl,⟨nd,rfl⟩⟩;refine⟨_,rfl,?_⟩))
      go_meet
      case rel=>exact⟨_,(false),zt,H',⟨by have:=bz.out;first|omega|exact Nat.le_refl _⟩,⟨by(with_reducible repeat(first|apply Kd.V_alloc|apply Kd.V_drewN|apply Kd.V_drew));exact ai.out⟩,⟨zR_ am⟩,⟨zR_ ap⟩,⟨zR_ ah⟩,⟨zK_ aa⟩,⟨zB_ HB⟩⟩
     case rest =>
      clear ce;(try clear c2);(try clear c5);(try clear c9);(try clear cc);(try clear cd);(try clear bB);(try clear bO);(try clear cJ);(try clear db);(try clear cK);(try clear dc);(try clear cL);(try clear dd);(try clear bf);(try clear bg);(try clear bj);(try clear bk);(try clear bn);(try clear bo);(try clear cy);(try clear cz);(try clear bh);(try clear bi);(try clear bl);(try clear bm);(try clear bp);(try clear bq);(try clear cC);(try clear cE);(try clear aT);(try clear cx);(try clear a4);(try clear br);(try clear bP);(try clear bR);(try clear bu);(try clear bQ);(try clear bU);obtain⟨kq,bd,rfl,HA,bX,ai,am,ap,ah,aa,HB⟩:=hcut
      cases kq with
      | zero=>exact absurd HA.out (by simp [sv_.j1])
      | succ aK =>
       have H:=HA.out;clear HA;simp only [sv_.j1] at H
       by_cases cu:bd=true
       ·subst cu
        have H1:(if 0≤(rd ae (rd ac ab)) then (if (rd ae (rd ac ab))<(af.length:Int) then ((s1j_.f aK ag ae aq (rd ac ab)).bind fun bF=>((s10_.f aK bF).bind fun aM=>((s1i_.f aK ag ae aq (rd af (rd ae (rd ac ab))) aM).bind fun bG=>(if ar.length<17592186044416 then (sv_.l0 aK bG af ac (ar ++ [rd af (rd ae (rd ac ab))]) (wrap64 (ab+1)) ag ae) else (none))))) else (none)) else (none))=some (r1,r2):=by rw [if_pos rfl] at H;exact H
        clear H;have H:=H1;clear H1
        have dy:=zpc H;replace H:=zph H
        have en:=dT dy;clear dy
        have dz:=zpc H;replace H:=zph H
        have eo:=dT dz;clear dz;obtain⟨bF,eh,H⟩:=zbind H;obtain⟨aM,ei,H⟩:=zbind H;obtain⟨bG,ej,H⟩:=zbind H
        have dA:=zpc H;replace H:=zph H
        have df:=A0_ dA;clear dA
        obtain⟨cM,bY⟩ : ∃ y_:List Int,y_=(ar ++ [rd af (rd ae (rd ac ab))]):=⟨_,rfl⟩
        replace H:(sv_.l0 aK bG af ac cM (wrap64 (ab+1)) ag ae)=some (r1,r2):=zH bY H
        have dg:=A0_ bY;clear bY;have H':=A0_ H;clear H
        try go_wp2
        replace ai:=A0_ (Kd.V_drew ai.out)
        replace am:=A0_ (rD am.out)
        replace ap:=A0_ (rD ap.out)
        replace ah:=A0_ (rD ah.out)
        replace aa:=A0_ (kD aa.out)
        replace HB:=A0_ (bD HB.out)
        have ci:0≤((rd ae (rd ac ab)):Int):=zd
        have cj:(rd ae (rd ac ab))<(af.length:Int):=zd
        obtain⟨dh,dW,bH⟩:=tI (rR am.out).2.2 (rd ae (rd ac ab)) ci cj
        obtain rfl:al=dh:=(by injection dW)
        replace ci:=eq_true ci;replace cj:=eq_true cj;obtain⟨cO,cP,cQ⟩:=Kd.V_slice ai.out
        (first|subst cQ|(injection cQ with f1_ f2_ f3_;have f4_:=f1_.symm;have f5_:=f3_.symm;clear f1_ f2_ f3_;subst f4_;subst f5_))
        refine start_ (n:=13) (S:=fun w'=>w'.cell? ⟨ao,0,none⟩=some (.slice au ag.length av)∧w'.cell? ⟨ao,1,none⟩=some (.slice (some a3) ae.length aA)∧w'.cell? (al.add ((rd ae (rd ac ab))).toNat)=some (.int .i64 (rd af (rd ae (rd ac ab))))) (ds := []) (bs 13 0) (by kernel_rfl) rfl rfl ⟨(kC aa.out 0).trans rfl,(kC aa.out 1).trans rfl,bH⟩ (fun hHeld => ?_);refine with_tabW sv_.tab12 sv_.bits12 (fun HT_ HW_ => ?_)
        generalize wc.drew=w44 at ai am ap ah aa HB bH hHeld ⊢
        refine zP 1 (some 63) (bs 13 2) ?_
        refine zP 2 (some 64) (bs 13 6) ?_
        refine zP 3 (some 65) (bs 13 14) ?_
        refine zP 4 (some 66) (bs 13 30) ?_
        refine zP 7 (some 69) (bs 13 158) ?_
        refine zP 8 (some 70) (bs 13 414) ?_
        refine zT 0 (some 62) (bs 13 415) hHeld ?_
        refine zT 5 (some 67) (bs 13 447) hHeld ?_
        refine zT 6 (some 68) (bs 13 511) hHeld ?_
        refine one_ (i:=9) (N:=some 71) (bs 13 1023) rfl rfl (one_of HT_.out (by kernel_rfl)) (by decide) (fun K hK => ?_)
        refine zg Try.func96 #[.agg #[.slice au ag.length av,.slice (some a3) ae.length aA],.slice cO aq.length cP,.int .i64 (rd ac ab)] ?_
        with_reducible refine(s1j_.calls aK _ _ ag _ _ ae (fun k_=>((P2_ k_∨w.heap.size≤k_)∧(some k_≠(.slice (some al) af.length ax:Value).ownBlock∧(some k_≠(.slice (some ay) ac.length aD:Value).ownBlock∧(some k_≠(u10:Value).ownBlock∧k_≠ao))))) _ _ aq (rd ac ab) bF _ ?aj ?ak ?aE ?aG ?aV eh.out).mono ?_
        (case aj=>exact zC aX HB)
        (case ak=>exact aY.out)
        (case aE=>exact zC aZ HB)
        (case aG=>exact bb.out)
        (case aV=>exact ai.out)
        rintro e w46 ⟨ex,rfl,an,hb⟩
        have HS2_:=(hb.cell (wL _ _ (hHeld.2.2))).trans (hHeld.2.2)
        refine⟨_,rfl,?_⟩
        replace ai:=A0_ (Kd.V_below (by(with_reducible repeat(first|apply Kd.V_alloc|apply Kd.V_drewN|apply Kd.V_drew));exact ai.out) hb)
        have aI:=A0_ (Kd.V_lower (Kd.V_mono (ok':=fun k_=>(P2_ k_∨w.heap.size≤k_)∧some k_≠(.slice (some al) af.length ax:Value).ownBlock∧some k_≠(.slice (some ay) ac.length aD:Value).ownBlock∧some k_≠(u10:Value).ownBlock∧k_≠ao) an (fun k_ hk_=>⟨Or.elim hk_ (fun hs_=>hs_.1) (fun hn_=>(.inr (Nat.le_trans (bZ (zB_ HB)) hn_))),Or.elim hk_ (fun hs_=>hs_.2.1) (fun hn_=>(Kd.fresh' (rX (zR_ am)) k_ hn_)),Or.elim hk_ (fun hs_=>hs_.2.2.1) (fun hn_=>(Kd.fresh' (rX (zR_ ap)) k_ hn_)),Or.elim hk_ (fun hs_=>hs_.2.2.2.1) (fun hn_=>(Kd.fresh' (rX (zR_ ah)) k_ hn_)),Or.elim hk_ (fun hs_=>hs_.2.2.2.2) (fun hn_=>(Kd.freshB (g:=ao) (o := .cells #[.slice au ag.length av,.slice (some a3) ae.length aA] 25 (0,0)) (zK_ aa) k_ hn_))⟩)) (bZ (zB_ HB)))
        replace am:=zR am hb;replace ap:=zR ap hb;replace ah:=zR ah hb;replace aa:=zK aa hb;replace HB:=zB HB hb;(try clear hb);(try clear hk);(try clear an);obtain⟨dX,dY,cR⟩:=Kd.V_slice aI.out
        (first|subst cR|(injection cR with f1_ f2_ f3_;have f4_:=f1_.symm;have f5_:=f3_.symm;clear f1_ f2_ f3_;subst f4_;subst f5_))
        refine hK.out _ _ ⟨(kC aa.out 0).trans rfl,(kC aa.out 1).trans rfl,HS2_⟩ (fun hHeld => ?_)
        clear hK K
        refine zN (some 71) ?_
        refine one_ (i:=10) (N:=some 72) (bs 13 2047) rfl rfl (one_of HT_.out (by kernel_rfl)) (by decide) (fun K hK => ?_)
        refine zg Try.func93 #[.slice dX bF.length dY] ?_
        with_reducible refine(s10_.calls aK _ _ bF aM _ ?aj ?ak ei.out).mono ?_
        (case aj=>repeat(first|exact(Kd.V_reads' aI.out).2.2|(with_reducible refine cA ?_ _)|(with_reducible refine cN ?_ _)|(with_reducible refine cD ?_)))
        (case ak=>exact(Kd.V_reads' aI.out).2.1)
        rintro e w48 ⟨ey,rfl,an,hb⟩
        have HS2_:=(hb.cell (wL _ _ (hHeld.2.2))).trans (hHeld.2.2)
        refine⟨_,rfl,?_⟩
        replace ai:=A0_ (Kd.V_elder' (by(with_reducible repeat(first|apply Kd.V_alloc|apply Kd.V_drewN|apply Kd.V_drew));exact ai.out) (Kd.R_base an) hb)
        replace aI:=A0_ (Kd.V_elder' (by(with_reducible repeat(first|apply Kd.V_alloc|apply Kd.V_drewN|apply Kd.V_drew));exact aI.out) (Kd.R_base an) hb)
        have aJ:=A0_ (rL (Kd.R_new' (Kd.R_new' (Kd.R_new' (Kd.R_newM (M:=fun k_=>(w.heap.size≤k_)) an (bZ (zB_ HB)) (fun k_ h_=>h_)) (rX (zR_ am))) (rX (zR_ ap))) (rX (zR_ ah))) (bZ (zB_ HB)))
        replace am:=A0_ (Kd.R_elder' (zR_ am) (Kd.R_base an) hb)
        replace ap:=A0_ (Kd.R_elder' (zR_ ap) (Kd.R_base an) hb)
        replace ah:=A0_ (Kd.R_elder' (zR_ ah) (Kd.R_base an) hb)
        replace aa:=zK aa hb;replace HB:=zB HB hb;(try clear hb);(try clear hk);(try clear an);obtain⟨a8,a9,cS⟩:=rS aJ.out
        (first|subst cS|(injection cS with f1_ f2_ f3_;have f4_:=f1_.symm;have f5_:=f3_.symm;clear f1_ f2_ f3_;subst f4_;subst f5_))
        refine hK.out _ _ ⟨(kC aa.out 0).trans rfl,(kC aa.out 1).trans rfl,HS2_⟩ (fun hHeld => ?_)
        clear hK K
        refine zN (some 72) ?_
        refine one_ (i:=11) (N:=some 73) (bs 13 4095) rfl rfl (one_of HT_.out (by kernel_rfl)) (by decide) (fun K hK => ?_)
        refine zg Try.func90 #[.agg #[.slice au ag.length av,.slice (some a3) ae.length aA],.slice cO aq.length cP,.int .i64 (rd af (rd ae (rd ac ab))),.slice a8 aM.length a9] ?_
        with_reducible refine(s1i_.calls aK _ _ ag _ _ ae _ _ aq (rd af (rd ae (rd ac ab))) _ _ aM bG _ ?aj ?ak ?aE ?aG ?aV ?bc ?di ?dj ej.out).mono ?_
        (case aj=>exact zC aX HB)
        (case ak=>exact aY.out)
        (case aE=>exact zC aZ HB)
        (case aG=>exact bb.out)
        (case aV=>repeat(first|exact(Kd.V_reads' ai.out).2.2|(with_reducible refine cA ?_ _)|(with_reducible refine cN ?_ _)|(with_reducible refine cD ?_)))
        (case bc=>exact(Kd.V_reads' ai.out).2.1)
        (case di=>exact zD aJ)
        (case dj=>exact(rR aJ.out).2.1)
        rintro e w50 ⟨cT,rfl,an,hb⟩
        have HS2_:=(hb.cell (wL _ _ (hHeld.2.2))).trans (hHeld.2.2)
        refine⟨_,rfl,?_⟩
        replace ai:=A0_ (Kd.V_elder' (by(with_reducible repeat(first|apply Kd.V_alloc|apply Kd.V_drewN|apply Kd.V_drew));exact ai.out) (Kd.S_base an) hb)
        replace aI:=A0_ (Kd.V_elder' (by(with_reducible repeat(first|apply Kd.V_alloc|apply Kd.V_drewN|apply Kd.V_drew));exact aI.out) (Kd.S_base an) hb)
        have b2:=A0_ (Kd.S_lower (Kd.S_new' (Kd.S_new' (Kd.S_new' (Kd.S_new' (Kd.S_newM (M:=fun k_=>(w.heap.size≤k_)) an (bZ (zB_ HB)) (fun k_ h_=>h_)) (rX (zR_ am))) (rX (zR_ ap))) (rX (zR_ ah))) (rX (zR_ aJ))) (bZ (zB_ HB)))
        replace am:=zR am hb;replace ap:=zR ap hb;replace ah:=zR ah hb;replace aJ:=zR aJ hb;replace aa:=zK aa hb;replace HB:=zB HB hb;(try clear hb);(try clear hk);(try clear an)
        refine hK.out _ _ ⟨(kC aa.out 0).trans rfl,(kC aa.out 1).trans rfl,HS2_⟩ (fun hHeld => ?_)
        clear hK K
        refine zN (some 73) ?_
        refine zP 12 (some 2) (bs 13 8191) ?_
        refine done_ (done_of HT_.out (by kernel_rfl)) ?_
        have ck:0≤((rd ae (rd ac ab)):Int):=zd
        have cl:(rd ae (rd ac ab))<(af.length:Int):=zd
        obtain⟨dk,dZ,ea⟩:=tI (rR am.out).2.2 (rd ae (rd ac ab)) ck cl
        obtain rfl:al=dk:=(by injection dZ)
        replace ck:=eq_true ck;replace cl:=eq_true cl
        try go_wp2_with (first|((with_reducible refine gB (b := .append) (xs := #[.tmp 74,.tmp 79]) rfl ?_);at_builtin;refine Kd.R_append (Kd.int .i64) (w0:=w) w.heap.size rfl (.tmp 74) (.tmp 79) 23 3 (.int .i64 0) 8 rfl Try.underlying23 info3 rfl (by decide) (by omega) u10 ar (rd af (rd ae (rd ac ab))) [.int .i64 (rd af (rd ae (rd ac ab)))] (fun k_=>(w.heap.size≤k_)∧some k_≠(.slice (some al) af.length ax:Value).ownBlock∧some k_≠(.slice (some ay) ac.length aD:Value).ownBlock∧some k_≠(.slice a8 aM.length a9:Value).ownBlock) (fun _=>False) rfl rfl ?aP (fun _ hk=>hk.elim) ?aF ?aO ?aB ?aS ?aL ?_;(case aP=>exact rfl);(case aB=>exact(zB_ HB));(case aF=>exact(fun k_ hk=>⟨(Nat.le_trans (bZ (zB_ HB)) hk),Kd.fresh' (rX (zR_ am)) k_ hk,Kd.fresh' (rX (zR_ ap)) k_ hk,Kd.fresh' (rX (zR_ aJ)) k_ hk⟩));(case aO=>exact(zmR ah (fun _ hk=>⟨hk.1.1,⟨hk.1.2.1,⟨hk.1.2.2,hk.2⟩⟩⟩)));(case aS=>exact(bZ (zB_ HB)));(case aL=>have:=df.out;omega);intro d0 w51 ho hb hg hat;rw [← dg.out] at ho;replace ai:=A0_ (Kd.V_afterv (ok:=(fun k_=>(P2_ k_∨w.heap.size≤k_)∧some k_≠(.slice (some al) af.length ax:Value).ownBlock∧some k_≠(.slice (some ay) ac.length aD:Value).ownBlock∧some k_≠(.slice a8 aM.length a9:Value).ownBlock∧some k_≠(cT:Value).ownBlock∧k_≠ao)) (by(with_reducible repeat(first|apply Kd.V_alloc|apply Kd.V_drewN|apply Kd.V_drew));exact Kd.V_mono ai.out (fun _ hk=>⟨⟨hk.1.1.1,⟨hk.1.1.2.1,⟨hk.1.1.2.2.1,⟨hk.1.2,⟨hk.2,hk.1.1.2.2.2.2⟩⟩⟩⟩⟩,hk.1.1.2.2.2.1⟩)) hg hat);replace am:=A0_ (Kd.R_after (ok:=(fun k_=>(w.heap.size≤k_)∧some k_≠(.slice (some ay) ac.length aD:Value).ownBlock∧some k_≠(.slice a8 aM.length a9:Value).ownBlock)) (zmR am (fun _ hk=>⟨⟨hk.1.1,⟨hk.1.2.1,hk.2⟩⟩,hk.1.2.2⟩)) hg hat);replace ap:=A0_ (Kd.R_after (ok:=(fun k_=>(w.heap.size≤k_)∧some k_≠(.slice (some al) af.length ax:Value).ownBlock∧some k_≠(.slice a8 aM.length a9:Value).ownBlock)) (zmR ap (fun _ hk=>⟨⟨hk.1.1,⟨hk.1.2.1,hk.2⟩⟩,hk.1.2.2⟩)) hg hat);replace aa:=A0_ (blk_grown (g:=ao) (o := .cells #[.slice au ag.length av,.slice (some a3) ae.length aA] 25 (0,0)) (zK_ aa) hg (Kd.R_ne ah.out aa.out (by decide)));replace aI:=A0_ (Kd.V_afterv (ok:=(fun k_=>(P2_ k_∨w.heap.size≤k_)∧some k_≠(.slice (some al) af.length ax:Value).ownBlock∧some k_≠(.slice (some ay) ac.length aD:Value).ownBlock∧some k_≠(.slice a8 aM.length a9:Value).ownBlock∧some k_≠(cT:Value).ownBlock∧k_≠ao)) (by(with_reducible repeat(first|apply Kd.V_alloc|apply Kd.V_drewN|apply Kd.V_drew));exact Kd.V_mono aI.out (fun _ hk=>⟨⟨hk.1.1.1,⟨hk.1.1.2.1,⟨hk.1.1.2.2.1,⟨hk.1.2,⟨hk.2,hk.1.1.2.2.2.2⟩⟩⟩⟩⟩,hk.1.1.2.2.2.1⟩)) hg hat);replace aJ:=A0_ (Kd.R_after (ok:=(fun k_=>(w.heap.size≤k_)∧some k_≠(.slice (some al) af.length ax:Value).ownBlock∧some k_≠(.slice (some ay) ac.length aD:Value).ownBlock)) (zmR aJ (fun _ hk=>⟨⟨hk.1.1.1.1,⟨hk.1.1.2,hk.1.2⟩⟩,hk.2⟩)) hg hat);replace b2:=A0_ (Kd.S_after (ok:=(fun k_=>(w.heap.size≤k_)∧some k_≠(.slice (some al) af.length ax:Value).ownBlock∧some k_≠(.slice (some ay) ac.length aD:Value).ownBlock∧some k_≠(.slice a8 aM.length a9:Value).ownBlock)) (zmS b2 (fun _ hk=>⟨⟨hk.1.1.1.1.1,⟨hk.1.1.1.2,⟨hk.1.1.2,hk.2⟩⟩⟩,hk.1.2⟩)) hg hat);replace HB:=A0_ (hb);have dl:=A0_ (ho);clear ah ho hb hg hat))
        go_roundg aK
        case measure=>have:=bz.out;have:=bX.out;omega
        case rel=>exact⟨(bG),(cM),(wrap64 (ab+1)),zt,H',⟨by have:=bz.out;have:=bX.out;omega⟩,⟨Kd.V_mono (Kd.S_V (ok:=fun k_=>(w.heap.size≤k_)∧some k_≠((.slice (some al) af.length ax):Value).ownBlock∧some k_≠((.slice (some ay) ac.length aD):Value).ownBlock∧some k_≠(d0:Value).ownBlock∧k_≠ao) (by(with_reducible repeat(first|apply sA|apply sN|apply sD));exact sM (Kd.S_types b2.out aa.out (by decide)) (fun _ hk=>⟨hk.1.1.1,⟨hk.1.1.2.1,⟨hk.1.1.2.2.1,⟨hk.1.2,hk.2⟩⟩⟩⟩))) (fun k_ hk=>by first|exact⟨(.inr (hk.1)),hk.2⟩|exact(.inr (hk)))⟩,⟨zmR am (fun _ hk=>⟨hk.1.1,⟨hk.1.2.1,hk.2⟩⟩)⟩,⟨zmR ap (fun _ hk=>⟨hk.1.1,⟨hk.1.2.1,hk.2⟩⟩)⟩,⟨zmR dl (fun _ hk=>⟨hk.1,⟨hk.2.1,hk.2.2.1⟩⟩)⟩,⟨zK_ aa⟩,⟨zB_ HB⟩⟩
       replace cu:=Bool.eq_false_iff.mpr cu;subst cu
       have H1:(sv_.l0 aK aq af ac ar (wrap64 (ab+1)) ag ae)=some (r1,r2):=by rw [if_neg (show ¬ (false=true) by decide)] at H;exact H
       clear H;have H:=H1;clear H1;have H':=A0_ H;clear H
       go_wp2
       go_roundg aK
       case measure=>have:=bz.out;have:=bX.out;omega
       case rel=>exact⟨(aq),(ar),(wrap64 (ab+1)),zt,H',⟨by have:=bz.out;have:=bX.out;omega⟩,⟨by(with_reducible repeat(first|apply Kd.V_alloc|apply Kd.V_drewN|apply Kd.V_drew));exact ai.out⟩,⟨zR_ am⟩,⟨zR_ ap⟩,⟨zR_ ah⟩,⟨zK_ aa⟩,⟨zB_ HB⟩⟩
    rw [if_neg bB] at H;have bO:=dF bB;clear bB
    obtain⟨cU,b3⟩ : ∃ y_:List (List Int),y_=(([]:List (List Int))):=⟨_,rfl⟩
    replace H:(sv_.l1 k1 aq cU 0)=some (r1,r2):=zH b3 H
    have cv:=A0_ b3;clear b3;have H':=A0_ H;clear H;obtain⟨ez,eA,d3⟩:=rS ap.out;subst d3
    go_wp2_with (first|((with_reducible refine gD (N:=81) rfl ?_);refine Kd.S_lit (Kd.slice 3 (Kd.int .i64)) _ 23 ?hg (N:=81) ?hd (xs:=([]:List (List Int))) (inner := []) (ok:=fun _=>True) (okp:=fun _=>True) ?hr ?hp (fun _ hk=>hk) trivial (Below.refl _ _) (Nat.le_refl _) (by simp) ?_;(case hd=>rfl);(case hg=>rfl);(case hr=>first|(go_simp;done)|(go_simp;rfl));(case hp=>exact(Reps.none _ _));intro eB w53 bv hb hg_ hnew_;clear hg_ hnew_;(first|rw [← cv.out] at bv|(simp only [Int.reduceToNat] at bv;rw [← cv.out] at bv));replace ai:=A0_ (Kd.V_elder' (by(with_reducible repeat(first|apply Kd.V_alloc|apply Kd.V_drewN|apply Kd.V_drew));exact ai.out) (Kd.S_base bv) hb);have dm:=A0_ (Kd.S_lower (Kd.S_new' (Kd.S_new' (Kd.S_new' (Kd.S_newM (M:=fun k_=>(w.heap.size≤k_)) bv (bZ (zB_ HB)) (fun k_ h_=>h_)) (rX (zR_ am))) (rX (zR_ ap))) (rX (zR_ ah))) (bZ (zB_ HB)));replace am:=zR am hb;replace ap:=zR ap hb;replace ah:=zR ah hb;replace aa:=zK aa hb;replace HB:=zB HB hb;clear hb bv))
    go_loopg [14,15] k1 (fun kq v14 v15 w' => ∃ (be:List (List Int)) (az:Int),v15 = .int .i64 az∧Aside0 (sv_.l1 kq aq be az=some (r1,r2))∧Aside0 (kq≤k1)∧Aside0 (Kd.V (Kd.slice 3 (Kd.int .i64)) 23 w' w.heap.size (fun k_=>(P2_ k_∨w.heap.size≤k_)∧some k_≠(v14:Value).ownBlock∧k_≠ao) u2 aq)∧Aside0 (Kd.S (Kd.slice 3 (Kd.int .i64)) 23 w' w.heap.size (fun k_=>(w.heap.size≤k_)) v14 be)∧Aside0 (w'.heap[ao]? = some (.cells #[(.slice au ag.length av),(.slice aQ ae.length aA)] 25 (0,0)))∧Aside0 (Below w.heap.size w w'))
    case atStart=>exact⟨(cU),(0),zt,H',⟨Nat.le_refl _⟩,⟨by(with_reducible repeat(first|apply Kd.V_alloc|apply Kd.V_drewN|apply Kd.V_drew));exact Kd.V_mono ai.out (fun _ hk=>⟨hk.1.1,⟨hk.2,hk.1.2.2.2.2⟩⟩)⟩,⟨zmS dm (fun _ hk=>hk.1.1.1.1)⟩,⟨zK_ aa⟩,⟨zB_ HB⟩⟩
    case round =>
     clear H';(try clear c2);(try clear c5);(try clear c9);(try clear cc);(try clear cd);(try clear bB);(try clear bO);(try clear bf);(try clear bg);(try clear bj);(try clear bk);(try clear bn);(try clear bo);(try clear bh);(try clear bi);(try clear bl);(try clear bm);(try clear bp);(try clear bq);(try clear aT);(try clear br);(try clear bu);obtain⟨be,az,rfl,HA,dB,ai,aN,aa,HB⟩:=hrel
     cases gk with
     | zero=>exact absurd HA.out (by simp [sv_.l1])
     | succ k2 =>
      have H:=HA.out;clear HA;simp only [sv_.l1] at H
      by_cases bI:az<(aq.length:Int)
      ·rw [if_pos bI] at H
       have dn:=dT bI;clear bI
       have dC:=zpc H;replace H:=zph H
       have ep:=dT dC;clear dC;obtain⟨ba,ek,H⟩:=zbind H
       have dD:=zpc H;replace H:=zph H
       have dp:=A0_ dD;clear dD
       obtain⟨cV,b4⟩ : ∃ y_:List (List Int),y_=(be ++ [ba]):=⟨_,rfl⟩
       replace H:(sv_.l1 k2 aq cV (wrap64 (az+1)))=some (r1,r2):=zH b4 H
       have dq:=A0_ b4;clear b4;have H':=A0_ H;clear H;obtain⟨eC,eD,d4⟩:=Kd.V_slice ai.out;subst d4
       have b5:0≤(az:Int):=zd
       have b6:az<(aq.length:Int):=zd
       obtain⟨eq,cW,cX,d5,cG,bJ,bK⟩:=at_L1 (Kd.V_reads' ai.out).2.2 az b5 b6
       cases d5
       obtain⟨ce778,hce778,hMe778,ca⟩:=Kd.V_get ai.out [] az b5 (by first|exact b6|exact zd|(have e_:=(Kd.V_reads' ai.out).1;omega))
       obtain⟨ua778_0,uc778_0,rfl,ul778_0,bw⟩:=Kd.FK_slice_open hMe778;have hv778_0:=ca 0 _ rfl
       rw [Nat.add_zero,show((Kd.slice 3 (Kd.int .i64))).sz=1 from rfl,Nat.mul_one] at hv778_0
       replace hv778_0:=sI (hv778_0.symm.trans cG)
       injection hv778_0 with hva_ hvn_ hvc_
       rw [hva_] at bw;rw [hvc_] at ul778_0
       have HL778_0:=A0_ (show Kd.V (Kd.int .i64) 3 _ w.heap.size _ _ (rd_L1 aq az) from Kd.V_mk ul778_0 bw)
       clear hva_ hvn_ hvc_ bw ul778_0 ca hce778;have aU:=A0_ bK;have cH:=A0_ bJ;clear bK bJ;replace b5:=eq_true b5;replace b6:=eq_true b6
       go_wp2_with (first|((with_reducible refine gC (f:=97) rfl ?_);refine zJ (some 93) Try.func97 #[.slice cW (rd_L1 aq az).length cX] ?_;(with_reducible refine(s16_.calls _ _ (rd_L1 aq az) ba _ ?aj ?ak ek.out).mono ?_);(case aj=>repeat(first|exact(by repeat(first|(with_reducible exact aU.out)|(with_reducible refine cA ?_ _)|(with_reducible refine cN ?_ _)|(with_reducible refine cD ?_)|exact aU.out))|(with_reducible refine cA ?_ _)|(with_reducible refine cN ?_ _)|(with_reducible refine cD ?_)));(case ak=>exact cH.out);rintro e w60 ⟨eE,rfl,an,hb⟩;refine⟨_,rfl,?_⟩;replace ai:=A0_ (Kd.V_elder' (by(with_reducible repeat(first|apply Kd.V_alloc|apply Kd.V_drewN|apply Kd.V_drew));exact ai.out) (Kd.R_base an) hb);replace aN:=A0_ (Kd.S_elder' (zS_ aN) (Kd.R_base an) hb);replace HL778_0:=A0_ (Kd.V_elder' (by(with_reducible repeat(first|apply Kd.V_alloc|apply Kd.V_drewN|apply Kd.V_drew));exact HL778_0.out) (Kd.R_base an) hb);have bE:=A0_ (rL (Kd.R_newM (M:=fun k_=>(w.heap.size≤k_)) an (bZ (zB_ HB)) (fun k_ h_=>h_)) (bZ (zB_ HB)));replace aa:=zK aa hb;replace aU:=A0_ (cB (by repeat(first|(with_reducible exact aU.out)|(with_reducible refine cA ?_ _)|(with_reducible refine cN ?_ _)|(with_reducible refine cD ?_)|exact aU.out)) hb);replace HB:=zB HB hb;(try clear hb);(try clear an);obtain⟨b7,b8,d6⟩:=rS bE.out;subst d6)|((with_reducible refine gB (b := .append) (xs := #[.tmp 88,.tmp 94]) rfl ?_);at_builtin;refine Kd.S_append (Kd.slice 3 (Kd.int .i64)) (w0:=w) w.heap.size rfl (.tmp 88) (.tmp 94) 26 23 (.slice none 0 0) 24 rfl Try.underlying26 info23 rfl (by decide) (by omega) u14 be ba [.slice b7 ba.length b8] (fun k_=>(w.heap.size≤k_)) (fun k_=>some k_=(.slice b7 ba.length b8:Value).ownBlock) rfl rfl ?aP (fun k_ hk_=>((rM (ok':=fun k_=>((fun k_=>(w.heap.size≤k_))) k_∧some k_≠(u14:Value).ownBlock) (Kd.R_apart' (bE.out) (Kd.S_typed aN.out) (by decide)) (fun k_ hk=>⟨hk.1.1,hk.2⟩))).1 k_ hk_.symm) ?aF ?aO ?aB ?aS ?aL ?_;(case aP=>exact Kd.M_row (rM (Kd.R_tight rfl (rM (ok':=fun k_=>((fun k_=>(w.heap.size≤k_))) k_∧some k_≠(u14:Value).ownBlock) (Kd.R_apart' (bE.out) (Kd.S_typed aN.out) (by decide)) (fun k_ hk=>⟨hk.1.1,hk.2⟩))) (fun _ h_=>h_)));(case aB=>exact(zB_ HB));(case aF=>exact(fun k_ hk=>(Nat.le_trans (bZ (zB_ HB)) hk)));(case aO=>exact(zmS aN (fun k_ hk=>⟨hk.1,fun e_=>hk.2 e_⟩)));(case aS=>exact(bZ (zB_ HB)));(case aL=>have:=dp.out;omega);intro eF w61 ho hb hg hat;rw [← dq.out] at ho;replace ai:=A0_ (Kd.V_afterv (ok:=(fun k_=>(P2_ k_∨w.heap.size≤k_)∧some k_≠(.slice b7 ba.length b8:Value).ownBlock∧k_≠ao)) (by(with_reducible repeat(first|apply Kd.V_alloc|apply Kd.V_drewN|apply Kd.V_drew));exact Kd.V_mono ai.out (fun _ hk=>⟨⟨hk.1.1,⟨hk.2,hk.1.2.2⟩⟩,hk.1.2.1⟩)) hg hat);replace aa:=A0_ (blk_grown (g:=ao) (o := .cells #[.slice au ag.length av,.slice aQ ae.length aA] 25 (0,0)) (zK_ aa) hg (Kd.S_ne aN.out aa.out (by decide)));replace HL778_0:=A0_ (Kd.V_afterv (ok:=(fun k_=>(P2_ k_∨w.heap.size≤k_)∧some k_≠(.slice b7 ba.length b8:Value).ownBlock∧k_≠ao)) (by(with_reducible repeat(first|apply Kd.V_alloc|apply Kd.V_drewN|apply Kd.V_drew));exact Kd.V_mono HL778_0.out (fun _ hk=>⟨⟨hk.1.1,⟨hk.2,hk.1.2.2⟩⟩,hk.1.2.1⟩)) hg hat);replace HB:=A0_ (hb);have dr:=A0_ (ho);clear aN bE ho hb hg hat))
       go_roundg k2
       case measure=>have:=bz.out;have:=dB.out;omega
       case rel=>exact⟨(cV),(wrap64 (az+1)),zt,H',⟨by have:=bz.out;have:=dB.out;omega⟩,⟨by(with_reducible repeat(first|apply Kd.V_alloc|apply Kd.V_drewN|apply Kd.V_drew));exact Kd.V_mono ai.out (fun _ hk=>⟨hk.1.1,⟨hk.2,hk.1.2.2⟩⟩)⟩,⟨zS_ dr⟩,⟨zK_ aa⟩,⟨zB_ HB⟩⟩
      rw [if_neg bI] at H;have dn:=dF bI;clear bI;simp only [Option.some.injEq,Prod.mk.injEq] at H;obtain⟨rfl,rfl⟩:=H;obtain⟨eG,eH,d7⟩:=Kd.V_slice ai.out;subst d7
      go_wp2
      go_ret2
      exact⟨_,by first|rfl|(simp [*] <;> rfl),zS_ aN,zB_ HB⟩
 replace c5:=Bool.eq_false_iff.mpr c5;subst c5
 have H1:(some ((([]:List (List Int))),false))=some (r1,r2):=by rw [if_neg (show ¬ (false=true) by decide)] at H;exact H
 clear H;have H:=H1;clear H1
 obtain⟨d8,b9⟩ : ∃ y_:List (List Int),y_=(([]:List (List Int))):=⟨_,rfl⟩
 replace H:(some (d8,false))=some (r1,r2):=zH b9 H
 have cw:=A0_ b9;clear b9;simp only [Option.some.injEq,Prod.mk.injEq] at H;obtain⟨rfl,rfl⟩:=H
 go_enter Try.func37,Try.ntmps37
 go_wp2_with (first|((with_reducible refine gD (N:=3) rfl ?_);refine zX (N:=3) (cs := #[.slice au ag.length av,.slice aQ ae.length aA]) (t:=25) ?_;intro ao hg w64 hbox hb;replace aw:=A0_ (Kd.V_below (Kd.V_elderB (by(with_reducible repeat(first|apply Kd.V_alloc|apply Kd.V_drewN|apply Kd.V_drew));exact aw.out) ao (Nat.le_of_eq hg.symm)) hb);have aa:=A0_ (hbox);have cY:=zG hg HB;have cZ:=zG hg HB;replace HB:=zB HB hb;clear hb hbox hg;have eb:=zc0 aa;have ec:=zc1 aa;have ed:=kF aa.out 0;have ee:=kF aa.out 1)|((with_reducible refine gC (f:=56) rfl ?_);refine zJ (some 19) Try.func56 #[.agg #[.slice au ag.length av,.slice aQ ae.length aA],.int .i64 a1,.slice A2 l2.length c2] ?_;(with_reducible refine(sz_.calls k _ _ ag _ _ ae a1 _ _ l2 false _ ?aj ?ak ?aE ?aG ?aV ?bc A4.out).mono ?_);(case aj=>exact zC aX HB);(case ak=>exact aY.out);(case aE=>exact zC aZ HB);(case aG=>exact bb.out);(case aV=>repeat(first|exact(Kd.V_reads' aw.out).2.2|(with_reducible refine cA ?_ _)|(with_reducible refine cN ?_ _)|(with_reducible refine cD ?_)));(case bc=>exact(Kd.V_reads' aw.out).2.1);rintro e w66 ⟨rfl,hb⟩;refine⟨_,rfl,?_⟩;replace aw:=A0_ (Kd.V_below (by(with_reducible repeat(first|apply Kd.V_alloc|apply Kd.V_drewN|apply Kd.V_drew));exact aw.out) hb);replace aa:=zK aa hb;replace HB:=zB HB hb;(try clear hb))|((with_reducible refine gD (N:=21) rfl ?_);refine Kd.S_lit (Kd.slice 3 (Kd.int .i64)) _ 23 ?hg (N:=21) ?hd (xs:=([]:List (List Int))) (inner := []) (ok:=fun _=>True) (okp:=fun _=>True) ?hr ?hp (fun _ hk=>hk) trivial (Below.refl _ _) (Nat.le_refl _) (by simp) ?_;(case hd=>rfl);(case hg=>rfl);(case hr=>first|(go_simp;done)|(go_simp;rfl));(case hp=>exact(Reps.none _ _));intro eI w67 bx hb hg_ hnew_;clear hg_ hnew_;(first|rw [← cw.out] at bx|(simp only [Int.reduceToNat] at bx;rw [← cw.out] at bx));replace aw:=A0_ (Kd.V_elder' (by(with_reducible repeat(first|apply Kd.V_alloc|apply Kd.V_drewN|apply Kd.V_drew));exact aw.out) (Kd.S_base bx) hb);have dt:=A0_ (Kd.S_lower (Kd.S_newM (M:=fun k_=>(w.heap.size≤k_)) bx (bZ (zB_ HB)) (fun k_ h_=>h_)) (bZ (zB_ HB)));replace aa:=zK aa hb;replace HB:=zB HB hb;clear hb bx))
 go_ret2
 exact⟨_,by first|rfl|(simp [*] <;> rfl),zmS dt (fun _ hk=>hk.1),zB_ HB⟩
def lr_.l0:Nat→Int→List Int→Int→Option (List Int)
  | 0,_,_,_=>none
  | k+1,x0,x3,x4=>if x4<x0 then (if x3.length<17592186044416 then (lr_.l0 k x0 (x3 ++ [x4]) (wrap64 (x4+1))) else (none)) else (some x3)
def lr_.f (k:Nat) (a0:Int):Option (List Int):=lr_.l0 k a0 (([]:List Int)) 0
theorem lr_.calls (k:Nat) (a0:Int) (r:List Int) (w:World) (h:lr_.f k a0=some r) :
    Calls Try.prog 39 #[.int .i64 a0] w fun e w' => ∃ v0_:Value,e = .returned (v0_)∧Kd.R (Kd.int .i64) 3 w' w.heap.size (fun _=>True) v0_ r∧Below w.heap.size w w':=by
 have HB:=A0_ (Below.refl w.heap.size w)
 have H:(lr_.l0 k a0 (([]:List Int)) 0)=some r:=h
 clear h
 obtain⟨ai,ac⟩ : ∃ y_:List Int,y_=(([]:List Int)):=⟨_,rfl⟩
 replace H:(lr_.l0 k a0 ai 0)=some r:=zH ac H
 have ah:=A0_ ac;clear ac;have H':=A0_ H;clear H
 go_enter Try.func39,Try.ntmps39
 go_wp2_with (first|((with_reducible refine gD (N:=5) rfl ?_);refine Kd.R_lit (Kd.int .i64) _ 3 ?hg (N:=5) ?hd (xs:=([]:List Int)) (inner := []) (ok:=fun _=>True) (okp:=fun _=>True) ?hr ?hp (fun _ hk=>hk) trivial (Below.refl _ _) (Nat.le_refl _) (by simp) ?_;(case hd=>rfl);(case hg=>rfl);(case hr=>first|(go_simp;done)|(go_simp;rfl));(case hp=>exact(Reps.none _ _));intro aq w2 af hb hg_ hnew_;clear hg_ hnew_;(first|rw [← ah.out] at af|(simp only [Int.reduceToNat] at af;rw [← ah.out] at af));have ak:=A0_ (rL af (bZ (zB_ HB)));replace HB:=zB HB hb;clear hb af))
 go_loopg [3,4] k (fun kq v3 v4 w' => ∃ (ab:List Int) (aa:Int),v4 = .int .i64 aa∧Aside0 (lr_.l0 kq a0 ab aa=some r)∧Aside0 (kq≤k)∧Aside0 (Kd.R (Kd.int .i64) 3 w' w.heap.size (fun _=>True) v3 ab)∧Aside0 (Below w.heap.size w w'))
 case atStart=>exact⟨(ai),(0),zt,H',⟨Nat.le_refl _⟩,⟨zR_ ak⟩,⟨zB_ HB⟩⟩
 case round =>
  clear H';obtain⟨ab,aa,rfl,HA,an,ag,HB⟩:=hrel
  cases gk with
  | zero=>exact absurd HA.out (by simp [lr_.l0])
  | succ k1 =>
   have H:=HA.out;clear HA;simp only [lr_.l0] at H
   by_cases c4:aa<a0
   ·rw [if_pos c4] at H
    have ao:=dT c4;clear c4
    have c5:=zpc H;replace H:=zph H
    have ap:=A0_ c5;clear c5
    obtain⟨aj,ae⟩ : ∃ y_:List Int,y_=(ab ++ [aa]):=⟨_,rfl⟩
    replace H:(lr_.l0 k1 a0 aj (wrap64 (aa+1)))=some r:=zH ae H
    have al:=A0_ ae;clear ae;have H':=A0_ H;clear H
    go_wp2_with (first|((with_reducible refine gB (b := .append) (xs := #[.tmp 11,.tmp 13]) rfl ?_);at_builtin;refine Kd.R_append (Kd.int .i64) (w0:=w) w.heap.size rfl (.tmp 11) (.tmp 13) 23 3 (.int .i64 0) 8 rfl Try.underlying23 info3 rfl (by decide) (by omega) u3 ab aa [.int .i64 aa] (fun _=>True) (fun _=>False) rfl rfl ?aP (fun _ hk=>hk.elim) ?aF ?aO ?aB ?aS ?aL ?_;(case aP=>exact rfl);(case aB=>exact(zB_ HB));(case aF=>exact(fun _ _=>trivial));(case aO=>exact(zR_ ag));(case aS=>exact(bZ (zB_ HB)));(case aL=>have:=ap.out;omega);intro ar w6 ho hb hg hat;rw [← al.out] at ho;replace HB:=A0_ (hb);have am:=A0_ (ho);clear ag ho hb hg hat))
    go_roundg k1
    case measure=>have:=an.out;omega
    case rel=>exact⟨(aj),(wrap64 (aa+1)),zt,H',⟨by have:=an.out;omega⟩,⟨zR_ am⟩,⟨zB_ HB⟩⟩
   rw [if_neg c4] at H;have ao:=dF c4;clear c4;obtain rfl:=sI H
   go_wp2
   go_ret
   exact⟨_,by first|rfl|(simp [*] <;> rfl),zR_ ag,zB_ HB⟩
end Go.Proofs.Ytmegggomhjgehaa.PFnCoverTree
