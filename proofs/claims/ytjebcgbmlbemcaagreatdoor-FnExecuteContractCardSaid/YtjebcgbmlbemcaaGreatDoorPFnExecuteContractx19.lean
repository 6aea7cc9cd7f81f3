import Derived.Test.YtjebcgbmlbemcaaGreatDoorPFnExecuteContractx17
import Derived.Test.YtjebcgbmlbemcaaGreatDoorPFnExecuteContractx18
namespace Go.Proofs.YtjebcgbmlbemcaaGreatDoor.PFnExecuteContract
open Go.RowKit Go.Proofs.YtjebcgbmlbemcaaGreatDoorW.PrintWords Go.Proofs.YtjebcgbmlbemcaaGreatDoorW.PrintLast Go.Proofs.YtjebcgbmlbemcaaGreatDoorW.PrintMore
set_option maxHeartbeats 8000000
set_option maxRecDepth 100000
attribute [local go_sem] max2_int min2_int max_two min_two max_three min_three max_four min_four
set_option linter.unusedVariables false
set_option linter.unusedSimpArgs false
mutual
def su_.j0:Nat→Int→Bool→List Int→List Int→Option (List Int×List Int×Bool)
  | 0,_,_,_,_=>none
  | k+1,x1,ai,ab,aa=>if ai=true then (some (([]:List Int),([]:List Int),false)) else ((s16_.f k ab aa x1).bind fun ac=>(if 0≤ac then (if ac<(aa.length:Int) then ((s12_.f ab).bind fun af=>(if 0≤(rd aa ac) then (if (rd aa ac)<(ab.length:Int) then (if ac<(af.length:Int) then (if ac<(ab.length:Int) then (if (rd aa ac)<(af.length:Int) then ((some ((af.set (ac:Int).toNat (rd ab (rd aa ac))).set ((rd aa ac):Int).toNat (rd ab ac):List Int)).bind fun ag=>((s12_.f ag).bind fun ah=>(su_.l0 k ac (rd aa ac) ag ah 0 ab aa))) else (none)) else (none)) else (none)) else (none)) else (none))) else (none)) else (none)))
def su_.l0:Nat→Int→Int→List Int→List Int→Int→List Int→List Int→Option (List Int×List Int×Bool)
  | 0,_,_,_,_,_,_,_=>none
  | k+1,x7,x8,x9,af,ab,ac,aa=>if ab<(af.length:Int) then (if ab=x7 then (su_.l0 k x7 x8 x9 af (wrap64 (ab+1)) ac aa) else (if ab=x8 then (su_.l0 k x7 x8 x9 af (wrap64 (ab+1)) ac aa) else ((s1b_.f k x9 ab x7 x8).bind fun ah=>(if 0≤ab then (su_.l0 k x7 x8 x9 (af.set (ab:Int).toNat ah) (wrap64 (ab+1)) ac aa) else (none))))) else ((s19_.f k af aa x7 x8).bind fun ag=>(some (ag.1,ag.2,true)))
end
def su_.f (k:Nat) (aa:List Int) (ab:List Int) (a1:Int):Option (List Int×List Int×Bool):=(sv_.f k aa ab a1).bind fun ac=>(if ac<0 then (su_.j0 k a1 true aa ab) else (if ac=2 then (su_.j0 k a1 true aa ab) else (su_.j0 k a1 ((aa.length:Int) == 2) aa ab)))
theorem su_.calls (k:Nat) (aM:Option Addr) (ax:Nat) (ag:List Int) (aV:Option Addr) (ay:Nat) (ac:List Int) (a1:Int) (r1:List Int) (r2:List Int) (r3:Bool) (w:World) (bM:Kd.C (Kd.int .i64) w aM ag.length ag) (bO:ag.length≤ax) (bP:Kd.C (Kd.int .i64) w aV ac.length ac) (bQ:ac.length≤ay) (h:su_.f k ag ac a1=some (r1,r2,r3)) :
    Calls Tryz.prog 20 #[.agg #[.slice aM ag.length ax,.slice aV ac.length ay],.int .i64 a1] w fun e w' => ∃ v0_ v1_:Value,e = .returned (.tuple #[.agg #[v0_,v1_],.bool r3])∧Kd.R (Kd.int .i64) 3 w' w.heap.size (fun k_=>nO k_ v1_) v0_ r1∧Kd.R (Kd.int .i64) 3 w' w.heap.size (fun k_=>nO k_ v0_) v1_ r2∧Below w.heap.size w w':=by
 have d9:=Tryz.underlying25;have aN:=A0_ bM;have bd:=A0_ bO;clear bM bO;have aW:=A0_ bP;have be:=A0_ bQ;clear bP bQ
 have HB:=A0_ (Below.refl w.heap.size w)
 have H:((sv_.f k ag ac a1).bind fun az=>(if az<0 then (su_.j0 k a1 true ag ac) else (if az=2 then (su_.j0 k a1 true ag ac) else (su_.j0 k a1 ((ag.length:Int) == 2) ag ac))))=some (r1,r2,r3):=h
 clear h;obtain⟨az,A3,H⟩:=zbind H;have cl:=A0_ H;clear H
 go_enter Tryz.func20,Tryz.ntmps20
 go_upto_region 2 with(first|((with_reducible refine gD (N:=2) rfl ?_);refine zX (N:=2) (cs := #[.slice aM ag.length ax,.slice aV ac.length ay]) (t:=25) ?_;intro aE hg w5 hbox hb;have aa:=A0_ (hbox);have dR:=zG hg HB;have dS:=zG hg HB;replace HB:=zB HB hb;clear hb hbox hg)|((with_reducible refine gD (N:=4) rfl ?_);refine zX (N:=4) (cs := #[.slice none 0 0,.slice none 0 0]) (t:=25) ?_;intro ao hg w6 hbox hb;have af:=A0_ (hbox);have dU:=zG hg HB;have dV:=zG hg HB;replace HB:=zB HB hb;have av:=zL hg aa;have aw:=zM hg aa;replace aa:=zK aa hb;clear hb hbox hg;have eb:=av.out;have ec:=aw.out;have bv:=zc0 aa;have bx:=zc1 aa;have bz:=kF aa.out 0;have bB:=kF aa.out 1)|((with_reducible refine gC (f:=51) rfl ?_);refine zJ (some 14) Tryz.func51 #[.agg #[.slice aM ag.length ax,.slice aV ac.length ay],.int .i64 a1] ?_;(with_reducible refine(sv_.calls k _ _ ag _ _ ac a1 az _ ?aq ?ar ?aQ ?aT A3.out).mono ?_);(case aq=>exact zC aN HB);(case ar=>exact bd.out);(case aQ=>exact zC aW HB);(case aT=>exact be.out);rintro e w9 ⟨rfl,hb⟩;refine⟨_,rfl,?_⟩;replace aa:=zK aa hb;replace af:=zK af hb;replace HB:=zB HB hb;(try clear hb)))
 (try simp only [Act.put,List.setIfInBounds_toArray,List.set_cons_zero,List.set_cons_succ])
 go_cut [26] (fun v26 wc => ∃ (kq:Nat) (aX:Bool),v26 = .bool aX∧Aside0 (su_.j0 kq a1 aX ag ac=some (r1,r2,r3))∧Aside0 (kq≤k)∧Aside0 (wc.heap[aE]? = some (.cells #[(.slice aM ag.length ax),(.slice aV ac.length ay)] 25 (0,0)))∧Aside0 (wc.heap[ao]? = some (.cells #[(.slice none 0 0),(.slice none 0 0)] 25 (0,0)))∧Aside0 (Below w.heap.size w wc))
 case first =>
  have H:=cl.out;clear cl
  by_cases a9:az<0
  ·rw [if_pos a9] at H
   have aU:=dT a9;clear a9
   (first|rw [aU]|(simp only [i64_w,i32_w];rw [aU])|skip)
   have H':=A0_ H;clear H
   go_wp2
   go_meet
   case rel=>exact⟨_,(true),zt,H',zo,⟨zK_ aa⟩,⟨zK_ af⟩,⟨zB_ HB⟩⟩
  rw [if_neg a9] at H;have aU:=dF a9;clear a9
  (first|rw [aU]|(simp only [i64_w,i32_w];rw [aU])|skip)
  by_cases aY:az=2
  ·rw [if_pos aY] at H
   have cI:(az == 2)=true:=beq_iff_eq.mpr aY
   have cJ:(az != 2)=false:=bne_eq_false_iff_eq.mpr aY
   clear aY;have H':=A0_ H;clear H
   go_wp2
   go_meet
   case rel=>exact⟨_,(true),zt,H',zo,⟨zK_ aa⟩,⟨zK_ af⟩,⟨zB_ HB⟩⟩
  rw [if_neg aY] at H
  have cI:(az == 2)=false:=beq_eq_false_iff_ne.mpr aY
  have cJ:(az != 2)=true:=bne_iff_ne.mpr aY
  have H':=A0_ H;clear H;have dW:=av.out;have dX:=aw.out;have dq:=zc0 aa;have dr:=zc1 aa;have dt:=kF aa.out 0;have du:=kF aa.out 1
  go_wp2
  go_meet
  case rel=>exact⟨_,(((ag.length:Int) == 2)),zt,H',zo,⟨zK_ aa⟩,⟨zK_ af⟩,⟨zB_ HB⟩⟩
 case rest =>
  clear cl;(try clear bv);(try clear bx);(try clear bz);(try clear bB);obtain⟨kq,aX,rfl,HA,ba,aa,af,HB⟩:=hcut
  cases kq with
  | zero=>exact absurd HA.out (by simp [su_.j0])
  | succ aZ =>
   have H:=HA.out;clear HA;simp only [su_.j0] at H
   by_cases bC:aX=true
   ·subst bC
    have H1:(some (([]:List Int),([]:List Int),false))=some (r1,r2,r3):=by rw [if_pos rfl] at H;exact H
    clear H;have H:=H1;clear H1;simp only [Option.some.injEq,Prod.mk.injEq] at H;obtain⟨rfl,rfl,rfl⟩:=H;have dY:=aw.out;have dZ:=av.out;have dv:=zc0 af;have dw:=zc1 af;have dx:=kF af.out 0;have dy:=kF af.out 1
    go_wp2
    refine bodyPost_ret (results_ct rfl _ _ ao 25 #[.slice none 0 0,.slice none 0 0] (0,0) _ rfl (by refine zbp (cs := #[.slice none 0 0,.slice none 0 0]) ?_ 1 _ rfl;refine zbp (cs := #[.slice none 0 0,.slice none 0 0]) ?_ 0 _ rfl;exact zK_ af) Tryz.underlying25 rfl (by kernel_rfl)) rfl ?_
    exact⟨_,_,by first|rfl|(simp [*] <;> rfl),by first|exact Kd.R_nil _ _ _ _ _|exact Kd.N_nil _ _ _ _ _|exact Kd.V_nil _ _ _ _ _|exact Kd.Q_nil _ _ _ _ _|exact Kd.S_nil _ _ _ _ _,by first|exact Kd.R_nil _ _ _ _ _|exact Kd.N_nil _ _ _ _ _|exact Kd.V_nil _ _ _ _ _|exact Kd.Q_nil _ _ _ _ _|exact Kd.S_nil _ _ _ _ _,zB_ HB⟩
   replace bC:=Bool.eq_false_iff.mpr bC;subst bC
   have H1:((s16_.f aZ ag ac a1).bind fun ab=>(if 0≤ab then (if ab<(ac.length:Int) then ((s12_.f ag).bind fun ap=>(if 0≤(rd ac ab) then (if (rd ac ab)<(ag.length:Int) then (if ab<(ap.length:Int) then (if ab<(ag.length:Int) then (if (rd ac ab)<(ap.length:Int) then ((some ((ap.set (ab:Int).toNat (rd ag (rd ac ab))).set ((rd ac ab):Int).toNat (rd ag ab):List Int)).bind fun al=>((s12_.f al).bind fun aC=>(su_.l0 aZ ab (rd ac ab) al aC 0 ag ac))) else (none)) else (none)) else (none)) else (none)) else (none))) else (none)) else (none)))=some (r1,r2,r3):=by rw [if_neg (show ¬ (false=true) by decide)] at H;exact H
   clear H;have H:=H1;clear H1;obtain⟨ab,dI,H⟩:=zbind H
   have cm:=zpc H;replace H:=zph H
   have cK:=dT cm;clear cm
   have cn:=zpc H;replace H:=zph H
   have cL:=dT cn;clear cn;obtain⟨ap,dJ,H⟩:=zbind H
   have cp:=zpc H;replace H:=zph H
   have cM:=dT cp;clear cp
   have cq:=zpc H;replace H:=zph H
   have cO:=dT cq;clear cq
   have cr:=zpc H;replace H:=zph H
   have cP:=dT cr;clear cr
   obtain⟨bI,bf⟩ : ∃ y_:List Int,y_=(ap.set (ab:Int).toNat (rd ag (rd ac ab))):=⟨_,rfl⟩
   replace H:(if ab<(ag.length:Int) then (if (rd ac ab)<(ap.length:Int) then ((some (bI.set ((rd ac ab):Int).toNat (rd ag ab):List Int)).bind fun al=>((s12_.f al).bind fun aC=>(su_.l0 aZ ab (rd ac ab) al aC 0 ag ac))) else (none)) else (none))=some (r1,r2,r3):=zH bf H
   have cQ:=A0_ bf;clear bf
   have ct:=zpc H;replace H:=zph H
   have cR:=dT ct;clear ct
   have cu:=zpc H;replace H:=zph H
   have cS:=dT cu;clear cu
   obtain⟨al,bg⟩ : ∃ y_:List Int,y_=(bI.set ((rd ac ab):Int).toNat (rd ag ab)):=⟨_,rfl⟩
   replace H:((s12_.f al).bind fun aC=>(su_.l0 aZ ab (rd ac ab) al aC 0 ag ac))=some (r1,r2,r3):=zH bg H
   have cT:=A0_ bg;clear bg;obtain⟨aC,dK,H⟩:=zbind H;have H':=A0_ H;clear H;have d4:=av.out;have d5:=aw.out;have bW:=zc0 aa;have bX:=zc1 aa;have bY:=kF aa.out 0;have b5:=kF aa.out 1
   go_wp2_with (first|((with_reducible refine gC (f:=52) rfl ?_);refine zJ (some 30) Tryz.func52 #[.agg #[.slice aM ag.length ax,.slice aV ac.length ay],.int .i64 a1] ?_;(with_reducible refine(s16_.calls aZ _ _ ag _ _ ac a1 ab _ ?aq ?ar ?aQ ?aT dI.out).mono ?_);(case aq=>exact zC aN HB);(case ar=>exact bd.out);(case aQ=>exact zC aW HB);(case aT=>exact be.out);rintro e w31 ⟨rfl,hb⟩;refine⟨_,rfl,?_⟩;replace aa:=zK aa hb;replace af:=zK af hb;replace HB:=zB HB hb;(try clear hb);have b6:=zc0 aa;have b7:=zc1 aa;have b8:=kF aa.out 0;have b9:=kF aa.out 1;have bh:0≤(ab:Int):=zd;have bi:ab<(ac.length:Int):=zd;obtain⟨aG,dc,aH⟩:=tI aW.out ab bh bi;cases dc;try replace aH:=(HB.out.cell (wL w _ aH)).trans aH;replace bh:=eq_true bh;replace bi:=eq_true bi)|((with_reducible refine gC (f:=53) rfl ?_);refine zJ (some 38) Tryz.func53 #[.slice aM ag.length ax] ?_;(with_reducible refine(s12_.calls _ _ ag ap _ ?aq ?ar dJ.out).mono ?_);(case aq=>exact zC aN HB);(case ar=>exact bd.out);rintro e w33 ⟨ed,rfl,aD,hb⟩;refine⟨_,rfl,?_⟩;have ak:=A0_ (rL aD (bZ (zB_ HB)));replace aa:=zK aa hb;replace af:=zK af hb;replace HB:=zB HB hb;(try clear hb);(try clear aD);have cd:=zc0 aa;have ce:=zc1 aa;have cf:=kF aa.out 0;have cg:=kF aa.out 1;have bj:0≤((rd ac ab):Int):=zd;have bk:(rd ac ab)<(ag.length:Int):=zd;obtain⟨aI,dd,aJ⟩:=tI aN.out (rd ac ab) bj bk;cases dd;try replace aJ:=(HB.out.cell (wL w _ aJ)).trans aJ;replace bj:=eq_true bj;replace bk:=eq_true bk;have bE:0≤(ab:Int):=zd;have bF:(ab:Int)<((ap.length:Int):Int):=zd;obtain⟨au,aA,cv,cw,gl24,cl24,HG24⟩:=Kd.R_form ak.out (by omega);(first|cases cv|(injection cv with ea_ en_ ec_;(first|subst ea_|(injection ea_ with ea_;subst ea_));subst ec_;clear en_));have GB24:=A0_ cw;have GG24:=A0_ HG24;clear cw gl24 HG24;obtain⟨cx,dL⟩:=Kd.R_celln 0 ak.out (ab:Int) bE bF;replace bE:=eq_true bE;replace bF:=eq_true bF;obtain⟨hy35_,hz35_⟩:=Kd.R_celln 0 ak.out (ab:Int) (zd) (zd);have HP35:=Kd.R_putg ak.out (ab:Int) (rd ag (rd ac ab)))|((with_reducible refine gS (t:=3) (p:=46) rfl ?_);refine store_event (t:=3) (p:=46) (v := ?vo_w36) (w1:=(w33.setCell ⟨au,(ab:Int).toNat,none⟩ (.int .i64 (rd ag (rd ac ab))))) ?hg ?ho ?hn ?hr ?_;(case ho=>rfl);(case hg=>rfl);(case hn=>rfl);(case hr=>first|(go_simp;done)|(go_simp;rfl));intro w36 hw;have hg:w33.grownBy w36 (some au):=(by rw [hw];exact HP35.2);have hp_:Kd.R (Kd.int .i64) 3 w36 w.heap.size (fun _=>True) (.slice (some ⟨au,0,none⟩) ap.length aA) bI:=(by rw [hw,cQ.out];exact HP35.1);clear HP35;replace aa:=A0_ (blk_grown (g:=aE) (o := .cells #[.slice (some aI) ag.length ax,.slice (some aG) ac.length ay] 25 (0,0)) (zK_ aa) hg (Kd.R_ne ak.out aa.out (by decide)));replace af:=A0_ (blk_grown (g:=ao) (o := .cells #[.slice none 0 0,.slice none 0 0] 25 (0,0)) (zK_ af) hg (Kd.R_ne ak.out af.out (by decide)));replace ak:=A0_ (hp_);replace HB:=A0_ ((by rw [hw];exact bS (HB.out) GB24.out:Below w.heap.size w w36));clear hg hw hp_;have ch:=zc0 aa;have ci:=zc1 aa;have cj:=kF aa.out 0;have ck:=kF aa.out 1;have bl:0≤(ab:Int):=zd;have bm:ab<(ag.length:Int):=zd;obtain⟨cU,de,aK⟩:=tI aN.out ab bl bm;obtain rfl:aI=cU:=(by injection de);try replace aK:=(HB.out.cell (wL w _ aK)).trans aK;replace bl:=eq_true bl;replace bm:=eq_true bm;have bG:0≤((rd ac ab):Int):=zd;have bH:((rd ac ab):Int)<((ap.length:Int):Int):=zd;obtain⟨cy,dM⟩:=Kd.R_celln 0 ak.out ((rd ac ab):Int) bG bH;replace bG:=eq_true bG;replace bH:=eq_true bH;obtain⟨hy38_,hz38_⟩:=Kd.R_celln 0 ak.out ((rd ac ab):Int) (zd) (zd);have HP38:=Kd.R_putg ak.out ((rd ac ab):Int) (rd ag ab))|((with_reducible refine gS (t:=3) (p:=54) rfl ?_);refine store_event (t:=3) (p:=54) (v := ?vo_w39) (w1:=(w36.setCell ⟨au,((rd ac ab):Int).toNat,none⟩ (.int .i64 (rd ag ab)))) ?hg ?ho ?hn ?hr ?_;(case ho=>rfl);(case hg=>rfl);(case hn=>rfl);(case hr=>first|(go_simp;done)|(go_simp;rfl));intro w39 hw;have hg:w36.grownBy w39 (some au):=(by rw [hw];exact HP38.2);have hp_:Kd.R (Kd.int .i64) 3 w39 w.heap.size (fun _=>True) (.slice (some ⟨au,0,none⟩) ap.length aA) al:=(by rw [hw,cT.out];exact HP38.1);clear HP38;replace aa:=A0_ (blk_grown (g:=aE) (o := .cells #[.slice (some aI) ag.length ax,.slice (some aG) ac.length ay] 25 (0,0)) (zK_ aa) hg (Kd.R_ne ak.out aa.out (by decide)));replace af:=A0_ (blk_grown (g:=ao) (o := .cells #[.slice none 0 0,.slice none 0 0] 25 (0,0)) (zK_ af) hg (Kd.R_ne ak.out af.out (by decide)));replace ak:=A0_ (hp_);replace HB:=A0_ ((by rw [hw];exact bS (HB.out) GB24.out:Below w.heap.size w w39));clear hg hw hp_)|((with_reducible refine gC (f:=53) rfl ?_);refine goesL_ (some 56) rfl rfl Tryz.func53 (by kernel_rfl) rfl #[.slice (some ⟨au,0,none⟩) al.length aA] rfl (by(try simp only [List.map_toArray,List.map_cons,List.map_nil]);first|done|(rw [show al.length=ap.length from(rR ak.out).1.symm] <;> rfl)|rfl|(simp only [List.length_drop,List.length_take];rfl)) ?_;(with_reducible refine(s12_.calls _ _ al aC _ ?aq ?ar dK.out).mono ?_);(case aq=>exact zD ak);(case ar=>rw [show al.length=ap.length from(rR ak.out).1.symm];exact(rR ak.out).2.1);rintro e w40 ⟨cz,rfl,aD,hb⟩;refine⟨_,rfl,?_⟩;have cV:=A0_ (rL (Kd.R_new' aD (rX (zR_ ak))) (bZ (zB_ HB)));replace ak:=A0_ (Kd.R_elder' (zR_ ak) (Kd.R_base aD) hb);replace aa:=zK aa hb;replace af:=zK af hb;replace HB:=zB HB hb;(try clear hb);(try clear aD)))
   go_loopg [11] aZ (fun kq v11 w' => ∃ (am:List Int) (ah:Int),v11 = .int .i64 ah∧Aside0 (su_.l0 kq ab (rd ac ab) al am ah ag ac=some (r1,r2,r3))∧Aside0 (kq≤aZ)∧Aside0 (Kd.R (Kd.int .i64) 3 w' w.heap.size (fun k_=>nO k_ cz) (.slice (some ⟨au,0,none⟩) ap.length aA) al)∧Aside0 (Kd.R (Kd.int .i64) 3 w' w.heap.size (fun k_=>some k_≠((.slice (some ⟨au,0,none⟩) ap.length aA):Value).ownBlock) cz am)∧Aside0 (w'.heap[aE]? = some (.cells #[(.slice (some aI) ag.length ax),(.slice (some aG) ac.length ay)] 25 (0,0)))∧Aside0 (w'.heap[ao]? = some (.cells #[(.slice none 0 0),(.slice none 0 0)] 25 (0,0)))∧Aside0 (Below w.heap.size w w'))
   case atStart=>exact⟨(aC),(0),zt,H',⟨Nat.le_refl _⟩,⟨zmR ak (fun _ hk=>hk.2)⟩,⟨zmR cV (fun _ hk=>hk.2)⟩,⟨zK_ aa⟩,⟨zK_ af⟩,⟨zB_ HB⟩⟩
   case round =>
    clear H';(try clear bC);(try clear cm);(try clear cK);(try clear cn);(try clear cL);(try clear cp);(try clear cM);(try clear cq);(try clear cO);(try clear cr);(try clear cP);(try clear bE);(try clear bF);(try clear ct);(try clear cR);(try clear cu);(try clear cS);(try clear bG);(try clear bH);(try clear bW);(try clear bX);(try clear b6);(try clear b7);(try clear cd);(try clear ce);(try clear ch);(try clear ci);(try clear bv);(try clear bx);(try clear bY);(try clear b5);(try clear b8);(try clear b9);(try clear cf);(try clear cg);(try clear cj);(try clear ck);(try clear bz);(try clear bB);(try clear cx);(try clear cy);(try clear aH);(try clear aJ);(try clear aK);(try clear bE);(try clear bG);(try clear bh);(try clear bj);(try clear bl);(try clear bF);(try clear bH);(try clear bi);(try clear bk);(try clear bm);obtain⟨am,ah,rfl,HA,bb,an,ai,aa,af,HB⟩:=hrel;have aj:=(rR an.out).1;rw [aj] at an;(try simp only [aj]);(try simp only [aj] at aa);(try simp only [aj] at af);(try simp only [aj] at ai)
    cases gk with
    | zero=>exact absurd HA.out (by simp [su_.l0])
    | succ k2 =>
     have H:=HA.out;clear HA;simp only [su_.l0] at H
     by_cases bc:ah<(am.length:Int)
     ·rw [if_pos bc] at H
      have bn:=dT bc;(try simp only [aj] at bn);clear bc
      by_cases a4:ah=ab
      ·rw [if_pos a4] at H
       have cW:(ah == ab)=true:=beq_iff_eq.mpr a4
       have cX:(ah != ab)=false:=bne_eq_false_iff_eq.mpr a4
       clear a4;have H':=A0_ H;clear H;obtain⟨ee,ef,df⟩:=rS ai.out;subst df
       go_wp2
       (try simp only [← aj])
       go_roundg k2
       case measure=>have:=ba.out;have:=bb.out;omega
       case rel=>exact⟨(am),(wrap64 (ah+1)),zt,H',⟨by have:=ba.out;have:=bb.out;omega⟩,⟨by(try simp only [aj]);(with_reducible repeat(first|apply rA|apply rN|apply rD));exact an.out⟩,⟨by(try simp only [aj]);(with_reducible repeat(first|apply rA|apply rN|apply rD));exact ai.out⟩,⟨by(try simp only [aj]);exact zK_ aa⟩,⟨by(try simp only [aj]);exact zK_ af⟩,⟨zB_ HB⟩⟩
      rw [if_neg a4] at H
      have cW:(ah == ab)=false:=beq_eq_false_iff_ne.mpr a4
      have cX:(ah != ab)=true:=bne_iff_ne.mpr a4
      by_cases a5:ah=(rd ac ab)
      ·rw [if_pos a5] at H
       have cY:(ah == (rd ac ab))=true:=beq_iff_eq.mpr a5
       have cZ:(ah != (rd ac ab))=false:=bne_eq_false_iff_eq.mpr a5
       clear a5;have H':=A0_ H;clear H;obtain⟨eg,eh,dh⟩:=rS ai.out;subst dh
       go_wp2
       (try simp only [← aj])
       go_roundg k2
       case measure=>have:=ba.out;have:=bb.out;omega
       case rel=>exact⟨(am),(wrap64 (ah+1)),zt,H',⟨by have:=ba.out;have:=bb.out;omega⟩,⟨by(try simp only [aj]);(with_reducible repeat(first|apply rA|apply rN|apply rD));exact an.out⟩,⟨by(try simp only [aj]);(with_reducible repeat(first|apply rA|apply rN|apply rD));exact ai.out⟩,⟨by(try simp only [aj]);exact zK_ aa⟩,⟨by(try simp only [aj]);exact zK_ af⟩,⟨zB_ HB⟩⟩
      rw [if_neg a5] at H
      have cY:(ah == (rd ac ab))=false:=beq_eq_false_iff_ne.mpr a5
      have cZ:(ah != (rd ac ab))=true:=bne_iff_ne.mpr a5
      obtain⟨bo,dN,H⟩:=zbind H
      have db:=zpc H;replace H:=zph H
      have d6:=dT db;clear db
      obtain⟨bJ,bp⟩ : ∃ y_:List Int,y_=(am.set (ah:Int).toNat bo):=⟨_,rfl⟩
      replace H:(su_.l0 k2 ab (rd ac ab) al bJ (wrap64 (ah+1)) ag ac)=some (r1,r2,r3):=zH bp H
      have da:=A0_ bp;clear bp;have H':=A0_ H;clear H;obtain⟨cC,a6,di⟩:=rS ai.out;subst di
      go_wp2_with (first|((with_reducible refine gC (f:=54) rfl ?_);refine zJ (some 77) Tryz.func54 #[.slice (some ⟨au,0,none⟩) al.length aA,.int .i64 ah,.int .i64 ab,.int .i64 (rd ac ab)] ?_;(with_reducible refine(s1b_.calls k2 _ _ al ah ab (rd ac ab) bo _ ?aq ?ar dN.out).mono ?_);(case aq=>exact zD an);(case ar=>exact(rR an.out).2.1);rintro e w' ⟨rfl,⟨nd,rfl⟩⟩;refine⟨_,rfl,?_⟩;(try(rw [drewN_self wr];generalize hq_:World.drewN wr _=wr;have n0_:Aside0 (Kd.R (Kd.int .i64) 3 wr w.heap.size (fun k_=>some k_≠(.slice (some ⟨au,0,none⟩) al.length aA:Value).ownBlock) (.slice cC am.length a6) am):=⟨by rw [← hq_];exact(zR_ ai)⟩;have n1_:Aside0 (Kd.R (Kd.int .i64) 3 wr w.heap.size (fun k_=>nL k_ cC am a6) (.slice (some ⟨au,0,none⟩) al.length aA) al):=⟨by rw [← hq_];exact(zR_ an)⟩;have n2_:Aside0 (wr.heap[aE]? = some (.cells #[.slice (some aI) ag.length ax,.slice (some aG) ac.length ay] 25 (0,0))):=⟨by rw [← hq_];exact(zK_ aa)⟩;have n3_:Aside0 (wr.heap[ao]? = some (.cells #[.slice none 0 0,.slice none 0 0] 25 (0,0))):=⟨by rw [← hq_];exact(zK_ af)⟩;have n4_:Aside0 (Below w.heap.size w wr):=⟨by rw [← hq_];exact(zB_ HB)⟩;clear ai an aa af HB hq_;have ai:=n0_;have an:=n1_;have aa:=n2_;have af:=n3_;have HB:=n4_;clear n0_ n1_ n2_ n3_ n4_));have cE:0≤(ah:Int):=zd;have cF:(ah:Int)<((am.length:Int):Int):=zd;obtain⟨a7,ei,cG,cH,gl48,cl48,HG48⟩:=Kd.R_form ai.out (by omega);(first|cases cG|(injection cG with ea_ en_ ec_;(first|subst ea_|(injection ea_ with ea_;subst ea_));subst ec_;clear en_));have GB48:=A0_ cH;have GG48:=A0_ HG48;clear cH gl48 HG48;obtain⟨dO,dP⟩:=Kd.R_celln 0 ai.out (ah:Int) cE cF;replace cE:=eq_true cE;replace cF:=eq_true cF;obtain⟨hy50_,hz50_⟩:=Kd.R_celln 0 ai.out (ah:Int) (zd) (zd);have HP50:=Kd.R_putg ai.out (ah:Int) bo)|((with_reducible refine gS (t:=3) (p:=78) rfl ?_);refine store_event (t:=3) (p:=78) (v := ?vo_w51) (w1:=(wr.setCell ⟨a7,(ah:Int).toNat,none⟩ (.int .i64 bo))) ?hg ?ho ?hn ?hr ?_;(case ho=>rfl);(case hg=>rfl);(case hn=>rfl);(case hr=>first|(go_simp;done)|(go_simp;rfl));intro w51 hw;have hg:wr.grownBy w51 (some a7):=(by rw [hw];exact HP50.2);have hp_:Kd.R (Kd.int .i64) 3 w51 w.heap.size (fun k_=>some k_≠(.slice (some ⟨au,0,none⟩) al.length aA:Value).ownBlock) (.slice (some ⟨a7,0,none⟩) am.length a6) bJ:=(by rw [hw,da.out];exact HP50.1);clear HP50;replace an:=A0_ (Kd.R_after (v:=(.slice (some ⟨a7,0,none⟩) am.length a6)) (v1:=(.slice (some ⟨a7,0,none⟩) am.length a6)) (ok:=(fun _=>True)) (zmR an (fun _ hk=>⟨trivial,hk⟩)) hg (.inl rfl));replace aa:=A0_ (blk_grown (g:=aE) (o := .cells #[.slice (some aI) ag.length ax,.slice (some aG) ac.length ay] 25 (0,0)) (zK_ aa) hg (Kd.R_ne ai.out aa.out (by decide)));replace af:=A0_ (blk_grown (g:=ao) (o := .cells #[.slice none 0 0,.slice none 0 0] 25 (0,0)) (zK_ af) hg (Kd.R_ne ai.out af.out (by decide)));replace ai:=A0_ (hp_);replace HB:=A0_ ((by rw [hw];exact bS (HB.out) GB48.out:Below w.heap.size w w51));clear hg hw hp_))
      (try simp only [← aj])
      go_roundg k2
      case measure=>have:=ba.out;have:=bb.out;omega
      case rel=>exact⟨(bJ),(wrap64 (ah+1)),zt,H',⟨by have:=ba.out;have:=bb.out;omega⟩,⟨by(try simp only [aj]);(with_reducible repeat(first|apply rA|apply rN|apply rD));exact rM an.out (fun _ hk=>hk.2)⟩,⟨by(try simp only [aj]);(with_reducible repeat(first|apply rA|apply rN|apply rD));exact ai.out⟩,⟨by(try simp only [aj]);exact zK_ aa⟩,⟨by(try simp only [aj]);exact zK_ af⟩,⟨zB_ HB⟩⟩
     rw [if_neg bc] at H;have bn:=dF bc;(try simp only [aj] at bn);clear bc;obtain⟨⟨a8,bq⟩,dQ,H⟩:=zbind H;dsimp only at H;simp only [Option.some.injEq,Prod.mk.injEq] at H;obtain⟨rfl,rfl,rfl⟩:=H;obtain⟨dj,dk,dl⟩:=rS ai.out;subst dl;have d7:=av.out;have d8:=aw.out;have dz:=zc0 aa;have dA:=zc1 aa;have dB:=kF aa.out 0;have dC:=kF aa.out 1
     go_wp2_with (first|((with_reducible refine gC (f:=55) rfl ?_);refine zJ (some 84) Tryz.func55 #[.slice dj am.length dk,.slice (some aG) ac.length ay,.int .i64 ab,.int .i64 (rd ac ab)] ?_;(with_reducible refine(s19_.calls k2 _ _ am _ _ ac ab (rd ac ab) a8 bq _ ?aq ?ar ?aQ ?aT dQ.out).mono ?_);(case aq=>exact zD ai);(case ar=>exact(rR ai.out).2.1);(case aQ=>exact zC aW HB);(case aT=>exact be.out);rintro e w56 ⟨ej,ek,rfl,aD,bR,hb⟩;refine⟨_,rfl,?_⟩;have bU:=A0_ (rL (Kd.R_new' (Kd.R_new' aD (rX (zR_ an))) (rX (zR_ ai))) (bZ (zB_ HB)));have bV:=A0_ (rL (Kd.R_new' (Kd.R_new' bR (rX (zR_ an))) (rX (zR_ ai))) (bZ (zB_ HB)));replace an:=A0_ (rM (rT (rT (rO (zR_ an) hb) (Kd.R_base aD)) (Kd.R_base bR)) (fun _ h_=>h_.1));replace ai:=A0_ (rM (rT (rT (rO (zR_ ai) hb) (Kd.R_base aD)) (Kd.R_base bR)) (fun _ h_=>h_.1));replace aa:=zK aa hb;replace af:=zK af hb;replace HB:=zB HB hb;(try clear hb);(try clear aD);(try clear bR);obtain⟨br,bu,dn⟩:=rS bU.out;subst dn;have dD:=zc0 af;have dE:=zc1 af;have dG:=kF af.out 0;have dH:=kF af.out 1;obtain⟨bK,bL,dp⟩:=rS bV.out;subst dp))
     refine bodyPost_ret (results_ct rfl _ _ ao 25 #[.slice br a8.length bu,.slice bK bq.length bL] (0,0) _ rfl (by refine zbp (cs := #[.slice br a8.length bu,.slice none 0 0]) ?_ 1 _ rfl;refine zbp (cs := #[.slice none 0 0,.slice none 0 0]) ?_ 0 _ rfl;exact zK_ af) Tryz.underlying25 rfl (by kernel_rfl)) rfl ?_
     exact⟨_,_,by first|rfl|(simp [*] <;> rfl),by(with_reducible repeat(first|apply rA|apply rN|apply rD));exact rM (rF (p:=⟨ao,1,none⟩) (rF (p:=⟨ao,0,none⟩) (rY bU.out af.out (by decide)) (fun _ hk=>hk.2) (.slice br a8.length bu)) (fun _ hk=>hk.2) (.slice bK bq.length bL)) (fun _ hk=>hk.1.1.1),by(with_reducible repeat(first|apply rA|apply rN|apply rD));exact rM (rF (p:=⟨ao,1,none⟩) (rF (p:=⟨ao,0,none⟩) (rY bV.out af.out (by decide)) (fun _ hk=>hk.2) (.slice br a8.length bu)) (fun _ hk=>hk.2) (.slice bK bq.length bL)) (fun _ hk=>hk.1.1.1),zB_ HB⟩
end Go.Proofs.YtjebcgbmlbemcaaGreatDoor.PFnExecuteContract
