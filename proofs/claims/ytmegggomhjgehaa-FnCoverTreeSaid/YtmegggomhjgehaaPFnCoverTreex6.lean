import Derived.Test.YtmegggomhjgehaaPFnCoverTreex5
namespace Go.Proofs.Ytmegggomhjgehaa.PFnCoverTree
open Go.RowKit Go.Proofs.YtmegggomhjgehaaW.PrintWords Go.Proofs.YtmegggomhjgehaaW.PrintLast Go.Proofs.YtmegggomhjgehaaW.PrintMore
set_option maxHeartbeats 8000000
set_option maxRecDepth 100000
attribute [local go_sem] max2_int min2_int max_two min_two max_three min_three max_four min_four
set_option linter.unusedVariables false
set_option linter.unusedSimpArgs false
mutual
def i3_.l0:Nat→List Int→List Bool→List (List Int)→List Int→Int→Int→List Int→List Int→Option ((List (List Int))×Bool)
  | 0,_,_,_,_,_,_,_,_=>none
  | k+1,x8,x9,af,ac,ag,ab,ae,aa=>if ab<ag then (if 0≤ab then (if ab<(ac.length:Int) then (if 0≤(rd ac ab) then (if (rd ac ab)<(aa.length:Int) then (if (rd ac ab)<(x8.length:Int) then (if 0≤(rd x8 (rd ac ab)) then (if (rd x8 (rd ac ab))<(x9.length:Int) then (if (rdOf false x9 (rd x8 (rd ac ab))=true) then (if 0≤(rd aa (rd ac ab)) then (if (rd aa (rd ac ab))<(x8.length:Int) then (if 0≤(rd x8 (rd aa (rd ac ab))) then (if (rd x8 (rd aa (rd ac ab)))<(x9.length:Int) then (i3_.j1 k x8 x9 af (rd ac ab) (rd aa (rd ac ab)) ac ag ab (rdOf false x9 (rd x8 (rd aa (rd ac ab)))) ae aa) else (none)) else (none)) else (none)) else (none)) else (i3_.j1 k x8 x9 af (rd ac ab) (rd aa (rd ac ab)) ac ag ab true ae aa)) else (none)) else (none)) else (none)) else (none)) else (none)) else (none)) else (none)) else ((id_.f k af).bind fun ah=>(some (ah,true)))
def i3_.j1:Nat→List Int→List Bool→List (List Int)→Int→Int→List Int→Int→Int→Bool→List Int→List Int→Option ((List (List Int))×Bool)
  | 0,_,_,_,_,_,_,_,_,_,_,_=>none
  | k+1,x8,x9,ae,al,ac,af,ag,ah,am,aa,ab=>if am=true then (i3_.l0 k x8 x9 ae af ag (wrap64 (ah+1)) aa ab) else (if 0≤ac then (if ac<(x8.length:Int) then (if 0≤(rd x8 ac) then (if (rd x8 ac)<(x9.length:Int) then ((i9_.f k aa ab ae al).bind fun ai=>((ia_.f k ai).bind fun aj=>((ic_.f k aa ab ae (rd x8 ac) aj).bind fun ak=>(i3_.l0 k x8 (x9.set ((rd x8 ac):Int).toNat true) ak af ag (wrap64 (ah+1)) aa ab)))) else (none)) else (none)) else (none)) else (none))
end
def i3_.f (k:Nat) (aa:List Int) (ac:List Int) (a1:Int) (l2:List (List Int)):Option ((List (List Int))×Bool):=(i8_.f k aa ac a1 l2).bind fun ag=>(if ag=true then ((io_.f k aa ac).bind fun ab=>(if 0≤(aa.length:Int) then (if ((aa.length:Int):Int).toNat≤281474976710656 then ((some (List.replicate ((aa.length:Int):Int).toNat false:List Bool)).bind fun ae=>(if 0<(ab.length:Int) then (if 0≤(rd ab 0) then (if (rd ab 0)<(ae.length:Int) then ((ik_.f k aa ac 0).bind fun ah=>((ia_.f k ah).bind fun af=>(i3_.l0 k ab (ae.set ((rd ab 0):Int).toNat true) l2 af (af.length:Int) 0 aa ac))) else (none)) else (none)) else (none))) else (none)) else (none))) else (some (([]:List (List Int)),false)))
def i3_.T14:Bool×List (List Nat×List Nat):=(true,[([],[]),([],[]),([],[]),([],[]),([2,3],[2,3]),([4],[4]),([],[]),([6],[6]),([0,1,5,7,7],[0,1,5,7]),([8,8,0,1,2,3,4,5,6,7,8],[1,8])])
def i3_.B14:List Nat := [0,0,0,0,12,28,0,64,255,511]
theorem i3_.tab14:rtab .any (opsOf Try.f14 14)=i3_.T14:=by kernel_rfl
theorem i3_.bits14:waitsOk i3_.T14.2 i3_.B14=true:=by kernel_rfl
theorem i3_.calls (k:Nat) (aA:Option Addr) (aC:Nat) (ag:List Int) (aQ:Option Addr) (aD:Nat) (ac:List Int) (a1:Int) (P2_:Nat→Prop) (A2:Option Addr) (c2:Nat) (l2:List (List Int)) (r1:List (List Int)) (r2:Bool) (w:World) (cj:Kd.C (Kd.int .i64) w aA ag.length ag) (ck:ag.length≤aC) (cl:Kd.C (Kd.int .i64) w aQ ac.length ac) (cm:ac.length≤aD) (ef:Kd.V (Kd.slice 3 (Kd.int .i64)) 23 w w.heap.size (fun k_=>P2_ k_) (.slice A2 l2.length c2) l2) (h:i3_.f k ag ac a1 l2=some (r1,r2)) :
    Calls Try.prog 14 #[.agg #[.slice aA ag.length aC,.slice aQ ac.length aD],.int .i64 a1,.slice A2 l2.length c2] w fun e w' => ∃ v0_:Value,e = .returned (.tuple #[v0_,.bool r2])∧Kd.S (Kd.slice 3 (Kd.int .i64)) 23 w' w.heap.size (fun k_=>(w.heap.size≤k_)) v0_ r1∧Below w.heap.size w w':=by
 have eu:=Try.underlying25;have aX:=A0_ cj;have aY:=A0_ ck;clear cj ck;have aU:=A0_ cl;have aZ:=A0_ cm;clear cl cm
 have ax:=A0_ (show Kd.V (Kd.slice 3 (Kd.int .i64)) 23 w w.heap.size (fun k_=>(P2_ k_∨w.heap.size≤k_)) (.slice A2 l2.length c2) l2 from Kd.V_mono ef (fun k_ hk => .inl hk))
 have HB:=A0_ (Below.refl w.heap.size w)
 have H:((i8_.f k ag ac a1 l2).bind fun b4=>(if b4=true then ((io_.f k ag ac).bind fun af=>(if 0≤(ag.length:Int) then (if ((ag.length:Int):Int).toNat≤281474976710656 then ((some (List.replicate ((ag.length:Int):Int).toNat false:List Bool)).bind fun aE=>(if 0<(af.length:Int) then (if 0≤(rd af 0) then (if (rd af 0)<(aE.length:Int) then ((ik_.f k ag ac 0).bind fun aM=>((ia_.f k aM).bind fun aa=>(i3_.l0 k af (aE.set ((rd af 0):Int).toNat true) l2 aa (aa.length:Int) 0 ag ac))) else (none)) else (none)) else (none))) else (none)) else (none))) else (some (([]:List (List Int)),false))))=some (r1,r2):=h
 clear h;obtain⟨b4,A4,H⟩:=zbind H
 by_cases c5:b4=true
 ·subst c5
  have H1:((io_.f k ag ac).bind fun af=>(if 0≤(ag.length:Int) then (if ((ag.length:Int):Int).toNat≤281474976710656 then ((some (List.replicate ((ag.length:Int):Int).toNat false:List Bool)).bind fun aE=>(if 0<(af.length:Int) then (if 0≤(rd af 0) then (if (rd af 0)<(aE.length:Int) then ((ik_.f k ag ac 0).bind fun aM=>((ia_.f k aM).bind fun aa=>(i3_.l0 k af (aE.set ((rd af 0):Int).toNat true) l2 aa (aa.length:Int) 0 ag ac))) else (none)) else (none)) else (none))) else (none)) else (none)))=some (r1,r2):=by rw [if_pos rfl] at H;exact H
  clear H;have H:=H1;clear H1;obtain⟨af,A6,H⟩:=zbind H
  have c7:=zpc H;replace H:=zph H
  have cH:=eq_true c7;have cI:=dT c7;clear c7
  have c8:=zpc H;replace H:=zph H
  have cJ:=eq_true c8;have cK:=dT c8;clear c8
  obtain⟨aE,bM⟩ : ∃ y_:List Bool,y_=(List.replicate ((ag.length:Int):Int).toNat false):=⟨_,rfl⟩
  replace H:(if 0<(af.length:Int) then (if 0≤(rd af 0) then (if (rd af 0)<(aE.length:Int) then ((ik_.f k ag ac 0).bind fun aM=>((ia_.f k aM).bind fun aa=>(i3_.l0 k af (aE.set ((rd af 0):Int).toNat true) l2 aa (aa.length:Int) 0 ag ac))) else (none)) else (none)) else (none))=some (r1,r2):=zH bM H
  have cn:=A0_ bM;clear bM
  have c9:=zpc H;replace H:=zph H
  have cL:=dT c9
  have cM:decide (0<af.length)=true:=dT (by omega)
  clear c9
  have co:=zpc H;replace H:=zph H
  have cp:=dT co;clear co
  have cq:=zpc H;replace H:=zph H
  have cr:=dT cq;clear cq
  obtain⟨b5,bO⟩ : ∃ y_:List Bool,y_=(aE.set ((rd af 0):Int).toNat true):=⟨_,rfl⟩
  replace H:((ik_.f k ag ac 0).bind fun aM=>((ia_.f k aM).bind fun aa=>(i3_.l0 k af b5 l2 aa (aa.length:Int) 0 ag ac)))=some (r1,r2):=zH bO H
  have da:=A0_ bO;clear bO;obtain⟨aM,eg,H⟩:=zbind H;obtain⟨aa,eh,H⟩:=zbind H;have H':=A0_ H;clear H
  go_enter Try.func14,Try.ntmps14
  go_wp2_with (first|((with_reducible refine gD (N:=3) rfl ?_);refine zX (N:=3) (cs := #[.slice aA ag.length aC,.slice aQ ac.length aD]) (t:=25) ?_;intro aq hg w15 hbox hb;replace ax:=A0_ (Kd.V_below (Kd.V_elderB (by(with_reducible repeat(first|apply Kd.V_alloc|apply Kd.V_drewN|apply Kd.V_drew));exact ax.out) aq (Nat.le_of_eq hg.symm)) hb);have ae:=A0_ (hbox);have db:=zG hg HB;have dc:=zG hg HB;replace HB:=zB HB hb;clear hb hbox hg;have bp:=zc0 ae;have bq:=zc1 ae;have br:=kF ae.out 0;have bu:=kF ae.out 1)|((with_reducible refine gC (f:=53) rfl ?_);refine zJ (some 18) Try.func53 #[.agg #[.slice aA ag.length aC,.slice aQ ac.length aD],.int .i64 a1,.slice A2 l2.length c2] ?_;(with_reducible refine(i8_.calls k _ _ ag _ _ ac a1 _ _ l2 true _ ?ar ?au ?aH ?aI ?aV ?bf A4.out).mono ?_);(case ar=>exact zC aX HB);(case au=>exact aY.out);(case aH=>exact zC aU HB);(case aI=>exact aZ.out);(case aV=>repeat(first|exact(Kd.V_reads' ax.out).2.2|(with_reducible refine cA ?_ _)|(with_reducible refine cN ?_ _)|(with_reducible refine cD ?_)));(case bf=>exact(Kd.V_reads' ax.out).2.1);rintro e w17 ⟨rfl,hb⟩;refine⟨_,rfl,?_⟩;replace ax:=A0_ (Kd.V_below (by(with_reducible repeat(first|apply Kd.V_alloc|apply Kd.V_drewN|apply Kd.V_drew));exact ax.out) hb);replace ae:=zK ae hb;replace HB:=zB HB hb;(try clear hb);have bv:=zc0 ae;have bw:=zc1 ae;have bx:=kF ae.out 0;have bz:=kF ae.out 1)|((with_reducible refine gC (f:=59) rfl ?_);refine zJ (some 21) Try.func59 #[.agg #[.slice aA ag.length aC,.slice aQ ac.length aD]] ?_;(with_reducible refine(io_.calls k _ _ ag _ _ ac af _ ?ar ?au ?aH ?aI A6.out).mono ?_);(case ar=>exact zC aX HB);(case au=>exact aY.out);(case aH=>exact zC aU HB);(case aI=>exact aZ.out);rintro e w19 ⟨ev,rfl,ao,hb⟩;refine⟨_,rfl,?_⟩;replace ax:=A0_ (Kd.V_elder' (by(with_reducible repeat(first|apply Kd.V_alloc|apply Kd.V_drewN|apply Kd.V_drew));exact ax.out) (Kd.R_base ao) hb);have ay:=A0_ (rL (Kd.R_newM (M:=fun k_=>(w.heap.size≤k_)) ao (bZ (zB_ HB)) (fun k_ h_=>h_)) (bZ (zB_ HB)));replace ae:=zK ae hb;replace HB:=zB HB hb;(try clear hb);(try clear ao);have bB:=zc0 ae;have bC:=zc1 ae;have bE:=kF ae.out 0;have bF:=kF ae.out 1)|((with_reducible refine gD (N:=25) rfl ?_);refine Kd.R_make Kd.bool _ 4 rfl (N:=25) rfl 60 _ _ rfl (ag.length:Int) rfl rfl Try.underlying60 (.bool false) 1 info4 rfl (by decide) (by omega) false (ok:=fun _=>True) (okp:=fun _=>True) rfl (fun _ hk=>hk) trivial (zd) (Nat.le_trans (Nat.mul_le_mul_right _ (zd:(ag.length:Int).toNat≤281474976710656)) (by omega)) (Below.refl _ _) (Nat.le_refl _) ?_;intro ew w21 bh hb hg_ hnew_;clear hg_ hnew_;(first|rw [← cn.out] at bh|(simp only [Int.reduceToNat] at bh;rw [← cn.out] at bh));replace ax:=A0_ (Kd.V_elder' (by(with_reducible repeat(first|apply Kd.V_alloc|apply Kd.V_drewN|apply Kd.V_drew));exact ax.out) (Kd.R_base bh) hb);replace ay:=zR ay hb;have aw:=A0_ (rL (Kd.R_newM (M:=fun k_=>(w.heap.size≤k_)) bh (bZ (zB_ HB)) (fun k_ h_=>h_)) (bZ (zB_ HB)));replace ae:=zK ae hb;replace HB:=zB HB hb;clear hb bh;obtain⟨ex,aN,dH⟩:=rS ay.out;subst dH;have bk:0≤(0:Int):=(by omega);have bl:0<(af.length:Int):=zd;obtain⟨av,dI,a3⟩:=tI (rR ay.out).2.2 0 bk bl;cases dI;have qi287:(0<af.length)=True:=eq_true (by omega);(try rw [show((0:Int)).toNat=0 from rfl] at a3);(try rw [Addr.add_zero'] at a3);replace bk:=eq_true bk;replace bl:=eq_true bl;have bm:0≤((rd af 0):Int):=zd;have bn:((rd af 0):Int)<((aE.length:Int):Int):=zd;obtain⟨ap,aG,cO,cP,gl12,cl12,HG12⟩:=Kd.R_form aw.out (by omega);(first|cases cO|(injection cO with ea_ en_ ec_;(first|subst ea_|(injection ea_ with ea_;subst ea_));subst ec_;clear en_));have GB12:=A0_ cP;have GG12:=A0_ HG12;clear cP gl12 HG12;obtain⟨b3,ei⟩:=Kd.R_celln false aw.out ((rd af 0):Int) bm bn;replace bm:=eq_true bm;replace bn:=eq_true bn;have n_:=A0_ (rM (ok':=(fun k_=>(w.heap.size≤k_))) aw.out (fun k_ hk=>hk.1));clear aw;have aw:=n_;clear n_;obtain⟨hy24_,hz24_⟩:=Kd.R_celln false aw.out ((rd af 0):Int) (zd) (zd);have HP24:=Kd.R_putg aw.out ((rd af 0):Int) true)|((with_reducible refine gS (t:=4) (p:=30) rfl ?_);refine store_event (t:=4) (p:=30) (v := ?vo_w25) (w1:=(w21.setCell ⟨ap,((rd af 0):Int).toNat,none⟩ (.bool true))) ?hg ?ho ?hn ?hr ?_;(case ho=>rfl);(case hg=>rfl);(case hn=>rfl);(case hr=>first|(go_simp;done)|(go_simp;rfl));intro w25 hw;have hg:w21.grownBy w25 (some ap):=(by rw [hw];exact HP24.2);have hp_:Kd.R Kd.bool 4 w25 w.heap.size (fun k_=>(w.heap.size≤k_)) (.slice (some ⟨ap,0,none⟩) aE.length aG) b5:=(by rw [hw,da.out];exact HP24.1);clear HP24;replace ax:=A0_ (Kd.V_afterv (v:=(.slice (some ⟨ap,0,none⟩) aE.length aG)) (v1:=(.slice (some ⟨ap,0,none⟩) aE.length aG)) (ok:=(fun k_=>(P2_ k_∨w.heap.size≤k_)∧some k_≠(.slice (some av) af.length aN:Value).ownBlock∧k_≠aq)) (by(with_reducible repeat(first|apply Kd.V_alloc|apply Kd.V_drewN|apply Kd.V_drew));exact Kd.V_mono ax.out (fun _ hk=>⟨⟨hk.1.1.1,⟨hk.1.2,hk.1.1.2⟩⟩,hk.2⟩)) hg (.inl rfl));replace ae:=A0_ (blk_grown (g:=aq) (o := .cells #[.slice aA ag.length aC,.slice aQ ac.length aD] 25 (0,0)) (zK_ ae) hg (Kd.R_ne aw.out ae.out (by decide)));replace ay:=A0_ (Kd.R_over' (v:=(.slice (some ⟨ap,0,none⟩) aE.length aG)) (zR_ ay) (Kd.R_typed aw.out) (by decide) hg);replace aw:=A0_ (hp_);replace HB:=A0_ ((by rw [hw];exact bS (HB.out) GB12.out:Below w.heap.size w w25));clear hg hw hp_;have bG:=zc0 ae;have bH:=zc1 ae;have bI:=kF ae.out 0;have bJ:=kF ae.out 1)|((with_reducible refine gC (f:=61) rfl ?_);refine zJ (some 33) Try.func61 #[.agg #[.slice aA ag.length aC,.slice aQ ac.length aD],.int .i64 0] ?_;(with_reducible refine(ik_.calls k _ _ ag _ _ ac 0 aM _ ?ar ?au ?aH ?aI eg.out).mono ?_);(case ar=>exact zC aX HB);(case au=>exact aY.out);(case aH=>exact zC aU HB);(case aI=>exact aZ.out);rintro e w27 ⟨ey,rfl,ao,hb⟩;refine⟨_,rfl,?_⟩;replace ax:=A0_ (Kd.V_elder' (by(with_reducible repeat(first|apply Kd.V_alloc|apply Kd.V_drewN|apply Kd.V_drew));exact ax.out) (Kd.R_base ao) hb);replace aw:=zR aw hb;have a4:=A0_ (rL (Kd.R_new' (Kd.R_newM (M:=fun k_=>(w.heap.size≤k_)) ao (bZ (zB_ HB)) (fun k_ h_=>h_)) (rX (zR_ ay))) (bZ (zB_ HB)));replace ay:=A0_ (Kd.R_elder' (zR_ ay) (Kd.R_base ao) hb);replace ae:=zK ae hb;replace HB:=zB HB hb;(try clear hb);(try clear ao);obtain⟨dJ,dK,dL⟩:=rS a4.out;subst dL)|((with_reducible refine gC (f:=60) rfl ?_);refine zJ (some 34) Try.func60 #[.slice dJ aM.length dK] ?_;(with_reducible refine(ia_.calls k _ _ aM aa _ ?ar ?au eh.out).mono ?_);(case ar=>exact zD a4);(case au=>exact(rR a4.out).2.1);rintro e w29 ⟨ez,rfl,ao,hb⟩;refine⟨_,rfl,?_⟩;replace ax:=A0_ (Kd.V_elder' (by(with_reducible repeat(first|apply Kd.V_alloc|apply Kd.V_drewN|apply Kd.V_drew));exact ax.out) (Kd.R_base ao) hb);replace aw:=zR aw hb;have ct:=A0_ (rL (Kd.R_new' (Kd.R_new' (Kd.R_newM (M:=fun k_=>(w.heap.size≤k_)) ao (bZ (zB_ HB)) (fun k_ h_=>h_)) (rX (zR_ ay))) (rX (zR_ a4))) (bZ (zB_ HB)));replace ay:=A0_ (Kd.R_elder' (zR_ ay) (Kd.R_base ao) hb);replace a4:=A0_ (Kd.R_elder' (zR_ a4) (Kd.R_base ao) hb);replace ae:=zK ae hb;replace HB:=zB HB hb;(try clear hb);(try clear ao);obtain⟨b6,aT,dM⟩:=rS ct.out;subst dM))
  go_loopg [10,36] k (fun kq v10 v36 w' => ∃ (ai:List Bool) (an:List (List Int)) (ab:Int),v36 = .int .i64 ab∧Aside0 (i3_.l0 kq af ai an aa (aa.length:Int) ab ag ac=some (r1,r2))∧Aside0 (kq≤k)∧Aside0 (Kd.R (Kd.int .i64) 3 w' w.heap.size (fun k_=>(w.heap.size≤k_)∧some k_≠((.slice b6 aa.length aT):Value).ownBlock) (.slice (some av) af.length aN) af)∧Aside0 (Kd.R Kd.bool 4 w' w.heap.size (fun k_=>(w.heap.size≤k_)) (.slice (some ⟨ap,0,none⟩) aE.length aG) ai)∧Aside0 (Kd.V (Kd.slice 3 (Kd.int .i64)) 23 w' w.heap.size (fun k_=>(P2_ k_∨w.heap.size≤k_)∧some k_≠((.slice (some av) af.length aN):Value).ownBlock∧some k_≠((.slice (some ⟨ap,0,none⟩) aE.length aG):Value).ownBlock∧some k_≠((.slice b6 aa.length aT):Value).ownBlock∧k_≠aq) v10 an)∧Aside0 (Kd.R (Kd.int .i64) 3 w' w.heap.size (fun k_=>(w.heap.size≤k_)∧some k_≠((.slice (some av) af.length aN):Value).ownBlock) (.slice b6 aa.length aT) aa)∧Aside0 (w'.heap[aq]? = some (.cells #[(.slice aA ag.length aC),(.slice aQ ac.length aD)] 25 (0,0)))∧Aside0 (Below w.heap.size w w'))
  case atStart=>exact⟨(b5),(l2),(0),zt,H',⟨Nat.le_refl _⟩,⟨zmR ay (fun _ hk=>⟨hk.1.1.1,hk.2⟩)⟩,⟨zR_ aw⟩,⟨by(with_reducible repeat(first|apply Kd.V_alloc|apply Kd.V_drewN|apply Kd.V_drew));exact Kd.V_mono ax.out (fun _ hk=>⟨hk.1.1.1.1,⟨hk.1.1.1.2.1,⟨hk.1.1.2,⟨hk.2,hk.1.1.1.2.2⟩⟩⟩⟩)⟩,⟨zmR ct (fun _ hk=>⟨hk.1.1.1,hk.1.2⟩)⟩,⟨zK_ ae⟩,⟨zB_ HB⟩⟩
  case round =>
   clear H';(try clear c2);(try clear c5);(try clear c7);(try clear cH);(try clear cI);(try clear c8);(try clear cJ);(try clear cK);(try clear c9);(try clear cL);(try clear cM);(try clear co);(try clear cp);(try clear cq);(try clear cr);(try clear bm);(try clear bn);(try clear bp);(try clear bq);(try clear bv);(try clear bw);(try clear bB);(try clear bC);(try clear bG);(try clear bH);(try clear br);(try clear bu);(try clear bx);(try clear bz);(try clear bE);(try clear bF);(try clear bI);(try clear bJ);(try clear b3);(try clear a3);(try clear bm);(try clear bk);(try clear bn);(try clear bl);obtain⟨ai,an,ab,rfl,HA,bK,am,al,aj,ak,ae,HB⟩:=hrel;have ah:=(rR al.out).1;rw [ah] at al;(try simp only [ah]);(try simp only [ah] at ae);(try simp only [ah] at am);(try simp only [ah] at aj);(try simp only [ah] at ak)
   cases gk with
   | zero=>exact absurd HA.out (by simp [i3_.l0])
   | succ k1 =>
    have H:=HA.out;clear HA;simp only [i3_.l0] at H
    by_cases bo:ab<(aa.length:Int)
    ·rw [if_pos bo] at H
     have bj:=dT bo;(try simp only [ah] at bj);clear bo
     have cQ:=zpc H;replace H:=zph H
     have dd:=dT cQ;clear cQ
     have cR:=zpc H;replace H:=zph H
     have cu:=dT cR;(try simp only [ah] at cu);clear cR
     have cS:=zpc H;replace H:=zph H
     have de:=dT cS;clear cS
     have cT:=zpc H;replace H:=zph H
     have cv:=dT cT;(try simp only [ah] at cv);clear cT;have b7:=A0_ H;clear H
     have bP:0≤(ab:Int):=zd
     have bQ:ab<(aa.length:Int):=zd
     obtain⟨aW,dN,cy⟩:=tI (rR ak.out).2.2 ab bP bQ
     cases dN
     replace bP:=eq_true bP;replace bQ:=eq_true bQ;have cz:=zc0 ae;have cC:=zc1 ae;have cE:=kF ae.out 0;have cF:=kF ae.out 1
     have bR:0≤((rd aa ab):Int):=zd
     have bU:(rd aa ab)<(ac.length:Int):=zd
     obtain⟨a5,dO,a6⟩:=tI aU.out (rd aa ab) bR bU
     cases dO
     try replace a6:=(HB.out.cell (wL w _ a6)).trans a6
     replace bR:=eq_true bR;replace bU:=eq_true bU
     go_upto_region 11 with(fail)
     go_cut [61] (fun v61 wc => ∃ (kq:Nat) (bg:Bool),v61 = .bool bg∧Aside0 (i3_.j1 kq af ai an (rd aa ab) (rd ac (rd aa ab)) aa (aa.length:Int) ab bg ag ac=some (r1,r2))∧Aside0 (kq≤k1)∧Aside0 (Kd.R (Kd.int .i64) 3 wc w.heap.size (fun k_=>(w.heap.size≤k_)∧some k_≠((.slice (some aW) aa.length aT):Value).ownBlock) (.slice (some av) af.length aN) af)∧Aside0 (Kd.R Kd.bool 4 wc w.heap.size (fun k_=>(w.heap.size≤k_)) (.slice (some ⟨ap,0,none⟩) ai.length aG) ai)∧Aside0 (Kd.V (Kd.slice 3 (Kd.int .i64)) 23 wc w.heap.size (fun k_=>(P2_ k_∨w.heap.size≤k_)∧some k_≠((.slice (some av) af.length aN):Value).ownBlock∧some k_≠((.slice (some ⟨ap,0,none⟩) ai.length aG):Value).ownBlock∧some k_≠((.slice (some aW) aa.length aT):Value).ownBlock∧k_≠aq) u10 an)∧Aside0 (Kd.R (Kd.int .i64) 3 wc w.heap.size (fun k_=>(w.heap.size≤k_)∧some k_≠((.slice (some av) af.length aN):Value).ownBlock) (.slice (some aW) aa.length aT) aa)∧Aside0 (wc.heap[aq]? = some (.cells #[(.slice aA ag.length aC),(.slice (some a5) ac.length aD)] 25 (0,0)))∧Aside0 (Below w.heap.size w wc))
     case first =>
      have H:=b7.out;clear b7
      have dv:=zpc H;replace H:=zph H
      have bV:=dT dv;(try simp only [ah] at bV);clear dv
      (first|rw [bV]|(simp only [i64_w,i32_w];rw [bV])|skip)
      have dw:=zpc H;replace H:=zph H
      have ep:=dT dw;clear dw
      have dx:=zpc H;replace H:=zph H
      have df:=dT dx;(try simp only [ah] at df);clear dx
      obtain⟨bq41,hbq41⟩ : ∃ b_:Bool,b_=(rdOf false ai (rd af (rd aa ab))):=⟨_,rfl⟩
      replace H:(if (bq41=true) then (if 0≤(rd ac (rd aa ab)) then (if (rd ac (rd aa ab))<(af.length:Int) then (if 0≤(rd af (rd ac (rd aa ab))) then (if (rd af (rd ac (rd aa ab)))<(ai.length:Int) then (i3_.j1 k1 af ai an (rd aa ab) (rd ac (rd aa ab)) aa (aa.length:Int) ab (rdOf false ai (rd af (rd ac (rd aa ab)))) ag ac) else (none)) else (none)) else (none)) else (none)) else (i3_.j1 k1 af ai an (rd aa ab) (rd ac (rd aa ab)) aa (aa.length:Int) ab true ag ac))=some (r1,r2):=by rw [← hbq41] at H;exact H
      have Nbq41:=A0_ hbq41;clear hbq41
      by_cases cw:(bq41=true)
      ·subst cw
       have H1:(if 0≤(rd ac (rd aa ab)) then (if (rd ac (rd aa ab))<(af.length:Int) then (if 0≤(rd af (rd ac (rd aa ab))) then (if (rd af (rd ac (rd aa ab)))<(ai.length:Int) then (i3_.j1 k1 af ai an (rd aa ab) (rd ac (rd aa ab)) aa (aa.length:Int) ab (rdOf false ai (rd af (rd ac (rd aa ab)))) ag ac) else (none)) else (none)) else (none)) else (none))=some (r1,r2):=by rw [if_pos rfl] at H;exact H
       clear H;have H:=H1;clear H1
       have dy:=zpc H;replace H:=zph H
       have eq:=dT dy;clear dy
       have dz:=zpc H;replace H:=zph H
       have dg:=dT dz;(try simp only [ah] at dg);clear dz
       have dA:=zpc H;replace H:=zph H
       have er:=dT dA;clear dA
       have dB:=zpc H;replace H:=zph H
       have dh:=dT dB;(try simp only [ah] at dh);clear dB;have H':=A0_ H;clear H
       have a9:0≤((rd aa ab):Int):=zd
       have ba:(rd aa ab)<(af.length:Int):=zd
       obtain⟨bW,b8,cG⟩:=tI (rR am.out).2.2 (rd aa ab) a9 ba
       obtain rfl:av=bW:=(by injection b8)
       replace a9:=eq_true a9;replace ba:=eq_true ba
       have bb:0≤((rd af (rd aa ab)):Int):=zd
       have bc:(rd af (rd aa ab))<(ai.length:Int):=zd
       obtain⟨bX,b9,az⟩:=Kd.at_bool (rR al.out).2.2 (rd af (rd aa ab)) bb bc
       (try rw [← Nbq41.out] at az)
       obtain rfl:(⟨ap,0,none⟩:Addr)=bX:=(by injection b9)
       (first|simp only [add_plain] at az|simp only [add_at] at az|simp only [Addr.add,Nat.zero_add] at az|skip)
       replace bb:=eq_true bb;replace bc:=eq_true bc
       have ca:0≤((rd ac (rd aa ab)):Int):=zd
       have cb:(rd ac (rd aa ab))<(af.length:Int):=zd
       obtain⟨di,dP,d5⟩:=tI (rR am.out).2.2 (rd ac (rd aa ab)) ca cb
       obtain rfl:av=di:=(by injection dP)
       replace ca:=eq_true ca;replace cb:=eq_true cb
       have cc:0≤((rd af (rd ac (rd aa ab))):Int):=zd
       have cd:(rd af (rd ac (rd aa ab)))<(ai.length:Int):=zd
       obtain⟨dj,dQ,a7⟩:=Kd.at_bool (rR al.out).2.2 (rd af (rd ac (rd aa ab))) cc cd
       (try rw [← Nbq41.out] at a7)
       obtain rfl:(⟨ap,0,none⟩:Addr)=dj:=(by injection dQ)
       (first|simp only [add_plain] at a7|simp only [add_at] at a7|simp only [Addr.add,Nat.zero_add] at a7|skip)
       replace cc:=eq_true cc;replace cd:=eq_true cd
       go_wp2
       go_meet
       case rel=>exact⟨_,(rdOf false ai (rd af (rd ac (rd aa ab)))),zt,H',⟨by have:=bK.out;first|omega|exact Nat.le_refl _⟩,⟨by(try simp only [ah]);(with_reducible repeat(first|apply rA|apply rN|apply rD));exact am.out⟩,⟨by(try simp only [ah]);(with_reducible repeat(first|apply rA|apply rN|apply rD));exact al.out⟩,⟨by(try simp only [ah]);(with_reducible repeat(first|apply Kd.V_alloc|apply Kd.V_drewN|apply Kd.V_drew));exact aj.out⟩,⟨by(try simp only [ah]);(with_reducible repeat(first|apply rA|apply rN|apply rD));exact ak.out⟩,⟨by(try simp only [ah]);exact zK_ ae⟩,⟨zB_ HB⟩⟩
      replace cw:=Bool.eq_false_iff.mpr cw;subst cw
      have H1:(i3_.j1 k1 af ai an (rd aa ab) (rd ac (rd aa ab)) aa (aa.length:Int) ab true ag ac)=some (r1,r2):=by rw [if_neg (show ¬ (false=true) by decide)] at H;exact H
      clear H;have H:=H1;clear H1;have H':=A0_ H;clear H
      have a9:0≤((rd aa ab):Int):=zd
      have ba:(rd aa ab)<(af.length:Int):=zd
      obtain⟨bW,b8,cG⟩:=tI (rR am.out).2.2 (rd aa ab) a9 ba
      obtain rfl:av=bW:=(by injection b8)
      replace a9:=eq_true a9;replace ba:=eq_true ba
      have bb:0≤((rd af (rd aa ab)):Int):=zd
      have bc:(rd af (rd aa ab))<(ai.length:Int):=zd
      obtain⟨bX,b9,az⟩:=Kd.at_bool (rR al.out).2.2 (rd af (rd aa ab)) bb bc
      (try rw [← Nbq41.out] at az)
      obtain rfl:(⟨ap,0,none⟩:Addr)=bX:=(by injection b9)
      (first|simp only [add_plain] at az|simp only [add_at] at az|simp only [Addr.add,Nat.zero_add] at az|skip)
      replace bb:=eq_true bb;replace bc:=eq_true bc
      go_wp2
      go_meet
      case rel=>exact⟨_,(true),zt,H',⟨by have:=bK.out;first|omega|exact Nat.le_refl _⟩,⟨by(try simp only [ah]);(with_reducible repeat(first|apply rA|apply rN|apply rD));exact am.out⟩,⟨by(try simp only [ah]);(with_reducible repeat(first|apply rA|apply rN|apply rD));exact al.out⟩,⟨by(try simp only [ah]);(with_reducible repeat(first|apply Kd.V_alloc|apply Kd.V_drewN|apply Kd.V_drew));exact aj.out⟩,⟨by(try simp only [ah]);(with_reducible repeat(first|apply rA|apply rN|apply rD));exact ak.out⟩,⟨by(try simp only [ah]);exact zK_ ae⟩,⟨zB_ HB⟩⟩
     case rest =>
      clear b7;(try clear c2);(try clear c5);(try clear c7);(try clear cH);(try clear cI);(try clear c8);(try clear cJ);(try clear cK);(try clear c9);(try clear cL);(try clear cM);(try clear co);(try clear cp);(try clear cq);(try clear cr);(try clear bm);(try clear bn);(try clear bo);(try clear bj);(try clear cQ);(try clear dd);(try clear cR);(try clear cu);(try clear cS);(try clear de);(try clear cT);(try clear cv);(try clear bp);(try clear bq);(try clear bv);(try clear bw);(try clear bB);(try clear bC);(try clear bG);(try clear bH);(try clear cz);(try clear cC);(try clear br);(try clear bu);(try clear bx);(try clear bz);(try clear bE);(try clear bF);(try clear bI);(try clear bJ);(try clear cE);(try clear cF);(try clear b3);(try clear a3);(try clear cy);(try clear a6);(try clear bm);(try clear bk);(try clear bP);(try clear bR);(try clear bn);(try clear bl);(try clear bQ);(try clear bU);obtain⟨kq,bg,rfl,HA,bY,am,al,aj,ak,ae,HB⟩:=hcut
      cases kq with
      | zero=>exact absurd HA.out (by simp [i3_.j1])
      | succ aJ =>
       have H:=HA.out;clear HA;simp only [i3_.j1] at H
       by_cases cx:bg=true
       ·subst cx
        have H1:(i3_.l0 aJ af ai an aa (aa.length:Int) (wrap64 (ab+1)) ag ac)=some (r1,r2):=by rw [if_pos rfl] at H;exact H
        clear H;have H:=H1;clear H1;have H':=A0_ H;clear H
        go_wp2
        (try simp only [← ah])
        go_roundg aJ
        case measure=>have:=bK.out;have:=bY.out;omega
        case rel=>exact⟨(ai),(an),(wrap64 (ab+1)),zt,H',⟨by have:=bK.out;have:=bY.out;omega⟩,⟨by(try simp only [ah]);(with_reducible repeat(first|apply rA|apply rN|apply rD));exact am.out⟩,⟨by(try simp only [ah]);(with_reducible repeat(first|apply rA|apply rN|apply rD));exact al.out⟩,⟨by(try simp only [ah]);(with_reducible repeat(first|apply Kd.V_alloc|apply Kd.V_drewN|apply Kd.V_drew));exact aj.out⟩,⟨by(try simp only [ah]);(with_reducible repeat(first|apply rA|apply rN|apply rD));exact ak.out⟩,⟨by(try simp only [ah]);exact zK_ ae⟩,⟨zB_ HB⟩⟩
       replace cx:=Bool.eq_false_iff.mpr cx;subst cx
       have H1:(if 0≤(rd ac (rd aa ab)) then (if (rd ac (rd aa ab))<(af.length:Int) then (if 0≤(rd af (rd ac (rd aa ab))) then (if (rd af (rd ac (rd aa ab)))<(ai.length:Int) then ((i9_.f aJ ag ac an (rd aa ab)).bind fun bd=>((ia_.f aJ bd).bind fun be=>((ic_.f aJ ag ac an (rd af (rd ac (rd aa ab))) be).bind fun bi=>(i3_.l0 aJ af (ai.set ((rd af (rd ac (rd aa ab))):Int).toNat true) bi aa (aa.length:Int) (wrap64 (ab+1)) ag ac)))) else (none)) else (none)) else (none)) else (none))=some (r1,r2):=by rw [if_neg (show ¬ (false=true) by decide)] at H;exact H
       clear H;have H:=H1;clear H1
       have dC:=zpc H;replace H:=zph H
       have es:=dT dC;clear dC
       have dD:=zpc H;replace H:=zph H
       have dk:=dT dD;(try simp only [ah] at dk);clear dD
       have dE:=zpc H;replace H:=zph H
       have et:=dT dE;clear dE
       have dG:=zpc H;replace H:=zph H
       have dl:=dT dG;(try simp only [ah] at dl);clear dG
       obtain⟨ce,b2⟩ : ∃ y_:List Bool,y_=(ai.set ((rd af (rd ac (rd aa ab))):Int).toNat true):=⟨_,rfl⟩
       replace H:((i9_.f aJ ag ac an (rd aa ab)).bind fun bd=>((ia_.f aJ bd).bind fun be=>((ic_.f aJ ag ac an (rd af (rd ac (rd aa ab))) be).bind fun bi=>(i3_.l0 aJ af ce bi aa (aa.length:Int) (wrap64 (ab+1)) ag ac))))=some (r1,r2):=zH b2 H
       have dm:=A0_ b2;clear b2;obtain⟨bd,ej,H⟩:=zbind H;obtain⟨be,ek,H⟩:=zbind H;obtain⟨bi,el,H⟩:=zbind H;have H':=A0_ H;clear H
       have cf:0≤((rd ac (rd aa ab)):Int):=zd
       have cg:(rd ac (rd aa ab))<(af.length:Int):=zd
       obtain⟨dn,dR,d6⟩:=tI (rR am.out).2.2 (rd ac (rd aa ab)) cf cg
       obtain rfl:av=dn:=(by injection dR)
       replace cf:=eq_true cf;replace cg:=eq_true cg
       have cU:0≤((rd af (rd ac (rd aa ab))):Int):=zd
       have cV:((rd af (rd ac (rd aa ab))):Int)<((ai.length:Int):Int):=zd
       obtain⟨em,en⟩:=Kd.R_celln false al.out ((rd af (rd ac (rd aa ab))):Int) cU cV
       replace cU:=eq_true cU;replace cV:=eq_true cV
       have HP56:=Kd.R_putg al.out ((rd af (rd ac (rd aa ab))):Int) true
       try go_wp2_with (first|((with_reducible refine gS (t:=4) (p:=67) rfl ?_);refine store_event (t:=4) (p:=67) (v := ?vo_w57) (w1:=(wc.setCell ⟨ap,((rd af (rd ac (rd aa ab))):Int).toNat,none⟩ (.bool true))) ?hg ?ho ?hn ?hr ?_;(case ho=>rfl);(case hg=>rfl);(case hn=>rfl);(case hr=>first|(go_simp;done)|(go_simp;rfl));intro w57 hw;have hg:wc.grownBy w57 (some ap):=(by rw [hw];exact HP56.2);have hp_:Kd.R Kd.bool 4 w57 w.heap.size (fun k_=>(w.heap.size≤k_)) (.slice (some ⟨ap,0,none⟩) ai.length aG) ce:=(by rw [hw,dm.out];exact HP56.1);clear HP56;replace am:=A0_ (Kd.R_over' (v:=(.slice (some ⟨ap,0,none⟩) ai.length aG)) (zR_ am) (Kd.R_typed al.out) (by decide) hg);replace aj:=A0_ (Kd.V_afterv (v:=(.slice (some ⟨ap,0,none⟩) ai.length aG)) (v1:=(.slice (some ⟨ap,0,none⟩) ai.length aG)) (ok:=(fun k_=>(P2_ k_∨w.heap.size≤k_)∧some k_≠(.slice (some av) af.length aN:Value).ownBlock∧some k_≠(.slice (some aW) aa.length aT:Value).ownBlock∧k_≠aq)) (by(with_reducible repeat(first|apply Kd.V_alloc|apply Kd.V_drewN|apply Kd.V_drew));exact Kd.V_mono aj.out (fun _ hk=>⟨⟨hk.1,⟨hk.2.1,⟨hk.2.2.2.1,hk.2.2.2.2⟩⟩⟩,hk.2.2.1⟩)) hg (.inl rfl));replace ak:=A0_ (Kd.R_over' (v:=(.slice (some ⟨ap,0,none⟩) ai.length aG)) (zR_ ak) (Kd.R_typed al.out) (by decide) hg);replace ae:=A0_ (blk_grown (g:=aq) (o := .cells #[.slice aA ag.length aC,.slice (some a5) ac.length aD] 25 (0,0)) (zK_ ae) hg (Kd.R_ne al.out ae.out (by decide)));replace al:=A0_ (hp_);replace HB:=A0_ ((by rw [hw];exact bS (HB.out) GB12.out:Below w.heap.size w w57));clear hg hw hp_;have d7:=zc0 ae;have d8:=zc1 ae;have d9:=kF ae.out 0;have ea:=kF ae.out 1;obtain⟨cW,cX,dS⟩:=Kd.V_slice aj.out;subst dS)|((with_reducible refine gC (f:=62) rfl ?_);refine zJ (some 71) Try.func62 #[.agg #[.slice aA ag.length aC,.slice (some a5) ac.length aD],.slice cW an.length cX,.int .i64 (rd aa ab)] ?_;(with_reducible refine(i9_.calls aJ _ _ ag _ _ ac (fun k_=>(((P2_ k_∨w.heap.size≤k_)∧(some k_≠(.slice (some av) af.length aN:Value).ownBlock∧(some k_≠(.slice (some aW) aa.length aT:Value).ownBlock∧k_≠aq)))∧some k_≠(.slice (some ⟨ap,0,none⟩) ai.length aG:Value).ownBlock)) _ _ an (rd aa ab) bd _ ?ar ?au ?aH ?aI ?aV ej.out).mono ?_);(case ar=>exact zC aX HB);(case au=>exact aY.out);(case aH=>exact zC aU HB);(case aI=>exact aZ.out);(case aV=>exact aj.out);rintro e w60 ⟨eA,rfl,ao,hb⟩;refine⟨_,rfl,?_⟩;replace aj:=A0_ (Kd.V_below (by(with_reducible repeat(first|apply Kd.V_alloc|apply Kd.V_drewN|apply Kd.V_drew));exact aj.out) hb);have aK:=A0_ (Kd.V_lower (Kd.V_mono (ok':=fun k_=>(P2_ k_∨w.heap.size≤k_)∧some k_≠(.slice (some av) af.length aN:Value).ownBlock∧some k_≠(.slice (some ⟨ap,0,none⟩) ai.length aG:Value).ownBlock∧some k_≠(.slice (some aW) aa.length aT:Value).ownBlock∧k_≠aq) ao (fun k_ hk_=>⟨Or.elim hk_ (fun hs_=>hs_.1.1) (fun hn_=>(.inr (Nat.le_trans (bZ (zB_ HB)) hn_))),Or.elim hk_ (fun hs_=>hs_.1.2.1) (fun hn_=>(Kd.fresh' (rX (zR_ am)) k_ hn_)),Or.elim hk_ (fun hs_=>hs_.2) (fun hn_=>(Kd.fresh' (rX (zR_ al)) k_ hn_)),Or.elim hk_ (fun hs_=>hs_.1.2.2.1) (fun hn_=>(Kd.fresh' (rX (zR_ ak)) k_ hn_)),Or.elim hk_ (fun hs_=>hs_.1.2.2.2) (fun hn_=>(Kd.freshB (g:=aq) (o := .cells #[.slice aA ag.length aC,.slice (some a5) ac.length aD] 25 (0,0)) (zK_ ae) k_ hn_))⟩)) (bZ (zB_ HB)));replace am:=zR am hb;replace al:=zR al hb;replace ak:=zR ak hb;replace ae:=zK ae hb;replace HB:=zB HB hb;(try clear hb);(try clear ao)))
       replace am:=A0_ (rD am.out)
       replace al:=A0_ (rD al.out)
       replace aj:=A0_ (Kd.V_drew aj.out)
       replace ak:=A0_ (rD ak.out)
       replace aK:=A0_ (Kd.V_drew aK.out)
       replace ae:=A0_ (kD ae.out)
       replace HB:=A0_ (bD HB.out)
       have ch:0≤((rd ac (rd aa ab)):Int):=zd
       have ci:(rd ac (rd aa ab))<(af.length:Int):=zd
       obtain⟨dp,dU,bL⟩:=tI (rR am.out).2.2 (rd ac (rd aa ab)) ch ci
       obtain rfl:av=dp:=(by injection dU)
       replace ch:=eq_true ch;replace ci:=eq_true ci;obtain⟨dV,dW,cY⟩:=Kd.V_slice aK.out
       (first|subst cY|(injection cY with f1_ f2_ f3_;have f4_:=f1_.symm;have f5_:=f3_.symm;clear f1_ f2_ f3_;subst f4_;subst f5_))
       refine start_ (n:=10) (S:=fun w'=>w'.cell? ⟨aq,0,none⟩=some (.slice aA ag.length aC)∧w'.cell? ⟨aq,1,none⟩=some (.slice (some a5) ac.length aD)∧w'.cell? (av.add ((rd ac (rd aa ab))).toNat)=some (.int .i64 (rd af (rd ac (rd aa ab))))) (ds := []) (bs 10 0) (by kernel_rfl) rfl rfl ⟨(kC ae.out 0).trans rfl,(kC ae.out 1).trans rfl,bL⟩ (fun hHeld => ?_);refine with_tabW i3_.tab14 i3_.bits14 (fun HT_ HW_ => ?_)
       generalize w60.drew=w61 at am al aj ak aK ae HB bL hHeld ⊢
       refine zP 1 (some 73) (bs 10 2) ?_
       refine zP 2 (some 74) (bs 10 6) ?_
       refine zP 3 (some 75) (bs 10 14) ?_
       refine zP 4 (some 76) (bs 10 30) ?_
       refine zP 6 (some 78) (bs 10 94) ?_
       refine zT 0 (some 72) (bs 10 95) hHeld ?_
       refine zT 5 (some 77) (bs 10 127) hHeld ?_
       refine one_ (i:=7) (N:=some 79) (bs 10 255) rfl rfl (one_of HT_.out (by kernel_rfl)) (by decide) (fun K hK => ?_)
       refine zg Try.func60 #[.slice dV bd.length dW] ?_
       with_reducible refine(ia_.calls aJ _ _ bd be _ ?ar ?au ek.out).mono ?_
       (case ar=>repeat(first|exact(Kd.V_reads' aK.out).2.2|(with_reducible refine cA ?_ _)|(with_reducible refine cN ?_ _)|(with_reducible refine cD ?_)))
       (case au=>exact(Kd.V_reads' aK.out).2.1)
       rintro e w63 ⟨eB,rfl,ao,hb⟩
       have HS2_:=(hb.cell (wL _ _ (hHeld.2.2))).trans (hHeld.2.2)
       refine⟨_,rfl,?_⟩
       replace al:=zR al hb
       replace aj:=A0_ (Kd.V_elder' (by(with_reducible repeat(first|apply Kd.V_alloc|apply Kd.V_drewN|apply Kd.V_drew));exact aj.out) (Kd.R_base ao) hb)
       replace aK:=A0_ (Kd.V_elder' (by(with_reducible repeat(first|apply Kd.V_alloc|apply Kd.V_drewN|apply Kd.V_drew));exact aK.out) (Kd.R_base ao) hb)
       have a8:=A0_ (rL (Kd.R_new' (Kd.R_new' (Kd.R_newM (M:=fun k_=>(w.heap.size≤k_)) ao (bZ (zB_ HB)) (fun k_ h_=>h_)) (rX (zR_ am))) (rX (zR_ ak))) (bZ (zB_ HB)))
       replace am:=A0_ (Kd.R_elder' (zR_ am) (Kd.R_base ao) hb)
       replace ak:=A0_ (Kd.R_elder' (zR_ ak) (Kd.R_base ao) hb)
       replace ae:=zK ae hb;replace HB:=zB HB hb;(try clear hb);(try clear hk);(try clear ao);obtain⟨dX,dY,cZ⟩:=rS a8.out
       (first|subst cZ|(injection cZ with f1_ f2_ f3_;have f4_:=f1_.symm;have f5_:=f3_.symm;clear f1_ f2_ f3_;subst f4_;subst f5_))
       refine hK.out _ _ ⟨(kC ae.out 0).trans rfl,(kC ae.out 1).trans rfl,HS2_⟩ (fun hHeld => ?_)
       clear hK K
       refine zN (some 79) ?_
       refine one_ (i:=8) (N:=some 80) (bs 10 511) rfl rfl (one_of HT_.out (by kernel_rfl)) (by decide) (fun K hK => ?_)
       refine zg Try.func63 #[.agg #[.slice aA ag.length aC,.slice (some a5) ac.length aD],.slice cW an.length cX,.int .i64 (rd af (rd ac (rd aa ab))),.slice dX be.length dY] ?_
       with_reducible refine(ic_.calls aJ _ _ ag _ _ ac _ _ an (rd af (rd ac (rd aa ab))) _ _ be bi _ ?ar ?au ?aH ?aI ?aV ?bf ?dq ?dr el.out).mono ?_
       (case ar=>exact zC aX HB)
       (case au=>exact aY.out)
       (case aH=>exact zC aU HB)
       (case aI=>exact aZ.out)
       (case aV=>repeat(first|exact(Kd.V_reads' aj.out).2.2|(with_reducible refine cA ?_ _)|(with_reducible refine cN ?_ _)|(with_reducible refine cD ?_)))
       (case bf=>exact(Kd.V_reads' aj.out).2.1)
       (case dq=>exact zD a8)
       (case dr=>exact(rR a8.out).2.1)
       rintro e w65 ⟨eC,rfl,ao,hb⟩
       have HS2_:=(hb.cell (wL _ _ (hHeld.2.2))).trans (hHeld.2.2)
       refine⟨_,rfl,?_⟩
       replace al:=zR al hb
       replace aj:=A0_ (Kd.V_elder' (by(with_reducible repeat(first|apply Kd.V_alloc|apply Kd.V_drewN|apply Kd.V_drew));exact aj.out) (Kd.S_base ao) hb)
       replace aK:=A0_ (Kd.V_elder' (by(with_reducible repeat(first|apply Kd.V_alloc|apply Kd.V_drewN|apply Kd.V_drew));exact aK.out) (Kd.S_base ao) hb)
       have dt:=A0_ (Kd.S_lower (Kd.S_new' (Kd.S_new' (Kd.S_new' (Kd.S_newM (M:=fun k_=>(w.heap.size≤k_)) ao (bZ (zB_ HB)) (fun k_ h_=>h_)) (rX (zR_ am))) (rX (zR_ ak))) (rX (zR_ a8))) (bZ (zB_ HB)))
       replace am:=zR am hb;replace ak:=zR ak hb;replace a8:=zR a8 hb;replace ae:=zK ae hb;replace HB:=zB HB hb;(try clear hb);(try clear hk);(try clear ao)
       refine hK.out _ _ ⟨(kC ae.out 0).trans rfl,(kC ae.out 1).trans rfl,HS2_⟩ (fun hHeld => ?_)
       clear hK K
       refine zN (some 80) ?_
       refine zP 9 (some 10) (bs 10 1023) ?_
       refine done_ (done_of HT_.out (by kernel_rfl)) ?_
       try go_wp2
       (try simp only [← ah])
       go_roundg aJ
       case measure=>have:=bK.out;have:=bY.out;omega
       case rel=>exact⟨(ce),(bi),(wrap64 (ab+1)),zt,H',⟨by have:=bK.out;have:=bY.out;omega⟩,⟨by(try simp only [ah]);(with_reducible repeat(first|apply rA|apply rN|apply rD));exact rM am.out (fun _ hk=>⟨hk.1.1,hk.1.2⟩)⟩,⟨by(try simp only [ah]);(with_reducible repeat(first|apply rA|apply rN|apply rD));exact al.out⟩,⟨Kd.V_mono (Kd.S_V (ok:=fun k_=>(w.heap.size≤k_)∧some k_≠((.slice (some av) af.length aN):Value).ownBlock∧some k_≠((.slice (some ⟨ap,0,none⟩) ai.length aG):Value).ownBlock∧some k_≠((.slice (some aW) aa.length aT):Value).ownBlock∧k_≠aq) (by(try simp only [ah]);(with_reducible repeat(first|apply sA|apply sN|apply sD));exact sM (Kd.S_types (Kd.S_apart' dt.out (Kd.R_typed al.out) (by decide)) ae.out (by decide)) (fun _ hk=>⟨hk.1.1.1.1.1.1,⟨hk.1.1.1.1.2,⟨hk.1.2,⟨hk.1.1.1.2,hk.2⟩⟩⟩⟩))) (fun k_ hk=>by first|exact⟨(.inr (hk.1)),hk.2⟩|exact(.inr (hk)))⟩,⟨by(try simp only [ah]);(with_reducible repeat(first|apply rA|apply rN|apply rD));exact rM ak.out (fun _ hk=>⟨hk.1.1,hk.1.2⟩)⟩,⟨by(try simp only [ah]);exact zK_ ae⟩,⟨zB_ HB⟩⟩
    rw [if_neg bo] at H;have bj:=dF bo;(try simp only [ah] at bj);clear bo;obtain⟨dZ,eo,H⟩:=zbind H;simp only [Option.some.injEq,Prod.mk.injEq] at H;obtain⟨rfl,rfl⟩:=H;obtain⟨d0,d3,d4⟩:=Kd.V_slice aj.out;subst d4
    go_wp2_with (first|((with_reducible refine gC (f:=64) rfl ?_);refine zJ (some 83) Try.func64 #[.slice d0 an.length d3] ?_;(with_reducible refine(id_.calls k1 _ _ an dZ _ ?ar ?au eo.out).mono ?_);(case ar=>repeat(first|exact(Kd.V_reads' aj.out).2.2|(with_reducible refine cA ?_ _)|(with_reducible refine cN ?_ _)|(with_reducible refine cD ?_)));(case au=>exact(Kd.V_reads' aj.out).2.1);rintro e w68 ⟨eD,rfl,ao,hb⟩;refine⟨_,rfl,?_⟩;replace al:=zR al hb;replace aj:=A0_ (Kd.V_elder' (by(with_reducible repeat(first|apply Kd.V_alloc|apply Kd.V_drewN|apply Kd.V_drew));exact aj.out) (Kd.S_base ao) hb);have du:=A0_ (Kd.S_lower (Kd.S_new' (Kd.S_new' (Kd.S_newM (M:=fun k_=>(w.heap.size≤k_)) ao (bZ (zB_ HB)) (fun k_ h_=>h_)) (rX (zR_ am))) (rX (zR_ ak))) (bZ (zB_ HB)));replace am:=zR am hb;replace ak:=zR ak hb;replace ae:=zK ae hb;replace HB:=zB HB hb;(try clear hb);(try clear ao)))
    go_ret2
    exact⟨_,by first|rfl|(simp [*] <;> rfl),zmS du (fun _ hk=>hk.1.1.1),zB_ HB⟩
 replace c5:=Bool.eq_false_iff.mpr c5;subst c5
 have H1:(some (([]:List (List Int)),false))=some (r1,r2):=by rw [if_neg (show ¬ (false=true) by decide)] at H;exact H
 clear H;have H:=H1;clear H1;simp only [Option.some.injEq,Prod.mk.injEq] at H;obtain⟨rfl,rfl⟩:=H
 go_enter Try.func14,Try.ntmps14
 go_wp2_with (first|((with_reducible refine gD (N:=3) rfl ?_);refine zX (N:=3) (cs := #[.slice aA ag.length aC,.slice aQ ac.length aD]) (t:=25) ?_;intro aq hg w69 hbox hb;replace ax:=A0_ (Kd.V_below (Kd.V_elderB (by(with_reducible repeat(first|apply Kd.V_alloc|apply Kd.V_drewN|apply Kd.V_drew));exact ax.out) aq (Nat.le_of_eq hg.symm)) hb);have ae:=A0_ (hbox);have db:=zG hg HB;have dc:=zG hg HB;replace HB:=zB HB hb;clear hb hbox hg;have eb:=zc0 ae;have ec:=zc1 ae;have ed:=kF ae.out 0;have ee:=kF ae.out 1)|((with_reducible refine gC (f:=53) rfl ?_);refine zJ (some 18) Try.func53 #[.agg #[.slice aA ag.length aC,.slice aQ ac.length aD],.int .i64 a1,.slice A2 l2.length c2] ?_;(with_reducible refine(i8_.calls k _ _ ag _ _ ac a1 _ _ l2 false _ ?ar ?au ?aH ?aI ?aV ?bf A4.out).mono ?_);(case ar=>exact zC aX HB);(case au=>exact aY.out);(case aH=>exact zC aU HB);(case aI=>exact aZ.out);(case aV=>repeat(first|exact(Kd.V_reads' ax.out).2.2|(with_reducible refine cA ?_ _)|(with_reducible refine cN ?_ _)|(with_reducible refine cD ?_)));(case bf=>exact(Kd.V_reads' ax.out).2.1);rintro e w71 ⟨rfl,hb⟩;refine⟨_,rfl,?_⟩;replace ax:=A0_ (Kd.V_below (by(with_reducible repeat(first|apply Kd.V_alloc|apply Kd.V_drewN|apply Kd.V_drew));exact ax.out) hb);replace ae:=zK ae hb;replace HB:=zB HB hb;(try clear hb)))
 go_ret2
 exact⟨_,by first|rfl|(simp [*] <;> rfl),by first|exact Kd.S_nil _ _ _ _ _|exact Kd.N_nil _ _ _ _ _|exact Kd.V_nil _ _ _ _ _|exact Kd.Q_nil _ _ _ _ _|exact Kd.R_nil _ _ _ _ _,zB_ HB⟩
end Go.Proofs.Ytmegggomhjgehaa.PFnCoverTree
