import Derived.Test.YtjebcgbmlbemcaaGreatDoorPFnExecuteContractx2
import Derived.Test.YtjebcgbmlbemcaaGreatDoorPFnExecuteContractx3
namespace Go.Proofs.YtjebcgbmlbemcaaGreatDoor.PFnExecuteContract
open Go.RowKit Go.Proofs.YtjebcgbmlbemcaaGreatDoorW.PrintWords Go.Proofs.YtjebcgbmlbemcaaGreatDoorW.PrintLast Go.Proofs.YtjebcgbmlbemcaaGreatDoorW.PrintMore
set_option maxHeartbeats 8000000
set_option maxRecDepth 100000
attribute [local go_sem] max2_int min2_int max_two min_two max_three min_three max_four min_four
set_option linter.unusedVariables false
set_option linter.unusedSimpArgs false
mutual
def ig_.l0:Nat→List Int→List (List Int)→Int→Int→Option (List Int)
  | 0,_,_,_,_=>none
  | k+1,x3,ab,ac,aa=>if aa<ac then (if 0≤aa then (if aa<(ab.length:Int) then (ig_.l1 k x3 aa ab ac aa (rd_L1 ab aa) ((rd_L1 ab aa).length:Int) 0) else (none)) else (none)) else (some x3)
def ig_.l1:Nat→List Int→Int→List (List Int)→Int→Int→List Int→Int→Int→Option (List Int)
  | 0,_,_,_,_,_,_,_,_=>none
  | k+1,x3,x4,ac,af,ag,ab,ah,aa=>if aa<ah then (if 0≤aa then (if aa<(ab.length:Int) then (if 0≤(rd ab aa) then (if (rd ab aa)<(x3.length:Int) then (ig_.l1 k (x3.set ((rd ab aa):Int).toNat x4) x4 ac af ag ab ah (wrap64 (aa+1))) else (none)) else (none)) else (none)) else (none)) else (ig_.l0 k x3 ac af (wrap64 (ag+1)))
end
def ig_.f (k:Nat) (aa:List Int) (ac:List Int):Option (List Int):=if 0≤(aa.length:Int) then (if ((aa.length:Int):Int).toNat≤35184372088832 then ((i9_.f k aa).bind fun ab=>(ig_.l0 k (List.replicate ((aa.length:Int):Int).toNat 0) ab (ab.length:Int) 0)) else (none)) else (none)
theorem ig_.calls (k:Nat) (al:Option Addr) (am:Nat) (af:List Int) (ao:Option Addr) (ap:Nat) (ak:List Int) (r:List Int) (w:World) (a5:Kd.C (Kd.int .i64) w al af.length af) (a6:af.length≤am) (a7:Kd.C (Kd.int .i64) w ao ak.length ak) (a8:ak.length≤ap) (h:ig_.f k af ak=some r) :
    Calls Tryz.prog 90 #[.agg #[.slice al af.length am,.slice ao ak.length ap]] w fun e w' => ∃ v0_:Value,e = .returned (v0_)∧Kd.R (Kd.int .i64) 3 w' w.heap.size (fun _=>True) v0_ r∧Below w.heap.size w w':=by
 have cg:=Tryz.underlying25;have bu:=A0_ a5;have bv:=A0_ a6;clear a5 a6;have bY:=A0_ a7;have b5:=A0_ a8;clear a7 a8
 have HB:=A0_ (Below.refl w.heap.size w)
 have H:(if 0≤(af.length:Int) then (if ((af.length:Int):Int).toNat≤35184372088832 then ((i9_.f k af).bind fun ab=>(ig_.l0 k (List.replicate ((af.length:Int):Int).toNat 0) ab (ab.length:Int) 0)) else (none)) else (none))=some r:=h
 clear h
 have c2:=zpc H;replace H:=zph H
 have be:=eq_true c2;have bf:=dT c2;clear c2
 have c3:=zpc H;replace H:=zph H
 have bg:=eq_true c3;have bh:=dT c3;clear c3
 obtain⟨bi,aE⟩ : ∃ y_:List Int,y_=(List.replicate ((af.length:Int):Int).toNat 0):=⟨_,rfl⟩
 replace H:((i9_.f k af).bind fun ab=>(ig_.l0 k bi ab (ab.length:Int) 0))=some r:=zH aE H
 have a9:=A0_ aE;clear aE;obtain⟨ab,A4,H⟩:=zbind H;have H':=A0_ H;clear H
 go_enter Tryz.func90,Tryz.ntmps90
 go_wp2_with (first|((with_reducible refine gD (N:=1) rfl ?_);refine zX (N:=1) (cs := #[.slice al af.length am,.slice ao ak.length ap]) (t:=25) ?_;intro aG hg w5 hbox hb;have ac:=A0_ (hbox);have b6:=zG hg HB;have b7:=zG hg HB;replace HB:=zB HB hb;clear hb hbox hg;have aJ:=zc0 ac;have aK:=zc1 ac;have aM:=kF ac.out 0;have aN:=kF ac.out 1)|((with_reducible refine gD (N:=11) rfl ?_);refine Kd.R_make (Kd.int .i64) _ 3 rfl (N:=11) rfl 23 _ _ rfl (af.length:Int) rfl rfl Tryz.underlying23 (.int .i64 0) 8 info3 rfl (by decide) (by omega) 0 (ok:=fun _=>True) (okp:=fun _=>True) rfl (fun _ hk=>hk) trivial (zd) (Nat.le_trans (Nat.mul_le_mul_right _ (zd:(af.length:Int).toNat≤35184372088832)) (by omega)) (Below.refl _ _) (Nat.le_refl _) ?_;intro au w7 aQ hb hg_ hnew_;clear hg_ hnew_;(first|rw [← a9.out] at aQ|(simp only [Int.reduceToNat] at aQ;rw [← a9.out] at aQ));have ar:=A0_ (rL aQ (bZ (zB_ HB)));replace ac:=zK ac hb;replace HB:=zB HB hb;clear hb aQ;have aT:=zc0 ac;have aU:=zc1 ac;have aV:=kF ac.out 0;have aW:=kF ac.out 1)|((with_reducible refine gC (f:=81) rfl ?_);refine zJ (some 14) Tryz.func81 #[.slice al af.length am] ?_;(with_reducible refine(i9_.calls k _ _ af ab _ ?bx ?bz A4.out).mono ?_);(case bx=>exact zC bu HB);(case bz=>exact bv.out);rintro e w10 ⟨ch,rfl,bH,hb⟩;refine⟨_,rfl,?_⟩;have ba:=A0_ (Kd.S_lower (Kd.S_new' bH (rX (zR_ ar))) (bZ (zB_ HB)));replace ar:=zR ar hb;replace ac:=zK ac hb;replace HB:=zB HB hb;(try clear hb);(try clear bH);obtain⟨bM,bj,bO⟩:=Kd.S_slice ba.out;subst bO))
 go_loopg [16] k (fun kq v16 w' => ∃ (aH:List Int) (aa:Int),v16 = .int .i64 aa∧Aside0 (ig_.l0 kq aH ab (ab.length:Int) aa=some r)∧Aside0 (kq≤k)∧Aside0 (Kd.R (Kd.int .i64) 3 w' w.heap.size (fun _=>True) au aH)∧Aside0 (Kd.S (Kd.slice 3 (Kd.int .i64)) 23 w' w.heap.size (fun k_=>nO k_ au) (.slice bM ab.length bj) ab)∧Aside0 (w'.heap[aG]? = some (.cells #[(.slice al af.length am),(.slice ao ak.length ap)] 25 (0,0)))∧Aside0 (Below w.heap.size w w'))
 case atStart=>exact⟨(bi),(0),zt,H',⟨Nat.le_refl _⟩,⟨zR_ ar⟩,⟨zmS ba (fun _ hk=>hk.2)⟩,⟨zK_ ac⟩,⟨zB_ HB⟩⟩
 case round =>
  clear H';(try clear c2);(try clear be);(try clear bf);(try clear c3);(try clear bg);(try clear bh);(try clear aJ);(try clear aK);(try clear aT);(try clear aU);(try clear aM);(try clear aN);(try clear aV);(try clear aW);obtain⟨aH,aa,rfl,HA,bb,aj,ah,ac,HB⟩:=hrel
  cases gk with
  | zero=>exact absurd HA.out (by simp [ig_.l0])
  | succ k1 =>
   have H:=HA.out;clear HA;simp only [ig_.l0] at H
   by_cases av:aa<(ab.length:Int)
   ·rw [if_pos av] at H
    have bc:=dT av;clear av
    have bk:=zpc H;replace H:=zph H
    have bB:=dT bk;clear bk
    have bl:=zpc H;replace H:=zph H
    have bC:=dT bl;clear bl;have H':=A0_ H;clear H
    have aw:0≤(aa:Int):=zd
    have ax:aa<(ab.length:Int):=zd
    obtain⟨bE,bm,bn,bP,az,aA,aC⟩:=at_L1 (Kd.S_reads' ah.out).2.2 aa aw ax
    cases bP
    obtain⟨ce217,hce217,hMe217,aX⟩:=Kd.S_get ah.out [] aa aw (by first|exact ax|exact zd|(have e_:=(Kd.S_reads' ah.out).1;omega))
    obtain⟨ve217_0,rfl,aq⟩:=hMe217;have hv217_0:=aX 0 _ rfl
    rw [Nat.add_zero,show((Kd.slice 3 (Kd.int .i64))).sz=1 from rfl,Nat.mul_one] at hv217_0
    replace hv217_0:=sI (hv217_0.symm.trans az)
    rw [hv217_0] at aq
    have HL217_0:=A0_ (show Kd.R (Kd.int .i64) 3 _ _ _ _ (rd_L1 ab aa) from aq)
    clear hv217_0 aq aX hce217;have bR:=A0_ aC;have bU:=A0_ aA;clear aC aA;replace aw:=eq_true aw;replace ax:=eq_true ax
    go_wp2
    go_loopg [23] k1 (fun kq v23 w' => ∃ (ai:List Int) (ag:Int),v23 = .int .i64 ag∧Aside0 (ig_.l1 kq ai aa ab (ab.length:Int) aa (rd_L1 ab aa) ((rd_L1 ab aa).length:Int) ag=some r)∧Aside0 (kq≤k1)∧Aside0 (Kd.R (Kd.int .i64) 3 w' w.heap.size (fun _=>True) au ai)∧Aside0 (Kd.S (Kd.slice 3 (Kd.int .i64)) 23 w' w.heap.size (fun k_=>nO k_ au) (.slice (some bE) ab.length bj) ab)∧Aside0 (Kd.R (Kd.int .i64) 3 w' w.heap.size (fun k_=>nO k_ au) (.slice bm (rd_L1 ab aa).length bn) (rd_L1 ab aa))∧Aside0 (w'.heap[aG]? = some (.cells #[(.slice al af.length am),(.slice ao ak.length ap)] 25 (0,0)))∧Aside0 (Below w.heap.size w w'))
    case atStart=>exact⟨(aH),(0),zt,H',⟨Nat.le_refl _⟩,⟨zR_ aj⟩,⟨zS_ ah⟩,⟨zmR HL217_0 (fun _ hk=>hk.1)⟩,⟨zK_ ac⟩,⟨zB_ HB⟩⟩
    case round =>
     clear H';(try clear c2);(try clear be);(try clear bf);(try clear c3);(try clear bg);(try clear bh);(try clear av);(try clear bc);(try clear bk);(try clear bB);(try clear bl);(try clear bC);(try clear aJ);(try clear aK);(try clear aT);(try clear aU);(try clear aM);(try clear aN);(try clear aV);(try clear aW);(try clear az);(try clear aw);(try clear ax);obtain⟨ai,ag,rfl,HA,bd,aj,ah,HL217_0,ac,HB⟩:=hrel
     cases gk with
     | zero=>exact absurd HA.out (by simp [ig_.l1])
     | succ k2 =>
      have H:=HA.out;clear HA;simp only [ig_.l1] at H
      by_cases aD:ag<((rd_L1 ab aa).length:Int)
      ·rw [if_pos aD] at H
       have bF:=dT aD;clear aD
       have bI:=zpc H;replace H:=zph H
       have b8:=dT bI;clear bI
       have bJ:=zpc H;replace H:=zph H
       have b9:=dT bJ;clear bJ
       have bK:=zpc H;replace H:=zph H
       have cd:=dT bK;clear bK
       have bL:=zpc H;replace H:=zph H
       have ce:=dT bL;clear bL
       obtain⟨aY,aI⟩ : ∃ y_:List Int,y_=(ai.set ((rd (rd_L1 ab aa) ag):Int).toNat aa):=⟨_,rfl⟩
       replace H:(ig_.l1 k2 aY aa ab (ab.length:Int) aa (rd_L1 ab aa) ((rd_L1 ab aa).length:Int) (wrap64 (ag+1)))=some r:=zH aI H
       have bG:=A0_ aI;clear aI;have H':=A0_ H;clear H
       have aZ:0≤(ag:Int):=zd
       have a4:ag<((rd_L1 ab aa).length:Int):=zd
       obtain⟨cf,bQ,bV⟩:=tI (rR HL217_0.out).2.2 ag aZ a4
       cases bQ
       replace aZ:=eq_true aZ;replace a4:=eq_true a4
       have bo:0≤((rd (rd_L1 ab aa) ag):Int):=zd
       have bp:((rd (rd_L1 ab aa) ag):Int)<((ai.length:Int):Int):=zd
       obtain⟨an,ay,bq,br,gl20,cl20,HG20⟩:=Kd.R_form aj.out (by omega)
       (first|cases bq|(injection bq with ea_ en_ ec_;(first|subst ea_|(injection ea_ with ea_;subst ea_));subst ec_;clear en_))
       have GB20:=A0_ br;have GG20:=A0_ HG20;clear br gl20 HG20
       obtain⟨bW,bX⟩:=Kd.R_celln 0 aj.out ((rd (rd_L1 ab aa) ag):Int) bo bp
       replace bo:=eq_true bo;replace bp:=eq_true bp
       have HP21:=Kd.R_putg aj.out ((rd (rd_L1 ab aa) ag):Int) aa
       go_wp2_with (first|((with_reducible refine gS (t:=3) (p:=30) rfl ?_);refine store_event (t:=3) (p:=30) (v := ?vo_w22) (w1:=(wr.setCell ⟨an,((rd (rd_L1 ab aa) ag):Int).toNat,none⟩ (.int .i64 aa))) ?hg ?ho ?hn ?hr ?_;(case ho=>rfl);(case hg=>rfl);(case hn=>rfl);(case hr=>first|(go_simp;done)|(go_simp;rfl));intro w22 hw;have hg:wr.grownBy w22 (some an):=(by rw [hw];exact HP21.2);have hp_:Kd.R (Kd.int .i64) 3 w22 w.heap.size (fun _=>True) (.slice (some ⟨an,0,none⟩) ai.length ay) aY:=(by rw [hw,bG.out];exact HP21.1);clear HP21;replace ah:=A0_ (Kd.S_after (v:=(.slice (some ⟨an,0,none⟩) ai.length ay)) (v1:=(.slice (some ⟨an,0,none⟩) ai.length ay)) (ok:=(fun _=>True)) (zmS ah (fun _ hk=>⟨trivial,hk⟩)) hg (.inl rfl));replace ac:=A0_ (blk_grown (g:=aG) (o := .cells #[.slice al af.length am,.slice ao ak.length ap] 25 (0,0)) (zK_ ac) hg (Kd.R_ne aj.out ac.out (by decide)));replace aj:=A0_ (hp_);replace HB:=A0_ ((by rw [hw];exact bS (HB.out) GB20.out:Below w.heap.size w w22));have HL2_:=A0_ (Kd.R_after (v:=(.slice (some ⟨an,0,none⟩) ai.length ay)) (v1:=(.slice (some ⟨an,0,none⟩) ai.length ay)) (ok:=(fun _=>True)) (zmR HL217_0 (fun _ hk=>⟨trivial,hk⟩)) hg (.inl rfl));clear HL217_0;have HL217_0:=HL2_;clear HL2_ hg hw hp_))
       go_roundg k2
       case measure=>have:=bb.out;have:=bd.out;omega
       case rel=>exact⟨(aY),(wrap64 (ag+1)),zt,H',⟨by have:=bb.out;have:=bd.out;omega⟩,⟨zR_ aj⟩,⟨zmS ah (fun _ hk=>hk.2)⟩,⟨zmR HL217_0 (fun _ hk=>hk.2)⟩,⟨zK_ ac⟩,⟨zB_ HB⟩⟩
      rw [if_neg aD] at H;have bF:=dF aD;clear aD;have H':=A0_ H;clear H
      go_wp2
      go_roundg k2
      case measure=>have:=bb.out;have:=bd.out;omega
      case rel=>exact⟨(ai),(wrap64 (aa+1)),zt,H',⟨by have:=bb.out;have:=bd.out;omega⟩,⟨zR_ aj⟩,⟨zS_ ah⟩,⟨zK_ ac⟩,⟨zB_ HB⟩⟩
   rw [if_neg av] at H;have bc:=dF av;clear av;obtain rfl:=sI H
   go_wp2
   go_ret
   exact⟨_,by first|rfl|(simp [*] <;> rfl),zR_ aj,zB_ HB⟩
def i1_.l0:Nat→List Int→List Int→Int→Int→List Int→List Int→Option (Bool)
  | 0,_,_,_,_,_,_=>none
  | k+1,x1,ac,ag,aa,af,ab=>if aa<ag then (if 0≤aa then (if aa<(ac.length:Int) then (if (rd ac aa)<0 then (some false) else (if (rd ac aa)≥(wrap64 ((ab.length:Int) / 2)) then (some false) else (if aa>0 then (if 0≤(wrap64 (aa - 1)) then (if (wrap64 (aa - 1))<(x1.length:Int) then (if (rd ac aa)≤(rd x1 (wrap64 (aa - 1))) then (some false) else (i1_.l0 k x1 ac ag (wrap64 (aa+1)) af ab)) else (none)) else (none)) else (i1_.l0 k x1 ac ag (wrap64 (aa+1)) af ab)))) else (none)) else (none)) else (some true)
def i1_.f (k:Nat) (aa:List Int) (ab:List Int) (l1:List Int):Option (Bool):=(i5_.f k aa ab).bind fun ac=>(if ac=true then (i1_.l0 k l1 l1 (l1.length:Int) 0 aa ab) else (some false))
theorem i1_.calls (k:Nat) (an:Option Addr) (ao:Nat) (ai:List Int) (ap:Option Addr) (aq:Nat) (af:List Int) (A1:Option Addr) (c1:Nat) (l1:List Int) (r:Bool) (w:World) (aI:Kd.C (Kd.int .i64) w an ai.length ai) (aJ:ai.length≤ao) (aK:Kd.C (Kd.int .i64) w ap af.length af) (aM:af.length≤aq) (bb:Kd.C (Kd.int .i64) w A1 l1.length l1) (bc:l1.length≤c1) (h:i1_.f k ai af l1=some r) :
    Calls Tryz.prog 119 #[.agg #[.slice an ai.length ao,.slice ap af.length aq],.slice A1 l1.length c1] w fun e w'=>e = .returned (.bool r)∧Below w.heap.size w w':=by
 have bK:=Tryz.underlying25;have aN:=A0_ aI;have aQ:=A0_ aJ;clear aI aJ;have aT:=A0_ aK;have aU:=A0_ aM;clear aK aM;have aw:=A0_ bb;have bM:=A0_ bc;clear bb bc
 have HB:=A0_ (Below.refl w.heap.size w)
 have H:((i5_.f k ai af).bind fun aG=>(if aG=true then (i1_.l0 k l1 l1 (l1.length:Int) 0 ai af) else (some false)))=some r:=h
 clear h;obtain⟨aG,A3,H⟩:=zbind H
 by_cases c4:aG=true
 ·subst c4
  rw [if_pos rfl] at H;have H':=A0_ H;clear H
  go_enter Tryz.func119,Tryz.ntmps119
  go_wp2_with (first|((with_reducible refine gD (N:=2) rfl ?_);refine zX (N:=2) (cs := #[.slice an ai.length ao,.slice ap af.length aq]) (t:=25) ?_;intro aV hg w5 hbox hb;have aa:=A0_ (hbox);have a5:=zG hg HB;have a6:=zG hg HB;replace HB:=zB HB hb;clear hb hbox hg;have aX:=zc0 aa;have aY:=zc1 aa;have aZ:=kF aa.out 0;have a4:=kF aa.out 1)|((with_reducible refine gC (f:=24) rfl ?_);refine zJ (some 8) Tryz.func24 #[.agg #[.slice an ai.length ao,.slice ap af.length aq]] ?_;(with_reducible refine(i5_.calls k (fun k_=>k_<w.heap.size) _ _ ai (fun k_=>k_<w.heap.size) _ _ af true _ ?aC ?aD A3.out).mono ?_);(case aC=>exact Kd.V_mk aQ.out (Kd.F_below (Kd.C_F (Kd.heap_int .i64) aN.out) (zB_ HB)));(case aD=>exact Kd.V_mk aU.out (Kd.F_below (Kd.C_F (Kd.heap_int .i64) aT.out) (zB_ HB)));rintro e w7 ⟨rfl,hb⟩;refine⟨_,rfl,?_⟩;replace aa:=zK aa hb;replace HB:=zB HB hb;(try clear hb)))
  go_loopg [12] k (fun kq v12 w' => ∃ (ab:Int),v12 = .int .i64 ab∧Aside0 (i1_.l0 kq l1 l1 (l1.length:Int) ab ai af=some r)∧Aside0 (kq≤k)∧Aside0 (w'.heap[aV]? = some (.cells #[(.slice an ai.length ao),(.slice ap af.length aq)] 25 (0,0)))∧Aside0 (Below w.heap.size w w'))
  case atStart=>exact⟨(0),zt,H',⟨Nat.le_refl _⟩,⟨zK_ aa⟩,⟨zB_ HB⟩⟩
  case round =>
   clear H';(try clear c1);(try clear c4);(try clear aX);(try clear aY);(try clear aZ);(try clear a4);obtain⟨ab,rfl,HA,aW,aa,HB⟩:=hrel
   cases gk with
   | zero=>exact absurd HA.out (by simp [i1_.l0])
   | succ k1 =>
    have H:=HA.out;clear HA;simp only [i1_.l0] at H
    by_cases c8:ab<(l1.length:Int)
    ·rw [if_pos c8] at H
     have bg:=dT c8;clear c8
     have c9:=zpc H;replace H:=zph H
     have bL:=dT c9;clear c9
     have bd:=zpc H;replace H:=zph H
     have bH:=dT bd;clear bd
     by_cases ax:(rd l1 ab)<0
     ·rw [if_pos ax] at H
      have a7:=dT ax;clear ax;obtain rfl:=sI H
      have ag:0≤(ab:Int):=zd
      have ah:ab<(l1.length:Int):=zd
      obtain⟨am,al,ac⟩:=tI aw.out ab ag ah
      cases al
      try replace ac:=(HB.out.cell (wL w _ ac)).trans ac
      replace ag:=eq_true ag;replace ah:=eq_true ah
      go_wp2
      go_ret
      exact⟨by first|rfl|(simp [*] <;> rfl),zB_ HB⟩
     rw [if_neg ax] at H;have a7:=dF ax;clear ax
     by_cases ay:(rd l1 ab)≥(wrap64 ((af.length:Int) / 2))
     ·rw [if_pos ay] at H
      have a8:decide ((wrap64 ((af.length:Int) / 2))≤(rd l1 ab))=true:=dT ay
      clear ay;obtain rfl:=sI H
      have ag:0≤(ab:Int):=zd
      have ah:ab<(l1.length:Int):=zd
      obtain⟨am,al,ac⟩:=tI aw.out ab ag ah
      cases al
      try replace ac:=(HB.out.cell (wL w _ ac)).trans ac
      replace ag:=eq_true ag;replace ah:=eq_true ah;have bh:=zc0 aa;have bi:=zc1 aa;have bj:=kF aa.out 0;have bk:=kF aa.out 1
      go_wp2
      go_ret
      exact⟨by first|rfl|(simp [*] <;> rfl),zB_ HB⟩
     rw [if_neg ay] at H
     have a8:decide ((wrap64 ((af.length:Int) / 2))≤(rd l1 ab))=false:=dF ay
     clear ay
     by_cases az:ab>0
     ·rw [if_pos az] at H
      have a9:decide (0<ab)=true:=dT az
      clear az
      obtain⟨ak,av⟩ : ∃ j_:Int,(wrap64 (ab - 1))=j_:=⟨_,rfl⟩
      replace H:(if 0≤(ak) then (if (ak)<(l1.length:Int) then (if (rd l1 ab)≤(rd l1 (ak)) then (some false) else (i1_.l0 k1 l1 l1 (l1.length:Int) (wrap64 (ab+1)) ai af)) else (none)) else (none))=some r:=by first|(rw [av] at H;exact H)|(simp only [av] at H ⊢;exact H)
      have hji15w:(IntKind.i64.wrap (ab - 1))=ak:=(i64_w _).trans av
      have be:=zpc H;replace H:=zph H
      have bI:=dT be;clear be
      have bf:=zpc H;replace H:=zph H
      have bJ:=dT bf;clear bf
      by_cases aA:(rd l1 ab)≤(rd l1 (ak))
      ·rw [if_pos aA] at H
       have ba:=dT aA;clear aA;obtain rfl:=sI H
       have ag:0≤(ab:Int):=zd
       have ah:ab<(l1.length:Int):=zd
       obtain⟨am,al,ac⟩:=tI aw.out ab ag ah
       cases al
       try replace ac:=(HB.out.cell (wL w _ ac)).trans ac
       replace ag:=eq_true ag;replace ah:=eq_true ah;have bl:=zc0 aa;have bm:=zc1 aa;have bn:=kF aa.out 0;have bo:=kF aa.out 1
       have ar:0≤((ak):Int):=zd
       have au:(ak)<(l1.length:Int):=zd
       obtain⟨aE,aH,aj⟩:=tI aw.out (ak) ar au
       obtain rfl:am=aE:=(by injection aH)
       try replace aj:=(HB.out.cell (wL w _ aj)).trans aj
       replace ar:=eq_true ar;replace au:=eq_true au
       go_wp2
       go_ret
       exact⟨by first|rfl|(simp [errW_none,errW_some] <;> rfl)|(simp only [← av];first|rfl|(simp [errW_none,errW_some] <;> rfl))|(simp [*,errW_none,errW_some] <;> rfl),zB_ HB⟩
      rw [if_neg aA] at H;have ba:=dF aA;clear aA;have H':=A0_ H;clear H
      have ag:0≤(ab:Int):=zd
      have ah:ab<(l1.length:Int):=zd
      obtain⟨am,al,ac⟩:=tI aw.out ab ag ah
      cases al
      try replace ac:=(HB.out.cell (wL w _ ac)).trans ac
      replace ag:=eq_true ag;replace ah:=eq_true ah;have bp:=zc0 aa;have bq:=zc1 aa;have br:=kF aa.out 0;have bu:=kF aa.out 1
      have ar:0≤((ak):Int):=zd
      have au:(ak)<(l1.length:Int):=zd
      obtain⟨aE,aH,aj⟩:=tI aw.out (ak) ar au
      obtain rfl:am=aE:=(by injection aH)
      try replace aj:=(HB.out.cell (wL w _ aj)).trans aj
      replace ar:=eq_true ar;replace au:=eq_true au
      go_wp2
      go_roundg k1
      case measure=>have:=aW.out;omega
      case rel=>exact⟨(wrap64 (ab+1)),zt,H',⟨by have:=aW.out;omega⟩,⟨zK_ aa⟩,⟨zB_ HB⟩⟩
     rw [if_neg az] at H
     have a9:decide (0<ab)=false:=dF az
     clear az;have H':=A0_ H;clear H
     have ag:0≤(ab:Int):=zd
     have ah:ab<(l1.length:Int):=zd
     obtain⟨am,al,ac⟩:=tI aw.out ab ag ah
     cases al
     try replace ac:=(HB.out.cell (wL w _ ac)).trans ac
     replace ag:=eq_true ag;replace ah:=eq_true ah;have bv:=zc0 aa;have bx:=zc1 aa;have bz:=kF aa.out 0;have bB:=kF aa.out 1
     go_wp2
     go_roundg k1
     case measure=>have:=aW.out;omega
     case rel=>exact⟨(wrap64 (ab+1)),zt,H',⟨by have:=aW.out;omega⟩,⟨zK_ aa⟩,⟨zB_ HB⟩⟩
    rw [if_neg c8] at H;have bg:=dF c8;clear c8;obtain rfl:=sI H
    go_wp2
    go_ret
    exact⟨by first|rfl|(simp [*] <;> rfl),zB_ HB⟩
 replace c4:=Bool.eq_false_iff.mpr c4;subst c4
 rw [if_neg (show ¬ (false=true) by decide)] at H
 obtain rfl:=sI H
 go_enter Tryz.func119,Tryz.ntmps119
 go_wp2_with (first|((with_reducible refine gD (N:=2) rfl ?_);refine zX (N:=2) (cs := #[.slice an ai.length ao,.slice ap af.length aq]) (t:=25) ?_;intro aV hg w22 hbox hb;have aa:=A0_ (hbox);have a5:=zG hg HB;have a6:=zG hg HB;replace HB:=zB HB hb;clear hb hbox hg;have bC:=zc0 aa;have bE:=zc1 aa;have bF:=kF aa.out 0;have bG:=kF aa.out 1)|((with_reducible refine gC (f:=24) rfl ?_);refine zJ (some 8) Tryz.func24 #[.agg #[.slice an ai.length ao,.slice ap af.length aq]] ?_;(with_reducible refine(i5_.calls k (fun k_=>k_<w.heap.size) _ _ ai (fun k_=>k_<w.heap.size) _ _ af false _ ?aC ?aD A3.out).mono ?_);(case aC=>exact Kd.V_mk aQ.out (Kd.F_below (Kd.C_F (Kd.heap_int .i64) aN.out) (zB_ HB)));(case aD=>exact Kd.V_mk aU.out (Kd.F_below (Kd.C_F (Kd.heap_int .i64) aT.out) (zB_ HB)));rintro e w24 ⟨rfl,hb⟩;refine⟨_,rfl,?_⟩;replace aa:=zK aa hb;replace HB:=zB HB hb;(try clear hb)))
 go_ret
 exact⟨by first|rfl|(simp [*] <;> rfl),zB_ HB⟩
def sp_.l0:Nat→List Int→Int→Int→Int→Option (Int)
  | 0,_,_,_,_=>none
  | k+1,x0,x1,x7,x8=>if x8<x7 then (if 0≤x8 then (if x8<(x0.length:Int) then (if x1=(rd x0 x8) then (some x8) else (sp_.l0 k x0 x1 x7 (wrap64 (x8+1)))) else (none)) else (none)) else (some (-1))
def sp_.f (k:Nat) (l0:List Int) (a1:Int):Option (Int):=sp_.l0 k l0 a1 (l0.length:Int) 0
theorem sp_.calls (k:Nat) (A0:Option Addr) (c0:Nat) (l0:List Int) (a1:Int) (r:Int) (w:World) (ai:Kd.C (Kd.int .i64) w A0 l0.length l0) (aj:l0.length≤c0) (h:sp_.f k l0 a1=some r) :
    Calls Tryz.prog 138 #[.slice A0 l0.length c0,.int .i64 a1] w fun e w'=>e = .returned (.int .i64 r)∧Drawn0 w w':=by
 have ak:=A0_ ai;have ar:=A0_ aj;clear ai aj
 have H:(sp_.l0 k l0 a1 (l0.length:Int) 0)=some r:=h
 clear h;have H':=A0_ H;clear H
 go_enter Tryz.func138,Tryz.ntmps138
 go_wp2
 go_loopg [8] k (fun kq v8 w' => ∃ (aa:Int),v8 = .int .i64 aa∧Aside0 (sp_.l0 kq l0 a1 (l0.length:Int) aa=some r)∧Aside0 (kq≤k)∧Drawn0 w w')
 case atStart=>exact⟨(0),zt,H',⟨Nat.le_refl _⟩,by repeat(first|exact Drawn0.refl _|apply Drawn0.step)⟩
 case round =>
  clear H';obtain⟨aa,rfl,HA,al,⟨m1,rfl⟩⟩:=hrel
  cases gk with
  | zero=>exact absurd HA.out (by simp [sp_.l0])
  | succ k1 =>
   have H:=HA.out;clear HA;simp only [sp_.l0] at H
   by_cases c3:aa<(l0.length:Int)
   ·rw [if_pos c3] at H
    have am:=dT c3;clear c3
    have c4:=zpc H;replace H:=zph H
    have ap:=dT c4;clear c4
    have c5:=zpc H;replace H:=zph H
    have aq:=dT c5;clear c5
    by_cases c6:a1=(rd l0 aa)
    ·rw [if_pos c6] at H
     have an:(a1 == (rd l0 aa))=true:=beq_iff_eq.mpr c6
     have ao:(a1 != (rd l0 aa))=false:=bne_eq_false_iff_eq.mpr c6
     clear c6;obtain rfl:=sI H
     have ab:0≤(aa:Int):=zd
     have ac:aa<(l0.length:Int):=zd
     obtain⟨ah,af,ag⟩:=tI ak.out aa ab ac
     cases af
     replace ab:=eq_true ab;replace ac:=eq_true ac
     go_wp2
     go_ret
     exact⟨by first|rfl|(simp;done)|(simp [*];done),by repeat(first|exact Drawn0.refl _|apply Drawn0.step)⟩
    rw [if_neg c6] at H
    have an:(a1 == (rd l0 aa))=false:=beq_eq_false_iff_ne.mpr c6
    have ao:(a1 != (rd l0 aa))=true:=bne_iff_ne.mpr c6
    have H':=A0_ H;clear H
    have ab:0≤(aa:Int):=zd
    have ac:aa<(l0.length:Int):=zd
    obtain⟨ah,af,ag⟩:=tI ak.out aa ab ac
    cases af
    replace ab:=eq_true ab;replace ac:=eq_true ac
    go_wp2
    go_roundg k1
    case measure=>have:=al.out;omega
    case rel=>exact⟨(wrap64 (aa+1)),zt,H',⟨by have:=al.out;omega⟩,by repeat(first|exact Drawn0.refl _|apply Drawn0.step)⟩
   rw [if_neg c3] at H;have am:=dF c3;clear c3;obtain rfl:=sI H
   go_wp2
   go_ret
   exact⟨by first|rfl|(simp;done)|(simp [*];done),by repeat(first|exact Drawn0.refl _|apply Drawn0.step)⟩
def so_.f (k:Nat) (l0:List Int) (a1:Int):Option (Bool):=(sp_.f k l0 a1).bind fun aa=>(some (decide (aa≥0)))
theorem so_.calls (k:Nat) (A0:Option Addr) (c0:Nat) (l0:List Int) (a1:Int) (r:Bool) (w:World) (af:Kd.C (Kd.int .i64) w A0 l0.length l0) (ag:l0.length≤c0) (h:so_.f k l0 a1=some r) :
    Calls Tryz.prog 120 #[.slice A0 l0.length c0,.int .i64 a1] w fun e w'=>e = .returned (.bool r)∧Drawn0 w w':=by
 have ah:=A0_ af;have ai:=A0_ ag;clear af ag
 have H:((sp_.f k l0 a1).bind fun aa=>(some (decide (aa≥0))))=some r:=h
 clear h;obtain⟨aa,A3,H⟩:=zbind H;obtain rfl:=sI H
 go_enter Tryz.func120,Tryz.ntmps120
 go_wp2_with (first|((with_reducible refine gC (f:=138) rfl ?_);refine zJ (some 7) Tryz.func138 #[.slice A0 l0.length c0,.int .i64 a1] ?_;(with_reducible refine(sp_.calls k _ _ l0 a1 aa _ ?ab ?ac A3.out).mono ?_);(case ab=>repeat(first|exact ah.out|(with_reducible refine cA ?_ _)|(with_reducible refine cN ?_ _)|(with_reducible refine cD ?_)));(case ac=>exact ai.out);rintro e w' ⟨rfl,⟨nd,rfl⟩⟩;refine⟨_,rfl,?_⟩))
 go_ret
 exact⟨by first|rfl|(simp;done)|(simp [*];done),by repeat(first|exact Drawn0.refl _|apply Drawn0.step)⟩
def i0_.l0:Nat→List Int→List Int→Int→Int→Option (List Int×Bool)
  | 0,_,_,_,_=>none
  | k+1,x1,x6,ab,aa=>if aa<ab then ((so_.f k x1 aa).bind fun ac=>(if ac=true then (i0_.l0 k x1 x6 ab (wrap64 (aa+1))) else (if x6.length<17592186044416 then (i0_.l0 k x1 (x6 ++ [aa]) ab (wrap64 (aa+1))) else (none)))) else (some (x6,true))
def i0_.f (k:Nat) (ab:List Int) (aa:List Int) (l1:List Int):Option (List Int×Bool):=(i1_.f k ab aa l1).bind fun ac=>(if ac=true then (i0_.l0 k l1 (([]:List Int)) (wrap64 ((aa.length:Int) / 2)) 0) else (some (([]:List Int),false)))
theorem i0_.calls (k:Nat) (aj:Option Addr) (ak:Nat) (af:List Int) (al:Option Addr) (am:Nat) (ab:List Int) (A1:Option Addr) (c1:Nat) (l1:List Int) (r1:List Int) (r2:Bool) (w:World) (aA:Kd.C (Kd.int .i64) w aj af.length af) (aC:af.length≤ak) (aD:Kd.C (Kd.int .i64) w al ab.length ab) (aE:ab.length≤am) (bf:Kd.C (Kd.int .i64) w A1 l1.length l1) (bg:l1.length≤c1) (h:i0_.f k af ab l1=some (r1,r2)) :
    Calls Tryz.prog 91 #[.agg #[.slice aj af.length ak,.slice al ab.length am],.slice A1 l1.length c1] w fun e w' => ∃ v0_:Value,e = .returned (.tuple #[v0_,.bool r2])∧Kd.R (Kd.int .i64) 3 w' w.heap.size (fun _=>True) v0_ r1∧Below w.heap.size w w':=by
 have bo:=Tryz.underlying25;have aG:=A0_ aA;have aH:=A0_ aC;clear aA aC;have aI:=A0_ aD;have aJ:=A0_ aE;clear aD aE;have aK:=A0_ bf;have aM:=A0_ bg;clear bf bg
 have HB:=A0_ (Below.refl w.heap.size w)
 have H:((i1_.f k af ab l1).bind fun az=>(if az=true then (i0_.l0 k l1 (([]:List Int)) (wrap64 ((ab.length:Int) / 2)) 0) else (some (([]:List Int),false))))=some (r1,r2):=h
 clear h;obtain⟨az,A3,H⟩:=zbind H
 by_cases c4:az=true
 ·subst c4
  have H1:(i0_.l0 k l1 (([]:List Int)) (wrap64 ((ab.length:Int) / 2)) 0)=some (r1,r2):=by rw [if_pos rfl] at H;exact H
  clear H;have H:=H1;clear H1
  obtain⟨aY,ap⟩ : ∃ y_:List Int,y_=(([]:List Int)):=⟨_,rfl⟩
  replace H:(i0_.l0 k l1 aY (wrap64 ((ab.length:Int) / 2)) 0)=some (r1,r2):=zH ap H
  have aN:=A0_ ap;clear ap;have H':=A0_ H;clear H
  go_enter Tryz.func91,Tryz.ntmps91
  go_wp2_with (first|((with_reducible refine gD (N:=2) rfl ?_);refine zX (N:=2) (cs := #[.slice aj af.length ak,.slice al ab.length am]) (t:=25) ?_;intro aq hg w5 hbox hb;have aa:=A0_ (hbox);have a8:=zG hg HB;have a9:=zG hg HB;replace HB:=zB HB hb;clear hb hbox hg;have aZ:=zc0 aa;have a4:=zc1 aa;have a5:=kF aa.out 0;have a6:=kF aa.out 1)|((with_reducible refine gC (f:=119) rfl ?_);refine zJ (some 10) Tryz.func119 #[.agg #[.slice aj af.length ak,.slice al ab.length am],.slice A1 l1.length c1] ?_;(with_reducible refine(i1_.calls k _ _ af _ _ ab _ _ l1 true _ ?ag ?ah ?ar ?au ?av ?aw A3.out).mono ?_);(case ag=>exact zC aG HB);(case ah=>exact aH.out);(case ar=>exact zC aI HB);(case au=>exact aJ.out);(case av=>exact zC aK HB);(case aw=>exact aM.out);rintro e w7 ⟨rfl,hb⟩;refine⟨_,rfl,?_⟩;replace aa:=zK aa hb;replace HB:=zB HB hb;(try clear hb))|((with_reducible refine gD (N:=12) rfl ?_);refine Kd.R_lit (Kd.int .i64) _ 3 ?hg (N:=12) ?hd (xs:=([]:List Int)) (inner := []) (ok:=fun _=>True) (okp:=fun _=>True) ?hr ?hp (fun _ hk=>hk) trivial (Below.refl _ _) (Nat.le_refl _) (by simp) ?_;(case hd=>rfl);(case hg=>rfl);(case hr=>first|(go_simp;done)|(go_simp;rfl));(case hp=>exact(Reps.none _ _));intro bp w8 ay hb hg_ hnew_;clear hg_ hnew_;(first|rw [← aN.out] at ay|(simp only [Int.reduceToNat] at ay;rw [← aN.out] at ay));have ba:=A0_ (rL ay (bZ (zB_ HB)));replace aa:=zK aa hb;replace HB:=zB HB hb;clear hb ay;have aU:=zc0 aa;have aV:=zc1 aa;have aW:=kF aa.out 0;have aX:=kF aa.out 1))
  go_loopg [6,17] k (fun kq v6 v17 w' => ∃ (ai:List Int) (ac:Int),v17 = .int .i64 ac∧Aside0 (i0_.l0 kq l1 ai (wrap64 ((ab.length:Int) / 2)) ac=some (r1,r2))∧Aside0 (kq≤k)∧Aside0 (Kd.R (Kd.int .i64) 3 w' w.heap.size (fun _=>True) v6 ai)∧Aside0 (w'.heap[aq]? = some (.cells #[(.slice aj af.length ak),(.slice al ab.length am)] 25 (0,0)))∧Aside0 (Below w.heap.size w w'))
  case atStart=>exact⟨(aY),(0),zt,H',⟨Nat.le_refl _⟩,⟨zR_ ba⟩,⟨zK_ aa⟩,⟨zB_ HB⟩⟩
  case round =>
   clear H';(try clear c1);(try clear c4);(try clear aU);(try clear aV);(try clear aZ);(try clear a4);(try clear aW);(try clear aX);(try clear a5);(try clear a6);obtain⟨ai,ac,rfl,HA,aQ,an,aa,HB⟩:=hrel
   cases gk with
   | zero=>exact absurd HA.out (by simp [i0_.l0])
   | succ k1 =>
    have H:=HA.out;clear HA;simp only [i0_.l0] at H
    by_cases ao:ac<(wrap64 ((ab.length:Int) / 2))
    ·rw [if_pos ao] at H
     have bb:=dT ao;clear ao;obtain⟨bj,bh,H⟩:=zbind H
     by_cases aT:bj=true
     ·subst aT
      have H1:(i0_.l0 k1 l1 ai (wrap64 ((ab.length:Int) / 2)) (wrap64 (ac+1)))=some (r1,r2):=by rw [if_pos rfl] at H;exact H
      clear H;have H:=H1;clear H1;have H':=A0_ H;clear H
      go_wp2_with (first|((with_reducible refine gC (f:=120) rfl ?_);refine zJ (some 22) Tryz.func120 #[.slice A1 l1.length c1,.int .i64 ac] ?_;(with_reducible refine(so_.calls k1 _ _ l1 ac true _ ?ag ?ah bh.out).mono ?_);(case ag=>exact zC aK HB);(case ah=>exact aM.out);rintro e w' ⟨rfl,⟨nd,rfl⟩⟩;refine⟨_,rfl,?_⟩))
      go_roundg k1
      case measure=>have:=aQ.out;omega
      case rel=>exact⟨(ai),(wrap64 (ac+1)),zt,H',⟨by have:=aQ.out;omega⟩,⟨zR_ an⟩,⟨zK_ aa⟩,⟨zB_ HB⟩⟩
     replace aT:=Bool.eq_false_iff.mpr aT;subst aT
     have H1:(if ai.length<17592186044416 then (i0_.l0 k1 l1 (ai ++ [ac]) (wrap64 ((ab.length:Int) / 2)) (wrap64 (ac+1))) else (none))=some (r1,r2):=by rw [if_neg (show ¬ (false=true) by decide)] at H;exact H
     clear H;have H:=H1;clear H1
     have bi:=zpc H;replace H:=zph H
     have bc:=A0_ bi;clear bi
     obtain⟨a7,ax⟩ : ∃ y_:List Int,y_=(ai ++ [ac]):=⟨_,rfl⟩
     replace H:(i0_.l0 k1 l1 a7 (wrap64 ((ab.length:Int) / 2)) (wrap64 (ac+1)))=some (r1,r2):=zH ax H
     have bd:=A0_ ax;clear ax;have H':=A0_ H;clear H
     go_wp2_with (first|((with_reducible refine gC (f:=120) rfl ?_);refine zJ (some 22) Tryz.func120 #[.slice A1 l1.length c1,.int .i64 ac] ?_;(with_reducible refine(so_.calls k1 _ _ l1 ac false _ ?ag ?ah bh.out).mono ?_);(case ag=>exact zC aK HB);(case ah=>exact aM.out);rintro e w' ⟨rfl,⟨nd,rfl⟩⟩;refine⟨_,rfl,?_⟩)|((with_reducible refine gB (b := .append) (xs := #[.tmp 24,.tmp 26]) rfl ?_);at_builtin;refine Kd.R_append (Kd.int .i64) (w0:=w) w.heap.size rfl (.tmp 24) (.tmp 26) 23 3 (.int .i64 0) 8 rfl Tryz.underlying23 info3 rfl (by decide) (by omega) u6 ai ac [.int .i64 ac] (fun _=>True) (fun _=>False) rfl rfl ?aP (fun _ hk=>hk.elim) ?aF ?aO ?aB ?aS ?aL ?_;(case aP=>exact rfl);(case aB=>exact(zB_ HB));(case aF=>exact(fun _ _=>trivial));(case aO=>exact(zR_ an));(case aS=>exact(bZ (zB_ HB)));(case aL=>have:=bc.out;omega);intro bq w15 ho hb hg hat;rw [← bd.out] at ho;replace aa:=A0_ (blk_grown (g:=aq) (o := .cells #[.slice aj af.length ak,.slice al ab.length am] 25 (0,0)) (zK_ aa) hg (Kd.R_ne an.out aa.out (by decide)));replace HB:=A0_ (hb);have be:=A0_ (ho);clear an ho hb hg hat))
     go_roundg k1
     case measure=>have:=aQ.out;omega
     case rel=>exact⟨(a7),(wrap64 (ac+1)),zt,H',⟨by have:=aQ.out;omega⟩,⟨zR_ be⟩,⟨zK_ aa⟩,⟨zB_ HB⟩⟩
    rw [if_neg ao] at H;have bb:=dF ao;clear ao;simp only [Option.some.injEq,Prod.mk.injEq] at H;obtain⟨rfl,rfl⟩:=H
    go_wp2
    go_ret2
    exact⟨_,by first|rfl|(simp [*] <;> rfl),zR_ an,zB_ HB⟩
 replace c4:=Bool.eq_false_iff.mpr c4;subst c4
 have H1:(some (([]:List Int),false))=some (r1,r2):=by rw [if_neg (show ¬ (false=true) by decide)] at H;exact H
 clear H;have H:=H1;clear H1;simp only [Option.some.injEq,Prod.mk.injEq] at H;obtain⟨rfl,rfl⟩:=H
 go_enter Tryz.func91,Tryz.ntmps91
 go_wp2_with (first|((with_reducible refine gD (N:=2) rfl ?_);refine zX (N:=2) (cs := #[.slice aj af.length ak,.slice al ab.length am]) (t:=25) ?_;intro aq hg w16 hbox hb;have aa:=A0_ (hbox);have a8:=zG hg HB;have a9:=zG hg HB;replace HB:=zB HB hb;clear hb hbox hg;have bk:=zc0 aa;have bl:=zc1 aa;have bm:=kF aa.out 0;have bn:=kF aa.out 1)|((with_reducible refine gC (f:=119) rfl ?_);refine zJ (some 10) Tryz.func119 #[.agg #[.slice aj af.length ak,.slice al ab.length am],.slice A1 l1.length c1] ?_;(with_reducible refine(i1_.calls k _ _ af _ _ ab _ _ l1 false _ ?ag ?ah ?ar ?au ?av ?aw A3.out).mono ?_);(case ag=>exact zC aG HB);(case ah=>exact aH.out);(case ar=>exact zC aI HB);(case au=>exact aJ.out);(case av=>exact zC aK HB);(case aw=>exact aM.out);rintro e w18 ⟨rfl,hb⟩;refine⟨_,rfl,?_⟩;replace aa:=zK aa hb;replace HB:=zB HB hb;(try clear hb)))
 go_ret2
 exact⟨_,by first|rfl|(simp [*] <;> rfl),by first|exact Kd.R_nil _ _ _ _ _|exact Kd.N_nil _ _ _ _ _|exact Kd.V_nil _ _ _ _ _|exact Kd.Q_nil _ _ _ _ _|exact Kd.S_nil _ _ _ _ _,zB_ HB⟩
end Go.Proofs.YtjebcgbmlbemcaaGreatDoor.PFnExecuteContract
