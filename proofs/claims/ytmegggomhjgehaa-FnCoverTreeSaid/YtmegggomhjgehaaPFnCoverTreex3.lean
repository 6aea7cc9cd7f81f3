import Derived.Test.YtmegggomhjgehaaPFnCoverTreex2
namespace Go.Proofs.Ytmegggomhjgehaa.PFnCoverTree
open Go.RowKit Go.Proofs.YtmegggomhjgehaaW.PrintWords Go.Proofs.YtmegggomhjgehaaW.PrintLast Go.Proofs.YtmegggomhjgehaaW.PrintMore
set_option maxHeartbeats 8000000
set_option maxRecDepth 100000
attribute [local go_sem] max2_int min2_int max_two min_two max_three min_three max_four min_four
set_option linter.unusedVariables false
set_option linter.unusedSimpArgs false
mutual
def io_.l0:Nat→List Int→List (List Int)→Int→Int→Option (List Int)
  | 0,_,_,_,_=>none
  | k+1,x3,ab,ac,aa=>if aa<ac then (if 0≤aa then (if aa<(ab.length:Int) then (io_.l1 k x3 aa ab ac aa (rd_L1 ab aa) ((rd_L1 ab aa).length:Int) 0) else (none)) else (none)) else (some x3)
def io_.l1:Nat→List Int→Int→List (List Int)→Int→Int→List Int→Int→Int→Option (List Int)
  | 0,_,_,_,_,_,_,_,_=>none
  | k+1,x3,x4,ac,ae,af,ab,ag,aa=>if aa<ag then (if 0≤aa then (if aa<(ab.length:Int) then (if 0≤(rd ab aa) then (if (rd ab aa)<(x3.length:Int) then (io_.l1 k (x3.set ((rd ab aa):Int).toNat x4) x4 ac ae af ab ag (wrap64 (aa+1))) else (none)) else (none)) else (none)) else (none)) else (io_.l0 k x3 ac ae (wrap64 (af+1)))
end
def io_.f (k:Nat) (aa:List Int) (ac:List Int):Option (List Int):=if 0≤(aa.length:Int) then (if ((aa.length:Int):Int).toNat≤35184372088832 then ((if_.f k aa).bind fun ab=>(io_.l0 k (List.replicate ((aa.length:Int):Int).toNat 0) ab (ab.length:Int) 0)) else (none)) else (none)
theorem io_.calls (k:Nat) (ak:Option Addr) (al:Nat) (ae:List Int) (an:Option Addr) (ao:Nat) (aj:List Int) (r:List Int) (w:World) (a3:Kd.C (Kd.int .i64) w ak ae.length ae) (a4:ae.length≤al) (a5:Kd.C (Kd.int .i64) w an aj.length aj) (a6:aj.length≤ao) (h:io_.f k ae aj=some r) :
    Calls Try.prog 59 #[.agg #[.slice ak ae.length al,.slice an aj.length ao]] w fun e w' => ∃ v0_:Value,e = .returned (v0_)∧Kd.R (Kd.int .i64) 3 w' w.heap.size (fun _=>True) v0_ r∧Below w.heap.size w w':=by
 have b7:=Try.underlying25;have bq:=A0_ a3;have br:=A0_ a4;clear a3 a4;have bV:=A0_ a5;have bW:=A0_ a6;clear a5 a6
 have HB:=A0_ (Below.refl w.heap.size w)
 have H:(if 0≤(ae.length:Int) then (if ((ae.length:Int):Int).toNat≤35184372088832 then ((if_.f k ae).bind fun ab=>(io_.l0 k (List.replicate ((ae.length:Int):Int).toNat 0) ab (ab.length:Int) 0)) else (none)) else (none))=some r:=h
 clear h
 have c2:=zpc H;replace H:=zph H
 have bc:=eq_true c2;have bd:=dT c2;clear c2
 have c3:=zpc H;replace H:=zph H
 have be:=eq_true c3;have bf:=dT c3;clear c3
 obtain⟨bg,aD⟩ : ∃ y_:List Int,y_=(List.replicate ((ae.length:Int):Int).toNat 0):=⟨_,rfl⟩
 replace H:((if_.f k ae).bind fun ab=>(io_.l0 k bg ab (ab.length:Int) 0))=some r:=zH aD H
 have a7:=A0_ aD;clear aD;obtain⟨ab,A4,H⟩:=zbind H;have H':=A0_ H;clear H
 go_enter Try.func59,Try.ntmps59
 go_wp2_with (first|((with_reducible refine gD (N:=1) rfl ?_);refine zX (N:=1) (cs := #[.slice ak ae.length al,.slice an aj.length ao]) (t:=25) ?_;intro aE hg w5 hbox hb;have ac:=A0_ (hbox);have bX:=zG hg HB;have bY:=zG hg HB;replace HB:=zB HB hb;clear hb hbox hg;have aI:=zc0 ac;have aJ:=zc1 ac;have aK:=kF ac.out 0;have aM:=kF ac.out 1)|((with_reducible refine gD (N:=11) rfl ?_);refine Kd.R_make (Kd.int .i64) _ 3 rfl (N:=11) rfl 23 _ _ rfl (ae.length:Int) rfl rfl Try.underlying23 (.int .i64 0) 8 info3 rfl (by decide) (by omega) 0 (ok:=fun _=>True) (okp:=fun _=>True) rfl (fun _ hk=>hk) trivial (zd) (Nat.le_trans (Nat.mul_le_mul_right _ (zd:(ae.length:Int).toNat≤35184372088832)) (by omega)) (Below.refl _ _) (Nat.le_refl _) ?_;intro ar w7 aN hb hg_ hnew_;clear hg_ hnew_;(first|rw [← a7.out] at aN|(simp only [Int.reduceToNat] at aN;rw [← a7.out] at aN));have aq:=A0_ (rL aN (bZ (zB_ HB)));replace ac:=zK ac hb;replace HB:=zB HB hb;clear hb aN;have aQ:=zc0 ac;have aT:=zc1 ac;have aU:=kF ac.out 0;have aV:=kF ac.out 1)|((with_reducible refine gC (f:=68) rfl ?_);refine zJ (some 14) Try.func68 #[.slice ak ae.length al] ?_;(with_reducible refine(if_.calls k _ _ ae ab _ ?bu ?bv A4.out).mono ?_);(case bu=>exact zC bq HB);(case bv=>exact br.out);rintro e w10 ⟨b8,rfl,bE,hb⟩;refine⟨_,rfl,?_⟩;have a8:=A0_ (Kd.S_lower (Kd.S_new' bE (rX (zR_ aq))) (bZ (zB_ HB)));replace aq:=zR aq hb;replace ac:=zK ac hb;replace HB:=zB HB hb;(try clear hb);(try clear bE);obtain⟨bJ,bh,bK⟩:=Kd.S_slice a8.out;subst bK))
 go_loopg [16] k (fun kq v16 w' => ∃ (aG:List Int) (aa:Int),v16 = .int .i64 aa∧Aside0 (io_.l0 kq aG ab (ab.length:Int) aa=some r)∧Aside0 (kq≤k)∧Aside0 (Kd.R (Kd.int .i64) 3 w' w.heap.size (fun _=>True) ar aG)∧Aside0 (Kd.S (Kd.slice 3 (Kd.int .i64)) 23 w' w.heap.size (fun k_=>some k_≠(ar:Value).ownBlock) (.slice bJ ab.length bh) ab)∧Aside0 (w'.heap[aE]? = some (.cells #[(.slice ak ae.length al),(.slice an aj.length ao)] 25 (0,0)))∧Aside0 (Below w.heap.size w w'))
 case atStart=>exact⟨(bg),(0),zt,H',⟨Nat.le_refl _⟩,⟨zR_ aq⟩,⟨zmS a8 (fun _ hk=>hk.2)⟩,⟨zK_ ac⟩,⟨zB_ HB⟩⟩
 case round =>
  clear H';(try clear c2);(try clear bc);(try clear bd);(try clear c3);(try clear be);(try clear bf);(try clear aI);(try clear aJ);(try clear aQ);(try clear aT);(try clear aK);(try clear aM);(try clear aU);(try clear aV);obtain⟨aG,aa,rfl,HA,a9,ai,ag,ac,HB⟩:=hrel
  cases gk with
  | zero=>exact absurd HA.out (by simp [io_.l0])
  | succ k1 =>
   have H:=HA.out;clear HA;simp only [io_.l0] at H
   by_cases au:aa<(ab.length:Int)
   ·rw [if_pos au] at H
    have ba:=dT au;clear au
    have bi:=zpc H;replace H:=zph H
    have bw:=dT bi;clear bi
    have bj:=zpc H;replace H:=zph H
    have bx:=dT bj;clear bj;have H':=A0_ H;clear H
    have av:0≤(aa:Int):=zd
    have aw:aa<(ab.length:Int):=zd
    obtain⟨bz,bk,bl,bL,ay,az,aA⟩:=at_L1 (Kd.S_reads' ag.out).2.2 aa av aw
    cases bL
    obtain⟨ce160,hce160,hMe160,aW⟩:=Kd.S_get ag.out [] aa av (by first|exact aw|exact zd|(have e_:=(Kd.S_reads' ag.out).1;omega))
    obtain⟨ve160_0,rfl,ap⟩:=hMe160;have hv160_0:=aW 0 _ rfl
    rw [Nat.add_zero,show((Kd.slice 3 (Kd.int .i64))).sz=1 from rfl,Nat.mul_one] at hv160_0
    replace hv160_0:=sI (hv160_0.symm.trans ay)
    rw [hv160_0] at ap
    have HL160_0:=A0_ (show Kd.R (Kd.int .i64) 3 _ _ _ _ (rd_L1 ab aa) from ap)
    clear hv160_0 ap aW hce160;have bO:=A0_ aA;have bP:=A0_ az;clear aA az;replace av:=eq_true av;replace aw:=eq_true aw
    go_wp2
    go_loopg [23] k1 (fun kq v23 w' => ∃ (ah:List Int) (af:Int),v23 = .int .i64 af∧Aside0 (io_.l1 kq ah aa ab (ab.length:Int) aa (rd_L1 ab aa) ((rd_L1 ab aa).length:Int) af=some r)∧Aside0 (kq≤k1)∧Aside0 (Kd.R (Kd.int .i64) 3 w' w.heap.size (fun _=>True) ar ah)∧Aside0 (Kd.S (Kd.slice 3 (Kd.int .i64)) 23 w' w.heap.size (fun k_=>some k_≠(ar:Value).ownBlock) (.slice (some bz) ab.length bh) ab)∧Aside0 (Kd.R (Kd.int .i64) 3 w' w.heap.size (fun k_=>some k_≠(ar:Value).ownBlock) (.slice bk (rd_L1 ab aa).length bl) (rd_L1 ab aa))∧Aside0 (w'.heap[aE]? = some (.cells #[(.slice ak ae.length al),(.slice an aj.length ao)] 25 (0,0)))∧Aside0 (Below w.heap.size w w'))
    case atStart=>exact⟨(aG),(0),zt,H',⟨Nat.le_refl _⟩,⟨zR_ ai⟩,⟨zS_ ag⟩,⟨zmR HL160_0 (fun _ hk=>hk.1)⟩,⟨zK_ ac⟩,⟨zB_ HB⟩⟩
    case round =>
     clear H';(try clear c2);(try clear bc);(try clear bd);(try clear c3);(try clear be);(try clear bf);(try clear au);(try clear ba);(try clear bi);(try clear bw);(try clear bj);(try clear bx);(try clear aI);(try clear aJ);(try clear aQ);(try clear aT);(try clear aK);(try clear aM);(try clear aU);(try clear aV);(try clear ay);(try clear av);(try clear aw);obtain⟨ah,af,rfl,HA,bb,ai,ag,HL160_0,ac,HB⟩:=hrel
     cases gk with
     | zero=>exact absurd HA.out (by simp [io_.l1])
     | succ k2 =>
      have H:=HA.out;clear HA;simp only [io_.l1] at H
      by_cases aC:af<((rd_L1 ab aa).length:Int)
      ·rw [if_pos aC] at H
       have bB:=dT aC;clear aC
       have bF:=zpc H;replace H:=zph H
       have b2:=dT bF;clear bF
       have bG:=zpc H;replace H:=zph H
       have b3:=dT bG;clear bG
       have bH:=zpc H;replace H:=zph H
       have b4:=dT bH;clear bH
       have bI:=zpc H;replace H:=zph H
       have b5:=dT bI;clear bI
       obtain⟨aX,aH⟩ : ∃ y_:List Int,y_=(ah.set ((rd (rd_L1 ab aa) af):Int).toNat aa):=⟨_,rfl⟩
       replace H:(io_.l1 k2 aX aa ab (ab.length:Int) aa (rd_L1 ab aa) ((rd_L1 ab aa).length:Int) (wrap64 (af+1)))=some r:=zH aH H
       have bC:=A0_ aH;clear aH;have H':=A0_ H;clear H
       have aY:0≤(af:Int):=zd
       have aZ:af<((rd_L1 ab aa).length:Int):=zd
       obtain⟨b6,bM,bQ⟩:=tI (rR HL160_0.out).2.2 af aY aZ
       cases bM
       replace aY:=eq_true aY;replace aZ:=eq_true aZ
       have bm:0≤((rd (rd_L1 ab aa) af):Int):=zd
       have bn:((rd (rd_L1 ab aa) af):Int)<((ah.length:Int):Int):=zd
       obtain⟨am,ax,bo,bp,gl20,cl20,HG20⟩:=Kd.R_form ai.out (by omega)
       (first|cases bo|(injection bo with ea_ en_ ec_;(first|subst ea_|(injection ea_ with ea_;subst ea_));subst ec_;clear en_))
       have GB20:=A0_ bp;have GG20:=A0_ HG20;clear bp gl20 HG20
       obtain⟨bR,bU⟩:=Kd.R_celln 0 ai.out ((rd (rd_L1 ab aa) af):Int) bm bn
       replace bm:=eq_true bm;replace bn:=eq_true bn
       have HP21:=Kd.R_putg ai.out ((rd (rd_L1 ab aa) af):Int) aa
       go_wp2_with (first|((with_reducible refine gS (t:=3) (p:=30) rfl ?_);refine store_event (t:=3) (p:=30) (v := ?vo_w22) (w1:=(wr.setCell ⟨am,((rd (rd_L1 ab aa) af):Int).toNat,none⟩ (.int .i64 aa))) ?hg ?ho ?hn ?hr ?_;(case ho=>rfl);(case hg=>rfl);(case hn=>rfl);(case hr=>first|(go_simp;done)|(go_simp;rfl));intro w22 hw;have hg:wr.grownBy w22 (some am):=(by rw [hw];exact HP21.2);have hp_:Kd.R (Kd.int .i64) 3 w22 w.heap.size (fun _=>True) (.slice (some ⟨am,0,none⟩) ah.length ax) aX:=(by rw [hw,bC.out];exact HP21.1);clear HP21;replace ag:=A0_ (Kd.S_after (v:=(.slice (some ⟨am,0,none⟩) ah.length ax)) (v1:=(.slice (some ⟨am,0,none⟩) ah.length ax)) (ok:=(fun _=>True)) (zmS ag (fun _ hk=>⟨trivial,hk⟩)) hg (.inl rfl));replace ac:=A0_ (blk_grown (g:=aE) (o := .cells #[.slice ak ae.length al,.slice an aj.length ao] 25 (0,0)) (zK_ ac) hg (Kd.R_ne ai.out ac.out (by decide)));replace ai:=A0_ (hp_);replace HB:=A0_ ((by rw [hw];exact bS (HB.out) GB20.out:Below w.heap.size w w22));have HL2_:=A0_ (Kd.R_after (v:=(.slice (some ⟨am,0,none⟩) ah.length ax)) (v1:=(.slice (some ⟨am,0,none⟩) ah.length ax)) (ok:=(fun _=>True)) (zmR HL160_0 (fun _ hk=>⟨trivial,hk⟩)) hg (.inl rfl));clear HL160_0;have HL160_0:=HL2_;clear HL2_ hg hw hp_))
       go_roundg k2
       case measure=>have:=a9.out;have:=bb.out;omega
       case rel=>exact⟨(aX),(wrap64 (af+1)),zt,H',⟨by have:=a9.out;have:=bb.out;omega⟩,⟨zR_ ai⟩,⟨zmS ag (fun _ hk=>hk.2)⟩,⟨zmR HL160_0 (fun _ hk=>hk.2)⟩,⟨zK_ ac⟩,⟨zB_ HB⟩⟩
      rw [if_neg aC] at H;have bB:=dF aC;clear aC;have H':=A0_ H;clear H
      go_wp2
      go_roundg k2
      case measure=>have:=a9.out;have:=bb.out;omega
      case rel=>exact⟨(ah),(wrap64 (aa+1)),zt,H',⟨by have:=a9.out;have:=bb.out;omega⟩,⟨zR_ ai⟩,⟨zS_ ag⟩,⟨zK_ ac⟩,⟨zB_ HB⟩⟩
   rw [if_neg au] at H;have ba:=dF au;clear au;obtain rfl:=sI H
   go_wp2
   go_ret
   exact⟨_,by first|rfl|(simp [*] <;> rfl),zR_ ai,zB_ HB⟩
def ia_.l0:Nat→List Int→List Int→Int→Int→Option (List Int)
  | 0,_,_,_,_=>none
  | k+1,x3,x9,ab,aa=>if aa<ab then (if 0≤aa then (if aa<(x9.length:Int) then (if 0≤(rd x9 aa) then (if (rd x9 aa)<(x3.length:Int) then (ia_.l0 k (x3.set ((rd x9 aa):Int).toNat aa) x9 ab (wrap64 (aa+1))) else (none)) else (none)) else (none)) else (none)) else (some x3)
def ia_.f (k:Nat) (l0:List Int):Option (List Int):=if 0≤(l0.length:Int) then (if ((l0.length:Int):Int).toNat≤35184372088832 then (ia_.l0 k (List.replicate ((l0.length:Int):Int).toNat 0) l0 (l0.length:Int) 0) else (none)) else (none)
theorem ia_.calls (k:Nat) (A0:Option Addr) (c0:Nat) (l0:List Int) (r:List Int) (w:World) (aw:Kd.C (Kd.int .i64) w A0 l0.length l0) (ax:l0.length≤c0) (h:ia_.f k l0=some r) :
    Calls Try.prog 60 #[.slice A0 l0.length c0] w fun e w' => ∃ v0_:Value,e = .returned (v0_)∧Kd.R (Kd.int .i64) 3 w' w.heap.size (fun _=>True) v0_ r∧Below w.heap.size w w':=by
 have aK:=A0_ aw;have aX:=A0_ ax;clear aw ax
 have HB:=A0_ (Below.refl w.heap.size w)
 have H:(if 0≤(l0.length:Int) then (if ((l0.length:Int):Int).toNat≤35184372088832 then (ia_.l0 k (List.replicate ((l0.length:Int):Int).toNat 0) l0 (l0.length:Int) 0) else (none)) else (none))=some r:=h
 clear h
 have c2:=zpc H;replace H:=zph H
 have aA:=eq_true c2;have aC:=dT c2;clear c2
 have c3:=zpc H;replace H:=zph H
 have aD:=eq_true c3;have aE:=dT c3;clear c3
 obtain⟨an,af⟩ : ∃ y_:List Int,y_=(List.replicate ((l0.length:Int):Int).toNat 0):=⟨_,rfl⟩
 replace H:(ia_.l0 k an l0 (l0.length:Int) 0)=some r:=zH af H
 have am:=A0_ af;clear af;have H':=A0_ H;clear H
 go_enter Try.func60,Try.ntmps60
 go_wp2_with (first|((with_reducible refine gD (N:=8) rfl ?_);refine Kd.R_make (Kd.int .i64) _ 3 rfl (N:=8) rfl 23 _ _ rfl (l0.length:Int) rfl rfl Try.underlying23 (.int .i64 0) 8 info3 rfl (by decide) (by omega) 0 (ok:=fun _=>True) (okp:=fun _=>True) rfl (fun _ hk=>hk) trivial (zd) (Nat.le_trans (Nat.mul_le_mul_right _ (zd:(l0.length:Int).toNat≤35184372088832)) (by omega)) (Below.refl _ _) (Nat.le_refl _) ?_;intro aG w4 ah hb hg_ hnew_;clear hg_ hnew_;(first|rw [← am.out] at ah|(simp only [Int.reduceToNat] at ah;rw [← am.out] at ah));have au:=A0_ (rL ah (bZ (zB_ HB)));replace HB:=zB HB hb;clear hb ah))
 go_loopg [11] k (fun kq v11 w' => ∃ (ab:List Int) (aa:Int),v11 = .int .i64 aa∧Aside0 (ia_.l0 kq ab l0 (l0.length:Int) aa=some r)∧Aside0 (kq≤k)∧Aside0 (Kd.R (Kd.int .i64) 3 w' w.heap.size (fun _=>True) aG ab)∧Aside0 (Below w.heap.size w w'))
 case atStart=>exact⟨(an),(0),zt,H',⟨Nat.le_refl _⟩,⟨zR_ au⟩,⟨zB_ HB⟩⟩
 case round =>
  clear H';(try clear c2);(try clear aA);(try clear aC);(try clear c3);(try clear aD);(try clear aE);obtain⟨ab,aa,rfl,HA,ay,ac,HB⟩:=hrel
  cases gk with
  | zero=>exact absurd HA.out (by simp [ia_.l0])
  | succ k1 =>
   have H:=HA.out;clear HA;simp only [ia_.l0] at H
   by_cases c6:aa<(l0.length:Int)
   ·rw [if_pos c6] at H
    have aH:=dT c6;clear c6
    have c7:=zpc H;replace H:=zph H
    have aU:=dT c7;clear c7
    have c8:=zpc H;replace H:=zph H
    have aV:=dT c8;clear c8
    have c9:=zpc H;replace H:=zph H
    have aW:=dT c9;clear c9
    have az:=zpc H;replace H:=zph H
    have aQ:=dT az;clear az
    obtain⟨ai,ag⟩ : ∃ y_:List Int,y_=(ab.set ((rd l0 aa):Int).toNat aa):=⟨_,rfl⟩
    replace H:(ia_.l0 k1 ai l0 (l0.length:Int) (wrap64 (aa+1)))=some r:=zH ag H
    have av:=A0_ ag;clear ag;have H':=A0_ H;clear H
    have aj:0≤(aa:Int):=zd
    have ak:aa<(l0.length:Int):=zd
    obtain⟨aT,aI,ae⟩:=tI aK.out aa aj ak
    cases aI
    try replace ae:=(HB.out.cell (wL w _ ae)).trans ae
    replace aj:=eq_true aj;replace ak:=eq_true ak
    have ao:0≤((rd l0 aa):Int):=zd
    have ap:((rd l0 aa):Int)<((ab.length:Int):Int):=zd
    obtain⟨al,aJ,aq,ar,gl11,cl11,HG11⟩:=Kd.R_form ac.out (by omega)
    (first|cases aq|(injection aq with ea_ en_ ec_;(first|subst ea_|(injection ea_ with ea_;subst ea_));subst ec_;clear en_))
    have GB11:=A0_ ar;have GG11:=A0_ HG11;clear ar gl11 HG11
    obtain⟨aM,aN⟩:=Kd.R_celln 0 ac.out ((rd l0 aa):Int) ao ap
    replace ao:=eq_true ao;replace ap:=eq_true ap
    have HP12:=Kd.R_putg ac.out ((rd l0 aa):Int) aa
    go_wp2_with (first|((with_reducible refine gS (t:=3) (p:=19) rfl ?_);refine store_event (t:=3) (p:=19) (v := ?vo_w13) (w1:=(wr.setCell ⟨al,((rd l0 aa):Int).toNat,none⟩ (.int .i64 aa))) ?hg ?ho ?hn ?hr ?_;(case ho=>rfl);(case hg=>rfl);(case hn=>rfl);(case hr=>first|(go_simp;done)|(go_simp;rfl));intro w13 hw;have hg:wr.grownBy w13 (some al):=(by rw [hw];exact HP12.2);have hp_:Kd.R (Kd.int .i64) 3 w13 w.heap.size (fun _=>True) (.slice (some ⟨al,0,none⟩) ab.length aJ) ai:=(by rw [hw,av.out];exact HP12.1);clear HP12;replace ac:=A0_ (hp_);replace HB:=A0_ ((by rw [hw];exact bS (HB.out) GB11.out:Below w.heap.size w w13));clear hg hw hp_))
    go_roundg k1
    case measure=>have:=ay.out;omega
    case rel=>exact⟨(ai),(wrap64 (aa+1)),zt,H',⟨by have:=ay.out;omega⟩,⟨zR_ ac⟩,⟨zB_ HB⟩⟩
   rw [if_neg c6] at H;have aH:=dF c6;clear c6;obtain rfl:=sI H
   go_wp2
   go_ret
   exact⟨_,by first|rfl|(simp [*] <;> rfl),zR_ ac,zB_ HB⟩
end Go.Proofs.Ytmegggomhjgehaa.PFnCoverTree
