import Derived.Test.YtjebcgbmlbemcaaGreatDoorPFnExecuteContractx1
namespace Go.Proofs.YtjebcgbmlbemcaaGreatDoor.PFnExecuteContract
open Go.RowKit Go.Proofs.YtjebcgbmlbemcaaGreatDoorW.PrintWords Go.Proofs.YtjebcgbmlbemcaaGreatDoorW.PrintLast Go.Proofs.YtjebcgbmlbemcaaGreatDoorW.PrintMore
set_option maxHeartbeats 8000000
set_option maxRecDepth 100000
attribute [local go_sem] max2_int min2_int max_two min_two max_three min_three max_four min_four
set_option linter.unusedVariables false
set_option linter.unusedSimpArgs false
mutual
def id_.l0:Nat→List (List Int)→List Int→Bool→Option (List Int)
  | 0,_,_,_=>none
  | k+1,x0,x3,x4=>if x4=true then (id_.l1 k x0 x3 false x0 (x0.length:Int) 0) else (some x3)
def id_.l1:Nat→List (List Int)→List Int→Bool→List (List Int)→Int→Int→Option (List Int)
  | 0,_,_,_,_,_,_=>none
  | k+1,x0,x3,x4,ab,ac,aa=>if aa<ac then (if 0≤aa then (if aa<(ab.length:Int) then (id_.l2 k x0 x3 x4 ab ac aa (rd_L1 ab aa) ((rd_L1 ab aa).length:Int) 0) else (none)) else (none)) else (id_.l0 k x0 x3 x4)
def id_.l2:Nat→List (List Int)→List Int→Bool→List (List Int)→Int→Int→List Int→Int→Int→Option (List Int)
  | 0,_,_,_,_,_,_,_,_,_=>none
  | k+1,x0,x3,x4,ac,af,ag,ab,ah,aa=>if aa<ah then (if 0≤aa then (if aa<(ab.length:Int) then (if aa<(x3.length:Int) then (if 0≤(rd ab aa) then (if (rd ab aa)<(x3.length:Int) then (if (rd x3 aa)=(mn (rd x3 aa) (rd x3 (rd ab aa))) then (if (rd x3 (rd ab aa))=(mn (rd x3 aa) (rd x3 (rd ab aa))) then (id_.l2 k x0 x3 x4 ac af ag ab ah (wrap64 (aa+1))) else (id_.l2 k x0 ((x3.set (aa:Int).toNat (mn (rd x3 aa) (rd x3 (rd ab aa)))).set ((rd ab aa):Int).toNat (mn (rd x3 aa) (rd x3 (rd ab aa)))) true ac af ag ab ah (wrap64 (aa+1)))) else (id_.l2 k x0 ((x3.set (aa:Int).toNat (mn (rd x3 aa) (rd x3 (rd ab aa)))).set ((rd ab aa):Int).toNat (mn (rd x3 aa) (rd x3 (rd ab aa)))) true ac af ag ab ah (wrap64 (aa+1)))) else (none)) else (none)) else (none)) else (none)) else (none)) else (id_.l1 k x0 x3 x4 ac af (wrap64 (ag+1)))
end
def id_.f (k:Nat) (l0:List (List Int)):Option (List Int):=if 0<(l0.length:Int) then ((if_.f k ((rd_L1 l0 0).length:Int)).bind fun aa=>(id_.l0 k l0 aa true)) else (none)
theorem id_.calls (k:Nat) (A0:Option Addr) (c0:Nat) (l0:List (List Int)) (r:List Int) (w:World) (ck:Kd.C (Kd.slice 3 (Kd.int .i64)) w A0 l0.length l0) (cl:l0.length≤c0) (h:id_.f k l0=some r) :
    Calls Tryz.prog 60 #[.slice A0 l0.length c0] w fun e w' => ∃ v0_:Value,e = .returned (v0_)∧Kd.R (Kd.int .i64) 3 w' w.heap.size (fun _=>True) v0_ r∧Below w.heap.size w w':=by
 have cm:=A0_ ck;have cY:=A0_ cl;clear ck cl
 have HB:=A0_ (Below.refl w.heap.size w)
 have H:(if 0<(l0.length:Int) then ((if_.f k ((rd_L1 l0 0).length:Int)).bind fun a4=>(id_.l0 k l0 a4 true)) else (none))=some r:=h
 clear h
 have c2:=zpc H;replace H:=zph H
 have bW:=dT c2
 have bX:decide (0<l0.length)=true:=dT (by omega)
 clear c2;obtain⟨a4,A3,H⟩:=zbind H;have H':=A0_ H;clear H
 have a5:0≤(0:Int):=(by omega)
 have a6:0<(l0.length:Int):=zd
 obtain⟨ce,cI,cJ,cu,aw,bq,br⟩:=at_L1 cm.out 0 a5 a6
 cases cu
 have qi111:(0<l0.length)=True:=eq_true (by omega)
 (try rw [show((0:Int)).toNat=0 from rfl] at aw)
 (try rw [Addr.add_zero'] at aw)
 have cF:=A0_ br;have cG:=A0_ bq;clear br bq;replace a5:=eq_true a5;replace a6:=eq_true a6
 go_enter Tryz.func60,Tryz.ntmps60
 go_wp2_with (first|(go_at_call 83;(with_reducible refine(if_.calls k ((rd_L1 l0 0).length:Int) a4 _ A3.out).mono ?_);rintro e w4 ⟨bd,rfl,bb,hb⟩;have bz:=A0_ (rL bb (bZ (zB_ HB)));replace HB:=zB HB hb;(try clear hb);(try clear bb)))
 repeat(go_quiet (first|(go_at_call 83;(with_reducible refine(if_.calls k ((rd_L1 l0 0).length:Int) a4 _ A3.out).mono ?_);rintro e w4 ⟨bd,rfl,bb,hb⟩;have bz:=A0_ (rL bb (bZ (zB_ HB)));replace HB:=zB HB hb;(try clear hb);(try clear bb)));try go_wp2_with (first|(go_at_call 83;(with_reducible refine(if_.calls k ((rd_L1 l0 0).length:Int) a4 _ A3.out).mono ?_);rintro e w4 ⟨bd,rfl,bb,hb⟩;have n0_:=A0_ (rL bb (bZ (zB_ HB)));have n1_:=zB HB hb;clear HB;have bz:=n0_;have HB:=n1_;clear n0_ n1_;(try clear hb);(try clear bb))))
 go_loopg [4] k (fun kq v4 w' => ∃ (bB:List Int) (bC:Bool),v4 = .bool bC∧Aside0 (id_.l0 kq l0 bB bC=some r)∧Aside0 (kq≤k)∧Aside0 (Kd.R (Kd.int .i64) 3 w' w.heap.size (fun _=>True) bd bB)∧Aside0 (Below w.heap.size w w'))
 case atStart=>exact⟨(a4),(true),zt,H',⟨Nat.le_refl _⟩,⟨zR_ bz⟩,⟨zB_ HB⟩⟩
 case round =>
  clear H';(try clear c2);(try clear bW);(try clear bX);(try clear aw);(try clear a5);(try clear a6);obtain⟨bB,bC,rfl,HA,aM,ac,HB⟩:=hrel
  cases gk with
  | zero=>exact absurd HA.out (by simp [id_.l0])
  | succ k1 =>
   have H:=HA.out;clear HA;simp only [id_.l0] at H
   by_cases c5:bC=true
   ·subst c5
    rw [if_pos rfl] at H;have H':=A0_ H;clear H
    go_wp2
    repeat(go_quiet (fail);try go_wp2)
    go_loopg [4,18] k1 (fun kq v4 v18 w' => ∃ (be:List Int) (bf:Bool) (ab:Int),v4 = .bool bf∧v18 = .int .i64 ab∧Aside0 (id_.l1 kq l0 be bf l0 (l0.length:Int) ab=some r)∧Aside0 (kq≤k1)∧Aside0 (Kd.R (Kd.int .i64) 3 w' w.heap.size (fun _=>True) bd be)∧Aside0 (Below w.heap.size w w'))
    case atStart=>exact⟨(bB),(false),(0),zt,zt,H',⟨Nat.le_refl _⟩,⟨zR_ ac⟩,⟨zB_ HB⟩⟩
    case round =>
     clear H';(try clear c2);(try clear bW);(try clear bX);(try clear c5);(try clear aw);(try clear a5);(try clear a6);obtain⟨be,bf,ab,rfl,rfl,HA,aN,ac,HB⟩:=hrel
     cases gk with
     | zero=>exact absurd HA.out (by simp [id_.l1])
     | succ k2 =>
      have H:=HA.out;clear HA;simp only [id_.l1] at H
      by_cases c6:ab<(l0.length:Int)
      ·rw [if_pos c6] at H
       have b6:=dT c6;clear c6
       have c7:=zpc H;replace H:=zph H
       have cv:=dT c7;clear c7
       have c8:=zpc H;replace H:=zph H
       have cw:=dT c8;clear c8;have H':=A0_ H;clear H
       have bE:0≤(ab:Int):=zd
       have bF:ab<(l0.length:Int):=zd
       obtain⟨cf,cK,cL,cx,aH,bu,bv⟩:=at_L1 cm.out ab bE bF
       obtain rfl:ce=cf:=(by injection cx)
       try replace aH:=(HB.out.cell (wL w _ aH)).trans aH
       have a7:=A0_ bv;have cH:=A0_ bu;clear bv bu;replace bE:=eq_true bE;replace bF:=eq_true bF
       go_wp2
       repeat(go_quiet (fail);try go_wp2)
       go_loopg [4,24] k2 (fun kq v4 v24 w' => ∃ (af:List Int) (a8:Bool) (aa:Int),v4 = .bool a8∧v24 = .int .i64 aa∧Aside0 (id_.l2 kq l0 af a8 l0 (l0.length:Int) ab (rd_L1 l0 ab) ((rd_L1 l0 ab).length:Int) aa=some r)∧Aside0 (kq≤k2)∧Aside0 (Kd.R (Kd.int .i64) 3 w' w.heap.size (fun _=>True) bd af)∧Aside0 (Below w.heap.size w w'))
       case atStart=>exact⟨(be),(bf),(0),zt,zt,H',⟨Nat.le_refl _⟩,⟨zR_ ac⟩,⟨zB_ HB⟩⟩
       case round =>
        clear H';(try clear c2);(try clear bW);(try clear bX);(try clear c5);(try clear c6);(try clear b6);(try clear c7);(try clear cv);(try clear c8);(try clear cw);(try clear aw);(try clear aH);(try clear a5);(try clear bE);(try clear a6);(try clear bF);obtain⟨af,a8,aa,rfl,rfl,HA,bc,ac,HB⟩:=hrel
        cases gk with
        | zero=>exact absurd HA.out (by simp [id_.l2])
        | succ k3 =>
         have H:=HA.out;clear HA;simp only [id_.l2] at H
         by_cases c9:aa<((rd_L1 l0 ab).length:Int)
         ·rw [if_pos c9] at H
          have cy:=dT c9;clear c9
          have cn:=zpc H;replace H:=zph H
          have cM:=dT cn;clear cn
          have cp:=zpc H;replace H:=zph H
          have cO:=dT cp;clear cp
          have cq:=zpc H;replace H:=zph H
          have cP:=dT cq;clear cq
          have cr:=zpc H;replace H:=zph H
          have cQ:=dT cr;clear cr
          have ct:=zpc H;replace H:=zph H
          have cR:=dT ct;clear ct
          obtain⟨ag,ai⟩ : ∃ j_:Int,(mn (rd af aa) (rd af (rd (rd_L1 l0 ab) aa)))=j_:=⟨_,rfl⟩
          replace H:(if (rd af aa)=(ag) then (if (rd af (rd (rd_L1 l0 ab) aa))=(ag) then (id_.l2 k3 l0 af a8 l0 (l0.length:Int) ab (rd_L1 l0 ab) ((rd_L1 l0 ab).length:Int) (wrap64 (aa+1))) else (id_.l2 k3 l0 ((af.set (aa:Int).toNat (ag)).set ((rd (rd_L1 l0 ab) aa):Int).toNat (ag)) true l0 (l0.length:Int) ab (rd_L1 l0 ab) ((rd_L1 l0 ab).length:Int) (wrap64 (aa+1)))) else (id_.l2 k3 l0 ((af.set (aa:Int).toNat (ag)).set ((rd (rd_L1 l0 ab) aa):Int).toNat (ag)) true l0 (l0.length:Int) ab (rd_L1 l0 ab) ((rd_L1 l0 ab).length:Int) (wrap64 (aa+1))))=some r:=by first|(rw [ai] at H;exact H)|(simp only [ai] at H ⊢;exact H)
          have hji15_:(if (rd af (rd (rd_L1 l0 ab) aa))<(rd af aa) then (rd af (rd (rd_L1 l0 ab) aa)) else (rd af aa))=ag:=ai
          by_cases bg:(rd af aa)=(ag)
          ·rw [if_pos bg] at H
           have cg:((rd af aa) == (ag))=true:=beq_iff_eq.mpr bg
           have ch:((rd af aa) != (ag))=false:=bne_eq_false_iff_eq.mpr bg
           clear bg
           by_cases bh:(rd af (rd (rd_L1 l0 ab) aa))=(ag)
           ·rw [if_pos bh] at H
            have ci:((rd af (rd (rd_L1 l0 ab) aa)) == (ag))=true:=beq_iff_eq.mpr bh
            have cj:((rd af (rd (rd_L1 l0 ab) aa)) != (ag))=false:=bne_eq_false_iff_eq.mpr bh
            clear bh;have H':=A0_ H;clear H
            have am:0≤(aa:Int):=zd
            have an:aa<((rd_L1 l0 ab).length:Int):=zd
            obtain⟨b5,bi,ah⟩:=tI a7.out aa am an
            cases bi
            try replace ah:=(HB.out.cell (wL w _ ah)).trans ah
            replace am:=eq_true am;replace an:=eq_true an;obtain⟨cS,cT,cz⟩:=rS ac.out;subst cz
            have ao:0≤(aa:Int):=zd
            have ap:aa<(af.length:Int):=zd
            obtain⟨al,bj,aI⟩:=tI (rR ac.out).2.2 aa ao ap
            cases bj
            replace ao:=eq_true ao;replace ap:=eq_true ap
            have aq:0≤((rd (rd_L1 l0 ab) aa):Int):=zd
            have ar:(rd (rd_L1 l0 ab) aa)<(af.length:Int):=zd
            obtain⟨aU,bk,aJ⟩:=tI (rR ac.out).2.2 (rd (rd_L1 l0 ab) aa) aq ar
            obtain rfl:al=aU:=(by injection bk)
            replace aq:=eq_true aq;replace ar:=eq_true ar
            have au:0≤(aa:Int):=zd
            have av:aa<(af.length:Int):=zd
            obtain⟨aV,bl,aK⟩:=tI (rR ac.out).2.2 aa au av
            obtain rfl:al=aV:=(by injection bl)
            replace au:=eq_true au;replace av:=eq_true av
            have aQ:0≤((rd (rd_L1 l0 ab) aa):Int):=zd
            have aT:(rd (rd_L1 l0 ab) aa)<(af.length:Int):=zd
            obtain⟨bG,bY,bx⟩:=tI (rR ac.out).2.2 (rd (rd_L1 l0 ab) aa) aQ aT
            obtain rfl:al=bG:=(by injection bY)
            replace aQ:=eq_true aQ;replace aT:=eq_true aT
            go_wp2
            repeat(go_quiet (fail);try go_wp2)
            go_roundg k3
            case measure=>have:=aM.out;have:=aN.out;have:=bc.out;omega
            case rel=>exact⟨(af),(a8),(wrap64 (aa+1)),zt,zt,H',⟨by have:=aM.out;have:=aN.out;have:=bc.out;omega⟩,⟨zR_ ac⟩,⟨zB_ HB⟩⟩
           rw [if_neg bh] at H
           have ci:((rd af (rd (rd_L1 l0 ab) aa)) == (ag))=false:=beq_eq_false_iff_ne.mpr bh
           have cj:((rd af (rd (rd_L1 l0 ab) aa)) != (ag))=true:=bne_iff_ne.mpr bh
           obtain⟨bm,bH⟩ : ∃ y_:List Int,y_=(af.set (aa:Int).toNat (ag)):=⟨_,rfl⟩
           replace H:(id_.l2 k3 l0 (bm.set ((rd (rd_L1 l0 ab) aa):Int).toNat (ag)) true l0 (l0.length:Int) ab (rd_L1 l0 ab) ((rd_L1 l0 ab).length:Int) (wrap64 (aa+1)))=some r:=zH bH H
           have bI:=A0_ bH;clear bH
           obtain⟨bn,bJ⟩ : ∃ y_:List Int,y_=(bm.set ((rd (rd_L1 l0 ab) aa):Int).toNat (ag)):=⟨_,rfl⟩
           replace H:(id_.l2 k3 l0 bn true l0 (l0.length:Int) ab (rd_L1 l0 ab) ((rd_L1 l0 ab).length:Int) (wrap64 (aa+1)))=some r:=zH bJ H
           have bK:=A0_ bJ;clear bJ;have H':=A0_ H;clear H
           have am:0≤(aa:Int):=zd
           have an:aa<((rd_L1 l0 ab).length:Int):=zd
           obtain⟨b5,bi,ah⟩:=tI a7.out aa am an
           cases bi
           try replace ah:=(HB.out.cell (wL w _ ah)).trans ah
           replace am:=eq_true am;replace an:=eq_true an;obtain⟨cU,a9,cC⟩:=rS ac.out;subst cC
           have ao:0≤(aa:Int):=zd
           have ap:aa<(af.length:Int):=zd
           obtain⟨al,bj,aI⟩:=tI (rR ac.out).2.2 aa ao ap
           cases bj
           replace ao:=eq_true ao;replace ap:=eq_true ap
           have aq:0≤((rd (rd_L1 l0 ab) aa):Int):=zd
           have ar:(rd (rd_L1 l0 ab) aa)<(af.length:Int):=zd
           obtain⟨aU,bk,aJ⟩:=tI (rR ac.out).2.2 (rd (rd_L1 l0 ab) aa) aq ar
           obtain rfl:al=aU:=(by injection bk)
           replace aq:=eq_true aq;replace ar:=eq_true ar
           have au:0≤(aa:Int):=zd
           have av:aa<(af.length:Int):=zd
           obtain⟨aV,bl,aK⟩:=tI (rR ac.out).2.2 aa au av
           obtain rfl:al=aV:=(by injection bl)
           replace au:=eq_true au;replace av:=eq_true av
           have aQ:0≤((rd (rd_L1 l0 ab) aa):Int):=zd
           have aT:(rd (rd_L1 l0 ab) aa)<(af.length:Int):=zd
           obtain⟨bG,bY,bx⟩:=tI (rR ac.out).2.2 (rd (rd_L1 l0 ab) aa) aQ aT
           obtain rfl:al=bG:=(by injection bY)
           replace aQ:=eq_true aQ;replace aT:=eq_true aT
           have aW:0≤(aa:Int):=zd
           have aX:(aa:Int)<((af.length:Int):Int):=zd
           obtain⟨aj,cV,b7,b8,gl19,cl19,HG19⟩:=Kd.R_form ac.out (by omega)
           (first|cases b7|(injection b7 with ea_ en_ ec_;(first|subst ea_|(injection ea_ with ea_;subst ea_));subst ec_;clear en_))
           have GB19:=A0_ b8;have GG19:=A0_ HG19;clear b8 gl19 HG19
           (first|simp only [add_plain] at aI|skip)
           (first|simp only [add_plain] at aJ|skip)
           (first|simp only [add_plain] at aK|skip)
           (first|simp only [add_plain] at bx|skip)
           obtain⟨ax,ay⟩:=Kd.R_celln 0 ac.out (aa:Int) aW aX
           replace aW:=eq_true aW;replace aX:=eq_true aX
           have HP22:=Kd.R_putg ac.out (aa:Int) ag
           go_wp2_with (first|((with_reducible refine gS (t:=3) (p:=58) rfl ?_);(try(rw [drewN_self wr];generalize hq_:World.drewN wr _=wr;have n0_:=A0_ (Kd.R_at hq_ ac.out);have n1_:=A0_ (below_at hq_ HB.out);clear hq_ ac HB;have ac:=n0_;have HB:=n1_;clear n0_ n1_;(try(obtain⟨ax,ay⟩:=Kd.R_celln 0 ac.out (aa:Int) (of_eq_true aW) (of_eq_true aX)));(try(have HP22:=Kd.R_putg ac.out (aa:Int) ag))));refine store_event (t:=3) (p:=58) (v := ?vo_w23) (w1:=(wr.setCell ⟨aj,(aa:Int).toNat,none⟩ (.int .i64 ag))) ?hg ?ho ?hn ?hr ?_;(case ho=>rfl);(case hg=>rfl);(case hn=>rfl);(case hr=>first|(go_simp;done)|(go_simp;rfl)|(go_simp;congr 2;rw [← ai];unfold mn;omega));intro w23 hw;have hg:wr.grownBy w23 (some aj):=(by rw [hw];exact HP22.2);have hp_:Kd.R (Kd.int .i64) 3 w23 w.heap.size (fun _=>True) (.slice (some ⟨aj,0,none⟩) af.length a9) bm:=(by rw [hw,bI.out];exact HP22.1);clear HP22;replace ac:=A0_ (hp_);replace HB:=A0_ ((by rw [hw];exact bS (HB.out) GB19.out:Below w.heap.size w w23));clear hg hw hp_;have aC:0≤((rd (rd_L1 l0 ab) aa):Int):=zd;have aD:((rd (rd_L1 l0 ab) aa):Int)<((af.length:Int):Int):=zd;obtain⟨bQ,bR⟩:=Kd.R_celln 0 ac.out ((rd (rd_L1 l0 ab) aa):Int) aC aD;replace aC:=eq_true aC;replace aD:=eq_true aD;obtain⟨hy24_,hz24_⟩:=Kd.R_celln 0 ac.out ((rd (rd_L1 l0 ab) aa):Int) (zd) (zd);have HP24:=Kd.R_putg ac.out ((rd (rd_L1 l0 ab) aa):Int) ag)|((with_reducible refine gS (t:=3) (p:=59) rfl ?_);(try(rw [drewN_self w23];generalize hq_:World.drewN w23 _=w23;have n0_:=A0_ (Kd.R_at hq_ ac.out);have n1_:=A0_ (below_at hq_ HB.out);clear hq_ ac HB;have ac:=n0_;have HB:=n1_;clear n0_ n1_;(try(obtain⟨ax,ay⟩:=Kd.R_celln 0 ac.out (aa:Int) (of_eq_true aW) (of_eq_true aX)));(try(obtain⟨hy24_,hz24_⟩:=Kd.R_celln 0 ac.out ((rd (rd_L1 l0 ab) aa):Int) (zd) (zd)));(try(have HP24:=Kd.R_putg ac.out ((rd (rd_L1 l0 ab) aa):Int) ag))));refine store_event (t:=3) (p:=59) (v := ?vo_w25) (w1:=(w23.setCell ⟨aj,((rd (rd_L1 l0 ab) aa):Int).toNat,none⟩ (.int .i64 ag))) ?hg ?ho ?hn ?hr ?_;(case ho=>rfl);(case hg=>rfl);(case hn=>rfl);(case hr=>first|(go_simp;done)|(go_simp;rfl)|(go_simp;congr 2;rw [← ai];unfold mn;omega));intro w25 hw;have hg:w23.grownBy w25 (some aj):=(by rw [hw];exact HP24.2);have hp_:Kd.R (Kd.int .i64) 3 w25 w.heap.size (fun _=>True) (.slice (some ⟨aj,0,none⟩) af.length a9) bn:=(by rw [hw,bK.out];exact HP24.1);clear HP24;replace ac:=A0_ (hp_);replace HB:=A0_ ((by rw [hw];exact bS (HB.out) GB19.out:Below w.heap.size w w25));clear hg hw hp_))
           repeat(go_quiet (first|((with_reducible refine gS (t:=3) (p:=58) rfl ?_);(try(rw [drewN_self wr];generalize hq_:World.drewN wr _=wr;have n0_:=A0_ (Kd.R_at hq_ ac.out);have n1_:=A0_ (below_at hq_ HB.out);clear hq_ ac HB;have ac:=n0_;have HB:=n1_;clear n0_ n1_;(try(obtain⟨ax,ay⟩:=Kd.R_celln 0 ac.out (aa:Int) (of_eq_true aW) (of_eq_true aX)));(try(have HP22:=Kd.R_putg ac.out (aa:Int) ag))));refine store_event (t:=3) (p:=58) (v := ?vo_w23) (w1:=(wr.setCell ⟨aj,(aa:Int).toNat,none⟩ (.int .i64 ag))) ?hg ?ho ?hn ?hr ?_;(case ho=>rfl);(case hg=>rfl);(case hn=>rfl);(case hr=>first|(go_simp;done)|(go_simp;rfl)|(go_simp;congr 2;rw [← ai];unfold mn;omega));intro w23 hw;have hg:wr.grownBy w23 (some aj):=(by rw [hw];exact HP22.2);have hp_:Kd.R (Kd.int .i64) 3 w23 w.heap.size (fun _=>True) (.slice (some ⟨aj,0,none⟩) af.length a9) bm:=(by rw [hw,bI.out];exact HP22.1);clear HP22;replace ac:=A0_ (hp_);replace HB:=A0_ ((by rw [hw];exact bS (HB.out) GB19.out:Below w.heap.size w w23));clear hg hw hp_;have aC:0≤((rd (rd_L1 l0 ab) aa):Int):=zd;have aD:((rd (rd_L1 l0 ab) aa):Int)<((af.length:Int):Int):=zd;obtain⟨bQ,bR⟩:=Kd.R_celln 0 ac.out ((rd (rd_L1 l0 ab) aa):Int) aC aD;replace aC:=eq_true aC;replace aD:=eq_true aD;obtain⟨hy24_,hz24_⟩:=Kd.R_celln 0 ac.out ((rd (rd_L1 l0 ab) aa):Int) (zd) (zd);have HP24:=Kd.R_putg ac.out ((rd (rd_L1 l0 ab) aa):Int) ag)|((with_reducible refine gS (t:=3) (p:=59) rfl ?_);(try(rw [drewN_self w23];generalize hq_:World.drewN w23 _=w23;have n0_:=A0_ (Kd.R_at hq_ ac.out);have n1_:=A0_ (below_at hq_ HB.out);clear hq_ ac HB;have ac:=n0_;have HB:=n1_;clear n0_ n1_;(try(obtain⟨ax,ay⟩:=Kd.R_celln 0 ac.out (aa:Int) (of_eq_true aW) (of_eq_true aX)));(try(obtain⟨hy24_,hz24_⟩:=Kd.R_celln 0 ac.out ((rd (rd_L1 l0 ab) aa):Int) (zd) (zd)));(try(have HP24:=Kd.R_putg ac.out ((rd (rd_L1 l0 ab) aa):Int) ag))));refine store_event (t:=3) (p:=59) (v := ?vo_w25) (w1:=(w23.setCell ⟨aj,((rd (rd_L1 l0 ab) aa):Int).toNat,none⟩ (.int .i64 ag))) ?hg ?ho ?hn ?hr ?_;(case ho=>rfl);(case hg=>rfl);(case hn=>rfl);(case hr=>first|(go_simp;done)|(go_simp;rfl)|(go_simp;congr 2;rw [← ai];unfold mn;omega));intro w25 hw;have hg:w23.grownBy w25 (some aj):=(by rw [hw];exact HP24.2);have hp_:Kd.R (Kd.int .i64) 3 w25 w.heap.size (fun _=>True) (.slice (some ⟨aj,0,none⟩) af.length a9) bn:=(by rw [hw,bK.out];exact HP24.1);clear HP24;replace ac:=A0_ (hp_);replace HB:=A0_ ((by rw [hw];exact bS (HB.out) GB19.out:Below w.heap.size w w25));clear hg hw hp_));try go_wp2_with (first|((with_reducible refine gS (t:=3) (p:=58) rfl ?_);(try(rw [drewN_self wr];generalize hq_:World.drewN wr _=wr;have n0_:=A0_ (Kd.R_at hq_ ac.out);have n1_:=A0_ (below_at hq_ HB.out);clear hq_ ac HB;have ac:=n0_;have HB:=n1_;clear n0_ n1_;(try(obtain⟨ax,ay⟩:=Kd.R_celln 0 ac.out (aa:Int) (of_eq_true aW) (of_eq_true aX)));(try(have HP22:=Kd.R_putg ac.out (aa:Int) ag))));refine store_event (t:=3) (p:=58) (v := ?vo_w23) (w1:=(wr.setCell ⟨aj,(aa:Int).toNat,none⟩ (.int .i64 ag))) ?hg ?ho ?hn ?hr ?_;(case ho=>rfl);(case hg=>rfl);(case hn=>rfl);(case hr=>first|(go_simp;done)|(go_simp;rfl)|(go_simp;congr 2;rw [← ai];unfold mn;omega));intro w23 hw;have hg:wr.grownBy w23 (some aj):=(by rw [hw];exact HP22.2);have hp_:Kd.R (Kd.int .i64) 3 w23 w.heap.size (fun _=>True) (.slice (some ⟨aj,0,none⟩) af.length a9) bm:=(by rw [hw,bI.out];exact HP22.1);clear HP22;have n0_:=A0_ (hp_);have n1_:=A0_ ((by rw [hw];exact bS (HB.out) GB19.out:Below w.heap.size w w23));clear ac HB;have ac:=n0_;have HB:=n1_;clear n0_ n1_ hg hw hp_;have aC:0≤((rd (rd_L1 l0 ab) aa):Int):=zd;have aD:((rd (rd_L1 l0 ab) aa):Int)<((af.length:Int):Int):=zd;obtain⟨bQ,bR⟩:=Kd.R_celln 0 ac.out ((rd (rd_L1 l0 ab) aa):Int) aC aD;replace aC:=eq_true aC;replace aD:=eq_true aD;obtain⟨hy24_,hz24_⟩:=Kd.R_celln 0 ac.out ((rd (rd_L1 l0 ab) aa):Int) (zd) (zd);have HP24:=Kd.R_putg ac.out ((rd (rd_L1 l0 ab) aa):Int) ag)|((with_reducible refine gS (t:=3) (p:=59) rfl ?_);(try(rw [drewN_self w23];generalize hq_:World.drewN w23 _=w23;have n0_:=A0_ (Kd.R_at hq_ ac.out);have n1_:=A0_ (below_at hq_ HB.out);clear hq_ ac HB;have ac:=n0_;have HB:=n1_;clear n0_ n1_;(try(obtain⟨ax,ay⟩:=Kd.R_celln 0 ac.out (aa:Int) (of_eq_true aW) (of_eq_true aX)));(try(obtain⟨hy24_,hz24_⟩:=Kd.R_celln 0 ac.out ((rd (rd_L1 l0 ab) aa):Int) (zd) (zd)));(try(have HP24:=Kd.R_putg ac.out ((rd (rd_L1 l0 ab) aa):Int) ag))));refine store_event (t:=3) (p:=59) (v := ?vo_w25) (w1:=(w23.setCell ⟨aj,((rd (rd_L1 l0 ab) aa):Int).toNat,none⟩ (.int .i64 ag))) ?hg ?ho ?hn ?hr ?_;(case ho=>rfl);(case hg=>rfl);(case hn=>rfl);(case hr=>first|(go_simp;done)|(go_simp;rfl)|(go_simp;congr 2;rw [← ai];unfold mn;omega));intro w25 hw;have hg:w23.grownBy w25 (some aj):=(by rw [hw];exact HP24.2);have hp_:Kd.R (Kd.int .i64) 3 w25 w.heap.size (fun _=>True) (.slice (some ⟨aj,0,none⟩) af.length a9) bn:=(by rw [hw,bK.out];exact HP24.1);clear HP24;have n0_:=A0_ (hp_);have n1_:=A0_ ((by rw [hw];exact bS (HB.out) GB19.out:Below w.heap.size w w25));clear ac HB;have ac:=n0_;have HB:=n1_;clear n0_ n1_ hg hw hp_)))
           go_roundg k3
           case measure=>have:=aM.out;have:=aN.out;have:=bc.out;omega
           case rel=>exact⟨(bn),(true),(wrap64 (aa+1)),zt,zt,H',⟨by have:=aM.out;have:=aN.out;have:=bc.out;omega⟩,⟨zR_ ac⟩,⟨zB_ HB⟩⟩
          rw [if_neg bg] at H
          have cg:((rd af aa) == (ag))=false:=beq_eq_false_iff_ne.mpr bg
          have ch:((rd af aa) != (ag))=true:=bne_iff_ne.mpr bg
          obtain⟨bo,bL⟩ : ∃ y_:List Int,y_=(af.set (aa:Int).toNat (ag)):=⟨_,rfl⟩
          replace H:(id_.l2 k3 l0 (bo.set ((rd (rd_L1 l0 ab) aa):Int).toNat (ag)) true l0 (l0.length:Int) ab (rd_L1 l0 ab) ((rd_L1 l0 ab).length:Int) (wrap64 (aa+1)))=some r:=zH bL H
          have bM:=A0_ bL;clear bL
          obtain⟨bp,bO⟩ : ∃ y_:List Int,y_=(bo.set ((rd (rd_L1 l0 ab) aa):Int).toNat (ag)):=⟨_,rfl⟩
          replace H:(id_.l2 k3 l0 bp true l0 (l0.length:Int) ab (rd_L1 l0 ab) ((rd_L1 l0 ab).length:Int) (wrap64 (aa+1)))=some r:=zH bO H
          have bP:=A0_ bO;clear bO;have H':=A0_ H;clear H
          have am:0≤(aa:Int):=zd
          have an:aa<((rd_L1 l0 ab).length:Int):=zd
          obtain⟨b5,bi,ah⟩:=tI a7.out aa am an
          cases bi
          try replace ah:=(HB.out.cell (wL w _ ah)).trans ah
          replace am:=eq_true am;replace an:=eq_true an;obtain⟨cW,ba,cE⟩:=rS ac.out;subst cE
          have ao:0≤(aa:Int):=zd
          have ap:aa<(af.length:Int):=zd
          obtain⟨al,bj,aI⟩:=tI (rR ac.out).2.2 aa ao ap
          cases bj
          replace ao:=eq_true ao;replace ap:=eq_true ap
          have aq:0≤((rd (rd_L1 l0 ab) aa):Int):=zd
          have ar:(rd (rd_L1 l0 ab) aa)<(af.length:Int):=zd
          obtain⟨aU,bk,aJ⟩:=tI (rR ac.out).2.2 (rd (rd_L1 l0 ab) aa) aq ar
          obtain rfl:al=aU:=(by injection bk)
          replace aq:=eq_true aq;replace ar:=eq_true ar
          have au:0≤(aa:Int):=zd
          have av:aa<(af.length:Int):=zd
          obtain⟨aV,bl,aK⟩:=tI (rR ac.out).2.2 aa au av
          obtain rfl:al=aV:=(by injection bl)
          replace au:=eq_true au;replace av:=eq_true av
          have aY:0≤(aa:Int):=zd
          have aZ:(aa:Int)<((af.length:Int):Int):=zd
          obtain⟨ak,cX,b9,cd,gl26,cl26,HG26⟩:=Kd.R_form ac.out (by omega)
          (first|cases b9|(injection b9 with ea_ en_ ec_;(first|subst ea_|(injection ea_ with ea_;subst ea_));subst ec_;clear en_))
          have GB26:=A0_ cd;have GG26:=A0_ HG26;clear cd gl26 HG26
          (first|simp only [add_plain] at aI|skip)
          (first|simp only [add_plain] at aJ|skip)
          (first|simp only [add_plain] at aK|skip)
          obtain⟨az,aA⟩:=Kd.R_celln 0 ac.out (aa:Int) aY aZ
          replace aY:=eq_true aY;replace aZ:=eq_true aZ
          have HP29:=Kd.R_putg ac.out (aa:Int) ag
          go_wp2_with (first|((with_reducible refine gS (t:=3) (p:=58) rfl ?_);(try(rw [drewN_self wr];generalize hq_:World.drewN wr _=wr;have n0_:=A0_ (Kd.R_at hq_ ac.out);have n1_:=A0_ (below_at hq_ HB.out);clear hq_ ac HB;have ac:=n0_;have HB:=n1_;clear n0_ n1_;(try(obtain⟨az,aA⟩:=Kd.R_celln 0 ac.out (aa:Int) (of_eq_true aY) (of_eq_true aZ)));(try(have HP29:=Kd.R_putg ac.out (aa:Int) ag))));refine store_event (t:=3) (p:=58) (v := ?vo_w30) (w1:=(wr.setCell ⟨ak,(aa:Int).toNat,none⟩ (.int .i64 ag))) ?hg ?ho ?hn ?hr ?_;(case ho=>rfl);(case hg=>rfl);(case hn=>rfl);(case hr=>first|(go_simp;done)|(go_simp;rfl)|(go_simp;congr 2;rw [← ai];unfold mn;omega));intro w30 hw;have hg:wr.grownBy w30 (some ak):=(by rw [hw];exact HP29.2);have hp_:Kd.R (Kd.int .i64) 3 w30 w.heap.size (fun _=>True) (.slice (some ⟨ak,0,none⟩) af.length ba) bo:=(by rw [hw,bM.out];exact HP29.1);clear HP29;replace ac:=A0_ (hp_);replace HB:=A0_ ((by rw [hw];exact bS (HB.out) GB26.out:Below w.heap.size w w30));clear hg hw hp_;have aE:0≤((rd (rd_L1 l0 ab) aa):Int):=zd;have aG:((rd (rd_L1 l0 ab) aa):Int)<((af.length:Int):Int):=zd;obtain⟨bU,bV⟩:=Kd.R_celln 0 ac.out ((rd (rd_L1 l0 ab) aa):Int) aE aG;replace aE:=eq_true aE;replace aG:=eq_true aG;obtain⟨hy31_,hz31_⟩:=Kd.R_celln 0 ac.out ((rd (rd_L1 l0 ab) aa):Int) (zd) (zd);have HP31:=Kd.R_putg ac.out ((rd (rd_L1 l0 ab) aa):Int) ag)|((with_reducible refine gS (t:=3) (p:=59) rfl ?_);(try(rw [drewN_self w30];generalize hq_:World.drewN w30 _=w30;have n0_:=A0_ (Kd.R_at hq_ ac.out);have n1_:=A0_ (below_at hq_ HB.out);clear hq_ ac HB;have ac:=n0_;have HB:=n1_;clear n0_ n1_;(try(obtain⟨az,aA⟩:=Kd.R_celln 0 ac.out (aa:Int) (of_eq_true aY) (of_eq_true aZ)));(try(obtain⟨hy31_,hz31_⟩:=Kd.R_celln 0 ac.out ((rd (rd_L1 l0 ab) aa):Int) (zd) (zd)));(try(have HP31:=Kd.R_putg ac.out ((rd (rd_L1 l0 ab) aa):Int) ag))));refine store_event (t:=3) (p:=59) (v := ?vo_w32) (w1:=(w30.setCell ⟨ak,((rd (rd_L1 l0 ab) aa):Int).toNat,none⟩ (.int .i64 ag))) ?hg ?ho ?hn ?hr ?_;(case ho=>rfl);(case hg=>rfl);(case hn=>rfl);(case hr=>first|(go_simp;done)|(go_simp;rfl)|(go_simp;congr 2;rw [← ai];unfold mn;omega));intro w32 hw;have hg:w30.grownBy w32 (some ak):=(by rw [hw];exact HP31.2);have hp_:Kd.R (Kd.int .i64) 3 w32 w.heap.size (fun _=>True) (.slice (some ⟨ak,0,none⟩) af.length ba) bp:=(by rw [hw,bP.out];exact HP31.1);clear HP31;replace ac:=A0_ (hp_);replace HB:=A0_ ((by rw [hw];exact bS (HB.out) GB26.out:Below w.heap.size w w32));clear hg hw hp_))
          repeat(go_quiet (first|((with_reducible refine gS (t:=3) (p:=58) rfl ?_);(try(rw [drewN_self wr];generalize hq_:World.drewN wr _=wr;have n0_:=A0_ (Kd.R_at hq_ ac.out);have n1_:=A0_ (below_at hq_ HB.out);clear hq_ ac HB;have ac:=n0_;have HB:=n1_;clear n0_ n1_;(try(obtain⟨az,aA⟩:=Kd.R_celln 0 ac.out (aa:Int) (of_eq_true aY) (of_eq_true aZ)));(try(have HP29:=Kd.R_putg ac.out (aa:Int) ag))));refine store_event (t:=3) (p:=58) (v := ?vo_w30) (w1:=(wr.setCell ⟨ak,(aa:Int).toNat,none⟩ (.int .i64 ag))) ?hg ?ho ?hn ?hr ?_;(case ho=>rfl);(case hg=>rfl);(case hn=>rfl);(case hr=>first|(go_simp;done)|(go_simp;rfl)|(go_simp;congr 2;rw [← ai];unfold mn;omega));intro w30 hw;have hg:wr.grownBy w30 (some ak):=(by rw [hw];exact HP29.2);have hp_:Kd.R (Kd.int .i64) 3 w30 w.heap.size (fun _=>True) (.slice (some ⟨ak,0,none⟩) af.length ba) bo:=(by rw [hw,bM.out];exact HP29.1);clear HP29;replace ac:=A0_ (hp_);replace HB:=A0_ ((by rw [hw];exact bS (HB.out) GB26.out:Below w.heap.size w w30));clear hg hw hp_;have aE:0≤((rd (rd_L1 l0 ab) aa):Int):=zd;have aG:((rd (rd_L1 l0 ab) aa):Int)<((af.length:Int):Int):=zd;obtain⟨bU,bV⟩:=Kd.R_celln 0 ac.out ((rd (rd_L1 l0 ab) aa):Int) aE aG;replace aE:=eq_true aE;replace aG:=eq_true aG;obtain⟨hy31_,hz31_⟩:=Kd.R_celln 0 ac.out ((rd (rd_L1 l0 ab) aa):Int) (zd) (zd);have HP31:=Kd.R_putg ac.out ((rd (rd_L1 l0 ab) aa):Int) ag)|((with_reducible refine gS (t:=3) (p:=59) rfl ?_);(try(rw [drewN_self w30];generalize hq_:World.drewN w30 _=w30;have n0_:=A0_ (Kd.R_at hq_ ac.out);have n1_:=A0_ (below_at hq_ HB.out);clear hq_ ac HB;have ac:=n0_;have HB:=n1_;clear n0_ n1_;(try(obtain⟨az,aA⟩:=Kd.R_celln 0 ac.out (aa:Int) (of_eq_true aY) (of_eq_true aZ)));(try(obtain⟨hy31_,hz31_⟩:=Kd.R_celln 0 ac.out ((rd (rd_L1 l0 ab) aa):Int) (zd) (zd)));(try(have HP31:=Kd.R_putg ac.out ((rd (rd_L1 l0 ab) aa):Int) ag))));refine store_event (t:=3) (p:=59) (v := ?vo_w32) (w1:=(w30.setCell ⟨ak,((rd (rd_L1 l0 ab) aa):Int).toNat,none⟩ (.int .i64 ag))) ?hg ?ho ?hn ?hr ?_;(case ho=>rfl);(case hg=>rfl);(case hn=>rfl);(case hr=>first|(go_simp;done)|(go_simp;rfl)|(go_simp;congr 2;rw [← ai];unfold mn;omega));intro w32 hw;have hg:w30.grownBy w32 (some ak):=(by rw [hw];exact HP31.2);have hp_:Kd.R (Kd.int .i64) 3 w32 w.heap.size (fun _=>True) (.slice (some ⟨ak,0,none⟩) af.length ba) bp:=(by rw [hw,bP.out];exact HP31.1);clear HP31;replace ac:=A0_ (hp_);replace HB:=A0_ ((by rw [hw];exact bS (HB.out) GB26.out:Below w.heap.size w w32));clear hg hw hp_));try go_wp2_with (first|((with_reducible refine gS (t:=3) (p:=58) rfl ?_);(try(rw [drewN_self wr];generalize hq_:World.drewN wr _=wr;have n0_:=A0_ (Kd.R_at hq_ ac.out);have n1_:=A0_ (below_at hq_ HB.out);clear hq_ ac HB;have ac:=n0_;have HB:=n1_;clear n0_ n1_;(try(obtain⟨az,aA⟩:=Kd.R_celln 0 ac.out (aa:Int) (of_eq_true aY) (of_eq_true aZ)));(try(have HP29:=Kd.R_putg ac.out (aa:Int) ag))));refine store_event (t:=3) (p:=58) (v := ?vo_w30) (w1:=(wr.setCell ⟨ak,(aa:Int).toNat,none⟩ (.int .i64 ag))) ?hg ?ho ?hn ?hr ?_;(case ho=>rfl);(case hg=>rfl);(case hn=>rfl);(case hr=>first|(go_simp;done)|(go_simp;rfl)|(go_simp;congr 2;rw [← ai];unfold mn;omega));intro w30 hw;have hg:wr.grownBy w30 (some ak):=(by rw [hw];exact HP29.2);have hp_:Kd.R (Kd.int .i64) 3 w30 w.heap.size (fun _=>True) (.slice (some ⟨ak,0,none⟩) af.length ba) bo:=(by rw [hw,bM.out];exact HP29.1);clear HP29;have n0_:=A0_ (hp_);have n1_:=A0_ ((by rw [hw];exact bS (HB.out) GB26.out:Below w.heap.size w w30));clear ac HB;have ac:=n0_;have HB:=n1_;clear n0_ n1_ hg hw hp_;have aE:0≤((rd (rd_L1 l0 ab) aa):Int):=zd;have aG:((rd (rd_L1 l0 ab) aa):Int)<((af.length:Int):Int):=zd;obtain⟨bU,bV⟩:=Kd.R_celln 0 ac.out ((rd (rd_L1 l0 ab) aa):Int) aE aG;replace aE:=eq_true aE;replace aG:=eq_true aG;obtain⟨hy31_,hz31_⟩:=Kd.R_celln 0 ac.out ((rd (rd_L1 l0 ab) aa):Int) (zd) (zd);have HP31:=Kd.R_putg ac.out ((rd (rd_L1 l0 ab) aa):Int) ag)|((with_reducible refine gS (t:=3) (p:=59) rfl ?_);(try(rw [drewN_self w30];generalize hq_:World.drewN w30 _=w30;have n0_:=A0_ (Kd.R_at hq_ ac.out);have n1_:=A0_ (below_at hq_ HB.out);clear hq_ ac HB;have ac:=n0_;have HB:=n1_;clear n0_ n1_;(try(obtain⟨az,aA⟩:=Kd.R_celln 0 ac.out (aa:Int) (of_eq_true aY) (of_eq_true aZ)));(try(obtain⟨hy31_,hz31_⟩:=Kd.R_celln 0 ac.out ((rd (rd_L1 l0 ab) aa):Int) (zd) (zd)));(try(have HP31:=Kd.R_putg ac.out ((rd (rd_L1 l0 ab) aa):Int) ag))));refine store_event (t:=3) (p:=59) (v := ?vo_w32) (w1:=(w30.setCell ⟨ak,((rd (rd_L1 l0 ab) aa):Int).toNat,none⟩ (.int .i64 ag))) ?hg ?ho ?hn ?hr ?_;(case ho=>rfl);(case hg=>rfl);(case hn=>rfl);(case hr=>first|(go_simp;done)|(go_simp;rfl)|(go_simp;congr 2;rw [← ai];unfold mn;omega));intro w32 hw;have hg:w30.grownBy w32 (some ak):=(by rw [hw];exact HP31.2);have hp_:Kd.R (Kd.int .i64) 3 w32 w.heap.size (fun _=>True) (.slice (some ⟨ak,0,none⟩) af.length ba) bp:=(by rw [hw,bP.out];exact HP31.1);clear HP31;have n0_:=A0_ (hp_);have n1_:=A0_ ((by rw [hw];exact bS (HB.out) GB26.out:Below w.heap.size w w32));clear ac HB;have ac:=n0_;have HB:=n1_;clear n0_ n1_ hg hw hp_)))
          go_roundg k3
          case measure=>have:=aM.out;have:=aN.out;have:=bc.out;omega
          case rel=>exact⟨(bp),(true),(wrap64 (aa+1)),zt,zt,H',⟨by have:=aM.out;have:=aN.out;have:=bc.out;omega⟩,⟨zR_ ac⟩,⟨zB_ HB⟩⟩
         rw [if_neg c9] at H;have cy:=dF c9;clear c9;have H':=A0_ H;clear H
         go_wp2
         repeat(go_quiet (fail);try go_wp2)
         go_roundg k3
         case measure=>have:=aM.out;have:=aN.out;have:=bc.out;omega
         case rel=>exact⟨(af),(a8),(wrap64 (ab+1)),zt,zt,H',⟨by have:=aM.out;have:=aN.out;have:=bc.out;omega⟩,⟨zR_ ac⟩,⟨zB_ HB⟩⟩
      rw [if_neg c6] at H;have b6:=dF c6;clear c6;have H':=A0_ H;clear H
      go_wp2
      repeat(go_quiet (fail);try go_wp2)
      go_roundg k2
      case measure=>have:=aM.out;have:=aN.out;omega
      case rel=>exact⟨(be),(bf),zt,H',⟨by have:=aM.out;have:=aN.out;omega⟩,⟨zR_ ac⟩,⟨zB_ HB⟩⟩
   replace c5:=Bool.eq_false_iff.mpr c5;subst c5
   rw [if_neg (show ¬ (false=true) by decide)] at H
   obtain rfl:=sI H
   go_wp2
   repeat(go_quiet (fail);try go_wp2)
   go_ret
   exact⟨_,by first|rfl|(simp [*] <;> rfl),zR_ ac,zB_ HB⟩
mutual
def i5_.j0:Nat→Bool→List Int→List Int→Option (Bool)
  | 0,_,_,_=>none
  | k+1,ac,ab,aa=>if ac=true then (some false) else (i5_.l0 k aa (aa.length:Int) 0 ab aa)
def i5_.l0:Nat→List Int→Int→Int→List Int→List Int→Option (Bool)
  | 0,_,_,_,_,_=>none
  | k+1,ac,ag,ab,af,aa=>if ab<ag then (if 0≤ab then (if ab<(ac.length:Int) then (if (rd ac ab)=ab then (some false) else (if 0≤(rd ac ab) then (if (rd ac ab)<(aa.length:Int) then (if (rd aa (rd ac ab))=ab then (i5_.l0 k ac ag (wrap64 (ab+1)) af aa) else (some false)) else (none)) else (none))) else (none)) else (none)) else ((id_.f k (([af,aa]:List (List Int)))).bind fun ah=>((sq_.f ah).bind fun ai=>(some (ai == 0))))
end
def i5_.f (k:Nat) (aa:List Int) (ab:List Int):Option (Bool):=(i8_.f aa).bind fun ac=>(if ac=true then ((i8_.f ab).bind fun af=>(if af=true then (i5_.j0 k ((aa.length:Int) != (ab.length:Int)) aa ab) else (i5_.j0 k true aa ab))) else (i5_.j0 k true aa ab))
theorem i5_.calls (k:Nat) (P0_0_:Nat→Prop) (an:Option Addr) (ao:Nat) (af:List Int) (P0_1_:Nat→Prop) (ap:Option Addr) (aq:Nat) (ab:List Int) (r:Bool) (w:World) (ba:Kd.V (Kd.int .i64) 3 w w.heap.size (fun k_=>P0_0_ k_) (.slice an af.length ao) af) (bb:Kd.V (Kd.int .i64) 3 w w.heap.size (fun k_=>P0_1_ k_) (.slice ap ab.length aq) ab) (h:i5_.f k af ab=some r) :
    Calls Tryz.prog 24 #[.agg #[.slice an af.length ao,.slice ap ab.length aq]] w fun e w'=>e = .returned (.bool r)∧Below w.heap.size w w':=by
 have cw:=Tryz.underlying25
 have ah:=A0_ (show Kd.V (Kd.int .i64) 3 w w.heap.size (fun k_=>((P0_0_ k_∨P0_1_ k_)∨w.heap.size≤k_)) (.slice an af.length ao) af from Kd.V_mono ba (fun k_ hk => .inl (.inl hk)))
 have ai:=A0_ (show Kd.V (Kd.int .i64) 3 w w.heap.size (fun k_=>((P0_0_ k_∨P0_1_ k_)∨w.heap.size≤k_)) (.slice ap ab.length aq) ab from Kd.V_mono bb (fun k_ hk => .inl (.inr hk)))
 have HB:=A0_ (Below.refl w.heap.size w)
 have H:((i8_.f af).bind fun aU=>(if aU=true then ((i8_.f ab).bind fun aV=>(if aV=true then (i5_.j0 k ((af.length:Int) != (ab.length:Int)) af ab) else (i5_.j0 k true af ab))) else (i5_.j0 k true af ab)))=some r:=h
 clear h;have a9:=A0_ H;clear H
 go_enter Tryz.func24,Tryz.ntmps24
 go_upto_region 1 with(first|((with_reducible refine gD (N:=1) rfl ?_);refine zX (N:=1) (cs := #[.slice an af.length ao,.slice ap ab.length aq]) (t:=25) ?_;intro aj hg w3 hbox hb;replace ah:=A0_ (Kd.V_below (Kd.V_elderB (by(with_reducible repeat(first|apply Kd.V_alloc|apply Kd.V_drewN|apply Kd.V_drew));exact ah.out) aj (Nat.le_of_eq hg.symm)) hb);replace ai:=A0_ (Kd.V_below (Kd.V_elderB (by(with_reducible repeat(first|apply Kd.V_alloc|apply Kd.V_drewN|apply Kd.V_drew));exact ai.out) aj (Nat.le_of_eq hg.symm)) hb);have aa:=A0_ (hbox);have cp:=zG hg HB;have cq:=zG hg HB;replace HB:=zB HB hb;clear hb hbox hg))
 (try simp only [Act.put,List.setIfInBounds_toArray,List.set_cons_zero,List.set_cons_succ])
 go_cut [23] (fun v23 wc => ∃ (kq:Nat) (aA:Bool),v23 = .bool aA∧Aside0 (i5_.j0 kq aA af ab=some r)∧Aside0 (kq≤k)∧Aside0 (Kd.V (Kd.int .i64) 3 wc w.heap.size (fun k_=>((P0_0_ k_∨P0_1_ k_)∨w.heap.size≤k_)∧k_≠aj) (.slice an af.length ao) af)∧Aside0 (Kd.V (Kd.int .i64) 3 wc w.heap.size (fun k_=>((P0_0_ k_∨P0_1_ k_)∨w.heap.size≤k_)∧k_≠aj) (.slice ap ab.length aq) ab)∧Aside0 (wc.heap[aj]? = some (.cells #[(.slice an af.length ao),(.slice ap ab.length aq)] 25 (0,0)))∧Aside0 (Below w.heap.size w wc))
 case first =>
  have H:=a9.out;clear a9;obtain⟨aU,A4,H⟩:=zbind H
  by_cases c5:aU=true
  ·subst c5
   rw [if_pos rfl] at H;obtain⟨aV,A6,H⟩:=zbind H
   by_cases c7:aV=true
   ·subst c7
    rw [if_pos rfl] at H;have H':=A0_ H;clear H;have ci:=zc0 aa;have cj:=zc1 aa;have ck:=kF aa.out 0;have cl:=kF aa.out 1
    go_wp2_with (first|((with_reducible refine gC (f:=58) rfl ?_);refine zJ (some 7) Tryz.func58 #[.slice an af.length ao] ?_;(with_reducible refine(i8_.calls _ _ af true _ ?al ?am A4.out).mono ?_);(case al=>repeat(first|exact(Kd.V_reads' ah.out).2.2|(with_reducible refine cA ?_ _)|(with_reducible refine cN ?_ _)|(with_reducible refine cD ?_)));(case am=>exact(Kd.V_reads' ah.out).2.1);rintro e w9 ⟨rfl,hb⟩;refine⟨_,rfl,?_⟩;replace ah:=A0_ (Kd.V_below (by(with_reducible repeat(first|apply Kd.V_alloc|apply Kd.V_drewN|apply Kd.V_drew));exact ah.out) hb);replace ai:=A0_ (Kd.V_below (by(with_reducible repeat(first|apply Kd.V_alloc|apply Kd.V_drewN|apply Kd.V_drew));exact ai.out) hb);replace aa:=zK aa hb;replace HB:=zB HB hb;(try clear hb);have bx:=zc0 aa;have bz:=zc1 aa;have bB:=kF aa.out 0;have bC:=kF aa.out 1)|(go_at_call 58;(with_reducible refine(i8_.calls _ _ ab true _ ?al ?am A6.out).mono ?_);(case al=>repeat(first|exact(Kd.V_reads' ai.out).2.2|(with_reducible refine cA ?_ _)|(with_reducible refine cN ?_ _)|(with_reducible refine cD ?_)));(case am=>exact(Kd.V_reads' ai.out).2.1);rintro e w11 ⟨rfl,hb⟩;replace ah:=A0_ (Kd.V_below (by(with_reducible repeat(first|apply Kd.V_alloc|apply Kd.V_drewN|apply Kd.V_drew));exact ah.out) hb);replace ai:=A0_ (Kd.V_below (by(with_reducible repeat(first|apply Kd.V_alloc|apply Kd.V_drewN|apply Kd.V_drew));exact ai.out) hb);replace aa:=zK aa hb;replace HB:=zB HB hb;(try clear hb);have bE:=zc0 aa;have bF:=zc1 aa;have bG:=kF aa.out 0;have bH:=kF aa.out 1))
    go_meet
    case rel=>exact⟨_,(((af.length:Int) != (ab.length:Int))),zt,H',zo,⟨by(with_reducible repeat(first|apply Kd.V_alloc|apply Kd.V_drewN|apply Kd.V_drew));exact ah.out⟩,⟨by(with_reducible repeat(first|apply Kd.V_alloc|apply Kd.V_drewN|apply Kd.V_drew));exact ai.out⟩,⟨zK_ aa⟩,⟨zB_ HB⟩⟩
   replace c7:=Bool.eq_false_iff.mpr c7;subst c7
   rw [if_neg (show ¬ (false=true) by decide)] at H
   have H':=A0_ H;clear H;have bI:=zc0 aa;have bJ:=zc1 aa;have bK:=kF aa.out 0;have bL:=kF aa.out 1
   go_wp2_with (first|((with_reducible refine gC (f:=58) rfl ?_);refine zJ (some 7) Tryz.func58 #[.slice an af.length ao] ?_;(with_reducible refine(i8_.calls _ _ af true _ ?al ?am A4.out).mono ?_);(case al=>repeat(first|exact(Kd.V_reads' ah.out).2.2|(with_reducible refine cA ?_ _)|(with_reducible refine cN ?_ _)|(with_reducible refine cD ?_)));(case am=>exact(Kd.V_reads' ah.out).2.1);rintro e w14 ⟨rfl,hb⟩;refine⟨_,rfl,?_⟩;replace ah:=A0_ (Kd.V_below (by(with_reducible repeat(first|apply Kd.V_alloc|apply Kd.V_drewN|apply Kd.V_drew));exact ah.out) hb);replace ai:=A0_ (Kd.V_below (by(with_reducible repeat(first|apply Kd.V_alloc|apply Kd.V_drewN|apply Kd.V_drew));exact ai.out) hb);replace aa:=zK aa hb;replace HB:=zB HB hb;(try clear hb);have bM:=zc0 aa;have bO:=zc1 aa;have bP:=kF aa.out 0;have bQ:=kF aa.out 1)|(go_at_call 58;(with_reducible refine(i8_.calls _ _ ab false _ ?al ?am A6.out).mono ?_);(case al=>repeat(first|exact(Kd.V_reads' ai.out).2.2|(with_reducible refine cA ?_ _)|(with_reducible refine cN ?_ _)|(with_reducible refine cD ?_)));(case am=>exact(Kd.V_reads' ai.out).2.1);rintro e w16 ⟨rfl,hb⟩;replace ah:=A0_ (Kd.V_below (by(with_reducible repeat(first|apply Kd.V_alloc|apply Kd.V_drewN|apply Kd.V_drew));exact ah.out) hb);replace ai:=A0_ (Kd.V_below (by(with_reducible repeat(first|apply Kd.V_alloc|apply Kd.V_drewN|apply Kd.V_drew));exact ai.out) hb);replace aa:=zK aa hb;replace HB:=zB HB hb;(try clear hb)))
   go_meet
   case rel=>exact⟨_,(true),zt,H',zo,⟨by(with_reducible repeat(first|apply Kd.V_alloc|apply Kd.V_drewN|apply Kd.V_drew));exact ah.out⟩,⟨by(with_reducible repeat(first|apply Kd.V_alloc|apply Kd.V_drewN|apply Kd.V_drew));exact ai.out⟩,⟨zK_ aa⟩,⟨zB_ HB⟩⟩
  replace c5:=Bool.eq_false_iff.mpr c5;subst c5
  rw [if_neg (show ¬ (false=true) by decide)] at H
  have H':=A0_ H;clear H;have bR:=zc0 aa;have bU:=zc1 aa;have bV:=kF aa.out 0;have bW:=kF aa.out 1
  go_wp2_with (first|((with_reducible refine gC (f:=58) rfl ?_);refine zJ (some 7) Tryz.func58 #[.slice an af.length ao] ?_;(with_reducible refine(i8_.calls _ _ af false _ ?al ?am A4.out).mono ?_);(case al=>repeat(first|exact(Kd.V_reads' ah.out).2.2|(with_reducible refine cA ?_ _)|(with_reducible refine cN ?_ _)|(with_reducible refine cD ?_)));(case am=>exact(Kd.V_reads' ah.out).2.1);rintro e w18 ⟨rfl,hb⟩;refine⟨_,rfl,?_⟩;replace ah:=A0_ (Kd.V_below (by(with_reducible repeat(first|apply Kd.V_alloc|apply Kd.V_drewN|apply Kd.V_drew));exact ah.out) hb);replace ai:=A0_ (Kd.V_below (by(with_reducible repeat(first|apply Kd.V_alloc|apply Kd.V_drewN|apply Kd.V_drew));exact ai.out) hb);replace aa:=zK aa hb;replace HB:=zB HB hb;(try clear hb)))
  go_meet
  case rel=>exact⟨_,(true),zt,H',zo,⟨by(with_reducible repeat(first|apply Kd.V_alloc|apply Kd.V_drewN|apply Kd.V_drew));exact ah.out⟩,⟨by(with_reducible repeat(first|apply Kd.V_alloc|apply Kd.V_drewN|apply Kd.V_drew));exact ai.out⟩,⟨zK_ aa⟩,⟨zB_ HB⟩⟩
 case rest =>
  clear a9;obtain⟨kq,aA,rfl,HA,bh,ak,ag,aa,HB⟩:=hcut
  cases kq with
  | zero=>exact absurd HA.out (by simp [i5_.j0])
  | succ bi =>
   have H:=HA.out;clear HA;simp only [i5_.j0] at H
   by_cases aT:aA=true
   ·subst aT
    rw [if_pos rfl] at H;obtain rfl:=sI H
    go_wp2
    go_ret
    exact⟨by first|rfl|(simp [*] <;> rfl),zB_ HB⟩
   replace aT:=Bool.eq_false_iff.mpr aT;subst aT
   rw [if_neg (show ¬ (false=true) by decide)] at H
   have H':=A0_ H;clear H;have a4:=zc0 aa;have a5:=zc1 aa;have a6:=kF aa.out 0;have a7:=kF aa.out 1
   go_wp2
   go_loopg [27] bi (fun kq v27 w' => ∃ (ac:Int),v27 = .int .i64 ac∧Aside0 (i5_.l0 kq ab (ab.length:Int) ac af ab=some r)∧Aside0 (kq≤bi)∧Aside0 (Kd.V (Kd.int .i64) 3 w' w.heap.size (fun k_=>((P0_0_ k_∨P0_1_ k_)∨w.heap.size≤k_)∧k_≠aj) (.slice ap ab.length aq) ab)∧Aside0 (Kd.V (Kd.int .i64) 3 w' w.heap.size (fun k_=>((P0_0_ k_∨P0_1_ k_)∨w.heap.size≤k_)∧k_≠aj) (.slice an af.length ao) af)∧Aside0 (Kd.V (Kd.int .i64) 3 w' w.heap.size (fun k_=>((P0_0_ k_∨P0_1_ k_)∨w.heap.size≤k_)∧k_≠aj) (.slice ap ab.length aq) ab)∧Aside0 (w'.heap[aj]? = some (.cells #[(.slice an af.length ao),(.slice ap ab.length aq)] 25 (0,0)))∧Aside0 (Below w.heap.size w w'))
   case atStart=>exact⟨(0),zt,H',⟨Nat.le_refl _⟩,⟨by(with_reducible repeat(first|apply Kd.V_alloc|apply Kd.V_drewN|apply Kd.V_drew));exact ag.out⟩,⟨by(with_reducible repeat(first|apply Kd.V_alloc|apply Kd.V_drewN|apply Kd.V_drew));exact ak.out⟩,⟨by(with_reducible repeat(first|apply Kd.V_alloc|apply Kd.V_drewN|apply Kd.V_drew));exact ag.out⟩,⟨zK_ aa⟩,⟨zB_ HB⟩⟩
   case round =>
    clear H';(try clear aT);(try clear a4);(try clear a5);(try clear a6);(try clear a7);obtain⟨ac,rfl,HA,bj,av,ak,ag,aa,HB⟩:=hrel
    cases gk with
    | zero=>exact absurd HA.out (by simp [i5_.l0])
    | succ k2 =>
     have H:=HA.out;clear HA;simp only [i5_.l0] at H
     by_cases aI:ac<(ab.length:Int)
     ·rw [if_pos aI] at H
      have bc:=dT aI;clear aI
      have bk:=zpc H;replace H:=zph H
      have cr:=dT bk;clear bk
      have bl:=zpc H;replace H:=zph H
      have ct:=dT bl;clear bl
      by_cases aD:(rd ab ac)=ac
      ·rw [if_pos aD] at H
       have bd:((rd ab ac) == ac)=true:=beq_iff_eq.mpr aD
       have be:((rd ab ac) != ac)=false:=bne_eq_false_iff_eq.mpr aD
       clear aD;obtain rfl:=sI H
       have ar:0≤(ac:Int):=zd
       have au:ac<(ab.length:Int):=zd
       obtain⟨aC,aE,aJ⟩:=tI (Kd.V_reads' av.out).2.2 ac ar au
       cases aE
       replace ar:=eq_true ar;replace au:=eq_true au
       go_wp2
       go_ret
       exact⟨by first|rfl|(simp [*] <;> rfl),zB_ HB⟩
      rw [if_neg aD] at H
      have bd:((rd ab ac) == ac)=false:=beq_eq_false_iff_ne.mpr aD
      have be:((rd ab ac) != ac)=true:=bne_iff_ne.mpr aD
      have bm:=zpc H;replace H:=zph H
      have cu:=dT bm;clear bm
      have bn:=zpc H;replace H:=zph H
      have cv:=dT bn;clear bn
      by_cases aG:(rd ab (rd ab ac))=ac
      ·rw [if_pos aG] at H
       have bf:((rd ab (rd ab ac)) == ac)=true:=beq_iff_eq.mpr aG
       have bg:((rd ab (rd ab ac)) != ac)=false:=bne_eq_false_iff_eq.mpr aG
       clear aG;have H':=A0_ H;clear H
       have ar:0≤(ac:Int):=zd
       have au:ac<(ab.length:Int):=zd
       obtain⟨aC,aE,aJ⟩:=tI (Kd.V_reads' av.out).2.2 ac ar au
       cases aE
       replace ar:=eq_true ar;replace au:=eq_true au;have bX:=zc0 aa;have bY:=zc1 aa;have b5:=kF aa.out 0;have b6:=kF aa.out 1
       have ax:0≤((rd ab ac):Int):=zd
       have ay:(rd ab ac)<(ab.length:Int):=zd
       obtain⟨aM,aW,a8⟩:=tI (Kd.V_reads' ag.out).2.2 (rd ab ac) ax ay
       obtain rfl:aC=aM:=(by injection aW)
       replace ax:=eq_true ax;replace ay:=eq_true ay
       go_wp2
       go_roundg k2
       case measure=>have:=bh.out;have:=bj.out;omega
       case rel=>exact⟨(wrap64 (ac+1)),zt,H',⟨by have:=bh.out;have:=bj.out;omega⟩,⟨by(with_reducible repeat(first|apply Kd.V_alloc|apply Kd.V_drewN|apply Kd.V_drew));exact av.out⟩,⟨by(with_reducible repeat(first|apply Kd.V_alloc|apply Kd.V_drewN|apply Kd.V_drew));exact ak.out⟩,⟨by(with_reducible repeat(first|apply Kd.V_alloc|apply Kd.V_drewN|apply Kd.V_drew));exact ag.out⟩,⟨zK_ aa⟩,⟨zB_ HB⟩⟩
      rw [if_neg aG] at H
      have bf:((rd ab (rd ab ac)) == ac)=false:=beq_eq_false_iff_ne.mpr aG
      have bg:((rd ab (rd ab ac)) != ac)=true:=bne_iff_ne.mpr aG
      obtain rfl:=sI H
      have ar:0≤(ac:Int):=zd
      have au:ac<(ab.length:Int):=zd
      obtain⟨aC,aE,aJ⟩:=tI (Kd.V_reads' av.out).2.2 ac ar au
      cases aE
      replace ar:=eq_true ar;replace au:=eq_true au;have b7:=zc0 aa;have b8:=zc1 aa;have b9:=kF aa.out 0;have cd:=kF aa.out 1
      have ax:0≤((rd ab ac):Int):=zd
      have ay:(rd ab ac)<(ab.length:Int):=zd
      obtain⟨aM,aW,a8⟩:=tI (Kd.V_reads' ag.out).2.2 (rd ab ac) ax ay
      obtain rfl:aC=aM:=(by injection aW)
      replace ax:=eq_true ax;replace ay:=eq_true ay
      go_wp2
      go_ret
      exact⟨by first|rfl|(simp [*] <;> rfl),zB_ HB⟩
     rw [if_neg aI] at H;have bc:=dF aI;clear aI
     obtain⟨aX,aN⟩ : ∃ y_:List (List Int),y_=(([af,ab]:List (List Int))):=⟨_,rfl⟩
     replace H:((id_.f k2 aX).bind fun aH=>((sq_.f aH).bind fun aY=>(some (aY == 0))))=some r:=zH aN H
     have aZ:=A0_ aN;clear aN;obtain⟨aH,cm,H⟩:=zbind H;obtain⟨aY,cn,H⟩:=zbind H;obtain rfl:=sI H;have ce:=zc0 aa;have cf:=zc1 aa;have cg:=kF aa.out 0;have ch:=kF aa.out 1
     go_wp2_with (first|((with_reducible refine gD (N:=49) rfl ?_);refine Kd.N_lit (Kd.slice 3 (Kd.int .i64)) _ 23 ?hg (N':=49) ?hd (xs:=([af,ab]:List (List Int))) (inner := [.slice an af.length ao,.slice ap ab.length aq]) (ok:=(fun k_=>((P0_0_ k_∨P0_1_ k_)∨w.heap.size≤k_)∧k_≠aj)) (okp:=(fun k_=>((P0_0_ k_∨P0_1_ k_)∨w.heap.size≤k_)∧k_≠aj)) ?hr ?hp (fun _ hk=>hk) ((show ∀ k_,wr.heap.size≤k_→(fun k_=>((P0_0_ k_∨P0_1_ k_)∨w.heap.size≤k_)∧k_≠aj) k_ from fun k_ hk=>⟨(.inr (Nat.le_trans (bZ (zB_ HB)) hk)),Kd.freshB (g:=aj) (o := .cells #[.slice an af.length ao,.slice ap ab.length aq] 25 (0,0)) (zK_ aa) k_ hk⟩) _ (Nat.le_refl _)) (Below.refl _ _) (Nat.le_refl _) (by simp) ?_;(case hd=>rfl);(case hg=>rfl);(case hr=>first|(go_simp;done)|(go_simp;rfl));(case hp=>exact(Reps.one (show Kd.FK (Kd.slice 3 (Kd.int .i64)) _ _ af [.slice an af.length ao] from(Kd.FK_slice_mk (Kd.V_reads' (Kd.V_mono (ok':=(fun k_=>((P0_0_ k_∨P0_1_ k_)∨w.heap.size≤k_)∧k_≠aj)) (ak.out) (fun k_ hk=>⟨hk.1,hk.2⟩))).2.1 (Kd.V_F (Kd.V_mono (ok':=(fun k_=>((P0_0_ k_∨P0_1_ k_)∨w.heap.size≤k_)∧k_≠aj)) (ak.out) (fun k_ hk=>⟨hk.1,hk.2⟩))))) (Reps.one (show Kd.FK (Kd.slice 3 (Kd.int .i64)) _ _ ab [.slice ap ab.length aq] from(Kd.FK_slice_mk (Kd.V_reads' (Kd.V_mono (ok':=(fun k_=>((P0_0_ k_∨P0_1_ k_)∨w.heap.size≤k_)∧k_≠aj)) (ag.out) (fun k_ hk=>⟨hk.1,hk.2⟩))).2.1 (Kd.V_F (Kd.V_mono (ok':=(fun k_=>((P0_0_ k_∨P0_1_ k_)∨w.heap.size≤k_)∧k_≠aj)) (ag.out) (fun k_ hk=>⟨hk.1,hk.2⟩))))) (Reps.none _ _))));intro cx w33 aw hb hg_ hnew_;clear hg_ hnew_;(first|rw [← aZ.out] at aw|(simp only [Int.reduceToNat] at aw;rw [← aZ.out] at aw));replace av:=A0_ (Kd.V_elder' (by(with_reducible repeat(first|apply Kd.V_alloc|apply Kd.V_drewN|apply Kd.V_drew));exact av.out) (Kd.N_base aw) hb);replace ak:=A0_ (Kd.V_elder' (by(with_reducible repeat(first|apply Kd.V_alloc|apply Kd.V_drewN|apply Kd.V_drew));exact ak.out) (Kd.N_base aw) hb);replace ag:=A0_ (Kd.V_elder' (by(with_reducible repeat(first|apply Kd.V_alloc|apply Kd.V_drewN|apply Kd.V_drew));exact ag.out) (Kd.N_base aw) hb);have az:=A0_ (Kd.N_lower aw (bZ (zB_ HB)));replace aa:=zK aa hb;replace HB:=zB HB hb;clear hb aw;obtain⟨bo,bp,bq⟩:=Kd.N_slice az.out;subst bq)|((with_reducible refine gC (f:=60) rfl ?_);refine zJ (some 50) Tryz.func60 #[.slice bo aX.length bp] ?_;(with_reducible refine(id_.calls k2 _ _ aX aH _ ?al ?am cm.out).mono ?_);(case al=>repeat(first|exact(Kd.N_reads' az.out).2.2|(with_reducible refine cA ?_ _)|(with_reducible refine cN ?_ _)|(with_reducible refine cD ?_)));(case am=>exact(Kd.N_reads' az.out).2.1);rintro e w36 ⟨cy,rfl,aK,hb⟩;refine⟨_,rfl,?_⟩;replace av:=A0_ (Kd.V_elder' (by(with_reducible repeat(first|apply Kd.V_alloc|apply Kd.V_drewN|apply Kd.V_drew));exact av.out) (Kd.R_base aK) hb);replace ak:=A0_ (Kd.V_elder' (by(with_reducible repeat(first|apply Kd.V_alloc|apply Kd.V_drewN|apply Kd.V_drew));exact ak.out) (Kd.R_base aK) hb);replace ag:=A0_ (Kd.V_elder' (by(with_reducible repeat(first|apply Kd.V_alloc|apply Kd.V_drewN|apply Kd.V_drew));exact ag.out) (Kd.R_base aK) hb);replace az:=A0_ (Kd.N_elder' (by(with_reducible repeat(first|apply Kd.N_alloc|apply Kd.N_drewN|apply Kd.N_drew));exact az.out) (Kd.R_base aK) hb);have aQ:=A0_ (rL (Kd.R_newM (M:=fun k_=>(w.heap.size≤k_)) aK (bZ (zB_ HB)) (fun k_ h_=>h_)) (bZ (zB_ HB)));replace aa:=zK aa hb;replace HB:=zB HB hb;(try clear hb);(try clear aK);obtain⟨br,bu,bv⟩:=rS aQ.out;subst bv)|((with_reducible refine gC (f:=59) rfl ?_);refine zJ (some 51) Tryz.func59 #[.slice br aH.length bu] ?_;(with_reducible refine(sq_.calls _ _ aH aY _ ?al ?am cn.out).mono ?_);(case al=>exact zD aQ);(case am=>exact(rR aQ.out).2.1);rintro e w' ⟨rfl,⟨nd,rfl⟩⟩;refine⟨_,rfl,?_⟩))
     go_ret
     exact⟨by first|rfl|(simp [*] <;> rfl),zB_ HB⟩
def ia_.l0:Nat→List Int→List Int→Int→Int→Option (List Int)
  | 0,_,_,_,_=>none
  | k+1,x3,x8,x9,aa=>if aa<x9 then (if 0≤aa then (if aa<(x8.length:Int) then (if aa<(rd x8 aa) then (if x3.length<17592186044416 then (ia_.l0 k (x3 ++ [aa]) x8 x9 (wrap64 (aa+1))) else (none)) else (ia_.l0 k x3 x8 x9 (wrap64 (aa+1)))) else (none)) else (none)) else (some x3)
def ia_.f (k:Nat) (ab:List Int) (aa:List Int):Option (List Int):=ia_.l0 k (([]:List Int)) aa (aa.length:Int) 0
theorem ia_.calls (k:Nat) (ak:Option Addr) (al:Nat) (ag:List Int) (ao:Option Addr) (am:Nat) (ab:List Int) (r:List Int) (w:World) (av:Kd.C (Kd.int .i64) w ak ag.length ag) (aw:ag.length≤al) (ax:Kd.C (Kd.int .i64) w ao ab.length ab) (ay:ab.length≤am) (h:ia_.f k ag ab=some r) :
    Calls Tryz.prog 48 #[.agg #[.slice ak ag.length al,.slice ao ab.length am]] w fun e w' => ∃ v0_:Value,e = .returned (v0_)∧Kd.R (Kd.int .i64) 3 w' w.heap.size (fun _=>True) v0_ r∧Below w.heap.size w w':=by
 have a7:=Tryz.underlying25;have aY:=A0_ av;have aZ:=A0_ aw;clear av aw;have az:=A0_ ax;have a4:=A0_ ay;clear ax ay
 have HB:=A0_ (Below.refl w.heap.size w)
 have H:(ia_.l0 k (([]:List Int)) ab (ab.length:Int) 0)=some r:=h
 clear h
 obtain⟨aG,ap⟩ : ∃ y_:List Int,y_=(([]:List Int)):=⟨_,rfl⟩
 replace H:(ia_.l0 k aG ab (ab.length:Int) 0)=some r:=zH ap H
 have aA:=A0_ ap;clear ap;have H':=A0_ H;clear H
 go_enter Tryz.func48,Tryz.ntmps48
 go_wp2_with (first|((with_reducible refine gD (N:=1) rfl ?_);refine zX (N:=1) (cs := #[.slice ak ag.length al,.slice ao ab.length am]) (t:=25) ?_;intro aC hg w2 hbox hb;have ac:=A0_ (hbox);have a5:=zG hg HB;have a6:=zG hg HB;replace HB:=zB HB hb;clear hb hbox hg)|((with_reducible refine gD (N:=6) rfl ?_);refine Kd.R_lit (Kd.int .i64) _ 3 ?hg (N:=6) ?hd (xs:=([]:List Int)) (inner := []) (ok:=fun _=>True) (okp:=fun _=>True) ?hr ?hp (fun _ hk=>hk) trivial (Below.refl _ _) (Nat.le_refl _) (by simp) ?_;(case hd=>rfl);(case hg=>rfl);(case hr=>first|(go_simp;done)|(go_simp;rfl));(case hp=>exact(Reps.none _ _));intro a8 w3 ar hb hg_ hnew_;clear hg_ hnew_;(first|rw [← aA.out] at ar|(simp only [Int.reduceToNat] at ar;rw [← aA.out] at ar));have aN:=A0_ (rL ar (bZ (zB_ HB)));replace ac:=zK ac hb;replace HB:=zB HB hb;clear hb ar;have aH:=zc0 ac;have aI:=zc1 ac;have aJ:=kF ac.out 0;have aK:=kF ac.out 1))
 go_loopg [3,10] k (fun kq v3 v10 w' => ∃ (aj:List Int) (aa:Int),v10 = .int .i64 aa∧Aside0 (ia_.l0 kq aj ab (ab.length:Int) aa=some r)∧Aside0 (kq≤k)∧Aside0 (Kd.R (Kd.int .i64) 3 w' w.heap.size (fun _=>True) v3 aj)∧Aside0 (w'.heap[aC]? = some (.cells #[(.slice ak ag.length al),(.slice ao ab.length am)] 25 (0,0)))∧Aside0 (Below w.heap.size w w'))
 case atStart=>exact⟨(aG),(0),zt,H',⟨Nat.le_refl _⟩,⟨zR_ aN⟩,⟨zK_ ac⟩,⟨zB_ HB⟩⟩
 case round =>
  clear H';(try clear aH);(try clear aI);(try clear aJ);(try clear aK);obtain⟨aj,aa,rfl,HA,aD,an,ac,HB⟩:=hrel
  cases gk with
  | zero=>exact absurd HA.out (by simp [ia_.l0])
  | succ k1 =>
   have H:=HA.out;clear HA;simp only [ia_.l0] at H
   by_cases c6:aa<(ab.length:Int)
   ·rw [if_pos c6] at H
    have aW:=dT c6;clear c6
    have c7:=zpc H;replace H:=zph H
    have a9:=dT c7;clear c7
    have c8:=zpc H;replace H:=zph H
    have ba:=dT c8;clear c8
    by_cases c9:aa<(rd ab aa)
    ·rw [if_pos c9] at H
     have aX:=dT c9;clear c9
     have aV:=zpc H;replace H:=zph H
     have aQ:=A0_ aV;clear aV
     obtain⟨aM,aq⟩ : ∃ y_:List Int,y_=(aj ++ [aa]):=⟨_,rfl⟩
     replace H:(ia_.l0 k1 aM ab (ab.length:Int) (wrap64 (aa+1)))=some r:=zH aq H
     have aT:=A0_ aq;clear aq;have H':=A0_ H;clear H
     have ah:0≤(aa:Int):=zd
     have ai:aa<(ab.length:Int):=zd
     obtain⟨aE,au,af⟩:=tI az.out aa ah ai
     cases au
     try replace af:=(HB.out.cell (wL w _ af)).trans af
     replace ah:=eq_true ah;replace ai:=eq_true ai
     go_wp2_with (first|((with_reducible refine gB (b := .append) (xs := #[.tmp 18,.tmp 20]) rfl ?_);at_builtin;refine Kd.R_append (Kd.int .i64) (w0:=w) w.heap.size rfl (.tmp 18) (.tmp 20) 23 3 (.int .i64 0) 8 rfl Tryz.underlying23 info3 rfl (by decide) (by omega) u3 aj aa [.int .i64 aa] (fun _=>True) (fun _=>False) rfl rfl ?aP (fun _ hk=>hk.elim) ?aF ?aO ?aB ?aS ?aL ?_;(case aP=>exact rfl);(case aB=>exact(zB_ HB));(case aF=>exact(fun _ _=>trivial));(case aO=>exact(zR_ an));(case aS=>exact(bZ (zB_ HB)));(case aL=>have:=aQ.out;omega);intro bb w11 ho hb hg hat;rw [← aT.out] at ho;replace ac:=A0_ (blk_grown (g:=aC) (o := .cells #[.slice ak ag.length al,.slice (some aE) ab.length am] 25 (0,0)) (zK_ ac) hg (Kd.R_ne an.out ac.out (by decide)));replace HB:=A0_ (hb);have aU:=A0_ (ho);clear an ho hb hg hat))
     go_roundg k1
     case measure=>have:=aD.out;omega
     case rel=>exact⟨(aM),(wrap64 (aa+1)),zt,H',⟨by have:=aD.out;omega⟩,⟨zR_ aU⟩,⟨zK_ ac⟩,⟨zB_ HB⟩⟩
    rw [if_neg c9] at H;have aX:=dF c9;clear c9;have H':=A0_ H;clear H
    have ah:0≤(aa:Int):=zd
    have ai:aa<(ab.length:Int):=zd
    obtain⟨aE,au,af⟩:=tI az.out aa ah ai
    cases au
    try replace af:=(HB.out.cell (wL w _ af)).trans af
    replace ah:=eq_true ah;replace ai:=eq_true ai
    go_wp2
    go_roundg k1
    case measure=>have:=aD.out;omega
    case rel=>exact⟨(aj),(wrap64 (aa+1)),zt,H',⟨by have:=aD.out;omega⟩,⟨zR_ an⟩,⟨zK_ ac⟩,⟨zB_ HB⟩⟩
   rw [if_neg c6] at H;have aW:=dF c6;clear c6;obtain rfl:=sI H
   go_wp2
   go_ret
   exact⟨_,by first|rfl|(simp [*] <;> rfl),zR_ an,zB_ HB⟩
end Go.Proofs.YtjebcgbmlbemcaaGreatDoor.PFnExecuteContract
