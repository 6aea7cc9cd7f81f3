import Derived.Test.YtmegggomhjgehaaPFnCoverConjx6
namespace Go.Proofs.Ytmegggomhjgehaa.PFnCoverConj
open Go.RowKit Go.Proofs.YtmegggomhjgehaaW.PrintWords Go.Proofs.YtmegggomhjgehaaW.PrintLast Go.Proofs.YtmegggomhjgehaaW.PrintMore
set_option maxHeartbeats 8000000
set_option maxRecDepth 100000
attribute [local go_sem] max2_int min2_int max_two min_two max_three min_three max_four min_four
mutual
def sx_.l0:Nat→Int→List Int→List Int→Option (Bool)
  | 0,_,_,_=>none
  | k+1,x3,ab,aa=>if x3<(aa.length:Int) then (if 0≤x3 then (if (rd aa x3)=x3 then (some false) else (if 0≤(rd aa x3) then (if (rd aa x3)<(aa.length:Int) then (if (rd aa (rd aa x3))=x3 then (sx_.l0 k (wrap64 (x3+1)) ab aa) else (some false)) else (none)) else (none))) else (none)) else ((s14_.f k ab aa).bind fun ac=>(sx_.l1 k ac 0))
def sx_.l1:Nat→List Int→Int→Option (Bool)
  | 0,_,_=>none
  | k+1,x4,x5=>if x5<(x4.length:Int) then (if 0≤x5 then (if (rd x4 x5)=0 then (sx_.l1 k x4 (wrap64 (x5+1))) else (some false)) else (none)) else (some true)
end
def sx_.f (k:Nat) (aa:List Int) (ab:List Int):Option (Bool):=(s11_.f k aa ab).bind fun ac=>(if ac=true then (sx_.l0 k 0 aa ab) else (some false))
theorem sx_.calls (k:Nat) (aw:Option Addr) (ax:Nat) (ae:List Int) (ay:Option Addr) (az:Nat) (ab:List Int) (r:Bool) (w:World) (bh:Kd.C (Kd.int .i64) w aw ae.length ae) (bi:ae.length≤ax) (bj:Kd.C (Kd.int .i64) w ay ab.length ab) (bk:ab.length≤az) (h:sx_.f k ae ab=some r) :
    Calls Try.prog 57 #[.agg #[.slice aw ae.length ax,.slice ay ab.length az]] w fun e w'=>e = .returned (.bool r)∧Below w.heap.size w w':=by
 have b8:=Try.underlying25;have ap:=A0_ bh;have aq:=A0_ bi;clear bh bi;have aj:=A0_ bj;have ar:=A0_ bk;clear bj bk
 have HB:=A0_ (Below.refl w.heap.size w)
 have H:((s11_.f k ae ab).bind fun bc=>(if bc=true then (sx_.l0 k 0 ae ab) else (some false)))=some r:=h
 clear h;obtain⟨bc,A2,H⟩:=zbind H
 by_cases c3:bc=true
 ·subst c3
  rw [if_pos rfl] at H;have H':=A0_ H;clear H
  go_enter Try.func57,Try.ntmps57
  go_wp2_with (first|((with_reducible refine gD (N:=1) rfl ?_);refine zX (N:=1) (cs := #[.slice aw ae.length ax,.slice ay ab.length az]) (t:=25) ?_;intro aA hg w4 hbox hb;have aa:=A0_ (hbox);have aK:=zG hg HB;have aM:=zG hg HB;replace HB:=zB HB hb;clear hb hbox hg;have aN:=zc0 aa;have aQ:=zc1 aa;have aT:=kF aa.out 0;have aU:=kF aa.out 1)|(go_at_call 102;(with_reducible refine(s11_.calls k _ _ ae _ _ ab true _ ?af ?ag ?ah ?ai A2.out).mono ?_);(case af=>exact zC ap HB);(case ag=>exact aq.out);(case ah=>exact zC aj HB);(case ai=>exact ar.out);rintro e w' ⟨rfl,⟨nd,rfl⟩⟩;(try first|exact⟨rfl,_,World.drewN_drewN _ _ _⟩|exact⟨rfl,_,Eq.trans (World.drewN_drewN _ _ _) (congrArg (World.drewN _) (Nat.add_assoc _ _ _))⟩)))
  repeat(go_quiet (first|((with_reducible refine gD (N:=1) rfl ?_);refine zX (N:=1) (cs := #[.slice aw ae.length ax,.slice ay ab.length az]) (t:=25) ?_;intro aA hg w4 hbox hb;have aa:=A0_ (hbox);have aK:=zG hg HB;have aM:=zG hg HB;replace HB:=zB HB hb;clear hb hbox hg;have aN:=zc0 aa;have aQ:=zc1 aa;have aT:=kF aa.out 0;have aU:=kF aa.out 1)|(go_at_call 102;(with_reducible refine(s11_.calls k _ _ ae _ _ ab true _ ?af ?ag ?ah ?ai A2.out).mono ?_);(case af=>exact zC ap HB);(case ag=>exact aq.out);(case ah=>exact zC aj HB);(case ai=>exact ar.out);rintro e w' ⟨rfl,⟨nd,rfl⟩⟩;(try first|exact⟨rfl,_,World.drewN_drewN _ _ _⟩|exact⟨rfl,_,Eq.trans (World.drewN_drewN _ _ _) (congrArg (World.drewN _) (Nat.add_assoc _ _ _))⟩)));try go_wp2_with (first|((with_reducible refine gD (N:=1) rfl ?_);refine zX (N:=1) (cs := #[.slice aw ae.length ax,.slice ay ab.length az]) (t:=25) ?_;intro aA hg w4 hbox hb;have n0_:=zB HB hb;have n1_:=A0_ (hbox);have n2_:=zG hg HB;have n3_:=zG hg HB;clear HB;have HB:=n0_;have aa:=n1_;have aK:=n2_;have aM:=n3_;clear n0_ n1_ n2_ n3_ hb hbox hg;have aN:=zc0 aa;have aQ:=zc1 aa;have aT:=kF aa.out 0;have aU:=kF aa.out 1)|(go_at_call 102;(with_reducible refine(s11_.calls k _ _ ae _ _ ab true _ ?af ?ag ?ah ?ai A2.out).mono ?_);(case af=>exact zC ap HB);(case ag=>exact aq.out);(case ah=>exact zC aj HB);(case ai=>exact ar.out);rintro e w' ⟨rfl,⟨nd,rfl⟩⟩;(try first|exact⟨rfl,_,World.drewN_drewN _ _ _⟩|exact⟨rfl,_,Eq.trans (World.drewN_drewN _ _ _) (congrArg (World.drewN _) (Nat.add_assoc _ _ _))⟩))))
  go_loopg [3] k (fun kq v3 w' => ∃ (ac:Int),v3 = .int .i64 ac∧Aside0 (sx_.l0 kq ac ae ab=some r)∧Aside0 (kq≤k)∧Aside0 (w'.heap[aA]? = some (.cells #[(.slice aw ae.length ax),(.slice ay ab.length az)] 25 (0,0)))∧Aside0 (Below w.heap.size w w'))
  case atStart=>exact⟨(0),zt,H',⟨Nat.le_refl _⟩,⟨zK_ aa⟩,⟨zB_ HB⟩⟩
  case round =>
   clear H';(try clear c3);(try clear aN);(try clear aQ);(try clear aT);(try clear aU);obtain⟨ac,rfl,HA,bl,aa,HB⟩:=hrel
   cases gk with
   | zero=>exact absurd HA.out (by simp [sx_.l0])
   | succ k1 =>
    have H:=HA.out;clear HA;simp only [sx_.l0] at H
    by_cases c6:ac<(ab.length:Int)
    ·rw [if_pos c6] at H
     have br:=dT c6;clear c6
     have c7:=zpc H;replace H:=zph H
     have b9:=dT c7;clear c7
     by_cases c8:(rd ab ac)=ac
     ·rw [if_pos c8] at H
      have bI:((rd ab ac) == ac)=true:=beq_iff_eq.mpr c8
      have bJ:((rd ab ac) != ac)=false:=bne_eq_false_iff_eq.mpr c8
      clear c8;obtain rfl:=sI H;have bY:=zc0 aa;have b2:=zc1 aa;have b3:=kF aa.out 0;have b4:=kF aa.out 1
      have au:0≤(ac:Int):=zd
      have av:ac<(ab.length:Int):=zd
      obtain⟨aC,aX,ak⟩:=tI aj.out ac au av
      cases aX
      try replace ak:=(HB.out.cell (wL w _ ak)).trans ak
      replace au:=eq_true au;replace av:=eq_true av
      go_wp2
      repeat(go_quiet (fail);try go_wp2)
      go_ret
      exact⟨by first|rfl|(simp [*] <;> rfl),zB_ HB⟩
     rw [if_neg c8] at H
     have bI:((rd ab ac) == ac)=false:=beq_eq_false_iff_ne.mpr c8
     have bJ:((rd ab ac) != ac)=true:=bne_iff_ne.mpr c8
     have bE:=zpc H;replace H:=zph H
     have b5:=dT bE;clear bE
     have bF:=zpc H;replace H:=zph H
     have b6:=dT bF;clear bF
     by_cases aY:(rd ab (rd ab ac))=ac
     ·rw [if_pos aY] at H
      have bv:((rd ab (rd ab ac)) == ac)=true:=beq_iff_eq.mpr aY
      have bw:((rd ab (rd ab ac)) != ac)=false:=bne_eq_false_iff_eq.mpr aY
      clear aY;have H':=A0_ H;clear H;have bO:=zc0 aa;have bP:=zc1 aa;have bQ:=kF aa.out 0;have bR:=kF aa.out 1
      have au:0≤(ac:Int):=zd
      have av:ac<(ab.length:Int):=zd
      obtain⟨aC,aX,ak⟩:=tI aj.out ac au av
      cases aX
      try replace ak:=(HB.out.cell (wL w _ ak)).trans ak
      replace au:=eq_true au;replace av:=eq_true av
      have aD:0≤(ac:Int):=zd
      have aE:ac<(ab.length:Int):=zd
      obtain⟨a9,bd,am⟩:=tI aj.out ac aD aE
      obtain rfl:aC=a9:=(by injection bd)
      try replace am:=(HB.out.cell (wL w _ am)).trans am
      replace aD:=eq_true aD;replace aE:=eq_true aE
      have aG:0≤((rd ab ac):Int):=zd
      have aH:(rd ab ac)<(ab.length:Int):=zd
      obtain⟨ba,be,an⟩:=tI aj.out (rd ab ac) aG aH
      obtain rfl:aC=ba:=(by injection be)
      try replace an:=(HB.out.cell (wL w _ an)).trans an
      replace aG:=eq_true aG;replace aH:=eq_true aH
      go_wp2
      repeat(go_quiet (fail);try go_wp2)
      go_roundg k1
      case measure=>have:=bl.out;omega
      case rel=>exact⟨(wrap64 (ac+1)),zt,H',⟨by have:=bl.out;omega⟩,⟨zK_ aa⟩,⟨zB_ HB⟩⟩
     rw [if_neg aY] at H
     have bv:((rd ab (rd ab ac)) == ac)=false:=beq_eq_false_iff_ne.mpr aY
     have bw:((rd ab (rd ab ac)) != ac)=true:=bne_iff_ne.mpr aY
     obtain rfl:=sI H;have bU:=zc0 aa;have bV:=zc1 aa;have bW:=kF aa.out 0;have bX:=kF aa.out 1
     have au:0≤(ac:Int):=zd
     have av:ac<(ab.length:Int):=zd
     obtain⟨aC,aX,ak⟩:=tI aj.out ac au av
     cases aX
     try replace ak:=(HB.out.cell (wL w _ ak)).trans ak
     replace au:=eq_true au;replace av:=eq_true av
     have aD:0≤(ac:Int):=zd
     have aE:ac<(ab.length:Int):=zd
     obtain⟨a9,bd,am⟩:=tI aj.out ac aD aE
     obtain rfl:aC=a9:=(by injection bd)
     try replace am:=(HB.out.cell (wL w _ am)).trans am
     replace aD:=eq_true aD;replace aE:=eq_true aE
     have aG:0≤((rd ab ac):Int):=zd
     have aH:(rd ab ac)<(ab.length:Int):=zd
     obtain⟨ba,be,an⟩:=tI aj.out (rd ab ac) aG aH
     obtain rfl:aC=ba:=(by injection be)
     try replace an:=(HB.out.cell (wL w _ an)).trans an
     replace aG:=eq_true aG;replace aH:=eq_true aH
     go_wp2
     repeat(go_quiet (fail);try go_wp2)
     go_ret
     exact⟨by first|rfl|(simp [*] <;> rfl),zB_ HB⟩
    rw [if_neg c6] at H;have br:=dF c6;clear c6;obtain⟨ao,bu,H⟩:=zbind H;have H':=A0_ H;clear H;have bm:=zc0 aa;have bn:=zc1 aa;have bo:=kF aa.out 0;have bp:=kF aa.out 1
    go_wp2_with (first|(go_at_call 103;(with_reducible refine(s14_.calls k1 _ _ ae _ _ ab ao _ ?af ?ag ?ah ?ai bu.out).mono ?_);(case af=>exact zC ap HB);(case ag=>exact aq.out);(case ah=>exact zC aj HB);(case ai=>exact ar.out);rintro e w17 ⟨bf,rfl,aW,hb⟩;have bb:=A0_ (rL aW (bZ (zB_ HB)));replace aa:=zK aa hb;replace HB:=zB HB hb;(try clear hb);(try clear aW)))
    repeat(go_quiet (first|(go_at_call 103;(with_reducible refine(s14_.calls k1 _ _ ae _ _ ab ao _ ?af ?ag ?ah ?ai bu.out).mono ?_);(case af=>exact zC ap HB);(case ag=>exact aq.out);(case ah=>exact zC aj HB);(case ai=>exact ar.out);rintro e w17 ⟨bf,rfl,aW,hb⟩;have bb:=A0_ (rL aW (bZ (zB_ HB)));replace aa:=zK aa hb;replace HB:=zB HB hb;(try clear hb);(try clear aW)));try go_wp2_with (first|(go_at_call 103;(with_reducible refine(s14_.calls k1 _ _ ae _ _ ab ao _ ?af ?ag ?ah ?ai bu.out).mono ?_);(case af=>exact zC ap HB);(case ag=>exact aq.out);(case ah=>exact zC aj HB);(case ai=>exact ar.out);rintro e w17 ⟨bf,rfl,aW,hb⟩;have n0_:=A0_ (rL aW (bZ (zB_ HB)));have n1_:=zK aa hb;have n2_:=zB HB hb;clear aa HB;have bb:=n0_;have aa:=n1_;have HB:=n2_;clear n0_ n1_ n2_;(try clear hb);(try clear aW))))
    go_loopg [5] k1 (fun kq v5 w' => ∃ (al:Int),v5 = .int .i64 al∧Aside0 (sx_.l1 kq ao al=some r)∧Aside0 (kq≤k1)∧Aside0 (Kd.R (Kd.int .i64) 3 w' w.heap.size (fun _=>True) bf ao)∧Aside0 (w'.heap[aA]? = some (.cells #[(.slice aw ae.length ax),(.slice ay ab.length az)] 25 (0,0)))∧Aside0 (Below w.heap.size w w'))
    case atStart=>exact⟨(0),zt,H',⟨Nat.le_refl _⟩,⟨zR_ bb⟩,⟨zK_ aa⟩,⟨zB_ HB⟩⟩
    case round =>
     clear H';(try clear c3);(try clear c6);(try clear br);(try clear bm);(try clear bn);(try clear aN);(try clear aQ);(try clear bo);(try clear bp);(try clear aT);(try clear aU);obtain⟨al,rfl,HA,bG,aV,aa,HB⟩:=hrel
     cases gk with
     | zero=>exact absurd HA.out (by simp [sx_.l1])
     | succ k2 =>
      have H:=HA.out;clear HA;simp only [sx_.l1] at H
      by_cases a4:al<(ao.length:Int)
      ·rw [if_pos a4] at H
       have bx:=dT a4;clear a4
       have bH:=zpc H;replace H:=zph H
       have b7:=dT bH;clear bH
       by_cases aZ:(rd ao al)=0
       ·rw [if_pos aZ] at H
        have bz:((rd ao al) == 0)=true:=beq_iff_eq.mpr aZ
        have bB:((rd ao al) != 0)=false:=bne_eq_false_iff_eq.mpr aZ
        clear aZ;have H':=A0_ H;clear H;obtain⟨ca,cb,bK⟩:=rS aV.out;subst bK
        have aI:0≤(al:Int):=zd
        have aJ:al<(ao.length:Int):=zd
        obtain⟨bC,bg,bq⟩:=tI (rR aV.out).2.2 al aI aJ
        cases bg
        replace aI:=eq_true aI;replace aJ:=eq_true aJ
        go_wp2
        repeat(go_quiet (fail);try go_wp2)
        go_roundg k2
        case measure=>have:=bl.out;have:=bG.out;omega
        case rel=>exact⟨(wrap64 (al+1)),zt,H',⟨by have:=bl.out;have:=bG.out;omega⟩,⟨zR_ aV⟩,⟨zK_ aa⟩,⟨zB_ HB⟩⟩
       rw [if_neg aZ] at H
       have bz:((rd ao al) == 0)=false:=beq_eq_false_iff_ne.mpr aZ
       have bB:((rd ao al) != 0)=true:=bne_iff_ne.mpr aZ
       obtain rfl:=sI H;obtain⟨cc,cd,bL⟩:=rS aV.out;subst bL
       have aI:0≤(al:Int):=zd
       have aJ:al<(ao.length:Int):=zd
       obtain⟨bC,bg,bq⟩:=tI (rR aV.out).2.2 al aI aJ
       cases bg
       replace aI:=eq_true aI;replace aJ:=eq_true aJ
       go_wp2
       repeat(go_quiet (fail);try go_wp2)
       go_ret
       exact⟨by first|rfl|(simp [*] <;> rfl),zB_ HB⟩
      rw [if_neg a4] at H;have bx:=dF a4;clear a4;obtain rfl:=sI H;obtain⟨ce,cf,bM⟩:=rS aV.out;subst bM
      go_wp2
      repeat(go_quiet (fail);try go_wp2)
      go_ret
      exact⟨by first|rfl|(simp [*] <;> rfl),zB_ HB⟩
 replace c3:=Bool.eq_false_iff.mpr c3;subst c3
 rw [if_neg (show ¬ (false=true) by decide)] at H
 obtain rfl:=sI H
 go_enter Try.func57,Try.ntmps57
 go_wp2_with (first|((with_reducible refine gD (N:=1) rfl ?_);refine zX (N:=1) (cs := #[.slice aw ae.length ax,.slice ay ab.length az]) (t:=25) ?_;intro aA hg w24 hbox hb;have aa:=A0_ (hbox);have aK:=zG hg HB;have aM:=zG hg HB;replace HB:=zB HB hb;clear hb hbox hg;have a5:=zc0 aa;have a6:=zc1 aa;have a7:=kF aa.out 0;have a8:=kF aa.out 1)|(go_at_call 102;(with_reducible refine(s11_.calls k _ _ ae _ _ ab false _ ?af ?ag ?ah ?ai A2.out).mono ?_);(case af=>exact zC ap HB);(case ag=>exact aq.out);(case ah=>exact zC aj HB);(case ai=>exact ar.out);rintro e w' ⟨rfl,⟨nd,rfl⟩⟩;(try first|exact⟨rfl,_,World.drewN_drewN _ _ _⟩|exact⟨rfl,_,Eq.trans (World.drewN_drewN _ _ _) (congrArg (World.drewN _) (Nat.add_assoc _ _ _))⟩)))
 repeat(go_quiet (first|((with_reducible refine gD (N:=1) rfl ?_);refine zX (N:=1) (cs := #[.slice aw ae.length ax,.slice ay ab.length az]) (t:=25) ?_;intro aA hg w24 hbox hb;have aa:=A0_ (hbox);have aK:=zG hg HB;have aM:=zG hg HB;replace HB:=zB HB hb;clear hb hbox hg;have a5:=zc0 aa;have a6:=zc1 aa;have a7:=kF aa.out 0;have a8:=kF aa.out 1)|(go_at_call 102;(with_reducible refine(s11_.calls k _ _ ae _ _ ab false _ ?af ?ag ?ah ?ai A2.out).mono ?_);(case af=>exact zC ap HB);(case ag=>exact aq.out);(case ah=>exact zC aj HB);(case ai=>exact ar.out);rintro e w' ⟨rfl,⟨nd,rfl⟩⟩;(try first|exact⟨rfl,_,World.drewN_drewN _ _ _⟩|exact⟨rfl,_,Eq.trans (World.drewN_drewN _ _ _) (congrArg (World.drewN _) (Nat.add_assoc _ _ _))⟩)));try go_wp2_with (first|((with_reducible refine gD (N:=1) rfl ?_);refine zX (N:=1) (cs := #[.slice aw ae.length ax,.slice ay ab.length az]) (t:=25) ?_;intro aA hg w24 hbox hb;have n0_:=zB HB hb;have n1_:=A0_ (hbox);have n2_:=zG hg HB;have n3_:=zG hg HB;clear HB;have HB:=n0_;have aa:=n1_;have aK:=n2_;have aM:=n3_;clear n0_ n1_ n2_ n3_ hb hbox hg;have a5:=zc0 aa;have a6:=zc1 aa;have a7:=kF aa.out 0;have a8:=kF aa.out 1)|(go_at_call 102;(with_reducible refine(s11_.calls k _ _ ae _ _ ab false _ ?af ?ag ?ah ?ai A2.out).mono ?_);(case af=>exact zC ap HB);(case ag=>exact aq.out);(case ah=>exact zC aj HB);(case ai=>exact ar.out);rintro e w' ⟨rfl,⟨nd,rfl⟩⟩;(try first|exact⟨rfl,_,World.drewN_drewN _ _ _⟩|exact⟨rfl,_,Eq.trans (World.drewN_drewN _ _ _) (congrArg (World.drewN _) (Nat.add_assoc _ _ _))⟩))))
 go_ret
 exact⟨by first|rfl|(simp [*] <;> rfl),zB_ HB⟩
def s1g_.l0:Nat→Int→List Int→Int→List Int→Int→Option (List Int×Int)
  | 0,_,_,_,_,_=>none
  | k+1,x1,x5,x6,ab,ac=>if x6<x1 then ((s1a_.f k ab ac (wrap64 (x6+1))).bind fun aa=>(if aa.1=x6 then (if x5.length<17592186044416 then (s1g_.l0 k x1 (x5 ++ [x6]) (wrap64 (x6+1)) ab aa.2) else (none)) else (if 0≤aa.1 then (if aa.1<(x5.length:Int) then (if x5.length<17592186044416 then ((some (x5 ++ [rd x5 aa.1]:List Int)).bind fun ae=>(if aa.1<(ae.length:Int) then (s1g_.l0 k x1 (ae.set (aa.1:Int).toNat x6) (wrap64 (x6+1)) ab aa.2) else (none))) else (none)) else (none)) else (none)))) else (some (x5,ac))
def s1g_.f (k:Nat) (s0_0:List Int) (s0_1:Int) (a1:Int):Option (List Int×Int):=s1g_.l0 k a1 (([]:List Int)) 0 s0_0 s0_1
theorem s1g_.calls (k:Nat) (g:Nat) (s0_0:List Int) (s0_1:Int) (a1:Int) (r1:List Int) (r2:Int) (w0 w:World) (hI:IsS82 w0 w g s0_0 s0_1) (hB:Below w0.heap.size w0 w) (h:s1g_.f k s0_0 s0_1 a1=some (r1,r2)) :
    Calls Try.prog 87 #[.pointer (some ⟨g,0,none⟩),.int .i64 a1] w fun e w' => ∃ v0_:Value,e = .returned (v0_)∧Kd.R (Kd.int .i64) 3 w' w.heap.size (fun _=>True) v0_ r1∧IsS82 w0 w' g s0_0 r2∧Below w0.heap.size w0 w'∧KeepBut w w' g none:=by
 have HI0:=A0_ hI
 have HK:=A0_ (KeepBut.refl w g none)
 have HL:=A0_ hB.size;clear hI;have HW0:=A0_ hB.size;have HB:=A0_ hB;clear hB
 have H:(s1g_.l0 k a1 (([]:List Int)) 0 s0_0 s0_1)=some (r1,r2):=h
 clear h
 obtain⟨ay,aj⟩ : ∃ y_:List Int,y_=(([]:List Int)):=⟨_,rfl⟩
 replace H:(s1g_.l0 k a1 ay 0 s0_0 s0_1)=some (r1,r2):=zH aj H
 have aw:=A0_ aj;clear aj;have H':=A0_ H;clear H
 go_enter Try.func87,Try.ntmps87
 go_wp2_with (first|((with_reducible refine gD (N:=8) rfl ?_);refine Kd.R_lit (Kd.int .i64) _ 3 ?hg (N:=8) ?hd (xs:=([]:List Int)) (inner := []) (ok:=fun _=>True) (okp:=fun _=>True) ?hr ?hp (fun _ hk=>hk) trivial (Below.refl _ _) (Nat.le_refl _) (by simp) ?_;(case hd=>rfl);(case hg=>rfl);(case hr=>first|(go_simp;done)|(go_simp;rfl));(case hp=>exact(Reps.none _ _));intro be w3 ap hb hg_ hnew_;clear hg_ hnew_;(first|rw [← aw.out] at ap|(simp only [Int.reduceToNat] at ap;rw [← aw.out] at ap));have aG:=A0_ (rL ap (keep_size (w:=w) (g:=g) (row:=none) (zKp HK)));replace HK:=A0_ (KeepBut.trans (zKp HK) (KeepBut.of_below hb g none) (.inl rfl));replace HB:=A0_ (bT (zBw HB) hb);replace HI0:=A0_ (IsS82.below (zIs HI0) hb);clear hb ap))
 go_loopg [5,6] k (fun kq v5 v6 w' => ∃ (af:List Int) (aa:Int) (ae:Int),v6 = .int .i64 aa∧Aside0 (s1g_.l0 kq a1 af aa s0_0 ae=some (r1,r2))∧Aside0 (kq≤k)∧Aside0 (Kd.R (Kd.int .i64) 3 w' w.heap.size (fun _=>True) v5 af)∧Aside0 (IsS82 w0 w' g s0_0 ae)∧Aside0 (KeepBut w w' g none)∧Aside0 (Below w0.heap.size w0 w'))
 case atStart=>exact⟨(ay),(0),(s0_1),zt,H',⟨Nat.le_refl _⟩,⟨zR_ aG⟩,⟨zIs HI0⟩,⟨zKp HK⟩,⟨zBw HB⟩⟩
 case round =>
  clear H';obtain⟨af,aa,ae,rfl,HA,ax,ac,HI0,HK,HB⟩:=hrel
  cases gk with
  | zero=>exact absurd HA.out (by simp [s1g_.l0])
  | succ k1 =>
   have H:=HA.out;clear HA;simp only [s1g_.l0] at H
   by_cases c5:aa<a1
   ·rw [if_pos c5] at H
    have aW:=dT c5;clear c5;obtain⟨⟨ab,ah⟩,A6,H⟩:=zbind H;dsimp only at H
    by_cases c7:ab=aa
    ·rw [if_pos c7] at H
     have aX:(ab == aa)=true:=beq_iff_eq.mpr c7
     have aY:(ab != aa)=false:=bne_eq_false_iff_eq.mpr c7
     clear c7
     have c8:=zpc H;replace H:=zph H
     have aZ:=A0_ c8;clear c8
     obtain⟨az,ak⟩ : ∃ y_:List Int,y_=(af ++ [aa]):=⟨_,rfl⟩
     replace H:(s1g_.l0 k1 a1 az (wrap64 (aa+1)) s0_0 ah)=some (r1,r2):=zH ak H
     have aH:=A0_ ak;clear ak;have H':=A0_ H;clear H
     go_wp2_with (first|((with_reducible refine gC (f:=74) rfl ?_);refine zJ (some 17) Try.func74 #[.pointer (some ⟨g,0,none⟩),.int .i64 (wrap64 (aa+1))] ?_;(with_reducible refine(s1a_.calls k1 g s0_0 ae (wrap64 (aa+1)) ab ah w0 _ ?al ?am A6.out).mono ?_);(case al=>repeat(first|(with_reducible first|exact HI0.out|apply IsS82.alloc|apply IsS82.drewN|apply IsS82.drew|apply IsS82.set_1)|exact HI0.out));(case am=>repeat(first|(with_reducible first|exact HB.out|apply bA|apply bN|apply bD|refine bS ?_ (IsS82.ge HI0.out))|exact HB.out));rintro e w9 ⟨rfl,hi,hb,hk⟩;refine⟨_,rfl,?_⟩;replace ac:=A0_ (rM (Kd.R_keep (IsS82.apart (show IsS82 w0 _ g s0_0 ae from zIs HI0) (zR_ ac) (by decide)) hk (fun _ h=>h.2)) (fun _ h=>h.1));replace HK:=A0_ (KeepBut.trans (zKp HK) hk (.inl rfl));replace HB:=A0_ (hb);replace HI0:=A0_ (hi);(try clear hb))|((with_reducible refine gB (b := .append) (xs := #[.tmp 21,.tmp 23]) rfl ?_);at_builtin;refine Kd.R_append (Kd.int .i64) w.heap.size rfl (.tmp 21) (.tmp 23) 23 3 (.int .i64 0) 8 rfl Try.underlying23 info3 rfl (by decide) (by omega) u5 af aa [.int .i64 aa] (fun _=>True) (fun _=>False) rfl rfl ?aP (fun _ hk=>hk.elim) ?aF ?aO (Below.refl _ _) ?aS ?aL ?_;(case aP=>exact rfl);(case aF=>exact(fun _ _=>trivial));(case aO=>exact(zR_ ac));(case aS=>exact(keep_size (w:=w) (g:=g) (row:=none) (zKp HK)));(case aL=>have:=aZ.out;omega);intro bf w10 ho hb hg hat;rw [← aH.out] at ho;replace HB:=A0_ (below_weaken (zBw HB) HL.out hb);replace HI0:=A0_ (IsS82.grown (zIs HI0) hg (IsS82.own_ne HI0.out ac.out (by decide)));replace HK:=A0_ (KeepBut.trans (zKp HK) (KeepBut.of_grown hg g) (Kd.R_base2 ac.out));have aI:=A0_ (ho);clear ac ho hb hg hat))
     go_roundg k1
     case measure=>have:=ax.out;omega
     case rel=>exact⟨(az),(wrap64 (aa+1)),(ah),zt,H',⟨by have:=ax.out;omega⟩,⟨zR_ aI⟩,⟨zIs HI0⟩,⟨zKp HK⟩,⟨zBw HB⟩⟩
    rw [if_neg c7] at H
    have aX:(ab == aa)=false:=beq_eq_false_iff_ne.mpr c7
    have aY:(ab != aa)=true:=bne_iff_ne.mpr c7
    have aQ:=zpc H;replace H:=zph H
    have bb:=dT aQ;clear aQ
    have aT:=zpc H;replace H:=zph H
    have bc:=dT aT;clear aT
    have aU:=zpc H;replace H:=zph H
    have aJ:=A0_ aU;clear aU
    obtain⟨ai,an⟩ : ∃ y_:List Int,y_=(af ++ [rd af ab]):=⟨_,rfl⟩
    replace H:(if ab<(ai.length:Int) then (s1g_.l0 k1 a1 (ai.set (ab:Int).toNat aa) (wrap64 (aa+1)) s0_0 ah) else (none))=some (r1,r2):=zH an H
    have aK:=A0_ an;clear an
    have aV:=zpc H;replace H:=zph H
    have bd:=dT aV;clear aV
    obtain⟨aq,ao⟩ : ∃ y_:List Int,y_=(ai.set (ab:Int).toNat aa):=⟨_,rfl⟩
    replace H:(s1g_.l0 k1 a1 aq (wrap64 (aa+1)) s0_0 ah)=some (r1,r2):=zH ao H
    have aM:=A0_ ao;clear ao;have H':=A0_ H;clear H
    go_wp2_with (first|((with_reducible refine gC (f:=74) rfl ?_);refine zJ (some 17) Try.func74 #[.pointer (some ⟨g,0,none⟩),.int .i64 (wrap64 (aa+1))] ?_;(with_reducible refine(s1a_.calls k1 g s0_0 ae (wrap64 (aa+1)) ab ah w0 _ ?al ?am A6.out).mono ?_);(case al=>repeat(first|(with_reducible first|exact HI0.out|apply IsS82.alloc|apply IsS82.drewN|apply IsS82.drew|apply IsS82.set_1)|exact HI0.out));(case am=>repeat(first|(with_reducible first|exact HB.out|apply bA|apply bN|apply bD|refine bS ?_ (IsS82.ge HI0.out))|exact HB.out));rintro e w16 ⟨rfl,hi,hb,hk⟩;refine⟨_,rfl,?_⟩;replace ac:=A0_ (rM (Kd.R_keep (IsS82.apart (show IsS82 w0 _ g s0_0 ae from zIs HI0) (zR_ ac) (by decide)) hk (fun _ h=>h.2)) (fun _ h=>h.1));replace HK:=A0_ (KeepBut.trans (zKp HK) hk (.inl rfl));replace HB:=A0_ (hb);replace HI0:=A0_ (hi);(try clear hb);obtain⟨bg,a4,a5⟩:=rS ac.out;subst a5;have ar:0≤(ab:Int):=zd;have au:ab<(af.length:Int):=zd;obtain⟨aN,a6,a8⟩:=tI (rR ac.out).2.2 ab ar au;cases a6;replace ar:=eq_true ar;replace au:=eq_true au)|((with_reducible refine gB (b := .append) (xs := #[.tmp 25,.tmp 30]) rfl ?_);at_builtin;refine Kd.R_append (Kd.int .i64) w.heap.size rfl (.tmp 25) (.tmp 30) 23 3 (.int .i64 0) 8 rfl Try.underlying23 info3 rfl (by decide) (by omega) (.slice (some aN) af.length a4) af (rd af ab) [.int .i64 (rd af ab)] (fun _=>True) (fun _=>False) rfl rfl ?aP (fun _ hk=>hk.elim) ?aF ?aO (Below.refl _ _) ?aS ?aL ?_;(case aP=>exact rfl);(case aF=>exact(fun _ _=>trivial));(case aO=>exact(zR_ ac));(case aS=>exact(keep_size (w:=w) (g:=g) (row:=none) (zKp HK)));(case aL=>have:=aJ.out;omega);intro bh w18 ho hb hg hat;rw [← aK.out] at ho;replace HB:=A0_ (below_weaken (zBw HB) HL.out hb);replace HI0:=A0_ (IsS82.grown (zIs HI0) hg (IsS82.own_ne HI0.out ac.out (by decide)));replace HK:=A0_ (KeepBut.trans (zKp HK) (KeepBut.of_grown hg g) (Kd.R_base2 ac.out));have ag:=A0_ (ho);clear ac ho hb hg hat;have aA:0≤(ab:Int):=zd;have aC:(ab:Int)<((ai.length:Int):Int):=zd;obtain⟨av,a7,aD,aE,gl15,cl15,HG15⟩:=Kd.R_form ag.out (by omega);(first|cases aD|(injection aD with ea_ en_ ec_;(first|subst ea_|(injection ea_ with ea_;subst ea_));subst ec_;clear en_));have GB15:=A0_ aE;have GG15:=A0_ HG15;clear aE gl15 HG15;obtain⟨a9,ba⟩:=Kd.R_celln 0 ag.out (ab:Int) aA aC;replace aA:=eq_true aA;replace aC:=eq_true aC;obtain⟨hy19_,hz19_⟩:=Kd.R_celln 0 ag.out (ab:Int) (zd) (zd);have HP19:=Kd.R_putg ag.out (ab:Int) aa)|((with_reducible refine gS (t:=3) (p:=35) rfl ?_);refine store_event (t:=3) (p:=35) (v := ?vo_w20) (w1:=(w18.setCell ⟨av,(ab:Int).toNat,none⟩ (.int .i64 aa))) ?hg ?ho ?hn ?hr ?_;(case ho=>rfl);(case hg=>rfl);(case hn=>rfl);(case hr=>first|(go_simp;done)|(go_simp;rfl));intro w20 hw;have hg:w18.grownBy w20 (some av):=(by rw [hw];exact HP19.2);have hp_:Kd.R (Kd.int .i64) 3 w20 w.heap.size (fun _=>True) (.slice (some ⟨av,0,none⟩) ai.length a7) aq:=(by rw [hw,aM.out];exact HP19.1);clear HP19;replace HI0:=A0_ (IsS82.grown (zIs HI0) hg (IsS82.own_ne HI0.out ag.out (by decide)));replace HB:=A0_ ((by rw [hw];exact bS (HB.out) (Nat.le_trans HL.out GB15.out):Below w0.heap.size w0 w20));replace HK:=A0_ (KeepBut.trans (zKp HK) (KeepBut.of_grown hg g) (Kd.R_base2 ag.out));replace ag:=A0_ (hp_);clear hg hw hp_))
    go_roundg k1
    case measure=>have:=ax.out;omega
    case rel=>exact⟨(aq),(wrap64 (aa+1)),(ah),zt,H',⟨by have:=ax.out;omega⟩,⟨zR_ ag⟩,⟨zIs HI0⟩,⟨zKp HK⟩,⟨zBw HB⟩⟩
   rw [if_neg c5] at H;have aW:=dF c5;clear c5;simp only [Option.some.injEq,Prod.mk.injEq] at H;obtain⟨rfl,rfl⟩:=H
   go_wp2
   go_ret
   exact⟨_,by first|rfl|(simp [*] <;> rfl),zR_ ac,zIs HI0,zBw HB,zKp HK⟩
end Go.Proofs.Ytmegggomhjgehaa.PFnCoverConj
