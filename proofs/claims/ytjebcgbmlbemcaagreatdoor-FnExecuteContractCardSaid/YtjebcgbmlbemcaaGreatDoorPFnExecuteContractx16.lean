import Derived.Test.YtjebcgbmlbemcaaGreatDoorPFnExecuteContractx15
namespace Go.Proofs.YtjebcgbmlbemcaaGreatDoor.PFnExecuteContract
open Go.RowKit Go.Proofs.YtjebcgbmlbemcaaGreatDoorW.PrintWords Go.Proofs.YtjebcgbmlbemcaaGreatDoorW.PrintLast Go.Proofs.YtjebcgbmlbemcaaGreatDoorW.PrintMore
set_option maxHeartbeats 8000000
set_option maxRecDepth 100000
attribute [local go_sem] max2_int min2_int max_two min_two max_three min_three max_four min_four
set_option linter.unusedVariables false
set_option linter.unusedSimpArgs false
mutual
def s1a_.l0:Nat→List Int→List Int→List Int→Int→List Int→List Int→Option (Int)
  | 0,_,_,_,_,_,_=>none
  | k+1,x1,x5,x6,x7,ab,aa=>if x7<(x5.length:Int) then (if 0≤x7 then (if x7<(x6.length:Int) then ((s18_.f k x1 (rd x6 x7)).bind fun ac=>(if ac=true then (if x7<(aa.length:Int) then (s1a_.l0 k x1 (x5.set (x7:Int).toNat (rd aa x7)) x6 (wrap64 (x7+1)) ab aa) else (none)) else (s1a_.l0 k x1 x5 x6 (wrap64 (x7+1)) ab aa))) else (none)) else (none)) else ((s10_.f k ab x5).bind fun af=>(s1a_.l1 k af 0 0))
def s1a_.l1:Nat→List Int→Int→Int→Option (Int)
  | 0,_,_,_=>none
  | k+1,x8,x9,aa=>if aa<(x8.length:Int) then (if 0≤aa then (if (rd x8 aa)=aa then (s1a_.l1 k x8 (wrap64 (x9+1)) (wrap64 (aa+1))) else (s1a_.l1 k x8 x9 (wrap64 (aa+1)))) else (none)) else (some x9)
end
def s1a_.f (k:Nat) (ab:List Int) (aa:List Int) (l1:List Int):Option (Int):=(s11_.f k (aa.length:Int)).bind fun ac=>((s17_.f k ab aa).bind fun af=>(s1a_.l0 k l1 ac af 0 ab aa))
theorem s1a_.calls (k:Nat) (am:Option Addr) (an:Nat) (ah:List Int) (au:Option Addr) (aq:Nat) (af:List Int) (A1:Option Addr) (c1:Nat) (l1:List Int) (r:Int) (w:World) (be:Kd.C (Kd.int .i64) w am ah.length ah) (bf:ah.length≤an) (bg:Kd.C (Kd.int .i64) w au af.length af) (bh:af.length≤aq) (bR:Kd.C (Kd.int .i64) w A1 l1.length l1) (bU:l1.length≤c1) (h:s1a_.f k ah af l1=some r) :
    Calls Tryz.prog 86 #[.agg #[.slice am ah.length an,.slice au af.length aq],.slice A1 l1.length c1] w fun e w'=>e = .returned (.int .i64 r)∧Below w.heap.size w w':=by
 have cG:=Tryz.underlying25;have bi:=A0_ be;have bj:=A0_ bf;clear be bf;have bk:=A0_ bg;have bH:=A0_ bh;clear bg bh;have bV:=A0_ bR;have bW:=A0_ bU;clear bR bU
 have HB:=A0_ (Below.refl w.heap.size w)
 have H:((s11_.f k (af.length:Int)).bind fun aQ=>((s17_.f k ah af).bind fun ai=>(s1a_.l0 k l1 aQ ai 0 ah af)))=some r:=h
 clear h;obtain⟨aQ,A3,H⟩:=zbind H;obtain⟨ai,A4,H⟩:=zbind H;have H':=A0_ H;clear H
 go_enter Tryz.func86,Tryz.ntmps86
 go_wp2_with (first|((with_reducible refine gD (N:=2) rfl ?_);refine zX (N:=2) (cs := #[.slice am ah.length an,.slice au af.length aq]) (t:=25) ?_;intro aD hg w5 hbox hb;have aa:=A0_ (hbox);have cx:=zG hg HB;have cy:=zG hg HB;replace HB:=zB HB hb;clear hb hbox hg;have aW:=zc0 aa;have aX:=zc1 aa;have aY:=kF aa.out 0;have aZ:=kF aa.out 1)|((with_reducible refine gC (f:=95) rfl ?_);refine zJ (some 14) Tryz.func95 #[.int .i64 (af.length:Int)] ?_;(with_reducible refine(s11_.calls k (af.length:Int) aQ _ A3.out).mono ?_);rintro e w7 ⟨bx,rfl,ar,hb⟩;refine⟨_,rfl,?_⟩;have aE:=A0_ (rL ar (bZ (zB_ HB)));replace aa:=zK aa hb;replace HB:=zB HB hb;(try clear hb);(try clear ar);have a4:=zc0 aa;have a5:=zc1 aa;have a6:=kF aa.out 0;have a7:=kF aa.out 1)|((with_reducible refine gC (f:=94) rfl ?_);refine zJ (some 16) Tryz.func94 #[.agg #[.slice am ah.length an,.slice au af.length aq]] ?_;(with_reducible refine(s17_.calls k _ _ ah _ _ af ai _ ?ao ?ap ?aT ?aU A4.out).mono ?_);(case ao=>exact zC bi HB);(case ap=>exact bj.out);(case aT=>exact zC bk HB);(case aU=>exact bH.out);rintro e w9 ⟨bz,rfl,ar,hb⟩;refine⟨_,rfl,?_⟩;have bI:=A0_ (rL (Kd.R_new' ar (rX (zR_ aE))) (bZ (zB_ HB)));replace aE:=A0_ (Kd.R_elder' (zR_ aE) (Kd.R_base ar) hb);replace aa:=zK aa hb;replace HB:=zB HB hb;(try clear hb);(try clear ar)))
 go_loopg [7] k (fun kq v7 w' => ∃ (aj:List Int) (ab:Int),v7 = .int .i64 ab∧Aside0 (s1a_.l0 kq l1 aj ai ab ah af=some r)∧Aside0 (kq≤k)∧Aside0 (Kd.R (Kd.int .i64) 3 w' w.heap.size (fun k_=>nO k_ bz) bx aj)∧Aside0 (Kd.R (Kd.int .i64) 3 w' w.heap.size (fun k_=>nO k_ bx) bz ai)∧Aside0 (w'.heap[aD]? = some (.cells #[(.slice am ah.length an),(.slice au af.length aq)] 25 (0,0)))∧Aside0 (Below w.heap.size w w'))
 case atStart=>exact⟨(aQ),(0),zt,H',⟨Nat.le_refl _⟩,⟨zmR aE (fun _ hk=>hk.2)⟩,⟨zmR bI (fun _ hk=>hk.2)⟩,⟨zK_ aa⟩,⟨zB_ HB⟩⟩
 case round =>
  clear H';(try clear c1);(try clear aW);(try clear aX);(try clear a4);(try clear a5);(try clear aY);(try clear aZ);(try clear a6);(try clear a7);obtain⟨aj,ab,rfl,HA,aC,ag,ak,aa,HB⟩:=hrel
  cases gk with
  | zero=>exact absurd HA.out (by simp [s1a_.l0])
  | succ k1 =>
   have H:=HA.out;clear HA;simp only [s1a_.l0] at H
   by_cases aH:ab<(aj.length:Int)
   ·rw [if_pos aH] at H
    have bl:=dT aH;clear aH
    have bX:=zpc H;replace H:=zph H
    have cz:=dT bX;clear bX
    have bY:=zpc H;replace H:=zph H
    have cC:=dT bY;clear bY;obtain⟨b8,b5,H⟩:=zbind H
    by_cases bm:b8=true
    ·subst bm
     rw [if_pos rfl] at H
     have b6:=zpc H;replace H:=zph H
     have cE:=dT b6;clear b6
     obtain⟨a8,aV⟩ : ∃ y_:List Int,y_=(aj.set (ab:Int).toNat (rd af ab)):=⟨_,rfl⟩
     replace H:(s1a_.l0 k1 l1 a8 ai (wrap64 (ab+1)) ah af)=some r:=zH aV H
     have bJ:=A0_ aV;clear aV;have H':=A0_ H;clear H;obtain⟨bB,aI,b9⟩:=rS ag.out;subst b9;obtain⟨cH,a9,cd⟩:=rS ak.out;subst cd
     have av:0≤(ab:Int):=zd
     have aw:ab<(ai.length:Int):=zd
     obtain⟨aG,ba,bo⟩:=tI (rR ak.out).2.2 ab av aw
     cases ba
     replace av:=eq_true av;replace aw:=eq_true aw
     go_wp2_with (first|((with_reducible refine gC (f:=118) rfl ?_);refine zJ (some 28) Tryz.func118 #[.slice A1 l1.length c1,.int .i64 (rd ai ab)] ?_;(with_reducible refine(s18_.calls k1 _ _ l1 (rd ai ab) true _ ?ao ?ap b5.out).mono ?_);(case ao=>exact zC bV HB);(case ap=>exact bW.out);rintro e w' ⟨rfl,⟨nd,rfl⟩⟩;refine⟨_,rfl,?_⟩;(try(rw [drewN_self wr];generalize hq_:World.drewN wr _=wr;have n0_:Aside0 (Kd.R (Kd.int .i64) 3 wr w.heap.size (fun k_=>nL k_ (some aG) ai a9) (.slice bB aj.length aI) aj):=⟨by rw [← hq_];exact(zR_ ag)⟩;have n1_:Aside0 (Kd.R (Kd.int .i64) 3 wr w.heap.size (fun k_=>nL k_ bB aj aI) (.slice (some aG) ai.length a9) ai):=⟨by rw [← hq_];exact(zR_ ak)⟩;have n2_:Aside0 (wr.heap[aD]? = some (.cells #[.slice am ah.length an,.slice au af.length aq] 25 (0,0))):=⟨by rw [← hq_];exact(zK_ aa)⟩;have n3_:Aside0 (Below w.heap.size w wr):=⟨by rw [← hq_];exact(zB_ HB)⟩;clear ag ak aa HB hq_;have ag:=n0_;have ak:=n1_;have aa:=n2_;have HB:=n3_;clear n0_ n1_ n2_ n3_));have cp:=zc0 aa;have cq:=zc1 aa;have cr:=kF aa.out 0;have ct:=kF aa.out 1;have bb:0≤(ab:Int):=zd;have bc:ab<(af.length:Int):=zd;obtain⟨bK,ce,aA⟩:=tI bk.out ab bb bc;cases ce;try replace aA:=(HB.out.cell (wL w _ aA)).trans aA;replace bb:=eq_true bb;replace bc:=eq_true bc;have bC:0≤(ab:Int):=zd;have bE:(ab:Int)<((aj.length:Int):Int):=zd;obtain⟨aJ,cI,bF,bG,gl16,cl16,HG16⟩:=Kd.R_form ag.out (by omega);(first|cases bF|(injection bF with ea_ en_ ec_;(first|subst ea_|(injection ea_ with ea_;subst ea_));subst ec_;clear en_));have GB16:=A0_ bG;have GG16:=A0_ HG16;clear bG gl16 HG16;obtain⟨cu,cv⟩:=Kd.R_celln 0 ag.out (ab:Int) bC bE;replace bC:=eq_true bC;replace bE:=eq_true bE;obtain⟨hy20_,hz20_⟩:=Kd.R_celln 0 ag.out (ab:Int) (zd) (zd);have HP20:=Kd.R_putg ag.out (ab:Int) (rd af ab))|((with_reducible refine gS (t:=3) (p:=36) rfl ?_);refine store_event (t:=3) (p:=36) (v := ?vo_w21) (w1:=(wr.setCell ⟨aJ,(ab:Int).toNat,none⟩ (.int .i64 (rd af ab)))) ?hg ?ho ?hn ?hr ?_;(case ho=>rfl);(case hg=>rfl);(case hn=>rfl);(case hr=>first|(go_simp;done)|(go_simp;rfl));intro w21 hw;have hg:wr.grownBy w21 (some aJ):=(by rw [hw];exact HP20.2);have hp_:Kd.R (Kd.int .i64) 3 w21 w.heap.size (fun k_=>nL k_ (some aG) ai a9) (.slice (some ⟨aJ,0,none⟩) aj.length aI) a8:=(by rw [hw,bJ.out];exact HP20.1);clear HP20;replace ak:=A0_ (Kd.R_after (v:=(.slice (some ⟨aJ,0,none⟩) aj.length aI)) (v1:=(.slice (some ⟨aJ,0,none⟩) aj.length aI)) (ok:=(fun _=>True)) (zmR ak (fun _ hk=>⟨trivial,hk⟩)) hg (.inl rfl));replace aa:=A0_ (blk_grown (g:=aD) (o := .cells #[.slice am ah.length an,.slice (some bK) af.length aq] 25 (0,0)) (zK_ aa) hg (Kd.R_ne ag.out aa.out (by decide)));replace ag:=A0_ (hp_);replace HB:=A0_ ((by rw [hw];exact bS (HB.out) GB16.out:Below w.heap.size w w21));clear hg hw hp_))
     go_roundg k1
     case measure=>have:=aC.out;omega
     case rel=>exact⟨(a8),(wrap64 (ab+1)),zt,H',⟨by have:=aC.out;omega⟩,⟨zR_ ag⟩,⟨zmR ak (fun _ hk=>hk.2)⟩,⟨zK_ aa⟩,⟨zB_ HB⟩⟩
    replace bm:=Bool.eq_false_iff.mpr bm;subst bm
    rw [if_neg (show ¬ (false=true) by decide)] at H
    have H':=A0_ H;clear H;obtain⟨cJ,cK,cf⟩:=rS ag.out;subst cf;obtain⟨cL,cM,cg⟩:=rS ak.out;subst cg
    have av:0≤(ab:Int):=zd
    have aw:ab<(ai.length:Int):=zd
    obtain⟨aG,ba,bo⟩:=tI (rR ak.out).2.2 ab av aw
    cases ba
    replace av:=eq_true av;replace aw:=eq_true aw
    go_wp2_with (first|((with_reducible refine gC (f:=118) rfl ?_);refine zJ (some 28) Tryz.func118 #[.slice A1 l1.length c1,.int .i64 (rd ai ab)] ?_;(with_reducible refine(s18_.calls k1 _ _ l1 (rd ai ab) false _ ?ao ?ap b5.out).mono ?_);(case ao=>exact zC bV HB);(case ap=>exact bW.out);rintro e w' ⟨rfl,⟨nd,rfl⟩⟩;refine⟨_,rfl,?_⟩))
    go_roundg k1
    case measure=>have:=aC.out;omega
    case rel=>exact⟨(aj),(wrap64 (ab+1)),zt,H',⟨by have:=aC.out;omega⟩,⟨zR_ ag⟩,⟨zR_ ak⟩,⟨zK_ aa⟩,⟨zB_ HB⟩⟩
   rw [if_neg aH] at H;have bl:=dF aH;clear aH;obtain⟨al,cw,H⟩:=zbind H;have H':=A0_ H;clear H;obtain⟨ch,ci,cj⟩:=rS ag.out;subst cj;have bp:=zc0 aa;have bq:=zc1 aa;have br:=kF aa.out 0;have bu:=kF aa.out 1
   go_wp2_with (first|((with_reducible refine gC (f:=57) rfl ?_);refine zJ (some 40) Tryz.func57 #[.slice am ah.length an,.slice ch aj.length ci] ?_;(with_reducible refine(s10_.calls k1 _ _ ah _ _ aj al _ ?ao ?ap ?aT ?aU cw.out).mono ?_);(case ao=>exact zC bi HB);(case ap=>exact bj.out);(case aT=>exact zD ag);(case aU=>exact(rR ag.out).2.1);rintro e w27 ⟨ck,rfl,ar,hb⟩;refine⟨_,rfl,?_⟩;have bL:=A0_ (rL (Kd.R_new' (Kd.R_new' ar (rX (zR_ ag))) (rX (zR_ ak))) (bZ (zB_ HB)));replace ag:=A0_ (Kd.R_elder' (zR_ ag) (Kd.R_base ar) hb);replace ak:=A0_ (Kd.R_elder' (zR_ ak) (Kd.R_base ar) hb);replace aa:=zK aa hb;replace HB:=zB HB hb;(try clear hb);(try clear ar)))
   go_loopg [9,10] k1 (fun kq v9 v10 w' => ∃ (aK:Int) (ac:Int),v9 = .int .i64 aK∧v10 = .int .i64 ac∧Aside0 (s1a_.l1 kq al aK ac=some r)∧Aside0 (kq≤k1)∧Aside0 (Kd.R (Kd.int .i64) 3 w' w.heap.size (fun _=>True) ck al)∧Aside0 (w'.heap[aD]? = some (.cells #[(.slice am ah.length an),(.slice au af.length aq)] 25 (0,0)))∧Aside0 (Below w.heap.size w w'))
   case atStart=>exact⟨(0),(0),zt,zt,H',⟨Nat.le_refl _⟩,⟨zmR bL (fun _ hk=>trivial)⟩,⟨zK_ aa⟩,⟨zB_ HB⟩⟩
   case round =>
    clear H';(try clear c1);(try clear aH);(try clear bl);(try clear bp);(try clear bq);(try clear aW);(try clear aX);(try clear a4);(try clear a5);(try clear br);(try clear bu);(try clear aY);(try clear aZ);(try clear a6);(try clear a7);obtain⟨aK,ac,rfl,rfl,HA,bn,ax,aa,HB⟩:=hrel
    cases gk with
    | zero=>exact absurd HA.out (by simp [s1a_.l1])
    | succ k2 =>
     have H:=HA.out;clear HA;simp only [s1a_.l1] at H
     by_cases aN:ac<(al.length:Int)
     ·rw [if_pos aN] at H
      have bM:=dT aN;clear aN
      have b7:=zpc H;replace H:=zph H
      have cF:=dT b7;clear b7
      by_cases aM:(rd al ac)=ac
      ·rw [if_pos aM] at H
       have bO:((rd al ac) == ac)=true:=beq_iff_eq.mpr aM
       have bP:((rd al ac) != ac)=false:=bne_eq_false_iff_eq.mpr aM
       clear aM;have H':=A0_ H;clear H;obtain⟨cO,cP,cl⟩:=rS ax.out;subst cl
       have ay:0≤(ac:Int):=zd
       have az:ac<(al.length:Int):=zd
       obtain⟨bQ,bd,bv⟩:=tI (rR ax.out).2.2 ac ay az
       cases bd
       replace ay:=eq_true ay;replace az:=eq_true az
       go_wp2
       go_roundg k2
       case measure=>have:=aC.out;have:=bn.out;omega
       case rel=>exact⟨(wrap64 (aK+1)),(wrap64 (ac+1)),zt,zt,H',⟨by have:=aC.out;have:=bn.out;omega⟩,⟨zR_ ax⟩,⟨zK_ aa⟩,⟨zB_ HB⟩⟩
      rw [if_neg aM] at H
      have bO:((rd al ac) == ac)=false:=beq_eq_false_iff_ne.mpr aM
      have bP:((rd al ac) != ac)=true:=bne_iff_ne.mpr aM
      have H':=A0_ H;clear H;obtain⟨cQ,cR,cm⟩:=rS ax.out;subst cm
      have ay:0≤(ac:Int):=zd
      have az:ac<(al.length:Int):=zd
      obtain⟨bQ,bd,bv⟩:=tI (rR ax.out).2.2 ac ay az
      cases bd
      replace ay:=eq_true ay;replace az:=eq_true az
      go_wp2
      go_roundg k2
      case measure=>have:=aC.out;have:=bn.out;omega
      case rel=>exact⟨(aK),(wrap64 (ac+1)),zt,zt,H',⟨by have:=aC.out;have:=bn.out;omega⟩,⟨zR_ ax⟩,⟨zK_ aa⟩,⟨zB_ HB⟩⟩
     rw [if_neg aN] at H;have bM:=dF aN;clear aN;obtain rfl:=sI H;obtain⟨cS,cT,cn⟩:=rS ax.out;subst cn
     go_wp2
     go_ret
     exact⟨by first|rfl|(simp [*] <;> rfl),zB_ HB⟩
mutual
def sz_.l0:Nat→List Int→List (List Int)→List Bool→Int→Option ((List (List Int)))
  | 0,_,_,_,_=>none
  | k+1,x0,x3,x4,x5=>if x5<(x0.length:Int) then (if 0≤x5 then (if x5<(x4.length:Int) then (if rdOf false x4 x5=true then (sz_.l0 k x0 x3 x4 (wrap64 (x5+1))) else (sz_.l1 k x0 x3 x4 x5 (([]:List Int)) x5)) else (none)) else (none)) else (some x3)
def sz_.l1:Nat→List Int→List (List Int)→List Bool→Int→List Int→Int→Option ((List (List Int)))
  | 0,_,_,_,_,_,_=>none
  | k+1,x0,x3,x4,x5,x6,x7=>if 0≤x7 then (if x7<(x4.length:Int) then (if rdOf false x4 x7=true then (if x3.length<5864062014805 then (sz_.l0 k x0 (x3 ++ [x6]) x4 (wrap64 (x5+1))) else (none)) else (if x6.length<17592186044416 then (if x7<(x0.length:Int) then (sz_.l1 k x0 x3 (x4.set (x7:Int).toNat true) x5 (x6 ++ [x7]) (rd x0 x7)) else (none)) else (none))) else (none)) else (none)
end
def sz_.f (k:Nat) (l0:List Int):Option ((List (List Int))):=if 0≤(l0.length:Int) then (if ((l0.length:Int):Int).toNat≤281474976710656 then (sz_.l0 k l0 (([]:List (List Int))) (List.replicate ((l0.length:Int):Int).toNat false) 0) else (none)) else (none)
theorem sz_.calls (k:Nat) (A0:Option Addr) (c0:Nat) (l0:List Int) (r:List (List Int)) (w:World) (bF:Kd.C (Kd.int .i64) w A0 l0.length l0) (bG:l0.length≤c0) (h:sz_.f k l0=some r) :
    Calls Tryz.prog 88 #[.slice A0 l0.length c0] w fun e w' => ∃ v0_:Value,e = .returned (v0_)∧Kd.S (Kd.slice 3 (Kd.int .i64)) 23 w' w.heap.size (fun _=>True) v0_ r∧Below w.heap.size w w':=by
 have bV:=A0_ bF;have ch:=A0_ bG;clear bF bG
 have HB:=A0_ (Below.refl w.heap.size w)
 have H:(if 0≤(l0.length:Int) then (if ((l0.length:Int):Int).toNat≤281474976710656 then (sz_.l0 k l0 (([]:List (List Int))) (List.replicate ((l0.length:Int):Int).toNat false) 0) else (none)) else (none))=some r:=h
 clear h
 obtain⟨aT,az⟩ : ∃ y_:List (List Int),y_=(([]:List (List Int))):=⟨_,rfl⟩
 replace H:(if 0≤(l0.length:Int) then (if ((l0.length:Int):Int).toNat≤281474976710656 then (sz_.l0 k l0 aT (List.replicate ((l0.length:Int):Int).toNat false) 0) else (none)) else (none))=some r:=zH az H
 have aY:=A0_ az;clear az
 have c2:=zpc H;replace H:=zph H
 have a7:=eq_true c2;have a8:=dT c2;clear c2
 have c3:=zpc H;replace H:=zph H
 have a9:=eq_true c3;have ba:=dT c3;clear c3
 obtain⟨bb,aA⟩ : ∃ y_:List Bool,y_=(List.replicate ((l0.length:Int):Int).toNat false):=⟨_,rfl⟩
 replace H:(sz_.l0 k l0 aT bb 0)=some r:=zH aA H
 have aZ:=A0_ aA;clear aA;have H':=A0_ H;clear H
 go_enter Tryz.func88,Tryz.ntmps88
 go_wp2_with (first|((with_reducible refine gD (N:=8) rfl ?_);refine Kd.S_lit (Kd.slice 3 (Kd.int .i64)) _ 23 ?hg (N:=8) ?hd (xs:=([]:List (List Int))) (inner := []) (ok:=fun _=>True) (okp:=fun _=>True) ?hr ?hp (fun _ hk=>hk) trivial (Below.refl _ _) (Nat.le_refl _) (by simp) ?_;(case hd=>rfl);(case hg=>rfl);(case hr=>first|(go_simp;done)|(go_simp;rfl));(case hp=>exact(Reps.none _ _));intro b6 w4 aM hb hg_ hnew_;clear hg_ hnew_;(first|rw [← aY.out] at aM|(simp only [Int.reduceToNat] at aM;rw [← aY.out] at aM));have aC:=A0_ (Kd.S_lower aM (bZ (zB_ HB)));replace HB:=zB HB hb;clear hb aM)|((with_reducible refine gD (N:=11) rfl ?_);refine Kd.R_make Kd.bool _ 4 rfl (N:=11) rfl 97 _ _ rfl (l0.length:Int) rfl rfl Tryz.underlying97 (.bool false) 1 info4 rfl (by decide) (by omega) false (ok:=fun _=>True) (okp:=fun _=>True) rfl (fun _ hk=>hk) trivial (zd) (Nat.le_trans (Nat.mul_le_mul_right _ (zd:(l0.length:Int).toNat≤281474976710656)) (by omega)) (Below.refl _ _) (Nat.le_refl _) ?_;intro bM w6 aN hb hg_ hnew_;clear hg_ hnew_;(first|rw [← aZ.out] at aN|(simp only [Int.reduceToNat] at aN;rw [← aZ.out] at aN));replace aC:=zS aC hb;have bn:=A0_ (rL aN (bZ (zB_ HB)));replace HB:=zB HB hb;clear hb aN))
 go_loopg [3,5] k (fun kq v3 v5 w' => ∃ (ah:List (List Int)) (ak:List Bool) (ab:Int),v5 = .int .i64 ab∧Aside0 (sz_.l0 kq l0 ah ak ab=some r)∧Aside0 (kq≤k)∧Aside0 (Kd.S (Kd.slice 3 (Kd.int .i64)) 23 w' w.heap.size (fun _=>True) v3 ah)∧Aside0 (Kd.R Kd.bool 4 w' w.heap.size (fun _=>True) bM ak)∧Aside0 (Below w.heap.size w w'))
 case atStart=>exact⟨(aT),(bb),(0),zt,H',⟨Nat.le_refl _⟩,⟨zS_ aC⟩,⟨zR_ bn⟩,⟨zB_ HB⟩⟩
 case round =>
  clear H';(try clear c2);(try clear a7);(try clear a8);(try clear c3);(try clear a9);(try clear ba);obtain⟨ah,ak,ab,rfl,HA,ay,af,ac,HB⟩:=hrel
  cases gk with
  | zero=>exact absurd HA.out (by simp [sz_.l0])
  | succ k1 =>
   have H:=HA.out;clear HA;simp only [sz_.l0] at H
   by_cases c8:ab<(l0.length:Int)
   ·rw [if_pos c8] at H
    have bc:=dT c8;clear c8
    have c9:=zpc H;replace H:=zph H
    have bO:=dT c9;clear c9
    have bd:=zpc H;replace H:=zph H
    have bo:=dT bd;clear bd
    obtain⟨bq11,hbq11⟩ : ∃ b_:Bool,b_=(rdOf false ak ab):=⟨_,rfl⟩
    replace H:(if bq11=true then (sz_.l0 k1 l0 ah ak (wrap64 (ab+1))) else (sz_.l1 k1 l0 ah ak ab (([]:List Int)) ab))=some r:=by rw [← hbq11] at H;exact H
    have Nbq11:=A0_ hbq11;clear hbq11
    by_cases aQ:bq11=true
    ·subst aQ
     rw [if_pos rfl] at H;have H':=A0_ H;clear H;obtain⟨b7,b8,bP⟩:=rS ac.out;subst bP
     have ao:0≤(ab:Int):=zd
     have ap:ab<(ak.length:Int):=zd
     obtain⟨au,aU,an⟩:=Kd.at_bool (rR ac.out).2.2 ab ao ap
     (try rw [← Nbq11.out] at an)
     cases aU
     replace ao:=eq_true ao;replace ap:=eq_true ap
     go_wp2
     go_roundg k1
     case measure=>have:=ay.out;omega
     case rel=>exact⟨(ah),(ak),(wrap64 (ab+1)),zt,H',⟨by have:=ay.out;omega⟩,⟨zS_ af⟩,⟨zR_ ac⟩,⟨zB_ HB⟩⟩
    replace aQ:=Bool.eq_false_iff.mpr aQ;subst aQ
    rw [if_neg (show ¬ (false=true) by decide)] at H
    obtain⟨be,aD⟩ : ∃ y_:List Int,y_=(([]:List Int)):=⟨_,rfl⟩
    replace H:(sz_.l1 k1 l0 ah ak ab be ab)=some r:=zH aD H
    have a4:=A0_ aD;clear aD;have H':=A0_ H;clear H;obtain⟨b9,aE,bQ⟩:=rS ac.out;subst bQ
    have ao:0≤(ab:Int):=zd
    have ap:ab<(ak.length:Int):=zd
    obtain⟨au,aU,an⟩:=Kd.at_bool (rR ac.out).2.2 ab ao ap
    (try rw [← Nbq11.out] at an)
    cases aU
    replace ao:=eq_true ao;replace ap:=eq_true ap
    go_wp2_with (first|((with_reducible refine gD (N:=22) rfl ?_);refine Kd.R_lit (Kd.int .i64) _ 3 ?hg (N:=22) ?hd (xs:=([]:List Int)) (inner := []) (ok:=fun _=>True) (okp:=fun _=>True) ?hr ?hp (fun _ hk=>hk) trivial (Below.refl _ _) (Nat.le_refl _) (by simp) ?_;(case hd=>rfl);(case hg=>rfl);(case hr=>first|(go_simp;done)|(go_simp;rfl));(case hp=>exact(Reps.none _ _));intro cd w15 av hb hg_ hnew_;clear hg_ hnew_;(first|rw [← a4.out] at av|(simp only [Int.reduceToNat] at av;rw [← a4.out] at av));replace af:=A0_ (Kd.S_elder' (zS_ af) (Kd.R_base av) hb);replace ac:=zR ac hb;have bp:=A0_ (rL av (bZ (zB_ HB)));replace HB:=zB HB hb;clear hb av))
    (try generalize Value.pointer (some (au.add (ab:Int).toNat))=pz_)
    go_loopg [6,7] k1 (fun kq v6 v7 w' => ∃ (ai:List Bool) (aj:List Int) (aa:Int),v7 = .int .i64 aa∧Aside0 (sz_.l1 kq l0 ah ai ab aj aa=some r)∧Aside0 (kq≤k1)∧Aside0 (Kd.S (Kd.slice 3 (Kd.int .i64)) 23 w' w.heap.size (fun k_=>nO k_ v6) u3 ah)∧Aside0 (Kd.R Kd.bool 4 w' w.heap.size (fun _=>True) (.slice (some au) ak.length aE) ai)∧Aside0 (Kd.R (Kd.int .i64) 3 w' w.heap.size (fun _=>True) v6 aj)∧Aside0 (Below w.heap.size w w'))
    case atStart=>exact⟨(ak),(be),(ab),zt,H',⟨Nat.le_refl _⟩,⟨zmS af (fun _ hk=>hk.2)⟩,⟨zR_ ac⟩,⟨zR_ bp⟩,⟨zB_ HB⟩⟩
    case round =>
     clear H';(try clear c2);(try clear a7);(try clear a8);(try clear c3);(try clear a9);(try clear ba);(try clear c8);(try clear bc);(try clear c9);(try clear bO);(try clear bd);(try clear bo);(try clear aQ);(try clear an);(try clear ao);(try clear ap);obtain⟨ai,aj,aa,rfl,HA,a5,af,ac,am,HB⟩:=hrel;have ag:=(rR ac.out).1;rw [ag] at ac;(try simp only [ag]);(try simp only [ag] at af);(try simp only [ag] at am)
     cases gk with
     | zero=>exact absurd HA.out (by simp [sz_.l1])
     | succ k2 =>
      have H:=HA.out;clear HA;simp only [sz_.l1] at H
      have bH:=zpc H;replace H:=zph H
      have bY:=dT bH;clear bH
      have bI:=zpc H;replace H:=zph H
      have bq:=dT bI;(try simp only [ag] at bq);clear bI
      obtain⟨bq19,hbq19⟩ : ∃ b_:Bool,b_=(rdOf false ai aa):=⟨_,rfl⟩
      replace H:(if bq19=true then (if ah.length<5864062014805 then (sz_.l0 k2 l0 (ah ++ [aj]) ai (wrap64 (ab+1))) else (none)) else (if aj.length<17592186044416 then (if aa<(l0.length:Int) then (sz_.l1 k2 l0 ah (ai.set (aa:Int).toNat true) ab (aj ++ [aa]) (rd l0 aa)) else (none)) else (none)))=some r:=by rw [← hbq19] at H;exact H
      have Nbq19:=A0_ hbq19;clear hbq19
      by_cases a6:bq19=true
      ·subst a6
       rw [if_pos rfl] at H
       have bJ:=zpc H;replace H:=zph H
       have br:=A0_ bJ;clear bJ
       obtain⟨bf,aG⟩ : ∃ y_:List (List Int),y_=(ah ++ [aj]):=⟨_,rfl⟩
       replace H:(sz_.l0 k2 l0 bf ai (wrap64 (ab+1)))=some r:=zH aG H
       have bu:=A0_ aG;clear aG;have H':=A0_ H;clear H
       have aq:0≤(aa:Int):=zd
       have ar:aa<(ai.length:Int):=zd
       obtain⟨aH,aV,al⟩:=Kd.at_bool (rR ac.out).2.2 aa aq ar
       (try rw [← Nbq11.out] at al)
       (try rw [← Nbq19.out] at al)
       obtain rfl:au=aH:=(by injection aV)
       replace aq:=eq_true aq;replace ar:=eq_true ar;obtain⟨bg,bh,bR⟩:=rS am.out;subst bR
       go_wp2_with (first|((with_reducible refine gB (b := .append) (xs := #[.tmp 40,.tmp 42]) rfl ?_);at_builtin;refine Kd.S_append (Kd.slice 3 (Kd.int .i64)) (w0:=w) w.heap.size rfl (.tmp 40) (.tmp 42) 68 23 (.slice none 0 0) 24 rfl Tryz.underlying68 info23 rfl (by decide) (by omega) u3 ah aj [.slice bg aj.length bh] (fun _=>True) (fun k_=>some k_=(.slice bg aj.length bh:Value).ownBlock) rfl rfl ?aP (fun k_ hk_=>((rM (ok':=fun k_=>((fun _=>True)) k_∧nO k_ u3) (Kd.R_apart' (am.out) (Kd.S_typed af.out) (by decide)) (fun k_ hk=>⟨trivial,hk.2⟩))).1 k_ hk_.symm) ?aF ?aO ?aB ?aS ?aL ?_;(case aP=>exact Kd.M_row (rM (Kd.R_tight rfl (rM (ok':=fun k_=>((fun _=>True)) k_∧nO k_ u3) (Kd.R_apart' (am.out) (Kd.S_typed af.out) (by decide)) (fun k_ hk=>⟨trivial,hk.2⟩))) (fun _ h_=>h_)));(case aB=>exact(zB_ HB));(case aF=>exact(fun _ _=>trivial));(case aO=>exact(zmS af (fun k_ hk=>⟨trivial,fun e_=>hk e_⟩)));(case aS=>exact(bZ (zB_ HB)));(case aL=>have:=br.out;omega);intro ce w22 ho hb hg hat;rw [← bu.out] at ho;replace ac:=A0_ (Kd.R_over' (zR_ ac) (Kd.S_typed (zS_ af)) (by decide) hg);replace HB:=A0_ (hb);have bv:=A0_ (ho);clear af am ho hb hg hat))
       (try simp only [← ag])
       go_roundg k2
       case measure=>have:=ay.out;have:=a5.out;omega
       case rel=>exact⟨(bf),(ai),(wrap64 (ab+1)),zt,H',⟨by have:=ay.out;have:=a5.out;omega⟩,⟨by(try simp only [ag]);(with_reducible repeat(first|apply sA|apply sN|apply sD));exact bv.out⟩,⟨by(try simp only [ag]);(with_reducible repeat(first|apply rA|apply rN|apply rD));exact ac.out⟩,⟨zB_ HB⟩⟩
      replace a6:=Bool.eq_false_iff.mpr a6;subst a6
      rw [if_neg (show ¬ (false=true) by decide)] at H
      obtain⟨aI,aJ⟩ : ∃ y_:List Bool,y_=(ai.set (aa:Int).toNat true):=⟨_,rfl⟩
      replace H:(if aj.length<17592186044416 then (if aa<(l0.length:Int) then (sz_.l1 k2 l0 ah aI ab (aj ++ [aa]) (rd l0 aa)) else (none)) else (none))=some r:=zH aJ H
      have bx:=A0_ aJ;clear aJ
      have bK:=zpc H;replace H:=zph H
      have bz:=A0_ bK;clear bK
      obtain⟨bi,aK⟩ : ∃ y_:List Int,y_=(aj ++ [aa]):=⟨_,rfl⟩
      replace H:(if aa<(l0.length:Int) then (sz_.l1 k2 l0 ah aI ab bi (rd l0 aa)) else (none))=some r:=zH aK H
      have bB:=A0_ aK;clear aK
      have bL:=zpc H;replace H:=zph H
      have bC:=dT bL;(try simp only [ag] at bC);clear bL;have H':=A0_ H;clear H
      have aq:0≤(aa:Int):=zd
      have ar:aa<(ai.length:Int):=zd
      obtain⟨aH,aV,al⟩:=Kd.at_bool (rR ac.out).2.2 aa aq ar
      (try rw [← Nbq11.out] at al)
      (try rw [← Nbq19.out] at al)
      obtain rfl:au=aH:=(by injection aV)
      replace aq:=eq_true aq;replace ar:=eq_true ar
      have bj:0≤(aa:Int):=zd
      have bk:(aa:Int)<((ai.length:Int):Int):=zd
      obtain⟨ax,cf,bl,bm,gl24,cl24,HG24⟩:=Kd.R_form ac.out (by omega)
      (first|cases bl|(injection bl with ea_ en_ ec_;(first|subst ea_|(injection ea_ with ea_;subst ea_));subst ec_;clear en_))
      have GB24:=A0_ bm;have GG24:=A0_ HG24;clear bm gl24 HG24
      (first|simp only [add_plain] at an|skip)
      (first|simp only [add_plain] at al|skip)
      obtain⟨bW,bX⟩:=Kd.R_celln false ac.out (aa:Int) bj bk
      replace bj:=eq_true bj;replace bk:=eq_true bk
      have HP27:=Kd.R_putg ac.out (aa:Int) true
      go_wp2_with (first|((with_reducible refine gS (t:=4) (p:=35) rfl ?_);refine store_event (t:=4) (p:=35) (v := ?vo_w28) (w1:=(wr.setCell ⟨ax,(aa:Int).toNat,none⟩ (.bool true))) ?hg ?ho ?hn ?hr ?_;(case ho=>rfl);(case hg=>rfl);(case hn=>rfl);(case hr=>first|(go_simp;done)|(go_simp;rfl));intro w28 hw;have hg:wr.grownBy w28 (some ax):=(by rw [hw];exact HP27.2);have hp_:Kd.R Kd.bool 4 w28 w.heap.size (fun _=>True) (.slice (some ⟨ax,0,none⟩) ai.length aE) aI:=(by rw [hw,bx.out];exact HP27.1);clear HP27;replace af:=A0_ (Kd.S_over' (v:=(.slice (some ⟨ax,0,none⟩) ai.length aE)) (zS_ af) (Kd.R_typed ac.out) (by decide) hg);replace am:=A0_ (Kd.R_over' (v:=(.slice (some ⟨ax,0,none⟩) ai.length aE)) (zR_ am) (Kd.R_typed ac.out) (by decide) hg);replace ac:=A0_ (hp_);replace HB:=A0_ ((by rw [hw];exact bS (HB.out) GB24.out:Below w.heap.size w w28));clear hg hw hp_)|((with_reducible refine gB (b := .append) (xs := #[.tmp 36,.tmp 38]) rfl ?_);at_builtin;refine Kd.R_append (Kd.int .i64) (w0:=w) w.heap.size rfl (.tmp 36) (.tmp 38) 23 3 (.int .i64 0) 8 rfl Tryz.underlying23 info3 rfl (by decide) (by omega) u6 aj aa [.int .i64 aa] (fun _=>True) (fun _=>False) rfl rfl ?aP (fun _ hk=>hk.elim) ?aF ?aO ?aB ?aS ?aL ?_;(case aP=>exact rfl);(case aB=>exact(zB_ HB));(case aF=>exact(fun _ _=>trivial));(case aO=>exact(zR_ am));(case aS=>exact(bZ (zB_ HB)));(case aL=>have:=bz.out;omega);intro cg w29 ho hb hg hat;rw [← bB.out] at ho;replace af:=A0_ (Kd.S_after (ok:=(fun _=>True)) (zmS af (fun _ hk=>⟨trivial,hk⟩)) hg hat);replace ac:=A0_ (Kd.R_over' (zR_ ac) (Kd.R_typed (zR_ am)) (by decide) hg);replace HB:=A0_ (hb);have bE:=A0_ (ho);clear am ho hb hg hat;have aW:0≤(aa:Int):=zd;have aX:aa<(l0.length:Int):=zd;obtain⟨b5,bU,aw⟩:=tI bV.out aa aW aX;cases bU;try replace aw:=(HB.out.cell (wL w _ aw)).trans aw;replace aW:=eq_true aW;replace aX:=eq_true aX))
      (try simp only [← ag])
      go_roundg k2
      case measure=>have:=ay.out;have:=a5.out;omega
      case rel=>exact⟨(aI),(bi),(rd l0 aa),zt,H',⟨by have:=ay.out;have:=a5.out;omega⟩,⟨by(try simp only [ag]);(with_reducible repeat(first|apply sA|apply sN|apply sD));exact sM af.out (fun _ hk=>hk.2)⟩,⟨by(try simp only [ag]);(with_reducible repeat(first|apply rA|apply rN|apply rD));exact ac.out⟩,⟨by(try simp only [ag]);(with_reducible repeat(first|apply rA|apply rN|apply rD));exact bE.out⟩,⟨zB_ HB⟩⟩
   rw [if_neg c8] at H;have bc:=dF c8;clear c8;obtain rfl:=sI H
   go_wp2
   go_ret
   exact⟨_,by first|rfl|(simp [*] <;> rfl),zS_ af,zB_ HB⟩
mutual
def s1c_.l0:Nat→List Int→List (List Int)→Int→Option (List Int)
  | 0,_,_,_=>none
  | k+1,x3,x4,x5=>if x5<(x4.length:Int) then (s1c_.l1 k x3 x4 x5 0) else (some x3)
def s1c_.l1:Nat→List Int→List (List Int)→Int→Int→Option (List Int)
  | 0,_,_,_,_=>none
  | k+1,x3,x4,x5,x6=>if 0≤x5 then (if x5<(x4.length:Int) then (if x6<((rd_L1 x4 x5).length:Int) then (if 0≤x6 then (if 0≤(rd (rd_L1 x4 x5) x6) then (if (rd (rd_L1 x4 x5) x6)<(x3.length:Int) then (s1c_.l1 k (x3.set ((rd (rd_L1 x4 x5) x6):Int).toNat x5) x4 x5 (wrap64 (x6+1))) else (none)) else (none)) else (none)) else (s1c_.l0 k x3 x4 (wrap64 (x5+1)))) else (none)) else (none)
end
def s1c_.f (k:Nat) (l0:List Int):Option (List Int):=if 0≤(l0.length:Int) then (if ((l0.length:Int):Int).toNat≤35184372088832 then ((sz_.f k l0).bind fun aa=>(s1c_.l0 k (List.replicate ((l0.length:Int):Int).toNat 0) aa 0)) else (none)) else (none)
theorem s1c_.calls (k:Nat) (A0:Option Addr) (c0:Nat) (l0:List Int) (r:List Int) (w:World) (bm:Kd.C (Kd.int .i64) w A0 l0.length l0) (bn:l0.length≤c0) (h:s1c_.f k l0=some r) :
    Calls Tryz.prog 92 #[.slice A0 l0.length c0] w fun e w' => ∃ v0_:Value,e = .returned (v0_)∧Kd.R (Kd.int .i64) 3 w' w.heap.size (fun _=>True) v0_ r∧Below w.heap.size w w':=by
 have bG:=A0_ bm;have bH:=A0_ bn;clear bm bn
 have HB:=A0_ (Below.refl w.heap.size w)
 have H:(if 0≤(l0.length:Int) then (if ((l0.length:Int):Int).toNat≤35184372088832 then ((sz_.f k l0).bind fun ab=>(s1c_.l0 k (List.replicate ((l0.length:Int):Int).toNat 0) ab 0)) else (none)) else (none))=some r:=h
 clear h
 have c2:=zpc H;replace H:=zph H
 have aZ:=eq_true c2;have a4:=dT c2;clear c2
 have c3:=zpc H;replace H:=zph H
 have a5:=eq_true c3;have a6:=dT c3;clear c3
 obtain⟨a7,aC⟩ : ∃ y_:List Int,y_=(List.replicate ((l0.length:Int):Int).toNat 0):=⟨_,rfl⟩
 replace H:((sz_.f k l0).bind fun ab=>(s1c_.l0 k a7 ab 0))=some r:=zH aC H
 have aU:=A0_ aC;clear aC;obtain⟨ab,A4,H⟩:=zbind H;have H':=A0_ H;clear H
 go_enter Tryz.func92,Tryz.ntmps92
 go_wp2_with (first|((with_reducible refine gD (N:=9) rfl ?_);refine Kd.R_make (Kd.int .i64) _ 3 rfl (N:=9) rfl 23 _ _ rfl (l0.length:Int) rfl rfl Tryz.underlying23 (.int .i64 0) 8 info3 rfl (by decide) (by omega) 0 (ok:=fun _=>True) (okp:=fun _=>True) rfl (fun _ hk=>hk) trivial (zd) (Nat.le_trans (Nat.mul_le_mul_right _ (zd:(l0.length:Int).toNat≤35184372088832)) (by omega)) (Below.refl _ _) (Nat.le_refl _) ?_;intro aD w5 aJ hb hg_ hnew_;clear hg_ hnew_;(first|rw [← aU.out] at aJ|(simp only [Int.reduceToNat] at aJ;rw [← aU.out] at aJ));have au:=A0_ (rL aJ (bZ (zB_ HB)));replace HB:=zB HB hb;clear hb aJ)|((with_reducible refine gC (f:=88) rfl ?_);refine zJ (some 11) Tryz.func88 #[.slice A0 l0.length c0] ?_;(with_reducible refine(sz_.calls k _ _ l0 ab _ ?bg ?bh A4.out).mono ?_);(case bg=>exact zC bG HB);(case bh=>exact bH.out);rintro e w7 ⟨bx,rfl,bo,hb⟩;refine⟨_,rfl,?_⟩;have bi:=A0_ (Kd.S_lower (Kd.S_new' bo (rX (zR_ au))) (bZ (zB_ HB)));replace au:=zR au hb;replace HB:=zB HB hb;(try clear hb);(try clear bo)))
 go_loopg [5] k (fun kq v5 w' => ∃ (aE:List Int) (aa:Int),v5 = .int .i64 aa∧Aside0 (s1c_.l0 kq aE ab aa=some r)∧Aside0 (kq≤k)∧Aside0 (Kd.R (Kd.int .i64) 3 w' w.heap.size (fun _=>True) aD aE)∧Aside0 (Kd.S (Kd.slice 3 (Kd.int .i64)) 23 w' w.heap.size (fun k_=>nO k_ aD) bx ab)∧Aside0 (Below w.heap.size w w'))
 case atStart=>exact⟨(a7),(0),zt,H',⟨Nat.le_refl _⟩,⟨zR_ au⟩,⟨zmS bi (fun _ hk=>hk.2)⟩,⟨zB_ HB⟩⟩
 case round =>
  clear H';(try clear c2);(try clear aZ);(try clear a4);(try clear c3);(try clear a5);(try clear a6);obtain⟨aE,aa,rfl,HA,aV,ak,ac,HB⟩:=hrel
  cases gk with
  | zero=>exact absurd HA.out (by simp [s1c_.l0])
  | succ k1 =>
   have H:=HA.out;clear HA;simp only [s1c_.l0] at H
   by_cases c8:aa<(ab.length:Int)
   ·rw [if_pos c8] at H
    have a8:=dT c8;clear c8;have H':=A0_ H;clear H;obtain⟨bI,a9,bJ⟩:=Kd.S_slice ac.out;subst bJ
    go_wp2
    go_loopg [6] k1 (fun kq v6 w' => ∃ (ag:List Int) (af:Int),v6 = .int .i64 af∧Aside0 (s1c_.l1 kq ag ab aa af=some r)∧Aside0 (kq≤k1)∧Aside0 (Kd.R (Kd.int .i64) 3 w' w.heap.size (fun _=>True) aD ag)∧Aside0 (Kd.S (Kd.slice 3 (Kd.int .i64)) 23 w' w.heap.size (fun k_=>nO k_ aD) (.slice bI ab.length a9) ab)∧Aside0 (Below w.heap.size w w'))
    case atStart=>exact⟨(aE),(0),zt,H',⟨Nat.le_refl _⟩,⟨zR_ ak⟩,⟨zS_ ac⟩,⟨zB_ HB⟩⟩
    case round =>
     clear H';(try clear c2);(try clear aZ);(try clear a4);(try clear c3);(try clear a5);(try clear a6);(try clear c8);(try clear a8);obtain⟨ag,af,rfl,HA,aW,ak,ac,HB⟩:=hrel
     cases gk with
     | zero=>exact absurd HA.out (by simp [s1c_.l1])
     | succ k2 =>
      have H:=HA.out;clear HA;simp only [s1c_.l1] at H
      have bp:=zpc H;replace H:=zph H
      have bP:=dT bp;clear bp
      have bq:=zpc H;replace H:=zph H
      have bQ:=dT bq;clear bq
      by_cases aw:af<((rd_L1 ab aa).length:Int)
      ·rw [if_pos aw] at H
       have bj:=dT aw;clear aw
       have br:=zpc H;replace H:=zph H
       have bR:=dT br;clear br
       have bu:=zpc H;replace H:=zph H
       have bU:=dT bu;clear bu
       have bv:=zpc H;replace H:=zph H
       have bV:=dT bv;clear bv
       obtain⟨aM,aG⟩ : ∃ y_:List Int,y_=(ag.set ((rd (rd_L1 ab aa) af):Int).toNat aa):=⟨_,rfl⟩
       replace H:(s1c_.l1 k2 aM ab aa (wrap64 (af+1)))=some r:=zH aG H
       have bk:=A0_ aG;clear aG;have H':=A0_ H;clear H
       have al:0≤(aa:Int):=zd
       have am:aa<(ab.length:Int):=zd
       obtain⟨av,ba,bb,aN,ap,ai,aj⟩:=at_L1 (Kd.S_reads' ac.out).2.2 aa al am
       cases aN
       obtain⟨ce510,hce510,hMe510,ao⟩:=Kd.S_get ac.out [] aa al (by first|exact am|exact zd|(have e_:=(Kd.S_reads' ac.out).1;omega))
       obtain⟨ve510_0,rfl,ah⟩:=hMe510;have hv510_0:=ao 0 _ rfl
       rw [Nat.add_zero,show((Kd.slice 3 (Kd.int .i64))).sz=1 from rfl,Nat.mul_one] at hv510_0
       replace hv510_0:=sI (hv510_0.symm.trans ap)
       rw [hv510_0] at ah
       have HL510_0:=A0_ (show Kd.R (Kd.int .i64) 3 _ _ _ _ (rd_L1 ab aa) from ah)
       clear hv510_0 ah ao hce510;have aX:=A0_ aj;have aY:=A0_ ai;clear aj ai;replace al:=eq_true al;replace am:=eq_true am
       have aH:0≤(aa:Int):=zd
       have aI:aa<(ab.length:Int):=zd
       obtain⟨bl,bK,bL,bz,ax,ay,az⟩:=at_L1 (Kd.S_reads' ac.out).2.2 aa aH aI
       obtain rfl:av=bl:=(by injection bz)
       obtain⟨ce511,hce511,hMe511,aK⟩:=Kd.S_get ac.out [] aa aH (by first|exact aI|exact zd|(have e_:=(Kd.S_reads' ac.out).1;omega))
       obtain⟨ve511_0,rfl,ar⟩:=hMe511;have hv511_0:=aK 0 _ rfl
       rw [Nat.add_zero,show((Kd.slice 3 (Kd.int .i64))).sz=1 from rfl,Nat.mul_one] at hv511_0
       replace hv511_0:=sI (hv511_0.symm.trans ax)
       rw [hv511_0] at ar
       have HL511_0:=A0_ (show Kd.R (Kd.int .i64) 3 _ _ _ _ (rd_L1 ab aa) from ar)
       clear hv511_0 ar aK hce511;have aA:=A0_ az;have bE:=A0_ ay;clear az ay;replace aH:=eq_true aH;replace aI:=eq_true aI
       have ea_:=sI (ap.symm.trans ax)
       injection ea_ with ea_ en_ ec_
       subst ea_;subst ec_;clear en_
       have aQ:0≤(af:Int):=zd
       have aT:af<((rd_L1 ab aa).length:Int):=zd
       obtain⟨bW,bB,bF⟩:=tI (by repeat(first|(with_reducible exact aA.out)|(with_reducible refine cA ?_ _)|(with_reducible refine cN ?_ _)|(with_reducible refine cD ?_)|exact aA.out)) af aQ aT
       cases bB
       replace aQ:=eq_true aQ;replace aT:=eq_true aT
       have bc:0≤((rd (rd_L1 ab aa) af):Int):=zd
       have bd:((rd (rd_L1 ab aa) af):Int)<((ag.length:Int):Int):=zd
       obtain⟨an,aq,be,bf,gl16,cl16,HG16⟩:=Kd.R_form ak.out (by omega)
       (first|cases be|(injection be with ea_ en_ ec_;(first|subst ea_|(injection ea_ with ea_;subst ea_));subst ec_;clear en_))
       have GB16:=A0_ bf;have GG16:=A0_ HG16;clear bf gl16 HG16
       obtain⟨bM,bO⟩:=Kd.R_celln 0 ak.out ((rd (rd_L1 ab aa) af):Int) bc bd
       replace bc:=eq_true bc;replace bd:=eq_true bd
       have HP17:=Kd.R_putg ak.out ((rd (rd_L1 ab aa) af):Int) aa
       go_wp2_with (first|((with_reducible refine gS (t:=3) (p:=36) rfl ?_);refine store_event (t:=3) (p:=36) (v := ?vo_w18) (w1:=(wr.setCell ⟨an,((rd (rd_L1 ab aa) af):Int).toNat,none⟩ (.int .i64 aa))) ?hg ?ho ?hn ?hr ?_;(case ho=>rfl);(case hg=>rfl);(case hn=>rfl);(case hr=>first|(go_simp;done)|(go_simp;rfl));intro w18 hw;have hg:wr.grownBy w18 (some an):=(by rw [hw];exact HP17.2);have hp_:Kd.R (Kd.int .i64) 3 w18 w.heap.size (fun _=>True) (.slice (some ⟨an,0,none⟩) ag.length aq) aM:=(by rw [hw,bk.out];exact HP17.1);clear HP17;replace ak:=A0_ (hp_);replace ac:=A0_ (Kd.S_after (v:=(.slice (some ⟨an,0,none⟩) ag.length aq)) (v1:=(.slice (some ⟨an,0,none⟩) ag.length aq)) (ok:=(fun _=>True)) (zmS ac (fun _ hk=>⟨trivial,hk⟩)) hg (.inl rfl));replace HL510_0:=A0_ (Kd.R_after (v:=(.slice (some ⟨an,0,none⟩) ag.length aq)) (v1:=(.slice (some ⟨an,0,none⟩) ag.length aq)) (ok:=(fun k_=>nL k_ (some av) ab a9)) (zmR HL510_0 (fun _ hk=>⟨hk.2,hk.1⟩)) hg (.inl rfl));replace HL511_0:=A0_ (Kd.R_after (v:=(.slice (some ⟨an,0,none⟩) ag.length aq)) (v1:=(.slice (some ⟨an,0,none⟩) ag.length aq)) (ok:=(fun k_=>nL k_ (some av) ab a9)) (zmR HL511_0 (fun _ hk=>⟨hk.2,hk.1⟩)) hg (.inl rfl));replace HB:=A0_ ((by rw [hw];exact bS (HB.out) GB16.out:Below w.heap.size w w18));clear hg hw hp_))
       go_roundg k2
       case measure=>have:=aV.out;have:=aW.out;omega
       case rel=>exact⟨(aM),(wrap64 (af+1)),zt,H',⟨by have:=aV.out;have:=aW.out;omega⟩,⟨zR_ ak⟩,⟨zmS ac (fun _ hk=>hk.2)⟩,⟨zB_ HB⟩⟩
      rw [if_neg aw] at H;have bj:=dF aw;clear aw;have H':=A0_ H;clear H
      have al:0≤(aa:Int):=zd
      have am:aa<(ab.length:Int):=zd
      obtain⟨av,ba,bb,aN,ap,ai,aj⟩:=at_L1 (Kd.S_reads' ac.out).2.2 aa al am
      cases aN
      obtain⟨ce510,hce510,hMe510,ao⟩:=Kd.S_get ac.out [] aa al (by first|exact am|exact zd|(have e_:=(Kd.S_reads' ac.out).1;omega))
      obtain⟨ve510_0,rfl,ah⟩:=hMe510;have hv510_0:=ao 0 _ rfl
      rw [Nat.add_zero,show((Kd.slice 3 (Kd.int .i64))).sz=1 from rfl,Nat.mul_one] at hv510_0
      replace hv510_0:=sI (hv510_0.symm.trans ap)
      rw [hv510_0] at ah
      have HL510_0:=A0_ (show Kd.R (Kd.int .i64) 3 _ _ _ _ (rd_L1 ab aa) from ah)
      clear hv510_0 ah ao hce510;have aX:=A0_ aj;have aY:=A0_ ai;clear aj ai;replace al:=eq_true al;replace am:=eq_true am
      go_wp2
      go_roundg k2
      case measure=>have:=aV.out;have:=aW.out;omega
      case rel=>exact⟨(ag),(wrap64 (aa+1)),zt,H',⟨by have:=aV.out;have:=aW.out;omega⟩,⟨zR_ ak⟩,⟨zS_ ac⟩,⟨zB_ HB⟩⟩
   rw [if_neg c8] at H;have a8:=dF c8;clear c8;obtain rfl:=sI H;obtain⟨bX,bY,bC⟩:=Kd.S_slice ac.out;subst bC
   go_wp2
   go_ret
   exact⟨_,by first|rfl|(simp [*] <;> rfl),zR_ ak,zB_ HB⟩
end Go.Proofs.YtjebcgbmlbemcaaGreatDoor.PFnExecuteContract
