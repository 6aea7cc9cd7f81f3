import Derived.Test.YtjebcgbmlbemcaaGreatDoorPFnExecuteContractx0
namespace Go.Proofs.YtjebcgbmlbemcaaGreatDoor.PFnExecuteContract
open Go.RowKit Go.Proofs.YtjebcgbmlbemcaaGreatDoorW.PrintWords Go.Proofs.YtjebcgbmlbemcaaGreatDoorW.PrintLast Go.Proofs.YtjebcgbmlbemcaaGreatDoorW.PrintMore
set_option maxHeartbeats 8000000
set_option maxRecDepth 100000
attribute [local go_sem] max2_int min2_int max_two min_two max_three min_three max_four min_four
set_option linter.unusedVariables false
set_option linter.unusedSimpArgs false
def s11_.l0:Nat→Int→List Int→Int→Option (List Int)
  | 0,_,_,_=>none
  | k+1,x0,x3,x4=>if x4<x0 then (if x3.length<17592186044416 then (s11_.l0 k x0 (x3 ++ [x4]) (wrap64 (x4+1))) else (none)) else (some x3)
def s11_.f (k:Nat) (a0:Int):Option (List Int):=s11_.l0 k a0 (([]:List Int)) 0
theorem s11_.calls (k:Nat) (a0:Int) (r:List Int) (w:World) (h:s11_.f k a0=some r) :
    Calls Tryz.prog 95 #[.int .i64 a0] w fun e w' => ∃ v0_:Value,e = .returned (v0_)∧Kd.R (Kd.int .i64) 3 w' w.heap.size (fun _=>True) v0_ r∧Below w.heap.size w w':=by
 have HB:=A0_ (Below.refl w.heap.size w)
 have H:(s11_.l0 k a0 (([]:List Int)) 0)=some r:=h
 clear h
 obtain⟨aj,ac⟩ : ∃ y_:List Int,y_=(([]:List Int)):=⟨_,rfl⟩
 replace H:(s11_.l0 k a0 aj 0)=some r:=zH ac H
 have ai:=A0_ ac;clear ac;have H':=A0_ H;clear H
 go_enter Tryz.func95,Tryz.ntmps95
 go_wp2_with (first|((with_reducible refine gD (N:=5) rfl ?_);refine Kd.R_lit (Kd.int .i64) _ 3 ?hg (N:=5) ?hd (xs:=([]:List Int)) (inner := []) (ok:=fun _=>True) (okp:=fun _=>True) ?hr ?hp (fun _ hk=>hk) trivial (Below.refl _ _) (Nat.le_refl _) (by simp) ?_;(case hd=>rfl);(case hg=>rfl);(case hr=>first|(go_simp;done)|(go_simp;rfl));(case hp=>exact(Reps.none _ _));intro ar w2 ag hb hg_ hnew_;clear hg_ hnew_;(first|rw [← ai.out] at ag|(simp only [Int.reduceToNat] at ag;rw [← ai.out] at ag));have al:=A0_ (rL ag (bZ (zB_ HB)));replace HB:=zB HB hb;clear hb ag))
 go_loopg [3,4] k (fun kq v3 v4 w' => ∃ (ab:List Int) (aa:Int),v4 = .int .i64 aa∧Aside0 (s11_.l0 kq a0 ab aa=some r)∧Aside0 (kq≤k)∧Aside0 (Kd.R (Kd.int .i64) 3 w' w.heap.size (fun _=>True) v3 ab)∧Aside0 (Below w.heap.size w w'))
 case atStart=>exact⟨(aj),(0),zt,H',⟨Nat.le_refl _⟩,⟨zR_ al⟩,⟨zB_ HB⟩⟩
 case round =>
  clear H';obtain⟨ab,aa,rfl,HA,ao,ah,HB⟩:=hrel
  cases gk with
  | zero=>exact absurd HA.out (by simp [s11_.l0])
  | succ k1 =>
   have H:=HA.out;clear HA;simp only [s11_.l0] at H
   by_cases c4:aa<a0
   ·rw [if_pos c4] at H
    have ap:=dT c4;clear c4
    have c5:=zpc H;replace H:=zph H
    have aq:=A0_ c5;clear c5
    obtain⟨ak,af⟩ : ∃ y_:List Int,y_=(ab ++ [aa]):=⟨_,rfl⟩
    replace H:(s11_.l0 k1 a0 ak (wrap64 (aa+1)))=some r:=zH af H
    have am:=A0_ af;clear af;have H':=A0_ H;clear H
    go_wp2_with (first|((with_reducible refine gB (b := .append) (xs := #[.tmp 11,.tmp 13]) rfl ?_);at_builtin;refine Kd.R_append (Kd.int .i64) (w0:=w) w.heap.size rfl (.tmp 11) (.tmp 13) 23 3 (.int .i64 0) 8 rfl Tryz.underlying23 info3 rfl (by decide) (by omega) u3 ab aa [.int .i64 aa] (fun _=>True) (fun _=>False) rfl rfl ?aP (fun _ hk=>hk.elim) ?aF ?aO ?aB ?aS ?aL ?_;(case aP=>exact rfl);(case aB=>exact(zB_ HB));(case aF=>exact(fun _ _=>trivial));(case aO=>exact(zR_ ah));(case aS=>exact(bZ (zB_ HB)));(case aL=>have:=aq.out;omega);intro au w6 ho hb hg hat;rw [← am.out] at ho;replace HB:=A0_ (hb);have an:=A0_ (ho);clear ah ho hb hg hat))
    go_roundg k1
    case measure=>have:=ao.out;omega
    case rel=>exact⟨(ak),(wrap64 (aa+1)),zt,H',⟨by have:=ao.out;omega⟩,⟨zR_ an⟩,⟨zB_ HB⟩⟩
   rw [if_neg c4] at H;have ap:=dF c4;clear c4;obtain rfl:=sI H
   go_wp2
   go_ret
   exact⟨_,by first|rfl|(simp [*] <;> rfl),zR_ ah,zB_ HB⟩
mutual
def s10_.l0:Nat→List Int→List Int→List Int→Int→Option (List Int)
  | 0,_,_,_,_=>none
  | k+1,x0,x1,x5,x6=>if x6<(x0.length:Int) then (s10_.l1 k x0 x1 x5 x6 0) else (some x5)
def s10_.l1:Nat→List Int→List Int→List Int→Int→Int→Option (List Int)
  | 0,_,_,_,_,_=>none
  | k+1,x0,x1,x5,x6,x7=>if x7<(x0.length:Int) then (if 0≤x7 then (if x7<(x5.length:Int) then (if 0≤(rd x0 x7) then (if (rd x0 x7)<(x5.length:Int) then (if x7<(x1.length:Int) then (if 0≤(rd x1 x7) then (if (rd x1 x7)<(x5.length:Int) then (s10_.l1 k x0 x1 (((x5.set (x7:Int).toNat (mn (rd x5 x7) (mn (rd x5 (rd x0 x7)) (rd x5 (rd x1 x7))))).set ((rd x0 x7):Int).toNat (mn (rd x5 x7) (mn (rd x5 (rd x0 x7)) (rd x5 (rd x1 x7))))).set ((rd x1 x7):Int).toNat (mn (rd x5 x7) (mn (rd x5 (rd x0 x7)) (rd x5 (rd x1 x7))))) x6 (wrap64 (x7+1))) else (none)) else (none)) else (none)) else (none)) else (none)) else (none)) else (none)) else (s10_.l0 k x0 x1 x5 (wrap64 (x6+1)))
end
def s10_.f (k:Nat) (l0:List Int) (l1:List Int):Option (List Int):=(s11_.f k (l0.length:Int)).bind fun aa=>(s10_.l0 k l0 l1 aa 0)
theorem s10_.calls (k:Nat) (A0:Option Addr) (c0:Nat) (l0:List Int) (A1:Option Addr) (c1:Nat) (l1:List Int) (r:List Int) (w:World) (bG:Kd.C (Kd.int .i64) w A0 l0.length l0) (bH:l0.length≤c0) (bI:Kd.C (Kd.int .i64) w A1 l1.length l1) (bJ:l1.length≤c1) (h:s10_.f k l0 l1=some r) :
    Calls Tryz.prog 57 #[.slice A0 l0.length c0,.slice A1 l1.length c1] w fun e w' => ∃ v0_:Value,e = .returned (v0_)∧Kd.R (Kd.int .i64) 3 w' w.heap.size (fun _=>True) v0_ r∧Below w.heap.size w w':=by
 have bn:=A0_ bG;have cg:=A0_ bH;clear bG bH;have bo:=A0_ bI;have ch:=A0_ bJ;clear bI bJ
 have HB:=A0_ (Below.refl w.heap.size w)
 have H:((s11_.f k (l0.length:Int)).bind fun aG=>(s10_.l0 k l0 l1 aG 0))=some r:=h
 clear h;obtain⟨aG,A3,H⟩:=zbind H;have H':=A0_ H;clear H
 go_enter Tryz.func57,Tryz.ntmps57
 go_wp2_with (first|(go_at_call 95;(with_reducible refine(s11_.calls k (l0.length:Int) aG _ A3.out).mono ?_);rintro e w4 ⟨aU,rfl,aJ,hb⟩;have aV:=A0_ (rL aJ (bZ (zB_ HB)));replace HB:=zB HB hb;(try clear hb);(try clear aJ)))
 repeat(go_quiet (first|(go_at_call 95;(with_reducible refine(s11_.calls k (l0.length:Int) aG _ A3.out).mono ?_);rintro e w4 ⟨aU,rfl,aJ,hb⟩;have aV:=A0_ (rL aJ (bZ (zB_ HB)));replace HB:=zB HB hb;(try clear hb);(try clear aJ)));try go_wp2_with (first|(go_at_call 95;(with_reducible refine(s11_.calls k (l0.length:Int) aG _ A3.out).mono ?_);rintro e w4 ⟨aU,rfl,aJ,hb⟩;have n0_:=A0_ (rL aJ (bZ (zB_ HB)));have n1_:=zB HB hb;clear HB;have aV:=n0_;have HB:=n1_;clear n0_ n1_;(try clear hb);(try clear aJ))))
 go_loopg [6] k (fun kq v6 w' => ∃ (aW:List Int) (an:Int),v6 = .int .i64 an∧Aside0 (s10_.l0 kq l0 l1 aW an=some r)∧Aside0 (kq≤k)∧Aside0 (Kd.R (Kd.int .i64) 3 w' w.heap.size (fun _=>True) aU aW)∧Aside0 (Below w.heap.size w w'))
 case atStart=>exact⟨(aG),(0),zt,H',⟨Nat.le_refl _⟩,⟨zR_ aV⟩,⟨zB_ HB⟩⟩
 case round =>
  clear H';(try clear c1);obtain⟨aW,an,rfl,HA,bp,ab,HB⟩:=hrel
  cases gk with
  | zero=>exact absurd HA.out (by simp [s10_.l0])
  | succ k1 =>
   have H:=HA.out;clear HA;simp only [s10_.l0] at H
   by_cases c5:an<(l0.length:Int)
   ·rw [if_pos c5] at H
    have bz:=dT c5;clear c5;have H':=A0_ H;clear H
    go_wp2
    repeat(go_quiet (fail);try go_wp2)
    go_loopg [7] k1 (fun kq v7 w' => ∃ (ac:List Int) (aa:Int),v7 = .int .i64 aa∧Aside0 (s10_.l1 kq l0 l1 ac an aa=some r)∧Aside0 (kq≤k1)∧Aside0 (Kd.R (Kd.int .i64) 3 w' w.heap.size (fun _=>True) aU ac)∧Aside0 (Below w.heap.size w w'))
    case atStart=>exact⟨(aW),(0),zt,H',⟨Nat.le_refl _⟩,⟨zR_ ab⟩,⟨zB_ HB⟩⟩
    case round =>
     clear H';(try clear c1);(try clear c5);(try clear bz);obtain⟨ac,aa,rfl,HA,bq,ab,HB⟩:=hrel
     cases gk with
     | zero=>exact absurd HA.out (by simp [s10_.l1])
     | succ k2 =>
      have H:=HA.out;clear HA;simp only [s10_.l1] at H
      by_cases c6:aa<(l0.length:Int)
      ·rw [if_pos c6] at H
       have bP:=dT c6;clear c6
       have c7:=zpc H;replace H:=zph H
       have b8:=dT c7;clear c7
       have c8:=zpc H;replace H:=zph H
       have b9:=dT c8;clear c8
       have c9:=zpc H;replace H:=zph H
       have cd:=dT c9;clear c9
       have bK:=zpc H;replace H:=zph H
       have bY:=dT bK;clear bK
       have bL:=zpc H;replace H:=zph H
       have b5:=dT bL;clear bL
       have bM:=zpc H;replace H:=zph H
       have b6:=dT bM;clear bM
       have bO:=zpc H;replace H:=zph H
       have b7:=dT bO;clear bO
       obtain⟨aC,aj⟩ : ∃ j_:Int,(mn (rd ac (rd l0 aa)) (rd ac (rd l1 aa)))=j_:=⟨_,rfl⟩
       replace H:(s10_.l1 k2 l0 l1 (((ac.set (aa:Int).toNat (mn (rd ac aa) (aC))).set ((rd l0 aa):Int).toNat (mn (rd ac aa) (aC))).set ((rd l1 aa):Int).toNat (mn (rd ac aa) (aC))) an (wrap64 (aa+1)))=some r:=by first|(rw [aj] at H;exact H)|(simp only [aj] at H ⊢;exact H)
       have hji14_:(if (rd ac (rd l1 aa))<(rd ac (rd l0 aa)) then (rd ac (rd l1 aa)) else (rd ac (rd l0 aa)))=aC:=aj
       obtain⟨af,ak⟩ : ∃ j_:Int,(mn (rd ac aa) (aC))=j_:=⟨_,rfl⟩
       replace H:(s10_.l1 k2 l0 l1 (((ac.set (aa:Int).toNat (af)).set ((rd l0 aa):Int).toNat (af)).set ((rd l1 aa):Int).toNat (af)) an (wrap64 (aa+1)))=some r:=by first|(rw [ak] at H;exact H)|(simp only [ak] at H ⊢;exact H)
       have hji15_:(if (aC)<(rd ac aa) then (aC) else (rd ac aa))=af:=ak
       obtain⟨aK,aX⟩ : ∃ y_:List Int,y_=(ac.set (aa:Int).toNat (af)):=⟨_,rfl⟩
       replace H:(s10_.l1 k2 l0 l1 ((aK.set ((rd l0 aa):Int).toNat (af)).set ((rd l1 aa):Int).toNat (af)) an (wrap64 (aa+1)))=some r:=zH aX H
       have aY:=A0_ aX;clear aX
       obtain⟨aM,aZ⟩ : ∃ y_:List Int,y_=(aK.set ((rd l0 aa):Int).toNat (af)):=⟨_,rfl⟩
       replace H:(s10_.l1 k2 l0 l1 (aM.set ((rd l1 aa):Int).toNat (af)) an (wrap64 (aa+1)))=some r:=zH aZ H
       have a4:=A0_ aZ;clear aZ
       obtain⟨aN,a5⟩ : ∃ y_:List Int,y_=(aM.set ((rd l1 aa):Int).toNat (af)):=⟨_,rfl⟩
       replace H:(s10_.l1 k2 l0 l1 aN an (wrap64 (aa+1)))=some r:=zH a5 H
       have a6:=A0_ a5;clear a5;have H':=A0_ H;clear H;obtain⟨ce,au,bQ⟩:=rS ab.out;subst bQ
       have bd:0≤(aa:Int):=zd
       have be:aa<(ac.length:Int):=zd
       obtain⟨br,bR,bu⟩:=tI (rR ab.out).2.2 aa bd be
       cases bR
       replace bd:=eq_true bd;replace be:=eq_true be
       have bf:0≤(aa:Int):=zd
       have bg:aa<(l0.length:Int):=zd
       obtain⟨a7,bU,aH⟩:=tI bn.out aa bf bg
       cases bU
       try replace aH:=(HB.out.cell (wL w _ aH)).trans aH
       replace bf:=eq_true bf;replace bg:=eq_true bg
       have bh:0≤((rd l0 aa):Int):=zd
       have bi:(rd l0 aa)<(ac.length:Int):=zd
       obtain⟨bE,bV,bv⟩:=tI (rR ab.out).2.2 (rd l0 aa) bh bi
       obtain rfl:br=bE:=(by injection bV)
       replace bh:=eq_true bh;replace bi:=eq_true bi
       have bj:0≤(aa:Int):=zd
       have bk:aa<(l1.length:Int):=zd
       obtain⟨a8,bW,aI⟩:=tI bo.out aa bj bk
       cases bW
       try replace aI:=(HB.out.cell (wL w _ aI)).trans aI
       replace bj:=eq_true bj;replace bk:=eq_true bk
       have bl:0≤((rd l1 aa):Int):=zd
       have bm:(rd l1 aa)<(ac.length:Int):=zd
       obtain⟨bF,bX,bx⟩:=tI (rR ab.out).2.2 (rd l1 aa) bl bm
       obtain rfl:br=bF:=(by injection bX)
       replace bl:=eq_true bl;replace bm:=eq_true bm
       have av:0≤(aa:Int):=zd
       have aw:(aa:Int)<((ac.length:Int):Int):=zd
       obtain⟨ag,cf,bB,bC,gl16,cl16,HG16⟩:=Kd.R_form ab.out (by omega)
       (first|cases bB|(injection bB with ea_ en_ ec_;(first|subst ea_|(injection ea_ with ea_;subst ea_));subst ec_;clear en_))
       have GB16:=A0_ bC;have GG16:=A0_ HG16;clear bC gl16 HG16
       (first|simp only [add_plain] at bu|skip)
       (first|simp only [add_plain] at bv|skip)
       (first|simp only [add_plain] at bx|skip)
       obtain⟨al,am⟩:=Kd.R_celln 0 ab.out (aa:Int) av aw
       replace av:=eq_true av;replace aw:=eq_true aw
       have HP20:=Kd.R_putg ab.out (aa:Int) af
       go_wp2_with (first|((with_reducible refine gS (t:=3) (p:=47) rfl ?_);(try(rw [drewN_self wr];generalize hq_:World.drewN wr _=wr;have n0_:=A0_ (Kd.R_at hq_ ab.out);have n1_:=A0_ (below_at hq_ HB.out);clear hq_ ab HB;have ab:=n0_;have HB:=n1_;clear n0_ n1_;(try(obtain⟨al,am⟩:=Kd.R_celln 0 ab.out (aa:Int) (of_eq_true av) (of_eq_true aw)));(try(have HP20:=Kd.R_putg ab.out (aa:Int) af))));refine store_event (t:=3) (p:=47) (v := ?vo_w21) (w1:=(wr.setCell ⟨ag,(aa:Int).toNat,none⟩ (.int .i64 af))) ?hg ?ho ?hn ?hr ?_;(case ho=>rfl);(case hg=>rfl);(case hn=>rfl);(case hr=>first|(go_simp;done)|(go_simp;rfl)|(go_simp;congr 2;rw [← aj];unfold mn;omega)|(go_simp;congr 2;rw [← ak];unfold mn;omega));intro w21 hw;have hg:wr.grownBy w21 (some ag):=(by rw [hw];exact HP20.2);have hp_:Kd.R (Kd.int .i64) 3 w21 w.heap.size (fun _=>True) (.slice (some ⟨ag,0,none⟩) ac.length au) aK:=(by rw [hw,aY.out];exact HP20.1);clear HP20;replace ab:=A0_ (hp_);replace HB:=A0_ ((by rw [hw];exact bS (HB.out) GB16.out:Below w.heap.size w w21));clear hg hw hp_;have ao:0≤(aa:Int):=zd;have ap:aa<(l0.length:Int):=zd;obtain⟨aD,aQ,ah⟩:=tI bn.out aa ao ap;obtain rfl:a7=aD:=(by injection aQ);try replace ah:=(HB.out.cell (wL w _ ah)).trans ah;replace ao:=eq_true ao;replace ap:=eq_true ap;have ax:0≤((rd l0 aa):Int):=zd;have ay:((rd l0 aa):Int)<((ac.length:Int):Int):=zd;obtain⟨a9,ba⟩:=Kd.R_celln 0 ab.out ((rd l0 aa):Int) ax ay;replace ax:=eq_true ax;replace ay:=eq_true ay;obtain⟨hy22_,hz22_⟩:=Kd.R_celln 0 ab.out ((rd l0 aa):Int) (zd) (zd);have HP22:=Kd.R_putg ab.out ((rd l0 aa):Int) af)|((with_reducible refine gS (t:=3) (p:=54) rfl ?_);(try(rw [drewN_self w21];generalize hq_:World.drewN w21 _=w21;have n0_:=A0_ (Kd.R_at hq_ ab.out);have n1_:=A0_ (below_at hq_ HB.out);clear hq_ ab HB;have ab:=n0_;have HB:=n1_;clear n0_ n1_;(try(obtain⟨al,am⟩:=Kd.R_celln 0 ab.out (aa:Int) (of_eq_true av) (of_eq_true aw)));(try(obtain⟨hy22_,hz22_⟩:=Kd.R_celln 0 ab.out ((rd l0 aa):Int) (zd) (zd)));(try(have HP22:=Kd.R_putg ab.out ((rd l0 aa):Int) af))));refine store_event (t:=3) (p:=54) (v := ?vo_w23) (w1:=(w21.setCell ⟨ag,((rd l0 aa):Int).toNat,none⟩ (.int .i64 af))) ?hg ?ho ?hn ?hr ?_;(case ho=>rfl);(case hg=>rfl);(case hn=>rfl);(case hr=>first|(go_simp;done)|(go_simp;rfl)|(go_simp;congr 2;rw [← aj];unfold mn;omega)|(go_simp;congr 2;rw [← ak];unfold mn;omega));intro w23 hw;have hg:w21.grownBy w23 (some ag):=(by rw [hw];exact HP22.2);have hp_:Kd.R (Kd.int .i64) 3 w23 w.heap.size (fun _=>True) (.slice (some ⟨ag,0,none⟩) ac.length au) aM:=(by rw [hw,a4.out];exact HP22.1);clear HP22;replace ab:=A0_ (hp_);replace HB:=A0_ ((by rw [hw];exact bS (HB.out) GB16.out:Below w.heap.size w w23));clear hg hw hp_;have aq:0≤(aa:Int):=zd;have ar:aa<(l1.length:Int):=zd;obtain⟨aE,aT,ai⟩:=tI bo.out aa aq ar;obtain rfl:a8=aE:=(by injection aT);try replace ai:=(HB.out.cell (wL w _ ai)).trans ai;replace aq:=eq_true aq;replace ar:=eq_true ar;have az:0≤((rd l1 aa):Int):=zd;have aA:((rd l1 aa):Int)<((ac.length:Int):Int):=zd;obtain⟨bb,bc⟩:=Kd.R_celln 0 ab.out ((rd l1 aa):Int) az aA;replace az:=eq_true az;replace aA:=eq_true aA;obtain⟨hy24_,hz24_⟩:=Kd.R_celln 0 ab.out ((rd l1 aa):Int) (zd) (zd);have HP24:=Kd.R_putg ab.out ((rd l1 aa):Int) af)|((with_reducible refine gS (t:=3) (p:=61) rfl ?_);(try(rw [drewN_self w23];generalize hq_:World.drewN w23 _=w23;have n0_:=A0_ (Kd.R_at hq_ ab.out);have n1_:=A0_ (below_at hq_ HB.out);clear hq_ ab HB;have ab:=n0_;have HB:=n1_;clear n0_ n1_;(try(obtain⟨al,am⟩:=Kd.R_celln 0 ab.out (aa:Int) (of_eq_true av) (of_eq_true aw)));(try(obtain⟨hy24_,hz24_⟩:=Kd.R_celln 0 ab.out ((rd l1 aa):Int) (zd) (zd)));(try(have HP24:=Kd.R_putg ab.out ((rd l1 aa):Int) af))));refine store_event (t:=3) (p:=61) (v := ?vo_w25) (w1:=(w23.setCell ⟨ag,((rd l1 aa):Int).toNat,none⟩ (.int .i64 af))) ?hg ?ho ?hn ?hr ?_;(case ho=>rfl);(case hg=>rfl);(case hn=>rfl);(case hr=>first|(go_simp;done)|(go_simp;rfl)|(go_simp;congr 2;rw [← aj];unfold mn;omega)|(go_simp;congr 2;rw [← ak];unfold mn;omega));intro w25 hw;have hg:w23.grownBy w25 (some ag):=(by rw [hw];exact HP24.2);have hp_:Kd.R (Kd.int .i64) 3 w25 w.heap.size (fun _=>True) (.slice (some ⟨ag,0,none⟩) ac.length au) aN:=(by rw [hw,a6.out];exact HP24.1);clear HP24;replace ab:=A0_ (hp_);replace HB:=A0_ ((by rw [hw];exact bS (HB.out) GB16.out:Below w.heap.size w w25));clear hg hw hp_))
       repeat(go_quiet (first|((with_reducible refine gS (t:=3) (p:=47) rfl ?_);(try(rw [drewN_self wr];generalize hq_:World.drewN wr _=wr;have n0_:=A0_ (Kd.R_at hq_ ab.out);have n1_:=A0_ (below_at hq_ HB.out);clear hq_ ab HB;have ab:=n0_;have HB:=n1_;clear n0_ n1_;(try(obtain⟨al,am⟩:=Kd.R_celln 0 ab.out (aa:Int) (of_eq_true av) (of_eq_true aw)));(try(have HP20:=Kd.R_putg ab.out (aa:Int) af))));refine store_event (t:=3) (p:=47) (v := ?vo_w21) (w1:=(wr.setCell ⟨ag,(aa:Int).toNat,none⟩ (.int .i64 af))) ?hg ?ho ?hn ?hr ?_;(case ho=>rfl);(case hg=>rfl);(case hn=>rfl);(case hr=>first|(go_simp;done)|(go_simp;rfl)|(go_simp;congr 2;rw [← aj];unfold mn;omega)|(go_simp;congr 2;rw [← ak];unfold mn;omega));intro w21 hw;have hg:wr.grownBy w21 (some ag):=(by rw [hw];exact HP20.2);have hp_:Kd.R (Kd.int .i64) 3 w21 w.heap.size (fun _=>True) (.slice (some ⟨ag,0,none⟩) ac.length au) aK:=(by rw [hw,aY.out];exact HP20.1);clear HP20;replace ab:=A0_ (hp_);replace HB:=A0_ ((by rw [hw];exact bS (HB.out) GB16.out:Below w.heap.size w w21));clear hg hw hp_;have ao:0≤(aa:Int):=zd;have ap:aa<(l0.length:Int):=zd;obtain⟨aD,aQ,ah⟩:=tI bn.out aa ao ap;obtain rfl:a7=aD:=(by injection aQ);try replace ah:=(HB.out.cell (wL w _ ah)).trans ah;replace ao:=eq_true ao;replace ap:=eq_true ap;have ax:0≤((rd l0 aa):Int):=zd;have ay:((rd l0 aa):Int)<((ac.length:Int):Int):=zd;obtain⟨a9,ba⟩:=Kd.R_celln 0 ab.out ((rd l0 aa):Int) ax ay;replace ax:=eq_true ax;replace ay:=eq_true ay;obtain⟨hy22_,hz22_⟩:=Kd.R_celln 0 ab.out ((rd l0 aa):Int) (zd) (zd);have HP22:=Kd.R_putg ab.out ((rd l0 aa):Int) af)|((with_reducible refine gS (t:=3) (p:=54) rfl ?_);(try(rw [drewN_self w21];generalize hq_:World.drewN w21 _=w21;have n0_:=A0_ (Kd.R_at hq_ ab.out);have n1_:=A0_ (below_at hq_ HB.out);clear hq_ ab HB;have ab:=n0_;have HB:=n1_;clear n0_ n1_;(try(obtain⟨al,am⟩:=Kd.R_celln 0 ab.out (aa:Int) (of_eq_true av) (of_eq_true aw)));(try(obtain⟨hy22_,hz22_⟩:=Kd.R_celln 0 ab.out ((rd l0 aa):Int) (zd) (zd)));(try(have HP22:=Kd.R_putg ab.out ((rd l0 aa):Int) af))));refine store_event (t:=3) (p:=54) (v := ?vo_w23) (w1:=(w21.setCell ⟨ag,((rd l0 aa):Int).toNat,none⟩ (.int .i64 af))) ?hg ?ho ?hn ?hr ?_;(case ho=>rfl);(case hg=>rfl);(case hn=>rfl);(case hr=>first|(go_simp;done)|(go_simp;rfl)|(go_simp;congr 2;rw [← aj];unfold mn;omega)|(go_simp;congr 2;rw [← ak];unfold mn;omega));intro w23 hw;have hg:w21.grownBy w23 (some ag):=(by rw [hw];exact HP22.2);have hp_:Kd.R (Kd.int .i64) 3 w23 w.heap.size (fun _=>True) (.slice (some ⟨ag,0,none⟩) ac.length au) aM:=(by rw [hw,a4.out];exact HP22.1);clear HP22;replace ab:=A0_ (hp_);replace HB:=A0_ ((by rw [hw];exact bS (HB.out) GB16.out:Below w.heap.size w w23));clear hg hw hp_;have aq:0≤(aa:Int):=zd;have ar:aa<(l1.length:Int):=zd;obtain⟨aE,aT,ai⟩:=tI bo.out aa aq ar;obtain rfl:a8=aE:=(by injection aT);try replace ai:=(HB.out.cell (wL w _ ai)).trans ai;replace aq:=eq_true aq;replace ar:=eq_true ar;have az:0≤((rd l1 aa):Int):=zd;have aA:((rd l1 aa):Int)<((ac.length:Int):Int):=zd;obtain⟨bb,bc⟩:=Kd.R_celln 0 ab.out ((rd l1 aa):Int) az aA;replace az:=eq_true az;replace aA:=eq_true aA;obtain⟨hy24_,hz24_⟩:=Kd.R_celln 0 ab.out ((rd l1 aa):Int) (zd) (zd);have HP24:=Kd.R_putg ab.out ((rd l1 aa):Int) af)|((with_reducible refine gS (t:=3) (p:=61) rfl ?_);(try(rw [drewN_self w23];generalize hq_:World.drewN w23 _=w23;have n0_:=A0_ (Kd.R_at hq_ ab.out);have n1_:=A0_ (below_at hq_ HB.out);clear hq_ ab HB;have ab:=n0_;have HB:=n1_;clear n0_ n1_;(try(obtain⟨al,am⟩:=Kd.R_celln 0 ab.out (aa:Int) (of_eq_true av) (of_eq_true aw)));(try(obtain⟨hy24_,hz24_⟩:=Kd.R_celln 0 ab.out ((rd l1 aa):Int) (zd) (zd)));(try(have HP24:=Kd.R_putg ab.out ((rd l1 aa):Int) af))));refine store_event (t:=3) (p:=61) (v := ?vo_w25) (w1:=(w23.setCell ⟨ag,((rd l1 aa):Int).toNat,none⟩ (.int .i64 af))) ?hg ?ho ?hn ?hr ?_;(case ho=>rfl);(case hg=>rfl);(case hn=>rfl);(case hr=>first|(go_simp;done)|(go_simp;rfl)|(go_simp;congr 2;rw [← aj];unfold mn;omega)|(go_simp;congr 2;rw [← ak];unfold mn;omega));intro w25 hw;have hg:w23.grownBy w25 (some ag):=(by rw [hw];exact HP24.2);have hp_:Kd.R (Kd.int .i64) 3 w25 w.heap.size (fun _=>True) (.slice (some ⟨ag,0,none⟩) ac.length au) aN:=(by rw [hw,a6.out];exact HP24.1);clear HP24;replace ab:=A0_ (hp_);replace HB:=A0_ ((by rw [hw];exact bS (HB.out) GB16.out:Below w.heap.size w w25));clear hg hw hp_));try go_wp2_with (first|((with_reducible refine gS (t:=3) (p:=47) rfl ?_);(try(rw [drewN_self wr];generalize hq_:World.drewN wr _=wr;have n0_:=A0_ (Kd.R_at hq_ ab.out);have n1_:=A0_ (below_at hq_ HB.out);clear hq_ ab HB;have ab:=n0_;have HB:=n1_;clear n0_ n1_;(try(obtain⟨al,am⟩:=Kd.R_celln 0 ab.out (aa:Int) (of_eq_true av) (of_eq_true aw)));(try(have HP20:=Kd.R_putg ab.out (aa:Int) af))));refine store_event (t:=3) (p:=47) (v := ?vo_w21) (w1:=(wr.setCell ⟨ag,(aa:Int).toNat,none⟩ (.int .i64 af))) ?hg ?ho ?hn ?hr ?_;(case ho=>rfl);(case hg=>rfl);(case hn=>rfl);(case hr=>first|(go_simp;done)|(go_simp;rfl)|(go_simp;congr 2;rw [← aj];unfold mn;omega)|(go_simp;congr 2;rw [← ak];unfold mn;omega));intro w21 hw;have hg:wr.grownBy w21 (some ag):=(by rw [hw];exact HP20.2);have hp_:Kd.R (Kd.int .i64) 3 w21 w.heap.size (fun _=>True) (.slice (some ⟨ag,0,none⟩) ac.length au) aK:=(by rw [hw,aY.out];exact HP20.1);clear HP20;have n0_:=A0_ (hp_);have n1_:=A0_ ((by rw [hw];exact bS (HB.out) GB16.out:Below w.heap.size w w21));clear ab HB;have ab:=n0_;have HB:=n1_;clear n0_ n1_ hg hw hp_;have ao:0≤(aa:Int):=zd;have ap:aa<(l0.length:Int):=zd;obtain⟨aD,aQ,ah⟩:=tI bn.out aa ao ap;obtain rfl:a7=aD:=(by injection aQ);try replace ah:=(HB.out.cell (wL w _ ah)).trans ah;replace ao:=eq_true ao;replace ap:=eq_true ap;have ax:0≤((rd l0 aa):Int):=zd;have ay:((rd l0 aa):Int)<((ac.length:Int):Int):=zd;obtain⟨a9,ba⟩:=Kd.R_celln 0 ab.out ((rd l0 aa):Int) ax ay;replace ax:=eq_true ax;replace ay:=eq_true ay;obtain⟨hy22_,hz22_⟩:=Kd.R_celln 0 ab.out ((rd l0 aa):Int) (zd) (zd);have HP22:=Kd.R_putg ab.out ((rd l0 aa):Int) af)|((with_reducible refine gS (t:=3) (p:=54) rfl ?_);(try(rw [drewN_self w21];generalize hq_:World.drewN w21 _=w21;have n0_:=A0_ (Kd.R_at hq_ ab.out);have n1_:=A0_ (below_at hq_ HB.out);clear hq_ ab HB;have ab:=n0_;have HB:=n1_;clear n0_ n1_;(try(obtain⟨al,am⟩:=Kd.R_celln 0 ab.out (aa:Int) (of_eq_true av) (of_eq_true aw)));(try(obtain⟨hy22_,hz22_⟩:=Kd.R_celln 0 ab.out ((rd l0 aa):Int) (zd) (zd)));(try(have HP22:=Kd.R_putg ab.out ((rd l0 aa):Int) af))));refine store_event (t:=3) (p:=54) (v := ?vo_w23) (w1:=(w21.setCell ⟨ag,((rd l0 aa):Int).toNat,none⟩ (.int .i64 af))) ?hg ?ho ?hn ?hr ?_;(case ho=>rfl);(case hg=>rfl);(case hn=>rfl);(case hr=>first|(go_simp;done)|(go_simp;rfl)|(go_simp;congr 2;rw [← aj];unfold mn;omega)|(go_simp;congr 2;rw [← ak];unfold mn;omega));intro w23 hw;have hg:w21.grownBy w23 (some ag):=(by rw [hw];exact HP22.2);have hp_:Kd.R (Kd.int .i64) 3 w23 w.heap.size (fun _=>True) (.slice (some ⟨ag,0,none⟩) ac.length au) aM:=(by rw [hw,a4.out];exact HP22.1);clear HP22;have n0_:=A0_ (hp_);have n1_:=A0_ ((by rw [hw];exact bS (HB.out) GB16.out:Below w.heap.size w w23));clear ab HB;have ab:=n0_;have HB:=n1_;clear n0_ n1_ hg hw hp_;have aq:0≤(aa:Int):=zd;have ar:aa<(l1.length:Int):=zd;obtain⟨aE,aT,ai⟩:=tI bo.out aa aq ar;obtain rfl:a8=aE:=(by injection aT);try replace ai:=(HB.out.cell (wL w _ ai)).trans ai;replace aq:=eq_true aq;replace ar:=eq_true ar;have az:0≤((rd l1 aa):Int):=zd;have aA:((rd l1 aa):Int)<((ac.length:Int):Int):=zd;obtain⟨bb,bc⟩:=Kd.R_celln 0 ab.out ((rd l1 aa):Int) az aA;replace az:=eq_true az;replace aA:=eq_true aA;obtain⟨hy24_,hz24_⟩:=Kd.R_celln 0 ab.out ((rd l1 aa):Int) (zd) (zd);have HP24:=Kd.R_putg ab.out ((rd l1 aa):Int) af)|((with_reducible refine gS (t:=3) (p:=61) rfl ?_);(try(rw [drewN_self w23];generalize hq_:World.drewN w23 _=w23;have n0_:=A0_ (Kd.R_at hq_ ab.out);have n1_:=A0_ (below_at hq_ HB.out);clear hq_ ab HB;have ab:=n0_;have HB:=n1_;clear n0_ n1_;(try(obtain⟨al,am⟩:=Kd.R_celln 0 ab.out (aa:Int) (of_eq_true av) (of_eq_true aw)));(try(obtain⟨hy24_,hz24_⟩:=Kd.R_celln 0 ab.out ((rd l1 aa):Int) (zd) (zd)));(try(have HP24:=Kd.R_putg ab.out ((rd l1 aa):Int) af))));refine store_event (t:=3) (p:=61) (v := ?vo_w25) (w1:=(w23.setCell ⟨ag,((rd l1 aa):Int).toNat,none⟩ (.int .i64 af))) ?hg ?ho ?hn ?hr ?_;(case ho=>rfl);(case hg=>rfl);(case hn=>rfl);(case hr=>first|(go_simp;done)|(go_simp;rfl)|(go_simp;congr 2;rw [← aj];unfold mn;omega)|(go_simp;congr 2;rw [← ak];unfold mn;omega));intro w25 hw;have hg:w23.grownBy w25 (some ag):=(by rw [hw];exact HP24.2);have hp_:Kd.R (Kd.int .i64) 3 w25 w.heap.size (fun _=>True) (.slice (some ⟨ag,0,none⟩) ac.length au) aN:=(by rw [hw,a6.out];exact HP24.1);clear HP24;have n0_:=A0_ (hp_);have n1_:=A0_ ((by rw [hw];exact bS (HB.out) GB16.out:Below w.heap.size w w25));clear ab HB;have ab:=n0_;have HB:=n1_;clear n0_ n1_ hg hw hp_)))
       go_roundg k2
       case measure=>have:=bp.out;have:=bq.out;omega
       case rel=>exact⟨(aN),(wrap64 (aa+1)),zt,H',⟨by have:=bp.out;have:=bq.out;omega⟩,⟨zR_ ab⟩,⟨zB_ HB⟩⟩
      rw [if_neg c6] at H;have bP:=dF c6;clear c6;have H':=A0_ H;clear H
      go_wp2
      repeat(go_quiet (fail);try go_wp2)
      go_roundg k2
      case measure=>have:=bp.out;have:=bq.out;omega
      case rel=>exact⟨(ac),(wrap64 (an+1)),zt,H',⟨by have:=bp.out;have:=bq.out;omega⟩,⟨zR_ ab⟩,⟨zB_ HB⟩⟩
   rw [if_neg c5] at H;have bz:=dF c5;clear c5;obtain rfl:=sI H
   go_wp2
   repeat(go_quiet (fail);try go_wp2)
   go_ret
   exact⟨_,by first|rfl|(simp [*] <;> rfl),zR_ ab,zB_ HB⟩
def s13_.f (a0:Int) (a1:Int) (a2:Int):Option (Bool):=if a0≥a1 then (some (decide (a0≤a2))) else (some false)
theorem s13_.calls (a0:Int) (a1:Int) (a2:Int) (r:Bool) (w:World) (h:s13_.f a0 a1 a2=some r) :
    Calls Tryz.prog 42 #[.int .i64 a0,.int .i64 a1,.int .i64 a2] w fun e w'=>e = .returned (.bool r)∧Drawn0 w w':=by
 have H:(if a0≥a1 then (some (decide (a0≤a2))) else (some false))=some r:=h
 clear h
 by_cases c4:a0≥a1
 ·rw [if_pos c4] at H
  have aa:decide (a1≤a0)=true:=dT c4
  clear c4;obtain rfl:=sI H
  go_enter Tryz.func42,Tryz.ntmps42
  go_wp2
  go_ret
  exact⟨by first|rfl|(simp;done)|(simp [*];done),by repeat(first|exact Drawn0.refl _|apply Drawn0.step)⟩
 rw [if_neg c4] at H
 have aa:decide (a1≤a0)=false:=dF c4
 clear c4;obtain rfl:=sI H
 go_enter Tryz.func42,Tryz.ntmps42
 go_wp2
 go_ret
 exact⟨by first|rfl|(simp;done)|(simp [*];done),by repeat(first|exact Drawn0.refl _|apply Drawn0.step)⟩
mutual
def sx_.l0:Nat→List Int→Int→Option (Bool)
  | 0,_,_=>none
  | k+1,x0,x3=>if x3<(x0.length:Int) then (if 0≤x3 then ((s13_.f (rd x0 x3) 0 (wrap64 ((x0.length:Int) - 1))).bind fun aa=>(if aa=true then (sx_.l1 k x0 x3 0) else (some false))) else (none)) else ((s13_.f (x0.length:Int) 1 12).bind fun ab=>(some ab))
def sx_.l1:Nat→List Int→Int→Int→Option (Bool)
  | 0,_,_,_=>none
  | k+1,x0,x3,x4=>if x4<x3 then (if 0≤x4 then (if x4<(x0.length:Int) then (if 0≤x3 then (if x3<(x0.length:Int) then (if (rd x0 x4)=(rd x0 x3) then (some false) else (sx_.l1 k x0 x3 (wrap64 (x4+1)))) else (none)) else (none)) else (none)) else (none)) else (sx_.l0 k x0 (wrap64 (x3+1)))
end
def sx_.f (k:Nat) (l0:List Int):Option (Bool):=sx_.l0 k l0 0
theorem sx_.calls (k:Nat) (A0:Option Addr) (c0:Nat) (l0:List Int) (r:Bool) (w:World) (aG:Kd.C (Kd.int .i64) w A0 l0.length l0) (aH:l0.length≤c0) (h:sx_.f k l0=some r) :
    Calls Tryz.prog 96 #[.slice A0 l0.length c0] w fun e w'=>e = .returned (.bool r)∧Drawn0 w w':=by
 have am:=A0_ aG;have aV:=A0_ aH;clear aG aH
 have H:(sx_.l0 k l0 0)=some r:=h
 clear h;have H':=A0_ H;clear H
 go_enter Tryz.func96,Tryz.ntmps96
 go_wp2
 repeat(go_quiet (fail);try go_wp2)
 go_loopg [3] k (fun kq v3 w' => ∃ (aa:Int),v3 = .int .i64 aa∧Aside0 (sx_.l0 kq l0 aa=some r)∧Aside0 (kq≤k)∧Drawn0 w w')
 case atStart=>exact⟨(0),zt,H',⟨Nat.le_refl _⟩,by repeat(first|exact Drawn0.refl _|apply Drawn0.step)⟩
 case round =>
  clear H';obtain⟨aa,rfl,HA,aw,⟨m1,rfl⟩⟩:=hrel
  cases gk with
  | zero=>exact absurd HA.out (by simp [sx_.l0])
  | succ k1 =>
   have H:=HA.out;clear HA;simp only [sx_.l0] at H
   by_cases c2:aa<(l0.length:Int)
   ·rw [if_pos c2] at H
    have aA:=dT c2;clear c2
    have c3:=zpc H;replace H:=zph H
    have aJ:=dT c3;clear c3;obtain⟨aK,A4,H⟩:=zbind H
    by_cases c5:aK=true
    ·subst c5
     rw [if_pos rfl] at H;have H':=A0_ H;clear H
     have ac:0≤(aa:Int):=zd
     have af:aa<(l0.length:Int):=zd
     obtain⟨ag,aq,an⟩:=tI am.out aa ac af
     cases aq
     replace ac:=eq_true ac;replace af:=eq_true af
     go_wp2_with (first|(go_at_call 42;(with_reducible refine(s13_.calls (rd l0 aa) 0 (wrap64 ((l0.length:Int) - 1)) true _ A4.out).mono ?_);rintro e w' ⟨rfl,⟨nd,rfl⟩⟩;(try first|exact⟨rfl,_,World.drewN_drewN _ _ _⟩|exact⟨rfl,_,Eq.trans (World.drewN_drewN _ _ _) (congrArg (World.drewN _) (Nat.add_assoc _ _ _))⟩)))
     repeat(go_quiet (first|(go_at_call 42;(with_reducible refine(s13_.calls (rd l0 aa) 0 (wrap64 ((l0.length:Int) - 1)) true _ A4.out).mono ?_);rintro e w' ⟨rfl,⟨nd,rfl⟩⟩;(try first|exact⟨rfl,_,World.drewN_drewN _ _ _⟩|exact⟨rfl,_,Eq.trans (World.drewN_drewN _ _ _) (congrArg (World.drewN _) (Nat.add_assoc _ _ _))⟩)));try go_wp2_with (first|(go_at_call 42;(with_reducible refine(s13_.calls (rd l0 aa) 0 (wrap64 ((l0.length:Int) - 1)) true _ A4.out).mono ?_);rintro e w' ⟨rfl,⟨nd,rfl⟩⟩;(try first|exact⟨rfl,_,World.drewN_drewN _ _ _⟩|exact⟨rfl,_,Eq.trans (World.drewN_drewN _ _ _) (congrArg (World.drewN _) (Nat.add_assoc _ _ _))⟩))))
     (try generalize Value.pointer (some (ag.add (aa:Int).toNat))=pz_)
     go_loopg [4] k1 (fun kq v4 w' => ∃ (ab:Int),v4 = .int .i64 ab∧Aside0 (sx_.l1 kq l0 aa ab=some r)∧Aside0 (kq≤k1)∧Drawn0 w w')
     case atStart=>exact⟨(0),zt,H',⟨Nat.le_refl _⟩,by repeat(first|exact Drawn0.refl _|apply Drawn0.step)⟩
     case round =>
      clear H';(try clear c2);(try clear aA);(try clear c3);(try clear aJ);(try clear c5);(try clear an);(try clear ac);(try clear af);obtain⟨ab,rfl,HA,ax,⟨m2,rfl⟩⟩:=hrel
      cases gk with
      | zero=>exact absurd HA.out (by simp [sx_.l1])
      | succ k2 =>
       have H:=HA.out;clear HA;simp only [sx_.l1] at H
       by_cases c6:ab<aa
       ·rw [if_pos c6] at H
        have aM:=dT c6;clear c6
        have c7:=zpc H;replace H:=zph H
        have aQ:=dT c7;clear c7
        have c8:=zpc H;replace H:=zph H
        have aT:=dT c8;clear c8
        have c9:=zpc H;replace H:=zph H
        have aU:=dT c9;clear c9
        have aI:=zpc H;replace H:=zph H
        have aN:=dT aI;clear aI
        by_cases al:(rd l0 ab)=(rd l0 aa)
        ·rw [if_pos al] at H
         have aD:((rd l0 ab) == (rd l0 aa))=true:=beq_iff_eq.mpr al
         have aE:((rd l0 ab) != (rd l0 aa))=false:=bne_eq_false_iff_eq.mpr al
         clear al;obtain rfl:=sI H
         have ah:0≤(ab:Int):=zd
         have ai:ab<(l0.length:Int):=zd
         obtain⟨ao,ar,ay⟩:=tI am.out ab ah ai
         obtain rfl:ag=ao:=(by injection ar)
         replace ah:=eq_true ah;replace ai:=eq_true ai
         have aj:0≤(aa:Int):=zd
         have ak:aa<(l0.length:Int):=zd
         obtain⟨ap,au,az⟩:=tI am.out aa aj ak
         obtain rfl:ag=ap:=(by injection au)
         replace aj:=eq_true aj;replace ak:=eq_true ak
         go_wp2
         repeat(go_quiet (fail);try go_wp2)
         go_ret
         exact⟨by first|rfl|(simp;done)|(simp [*];done),by repeat(first|exact Drawn0.refl _|apply Drawn0.step)⟩
        rw [if_neg al] at H
        have aD:((rd l0 ab) == (rd l0 aa))=false:=beq_eq_false_iff_ne.mpr al
        have aE:((rd l0 ab) != (rd l0 aa))=true:=bne_iff_ne.mpr al
        have H':=A0_ H;clear H
        have ah:0≤(ab:Int):=zd
        have ai:ab<(l0.length:Int):=zd
        obtain⟨ao,ar,ay⟩:=tI am.out ab ah ai
        obtain rfl:ag=ao:=(by injection ar)
        replace ah:=eq_true ah;replace ai:=eq_true ai
        have aj:0≤(aa:Int):=zd
        have ak:aa<(l0.length:Int):=zd
        obtain⟨ap,au,az⟩:=tI am.out aa aj ak
        obtain rfl:ag=ap:=(by injection au)
        replace aj:=eq_true aj;replace ak:=eq_true ak
        go_wp2
        repeat(go_quiet (fail);try go_wp2)
        go_roundg k2
        case measure=>have:=aw.out;have:=ax.out;omega
        case rel=>exact⟨(wrap64 (ab+1)),zt,H',⟨by have:=aw.out;have:=ax.out;omega⟩,by repeat(first|exact Drawn0.refl _|apply Drawn0.step)⟩
       rw [if_neg c6] at H;have aM:=dF c6;clear c6;have H':=A0_ H;clear H
       go_wp2
       repeat(go_quiet (fail);try go_wp2)
       go_roundg k2
       case measure=>have:=aw.out;have:=ax.out;omega
       case rel=>exact⟨(wrap64 (aa+1)),zt,H',⟨by have:=aw.out;have:=ax.out;omega⟩,by repeat(first|exact Drawn0.refl _|apply Drawn0.step)⟩
    replace c5:=Bool.eq_false_iff.mpr c5;subst c5
    rw [if_neg (show ¬ (false=true) by decide)] at H
    obtain rfl:=sI H
    have ac:0≤(aa:Int):=zd
    have af:aa<(l0.length:Int):=zd
    obtain⟨ag,aq,an⟩:=tI am.out aa ac af
    cases aq
    replace ac:=eq_true ac;replace af:=eq_true af
    go_wp2_with (first|(go_at_call 42;(with_reducible refine(s13_.calls (rd l0 aa) 0 (wrap64 ((l0.length:Int) - 1)) false _ A4.out).mono ?_);rintro e w' ⟨rfl,⟨nd,rfl⟩⟩;(try first|exact⟨rfl,_,World.drewN_drewN _ _ _⟩|exact⟨rfl,_,Eq.trans (World.drewN_drewN _ _ _) (congrArg (World.drewN _) (Nat.add_assoc _ _ _))⟩)))
    repeat(go_quiet (first|(go_at_call 42;(with_reducible refine(s13_.calls (rd l0 aa) 0 (wrap64 ((l0.length:Int) - 1)) false _ A4.out).mono ?_);rintro e w' ⟨rfl,⟨nd,rfl⟩⟩;(try first|exact⟨rfl,_,World.drewN_drewN _ _ _⟩|exact⟨rfl,_,Eq.trans (World.drewN_drewN _ _ _) (congrArg (World.drewN _) (Nat.add_assoc _ _ _))⟩)));try go_wp2_with (first|(go_at_call 42;(with_reducible refine(s13_.calls (rd l0 aa) 0 (wrap64 ((l0.length:Int) - 1)) false _ A4.out).mono ?_);rintro e w' ⟨rfl,⟨nd,rfl⟩⟩;(try first|exact⟨rfl,_,World.drewN_drewN _ _ _⟩|exact⟨rfl,_,Eq.trans (World.drewN_drewN _ _ _) (congrArg (World.drewN _) (Nat.add_assoc _ _ _))⟩))))
    go_ret
    exact⟨by first|rfl|(simp;done)|(simp [*];done),by repeat(first|exact Drawn0.refl _|apply Drawn0.step)⟩
   rw [if_neg c2] at H;have aA:=dF c2;clear c2;obtain⟨av,aC,H⟩:=zbind H;obtain rfl:=sI H
   go_wp2_with (first|(go_at_call 42;(with_reducible refine(s13_.calls (l0.length:Int) 1 12 av _ aC.out).mono ?_);rintro e w' ⟨rfl,⟨nd,rfl⟩⟩;(try first|exact⟨rfl,_,World.drewN_drewN _ _ _⟩|exact⟨rfl,_,Eq.trans (World.drewN_drewN _ _ _) (congrArg (World.drewN _) (Nat.add_assoc _ _ _))⟩)))
   repeat(go_quiet (first|(go_at_call 42;(with_reducible refine(s13_.calls (l0.length:Int) 1 12 av _ aC.out).mono ?_);rintro e w' ⟨rfl,⟨nd,rfl⟩⟩;(try first|exact⟨rfl,_,World.drewN_drewN _ _ _⟩|exact⟨rfl,_,Eq.trans (World.drewN_drewN _ _ _) (congrArg (World.drewN _) (Nat.add_assoc _ _ _))⟩)));try go_wp2_with (first|(go_at_call 42;(with_reducible refine(s13_.calls (l0.length:Int) 1 12 av _ aC.out).mono ?_);rintro e w' ⟨rfl,⟨nd,rfl⟩⟩;(try first|exact⟨rfl,_,World.drewN_drewN _ _ _⟩|exact⟨rfl,_,Eq.trans (World.drewN_drewN _ _ _) (congrArg (World.drewN _) (Nat.add_assoc _ _ _))⟩))))
   go_ret
   exact⟨by first|rfl|(simp;done)|(simp [*];done),by repeat(first|exact Drawn0.refl _|apply Drawn0.step)⟩
def sy_.f (k:Nat) (l0:List Int) (l1:List Int):Option (Bool):=(sx_.f k l0).bind fun aa=>(if aa=true then ((sx_.f k l1).bind fun ab=>(if ab=true then (some ((l0.length:Int) == (l1.length:Int))) else (some false))) else (some false))
theorem sy_.calls (k:Nat) (A0:Option Addr) (c0:Nat) (l0:List Int) (A1:Option Addr) (c1:Nat) (l1:List Int) (r:Bool) (w:World) (ai:Kd.C (Kd.int .i64) w A0 l0.length l0) (aj:l0.length≤c0) (ak:Kd.C (Kd.int .i64) w A1 l1.length l1) (al:l1.length≤c1) (h:sy_.f k l0 l1=some r) :
    Calls Tryz.prog 61 #[.slice A0 l0.length c0,.slice A1 l1.length c1] w fun e w'=>e = .returned (.bool r)∧Drawn0 w w':=by
 have ag:=A0_ ai;have ah:=A0_ aj;clear ai aj;have am:=A0_ ak;have an:=A0_ al;clear ak al
 have H:((sx_.f k l0).bind fun ac=>(if ac=true then ((sx_.f k l1).bind fun af=>(if af=true then (some ((l0.length:Int) == (l1.length:Int))) else (some false))) else (some false)))=some r:=h
 clear h;obtain⟨ac,A3,H⟩:=zbind H
 by_cases c4:ac=true
 ·subst c4
  rw [if_pos rfl] at H;obtain⟨af,A5,H⟩:=zbind H
  by_cases c6:af=true
  ·subst c6
   rw [if_pos rfl] at H;obtain rfl:=sI H
   go_enter Tryz.func61,Tryz.ntmps61
   go_wp2_with (first|((with_reducible refine gC (f:=96) rfl ?_);refine zJ (some 6) Tryz.func96 #[.slice A0 l0.length c0] ?_;(with_reducible refine(sx_.calls k _ _ l0 true _ ?aa ?ab A3.out).mono ?_);(case aa=>repeat(first|exact ag.out|(with_reducible refine cA ?_ _)|(with_reducible refine cN ?_ _)|(with_reducible refine cD ?_)));(case ab=>exact ah.out);rintro e w' ⟨rfl,⟨nd,rfl⟩⟩;refine⟨_,rfl,?_⟩)|(go_at_call 96;(with_reducible refine(sx_.calls k _ _ l1 true _ ?aa ?ab A5.out).mono ?_);(case aa=>repeat(first|exact am.out|(with_reducible refine cA ?_ _)|(with_reducible refine cN ?_ _)|(with_reducible refine cD ?_)));(case ab=>exact an.out);rintro e w' ⟨rfl,⟨nd,rfl⟩⟩))
   go_ret
   exact⟨by first|rfl|(simp;done)|(simp [*];done),by repeat(first|exact Drawn0.refl _|apply Drawn0.step)⟩
  replace c6:=Bool.eq_false_iff.mpr c6;subst c6
  rw [if_neg (show ¬ (false=true) by decide)] at H
  obtain rfl:=sI H
  go_enter Tryz.func61,Tryz.ntmps61
  go_wp2_with (first|((with_reducible refine gC (f:=96) rfl ?_);refine zJ (some 6) Tryz.func96 #[.slice A0 l0.length c0] ?_;(with_reducible refine(sx_.calls k _ _ l0 true _ ?aa ?ab A3.out).mono ?_);(case aa=>repeat(first|exact ag.out|(with_reducible refine cA ?_ _)|(with_reducible refine cN ?_ _)|(with_reducible refine cD ?_)));(case ab=>exact ah.out);rintro e w' ⟨rfl,⟨nd,rfl⟩⟩;refine⟨_,rfl,?_⟩)|(go_at_call 96;(with_reducible refine(sx_.calls k _ _ l1 false _ ?aa ?ab A5.out).mono ?_);(case aa=>repeat(first|exact am.out|(with_reducible refine cA ?_ _)|(with_reducible refine cN ?_ _)|(with_reducible refine cD ?_)));(case ab=>exact an.out);rintro e w' ⟨rfl,⟨nd,rfl⟩⟩))
  go_ret
  exact⟨by first|rfl|(simp;done)|(simp [*];done),by repeat(first|exact Drawn0.refl _|apply Drawn0.step)⟩
 replace c4:=Bool.eq_false_iff.mpr c4;subst c4
 rw [if_neg (show ¬ (false=true) by decide)] at H
 obtain rfl:=sI H
 go_enter Tryz.func61,Tryz.ntmps61
 go_wp2_with (first|((with_reducible refine gC (f:=96) rfl ?_);refine zJ (some 6) Tryz.func96 #[.slice A0 l0.length c0] ?_;(with_reducible refine(sx_.calls k _ _ l0 false _ ?aa ?ab A3.out).mono ?_);(case aa=>repeat(first|exact ag.out|(with_reducible refine cA ?_ _)|(with_reducible refine cN ?_ _)|(with_reducible refine cD ?_)));(case ab=>exact ah.out);rintro e w' ⟨rfl,⟨nd,rfl⟩⟩;refine⟨_,rfl,?_⟩))
 go_ret
 exact⟨by first|rfl|(simp;done)|(simp [*];done),by repeat(first|exact Drawn0.refl _|apply Drawn0.step)⟩
mutual
def sw_.l0:Nat→Int→List Int→List Int→Option (Bool)
  | 0,_,_,_=>none
  | k+1,x3,ab,aa=>if x3<(aa.length:Int) then (if 0≤x3 then (if (rd aa x3)=x3 then (some false) else (if 0≤(rd aa x3) then (if (rd aa x3)<(aa.length:Int) then (if (rd aa (rd aa x3))=x3 then (sw_.l0 k (wrap64 (x3+1)) ab aa) else (some false)) else (none)) else (none))) else (none)) else ((s10_.f k ab aa).bind fun ac=>(sw_.l1 k ac 0))
def sw_.l1:Nat→List Int→Int→Option (Bool)
  | 0,_,_=>none
  | k+1,x4,x5=>if x5<(x4.length:Int) then (if 0≤x5 then (if (rd x4 x5)=0 then (sw_.l1 k x4 (wrap64 (x5+1))) else (some false)) else (none)) else (some true)
end
def sw_.f (k:Nat) (aa:List Int) (ab:List Int):Option (Bool):=(sy_.f k aa ab).bind fun ac=>(if ac=true then (sw_.l0 k 0 aa ab) else (some false))
theorem sw_.calls (k:Nat) (ax:Option Addr) (ay:Nat) (af:List Int) (az:Option Addr) (aA:Nat) (ab:List Int) (r:Bool) (w:World) (bi:Kd.C (Kd.int .i64) w ax af.length af) (bj:af.length≤ay) (bk:Kd.C (Kd.int .i64) w az ab.length ab) (bl:ab.length≤aA) (h:sw_.f k af ab=some r) :
    Calls Tryz.prog 27 #[.agg #[.slice ax af.length ay,.slice az ab.length aA]] w fun e w'=>e = .returned (.bool r)∧Below w.heap.size w w':=by
 have cg:=Tryz.underlying25;have aq:=A0_ bi;have ar:=A0_ bj;clear bi bj;have ak:=A0_ bk;have au:=A0_ bl;clear bk bl
 have HB:=A0_ (Below.refl w.heap.size w)
 have H:((sy_.f k af ab).bind fun bd=>(if bd=true then (sw_.l0 k 0 af ab) else (some false)))=some r:=h
 clear h;obtain⟨bd,A2,H⟩:=zbind H
 by_cases c3:bd=true
 ·subst c3
  rw [if_pos rfl] at H;have H':=A0_ H;clear H
  go_enter Tryz.func27,Tryz.ntmps27
  go_wp2_with (first|((with_reducible refine gD (N:=1) rfl ?_);refine zX (N:=1) (cs := #[.slice ax af.length ay,.slice az ab.length aA]) (t:=25) ?_;intro aC hg w4 hbox hb;have aa:=A0_ (hbox);have aM:=zG hg HB;have aN:=zG hg HB;replace HB:=zB HB hb;clear hb hbox hg;have aQ:=zc0 aa;have aT:=zc1 aa;have aU:=kF aa.out 0;have aV:=kF aa.out 1)|(go_at_call 61;(with_reducible refine(sy_.calls k _ _ af _ _ ab true _ ?ag ?ah ?ai ?aj A2.out).mono ?_);(case ag=>exact zC aq HB);(case ah=>exact ar.out);(case ai=>exact zC ak HB);(case aj=>exact au.out);rintro e w' ⟨rfl,⟨nd,rfl⟩⟩;(try first|exact⟨rfl,_,World.drewN_drewN _ _ _⟩|exact⟨rfl,_,Eq.trans (World.drewN_drewN _ _ _) (congrArg (World.drewN _) (Nat.add_assoc _ _ _))⟩)))
  repeat(go_quiet (first|((with_reducible refine gD (N:=1) rfl ?_);refine zX (N:=1) (cs := #[.slice ax af.length ay,.slice az ab.length aA]) (t:=25) ?_;intro aC hg w4 hbox hb;have aa:=A0_ (hbox);have aM:=zG hg HB;have aN:=zG hg HB;replace HB:=zB HB hb;clear hb hbox hg;have aQ:=zc0 aa;have aT:=zc1 aa;have aU:=kF aa.out 0;have aV:=kF aa.out 1)|(go_at_call 61;(with_reducible refine(sy_.calls k _ _ af _ _ ab true _ ?ag ?ah ?ai ?aj A2.out).mono ?_);(case ag=>exact zC aq HB);(case ah=>exact ar.out);(case ai=>exact zC ak HB);(case aj=>exact au.out);rintro e w' ⟨rfl,⟨nd,rfl⟩⟩;(try first|exact⟨rfl,_,World.drewN_drewN _ _ _⟩|exact⟨rfl,_,Eq.trans (World.drewN_drewN _ _ _) (congrArg (World.drewN _) (Nat.add_assoc _ _ _))⟩)));try go_wp2_with (first|((with_reducible refine gD (N:=1) rfl ?_);refine zX (N:=1) (cs := #[.slice ax af.length ay,.slice az ab.length aA]) (t:=25) ?_;intro aC hg w4 hbox hb;have n0_:=zB HB hb;have n1_:=A0_ (hbox);have n2_:=zG hg HB;have n3_:=zG hg HB;clear HB;have HB:=n0_;have aa:=n1_;have aM:=n2_;have aN:=n3_;clear n0_ n1_ n2_ n3_ hb hbox hg;have aQ:=zc0 aa;have aT:=zc1 aa;have aU:=kF aa.out 0;have aV:=kF aa.out 1)|(go_at_call 61;(with_reducible refine(sy_.calls k _ _ af _ _ ab true _ ?ag ?ah ?ai ?aj A2.out).mono ?_);(case ag=>exact zC aq HB);(case ah=>exact ar.out);(case ai=>exact zC ak HB);(case aj=>exact au.out);rintro e w' ⟨rfl,⟨nd,rfl⟩⟩;(try first|exact⟨rfl,_,World.drewN_drewN _ _ _⟩|exact⟨rfl,_,Eq.trans (World.drewN_drewN _ _ _) (congrArg (World.drewN _) (Nat.add_assoc _ _ _))⟩))))
  go_loopg [3] k (fun kq v3 w' => ∃ (ac:Int),v3 = .int .i64 ac∧Aside0 (sw_.l0 kq ac af ab=some r)∧Aside0 (kq≤k)∧Aside0 (w'.heap[aC]? = some (.cells #[(.slice ax af.length ay),(.slice az ab.length aA)] 25 (0,0)))∧Aside0 (Below w.heap.size w w'))
  case atStart=>exact⟨(0),zt,H',⟨Nat.le_refl _⟩,⟨zK_ aa⟩,⟨zB_ HB⟩⟩
  case round =>
   clear H';(try clear c3);(try clear aQ);(try clear aT);(try clear aU);(try clear aV);obtain⟨ac,rfl,HA,bm,aa,HB⟩:=hrel
   cases gk with
   | zero=>exact absurd HA.out (by simp [sw_.l0])
   | succ k1 =>
    have H:=HA.out;clear HA;simp only [sw_.l0] at H
    by_cases c6:ac<(ab.length:Int)
    ·rw [if_pos c6] at H
     have bu:=dT c6;clear c6
     have c7:=zpc H;replace H:=zph H
     have ch:=dT c7;clear c7
     by_cases c8:(rd ab ac)=ac
     ·rw [if_pos c8] at H
      have bK:((rd ab ac) == ac)=true:=beq_iff_eq.mpr c8
      have bL:((rd ab ac) != ac)=false:=bne_eq_false_iff_eq.mpr c8
      clear c8;obtain rfl:=sI H;have b6:=zc0 aa;have b7:=zc1 aa;have b8:=kF aa.out 0;have b9:=kF aa.out 1
      have av:0≤(ac:Int):=zd
      have aw:ac<(ab.length:Int):=zd
      obtain⟨aD,aY,al⟩:=tI ak.out ac av aw
      cases aY
      try replace al:=(HB.out.cell (wL w _ al)).trans al
      replace av:=eq_true av;replace aw:=eq_true aw
      go_wp2
      repeat(go_quiet (fail);try go_wp2)
      go_ret
      exact⟨by first|rfl|(simp [*] <;> rfl),zB_ HB⟩
     rw [if_neg c8] at H
     have bK:((rd ab ac) == ac)=false:=beq_eq_false_iff_ne.mpr c8
     have bL:((rd ab ac) != ac)=true:=bne_iff_ne.mpr c8
     have bG:=zpc H;replace H:=zph H
     have cd:=dT bG;clear bG
     have bH:=zpc H;replace H:=zph H
     have ce:=dT bH;clear bH
     by_cases aZ:(rd ab (rd ab ac))=ac
     ·rw [if_pos aZ] at H
      have bx:((rd ab (rd ab ac)) == ac)=true:=beq_iff_eq.mpr aZ
      have bz:((rd ab (rd ab ac)) != ac)=false:=bne_eq_false_iff_eq.mpr aZ
      clear aZ;have H':=A0_ H;clear H;have bQ:=zc0 aa;have bR:=zc1 aa;have bU:=kF aa.out 0;have bV:=kF aa.out 1
      have av:0≤(ac:Int):=zd
      have aw:ac<(ab.length:Int):=zd
      obtain⟨aD,aY,al⟩:=tI ak.out ac av aw
      cases aY
      try replace al:=(HB.out.cell (wL w _ al)).trans al
      replace av:=eq_true av;replace aw:=eq_true aw
      have aE:0≤(ac:Int):=zd
      have aG:ac<(ab.length:Int):=zd
      obtain⟨ba,be,an⟩:=tI ak.out ac aE aG
      obtain rfl:aD=ba:=(by injection be)
      try replace an:=(HB.out.cell (wL w _ an)).trans an
      replace aE:=eq_true aE;replace aG:=eq_true aG
      have aH:0≤((rd ab ac):Int):=zd
      have aI:(rd ab ac)<(ab.length:Int):=zd
      obtain⟨bb,bf,ao⟩:=tI ak.out (rd ab ac) aH aI
      obtain rfl:aD=bb:=(by injection bf)
      try replace ao:=(HB.out.cell (wL w _ ao)).trans ao
      replace aH:=eq_true aH;replace aI:=eq_true aI
      go_wp2
      repeat(go_quiet (fail);try go_wp2)
      go_roundg k1
      case measure=>have:=bm.out;omega
      case rel=>exact⟨(wrap64 (ac+1)),zt,H',⟨by have:=bm.out;omega⟩,⟨zK_ aa⟩,⟨zB_ HB⟩⟩
     rw [if_neg aZ] at H
     have bx:((rd ab (rd ab ac)) == ac)=false:=beq_eq_false_iff_ne.mpr aZ
     have bz:((rd ab (rd ab ac)) != ac)=true:=bne_iff_ne.mpr aZ
     obtain rfl:=sI H;have bW:=zc0 aa;have bX:=zc1 aa;have bY:=kF aa.out 0;have b5:=kF aa.out 1
     have av:0≤(ac:Int):=zd
     have aw:ac<(ab.length:Int):=zd
     obtain⟨aD,aY,al⟩:=tI ak.out ac av aw
     cases aY
     try replace al:=(HB.out.cell (wL w _ al)).trans al
     replace av:=eq_true av;replace aw:=eq_true aw
     have aE:0≤(ac:Int):=zd
     have aG:ac<(ab.length:Int):=zd
     obtain⟨ba,be,an⟩:=tI ak.out ac aE aG
     obtain rfl:aD=ba:=(by injection be)
     try replace an:=(HB.out.cell (wL w _ an)).trans an
     replace aE:=eq_true aE;replace aG:=eq_true aG
     have aH:0≤((rd ab ac):Int):=zd
     have aI:(rd ab ac)<(ab.length:Int):=zd
     obtain⟨bb,bf,ao⟩:=tI ak.out (rd ab ac) aH aI
     obtain rfl:aD=bb:=(by injection bf)
     try replace ao:=(HB.out.cell (wL w _ ao)).trans ao
     replace aH:=eq_true aH;replace aI:=eq_true aI
     go_wp2
     repeat(go_quiet (fail);try go_wp2)
     go_ret
     exact⟨by first|rfl|(simp [*] <;> rfl),zB_ HB⟩
    rw [if_neg c6] at H;have bu:=dF c6;clear c6;obtain⟨ap,bv,H⟩:=zbind H;have H':=A0_ H;clear H;have bn:=zc0 aa;have bo:=zc1 aa;have bp:=kF aa.out 0;have bq:=kF aa.out 1
    go_wp2_with (first|(go_at_call 57;(with_reducible refine(s10_.calls k1 _ _ af _ _ ab ap _ ?ag ?ah ?ai ?aj bv.out).mono ?_);(case ag=>exact zC aq HB);(case ah=>exact ar.out);(case ai=>exact zC ak HB);(case aj=>exact au.out);rintro e w17 ⟨bg,rfl,aX,hb⟩;have bc:=A0_ (rL aX (bZ (zB_ HB)));replace aa:=zK aa hb;replace HB:=zB HB hb;(try clear hb);(try clear aX)))
    repeat(go_quiet (first|(go_at_call 57;(with_reducible refine(s10_.calls k1 _ _ af _ _ ab ap _ ?ag ?ah ?ai ?aj bv.out).mono ?_);(case ag=>exact zC aq HB);(case ah=>exact ar.out);(case ai=>exact zC ak HB);(case aj=>exact au.out);rintro e w17 ⟨bg,rfl,aX,hb⟩;have bc:=A0_ (rL aX (bZ (zB_ HB)));replace aa:=zK aa hb;replace HB:=zB HB hb;(try clear hb);(try clear aX)));try go_wp2_with (first|(go_at_call 57;(with_reducible refine(s10_.calls k1 _ _ af _ _ ab ap _ ?ag ?ah ?ai ?aj bv.out).mono ?_);(case ag=>exact zC aq HB);(case ah=>exact ar.out);(case ai=>exact zC ak HB);(case aj=>exact au.out);rintro e w17 ⟨bg,rfl,aX,hb⟩;have n0_:=A0_ (rL aX (bZ (zB_ HB)));have n1_:=zK aa hb;have n2_:=zB HB hb;clear aa HB;have bc:=n0_;have aa:=n1_;have HB:=n2_;clear n0_ n1_ n2_;(try clear hb);(try clear aX))))
    go_loopg [5] k1 (fun kq v5 w' => ∃ (am:Int),v5 = .int .i64 am∧Aside0 (sw_.l1 kq ap am=some r)∧Aside0 (kq≤k1)∧Aside0 (Kd.R (Kd.int .i64) 3 w' w.heap.size (fun _=>True) bg ap)∧Aside0 (w'.heap[aC]? = some (.cells #[(.slice ax af.length ay),(.slice az ab.length aA)] 25 (0,0)))∧Aside0 (Below w.heap.size w w'))
    case atStart=>exact⟨(0),zt,H',⟨Nat.le_refl _⟩,⟨zR_ bc⟩,⟨zK_ aa⟩,⟨zB_ HB⟩⟩
    case round =>
     clear H';(try clear c3);(try clear c6);(try clear bu);(try clear bn);(try clear bo);(try clear aQ);(try clear aT);(try clear bp);(try clear bq);(try clear aU);(try clear aV);obtain⟨am,rfl,HA,bI,aW,aa,HB⟩:=hrel
     cases gk with
     | zero=>exact absurd HA.out (by simp [sw_.l1])
     | succ k2 =>
      have H:=HA.out;clear HA;simp only [sw_.l1] at H
      by_cases a5:am<(ap.length:Int)
      ·rw [if_pos a5] at H
       have bB:=dT a5;clear a5
       have bJ:=zpc H;replace H:=zph H
       have cf:=dT bJ;clear bJ
       by_cases a4:(rd ap am)=0
       ·rw [if_pos a4] at H
        have bC:((rd ap am) == 0)=true:=beq_iff_eq.mpr a4
        have bE:((rd ap am) != 0)=false:=bne_eq_false_iff_eq.mpr a4
        clear a4;have H':=A0_ H;clear H;obtain⟨ci,cj,bM⟩:=rS aW.out;subst bM
        have aJ:0≤(am:Int):=zd
        have aK:am<(ap.length:Int):=zd
        obtain⟨bF,bh,br⟩:=tI (rR aW.out).2.2 am aJ aK
        cases bh
        replace aJ:=eq_true aJ;replace aK:=eq_true aK
        go_wp2
        repeat(go_quiet (fail);try go_wp2)
        go_roundg k2
        case measure=>have:=bm.out;have:=bI.out;omega
        case rel=>exact⟨(wrap64 (am+1)),zt,H',⟨by have:=bm.out;have:=bI.out;omega⟩,⟨zR_ aW⟩,⟨zK_ aa⟩,⟨zB_ HB⟩⟩
       rw [if_neg a4] at H
       have bC:((rd ap am) == 0)=false:=beq_eq_false_iff_ne.mpr a4
       have bE:((rd ap am) != 0)=true:=bne_iff_ne.mpr a4
       obtain rfl:=sI H;obtain⟨ck,cl,bO⟩:=rS aW.out;subst bO
       have aJ:0≤(am:Int):=zd
       have aK:am<(ap.length:Int):=zd
       obtain⟨bF,bh,br⟩:=tI (rR aW.out).2.2 am aJ aK
       cases bh
       replace aJ:=eq_true aJ;replace aK:=eq_true aK
       go_wp2
       repeat(go_quiet (fail);try go_wp2)
       go_ret
       exact⟨by first|rfl|(simp [*] <;> rfl),zB_ HB⟩
      rw [if_neg a5] at H;have bB:=dF a5;clear a5;obtain rfl:=sI H;obtain⟨cm,cn,bP⟩:=rS aW.out;subst bP
      go_wp2
      repeat(go_quiet (fail);try go_wp2)
      go_ret
      exact⟨by first|rfl|(simp [*] <;> rfl),zB_ HB⟩
 replace c3:=Bool.eq_false_iff.mpr c3;subst c3
 rw [if_neg (show ¬ (false=true) by decide)] at H
 obtain rfl:=sI H
 go_enter Tryz.func27,Tryz.ntmps27
 go_wp2_with (first|((with_reducible refine gD (N:=1) rfl ?_);refine zX (N:=1) (cs := #[.slice ax af.length ay,.slice az ab.length aA]) (t:=25) ?_;intro aC hg w24 hbox hb;have aa:=A0_ (hbox);have aM:=zG hg HB;have aN:=zG hg HB;replace HB:=zB HB hb;clear hb hbox hg;have a6:=zc0 aa;have a7:=zc1 aa;have a8:=kF aa.out 0;have a9:=kF aa.out 1)|(go_at_call 61;(with_reducible refine(sy_.calls k _ _ af _ _ ab false _ ?ag ?ah ?ai ?aj A2.out).mono ?_);(case ag=>exact zC aq HB);(case ah=>exact ar.out);(case ai=>exact zC ak HB);(case aj=>exact au.out);rintro e w' ⟨rfl,⟨nd,rfl⟩⟩;(try first|exact⟨rfl,_,World.drewN_drewN _ _ _⟩|exact⟨rfl,_,Eq.trans (World.drewN_drewN _ _ _) (congrArg (World.drewN _) (Nat.add_assoc _ _ _))⟩)))
 repeat(go_quiet (first|((with_reducible refine gD (N:=1) rfl ?_);refine zX (N:=1) (cs := #[.slice ax af.length ay,.slice az ab.length aA]) (t:=25) ?_;intro aC hg w24 hbox hb;have aa:=A0_ (hbox);have aM:=zG hg HB;have aN:=zG hg HB;replace HB:=zB HB hb;clear hb hbox hg;have a6:=zc0 aa;have a7:=zc1 aa;have a8:=kF aa.out 0;have a9:=kF aa.out 1)|(go_at_call 61;(with_reducible refine(sy_.calls k _ _ af _ _ ab false _ ?ag ?ah ?ai ?aj A2.out).mono ?_);(case ag=>exact zC aq HB);(case ah=>exact ar.out);(case ai=>exact zC ak HB);(case aj=>exact au.out);rintro e w' ⟨rfl,⟨nd,rfl⟩⟩;(try first|exact⟨rfl,_,World.drewN_drewN _ _ _⟩|exact⟨rfl,_,Eq.trans (World.drewN_drewN _ _ _) (congrArg (World.drewN _) (Nat.add_assoc _ _ _))⟩)));try go_wp2_with (first|((with_reducible refine gD (N:=1) rfl ?_);refine zX (N:=1) (cs := #[.slice ax af.length ay,.slice az ab.length aA]) (t:=25) ?_;intro aC hg w24 hbox hb;have n0_:=zB HB hb;have n1_:=A0_ (hbox);have n2_:=zG hg HB;have n3_:=zG hg HB;clear HB;have HB:=n0_;have aa:=n1_;have aM:=n2_;have aN:=n3_;clear n0_ n1_ n2_ n3_ hb hbox hg;have a6:=zc0 aa;have a7:=zc1 aa;have a8:=kF aa.out 0;have a9:=kF aa.out 1)|(go_at_call 61;(with_reducible refine(sy_.calls k _ _ af _ _ ab false _ ?ag ?ah ?ai ?aj A2.out).mono ?_);(case ag=>exact zC aq HB);(case ah=>exact ar.out);(case ai=>exact zC ak HB);(case aj=>exact au.out);rintro e w' ⟨rfl,⟨nd,rfl⟩⟩;(try first|exact⟨rfl,_,World.drewN_drewN _ _ _⟩|exact⟨rfl,_,Eq.trans (World.drewN_drewN _ _ _) (congrArg (World.drewN _) (Nat.add_assoc _ _ _))⟩))))
 go_ret
 exact⟨by first|rfl|(simp [*] <;> rfl),zB_ HB⟩
end Go.Proofs.YtjebcgbmlbemcaaGreatDoor.PFnExecuteContract
