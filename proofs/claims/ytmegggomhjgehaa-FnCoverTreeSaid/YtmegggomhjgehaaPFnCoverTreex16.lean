import Derived.Test.YtmegggomhjgehaaPFnCoverTreex15
namespace Go.Proofs.Ytmegggomhjgehaa.PFnCoverTree
open Go.RowKit Go.Proofs.YtmegggomhjgehaaW.PrintWords Go.Proofs.YtmegggomhjgehaaW.PrintLast Go.Proofs.YtmegggomhjgehaaW.PrintMore
set_option maxHeartbeats 8000000
set_option maxRecDepth 100000
attribute [local go_sem] max2_int min2_int max_two min_two max_three min_three max_four min_four
set_option linter.unusedVariables false
set_option linter.unusedSimpArgs false
mutual
def s1e_.l0:Nat→List Int→List (List Int)→Int→Option (List Int)
  | 0,_,_,_=>none
  | k+1,x3,x4,x5=>if x5<(x4.length:Int) then (s1e_.l1 k x3 x4 x5 0) else (some x3)
def s1e_.l1:Nat→List Int→List (List Int)→Int→Int→Option (List Int)
  | 0,_,_,_,_=>none
  | k+1,x3,x4,x5,x6=>if 0≤x5 then (if x5<(x4.length:Int) then (if x6<((rd_L1 x4 x5).length:Int) then (if 0≤x6 then (if 0≤(rd (rd_L1 x4 x5) x6) then (if (rd (rd_L1 x4 x5) x6)<(x3.length:Int) then (s1e_.l1 k (x3.set ((rd (rd_L1 x4 x5) x6):Int).toNat x5) x4 x5 (wrap64 (x6+1))) else (none)) else (none)) else (none)) else (s1e_.l0 k x3 x4 (wrap64 (x5+1)))) else (none)) else (none)
end
def s1e_.f (k:Nat) (l0:List Int):Option (List Int):=if 0≤(l0.length:Int) then (if ((l0.length:Int):Int).toNat≤35184372088832 then ((s12_.f k l0).bind fun aa=>(s1e_.l0 k (List.replicate ((l0.length:Int):Int).toNat 0) aa 0)) else (none)) else (none)
theorem s1e_.calls (k:Nat) (A0:Option Addr) (c0:Nat) (l0:List Int) (r:List Int) (w:World) (bk:Kd.C (Kd.int .i64) w A0 l0.length l0) (bl:l0.length≤c0) (h:s1e_.f k l0=some r) :
    Calls Try.prog 91 #[.slice A0 l0.length c0] w fun e w' => ∃ v0_:Value,e = .returned (v0_)∧Kd.R (Kd.int .i64) 3 w' w.heap.size (fun _=>True) v0_ r∧Below w.heap.size w w':=by
 have bC:=A0_ bk;have bE:=A0_ bl;clear bk bl
 have HB:=A0_ (Below.refl w.heap.size w)
 have H:(if 0≤(l0.length:Int) then (if ((l0.length:Int):Int).toNat≤35184372088832 then ((s12_.f k l0).bind fun ab=>(s1e_.l0 k (List.replicate ((l0.length:Int):Int).toNat 0) ab 0)) else (none)) else (none))=some r:=h
 clear h
 have c2:=zpc H;replace H:=zph H
 have aY:=eq_true c2;have aZ:=dT c2;clear c2
 have c3:=zpc H;replace H:=zph H
 have a3:=eq_true c3;have a4:=dT c3;clear c3
 obtain⟨a5,aA⟩ : ∃ y_:List Int,y_=(List.replicate ((l0.length:Int):Int).toNat 0):=⟨_,rfl⟩
 replace H:((s12_.f k l0).bind fun ab=>(s1e_.l0 k a5 ab 0))=some r:=zH aA H
 have aT:=A0_ aA;clear aA;obtain⟨ab,A4,H⟩:=zbind H;have H':=A0_ H;clear H
 go_enter Try.func91,Try.ntmps91
 go_wp2_with (first|((with_reducible refine gD (N:=9) rfl ?_);refine Kd.R_make (Kd.int .i64) _ 3 rfl (N:=9) rfl 23 _ _ rfl (l0.length:Int) rfl rfl Try.underlying23 (.int .i64 0) 8 info3 rfl (by decide) (by omega) 0 (ok:=fun _=>True) (okp:=fun _=>True) rfl (fun _ hk=>hk) trivial (zd) (Nat.le_trans (Nat.mul_le_mul_right _ (zd:(l0.length:Int).toNat≤35184372088832)) (by omega)) (Below.refl _ _) (Nat.le_refl _) ?_;intro aC w5 aI hb hg_ hnew_;clear hg_ hnew_;(first|rw [← aT.out] at aI|(simp only [Int.reduceToNat] at aI;rw [← aT.out] at aI));have ar:=A0_ (rL aI (bZ (zB_ HB)));replace HB:=zB HB hb;clear hb aI)|((with_reducible refine gC (f:=71) rfl ?_);refine zJ (some 11) Try.func71 #[.slice A0 l0.length c0] ?_;(with_reducible refine(s12_.calls k _ _ l0 ab _ ?be ?bf A4.out).mono ?_);(case be=>exact zC bC HB);(case bf=>exact bE.out);rintro e w7 ⟨bu,rfl,bm,hb⟩;refine⟨_,rfl,?_⟩;have bg:=A0_ (Kd.S_lower (Kd.S_new' bm (rX (zR_ ar))) (bZ (zB_ HB)));replace ar:=zR ar hb;replace HB:=zB HB hb;(try clear hb);(try clear bm)))
 go_loopg [5] k (fun kq v5 w' => ∃ (aD:List Int) (aa:Int),v5 = .int .i64 aa∧Aside0 (s1e_.l0 kq aD ab aa=some r)∧Aside0 (kq≤k)∧Aside0 (Kd.R (Kd.int .i64) 3 w' w.heap.size (fun _=>True) aC aD)∧Aside0 (Kd.S (Kd.slice 3 (Kd.int .i64)) 23 w' w.heap.size (fun k_=>some k_≠(aC:Value).ownBlock) bu ab)∧Aside0 (Below w.heap.size w w'))
 case atStart=>exact⟨(a5),(0),zt,H',⟨Nat.le_refl _⟩,⟨zR_ ar⟩,⟨zmS bg (fun _ hk=>hk.2)⟩,⟨zB_ HB⟩⟩
 case round =>
  clear H';(try clear c2);(try clear aY);(try clear aZ);(try clear c3);(try clear a3);(try clear a4);obtain⟨aD,aa,rfl,HA,aU,aj,ac,HB⟩:=hrel
  cases gk with
  | zero=>exact absurd HA.out (by simp [s1e_.l0])
  | succ k1 =>
   have H:=HA.out;clear HA;simp only [s1e_.l0] at H
   by_cases c8:aa<(ab.length:Int)
   ·rw [if_pos c8] at H
    have a6:=dT c8;clear c8;have H':=A0_ H;clear H;obtain⟨bF,a7,bG⟩:=Kd.S_slice ac.out;subst bG
    go_wp2
    go_loopg [6] k1 (fun kq v6 w' => ∃ (af:List Int) (ae:Int),v6 = .int .i64 ae∧Aside0 (s1e_.l1 kq af ab aa ae=some r)∧Aside0 (kq≤k1)∧Aside0 (Kd.R (Kd.int .i64) 3 w' w.heap.size (fun _=>True) aC af)∧Aside0 (Kd.S (Kd.slice 3 (Kd.int .i64)) 23 w' w.heap.size (fun k_=>some k_≠(aC:Value).ownBlock) (.slice bF ab.length a7) ab)∧Aside0 (Below w.heap.size w w'))
    case atStart=>exact⟨(aD),(0),zt,H',⟨Nat.le_refl _⟩,⟨zR_ aj⟩,⟨zS_ ac⟩,⟨zB_ HB⟩⟩
    case round =>
     clear H';(try clear c2);(try clear aY);(try clear aZ);(try clear c3);(try clear a3);(try clear a4);(try clear c8);(try clear a6);obtain⟨af,ae,rfl,HA,aV,aj,ac,HB⟩:=hrel
     cases gk with
     | zero=>exact absurd HA.out (by simp [s1e_.l1])
     | succ k2 =>
      have H:=HA.out;clear HA;simp only [s1e_.l1] at H
      have bn:=zpc H;replace H:=zph H
      have bL:=dT bn;clear bn
      have bo:=zpc H;replace H:=zph H
      have bM:=dT bo;clear bo
      by_cases av:ae<((rd_L1 ab aa).length:Int)
      ·rw [if_pos av] at H
       have bh:=dT av;clear av
       have bp:=zpc H;replace H:=zph H
       have bO:=dT bp;clear bp
       have bq:=zpc H;replace H:=zph H
       have bP:=dT bq;clear bq
       have br:=zpc H;replace H:=zph H
       have bQ:=dT br;clear br
       obtain⟨aK,aE⟩ : ∃ y_:List Int,y_=(af.set ((rd (rd_L1 ab aa) ae):Int).toNat aa):=⟨_,rfl⟩
       replace H:(s1e_.l1 k2 aK ab aa (wrap64 (ae+1)))=some r:=zH aE H
       have bi:=A0_ aE;clear aE;have H':=A0_ H;clear H
       have ak:0≤(aa:Int):=zd
       have al:aa<(ab.length:Int):=zd
       obtain⟨au,a8,a9,aM,ao,ah,ai⟩:=at_L1 (Kd.S_reads' ac.out).2.2 aa ak al
       cases aM
       obtain⟨ce623,hce623,hMe623,an⟩:=Kd.S_get ac.out [] aa ak (by first|exact al|exact zd|(have e_:=(Kd.S_reads' ac.out).1;omega))
       obtain⟨ve623_0,rfl,ag⟩:=hMe623;have hv623_0:=an 0 _ rfl
       rw [Nat.add_zero,show((Kd.slice 3 (Kd.int .i64))).sz=1 from rfl,Nat.mul_one] at hv623_0
       replace hv623_0:=sI (hv623_0.symm.trans ao)
       rw [hv623_0] at ag
       have HL623_0:=A0_ (show Kd.R (Kd.int .i64) 3 _ _ _ _ (rd_L1 ab aa) from ag)
       clear hv623_0 ag an hce623;have aW:=A0_ ai;have aX:=A0_ ah;clear ai ah;replace ak:=eq_true ak;replace al:=eq_true al
       have aG:0≤(aa:Int):=zd
       have aH:aa<(ab.length:Int):=zd
       obtain⟨bj,bH,bI,bv,aw,ax,ay⟩:=at_L1 (Kd.S_reads' ac.out).2.2 aa aG aH
       obtain rfl:au=bj:=(by injection bv)
       obtain⟨ce624,hce624,hMe624,aJ⟩:=Kd.S_get ac.out [] aa aG (by first|exact aH|exact zd|(have e_:=(Kd.S_reads' ac.out).1;omega))
       obtain⟨ve624_0,rfl,aq⟩:=hMe624;have hv624_0:=aJ 0 _ rfl
       rw [Nat.add_zero,show((Kd.slice 3 (Kd.int .i64))).sz=1 from rfl,Nat.mul_one] at hv624_0
       replace hv624_0:=sI (hv624_0.symm.trans aw)
       rw [hv624_0] at aq
       have HL624_0:=A0_ (show Kd.R (Kd.int .i64) 3 _ _ _ _ (rd_L1 ab aa) from aq)
       clear hv624_0 aq aJ hce624;have az:=A0_ ay;have bz:=A0_ ax;clear ay ax;replace aG:=eq_true aG;replace aH:=eq_true aH
       have ea_:=sI (ao.symm.trans aw)
       injection ea_ with ea_ en_ ec_
       subst ea_;subst ec_;clear en_
       have aN:0≤(ae:Int):=zd
       have aQ:ae<((rd_L1 ab aa).length:Int):=zd
       obtain⟨bR,bw,bB⟩:=tI (by repeat(first|(with_reducible exact az.out)|(with_reducible refine cA ?_ _)|(with_reducible refine cN ?_ _)|(with_reducible refine cD ?_)|exact az.out)) ae aN aQ
       cases bw
       replace aN:=eq_true aN;replace aQ:=eq_true aQ
       have ba:0≤((rd (rd_L1 ab aa) ae):Int):=zd
       have bb:((rd (rd_L1 ab aa) ae):Int)<((af.length:Int):Int):=zd
       obtain⟨am,ap,bc,bd,gl16,cl16,HG16⟩:=Kd.R_form aj.out (by omega)
       (first|cases bc|(injection bc with ea_ en_ ec_;(first|subst ea_|(injection ea_ with ea_;subst ea_));subst ec_;clear en_))
       have GB16:=A0_ bd;have GG16:=A0_ HG16;clear bd gl16 HG16
       obtain⟨bJ,bK⟩:=Kd.R_celln 0 aj.out ((rd (rd_L1 ab aa) ae):Int) ba bb
       replace ba:=eq_true ba;replace bb:=eq_true bb
       have HP17:=Kd.R_putg aj.out ((rd (rd_L1 ab aa) ae):Int) aa
       go_wp2_with (first|((with_reducible refine gS (t:=3) (p:=36) rfl ?_);refine store_event (t:=3) (p:=36) (v := ?vo_w18) (w1:=(wr.setCell ⟨am,((rd (rd_L1 ab aa) ae):Int).toNat,none⟩ (.int .i64 aa))) ?hg ?ho ?hn ?hr ?_;(case ho=>rfl);(case hg=>rfl);(case hn=>rfl);(case hr=>first|(go_simp;done)|(go_simp;rfl));intro w18 hw;have hg:wr.grownBy w18 (some am):=(by rw [hw];exact HP17.2);have hp_:Kd.R (Kd.int .i64) 3 w18 w.heap.size (fun _=>True) (.slice (some ⟨am,0,none⟩) af.length ap) aK:=(by rw [hw,bi.out];exact HP17.1);clear HP17;replace aj:=A0_ (hp_);replace ac:=A0_ (Kd.S_after (v:=(.slice (some ⟨am,0,none⟩) af.length ap)) (v1:=(.slice (some ⟨am,0,none⟩) af.length ap)) (ok:=(fun _=>True)) (zmS ac (fun _ hk=>⟨trivial,hk⟩)) hg (.inl rfl));replace HL623_0:=A0_ (Kd.R_after (v:=(.slice (some ⟨am,0,none⟩) af.length ap)) (v1:=(.slice (some ⟨am,0,none⟩) af.length ap)) (ok:=(fun k_=>some k_≠(.slice (some au) ab.length a7:Value).ownBlock)) (zmR HL623_0 (fun _ hk=>⟨hk.2,hk.1⟩)) hg (.inl rfl));replace HL624_0:=A0_ (Kd.R_after (v:=(.slice (some ⟨am,0,none⟩) af.length ap)) (v1:=(.slice (some ⟨am,0,none⟩) af.length ap)) (ok:=(fun k_=>some k_≠(.slice (some au) ab.length a7:Value).ownBlock)) (zmR HL624_0 (fun _ hk=>⟨hk.2,hk.1⟩)) hg (.inl rfl));replace HB:=A0_ ((by rw [hw];exact bS (HB.out) GB16.out:Below w.heap.size w w18));clear hg hw hp_))
       go_roundg k2
       case measure=>have:=aU.out;have:=aV.out;omega
       case rel=>exact⟨(aK),(wrap64 (ae+1)),zt,H',⟨by have:=aU.out;have:=aV.out;omega⟩,⟨zR_ aj⟩,⟨zmS ac (fun _ hk=>hk.2)⟩,⟨zB_ HB⟩⟩
      rw [if_neg av] at H;have bh:=dF av;clear av;have H':=A0_ H;clear H
      have ak:0≤(aa:Int):=zd
      have al:aa<(ab.length:Int):=zd
      obtain⟨au,a8,a9,aM,ao,ah,ai⟩:=at_L1 (Kd.S_reads' ac.out).2.2 aa ak al
      cases aM
      obtain⟨ce623,hce623,hMe623,an⟩:=Kd.S_get ac.out [] aa ak (by first|exact al|exact zd|(have e_:=(Kd.S_reads' ac.out).1;omega))
      obtain⟨ve623_0,rfl,ag⟩:=hMe623;have hv623_0:=an 0 _ rfl
      rw [Nat.add_zero,show((Kd.slice 3 (Kd.int .i64))).sz=1 from rfl,Nat.mul_one] at hv623_0
      replace hv623_0:=sI (hv623_0.symm.trans ao)
      rw [hv623_0] at ag
      have HL623_0:=A0_ (show Kd.R (Kd.int .i64) 3 _ _ _ _ (rd_L1 ab aa) from ag)
      clear hv623_0 ag an hce623;have aW:=A0_ ai;have aX:=A0_ ah;clear ai ah;replace ak:=eq_true ak;replace al:=eq_true al
      go_wp2
      go_roundg k2
      case measure=>have:=aU.out;have:=aV.out;omega
      case rel=>exact⟨(af),(wrap64 (aa+1)),zt,H',⟨by have:=aU.out;have:=aV.out;omega⟩,⟨zR_ aj⟩,⟨zS_ ac⟩,⟨zB_ HB⟩⟩
   rw [if_neg c8] at H;have a6:=dF c8;clear c8;obtain rfl:=sI H;obtain⟨bU,bV,bx⟩:=Kd.S_slice ac.out;subst bx
   go_wp2
   go_ret
   exact⟨_,by first|rfl|(simp [*] <;> rfl),zR_ aj,zB_ HB⟩
def s10_.l0:Nat→List Int→List Int→Int→Option (List Int)
  | 0,_,_,_=>none
  | k+1,x0,x3,x4=>if x4<(x0.length:Int) then (if 0≤x4 then (if 0≤(rd x0 x4) then (if (rd x0 x4)<(x3.length:Int) then (s10_.l0 k x0 (x3.set ((rd x0 x4):Int).toNat x4) (wrap64 (x4+1))) else (none)) else (none)) else (none)) else (some x3)
def s10_.f (k:Nat) (l0:List Int):Option (List Int):=if 0≤(l0.length:Int) then (if ((l0.length:Int):Int).toNat≤35184372088832 then (s10_.l0 k l0 (List.replicate ((l0.length:Int):Int).toNat 0) 0) else (none)) else (none)
theorem s10_.calls (k:Nat) (A0:Option Addr) (c0:Nat) (l0:List Int) (r:List Int) (w:World) (aw:Kd.C (Kd.int .i64) w A0 l0.length l0) (ax:l0.length≤c0) (h:s10_.f k l0=some r) :
    Calls Try.prog 93 #[.slice A0 l0.length c0] w fun e w' => ∃ v0_:Value,e = .returned (v0_)∧Kd.R (Kd.int .i64) 3 w' w.heap.size (fun _=>True) v0_ r∧Below w.heap.size w w':=by
 have aJ:=A0_ aw;have aV:=A0_ ax;clear aw ax
 have HB:=A0_ (Below.refl w.heap.size w)
 have H:(if 0≤(l0.length:Int) then (if ((l0.length:Int):Int).toNat≤35184372088832 then (s10_.l0 k l0 (List.replicate ((l0.length:Int):Int).toNat 0) 0) else (none)) else (none))=some r:=h
 clear h
 have c2:=zpc H;replace H:=zph H
 have az:=eq_true c2;have aA:=dT c2;clear c2
 have c3:=zpc H;replace H:=zph H
 have aC:=eq_true c3;have aD:=dT c3;clear c3
 obtain⟨an,af⟩ : ∃ y_:List Int,y_=(List.replicate ((l0.length:Int):Int).toNat 0):=⟨_,rfl⟩
 replace H:(s10_.l0 k l0 an 0)=some r:=zH af H
 have am:=A0_ af;clear af;have H':=A0_ H;clear H
 go_enter Try.func93,Try.ntmps93
 go_wp2_with (first|((with_reducible refine gD (N:=7) rfl ?_);refine Kd.R_make (Kd.int .i64) _ 3 rfl (N:=7) rfl 23 _ _ rfl (l0.length:Int) rfl rfl Try.underlying23 (.int .i64 0) 8 info3 rfl (by decide) (by omega) 0 (ok:=fun _=>True) (okp:=fun _=>True) rfl (fun _ hk=>hk) trivial (zd) (Nat.le_trans (Nat.mul_le_mul_right _ (zd:(l0.length:Int).toNat≤35184372088832)) (by omega)) (Below.refl _ _) (Nat.le_refl _) ?_;intro aE w4 ah hb hg_ hnew_;clear hg_ hnew_;(first|rw [← am.out] at ah|(simp only [Int.reduceToNat] at ah;rw [← am.out] at ah));have au:=A0_ (rL ah (bZ (zB_ HB)));replace HB:=zB HB hb;clear hb ah))
 go_loopg [4] k (fun kq v4 w' => ∃ (ab:List Int) (aa:Int),v4 = .int .i64 aa∧Aside0 (s10_.l0 kq l0 ab aa=some r)∧Aside0 (kq≤k)∧Aside0 (Kd.R (Kd.int .i64) 3 w' w.heap.size (fun _=>True) aE ab)∧Aside0 (Below w.heap.size w w'))
 case atStart=>exact⟨(an),(0),zt,H',⟨Nat.le_refl _⟩,⟨zR_ au⟩,⟨zB_ HB⟩⟩
 case round =>
  clear H';(try clear c2);(try clear az);(try clear aA);(try clear c3);(try clear aC);(try clear aD);obtain⟨ab,aa,rfl,HA,ay,ac,HB⟩:=hrel
  cases gk with
  | zero=>exact absurd HA.out (by simp [s10_.l0])
  | succ k1 =>
   have H:=HA.out;clear HA;simp only [s10_.l0] at H
   by_cases c6:aa<(l0.length:Int)
   ·rw [if_pos c6] at H
    have aG:=dT c6;clear c6
    have c7:=zpc H;replace H:=zph H
    have aQ:=dT c7;clear c7
    have c8:=zpc H;replace H:=zph H
    have aT:=dT c8;clear c8
    have c9:=zpc H;replace H:=zph H
    have aU:=dT c9;clear c9
    obtain⟨ai,ag⟩ : ∃ y_:List Int,y_=(ab.set ((rd l0 aa):Int).toNat aa):=⟨_,rfl⟩
    replace H:(s10_.l0 k1 l0 ai (wrap64 (aa+1)))=some r:=zH ag H
    have av:=A0_ ag;clear ag;have H':=A0_ H;clear H
    have aj:0≤(aa:Int):=zd
    have ak:aa<(l0.length:Int):=zd
    obtain⟨aN,aH,ae⟩:=tI aJ.out aa aj ak
    cases aH
    try replace ae:=(HB.out.cell (wL w _ ae)).trans ae
    replace aj:=eq_true aj;replace ak:=eq_true ak
    have ao:0≤((rd l0 aa):Int):=zd
    have ap:((rd l0 aa):Int)<((ab.length:Int):Int):=zd
    obtain⟨al,aI,aq,ar,gl10,cl10,HG10⟩:=Kd.R_form ac.out (by omega)
    (first|cases aq|(injection aq with ea_ en_ ec_;(first|subst ea_|(injection ea_ with ea_;subst ea_));subst ec_;clear en_))
    have GB10:=A0_ ar;have GG10:=A0_ HG10;clear ar gl10 HG10
    obtain⟨aK,aM⟩:=Kd.R_celln 0 ac.out ((rd l0 aa):Int) ao ap
    replace ao:=eq_true ao;replace ap:=eq_true ap
    have HP11:=Kd.R_putg ac.out ((rd l0 aa):Int) aa
    go_wp2_with (first|((with_reducible refine gS (t:=3) (p:=20) rfl ?_);refine store_event (t:=3) (p:=20) (v := ?vo_w12) (w1:=(wr.setCell ⟨al,((rd l0 aa):Int).toNat,none⟩ (.int .i64 aa))) ?hg ?ho ?hn ?hr ?_;(case ho=>rfl);(case hg=>rfl);(case hn=>rfl);(case hr=>first|(go_simp;done)|(go_simp;rfl));intro w12 hw;have hg:wr.grownBy w12 (some al):=(by rw [hw];exact HP11.2);have hp_:Kd.R (Kd.int .i64) 3 w12 w.heap.size (fun _=>True) (.slice (some ⟨al,0,none⟩) ab.length aI) ai:=(by rw [hw,av.out];exact HP11.1);clear HP11;replace ac:=A0_ (hp_);replace HB:=A0_ ((by rw [hw];exact bS (HB.out) GB10.out:Below w.heap.size w w12));clear hg hw hp_))
    go_roundg k1
    case measure=>have:=ay.out;omega
    case rel=>exact⟨(ai),(wrap64 (aa+1)),zt,H',⟨by have:=ay.out;omega⟩,⟨zR_ ac⟩,⟨zB_ HB⟩⟩
   rw [if_neg c6] at H;have aG:=dF c6;clear c6;obtain rfl:=sI H
   go_wp2
   go_ret
   exact⟨_,by first|rfl|(simp [*] <;> rfl),zR_ ac,zB_ HB⟩
def s16_.f (l0:List Int):Option (List Int):=(some (([]:List Int):List Int)).bind fun aa=>(if aa.length+l0.length<17592186044416 then (some (aa ++ l0)) else (none))
theorem s16_.calls (A0:Option Addr) (c0:Nat) (l0:List Int) (r:List Int) (w:World) (aj:Kd.C (Kd.int .i64) w A0 l0.length l0) (ak:l0.length≤c0) (h:s16_.f l0=some r) :
    Calls Try.prog 97 #[.slice A0 l0.length c0] w fun e w' => ∃ v0_:Value,e = .returned (v0_)∧Kd.R (Kd.int .i64) 3 w' w.heap.size (fun _=>True) v0_ r∧Below w.heap.size w w':=by
 have ao:=A0_ aj;have aq:=A0_ ak;clear aj ak
 have HB:=A0_ (Below.refl w.heap.size w)
 have H:((some (([]:List Int):List Int)).bind fun aa=>(if aa.length+l0.length<17592186044416 then (some (aa ++ l0)) else (none)))=some r:=h
 clear h
 obtain⟨aa,ab⟩ : ∃ y_:List Int,y_=(([]:List Int)):=⟨_,rfl⟩
 replace H:(if aa.length+l0.length<17592186044416 then (some (aa ++ l0)) else (none))=some r:=zH ab H
 have af:=A0_ ab;clear ab
 have c2:=zpc H;replace H:=zph H
 have al:=A0_ c2;clear c2
 obtain⟨am,ac⟩ : ∃ y_:List Int,y_=(aa ++ l0):=⟨_,rfl⟩
 replace H:(some am)=some r:=zH ac H
 have ah:=A0_ ac;clear ac;obtain rfl:=sI H
 go_enter Try.func97,Try.ntmps97
 go_wp2_with (first|((with_reducible refine gD (N:=3) rfl ?_);refine Kd.R_lit (Kd.int .i64) _ 3 ?hg (N:=3) ?hd (xs:=([]:List Int)) (inner := []) (ok:=fun _=>True) (okp:=fun _=>True) ?hr ?hp (fun _ hk=>hk) trivial (Below.refl _ _) (Nat.le_refl _) (by simp) ?_;(case hd=>rfl);(case hg=>rfl);(case hr=>first|(go_simp;done)|(go_simp;rfl));(case hp=>exact(Reps.none _ _));intro an w3 ae hb hg_ hnew_;clear hg_ hnew_;(first|rw [← af.out] at ae|(simp only [Int.reduceToNat] at ae;rw [← af.out] at ae));have ag:=A0_ (rL ae (bZ (zB_ HB)));replace HB:=zB HB hb;clear hb ae)|((with_reducible refine gB (b := .append) (xs := #[.tmp 3,.tmp 4]) rfl ?_);at_builtin;refine Kd.R_append_rows (Kd.int .i64) (w0:=w) w.heap.size rfl (.tmp 3) (.tmp 4) 23 3 (.int .i64 0) 8 rfl Try.underlying23 info3 rfl (by decide) (by omega) an aa l0 _ _ _ (fun _=>True) (fun _=>False) rfl rfl ?aO ?aR (fun _ _ h=>h) (fun _ h=>h.elim) ?aF ?aB ?aS ?aL ?_;(case aR=>exact zC ao HB);(case aB=>exact(zB_ HB));(case aF=>exact(fun _ _=>trivial));(case aO=>exact(zR_ ag));(case aS=>exact(bZ (zB_ HB)));(case aL=>have:=al.out;omega);intro ap w5 ho hb hg hat;rw [← ah.out] at ho;replace HB:=A0_ (hb);have ai:=A0_ (ho);clear ag ho hb hg hat))
 go_ret
 exact⟨_,by first|rfl|(simp [*] <;> rfl),zR_ ai,zB_ HB⟩
def s1c_.l0:Nat→List Int→Int→Int→List Int→List Int→Option (List Int)
  | 0,_,_,_,_,_=>none
  | k+1,x3,x4,x5,ab,aa=>if x5<(x3.length:Int) then (if 0≤x5 then (if x5<(aa.length:Int) then (if x5<(rd aa x5) then (if 0≤(rd aa x5) then (if (rd aa x5)<(x3.length:Int) then (s1c_.l0 k ((x3.set (x5:Int).toNat x4).set ((rd aa x5):Int).toNat x4) (wrap64 (x4+1)) (wrap64 (x5+1)) ab aa) else (none)) else (none)) else (s1c_.l0 k x3 x4 (wrap64 (x5+1)) ab aa)) else (none)) else (none)) else (some x3)
def s1c_.f (k:Nat) (ab:List Int) (aa:List Int):Option (List Int):=if 0≤(aa.length:Int) then (if ((aa.length:Int):Int).toNat≤35184372088832 then (s1c_.l0 k (List.replicate ((aa.length:Int):Int).toNat 0) 0 0 ab aa) else (none)) else (none)
theorem s1c_.calls (k:Nat) (al:Option Addr) (am:Nat) (af:List Int) (au:Option Addr) (an:Nat) (ac:List Int) (r:List Int) (w:World) (aI:Kd.C (Kd.int .i64) w al af.length af) (aJ:af.length≤am) (aK:Kd.C (Kd.int .i64) w au ac.length ac) (aM:ac.length≤an) (h:s1c_.f k af ac=some r) :
    Calls Try.prog 112 #[.agg #[.slice al af.length am,.slice au ac.length an]] w fun e w' => ∃ v0_:Value,e = .returned (v0_)∧Kd.R (Kd.int .i64) 3 w' w.heap.size (fun _=>True) v0_ r∧Below w.heap.size w w':=by
 have bW:=Try.underlying25;have bL:=A0_ aI;have bM:=A0_ aJ;clear aI aJ;have av:=A0_ aK;have bO:=A0_ aM;clear aK aM
 have HB:=A0_ (Below.refl w.heap.size w)
 have H:(if 0≤(ac.length:Int) then (if ((ac.length:Int):Int).toNat≤35184372088832 then (s1c_.l0 k (List.replicate ((ac.length:Int):Int).toNat 0) 0 0 af ac) else (none)) else (none))=some r:=h
 clear h
 have c2:=zpc H;replace H:=zph H
 have bg:=eq_true c2;have bh:=dT c2;clear c2
 have c3:=zpc H;replace H:=zph H
 have bi:=eq_true c3;have bj:=dT c3;clear c3
 obtain⟨aT,aw⟩ : ∃ y_:List Int,y_=(List.replicate ((ac.length:Int):Int).toNat 0):=⟨_,rfl⟩
 replace H:(s1c_.l0 k aT 0 0 af ac)=some r:=zH aw H
 have aN:=A0_ aw;clear aw;have H':=A0_ H;clear H
 go_enter Try.func112,Try.ntmps112
 go_wp2_with (first|((with_reducible refine gD (N:=1) rfl ?_);refine zX (N:=1) (cs := #[.slice al af.length am,.slice au ac.length an]) (t:=25) ?_;intro ax hg w4 hbox hb;have aa:=A0_ (hbox);have bP:=zG hg HB;have bQ:=zG hg HB;replace HB:=zB HB hb;clear hb hbox hg;have aU:=zc0 aa;have aV:=zc1 aa;have aW:=kF aa.out 0;have aX:=kF aa.out 1)|((with_reducible refine gD (N:=9) rfl ?_);refine Kd.R_make (Kd.int .i64) _ 3 rfl (N:=9) rfl 23 _ _ rfl (ac.length:Int) rfl rfl Try.underlying23 (.int .i64 0) 8 info3 rfl (by decide) (by omega) 0 (ok:=fun _=>True) (okp:=fun _=>True) rfl (fun _ hk=>hk) trivial (zd) (Nat.le_trans (Nat.mul_le_mul_right _ (zd:(ac.length:Int).toNat≤35184372088832)) (by omega)) (Below.refl _ _) (Nat.le_refl _) ?_;intro bk w6 aA hb hg_ hnew_;clear hg_ hnew_;(first|rw [← aN.out] at aA|(simp only [Int.reduceToNat] at aA;rw [← aN.out] at aA));have a8:=A0_ (rL aA (bZ (zB_ HB)));replace aa:=zK aa hb;replace HB:=zB HB hb;clear hb aA))
 go_loopg [4,5] k (fun kq v4 v5 w' => ∃ (ai:List Int) (ag:Int) (ab:Int),v4 = .int .i64 ag∧v5 = .int .i64 ab∧Aside0 (s1c_.l0 kq ai ag ab af ac=some r)∧Aside0 (kq≤k)∧Aside0 (Kd.R (Kd.int .i64) 3 w' w.heap.size (fun _=>True) bk ai)∧Aside0 (w'.heap[ax]? = some (.cells #[(.slice al af.length am),(.slice au ac.length an)] 25 (0,0)))∧Aside0 (Below w.heap.size w w'))
 case atStart=>exact⟨(aT),(0),(0),zt,zt,H',⟨Nat.le_refl _⟩,⟨zR_ a8⟩,⟨zK_ aa⟩,⟨zB_ HB⟩⟩
 case round =>
  clear H';(try clear c2);(try clear bg);(try clear bh);(try clear c3);(try clear bi);(try clear bj);(try clear aU);(try clear aV);(try clear aW);(try clear aX);obtain⟨ai,ag,ab,rfl,rfl,HA,aQ,ae,aa,HB⟩:=hrel
  cases gk with
  | zero=>exact absurd HA.out (by simp [s1c_.l0])
  | succ k1 =>
   have H:=HA.out;clear HA;simp only [s1c_.l0] at H
   by_cases c8:ab<(ai.length:Int)
   ·rw [if_pos c8] at H
    have bl:=dT c8;clear c8
    have c9:=zpc H;replace H:=zph H
    have bX:=dT c9;clear c9
    have bd:=zpc H;replace H:=zph H
    have bR:=dT bd;clear bd
    by_cases ar:ab<(rd ac ab)
    ·rw [if_pos ar] at H
     have a9:=dT ar;clear ar
     obtain⟨aC,ay⟩ : ∃ y_:List Int,y_=(ai.set (ab:Int).toNat ag):=⟨_,rfl⟩
     replace H:(if 0≤(rd ac ab) then (if (rd ac ab)<(ai.length:Int) then (s1c_.l0 k1 (aC.set ((rd ac ab):Int).toNat ag) (wrap64 (ag+1)) (wrap64 (ab+1)) af ac) else (none)) else (none))=some r:=zH ay H
     have ba:=A0_ ay;clear ay
     have be:=zpc H;replace H:=zph H
     have bU:=dT be;clear be
     have bf:=zpc H;replace H:=zph H
     have bV:=dT bf;clear bf
     obtain⟨aD,az⟩ : ∃ y_:List Int,y_=(aC.set ((rd ac ab):Int).toNat ag):=⟨_,rfl⟩
     replace H:(s1c_.l0 k1 aD (wrap64 (ag+1)) (wrap64 (ab+1)) af ac)=some r:=zH az H
     have bb:=A0_ az;clear az;have H':=A0_ H;clear H;obtain⟨bY,aY,bm⟩:=rS ae.out;subst bm;have bq:=zc0 aa;have br:=zc1 aa;have bu:=kF aa.out 0;have bv:=kF aa.out 1
     have aj:0≤(ab:Int):=zd
     have ak:ab<(ac.length:Int):=zd
     obtain⟨aq,aE,ah⟩:=tI av.out ab aj ak
     cases aE
     try replace ah:=(HB.out.cell (wL w _ ah)).trans ah
     replace aj:=eq_true aj;replace ak:=eq_true ak
     have aZ:0≤(ab:Int):=zd
     have a3:(ab:Int)<((ai.length:Int):Int):=zd
     obtain⟨ao,b2,a4,a5,gl12,cl12,HG12⟩:=Kd.R_form ae.out (by omega)
     (first|cases a4|(injection a4 with ea_ en_ ec_;(first|subst ea_|(injection ea_ with ea_;subst ea_));subst ec_;clear en_))
     have GB12:=A0_ a5;have GG12:=A0_ HG12;clear a5 gl12 HG12
     obtain⟨bH,bI⟩:=Kd.R_celln 0 ae.out (ab:Int) aZ a3
     replace aZ:=eq_true aZ;replace a3:=eq_true a3
     have HP18:=Kd.R_putg ae.out (ab:Int) ag
     go_wp2_with (first|((with_reducible refine gS (t:=3) (p:=26) rfl ?_);refine store_event (t:=3) (p:=26) (v := ?vo_w19) (w1:=(wr.setCell ⟨ao,(ab:Int).toNat,none⟩ (.int .i64 ag))) ?hg ?ho ?hn ?hr ?_;(case ho=>rfl);(case hg=>rfl);(case hn=>rfl);(case hr=>first|(go_simp;done)|(go_simp;rfl));intro w19 hw;have hg:wr.grownBy w19 (some ao):=(by rw [hw];exact HP18.2);have hp_:Kd.R (Kd.int .i64) 3 w19 w.heap.size (fun _=>True) (.slice (some ⟨ao,0,none⟩) ai.length aY) aC:=(by rw [hw,ba.out];exact HP18.1);clear HP18;replace aa:=A0_ (blk_grown (g:=ax) (o := .cells #[.slice al af.length am,.slice (some aq) ac.length an] 25 (0,0)) (zK_ aa) hg (Kd.R_ne ae.out aa.out (by decide)));replace ae:=A0_ (hp_);replace HB:=A0_ ((by rw [hw];exact bS (HB.out) GB12.out:Below w.heap.size w w19));clear hg hw hp_;have bw:=zc0 aa;have bx:=zc1 aa;have bz:=kF aa.out 0;have bB:=kF aa.out 1;have aG:0≤(ab:Int):=zd;have aH:ab<(ac.length:Int):=zd;obtain⟨bc,bn,ap⟩:=tI av.out ab aG aH;obtain rfl:aq=bc:=(by injection bn);try replace ap:=(HB.out.cell (wL w _ ap)).trans ap;replace aG:=eq_true aG;replace aH:=eq_true aH;have a6:0≤((rd ac ab):Int):=zd;have a7:((rd ac ab):Int)<((ai.length:Int):Int):=zd;obtain⟨bJ,bK⟩:=Kd.R_celln 0 ae.out ((rd ac ab):Int) a6 a7;replace a6:=eq_true a6;replace a7:=eq_true a7;obtain⟨hy21_,hz21_⟩:=Kd.R_celln 0 ae.out ((rd ac ab):Int) (zd) (zd);have HP21:=Kd.R_putg ae.out ((rd ac ab):Int) ag)|((with_reducible refine gS (t:=3) (p:=34) rfl ?_);refine store_event (t:=3) (p:=34) (v := ?vo_w22) (w1:=(w19.setCell ⟨ao,((rd ac ab):Int).toNat,none⟩ (.int .i64 ag))) ?hg ?ho ?hn ?hr ?_;(case ho=>rfl);(case hg=>rfl);(case hn=>rfl);(case hr=>first|(go_simp;done)|(go_simp;rfl));intro w22 hw;have hg:w19.grownBy w22 (some ao):=(by rw [hw];exact HP21.2);have hp_:Kd.R (Kd.int .i64) 3 w22 w.heap.size (fun _=>True) (.slice (some ⟨ao,0,none⟩) ai.length aY) aD:=(by rw [hw,bb.out];exact HP21.1);clear HP21;replace aa:=A0_ (blk_grown (g:=ax) (o := .cells #[.slice al af.length am,.slice (some aq) ac.length an] 25 (0,0)) (zK_ aa) hg (Kd.R_ne ae.out aa.out (by decide)));replace ae:=A0_ (hp_);replace HB:=A0_ ((by rw [hw];exact bS (HB.out) GB12.out:Below w.heap.size w w22));clear hg hw hp_))
     go_roundg k1
     case measure=>have:=aQ.out;omega
     case rel=>exact⟨(aD),(wrap64 (ag+1)),(wrap64 (ab+1)),zt,zt,H',⟨by have:=aQ.out;omega⟩,⟨zR_ ae⟩,⟨zK_ aa⟩,⟨zB_ HB⟩⟩
    rw [if_neg ar] at H;have a9:=dF ar;clear ar;have H':=A0_ H;clear H;obtain⟨b3,b4,bo⟩:=rS ae.out;subst bo;have bC:=zc0 aa;have bE:=zc1 aa;have bF:=kF aa.out 0;have bG:=kF aa.out 1
    have aj:0≤(ab:Int):=zd
    have ak:ab<(ac.length:Int):=zd
    obtain⟨aq,aE,ah⟩:=tI av.out ab aj ak
    cases aE
    try replace ah:=(HB.out.cell (wL w _ ah)).trans ah
    replace aj:=eq_true aj;replace ak:=eq_true ak
    go_wp2
    go_roundg k1
    case measure=>have:=aQ.out;omega
    case rel=>exact⟨(ai),(ag),(wrap64 (ab+1)),zt,zt,H',⟨by have:=aQ.out;omega⟩,⟨zR_ ae⟩,⟨zK_ aa⟩,⟨zB_ HB⟩⟩
   rw [if_neg c8] at H;have bl:=dF c8;clear c8;obtain rfl:=sI H;obtain⟨b5,b6,bp⟩:=rS ae.out;subst bp
   go_wp2
   go_ret
   exact⟨_,by first|rfl|(simp [*] <;> rfl),zR_ ae,zB_ HB⟩
def s1b_.l0:Nat→Int→List Int→Int→Option (Int)
  | 0,_,_,_=>none
  | k+1,x1,x5,x6=>if x6<(x5.length:Int) then (if 0≤x6 then (if (rd x5 x6)=x1 then (some x6) else (s1b_.l0 k x1 x5 (wrap64 (x6+1)))) else (none)) else (some (-1))
def s1b_.f (k:Nat) (aa:List Int) (ab:List Int) (a1:Int):Option (Int):=(s1c_.f k aa ab).bind fun ac=>(s1b_.l0 k a1 ac 0)
theorem s1b_.calls (k:Nat) (aj:Option Addr) (ak:Nat) (ae:List Int) (al:Option Addr) (am:Nat) (af:List Int) (a1:Int) (r:Int) (w:World) (ao:Kd.C (Kd.int .i64) w aj ae.length ae) (ap:ae.length≤ak) (aq:Kd.C (Kd.int .i64) w al af.length af) (ar:af.length≤am) (h:s1b_.f k ae af a1=some r) :
    Calls Try.prog 111 #[.agg #[.slice aj ae.length ak,.slice al af.length am],.int .i64 a1] w fun e w'=>e = .returned (.int .i64 r)∧Below w.heap.size w w':=by
 have a5:=Try.underlying25;have az:=A0_ ao;have aA:=A0_ ap;clear ao ap;have aC:=A0_ aq;have aD:=A0_ ar;clear aq ar
 have HB:=A0_ (Below.refl w.heap.size w)
 have H:((s1c_.f k ae af).bind fun ab=>(s1b_.l0 k a1 ab 0))=some r:=h
 clear h;obtain⟨ab,A3,H⟩:=zbind H;have H':=A0_ H;clear H
 go_enter Try.func111,Try.ntmps111
 go_wp2_with (first|((with_reducible refine gD (N:=2) rfl ?_);refine zX (N:=2) (cs := #[.slice aj ae.length ak,.slice al af.length am]) (t:=25) ?_;intro aE hg w4 hbox hb;have ac:=A0_ (hbox);have a3:=zG hg HB;have a4:=zG hg HB;replace HB:=zB HB hb;clear hb hbox hg;have av:=zc0 ac;have aw:=zc1 ac;have ax:=kF ac.out 0;have ay:=kF ac.out 1)|((with_reducible refine gC (f:=112) rfl ?_);refine zJ (some 8) Try.func112 #[.agg #[.slice aj ae.length ak,.slice al af.length am]] ?_;(with_reducible refine(s1c_.calls k _ _ ae _ _ af ab _ ?aG ?aH ?aI ?aJ A3.out).mono ?_);(case aG=>exact zC az HB);(case aH=>exact aA.out);(case aI=>exact zC aC HB);(case aJ=>exact aD.out);rintro e w6 ⟨aT,rfl,aN,hb⟩;refine⟨_,rfl,?_⟩;have aK:=A0_ (rL aN (bZ (zB_ HB)));replace ac:=zK ac hb;replace HB:=zB HB hb;(try clear hb);(try clear aN)))
 go_loopg [6] k (fun kq v6 w' => ∃ (aa:Int),v6 = .int .i64 aa∧Aside0 (s1b_.l0 kq a1 ab aa=some r)∧Aside0 (kq≤k)∧Aside0 (Kd.R (Kd.int .i64) 3 w' w.heap.size (fun _=>True) aT ab)∧Aside0 (w'.heap[aE]? = some (.cells #[(.slice aj ae.length ak),(.slice al af.length am)] 25 (0,0)))∧Aside0 (Below w.heap.size w w'))
 case atStart=>exact⟨(0),zt,H',⟨Nat.le_refl _⟩,⟨zR_ aK⟩,⟨zK_ ac⟩,⟨zB_ HB⟩⟩
 case round =>
  clear H';(try clear av);(try clear aw);(try clear ax);(try clear ay);obtain⟨aa,rfl,HA,aQ,ai,ac,HB⟩:=hrel
  cases gk with
  | zero=>exact absurd HA.out (by simp [s1b_.l0])
  | succ k1 =>
   have H:=HA.out;clear HA;simp only [s1b_.l0] at H
   by_cases c7:aa<(ab.length:Int)
   ·rw [if_pos c7] at H
    have aU:=dT c7;clear c7
    have c8:=zpc H;replace H:=zph H
    have a6:=dT c8;clear c8
    by_cases c9:(rd ab aa)=a1
    ·rw [if_pos c9] at H
     have aV:((rd ab aa) == a1)=true:=beq_iff_eq.mpr c9
     have aW:((rd ab aa) != a1)=false:=bne_eq_false_iff_eq.mpr c9
     clear c9;obtain rfl:=sI H;obtain⟨a7,a8,aX⟩:=rS ai.out;subst aX
     have ag:0≤(aa:Int):=zd
     have ah:aa<(ab.length:Int):=zd
     obtain⟨aM,an,au⟩:=tI (rR ai.out).2.2 aa ag ah
     cases an
     replace ag:=eq_true ag;replace ah:=eq_true ah
     go_wp2
     go_ret
     exact⟨by first|rfl|(simp [*] <;> rfl),zB_ HB⟩
    rw [if_neg c9] at H
    have aV:((rd ab aa) == a1)=false:=beq_eq_false_iff_ne.mpr c9
    have aW:((rd ab aa) != a1)=true:=bne_iff_ne.mpr c9
    have H':=A0_ H;clear H;obtain⟨a9,ba,aY⟩:=rS ai.out;subst aY
    have ag:0≤(aa:Int):=zd
    have ah:aa<(ab.length:Int):=zd
    obtain⟨aM,an,au⟩:=tI (rR ai.out).2.2 aa ag ah
    cases an
    replace ag:=eq_true ag;replace ah:=eq_true ah
    go_wp2
    go_roundg k1
    case measure=>have:=aQ.out;omega
    case rel=>exact⟨(wrap64 (aa+1)),zt,H',⟨by have:=aQ.out;omega⟩,⟨zR_ ai⟩,⟨zK_ ac⟩,⟨zB_ HB⟩⟩
   rw [if_neg c7] at H;have aU:=dF c7;clear c7;obtain rfl:=sI H;obtain⟨bb,bc,aZ⟩:=rS ai.out;subst aZ
   go_wp2
   go_ret
   exact⟨by first|rfl|(simp [*] <;> rfl),zB_ HB⟩
end Go.Proofs.Ytmegggomhjgehaa.PFnCoverTree
