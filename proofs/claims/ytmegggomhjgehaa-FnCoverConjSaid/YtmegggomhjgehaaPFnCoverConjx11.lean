import Derived.Test.YtmegggomhjgehaaPFnCoverConjx5
set_option linter.unusedVariables false
namespace Go.Proofs.Ytmegggomhjgehaa.PFnCoverConj
open Go.RowKit Go.Proofs.YtmegggomhjgehaaW.PrintWords Go.Proofs.YtmegggomhjgehaaW.PrintLast Go.Proofs.YtmegggomhjgehaaW.PrintMore
set_option maxHeartbeats 8000000
set_option maxRecDepth 100000
attribute [local go_sem] max2_int min2_int max_two min_two max_three min_three max_four min_four
mutual
def io_.l0:Nat→List Int→List (List Int)→Int→Int→Option (List Int)
  | 0,_,_,_,_=>none
  | k+1,x3,ab,ac,aa=>if aa<ac then (if 0≤aa then (if aa<(ab.length:Int) then (io_.l1 k x3 aa ab ac aa (rd_L1 ab aa) ((rd_L1 ab aa).length:Int) 0) else (none)) else (none)) else (some x3)
def io_.l1:Nat→List Int→Int→List (List Int)→Int→Int→List Int→Int→Int→Option (List Int)
  | 0,_,_,_,_,_,_,_,_=>none
  | k+1,x3,x4,ac,ae,af,ab,ag,aa=>if aa<ag then (if 0≤aa then (if aa<(ab.length:Int) then (if 0≤(rd ab aa) then (if (rd ab aa)<(x3.length:Int) then (io_.l1 k (x3.set ((rd ab aa):Int).toNat x4) x4 ac ae af ab ag (wrap64 (aa+1))) else (none)) else (none)) else (none)) else (none)) else (io_.l0 k x3 ac ae (wrap64 (af+1)))
end
def io_.f (k:Nat) (aa:List Int) (ac:List Int):Option (List Int):=if 0≤(aa.length:Int) then (if ((aa.length:Int):Int).toNat≤35184372088832 then ((if_.f k aa).bind fun ab=>(io_.l0 k (List.replicate ((aa.length:Int):Int).toNat 0) ab (ab.length:Int) 0)) else (none)) else (none)
theorem io_.calls (k:Nat) (ak:Option Addr) (al:Nat) (ae:List Int) (an:Option Addr) (ao:Nat) (aj:List Int) (r:List Int) (w:World) (a4:Kd.C (Kd.int .i64) w ak ae.length ae) (a5:ae.length≤al) (a6:Kd.C (Kd.int .i64) w an aj.length aj) (a7:aj.length≤ao) (h:io_.f k ae aj=some r) :
    Calls Try.prog 59 #[.agg #[.slice ak ae.length al,.slice an aj.length ao]] w fun e w' => ∃ v0_:Value,e = .returned (v0_)∧Kd.R (Kd.int .i64) 3 w' w.heap.size (fun _=>True) v0_ r∧Below w.heap.size w w':=by
 have b8:=Try.underlying25;have br:=A0_ a4;have bu:=A0_ a5;clear a4 a5;have bW:=A0_ a6;have bX:=A0_ a7;clear a6 a7
 have HB:=A0_ (Below.refl w.heap.size w)
 have H:(if 0≤(ae.length:Int) then (if ((ae.length:Int):Int).toNat≤35184372088832 then ((if_.f k ae).bind fun ab=>(io_.l0 k (List.replicate ((ae.length:Int):Int).toNat 0) ab (ab.length:Int) 0)) else (none)) else (none))=some r:=h
 clear h
 have c2:=zpc H;replace H:=zph H
 have bd:=eq_true c2;have be:=dT c2;clear c2
 have c3:=zpc H;replace H:=zph H
 have bf:=eq_true c3;have bg:=dT c3;clear c3
 obtain⟨bh,aD⟩ : ∃ y_:List Int,y_=(List.replicate ((ae.length:Int):Int).toNat 0):=⟨_,rfl⟩
 replace H:((if_.f k ae).bind fun ab=>(io_.l0 k bh ab (ab.length:Int) 0))=some r:=zH aD H
 have a8:=A0_ aD;clear aD;obtain⟨ab,A4,H⟩:=zbind H;have H':=A0_ H;clear H
 go_enter Try.func59,Try.ntmps59
 go_wp2_with (first|((with_reducible refine gD (N:=1) rfl ?_);refine zX (N:=1) (cs := #[.slice ak ae.length al,.slice an aj.length ao]) (t:=25) ?_;intro aE hg w5 hbox hb;have ac:=A0_ (hbox);have bY:=zG hg HB;have b2:=zG hg HB;replace HB:=zB HB hb;clear hb hbox hg;have aI:=zc0 ac;have aJ:=zc1 ac;have aK:=kF ac.out 0;have aM:=kF ac.out 1)|((with_reducible refine gD (N:=11) rfl ?_);refine Kd.R_make (Kd.int .i64) _ 3 rfl (N:=11) rfl 23 _ _ rfl (ae.length:Int) rfl rfl Try.underlying23 (.int .i64 0) 8 info3 rfl (by decide) (by omega) 0 (ok:=fun _=>True) (okp:=fun _=>True) rfl (fun _ hk=>hk) trivial (zd) (Nat.le_trans (Nat.mul_le_mul_right _ (zd:(ae.length:Int).toNat≤35184372088832)) (by omega)) (Below.refl _ _) (Nat.le_refl _) ?_;intro ar w7 aN hb hg_ hnew_;clear hg_ hnew_;(first|rw [← a8.out] at aN|(simp only [Int.reduceToNat] at aN;rw [← a8.out] at aN));have aq:=A0_ (rL aN (bZ (zB_ HB)));replace ac:=zK ac hb;replace HB:=zB HB hb;clear hb aN;have aQ:=zc0 ac;have aT:=zc1 ac;have aU:=kF ac.out 0;have aV:=kF ac.out 1)|((with_reducible refine gC (f:=68) rfl ?_);refine zJ (some 14) Try.func68 #[.slice ak ae.length al] ?_;(with_reducible refine(if_.calls k _ _ ae ab _ ?bv ?bw A4.out).mono ?_);(case bv=>exact zC br HB);(case bw=>exact bu.out);rintro e w10 ⟨b9,rfl,bF,hb⟩;refine⟨_,rfl,?_⟩;have a9:=A0_ (Kd.S_lower (Kd.S_new' bF (rX (zR_ aq))) (bZ (zB_ HB)));replace aq:=zR aq hb;replace ac:=zK ac hb;replace HB:=zB HB hb;(try clear hb);(try clear bF);obtain⟨bK,bi,bL⟩:=Kd.S_slice a9.out;subst bL))
 go_loopg [16] k (fun kq v16 w' => ∃ (aG:List Int) (aa:Int),v16 = .int .i64 aa∧Aside0 (io_.l0 kq aG ab (ab.length:Int) aa=some r)∧Aside0 (kq≤k)∧Aside0 (Kd.R (Kd.int .i64) 3 w' w.heap.size (fun _=>True) ar aG)∧Aside0 (Kd.S (Kd.slice 3 (Kd.int .i64)) 23 w' w.heap.size (fun k_=>nO k_ ar) (.slice bK ab.length bi) ab)∧Aside0 (w'.heap[aE]? = some (.cells #[(.slice ak ae.length al),(.slice an aj.length ao)] 25 (0,0)))∧Aside0 (Below w.heap.size w w'))
 case atStart=>exact⟨(bh),(0),zt,H',⟨Nat.le_refl _⟩,⟨zR_ aq⟩,⟨zmS a9 (fun _ hk=>hk.2)⟩,⟨zK_ ac⟩,⟨zB_ HB⟩⟩
 case round =>
  clear H';(try clear c2);(try clear bd);(try clear be);(try clear c3);(try clear bf);(try clear bg);(try clear aI);(try clear aJ);(try clear aQ);(try clear aT);(try clear aK);(try clear aM);(try clear aU);(try clear aV);obtain⟨aG,aa,rfl,HA,ba,ai,ag,ac,HB⟩:=hrel
  cases gk with
  | zero=>exact absurd HA.out (by simp [io_.l0])
  | succ k1 =>
   have H:=HA.out;clear HA;simp only [io_.l0] at H
   by_cases au:aa<(ab.length:Int)
   ·rw [if_pos au] at H
    have bb:=dT au;clear au
    have bj:=zpc H;replace H:=zph H
    have bx:=dT bj;clear bj
    have bk:=zpc H;replace H:=zph H
    have bz:=dT bk;clear bk;have H':=A0_ H;clear H
    have av:0≤(aa:Int):=zd
    have aw:aa<(ab.length:Int):=zd
    obtain⟨bB,bl,bm,bM,ay,az,aA⟩:=at_L1 (Kd.S_reads' ag.out).2.2 aa av aw
    cases bM
    obtain⟨ce451,hce451,hMe451,aW⟩:=Kd.S_get ag.out [] aa av (by first|exact aw|exact zd|(have e_:=(Kd.S_reads' ag.out).1;omega))
    obtain⟨ve451_0,rfl,ap⟩:=hMe451;have hv451_0:=aW 0 _ rfl
    rw [Nat.add_zero,show((Kd.slice 3 (Kd.int .i64))).sz=1 from rfl,Nat.mul_one] at hv451_0
    replace hv451_0:=sI (hv451_0.symm.trans ay)
    rw [hv451_0] at ap
    have HL451_0:=A0_ (show Kd.R (Kd.int .i64) 3 _ _ _ _ (rd_L1 ab aa) from ap)
    clear hv451_0 ap aW hce451;have bP:=A0_ aA;have bQ:=A0_ az;clear aA az;replace av:=eq_true av;replace aw:=eq_true aw
    go_wp2
    go_loopg [23] k1 (fun kq v23 w' => ∃ (ah:List Int) (af:Int),v23 = .int .i64 af∧Aside0 (io_.l1 kq ah aa ab (ab.length:Int) aa (rd_L1 ab aa) ((rd_L1 ab aa).length:Int) af=some r)∧Aside0 (kq≤k1)∧Aside0 (Kd.R (Kd.int .i64) 3 w' w.heap.size (fun _=>True) ar ah)∧Aside0 (Kd.S (Kd.slice 3 (Kd.int .i64)) 23 w' w.heap.size (fun k_=>nO k_ ar) (.slice (some bB) ab.length bi) ab)∧Aside0 (Kd.R (Kd.int .i64) 3 w' w.heap.size (fun k_=>nO k_ ar) (.slice bl (rd_L1 ab aa).length bm) (rd_L1 ab aa))∧Aside0 (w'.heap[aE]? = some (.cells #[(.slice ak ae.length al),(.slice an aj.length ao)] 25 (0,0)))∧Aside0 (Below w.heap.size w w'))
    case atStart=>exact⟨(aG),(0),zt,H',⟨Nat.le_refl _⟩,⟨zR_ ai⟩,⟨zS_ ag⟩,⟨zmR HL451_0 (fun _ hk=>hk.1)⟩,⟨zK_ ac⟩,⟨zB_ HB⟩⟩
    case round =>
     clear H';(try clear c2);(try clear bd);(try clear be);(try clear c3);(try clear bf);(try clear bg);(try clear au);(try clear bb);(try clear bj);(try clear bx);(try clear bk);(try clear bz);(try clear aI);(try clear aJ);(try clear aQ);(try clear aT);(try clear aK);(try clear aM);(try clear aU);(try clear aV);(try clear ay);(try clear av);(try clear aw);obtain⟨ah,af,rfl,HA,bc,ai,ag,HL451_0,ac,HB⟩:=hrel
     cases gk with
     | zero=>exact absurd HA.out (by simp [io_.l1])
     | succ k2 =>
      have H:=HA.out;clear HA;simp only [io_.l1] at H
      by_cases aC:af<((rd_L1 ab aa).length:Int)
      ·rw [if_pos aC] at H
       have bC:=dT aC;clear aC
       have bG:=zpc H;replace H:=zph H
       have b3:=dT bG;clear bG
       have bH:=zpc H;replace H:=zph H
       have b4:=dT bH;clear bH
       have bI:=zpc H;replace H:=zph H
       have b5:=dT bI;clear bI
       have bJ:=zpc H;replace H:=zph H
       have b6:=dT bJ;clear bJ
       obtain⟨aX,aH⟩ : ∃ y_:List Int,y_=(ah.set ((rd (rd_L1 ab aa) af):Int).toNat aa):=⟨_,rfl⟩
       replace H:(io_.l1 k2 aX aa ab (ab.length:Int) aa (rd_L1 ab aa) ((rd_L1 ab aa).length:Int) (wrap64 (af+1)))=some r:=zH aH H
       have bE:=A0_ aH;clear aH;have H':=A0_ H;clear H
       have aY:0≤(af:Int):=zd
       have aZ:af<((rd_L1 ab aa).length:Int):=zd
       obtain⟨b7,bO,bR⟩:=tI (rR HL451_0.out).2.2 af aY aZ
       cases bO
       replace aY:=eq_true aY;replace aZ:=eq_true aZ
       have bn:0≤((rd (rd_L1 ab aa) af):Int):=zd
       have bo:((rd (rd_L1 ab aa) af):Int)<((ah.length:Int):Int):=zd
       obtain⟨am,ax,bp,bq,gl20,cl20,HG20⟩:=Kd.R_form ai.out (by omega)
       (first|cases bp|(injection bp with ea_ en_ ec_;(first|subst ea_|(injection ea_ with ea_;subst ea_));subst ec_;clear en_))
       have GB20:=A0_ bq;have GG20:=A0_ HG20;clear bq gl20 HG20
       obtain⟨bU,bV⟩:=Kd.R_celln 0 ai.out ((rd (rd_L1 ab aa) af):Int) bn bo
       replace bn:=eq_true bn;replace bo:=eq_true bo
       have HP21:=Kd.R_putg ai.out ((rd (rd_L1 ab aa) af):Int) aa
       go_wp2_with (first|((with_reducible refine gS (t:=3) (p:=30) rfl ?_);refine store_event (t:=3) (p:=30) (v := ?vo_w22) (w1:=(wr.setCell ⟨am,((rd (rd_L1 ab aa) af):Int).toNat,none⟩ (.int .i64 aa))) ?hg ?ho ?hn ?hr ?_;(case ho=>rfl);(case hg=>rfl);(case hn=>rfl);(case hr=>first|(go_simp;done)|(go_simp;rfl));intro w22 hw;have hg:wr.grownBy w22 (some am):=(by rw [hw];exact HP21.2);have hp_:Kd.R (Kd.int .i64) 3 w22 w.heap.size (fun _=>True) (.slice (some ⟨am,0,none⟩) ah.length ax) aX:=(by rw [hw,bE.out];exact HP21.1);clear HP21;replace ag:=A0_ (Kd.S_after (v:=(.slice (some ⟨am,0,none⟩) ah.length ax)) (v1:=(.slice (some ⟨am,0,none⟩) ah.length ax)) (ok:=(fun _=>True)) (zmS ag (fun _ hk=>⟨trivial,hk⟩)) hg (.inl rfl));replace ac:=A0_ (blk_grown (g:=aE) (o := .cells #[.slice ak ae.length al,.slice an aj.length ao] 25 (0,0)) (zK_ ac) hg (Kd.R_ne ai.out ac.out (by decide)));replace ai:=A0_ (hp_);replace HB:=A0_ ((by rw [hw];exact bS (HB.out) GB20.out:Below w.heap.size w w22));have HL2_:=A0_ (Kd.R_after (v:=(.slice (some ⟨am,0,none⟩) ah.length ax)) (v1:=(.slice (some ⟨am,0,none⟩) ah.length ax)) (ok:=(fun _=>True)) (zmR HL451_0 (fun _ hk=>⟨trivial,hk⟩)) hg (.inl rfl));clear HL451_0;have HL451_0:=HL2_;clear HL2_ hg hw hp_))
       go_roundg k2
       case measure=>have:=ba.out;have:=bc.out;omega
       case rel=>exact⟨(aX),(wrap64 (af+1)),zt,H',⟨by have:=ba.out;have:=bc.out;omega⟩,⟨zR_ ai⟩,⟨zmS ag (fun _ hk=>hk.2)⟩,⟨zmR HL451_0 (fun _ hk=>hk.2)⟩,⟨zK_ ac⟩,⟨zB_ HB⟩⟩
      rw [if_neg aC] at H;have bC:=dF aC;clear aC;have H':=A0_ H;clear H
      go_wp2
      go_roundg k2
      case measure=>have:=ba.out;have:=bc.out;omega
      case rel=>exact⟨(ah),(wrap64 (aa+1)),zt,H',⟨by have:=ba.out;have:=bc.out;omega⟩,⟨zR_ ai⟩,⟨zS_ ag⟩,⟨zK_ ac⟩,⟨zB_ HB⟩⟩
   rw [if_neg au] at H;have bb:=dF au;clear au;obtain rfl:=sI H
   go_wp2
   go_ret
   exact⟨_,by first|rfl|(simp [*] <;> rfl),zR_ ai,zB_ HB⟩
def ss_.f (l0:List Int):Option (List Int):=if l0.length≤1048576 then some l0 else none
theorem ss_.calls (A0:Option Addr) (c0:Nat) (l0:List Int) (r:List Int) (w:World) (ah:Kd.C (Kd.int .i64) w A0 l0.length l0) (ai:l0.length≤c0) (h:ss_.f l0=some r) :
    Calls Try.prog 106 #[.slice A0 l0.length c0] w fun e w' => ∃ v0_:Value,e = .returned (v0_)∧Kd.R (Kd.int .i64) 3 w' w.heap.size (fun _=>True) v0_ r∧Below w.heap.size w w':=by
  unfold ss_.f at h
  by_cases hl:l0.length≤1048576
  · rw [if_pos hl] at h
    obtain rfl:=sI h;clear h;have aj:=A0_ ah;have an:=A0_ ai;have HL:=A0_ hl;clear ah ai hl
    have HB:=A0_ (Below.refl w.heap.size w)
    have he : ∀ w:World,(Go.binOp .eql 23 (.slice A0 l0.length c0) (.slice none 0 0)).run Try.prog w = .ok (.bool A0.isNone) w:=fun w=>by cases A0 <;> kernel_rfl
    cases A0 with
    | none =>
      have hz:l0 = []:=by
        rcases Nat.eq_zero_or_pos l0.length with z|z
        · exact List.length_eq_zero_iff.1 z
        obtain⟨ad,e,_⟩:=aj.out.2.2 z
        cases e
      have HZ:=A0_ hz;clear hz
      go_enter Try.func106,Try.ntmps106
      go_wp2
      go_ret
      exact⟨_,rfl,by rw [HZ.out];exact Kd.R_nil _ _ _ _ _,HB.out⟩
    | some ad =>
      obtain⟨ac,hy⟩ : ∃ y_:List Int,y_=([]:List Int):=⟨_,rfl⟩
      have aa:=A0_ hy;clear hy
      have af:=A0_ (show l0=ac ++ l0 by rw [aa.out];rfl)
      have ak:=A0_ (show ac.length+l0.length<17592186044416 by rw [aa.out];have:=HL.out;simp;omega)
      go_enter Try.func106,Try.ntmps106
      go_wp2_with (first|((with_reducible refine gD (N:=5) rfl ?_);refine Kd.R_lit (Kd.int .i64) _ 3 ?hg (N:=5) ?hd (xs:=([]:List Int)) (inner := []) (ok:=fun _=>True) (okp:=fun _=>True) ?hr ?hp (fun _ hk=>hk) trivial (Below.refl _ _) (Nat.le_refl _) (by simp) ?_;(case hd=>rfl);(case hg=>rfl);(case hr=>first|(go_simp;done)|(go_simp;rfl));(case hp=>exact(Reps.none _ _));intro al w3 ab hb hg_ hnew_;clear hg_ hnew_;(first|rw [← aa.out] at ab|(simp only [Int.reduceToNat] at ab;rw [← aa.out] at ab));have ae:=A0_ (rL ab (bZ (zB_ HB)));replace HB:=zB HB hb;clear hb ab)|((with_reducible refine gB (b := .append) (xs := #[.tmp 5,.tmp 6]) rfl ?_);at_builtin;refine Kd.R_append_rows (Kd.int .i64) (w0:=w) w.heap.size rfl (.tmp 5) (.tmp 6) 23 3 (.int .i64 0) 8 rfl Try.underlying23 info3 rfl (by decide) (by omega) al ac l0 _ _ _ (fun _=>True) (fun _=>False) rfl rfl ?aO ?aR (fun _ _ h=>h) (fun _ h=>h.elim) ?aF ?aB ?aS ?aL ?_;(case aR=>exact zC aj HB);(case aB=>exact(zB_ HB));(case aF=>exact(fun _ _=>trivial));(case aO=>exact(zR_ ae));(case aS=>exact(bZ (zB_ HB)));(case aL=>have:=ak.out;omega);intro am w5 ho hb hg hat;rw [← af.out] at ho;replace HB:=A0_ (hb);have ag:=A0_ (ho);clear ae ho hb hg hat))
      go_ret
      exact⟨_,rfl,zR_ ag,(zB_ HB)⟩
  rw [if_neg hl] at h;cases h
def id_.l0:Nat→List (List Int)→Int→List Int→List Int→List (List Int)→List Int→Int→Int→List Int→List Int→Option ((List (List Int)))
  | 0,_,_,_,_,_,_,_,_,_,_=>none
  | k+1,x1,x2,x3,x9,af,ac,ag,ab,ae,aa=>if ab<ag then (if 0≤ab then (if ab<(ac.length:Int) then (if ab<(x1.length:Int) then ((ss_.f (rd_L1 x1 ab)).bind fun ah=>(if 0≤(rd ac ab) then (if (rd ac ab)<(x9.length:Int) then (if (rd x9 (rd ac ab))=x2 then ((ib_.f k x3).bind fun aj=>((ij_.f k aj ah).bind fun ai=>(if (rd ac ab)<(aa.length:Int) then (if 0≤(rd aa (rd ac ab)) then (if (rd aa (rd ac ab))<(x9.length:Int) then (if (rd x9 (rd aa (rd ac ab)))=x2 then ((ij_.f k ai x3).bind fun ak=>(if af.length<5864062014805 then (id_.l0 k x1 x2 x3 x9 (af ++ [ak]) ac ag (wrap64 (ab+1)) ae aa) else (none))) else (if af.length<5864062014805 then (id_.l0 k x1 x2 x3 x9 (af ++ [ai]) ac ag (wrap64 (ab+1)) ae aa) else (none))) else (none)) else (none)) else (none)))) else (if (rd ac ab)<(aa.length:Int) then (if 0≤(rd aa (rd ac ab)) then (if (rd aa (rd ac ab))<(x9.length:Int) then (if (rd x9 (rd aa (rd ac ab)))=x2 then ((ij_.f k ah x3).bind fun al=>(if af.length<5864062014805 then (id_.l0 k x1 x2 x3 x9 (af ++ [al]) ac ag (wrap64 (ab+1)) ae aa) else (none))) else (if af.length<5864062014805 then (id_.l0 k x1 x2 x3 x9 (af ++ [ah]) ac ag (wrap64 (ab+1)) ae aa) else (none))) else (none)) else (none)) else (none))) else (none)) else (none))) else (none)) else (none)) else (none)) else (some af)
def id_.f (k:Nat) (aa:List Int) (ab:List Int) (l1:List (List Int)) (a2:Int) (l3:List Int):Option ((List (List Int))):=(io_.f k aa ab).bind fun ae=>((ih_.f k aa ab).bind fun ac=>(id_.l0 k l1 a2 l3 ae (([]:List (List Int))) ac (ac.length:Int) 0 aa ab))
theorem id_.calls (k:Nat) (aX:Option Addr) (aY:Nat) (ap:List Int) (bi:Option Addr) (aZ:Nat) (aj:List Int) (A1:Option Addr) (c1:Nat) (l1:List (List Int)) (a2:Int) (A3:Option Addr) (c3:Nat) (l3:List Int) (r:List (List Int)) (w:World) (ce:Kd.C (Kd.int .i64) w aX ap.length ap) (cf:ap.length≤aY) (cg:Kd.C (Kd.int .i64) w bi aj.length aj) (ch:aj.length≤aZ) (dm:Kd.C (Kd.slice 3 (Kd.int .i64)) w A1 l1.length l1) (dn:l1.length≤c1) (dp:Kd.C (Kd.int .i64) w A3 l3.length l3) (dq:l3.length≤c3) (h:id_.f k ap aj l1 a2 l3=some r) :
    Calls Try.prog 63 #[.agg #[.slice aX ap.length aY,.slice bi aj.length aZ],.slice A1 l1.length c1,.int .i64 a2,.slice A3 l3.length c3] w fun e w' => ∃ v0_:Value,e = .returned (v0_)∧Kd.S (Kd.slice 3 (Kd.int .i64)) 23 w' w.heap.size (fun _=>True) v0_ r∧Below w.heap.size w w':=by
 have ez:=Try.underlying25;have ci:=A0_ ce;have cj:=A0_ cf;clear ce cf;have a5:=A0_ cg;have ck:=A0_ ch;clear cg ch;have cl:=A0_ dm;have eM:=A0_ dn;clear dm dn;have cm:=A0_ dp;have cn:=A0_ dq;clear dp dq
 have HB:=A0_ (Below.refl w.heap.size w)
 have H:((io_.f k ap aj).bind fun ak=>((ih_.f k ap aj).bind fun ab=>(id_.l0 k l1 a2 l3 ak (([]:List (List Int))) ab (ab.length:Int) 0 ap aj)))=some r:=h
 clear h;obtain⟨ak,A5,H⟩:=zbind H
 obtain⟨cy,bx⟩ : ∃ y_:List (List Int),y_=(([]:List (List Int))):=⟨_,rfl⟩
 replace H:((ih_.f k ap aj).bind fun ab=>(id_.l0 k l1 a2 l3 ak cy ab (ab.length:Int) 0 ap aj))=some r:=zH bx H
 have co:=A0_ bx;clear bx;obtain⟨ab,A6,H⟩:=zbind H;have H':=A0_ H;clear H
 go_enter Try.func63,Try.ntmps63
 go_wp2_with (first|((with_reducible refine gD (N:=4) rfl ?_);refine zX (N:=4) (cs := #[.slice aX ap.length aY,.slice bi aj.length aZ]) (t:=25) ?_;intro bh hg w7 hbox hb;have ac:=A0_ (hbox);have em:=zG hg HB;have en:=zG hg HB;replace HB:=zB HB hb;clear hb hbox hg;have cz:=zc0 ac;have cC:=zc1 ac;have cE:=kF ac.out 0;have cF:=kF ac.out 1)|((with_reducible refine gC (f:=59) rfl ?_);refine zJ (some 15) Try.func59 #[.agg #[.slice aX ap.length aY,.slice bi aj.length aZ]] ?_;(with_reducible refine(io_.calls k _ _ ap _ _ aj ak _ ?al ?am ?aH ?aI A5.out).mono ?_);(case al=>exact zC ci HB);(case am=>exact cj.out);(case aH=>exact zC a5 HB);(case aI=>exact ck.out);rintro e w9 ⟨b3,rfl,ah,hb⟩;refine⟨_,rfl,?_⟩;have a4:=A0_ (rL ah (bZ (zB_ HB)));replace ac:=zK ac hb;replace HB:=zB HB hb;(try clear hb);(try clear ah))|((with_reducible refine gD (N:=16) rfl ?_);refine Kd.S_lit (Kd.slice 3 (Kd.int .i64)) _ 23 ?hg (N:=16) ?hd (xs:=([]:List (List Int))) (inner := []) (ok:=fun _=>True) (okp:=fun _=>True) ?hr ?hp (fun _ hk=>hk) trivial (Below.refl _ _) (Nat.le_refl _) (by simp) ?_;(case hd=>rfl);(case hg=>rfl);(case hr=>first|(go_simp;done)|(go_simp;rfl));(case hp=>exact(Reps.none _ _));intro eA w10 bo hb hg_ hnew_;clear hg_ hnew_;(first|rw [← co.out] at bo|(simp only [Int.reduceToNat] at bo;rw [← co.out] at bo));have bz:=A0_ (Kd.S_lower (Kd.S_new' bo (rX (zR_ a4))) (bZ (zB_ HB)));replace a4:=zR a4 hb;replace ac:=zK ac hb;replace HB:=zB HB hb;clear hb bo;have cr:=zc0 ac;have ct:=zc1 ac;have cu:=kF ac.out 0;have cv:=kF ac.out 1)|((with_reducible refine gC (f:=105) rfl ?_);refine zJ (some 18) Try.func105 #[.agg #[.slice aX ap.length aY,.slice bi aj.length aZ]] ?_;(with_reducible refine(ih_.calls k _ _ ap _ _ aj ab _ ?al ?am ?aH ?aI A6.out).mono ?_);(case al=>exact zC ci HB);(case am=>exact cj.out);(case aH=>exact zC a5 HB);(case aI=>exact ck.out);rintro e w13 ⟨eB,rfl,ah,hb⟩;refine⟨_,rfl,?_⟩;replace bz:=A0_ (Kd.S_elder' (zS_ bz) (Kd.R_base ah) hb);have cp:=A0_ (rL (Kd.R_new' ah (rX (zR_ a4))) (bZ (zB_ HB)));replace a4:=A0_ (Kd.R_elder' (zR_ a4) (Kd.R_base ah) hb);replace ac:=zK ac hb;replace HB:=zB HB hb;(try clear hb);(try clear ah);obtain⟨b4,ay,dK⟩:=rS cp.out;subst dK))
 go_loopg [10,20] k (fun kq v10 v20 w' => ∃ (aJ:List (List Int)) (aa:Int),v20 = .int .i64 aa∧Aside0 (id_.l0 kq l1 a2 l3 ak aJ ab (ab.length:Int) aa ap aj=some r)∧Aside0 (kq≤k)∧Aside0 (Kd.R (Kd.int .i64) 3 w' w.heap.size (fun k_=>some k_≠((.slice b4 ab.length ay):Value).ownBlock) b3 ak)∧Aside0 (Kd.S (Kd.slice 3 (Kd.int .i64)) 23 w' w.heap.size (fun k_=>nO k_ b3∧some k_≠((.slice b4 ab.length ay):Value).ownBlock) v10 aJ)∧Aside0 (Kd.R (Kd.int .i64) 3 w' w.heap.size (fun k_=>nO k_ b3) (.slice b4 ab.length ay) ab)∧Aside0 (w'.heap[bh]? = some (.cells #[(.slice aX ap.length aY),(.slice bi aj.length aZ)] 25 (0,0)))∧Aside0 (Below w.heap.size w w'))
 case atStart=>exact⟨(cy),(0),zt,H',⟨Nat.le_refl _⟩,⟨zmR a4 (fun _ hk=>hk.2)⟩,⟨zmS bz (fun _ hk=>⟨hk.1.2,hk.2⟩)⟩,⟨zmR cp (fun _ hk=>hk.2)⟩,⟨zK_ ac⟩,⟨zB_ HB⟩⟩
 case round =>
  clear H';(try clear c1);(try clear c3);(try clear cr);(try clear ct);(try clear cz);(try clear cC);(try clear cu);(try clear cv);(try clear cE);(try clear cF);obtain⟨aJ,aa,rfl,HA,bl,ag,ae,af,ac,HB⟩:=hrel
  cases gk with
  | zero=>exact absurd HA.out (by simp [id_.l0])
  | succ k1 =>
   have H:=HA.out;clear HA;simp only [id_.l0] at H
   by_cases bw:aa<(ab.length:Int)
   ·rw [if_pos bw] at H
    have cT:=dT bw;clear bw
    have dr:=zpc H;replace H:=zph H
    have eo:=dT dr;clear dr
    have dt:=zpc H;replace H:=zph H
    have ep:=dT dt;clear dt
    have du:=zpc H;replace H:=zph H
    have eq:=dT du;clear du;obtain⟨ar,cq,H⟩:=zbind H
    have dv:=zpc H;replace H:=zph H
    have er:=dT dv;clear dv
    have dw:=zpc H;replace H:=zph H
    have es:=dT dw;clear dw
    by_cases bp:(rd ak (rd ab aa))=a2
    ·rw [if_pos bp] at H
     have cU:((rd ak (rd ab aa)) == a2)=true:=beq_iff_eq.mpr bp
     have cV:((rd ak (rd ab aa)) != a2)=false:=bne_eq_false_iff_eq.mpr bp
     clear bp;obtain⟨aT,dx,H⟩:=zbind H;obtain⟨aU,dy,H⟩:=zbind H
     have dz:=zpc H;replace H:=zph H
     have et:=dT dz;clear dz
     have dA:=zpc H;replace H:=zph H
     have eu:=dT dA;clear dA
     have dB:=zpc H;replace H:=zph H
     have ev:=dT dB;clear dB
     by_cases bq:(rd ak (rd aj (rd ab aa)))=a2
     ·rw [if_pos bq] at H
      have cW:((rd ak (rd aj (rd ab aa))) == a2)=true:=beq_iff_eq.mpr bq
      have cX:((rd ak (rd aj (rd ab aa))) != a2)=false:=bne_eq_false_iff_eq.mpr bq
      clear bq;obtain⟨br,ek,H⟩:=zbind H
      have dC:=zpc H;replace H:=zph H
      have cY:=A0_ dC;clear dC
      obtain⟨cG,bB⟩ : ∃ y_:List (List Int),y_=(aJ ++ [br]):=⟨_,rfl⟩
      replace H:(id_.l0 k1 l1 a2 l3 ak cG ab (ab.length:Int) (wrap64 (aa+1)) ap aj)=some r:=zH bB H
      have cZ:=A0_ bB;clear bB;have H':=A0_ H;clear H
      have az:0≤(aa:Int):=zd
      have aA:aa<(ab.length:Int):=zd
      obtain⟨aw,a6,bj⟩:=tI (rR af.out).2.2 aa az aA
      cases a6
      replace az:=eq_true az;replace aA:=eq_true aA
      have aC:0≤(aa:Int):=zd
      have aD:aa<(l1.length:Int):=zd
      obtain⟨bC,aV,aW,a7,ao,au,av⟩:=at_L1 cl.out aa aC aD
      cases a7
      try replace ao:=(HB.out.cell (wL w _ ao)).trans ao
      have aK:=A0_ av;have aM:=A0_ au;clear av au;replace aC:=eq_true aC;replace aD:=eq_true aD
      go_wp2_with (first|((with_reducible refine gC (f:=106) rfl ?_);refine zJ (some 29) Try.func106 #[.slice aV (rd_L1 l1 aa).length aW] ?_;(with_reducible refine(ss_.calls _ _ (rd_L1 l1 aa) ar _ ?al ?am cq.out).mono ?_);(case al=>exact zC aK HB);(case am=>exact aM.out);rintro e w31 ⟨b5,rfl,ah,hb⟩;refine⟨_,rfl,?_⟩;replace ae:=A0_ (Kd.S_elder' (zS_ ae) (Kd.R_base ah) hb);have ai:=A0_ (rL (Kd.R_new' (Kd.R_new' ah (rX (zR_ ag))) (rX (zR_ af))) (bZ (zB_ HB)));replace ag:=A0_ (Kd.R_elder' (zR_ ag) (Kd.R_base ah) hb);replace af:=A0_ (Kd.R_elder' (zR_ af) (Kd.R_base ah) hb);replace ac:=zK ac hb;replace HB:=zB HB hb;(try clear hb);(try clear ah);obtain⟨eC,b6,dL⟩:=rS ag.out;subst dL;have aE:0≤((rd ab aa):Int):=zd;have aG:(rd ab aa)<(ak.length:Int):=zd;obtain⟨aq,a8,bk⟩:=tI (rR ag.out).2.2 (rd ab aa) aE aG;cases a8;replace aE:=eq_true aE;replace aG:=eq_true aG)|((with_reducible refine gC (f:=60) rfl ?_);refine zJ (some 37) Try.func60 #[.slice A3 l3.length c3] ?_;(with_reducible refine(ib_.calls k1 _ _ l3 aT _ ?al ?am dx.out).mono ?_);(case al=>exact zC cm HB);(case am=>exact cn.out);rintro e w33 ⟨dM,rfl,ah,hb⟩;refine⟨_,rfl,?_⟩;replace ae:=A0_ (Kd.S_elder' (zS_ ae) (Kd.R_base ah) hb);have an:=A0_ (rL (Kd.R_new' (Kd.R_new' (Kd.R_new' ah (rX (zR_ ag))) (rX (zR_ af))) (rX (zR_ ai))) (bZ (zB_ HB)));replace ag:=A0_ (Kd.R_elder' (zR_ ag) (Kd.R_base ah) hb);replace af:=A0_ (Kd.R_elder' (zR_ af) (Kd.R_base ah) hb);replace ai:=A0_ (Kd.R_elder' (zR_ ai) (Kd.R_base ah) hb);replace ac:=zK ac hb;replace HB:=zB HB hb;(try clear hb);(try clear ah);obtain⟨bE,bF,dN⟩:=rS an.out;subst dN;obtain⟨bG,bH,dO⟩:=rS ai.out;subst dO)|((with_reducible refine gC (f:=69) rfl ?_);refine zJ (some 39) Try.func69 #[.slice bE aT.length bF,.slice bG ar.length bH] ?_;(with_reducible refine(ij_.calls k1 _ _ aT _ _ ar aU _ ?al ?am ?aH ?aI dy.out).mono ?_);(case al=>exact zD an);(case am=>exact(rR an.out).2.1);(case aH=>exact zD ai);(case aI=>exact(rR ai.out).2.1);rintro e w36 ⟨dP,rfl,ah,hb⟩;refine⟨_,rfl,?_⟩;replace ae:=A0_ (Kd.S_elder' (zS_ ae) (Kd.R_base ah) hb);have ax:=A0_ (rL (Kd.R_new' (Kd.R_new' (Kd.R_new' (Kd.R_new' ah (rX (zR_ ag))) (rX (zR_ af))) (rX (zR_ ai))) (rX (zR_ an))) (bZ (zB_ HB)));replace ag:=A0_ (Kd.R_elder' (zR_ ag) (Kd.R_base ah) hb);replace af:=A0_ (Kd.R_elder' (zR_ af) (Kd.R_base ah) hb);replace ai:=A0_ (Kd.R_elder' (zR_ ai) (Kd.R_base ah) hb);replace an:=A0_ (Kd.R_elder' (zR_ an) (Kd.R_base ah) hb);replace ac:=zK ac hb;replace HB:=zB HB hb;(try clear hb);(try clear ah);have d4:=zc0 ac;have d5:=zc1 ac;have d6:=kF ac.out 0;have d7:=kF ac.out 1;have a9:0≤((rd ab aa):Int):=zd;have ba:(rd ab aa)<(aj.length:Int):=zd;obtain⟨bI,b7,aN⟩:=tI a5.out (rd ab aa) a9 ba;cases b7;try replace aN:=(HB.out.cell (wL w _ aN)).trans aN;replace a9:=eq_true a9;replace ba:=eq_true ba;have bb:0≤((rd aj (rd ab aa)):Int):=zd;have bc:(rd aj (rd ab aa))<(ak.length:Int):=zd;obtain⟨bJ,b8,cw⟩:=tI (rR ag.out).2.2 (rd aj (rd ab aa)) bb bc;obtain rfl:aq=bJ:=(by injection b8);replace bb:=eq_true bb;replace bc:=eq_true bc;obtain⟨bK,bL,dQ⟩:=rS ax.out;subst dQ)|((with_reducible refine gC (f:=69) rfl ?_);refine zJ (some 52) Try.func69 #[.slice bK aU.length bL,.slice A3 l3.length c3] ?_;(with_reducible refine(ij_.calls k1 _ _ aU _ _ l3 br _ ?al ?am ?aH ?aI ek.out).mono ?_);(case al=>exact zD ax);(case am=>exact(rR ax.out).2.1);(case aH=>exact zC cm HB);(case aI=>exact cn.out);rintro e w39 ⟨eD,rfl,ah,hb⟩;refine⟨_,rfl,?_⟩;replace ae:=A0_ (Kd.S_elder' (zS_ ae) (Kd.R_base ah) hb);have bm:=A0_ (rL (Kd.R_new' (Kd.R_new' (Kd.R_new' (Kd.R_new' (Kd.R_new' ah (rX (zR_ ag))) (rX (zR_ af))) (rX (zR_ ai))) (rX (zR_ an))) (rX (zR_ ax))) (bZ (zB_ HB)));replace ag:=A0_ (Kd.R_elder' (zR_ ag) (Kd.R_base ah) hb);replace af:=A0_ (Kd.R_elder' (zR_ af) (Kd.R_base ah) hb);replace ai:=A0_ (Kd.R_elder' (zR_ ai) (Kd.R_base ah) hb);replace an:=A0_ (Kd.R_elder' (zR_ an) (Kd.R_base ah) hb);replace ax:=A0_ (Kd.R_elder' (zR_ ax) (Kd.R_base ah) hb);replace ac:=zK ac hb;replace HB:=zB HB hb;(try clear hb);(try clear ah);obtain⟨cH,cI,dR⟩:=rS bm.out;subst dR)|((with_reducible refine gB (b := .append) (xs := #[.tmp 53,.tmp 55]) rfl ?_);at_builtin;refine Kd.S_append (Kd.slice 3 (Kd.int .i64)) (w0:=w) w.heap.size rfl (.tmp 53) (.tmp 55) 26 23 (.slice none 0 0) 24 rfl Try.underlying26 info23 rfl (by decide) (by omega) u10 aJ br [.slice cH br.length cI] (fun k_=>nL k_ (some aq) ak b6∧nL k_ (some aw) ab ay∧nL k_ bG ar bH∧nL k_ bE aT bF∧nL k_ bK aU bL) (fun k_=>some k_=(.slice cH br.length cI:Value).ownBlock) rfl rfl ?aP (fun k_ hk_=>((rM (ok':=fun k_=>((fun k_=>nL k_ (some aq) ak b6∧nL k_ (some aw) ab ay∧nL k_ bG ar bH∧nL k_ bE aT bF∧nL k_ bK aU bL)) k_∧nO k_ u10) (Kd.R_apart' (bm.out) (Kd.S_typed ae.out) (by decide)) (fun k_ hk=>⟨⟨hk.1.1.1.1.1.2,⟨hk.1.1.1.1.2,⟨hk.1.1.1.2,⟨hk.1.1.2,hk.1.2⟩⟩⟩⟩,hk.2⟩))).1 k_ hk_.symm) ?aF ?aO ?aB ?aS ?aL ?_;(case aP=>exact Kd.M_row (rM (Kd.R_tight rfl (rM (ok':=fun k_=>((fun k_=>nL k_ (some aq) ak b6∧nL k_ (some aw) ab ay∧nL k_ bG ar bH∧nL k_ bE aT bF∧nL k_ bK aU bL)) k_∧nO k_ u10) (Kd.R_apart' (bm.out) (Kd.S_typed ae.out) (by decide)) (fun k_ hk=>⟨⟨hk.1.1.1.1.1.2,⟨hk.1.1.1.1.2,⟨hk.1.1.1.2,⟨hk.1.1.2,hk.1.2⟩⟩⟩⟩,hk.2⟩))) (fun _ h_=>h_)));(case aB=>exact(zB_ HB));(case aF=>exact(fun k_ hk=>⟨Kd.fresh' (rX (zR_ ag)) k_ hk,Kd.fresh' (rX (zR_ af)) k_ hk,Kd.fresh' (rX (zR_ ai)) k_ hk,Kd.fresh' (rX (zR_ an)) k_ hk,Kd.fresh' (rX (zR_ ax)) k_ hk⟩));(case aO=>exact(zmS ae (fun k_ hk=>⟨⟨hk.1.1.1.1.1,⟨hk.1.1.1.1.2,⟨hk.1.1.1.2,⟨hk.1.1.2,hk.1.2⟩⟩⟩⟩,fun e_=>hk.2 e_⟩)));(case aS=>exact(bZ (zB_ HB)));(case aL=>have:=cY.out;omega);intro eE w40 ho hb hg hat;rw [← cZ.out] at ho;replace ag:=A0_ (Kd.R_over' (zR_ ag) (Kd.S_typed (zS_ ae)) (by decide) hg);replace af:=A0_ (Kd.R_over' (zR_ af) (Kd.S_typed (zS_ ae)) (by decide) hg);replace ac:=A0_ (blk_grown (g:=bh) (o := .cells #[.slice aX ap.length aY,.slice (some bI) aj.length aZ] 25 (0,0)) (zK_ ac) hg (Kd.S_ne ae.out ac.out (by decide)));replace ai:=A0_ (Kd.R_over' (zR_ ai) (Kd.S_typed (zS_ ae)) (by decide) hg);replace an:=A0_ (Kd.R_over' (zR_ an) (Kd.S_typed (zS_ ae)) (by decide) hg);replace ax:=A0_ (Kd.R_over' (zR_ ax) (Kd.S_typed (zS_ ae)) (by decide) hg);replace HB:=A0_ (hb);have da:=A0_ (ho);clear ae bm ho hb hg hat))
      go_roundg k1
      case measure=>have:=bl.out;omega
      case rel=>exact⟨(cG),(wrap64 (aa+1)),zt,H',⟨by have:=bl.out;omega⟩,⟨zmR ag (fun _ hk=>hk.1.1.1.1)⟩,⟨zmS da (fun _ hk=>⟨hk.1,hk.2.1⟩)⟩,⟨zmR af (fun _ hk=>hk.1.1.1.1)⟩,⟨zK_ ac⟩,⟨zB_ HB⟩⟩
     rw [if_neg bq] at H
     have cW:((rd ak (rd aj (rd ab aa))) == a2)=false:=beq_eq_false_iff_ne.mpr bq
     have cX:((rd ak (rd aj (rd ab aa))) != a2)=true:=bne_iff_ne.mpr bq
     have dD:=zpc H;replace H:=zph H
     have db:=A0_ dD;clear dD
     obtain⟨cJ,bM⟩ : ∃ y_:List (List Int),y_=(aJ ++ [aU]):=⟨_,rfl⟩
     replace H:(id_.l0 k1 l1 a2 l3 ak cJ ab (ab.length:Int) (wrap64 (aa+1)) ap aj)=some r:=zH bM H
     have dc:=A0_ bM;clear bM;have H':=A0_ H;clear H
     have az:0≤(aa:Int):=zd
     have aA:aa<(ab.length:Int):=zd
     obtain⟨aw,a6,bj⟩:=tI (rR af.out).2.2 aa az aA
     cases a6
     replace az:=eq_true az;replace aA:=eq_true aA
     have aC:0≤(aa:Int):=zd
     have aD:aa<(l1.length:Int):=zd
     obtain⟨bC,aV,aW,a7,ao,au,av⟩:=at_L1 cl.out aa aC aD
     cases a7
     try replace ao:=(HB.out.cell (wL w _ ao)).trans ao
     have aK:=A0_ av;have aM:=A0_ au;clear av au;replace aC:=eq_true aC;replace aD:=eq_true aD
     go_wp2_with (first|((with_reducible refine gC (f:=106) rfl ?_);refine zJ (some 29) Try.func106 #[.slice aV (rd_L1 l1 aa).length aW] ?_;(with_reducible refine(ss_.calls _ _ (rd_L1 l1 aa) ar _ ?al ?am cq.out).mono ?_);(case al=>exact zC aK HB);(case am=>exact aM.out);rintro e w43 ⟨b5,rfl,ah,hb⟩;refine⟨_,rfl,?_⟩;replace ae:=A0_ (Kd.S_elder' (zS_ ae) (Kd.R_base ah) hb);have ai:=A0_ (rL (Kd.R_new' (Kd.R_new' ah (rX (zR_ ag))) (rX (zR_ af))) (bZ (zB_ HB)));replace ag:=A0_ (Kd.R_elder' (zR_ ag) (Kd.R_base ah) hb);replace af:=A0_ (Kd.R_elder' (zR_ af) (Kd.R_base ah) hb);replace ac:=zK ac hb;replace HB:=zB HB hb;(try clear hb);(try clear ah);obtain⟨eF,b9,dS⟩:=rS ag.out;subst dS;have aE:0≤((rd ab aa):Int):=zd;have aG:(rd ab aa)<(ak.length:Int):=zd;obtain⟨aq,a8,bk⟩:=tI (rR ag.out).2.2 (rd ab aa) aE aG;cases a8;replace aE:=eq_true aE;replace aG:=eq_true aG)|((with_reducible refine gC (f:=60) rfl ?_);refine zJ (some 37) Try.func60 #[.slice A3 l3.length c3] ?_;(with_reducible refine(ib_.calls k1 _ _ l3 aT _ ?al ?am dx.out).mono ?_);(case al=>exact zC cm HB);(case am=>exact cn.out);rintro e w45 ⟨dM,rfl,ah,hb⟩;refine⟨_,rfl,?_⟩;replace ae:=A0_ (Kd.S_elder' (zS_ ae) (Kd.R_base ah) hb);have an:=A0_ (rL (Kd.R_new' (Kd.R_new' (Kd.R_new' ah (rX (zR_ ag))) (rX (zR_ af))) (rX (zR_ ai))) (bZ (zB_ HB)));replace ag:=A0_ (Kd.R_elder' (zR_ ag) (Kd.R_base ah) hb);replace af:=A0_ (Kd.R_elder' (zR_ af) (Kd.R_base ah) hb);replace ai:=A0_ (Kd.R_elder' (zR_ ai) (Kd.R_base ah) hb);replace ac:=zK ac hb;replace HB:=zB HB hb;(try clear hb);(try clear ah);obtain⟨bO,bP,dU⟩:=rS an.out;subst dU;obtain⟨bQ,bR,dV⟩:=rS ai.out;subst dV)|((with_reducible refine gC (f:=69) rfl ?_);refine zJ (some 39) Try.func69 #[.slice bO aT.length bP,.slice bQ ar.length bR] ?_;(with_reducible refine(ij_.calls k1 _ _ aT _ _ ar aU _ ?al ?am ?aH ?aI dy.out).mono ?_);(case al=>exact zD an);(case am=>exact(rR an.out).2.1);(case aH=>exact zD ai);(case aI=>exact(rR ai.out).2.1);rintro e w48 ⟨dP,rfl,ah,hb⟩;refine⟨_,rfl,?_⟩;replace ae:=A0_ (Kd.S_elder' (zS_ ae) (Kd.R_base ah) hb);have ax:=A0_ (rL (Kd.R_new' (Kd.R_new' (Kd.R_new' (Kd.R_new' ah (rX (zR_ ag))) (rX (zR_ af))) (rX (zR_ ai))) (rX (zR_ an))) (bZ (zB_ HB)));replace ag:=A0_ (Kd.R_elder' (zR_ ag) (Kd.R_base ah) hb);replace af:=A0_ (Kd.R_elder' (zR_ af) (Kd.R_base ah) hb);replace ai:=A0_ (Kd.R_elder' (zR_ ai) (Kd.R_base ah) hb);replace an:=A0_ (Kd.R_elder' (zR_ an) (Kd.R_base ah) hb);replace ac:=zK ac hb;replace HB:=zB HB hb;(try clear hb);(try clear ah);have d8:=zc0 ac;have d9:=zc1 ac;have ea:=kF ac.out 0;have eb:=kF ac.out 1;have a9:0≤((rd ab aa):Int):=zd;have ba:(rd ab aa)<(aj.length:Int):=zd;obtain⟨bI,b7,aN⟩:=tI a5.out (rd ab aa) a9 ba;cases b7;try replace aN:=(HB.out.cell (wL w _ aN)).trans aN;replace a9:=eq_true a9;replace ba:=eq_true ba;have bb:0≤((rd aj (rd ab aa)):Int):=zd;have bc:(rd aj (rd ab aa))<(ak.length:Int):=zd;obtain⟨bJ,b8,cw⟩:=tI (rR ag.out).2.2 (rd aj (rd ab aa)) bb bc;obtain rfl:aq=bJ:=(by injection b8);replace bb:=eq_true bb;replace bc:=eq_true bc;obtain⟨cK,cL,dW⟩:=rS ax.out;subst dW)|((with_reducible refine gB (b := .append) (xs := #[.tmp 53,.tmp 55]) rfl ?_);at_builtin;refine Kd.S_append (Kd.slice 3 (Kd.int .i64)) (w0:=w) w.heap.size rfl (.tmp 53) (.tmp 55) 26 23 (.slice none 0 0) 24 rfl Try.underlying26 info23 rfl (by decide) (by omega) u10 aJ aU [.slice cK aU.length cL] (fun k_=>nL k_ (some aq) ak b9∧nL k_ (some aw) ab ay∧nL k_ bQ ar bR∧nL k_ bO aT bP) (fun k_=>some k_=(.slice cK aU.length cL:Value).ownBlock) rfl rfl ?aP (fun k_ hk_=>((rM (ok':=fun k_=>((fun k_=>nL k_ (some aq) ak b9∧nL k_ (some aw) ab ay∧nL k_ bQ ar bR∧nL k_ bO aT bP)) k_∧nO k_ u10) (Kd.R_apart' (ax.out) (Kd.S_typed ae.out) (by decide)) (fun k_ hk=>⟨⟨hk.1.1.1.1.2,⟨hk.1.1.1.2,⟨hk.1.1.2,hk.1.2⟩⟩⟩,hk.2⟩))).1 k_ hk_.symm) ?aF ?aO ?aB ?aS ?aL ?_;(case aP=>exact Kd.M_row (rM (Kd.R_tight rfl (rM (ok':=fun k_=>((fun k_=>nL k_ (some aq) ak b9∧nL k_ (some aw) ab ay∧nL k_ bQ ar bR∧nL k_ bO aT bP)) k_∧nO k_ u10) (Kd.R_apart' (ax.out) (Kd.S_typed ae.out) (by decide)) (fun k_ hk=>⟨⟨hk.1.1.1.1.2,⟨hk.1.1.1.2,⟨hk.1.1.2,hk.1.2⟩⟩⟩,hk.2⟩))) (fun _ h_=>h_)));(case aB=>exact(zB_ HB));(case aF=>exact(fun k_ hk=>⟨Kd.fresh' (rX (zR_ ag)) k_ hk,Kd.fresh' (rX (zR_ af)) k_ hk,Kd.fresh' (rX (zR_ ai)) k_ hk,Kd.fresh' (rX (zR_ an)) k_ hk⟩));(case aO=>exact(zmS ae (fun k_ hk=>⟨⟨hk.1.1.1.1,⟨hk.1.1.1.2,⟨hk.1.1.2,hk.1.2⟩⟩⟩,fun e_=>hk.2 e_⟩)));(case aS=>exact(bZ (zB_ HB)));(case aL=>have:=db.out;omega);intro eG w50 ho hb hg hat;rw [← dc.out] at ho;replace ag:=A0_ (Kd.R_over' (zR_ ag) (Kd.S_typed (zS_ ae)) (by decide) hg);replace af:=A0_ (Kd.R_over' (zR_ af) (Kd.S_typed (zS_ ae)) (by decide) hg);replace ac:=A0_ (blk_grown (g:=bh) (o := .cells #[.slice aX ap.length aY,.slice (some bI) aj.length aZ] 25 (0,0)) (zK_ ac) hg (Kd.S_ne ae.out ac.out (by decide)));replace ai:=A0_ (Kd.R_over' (zR_ ai) (Kd.S_typed (zS_ ae)) (by decide) hg);replace an:=A0_ (Kd.R_over' (zR_ an) (Kd.S_typed (zS_ ae)) (by decide) hg);replace HB:=A0_ (hb);have dd:=A0_ (ho);clear ae ax ho hb hg hat))
     go_roundg k1
     case measure=>have:=bl.out;omega
     case rel=>exact⟨(cJ),(wrap64 (aa+1)),zt,H',⟨by have:=bl.out;omega⟩,⟨zmR ag (fun _ hk=>hk.1.1.1)⟩,⟨zmS dd (fun _ hk=>⟨hk.1,hk.2.1⟩)⟩,⟨zmR af (fun _ hk=>hk.1.1.1)⟩,⟨zK_ ac⟩,⟨zB_ HB⟩⟩
    rw [if_neg bp] at H
    have cU:((rd ak (rd ab aa)) == a2)=false:=beq_eq_false_iff_ne.mpr bp
    have cV:((rd ak (rd ab aa)) != a2)=true:=bne_iff_ne.mpr bp
    have dE:=zpc H;replace H:=zph H
    have ew:=dT dE;clear dE
    have dG:=zpc H;replace H:=zph H
    have ex:=dT dG;clear dG
    have dH:=zpc H;replace H:=zph H
    have ey:=dT dH;clear dH
    by_cases bu:(rd ak (rd aj (rd ab aa)))=a2
    ·rw [if_pos bu] at H
     have de:((rd ak (rd aj (rd ab aa))) == a2)=true:=beq_iff_eq.mpr bu
     have df:((rd ak (rd aj (rd ab aa))) != a2)=false:=bne_eq_false_iff_eq.mpr bu
     clear bu;obtain⟨bv,el,H⟩:=zbind H
     have dI:=zpc H;replace H:=zph H
     have dg:=A0_ dI;clear dI
     obtain⟨cM,bU⟩ : ∃ y_:List (List Int),y_=(aJ ++ [bv]):=⟨_,rfl⟩
     replace H:(id_.l0 k1 l1 a2 l3 ak cM ab (ab.length:Int) (wrap64 (aa+1)) ap aj)=some r:=zH bU H
     have dh:=A0_ bU;clear bU;have H':=A0_ H;clear H
     have az:0≤(aa:Int):=zd
     have aA:aa<(ab.length:Int):=zd
     obtain⟨aw,a6,bj⟩:=tI (rR af.out).2.2 aa az aA
     cases a6
     replace az:=eq_true az;replace aA:=eq_true aA
     have aC:0≤(aa:Int):=zd
     have aD:aa<(l1.length:Int):=zd
     obtain⟨bC,aV,aW,a7,ao,au,av⟩:=at_L1 cl.out aa aC aD
     cases a7
     try replace ao:=(HB.out.cell (wL w _ ao)).trans ao
     have aK:=A0_ av;have aM:=A0_ au;clear av au;replace aC:=eq_true aC;replace aD:=eq_true aD
     go_wp2_with (first|((with_reducible refine gC (f:=106) rfl ?_);refine zJ (some 29) Try.func106 #[.slice aV (rd_L1 l1 aa).length aW] ?_;(with_reducible refine(ss_.calls _ _ (rd_L1 l1 aa) ar _ ?al ?am cq.out).mono ?_);(case al=>exact zC aK HB);(case am=>exact aM.out);rintro e w58 ⟨b5,rfl,ah,hb⟩;refine⟨_,rfl,?_⟩;replace ae:=A0_ (Kd.S_elder' (zS_ ae) (Kd.R_base ah) hb);have ai:=A0_ (rL (Kd.R_new' (Kd.R_new' ah (rX (zR_ ag))) (rX (zR_ af))) (bZ (zB_ HB)));replace ag:=A0_ (Kd.R_elder' (zR_ ag) (Kd.R_base ah) hb);replace af:=A0_ (Kd.R_elder' (zR_ af) (Kd.R_base ah) hb);replace ac:=zK ac hb;replace HB:=zB HB hb;(try clear hb);(try clear ah);obtain⟨eH,ca,dX⟩:=rS ag.out;subst dX;have aE:0≤((rd ab aa):Int):=zd;have aG:(rd ab aa)<(ak.length:Int):=zd;obtain⟨aq,a8,bk⟩:=tI (rR ag.out).2.2 (rd ab aa) aE aG;cases a8;replace aE:=eq_true aE;replace aG:=eq_true aG;have ec:=zc0 ac;have ed:=zc1 ac;have ee:=kF ac.out 0;have ef:=kF ac.out 1;have bd:0≤((rd ab aa):Int):=zd;have be:(rd ab aa)<(aj.length:Int):=zd;obtain⟨bV,cb,aQ⟩:=tI a5.out (rd ab aa) bd be;cases cb;try replace aQ:=(HB.out.cell (wL w _ aQ)).trans aQ;replace bd:=eq_true bd;replace be:=eq_true be;have bf:0≤((rd aj (rd ab aa)):Int):=zd;have bg:(rd aj (rd ab aa))<(ak.length:Int):=zd;obtain⟨bW,cc,cx⟩:=tI (rR ag.out).2.2 (rd aj (rd ab aa)) bf bg;obtain rfl:aq=bW:=(by injection cc);replace bf:=eq_true bf;replace bg:=eq_true bg;obtain⟨bX,bY,dY⟩:=rS ai.out;subst dY)|((with_reducible refine gC (f:=69) rfl ?_);refine zJ (some 52) Try.func69 #[.slice bX ar.length bY,.slice A3 l3.length c3] ?_;(with_reducible refine(ij_.calls k1 _ _ ar _ _ l3 bv _ ?al ?am ?aH ?aI el.out).mono ?_);(case al=>exact zD ai);(case am=>exact(rR ai.out).2.1);(case aH=>exact zC cm HB);(case aI=>exact cn.out);rintro e w62 ⟨eI,rfl,ah,hb⟩;refine⟨_,rfl,?_⟩;replace ae:=A0_ (Kd.S_elder' (zS_ ae) (Kd.R_base ah) hb);have bn:=A0_ (rL (Kd.R_new' (Kd.R_new' (Kd.R_new' ah (rX (zR_ ag))) (rX (zR_ af))) (rX (zR_ ai))) (bZ (zB_ HB)));replace ag:=A0_ (Kd.R_elder' (zR_ ag) (Kd.R_base ah) hb);replace af:=A0_ (Kd.R_elder' (zR_ af) (Kd.R_base ah) hb);replace ai:=A0_ (Kd.R_elder' (zR_ ai) (Kd.R_base ah) hb);replace ac:=zK ac hb;replace HB:=zB HB hb;(try clear hb);(try clear ah);obtain⟨cO,cP,dZ⟩:=rS bn.out;subst dZ)|((with_reducible refine gB (b := .append) (xs := #[.tmp 53,.tmp 55]) rfl ?_);at_builtin;refine Kd.S_append (Kd.slice 3 (Kd.int .i64)) (w0:=w) w.heap.size rfl (.tmp 53) (.tmp 55) 26 23 (.slice none 0 0) 24 rfl Try.underlying26 info23 rfl (by decide) (by omega) u10 aJ bv [.slice cO bv.length cP] (fun k_=>nL k_ (some aq) ak ca∧nL k_ (some aw) ab ay∧nL k_ bX ar bY) (fun k_=>some k_=(.slice cO bv.length cP:Value).ownBlock) rfl rfl ?aP (fun k_ hk_=>((rM (ok':=fun k_=>((fun k_=>nL k_ (some aq) ak ca∧nL k_ (some aw) ab ay∧nL k_ bX ar bY)) k_∧nO k_ u10) (Kd.R_apart' (bn.out) (Kd.S_typed ae.out) (by decide)) (fun k_ hk=>⟨⟨hk.1.1.1.2,⟨hk.1.1.2,hk.1.2⟩⟩,hk.2⟩))).1 k_ hk_.symm) ?aF ?aO ?aB ?aS ?aL ?_;(case aP=>exact Kd.M_row (rM (Kd.R_tight rfl (rM (ok':=fun k_=>((fun k_=>nL k_ (some aq) ak ca∧nL k_ (some aw) ab ay∧nL k_ bX ar bY)) k_∧nO k_ u10) (Kd.R_apart' (bn.out) (Kd.S_typed ae.out) (by decide)) (fun k_ hk=>⟨⟨hk.1.1.1.2,⟨hk.1.1.2,hk.1.2⟩⟩,hk.2⟩))) (fun _ h_=>h_)));(case aB=>exact(zB_ HB));(case aF=>exact(fun k_ hk=>⟨Kd.fresh' (rX (zR_ ag)) k_ hk,Kd.fresh' (rX (zR_ af)) k_ hk,Kd.fresh' (rX (zR_ ai)) k_ hk⟩));(case aO=>exact(zmS ae (fun k_ hk=>⟨⟨hk.1.1.1,⟨hk.1.1.2,hk.1.2⟩⟩,fun e_=>hk.2 e_⟩)));(case aS=>exact(bZ (zB_ HB)));(case aL=>have:=dg.out;omega);intro eJ w63 ho hb hg hat;rw [← dh.out] at ho;replace ag:=A0_ (Kd.R_over' (zR_ ag) (Kd.S_typed (zS_ ae)) (by decide) hg);replace af:=A0_ (Kd.R_over' (zR_ af) (Kd.S_typed (zS_ ae)) (by decide) hg);replace ac:=A0_ (blk_grown (g:=bh) (o := .cells #[.slice aX ap.length aY,.slice (some bV) aj.length aZ] 25 (0,0)) (zK_ ac) hg (Kd.S_ne ae.out ac.out (by decide)));replace ai:=A0_ (Kd.R_over' (zR_ ai) (Kd.S_typed (zS_ ae)) (by decide) hg);replace HB:=A0_ (hb);have di:=A0_ (ho);clear ae bn ho hb hg hat))
     go_roundg k1
     case measure=>have:=bl.out;omega
     case rel=>exact⟨(cM),(wrap64 (aa+1)),zt,H',⟨by have:=bl.out;omega⟩,⟨zmR ag (fun _ hk=>hk.1.1)⟩,⟨zmS di (fun _ hk=>⟨hk.1,hk.2.1⟩)⟩,⟨zmR af (fun _ hk=>hk.1.1)⟩,⟨zK_ ac⟩,⟨zB_ HB⟩⟩
    rw [if_neg bu] at H
    have de:((rd ak (rd aj (rd ab aa))) == a2)=false:=beq_eq_false_iff_ne.mpr bu
    have df:((rd ak (rd aj (rd ab aa))) != a2)=true:=bne_iff_ne.mpr bu
    have dJ:=zpc H;replace H:=zph H
    have dj:=A0_ dJ;clear dJ
    obtain⟨cQ,b2⟩ : ∃ y_:List (List Int),y_=(aJ ++ [ar]):=⟨_,rfl⟩
    replace H:(id_.l0 k1 l1 a2 l3 ak cQ ab (ab.length:Int) (wrap64 (aa+1)) ap aj)=some r:=zH b2 H
    have dk:=A0_ b2;clear b2;have H':=A0_ H;clear H
    have az:0≤(aa:Int):=zd
    have aA:aa<(ab.length:Int):=zd
    obtain⟨aw,a6,bj⟩:=tI (rR af.out).2.2 aa az aA
    cases a6
    replace az:=eq_true az;replace aA:=eq_true aA
    have aC:0≤(aa:Int):=zd
    have aD:aa<(l1.length:Int):=zd
    obtain⟨bC,aV,aW,a7,ao,au,av⟩:=at_L1 cl.out aa aC aD
    cases a7
    try replace ao:=(HB.out.cell (wL w _ ao)).trans ao
    have aK:=A0_ av;have aM:=A0_ au;clear av au;replace aC:=eq_true aC;replace aD:=eq_true aD
    go_wp2_with (first|((with_reducible refine gC (f:=106) rfl ?_);refine zJ (some 29) Try.func106 #[.slice aV (rd_L1 l1 aa).length aW] ?_;(with_reducible refine(ss_.calls _ _ (rd_L1 l1 aa) ar _ ?al ?am cq.out).mono ?_);(case al=>exact zC aK HB);(case am=>exact aM.out);rintro e w66 ⟨b5,rfl,ah,hb⟩;refine⟨_,rfl,?_⟩;replace ae:=A0_ (Kd.S_elder' (zS_ ae) (Kd.R_base ah) hb);have ai:=A0_ (rL (Kd.R_new' (Kd.R_new' ah (rX (zR_ ag))) (rX (zR_ af))) (bZ (zB_ HB)));replace ag:=A0_ (Kd.R_elder' (zR_ ag) (Kd.R_base ah) hb);replace af:=A0_ (Kd.R_elder' (zR_ af) (Kd.R_base ah) hb);replace ac:=zK ac hb;replace HB:=zB HB hb;(try clear hb);(try clear ah);obtain⟨eK,cd,d0⟩:=rS ag.out;subst d0;have aE:0≤((rd ab aa):Int):=zd;have aG:(rd ab aa)<(ak.length:Int):=zd;obtain⟨aq,a8,bk⟩:=tI (rR ag.out).2.2 (rd ab aa) aE aG;cases a8;replace aE:=eq_true aE;replace aG:=eq_true aG;have eg:=zc0 ac;have eh:=zc1 ac;have ei:=kF ac.out 0;have ej:=kF ac.out 1;have bd:0≤((rd ab aa):Int):=zd;have be:(rd ab aa)<(aj.length:Int):=zd;obtain⟨bV,cb,aQ⟩:=tI a5.out (rd ab aa) bd be;cases cb;try replace aQ:=(HB.out.cell (wL w _ aQ)).trans aQ;replace bd:=eq_true bd;replace be:=eq_true be;have bf:0≤((rd aj (rd ab aa)):Int):=zd;have bg:(rd aj (rd ab aa))<(ak.length:Int):=zd;obtain⟨bW,cc,cx⟩:=tI (rR ag.out).2.2 (rd aj (rd ab aa)) bf bg;obtain rfl:aq=bW:=(by injection cc);replace bf:=eq_true bf;replace bg:=eq_true bg;obtain⟨cR,cS,d3⟩:=rS ai.out;subst d3)|((with_reducible refine gB (b := .append) (xs := #[.tmp 53,.tmp 55]) rfl ?_);at_builtin;refine Kd.S_append (Kd.slice 3 (Kd.int .i64)) (w0:=w) w.heap.size rfl (.tmp 53) (.tmp 55) 26 23 (.slice none 0 0) 24 rfl Try.underlying26 info23 rfl (by decide) (by omega) u10 aJ ar [.slice cR ar.length cS] (fun k_=>nL k_ (some aq) ak cd∧nL k_ (some aw) ab ay) (fun k_=>some k_=(.slice cR ar.length cS:Value).ownBlock) rfl rfl ?aP (fun k_ hk_=>((rM (ok':=fun k_=>((fun k_=>nL k_ (some aq) ak cd∧nL k_ (some aw) ab ay)) k_∧nO k_ u10) (Kd.R_apart' (ai.out) (Kd.S_typed ae.out) (by decide)) (fun k_ hk=>⟨⟨hk.1.1.2,hk.1.2⟩,hk.2⟩))).1 k_ hk_.symm) ?aF ?aO ?aB ?aS ?aL ?_;(case aP=>exact Kd.M_row (rM (Kd.R_tight rfl (rM (ok':=fun k_=>((fun k_=>nL k_ (some aq) ak cd∧nL k_ (some aw) ab ay)) k_∧nO k_ u10) (Kd.R_apart' (ai.out) (Kd.S_typed ae.out) (by decide)) (fun k_ hk=>⟨⟨hk.1.1.2,hk.1.2⟩,hk.2⟩))) (fun _ h_=>h_)));(case aB=>exact(zB_ HB));(case aF=>exact(fun k_ hk=>⟨Kd.fresh' (rX (zR_ ag)) k_ hk,Kd.fresh' (rX (zR_ af)) k_ hk⟩));(case aO=>exact(zmS ae (fun k_ hk=>⟨⟨hk.1.1,hk.1.2⟩,fun e_=>hk.2 e_⟩)));(case aS=>exact(bZ (zB_ HB)));(case aL=>have:=dj.out;omega);intro eL w69 ho hb hg hat;rw [← dk.out] at ho;replace ag:=A0_ (Kd.R_over' (zR_ ag) (Kd.S_typed (zS_ ae)) (by decide) hg);replace af:=A0_ (Kd.R_over' (zR_ af) (Kd.S_typed (zS_ ae)) (by decide) hg);replace ac:=A0_ (blk_grown (g:=bh) (o := .cells #[.slice aX ap.length aY,.slice (some bV) aj.length aZ] 25 (0,0)) (zK_ ac) hg (Kd.S_ne ae.out ac.out (by decide)));replace HB:=A0_ (hb);have dl:=A0_ (ho);clear ae ai ho hb hg hat))
    go_roundg k1
    case measure=>have:=bl.out;omega
    case rel=>exact⟨(cQ),(wrap64 (aa+1)),zt,H',⟨by have:=bl.out;omega⟩,⟨zmR ag (fun _ hk=>hk.1)⟩,⟨zS_ dl⟩,⟨zmR af (fun _ hk=>hk.1)⟩,⟨zK_ ac⟩,⟨zB_ HB⟩⟩
   rw [if_neg bw] at H;have cT:=dF bw;clear bw;obtain rfl:=sI H
   go_wp2
   go_ret
   exact⟨_,by first|rfl|(simp [*] <;> rfl),zmS ae (fun _ hk=>trivial),zB_ HB⟩
end Go.Proofs.Ytmegggomhjgehaa.PFnCoverConj
