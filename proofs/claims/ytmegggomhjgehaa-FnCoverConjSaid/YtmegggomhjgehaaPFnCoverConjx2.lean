import Derived.Test.YtmegggomhjgehaaPFnCoverConjx1
set_option linter.unusedVariables false
namespace Go.Proofs.Ytmegggomhjgehaa.PFnCoverConj
open Go.RowKit Go.Proofs.YtmegggomhjgehaaW.PrintWords Go.Proofs.YtmegggomhjgehaaW.PrintLast Go.Proofs.YtmegggomhjgehaaW.PrintMore
set_option maxHeartbeats 8000000
set_option maxRecDepth 100000
attribute [local go_sem] max2_int min2_int max_two min_two max_three min_three max_four min_four
mutual
def i6_.j0:Nat→Bool→List Int→List Int→Option (Bool)
  | 0,_,_,_=>none
  | k+1,ac,ab,aa=>if ac=true then (some false) else (i6_.l0 k aa (aa.length:Int) 0 ab aa)
def i6_.l0:Nat→List Int→Int→Int→List Int→List Int→Option (Bool)
  | 0,_,_,_,_,_=>none
  | k+1,ac,af,ab,ae,aa=>if ab<af then (if 0≤ab then (if ab<(ac.length:Int) then (if (rd ac ab)=ab then (some false) else (if 0≤(rd ac ab) then (if (rd ac ab)<(aa.length:Int) then (if (rd aa (rd ac ab))=ab then (i6_.l0 k ac af (wrap64 (ab+1)) ae aa) else (some false)) else (none)) else (none))) else (none)) else (none)) else ((il_.f k (([ae,aa]:List (List Int)))).bind fun ag=>((su_.f ag).bind fun ah=>(some (ah == 0))))
end
def i6_.f (k:Nat) (aa:List Int) (ab:List Int):Option (Bool):=(i8_.f aa).bind fun ac=>(if ac=true then ((i8_.f ab).bind fun ae=>(if ae=true then (i6_.j0 k ((aa.length:Int) != (ab.length:Int)) aa ab) else (i6_.j0 k true aa ab))) else (i6_.j0 k true aa ab))
theorem i6_.calls (k:Nat) (P0_0_:Nat→Prop) (am:Option Addr) (an:Nat) (ae:List Int) (P0_1_:Nat→Prop) (ao:Option Addr) (ap:Nat) (ab:List Int) (r:Bool) (w:World) (a9:Kd.V (Kd.int .i64) 3 w w.heap.size (fun k_=>P0_0_ k_) (.slice am ae.length an) ae) (ba:Kd.V (Kd.int .i64) 3 w w.heap.size (fun k_=>P0_1_ k_) (.slice ao ab.length ap) ab) (h:i6_.f k ae ab=some r) :
    Calls Try.prog 54 #[.agg #[.slice am ae.length an,.slice ao ab.length ap]] w fun e w'=>e = .returned (.bool r)∧Below w.heap.size w w':=by
 have cm:=Try.underlying25
 have ag:=A0_ (show Kd.V (Kd.int .i64) 3 w w.heap.size (fun k_=>((P0_0_ k_∨P0_1_ k_)∨w.heap.size≤k_)) (.slice am ae.length an) ae from Kd.V_mono a9 (fun k_ hk => .inl (.inl hk)))
 have ah:=A0_ (show Kd.V (Kd.int .i64) 3 w w.heap.size (fun k_=>((P0_0_ k_∨P0_1_ k_)∨w.heap.size≤k_)) (.slice ao ab.length ap) ab from Kd.V_mono ba (fun k_ hk => .inl (.inr hk)))
 have HB:=A0_ (Below.refl w.heap.size w)
 have H:((i8_.f ae).bind fun aT=>(if aT=true then ((i8_.f ab).bind fun aU=>(if aU=true then (i6_.j0 k ((ae.length:Int) != (ab.length:Int)) ae ab) else (i6_.j0 k true ae ab))) else (i6_.j0 k true ae ab)))=some r:=h
 clear h;have a8:=A0_ H;clear H
 go_enter Try.func54,Try.ntmps54
 go_upto_region 1 with(first|((with_reducible refine gD (N:=1) rfl ?_);refine zX (N:=1) (cs := #[.slice am ae.length an,.slice ao ab.length ap]) (t:=25) ?_;intro ai hg w3 hbox hb;replace ag:=A0_ (Kd.V_below (Kd.V_elderB (by(with_reducible repeat(first|apply Kd.V_alloc|apply Kd.V_drewN|apply Kd.V_drew));exact ag.out) ai (Nat.le_of_eq hg.symm)) hb);replace ah:=A0_ (Kd.V_below (Kd.V_elderB (by(with_reducible repeat(first|apply Kd.V_alloc|apply Kd.V_drewN|apply Kd.V_drew));exact ah.out) ai (Nat.le_of_eq hg.symm)) hb);have aa:=A0_ (hbox);have cg:=zG hg HB;have ch:=zG hg HB;replace HB:=zB HB hb;clear hb hbox hg))
 (try simp only [Act.put,List.setIfInBounds_toArray,List.set_cons_zero,List.set_cons_succ])
 go_cut [23] (fun v23 wc => ∃ (kq:Nat) (az:Bool),v23 = .bool az∧Aside0 (i6_.j0 kq az ae ab=some r)∧Aside0 (kq≤k)∧Aside0 (Kd.V (Kd.int .i64) 3 wc w.heap.size (fun k_=>((P0_0_ k_∨P0_1_ k_)∨w.heap.size≤k_)∧k_≠ai) (.slice am ae.length an) ae)∧Aside0 (Kd.V (Kd.int .i64) 3 wc w.heap.size (fun k_=>((P0_0_ k_∨P0_1_ k_)∨w.heap.size≤k_)∧k_≠ai) (.slice ao ab.length ap) ab)∧Aside0 (wc.heap[ai]? = some (.cells #[(.slice am ae.length an),(.slice ao ab.length ap)] 25 (0,0)))∧Aside0 (Below w.heap.size w wc))
 case first =>
  have H:=a8.out;clear a8;obtain⟨aT,A4,H⟩:=zbind H
  by_cases c5:aT=true
  ·subst c5
   rw [if_pos rfl] at H;obtain⟨aU,A6,H⟩:=zbind H
   by_cases c7:aU=true
   ·subst c7
    rw [if_pos rfl] at H;have H':=A0_ H;clear H;have ca:=zc0 aa;have cb:=zc1 aa;have cc:=kF aa.out 0;have cd:=kF aa.out 1
    go_wp2_with (first|((with_reducible refine gC (f:=47) rfl ?_);refine zJ (some 7) Try.func47 #[.slice am ae.length an] ?_;(with_reducible refine(i8_.calls _ _ ae true _ ?ak ?al A4.out).mono ?_);(case ak=>repeat(first|exact(Kd.V_reads' ag.out).2.2|(with_reducible refine cA ?_ _)|(with_reducible refine cN ?_ _)|(with_reducible refine cD ?_)));(case al=>exact(Kd.V_reads' ag.out).2.1);rintro e w9 ⟨rfl,hb⟩;refine⟨_,rfl,?_⟩;replace ag:=A0_ (Kd.V_below (by(with_reducible repeat(first|apply Kd.V_alloc|apply Kd.V_drewN|apply Kd.V_drew));exact ag.out) hb);replace ah:=A0_ (Kd.V_below (by(with_reducible repeat(first|apply Kd.V_alloc|apply Kd.V_drewN|apply Kd.V_drew));exact ah.out) hb);replace aa:=zK aa hb;replace HB:=zB HB hb;(try clear hb);have bv:=zc0 aa;have bw:=zc1 aa;have bx:=kF aa.out 0;have bz:=kF aa.out 1)|(go_at_call 47;(with_reducible refine(i8_.calls _ _ ab true _ ?ak ?al A6.out).mono ?_);(case ak=>repeat(first|exact(Kd.V_reads' ah.out).2.2|(with_reducible refine cA ?_ _)|(with_reducible refine cN ?_ _)|(with_reducible refine cD ?_)));(case al=>exact(Kd.V_reads' ah.out).2.1);rintro e w11 ⟨rfl,hb⟩;replace ag:=A0_ (Kd.V_below (by(with_reducible repeat(first|apply Kd.V_alloc|apply Kd.V_drewN|apply Kd.V_drew));exact ag.out) hb);replace ah:=A0_ (Kd.V_below (by(with_reducible repeat(first|apply Kd.V_alloc|apply Kd.V_drewN|apply Kd.V_drew));exact ah.out) hb);replace aa:=zK aa hb;replace HB:=zB HB hb;(try clear hb);have bB:=zc0 aa;have bC:=zc1 aa;have bE:=kF aa.out 0;have bF:=kF aa.out 1))
    go_meet
    case rel=>exact⟨_,(((ae.length:Int) != (ab.length:Int))),zt,H',zo,⟨by(with_reducible repeat(first|apply Kd.V_alloc|apply Kd.V_drewN|apply Kd.V_drew));exact ag.out⟩,⟨by(with_reducible repeat(first|apply Kd.V_alloc|apply Kd.V_drewN|apply Kd.V_drew));exact ah.out⟩,⟨zK_ aa⟩,⟨zB_ HB⟩⟩
   replace c7:=Bool.eq_false_iff.mpr c7;subst c7
   rw [if_neg (show ¬ (false=true) by decide)] at H
   have H':=A0_ H;clear H;have bG:=zc0 aa;have bH:=zc1 aa;have bI:=kF aa.out 0;have bJ:=kF aa.out 1
   go_wp2_with (first|((with_reducible refine gC (f:=47) rfl ?_);refine zJ (some 7) Try.func47 #[.slice am ae.length an] ?_;(with_reducible refine(i8_.calls _ _ ae true _ ?ak ?al A4.out).mono ?_);(case ak=>repeat(first|exact(Kd.V_reads' ag.out).2.2|(with_reducible refine cA ?_ _)|(with_reducible refine cN ?_ _)|(with_reducible refine cD ?_)));(case al=>exact(Kd.V_reads' ag.out).2.1);rintro e w14 ⟨rfl,hb⟩;refine⟨_,rfl,?_⟩;replace ag:=A0_ (Kd.V_below (by(with_reducible repeat(first|apply Kd.V_alloc|apply Kd.V_drewN|apply Kd.V_drew));exact ag.out) hb);replace ah:=A0_ (Kd.V_below (by(with_reducible repeat(first|apply Kd.V_alloc|apply Kd.V_drewN|apply Kd.V_drew));exact ah.out) hb);replace aa:=zK aa hb;replace HB:=zB HB hb;(try clear hb);have bK:=zc0 aa;have bL:=zc1 aa;have bM:=kF aa.out 0;have bO:=kF aa.out 1)|(go_at_call 47;(with_reducible refine(i8_.calls _ _ ab false _ ?ak ?al A6.out).mono ?_);(case ak=>repeat(first|exact(Kd.V_reads' ah.out).2.2|(with_reducible refine cA ?_ _)|(with_reducible refine cN ?_ _)|(with_reducible refine cD ?_)));(case al=>exact(Kd.V_reads' ah.out).2.1);rintro e w16 ⟨rfl,hb⟩;replace ag:=A0_ (Kd.V_below (by(with_reducible repeat(first|apply Kd.V_alloc|apply Kd.V_drewN|apply Kd.V_drew));exact ag.out) hb);replace ah:=A0_ (Kd.V_below (by(with_reducible repeat(first|apply Kd.V_alloc|apply Kd.V_drewN|apply Kd.V_drew));exact ah.out) hb);replace aa:=zK aa hb;replace HB:=zB HB hb;(try clear hb)))
   go_meet
   case rel=>exact⟨_,(true),zt,H',zo,⟨by(with_reducible repeat(first|apply Kd.V_alloc|apply Kd.V_drewN|apply Kd.V_drew));exact ag.out⟩,⟨by(with_reducible repeat(first|apply Kd.V_alloc|apply Kd.V_drewN|apply Kd.V_drew));exact ah.out⟩,⟨zK_ aa⟩,⟨zB_ HB⟩⟩
  replace c5:=Bool.eq_false_iff.mpr c5;subst c5
  rw [if_neg (show ¬ (false=true) by decide)] at H
  have H':=A0_ H;clear H;have bP:=zc0 aa;have bQ:=zc1 aa;have bR:=kF aa.out 0;have bU:=kF aa.out 1
  go_wp2_with (first|((with_reducible refine gC (f:=47) rfl ?_);refine zJ (some 7) Try.func47 #[.slice am ae.length an] ?_;(with_reducible refine(i8_.calls _ _ ae false _ ?ak ?al A4.out).mono ?_);(case ak=>repeat(first|exact(Kd.V_reads' ag.out).2.2|(with_reducible refine cA ?_ _)|(with_reducible refine cN ?_ _)|(with_reducible refine cD ?_)));(case al=>exact(Kd.V_reads' ag.out).2.1);rintro e w18 ⟨rfl,hb⟩;refine⟨_,rfl,?_⟩;replace ag:=A0_ (Kd.V_below (by(with_reducible repeat(first|apply Kd.V_alloc|apply Kd.V_drewN|apply Kd.V_drew));exact ag.out) hb);replace ah:=A0_ (Kd.V_below (by(with_reducible repeat(first|apply Kd.V_alloc|apply Kd.V_drewN|apply Kd.V_drew));exact ah.out) hb);replace aa:=zK aa hb;replace HB:=zB HB hb;(try clear hb)))
  go_meet
  case rel=>exact⟨_,(true),zt,H',zo,⟨by(with_reducible repeat(first|apply Kd.V_alloc|apply Kd.V_drewN|apply Kd.V_drew));exact ag.out⟩,⟨by(with_reducible repeat(first|apply Kd.V_alloc|apply Kd.V_drewN|apply Kd.V_drew));exact ah.out⟩,⟨zK_ aa⟩,⟨zB_ HB⟩⟩
 case rest =>
  clear a8;obtain⟨kq,az,rfl,HA,bg,aj,af,aa,HB⟩:=hcut
  cases kq with
  | zero=>exact absurd HA.out (by simp [i6_.j0])
  | succ bh =>
   have H:=HA.out;clear HA;simp only [i6_.j0] at H
   by_cases aQ:az=true
   ·subst aQ
    rw [if_pos rfl] at H;obtain rfl:=sI H
    go_wp2
    go_ret
    exact⟨by first|rfl|(simp [*] <;> rfl),zB_ HB⟩
   replace aQ:=Bool.eq_false_iff.mpr aQ;subst aQ
   rw [if_neg (show ¬ (false=true) by decide)] at H
   have H':=A0_ H;clear H;have aZ:=zc0 aa;have a4:=zc1 aa;have a5:=kF aa.out 0;have a6:=kF aa.out 1
   go_wp2
   go_loopg [27] bh (fun kq v27 w' => ∃ (ac:Int),v27 = .int .i64 ac∧Aside0 (i6_.l0 kq ab (ab.length:Int) ac ae ab=some r)∧Aside0 (kq≤bh)∧Aside0 (Kd.V (Kd.int .i64) 3 w' w.heap.size (fun k_=>((P0_0_ k_∨P0_1_ k_)∨w.heap.size≤k_)∧k_≠ai) (.slice ao ab.length ap) ab)∧Aside0 (Kd.V (Kd.int .i64) 3 w' w.heap.size (fun k_=>((P0_0_ k_∨P0_1_ k_)∨w.heap.size≤k_)∧k_≠ai) (.slice am ae.length an) ae)∧Aside0 (Kd.V (Kd.int .i64) 3 w' w.heap.size (fun k_=>((P0_0_ k_∨P0_1_ k_)∨w.heap.size≤k_)∧k_≠ai) (.slice ao ab.length ap) ab)∧Aside0 (w'.heap[ai]? = some (.cells #[(.slice am ae.length an),(.slice ao ab.length ap)] 25 (0,0)))∧Aside0 (Below w.heap.size w w'))
   case atStart=>exact⟨(0),zt,H',⟨Nat.le_refl _⟩,⟨by(with_reducible repeat(first|apply Kd.V_alloc|apply Kd.V_drewN|apply Kd.V_drew));exact af.out⟩,⟨by(with_reducible repeat(first|apply Kd.V_alloc|apply Kd.V_drewN|apply Kd.V_drew));exact aj.out⟩,⟨by(with_reducible repeat(first|apply Kd.V_alloc|apply Kd.V_drewN|apply Kd.V_drew));exact af.out⟩,⟨zK_ aa⟩,⟨zB_ HB⟩⟩
   case round =>
    clear H';(try clear aQ);(try clear aZ);(try clear a4);(try clear a5);(try clear a6);obtain⟨ac,rfl,HA,bi,au,aj,af,aa,HB⟩:=hrel
    cases gk with
    | zero=>exact absurd HA.out (by simp [i6_.l0])
    | succ k2 =>
     have H:=HA.out;clear HA;simp only [i6_.l0] at H
     by_cases aH:ac<(ab.length:Int)
     ·rw [if_pos aH] at H
      have bb:=dT aH;clear aH
      have bj:=zpc H;replace H:=zph H
      have ci:=dT bj;clear bj
      have bk:=zpc H;replace H:=zph H
      have cj:=dT bk;clear bk
      by_cases aC:(rd ab ac)=ac
      ·rw [if_pos aC] at H
       have bc:((rd ab ac) == ac)=true:=beq_iff_eq.mpr aC
       have bd:((rd ab ac) != ac)=false:=bne_eq_false_iff_eq.mpr aC
       clear aC;obtain rfl:=sI H
       have aq:0≤(ac:Int):=zd
       have ar:ac<(ab.length:Int):=zd
       obtain⟨aA,aD,aI⟩:=tI (Kd.V_reads' au.out).2.2 ac aq ar
       cases aD
       replace aq:=eq_true aq;replace ar:=eq_true ar
       go_wp2
       go_ret
       exact⟨by first|rfl|(simp [*] <;> rfl),zB_ HB⟩
      rw [if_neg aC] at H
      have bc:((rd ab ac) == ac)=false:=beq_eq_false_iff_ne.mpr aC
      have bd:((rd ab ac) != ac)=true:=bne_iff_ne.mpr aC
      have bl:=zpc H;replace H:=zph H
      have ck:=dT bl;clear bl
      have bm:=zpc H;replace H:=zph H
      have cl:=dT bm;clear bm
      by_cases aE:(rd ab (rd ab ac))=ac
      ·rw [if_pos aE] at H
       have be:((rd ab (rd ab ac)) == ac)=true:=beq_iff_eq.mpr aE
       have bf:((rd ab (rd ab ac)) != ac)=false:=bne_eq_false_iff_eq.mpr aE
       clear aE;have H':=A0_ H;clear H
       have aq:0≤(ac:Int):=zd
       have ar:ac<(ab.length:Int):=zd
       obtain⟨aA,aD,aI⟩:=tI (Kd.V_reads' au.out).2.2 ac aq ar
       cases aD
       replace aq:=eq_true aq;replace ar:=eq_true ar;have bV:=zc0 aa;have bW:=zc1 aa;have bX:=kF aa.out 0;have bY:=kF aa.out 1
       have aw:0≤((rd ab ac):Int):=zd
       have ax:(rd ab ac)<(ab.length:Int):=zd
       obtain⟨aK,aV,a7⟩:=tI (Kd.V_reads' af.out).2.2 (rd ab ac) aw ax
       obtain rfl:aA=aK:=(by injection aV)
       replace aw:=eq_true aw;replace ax:=eq_true ax
       go_wp2
       go_roundg k2
       case measure=>have:=bg.out;have:=bi.out;omega
       case rel=>exact⟨(wrap64 (ac+1)),zt,H',⟨by have:=bg.out;have:=bi.out;omega⟩,⟨by(with_reducible repeat(first|apply Kd.V_alloc|apply Kd.V_drewN|apply Kd.V_drew));exact au.out⟩,⟨by(with_reducible repeat(first|apply Kd.V_alloc|apply Kd.V_drewN|apply Kd.V_drew));exact aj.out⟩,⟨by(with_reducible repeat(first|apply Kd.V_alloc|apply Kd.V_drewN|apply Kd.V_drew));exact af.out⟩,⟨zK_ aa⟩,⟨zB_ HB⟩⟩
      rw [if_neg aE] at H
      have be:((rd ab (rd ab ac)) == ac)=false:=beq_eq_false_iff_ne.mpr aE
      have bf:((rd ab (rd ab ac)) != ac)=true:=bne_iff_ne.mpr aE
      obtain rfl:=sI H
      have aq:0≤(ac:Int):=zd
      have ar:ac<(ab.length:Int):=zd
      obtain⟨aA,aD,aI⟩:=tI (Kd.V_reads' au.out).2.2 ac aq ar
      cases aD
      replace aq:=eq_true aq;replace ar:=eq_true ar;have b2:=zc0 aa;have b3:=zc1 aa;have b4:=kF aa.out 0;have b5:=kF aa.out 1
      have aw:0≤((rd ab ac):Int):=zd
      have ax:(rd ab ac)<(ab.length:Int):=zd
      obtain⟨aK,aV,a7⟩:=tI (Kd.V_reads' af.out).2.2 (rd ab ac) aw ax
      obtain rfl:aA=aK:=(by injection aV)
      replace aw:=eq_true aw;replace ax:=eq_true ax
      go_wp2
      go_ret
      exact⟨by first|rfl|(simp [*] <;> rfl),zB_ HB⟩
     rw [if_neg aH] at H;have bb:=dF aH;clear aH
     obtain⟨aW,aM⟩ : ∃ y_:List (List Int),y_=(([ae,ab]:List (List Int))):=⟨_,rfl⟩
     replace H:((il_.f k2 aW).bind fun aG=>((su_.f aG).bind fun aX=>(some (aX == 0))))=some r:=zH aM H
     have aY:=A0_ aM;clear aM;obtain⟨aG,ce,H⟩:=zbind H;obtain⟨aX,cf,H⟩:=zbind H;obtain rfl:=sI H;have b6:=zc0 aa;have b7:=zc1 aa;have b8:=kF aa.out 0;have b9:=kF aa.out 1
     go_wp2_with (first|((with_reducible refine gD (N:=49) rfl ?_);refine Kd.N_lit (Kd.slice 3 (Kd.int .i64)) _ 23 ?hg (N':=49) ?hd (xs:=([ae,ab]:List (List Int))) (inner := [.slice am ae.length an,.slice ao ab.length ap]) (ok:=(fun k_=>((P0_0_ k_∨P0_1_ k_)∨w.heap.size≤k_)∧k_≠ai)) (okp:=(fun k_=>((P0_0_ k_∨P0_1_ k_)∨w.heap.size≤k_)∧k_≠ai)) ?hr ?hp (fun _ hk=>hk) ((show ∀ k_,wr.heap.size≤k_→(fun k_=>((P0_0_ k_∨P0_1_ k_)∨w.heap.size≤k_)∧k_≠ai) k_ from fun k_ hk=>⟨(.inr (Nat.le_trans (bZ (zB_ HB)) hk)),Kd.freshB (g:=ai) (o := .cells #[.slice am ae.length an,.slice ao ab.length ap] 25 (0,0)) (zK_ aa) k_ hk⟩) _ (Nat.le_refl _)) (Below.refl _ _) (Nat.le_refl _) (by simp) ?_;(case hd=>rfl);(case hg=>rfl);(case hr=>first|(go_simp;done)|(go_simp;rfl));(case hp=>exact(Reps.one (show Kd.FK (Kd.slice 3 (Kd.int .i64)) _ _ ae [.slice am ae.length an] from(Kd.FK_slice_mk (Kd.V_reads' (Kd.V_mono (ok':=(fun k_=>((P0_0_ k_∨P0_1_ k_)∨w.heap.size≤k_)∧k_≠ai)) (aj.out) (fun k_ hk=>⟨hk.1,hk.2⟩))).2.1 (Kd.V_F (Kd.V_mono (ok':=(fun k_=>((P0_0_ k_∨P0_1_ k_)∨w.heap.size≤k_)∧k_≠ai)) (aj.out) (fun k_ hk=>⟨hk.1,hk.2⟩))))) (Reps.one (show Kd.FK (Kd.slice 3 (Kd.int .i64)) _ _ ab [.slice ao ab.length ap] from(Kd.FK_slice_mk (Kd.V_reads' (Kd.V_mono (ok':=(fun k_=>((P0_0_ k_∨P0_1_ k_)∨w.heap.size≤k_)∧k_≠ai)) (af.out) (fun k_ hk=>⟨hk.1,hk.2⟩))).2.1 (Kd.V_F (Kd.V_mono (ok':=(fun k_=>((P0_0_ k_∨P0_1_ k_)∨w.heap.size≤k_)∧k_≠ai)) (af.out) (fun k_ hk=>⟨hk.1,hk.2⟩))))) (Reps.none _ _))));intro cn w33 av hb hg_ hnew_;clear hg_ hnew_;(first|rw [← aY.out] at av|(simp only [Int.reduceToNat] at av;rw [← aY.out] at av));replace au:=A0_ (Kd.V_elder' (by(with_reducible repeat(first|apply Kd.V_alloc|apply Kd.V_drewN|apply Kd.V_drew));exact au.out) (Kd.N_base av) hb);replace aj:=A0_ (Kd.V_elder' (by(with_reducible repeat(first|apply Kd.V_alloc|apply Kd.V_drewN|apply Kd.V_drew));exact aj.out) (Kd.N_base av) hb);replace af:=A0_ (Kd.V_elder' (by(with_reducible repeat(first|apply Kd.V_alloc|apply Kd.V_drewN|apply Kd.V_drew));exact af.out) (Kd.N_base av) hb);have ay:=A0_ (Kd.N_lower av (bZ (zB_ HB)));replace aa:=zK aa hb;replace HB:=zB HB hb;clear hb av;obtain⟨bn,bo,bp⟩:=Kd.N_slice ay.out;subst bp)|((with_reducible refine gC (f:=100) rfl ?_);refine zJ (some 50) Try.func100 #[.slice bn aW.length bo] ?_;(with_reducible refine(il_.calls k2 _ _ aW aG _ ?ak ?al ce.out).mono ?_);(case ak=>repeat(first|exact(Kd.N_reads' ay.out).2.2|(with_reducible refine cA ?_ _)|(with_reducible refine cN ?_ _)|(with_reducible refine cD ?_)));(case al=>exact(Kd.N_reads' ay.out).2.1);rintro e w36 ⟨co,rfl,aJ,hb⟩;refine⟨_,rfl,?_⟩;replace au:=A0_ (Kd.V_elder' (by(with_reducible repeat(first|apply Kd.V_alloc|apply Kd.V_drewN|apply Kd.V_drew));exact au.out) (Kd.R_base aJ) hb);replace aj:=A0_ (Kd.V_elder' (by(with_reducible repeat(first|apply Kd.V_alloc|apply Kd.V_drewN|apply Kd.V_drew));exact aj.out) (Kd.R_base aJ) hb);replace af:=A0_ (Kd.V_elder' (by(with_reducible repeat(first|apply Kd.V_alloc|apply Kd.V_drewN|apply Kd.V_drew));exact af.out) (Kd.R_base aJ) hb);replace ay:=A0_ (Kd.N_elder' (by(with_reducible repeat(first|apply Kd.N_alloc|apply Kd.N_drewN|apply Kd.N_drew));exact ay.out) (Kd.R_base aJ) hb);have aN:=A0_ (rL (Kd.R_newM (M:=fun k_=>(w.heap.size≤k_)) aJ (bZ (zB_ HB)) (fun k_ h_=>h_)) (bZ (zB_ HB)));replace aa:=zK aa hb;replace HB:=zB HB hb;(try clear hb);(try clear aJ);obtain⟨bq,br,bu⟩:=rS aN.out;subst bu)|((with_reducible refine gC (f:=99) rfl ?_);refine zJ (some 51) Try.func99 #[.slice bq aG.length br] ?_;(with_reducible refine(su_.calls _ _ aG aX _ ?ak ?al cf.out).mono ?_);(case ak=>exact zD aN);(case al=>exact(rR aN.out).2.1);rintro e w' ⟨rfl,⟨nd,rfl⟩⟩;refine⟨_,rfl,?_⟩))
     go_ret
     exact⟨by first|rfl|(simp [*] <;> rfl),zB_ HB⟩
mutual
def i9_.j0:Nat→Int→List (List Int)→Bool→Option (Bool)
  | 0,_,_,_=>none
  | k+1,x1,x2,aa=>if aa=true then (some false) else (i9_.l0 k x1 x2 (x2.length:Int) 0)
def i9_.l0:Nat→Int→List (List Int)→Int→Int→Option (Bool)
  | 0,_,_,_,_=>none
  | k+1,x1,ab,ac,aa=>if aa<ac then (if 0≤aa then (if aa<(ab.length:Int) then ((i8_.f (rd_L1 ab aa)).bind fun ae=>(if ae=true then (if ((rd_L1 ab aa).length:Int)=x1 then (i9_.l0 k x1 ab ac (wrap64 (aa+1))) else (some false)) else (some false))) else (none)) else (none)) else (some true)
end
def i9_.f (k:Nat) (aa:List Int) (ab:List Int) (a1:Int) (l2:List (List Int)):Option (Bool):=(i6_.f k aa ab).bind fun ac=>(if ac=true then (if a1<1 then (i9_.j0 k a1 l2 true) else (if a1>6 then (i9_.j0 k a1 l2 true) else (if (wrap64 ((aa.length:Int)*a1))>12 then (i9_.j0 k a1 l2 true) else (i9_.j0 k a1 l2 ((l2.length:Int) != (wrap64 ((ab.length:Int) / 2))))))) else (i9_.j0 k a1 l2 true))
theorem i9_.calls (k:Nat) (am:Option Addr) (an:Nat) (ac:List Int) (ao:Option Addr) (ap:Nat) (ae:List Int) (a1:Int) (A2:Option Addr) (c2:Nat) (l2:List (List Int)) (r:Bool) (w:World) (aM:Kd.C (Kd.int .i64) w am ac.length ac) (aN:ac.length≤an) (aQ:Kd.C (Kd.int .i64) w ao ae.length ae) (aT:ae.length≤ap) (a9:Kd.C (Kd.slice 3 (Kd.int .i64)) w A2 l2.length l2) (ba:l2.length≤c2) (h:i9_.f k ac ae a1 l2=some r) :
    Calls Try.prog 53 #[.agg #[.slice am ac.length an,.slice ao ae.length ap],.int .i64 a1,.slice A2 l2.length c2] w fun e w'=>e = .returned (.bool r)∧Below w.heap.size w w':=by
 have bV:=Try.underlying25;have aw:=A0_ aM;have ax:=A0_ aN;clear aM aN;have ay:=A0_ aQ;have az:=A0_ aT;clear aQ aT;have aX:=A0_ a9;have bW:=A0_ ba;clear a9 ba
 have HB:=A0_ (Below.refl w.heap.size w)
 have H:((i6_.f k ac ae).bind fun aK=>(if aK=true then (if a1<1 then (i9_.j0 k a1 l2 true) else (if a1>6 then (i9_.j0 k a1 l2 true) else (if (wrap64 ((ac.length:Int)*a1))>12 then (i9_.j0 k a1 l2 true) else (i9_.j0 k a1 l2 ((l2.length:Int) != (wrap64 ((ae.length:Int) / 2))))))) else (i9_.j0 k a1 l2 true)))=some r:=h
 clear h;have aY:=A0_ H;clear H
 go_enter Try.func53,Try.ntmps53
 go_upto_region 1 with(first|((with_reducible refine gD (N:=3) rfl ?_);refine zX (N:=3) (cs := #[.slice am ac.length an,.slice ao ae.length ap]) (t:=25) ?_;intro aU hg w5 hbox hb;have aa:=A0_ (hbox);have bP:=zG hg HB;have bQ:=zG hg HB;replace HB:=zB HB hb;clear hb hbox hg))
 (try simp only [Act.put,List.setIfInBounds_toArray,List.set_cons_zero,List.set_cons_succ])
 go_cut [36] (fun v36 wc => ∃ (kq:Nat) (aA:Bool),v36 = .bool aA∧Aside0 (i9_.j0 kq a1 l2 aA=some r)∧Aside0 (kq≤k)∧Aside0 (wc.heap[aU]? = some (.cells #[(.slice am ac.length an),(.slice ao ae.length ap)] 25 (0,0)))∧Aside0 (Below w.heap.size w wc))
 case first =>
  have H:=aY.out;clear aY;obtain⟨aK,A6,H⟩:=zbind H
  by_cases c7:aK=true
  ·subst c7
   rw [if_pos rfl] at H
   by_cases c8:a1<1
   ·rw [if_pos c8] at H
    have aC:=dT c8;clear c8
    (first|rw [aC]|(simp only [i64_w,i32_w];rw [aC])|skip)
    have H':=A0_ H;clear H;have bK:=zc0 aa;have bL:=zc1 aa;have bM:=kF aa.out 0;have bO:=kF aa.out 1
    go_wp2_with (first|((with_reducible refine gC (f:=54) rfl ?_);refine zJ (some 10) Try.func54 #[.agg #[.slice am ac.length an,.slice ao ae.length ap]] ?_;(with_reducible refine(i6_.calls k (fun k_=>k_<w.heap.size) _ _ ac (fun k_=>k_<w.heap.size) _ _ ae true _ ?ag ?ah A6.out).mono ?_);(case ag=>exact Kd.V_mk ax.out (Kd.F_below (Kd.C_F (Kd.heap_int .i64) aw.out) (zB_ HB)));(case ah=>exact Kd.V_mk az.out (Kd.F_below (Kd.C_F (Kd.heap_int .i64) ay.out) (zB_ HB)));rintro e w10 ⟨rfl,hb⟩;refine⟨_,rfl,?_⟩;replace aa:=zK aa hb;replace HB:=zB HB hb;(try clear hb)))
    go_meet
    case rel=>exact⟨_,(true),zt,H',zo,⟨zK_ aa⟩,⟨zB_ HB⟩⟩
   rw [if_neg c8] at H;have aC:=dF c8;clear c8
   (first|rw [aC]|(simp only [i64_w,i32_w];rw [aC])|skip)
   by_cases aG:a1>6
   ·rw [if_pos aG] at H
    have a4:decide (6<a1)=true:=dT aG
    clear aG;have H':=A0_ H;clear H;have bh:=zc0 aa;have bi:=zc1 aa;have bj:=kF aa.out 0;have bk:=kF aa.out 1
    go_wp2_with (first|((with_reducible refine gC (f:=54) rfl ?_);refine zJ (some 10) Try.func54 #[.agg #[.slice am ac.length an,.slice ao ae.length ap]] ?_;(with_reducible refine(i6_.calls k (fun k_=>k_<w.heap.size) _ _ ac (fun k_=>k_<w.heap.size) _ _ ae true _ ?ag ?ah A6.out).mono ?_);(case ag=>exact Kd.V_mk ax.out (Kd.F_below (Kd.C_F (Kd.heap_int .i64) aw.out) (zB_ HB)));(case ah=>exact Kd.V_mk az.out (Kd.F_below (Kd.C_F (Kd.heap_int .i64) ay.out) (zB_ HB)));rintro e w13 ⟨rfl,hb⟩;refine⟨_,rfl,?_⟩;replace aa:=zK aa hb;replace HB:=zB HB hb;(try clear hb)))
    go_meet
    case rel=>exact⟨_,(true),zt,H',zo,⟨zK_ aa⟩,⟨zB_ HB⟩⟩
   rw [if_neg aG] at H
   have a4:decide (6<a1)=false:=dF aG
   clear aG
   by_cases aH:(wrap64 ((ac.length:Int)*a1))>12
   ·rw [if_pos aH] at H
    have a5:decide (12<(wrap64 ((ac.length:Int)*a1)))=true:=dT aH
    clear aH;have H':=A0_ H;clear H;have bl:=zc0 aa;have bm:=zc1 aa;have bn:=kF aa.out 0;have bo:=kF aa.out 1
    go_wp2_with (first|((with_reducible refine gC (f:=54) rfl ?_);refine zJ (some 10) Try.func54 #[.agg #[.slice am ac.length an,.slice ao ae.length ap]] ?_;(with_reducible refine(i6_.calls k (fun k_=>k_<w.heap.size) _ _ ac (fun k_=>k_<w.heap.size) _ _ ae true _ ?ag ?ah A6.out).mono ?_);(case ag=>exact Kd.V_mk ax.out (Kd.F_below (Kd.C_F (Kd.heap_int .i64) aw.out) (zB_ HB)));(case ah=>exact Kd.V_mk az.out (Kd.F_below (Kd.C_F (Kd.heap_int .i64) ay.out) (zB_ HB)));rintro e w16 ⟨rfl,hb⟩;refine⟨_,rfl,?_⟩;replace aa:=zK aa hb;replace HB:=zB HB hb;(try clear hb);have bp:=zc0 aa;have bq:=zc1 aa;have br:=kF aa.out 0;have bu:=kF aa.out 1))
    go_meet
    case rel=>exact⟨_,(true),zt,H',zo,⟨zK_ aa⟩,⟨zB_ HB⟩⟩
   rw [if_neg aH] at H
   have a5:decide (12<(wrap64 ((ac.length:Int)*a1)))=false:=dF aH
   clear aH;have H':=A0_ H;clear H;have bv:=zc0 aa;have bw:=zc1 aa;have bx:=kF aa.out 0;have bz:=kF aa.out 1
   go_wp2_with (first|((with_reducible refine gC (f:=54) rfl ?_);refine zJ (some 10) Try.func54 #[.agg #[.slice am ac.length an,.slice ao ae.length ap]] ?_;(with_reducible refine(i6_.calls k (fun k_=>k_<w.heap.size) _ _ ac (fun k_=>k_<w.heap.size) _ _ ae true _ ?ag ?ah A6.out).mono ?_);(case ag=>exact Kd.V_mk ax.out (Kd.F_below (Kd.C_F (Kd.heap_int .i64) aw.out) (zB_ HB)));(case ah=>exact Kd.V_mk az.out (Kd.F_below (Kd.C_F (Kd.heap_int .i64) ay.out) (zB_ HB)));rintro e w19 ⟨rfl,hb⟩;refine⟨_,rfl,?_⟩;replace aa:=zK aa hb;replace HB:=zB HB hb;(try clear hb);have bB:=zc0 aa;have bC:=zc1 aa;have bE:=kF aa.out 0;have bF:=kF aa.out 1))
   go_meet
   case rel=>exact⟨_,(((l2.length:Int) != (wrap64 ((ae.length:Int) / 2)))),zt,H',zo,⟨zK_ aa⟩,⟨zB_ HB⟩⟩
  replace c7:=Bool.eq_false_iff.mpr c7;subst c7
  rw [if_neg (show ¬ (false=true) by decide)] at H
  have H':=A0_ H;clear H;have bG:=zc0 aa;have bH:=zc1 aa;have bI:=kF aa.out 0;have bJ:=kF aa.out 1
  go_wp2_with (first|((with_reducible refine gC (f:=54) rfl ?_);refine zJ (some 10) Try.func54 #[.agg #[.slice am ac.length an,.slice ao ae.length ap]] ?_;(with_reducible refine(i6_.calls k (fun k_=>k_<w.heap.size) _ _ ac (fun k_=>k_<w.heap.size) _ _ ae false _ ?ag ?ah A6.out).mono ?_);(case ag=>exact Kd.V_mk ax.out (Kd.F_below (Kd.C_F (Kd.heap_int .i64) aw.out) (zB_ HB)));(case ah=>exact Kd.V_mk az.out (Kd.F_below (Kd.C_F (Kd.heap_int .i64) ay.out) (zB_ HB)));rintro e w22 ⟨rfl,hb⟩;refine⟨_,rfl,?_⟩;replace aa:=zK aa hb;replace HB:=zB HB hb;(try clear hb)))
  go_meet
  case rel=>exact⟨_,(true),zt,H',zo,⟨zK_ aa⟩,⟨zB_ HB⟩⟩
 case rest =>
  clear aY;(try clear c2);obtain⟨kq,aA,rfl,HA,bb,aa,HB⟩:=hcut
  cases kq with
  | zero=>exact absurd HA.out (by simp [i9_.j0])
  | succ bc =>
   have H:=HA.out;clear HA;simp only [i9_.j0] at H
   by_cases aJ:aA=true
   ·subst aJ
    rw [if_pos rfl] at H;obtain rfl:=sI H
    go_wp2
    go_ret
    exact⟨by first|rfl|(simp [*] <;> rfl),zB_ HB⟩
   replace aJ:=Bool.eq_false_iff.mpr aJ;subst aJ
   rw [if_neg (show ¬ (false=true) by decide)] at H
   have H':=A0_ H;clear H
   go_wp2
   go_loopg [39] bc (fun kq v39 w' => ∃ (ab:Int),v39 = .int .i64 ab∧Aside0 (i9_.l0 kq a1 l2 (l2.length:Int) ab=some r)∧Aside0 (kq≤bc)∧Aside0 (w'.heap[aU]? = some (.cells #[(.slice am ac.length an),(.slice ao ae.length ap)] 25 (0,0)))∧Aside0 (Below w.heap.size w w'))
   case atStart=>exact⟨(0),zt,H',⟨Nat.le_refl _⟩,⟨zK_ aa⟩,⟨zB_ HB⟩⟩
   case round =>
    clear H';(try clear c2);(try clear aJ);obtain⟨ab,rfl,HA,bd,aa,HB⟩:=hrel
    cases gk with
    | zero=>exact absurd HA.out (by simp [i9_.l0])
    | succ k2 =>
     have H:=HA.out;clear HA;simp only [i9_.l0] at H
     by_cases aI:ab<(l2.length:Int)
     ·rw [if_pos aI] at H
      have a6:=dT aI;clear aI
      have be:=zpc H;replace H:=zph H
      have bR:=dT be;clear be
      have bf:=zpc H;replace H:=zph H
      have bU:=dT bf;clear bf;obtain⟨bg,aZ,H⟩:=zbind H
      by_cases aV:bg=true
      ·subst aV
       rw [if_pos rfl] at H
       by_cases aD:((rd_L1 l2 ab).length:Int)=a1
       ·rw [if_pos aD] at H
        have a7:(((rd_L1 l2 ab).length:Int) == a1)=true:=beq_iff_eq.mpr aD
        have a8:(((rd_L1 l2 ab).length:Int) != a1)=false:=bne_eq_false_iff_eq.mpr aD
        clear aD;have H':=A0_ H;clear H
        have ak:0≤(ab:Int):=zd
        have al:ab<(l2.length:Int):=zd
        obtain⟨aW,au,av,aE,af,ai,aj⟩:=at_L1 aX.out ab ak al
        cases aE
        try replace af:=(HB.out.cell (wL w _ af)).trans af
        have aq:=A0_ aj;have ar:=A0_ ai;clear aj ai;replace ak:=eq_true ak;replace al:=eq_true al
        go_wp2_with (first|((with_reducible refine gC (f:=47) rfl ?_);refine zJ (some 44) Try.func47 #[.slice au (rd_L1 l2 ab).length av] ?_;(with_reducible refine(i8_.calls _ _ (rd_L1 l2 ab) true _ ?ag ?ah aZ.out).mono ?_);(case ag=>exact zC aq HB);(case ah=>exact ar.out);rintro e w30 ⟨rfl,hb⟩;refine⟨_,rfl,?_⟩;replace aa:=zK aa hb;replace HB:=zB HB hb;(try clear hb)))
        go_roundg k2
        case measure=>have:=bb.out;have:=bd.out;omega
        case rel=>exact⟨(wrap64 (ab+1)),zt,H',⟨by have:=bb.out;have:=bd.out;omega⟩,⟨zK_ aa⟩,⟨zB_ HB⟩⟩
       rw [if_neg aD] at H
       have a7:(((rd_L1 l2 ab).length:Int) == a1)=false:=beq_eq_false_iff_ne.mpr aD
       have a8:(((rd_L1 l2 ab).length:Int) != a1)=true:=bne_iff_ne.mpr aD
       obtain rfl:=sI H
       have ak:0≤(ab:Int):=zd
       have al:ab<(l2.length:Int):=zd
       obtain⟨aW,au,av,aE,af,ai,aj⟩:=at_L1 aX.out ab ak al
       cases aE
       try replace af:=(HB.out.cell (wL w _ af)).trans af
       have aq:=A0_ aj;have ar:=A0_ ai;clear aj ai;replace ak:=eq_true ak;replace al:=eq_true al
       go_wp2_with (first|((with_reducible refine gC (f:=47) rfl ?_);refine zJ (some 44) Try.func47 #[.slice au (rd_L1 l2 ab).length av] ?_;(with_reducible refine(i8_.calls _ _ (rd_L1 l2 ab) true _ ?ag ?ah aZ.out).mono ?_);(case ag=>exact zC aq HB);(case ah=>exact ar.out);rintro e w31 ⟨rfl,hb⟩;refine⟨_,rfl,?_⟩;replace aa:=zK aa hb;replace HB:=zB HB hb;(try clear hb)))
       go_ret
       exact⟨by first|rfl|(simp [*] <;> rfl),zB_ HB⟩
      replace aV:=Bool.eq_false_iff.mpr aV;subst aV
      rw [if_neg (show ¬ (false=true) by decide)] at H
      obtain rfl:=sI H
      have ak:0≤(ab:Int):=zd
      have al:ab<(l2.length:Int):=zd
      obtain⟨aW,au,av,aE,af,ai,aj⟩:=at_L1 aX.out ab ak al
      cases aE
      try replace af:=(HB.out.cell (wL w _ af)).trans af
      have aq:=A0_ aj;have ar:=A0_ ai;clear aj ai;replace ak:=eq_true ak;replace al:=eq_true al
      go_wp2_with (first|((with_reducible refine gC (f:=47) rfl ?_);refine zJ (some 44) Try.func47 #[.slice au (rd_L1 l2 ab).length av] ?_;(with_reducible refine(i8_.calls _ _ (rd_L1 l2 ab) false _ ?ag ?ah aZ.out).mono ?_);(case ag=>exact zC aq HB);(case ah=>exact ar.out);rintro e w32 ⟨rfl,hb⟩;refine⟨_,rfl,?_⟩;replace aa:=zK aa hb;replace HB:=zB HB hb;(try clear hb)))
      go_ret
      exact⟨by first|rfl|(simp [*] <;> rfl),zB_ HB⟩
     rw [if_neg aI] at H;have a6:=dF aI;clear aI;obtain rfl:=sI H
     go_wp2
     go_ret
     exact⟨by first|rfl|(simp [*] <;> rfl),zB_ HB⟩
def ib_.l0:Nat→List Int→List Int→Int→Int→Option (List Int)
  | 0,_,_,_,_=>none
  | k+1,x3,x9,ab,aa=>if aa<ab then (if 0≤aa then (if aa<(x9.length:Int) then (if 0≤(rd x9 aa) then (if (rd x9 aa)<(x3.length:Int) then (ib_.l0 k (x3.set ((rd x9 aa):Int).toNat aa) x9 ab (wrap64 (aa+1))) else (none)) else (none)) else (none)) else (none)) else (some x3)
def ib_.f (k:Nat) (l0:List Int):Option (List Int):=if 0≤(l0.length:Int) then (if ((l0.length:Int):Int).toNat≤35184372088832 then (ib_.l0 k (List.replicate ((l0.length:Int):Int).toNat 0) l0 (l0.length:Int) 0) else (none)) else (none)
theorem ib_.calls (k:Nat) (A0:Option Addr) (c0:Nat) (l0:List Int) (r:List Int) (w:World) (aw:Kd.C (Kd.int .i64) w A0 l0.length l0) (ax:l0.length≤c0) (h:ib_.f k l0=some r) :
    Calls Try.prog 60 #[.slice A0 l0.length c0] w fun e w' => ∃ v0_:Value,e = .returned (v0_)∧Kd.R (Kd.int .i64) 3 w' w.heap.size (fun _=>True) v0_ r∧Below w.heap.size w w':=by
 have aK:=A0_ aw;have aX:=A0_ ax;clear aw ax
 have HB:=A0_ (Below.refl w.heap.size w)
 have H:(if 0≤(l0.length:Int) then (if ((l0.length:Int):Int).toNat≤35184372088832 then (ib_.l0 k (List.replicate ((l0.length:Int):Int).toNat 0) l0 (l0.length:Int) 0) else (none)) else (none))=some r:=h
 clear h
 have c2:=zpc H;replace H:=zph H
 have aA:=eq_true c2;have aC:=dT c2;clear c2
 have c3:=zpc H;replace H:=zph H
 have aD:=eq_true c3;have aE:=dT c3;clear c3
 obtain⟨an,af⟩ : ∃ y_:List Int,y_=(List.replicate ((l0.length:Int):Int).toNat 0):=⟨_,rfl⟩
 replace H:(ib_.l0 k an l0 (l0.length:Int) 0)=some r:=zH af H
 have am:=A0_ af;clear af;have H':=A0_ H;clear H
 go_enter Try.func60,Try.ntmps60
 go_wp2_with (first|((with_reducible refine gD (N:=8) rfl ?_);refine Kd.R_make (Kd.int .i64) _ 3 rfl (N:=8) rfl 23 _ _ rfl (l0.length:Int) rfl rfl Try.underlying23 (.int .i64 0) 8 info3 rfl (by decide) (by omega) 0 (ok:=fun _=>True) (okp:=fun _=>True) rfl (fun _ hk=>hk) trivial (zd) (Nat.le_trans (Nat.mul_le_mul_right _ (zd:(l0.length:Int).toNat≤35184372088832)) (by omega)) (Below.refl _ _) (Nat.le_refl _) ?_;intro aG w4 ah hb hg_ hnew_;clear hg_ hnew_;(first|rw [← am.out] at ah|(simp only [Int.reduceToNat] at ah;rw [← am.out] at ah));have au:=A0_ (rL ah (bZ (zB_ HB)));replace HB:=zB HB hb;clear hb ah))
 go_loopg [11] k (fun kq v11 w' => ∃ (ab:List Int) (aa:Int),v11 = .int .i64 aa∧Aside0 (ib_.l0 kq ab l0 (l0.length:Int) aa=some r)∧Aside0 (kq≤k)∧Aside0 (Kd.R (Kd.int .i64) 3 w' w.heap.size (fun _=>True) aG ab)∧Aside0 (Below w.heap.size w w'))
 case atStart=>exact⟨(an),(0),zt,H',⟨Nat.le_refl _⟩,⟨zR_ au⟩,⟨zB_ HB⟩⟩
 case round =>
  clear H';(try clear c2);(try clear aA);(try clear aC);(try clear c3);(try clear aD);(try clear aE);obtain⟨ab,aa,rfl,HA,ay,ac,HB⟩:=hrel
  cases gk with
  | zero=>exact absurd HA.out (by simp [ib_.l0])
  | succ k1 =>
   have H:=HA.out;clear HA;simp only [ib_.l0] at H
   by_cases c6:aa<(l0.length:Int)
   ·rw [if_pos c6] at H
    have aH:=dT c6;clear c6
    have c7:=zpc H;replace H:=zph H
    have aU:=dT c7;clear c7
    have c8:=zpc H;replace H:=zph H
    have aV:=dT c8;clear c8
    have c9:=zpc H;replace H:=zph H
    have aW:=dT c9;clear c9
    have az:=zpc H;replace H:=zph H
    have aQ:=dT az;clear az
    obtain⟨ai,ag⟩ : ∃ y_:List Int,y_=(ab.set ((rd l0 aa):Int).toNat aa):=⟨_,rfl⟩
    replace H:(ib_.l0 k1 ai l0 (l0.length:Int) (wrap64 (aa+1)))=some r:=zH ag H
    have av:=A0_ ag;clear ag;have H':=A0_ H;clear H
    have aj:0≤(aa:Int):=zd
    have ak:aa<(l0.length:Int):=zd
    obtain⟨aT,aI,ae⟩:=tI aK.out aa aj ak
    cases aI
    try replace ae:=(HB.out.cell (wL w _ ae)).trans ae
    replace aj:=eq_true aj;replace ak:=eq_true ak
    have ao:0≤((rd l0 aa):Int):=zd
    have ap:((rd l0 aa):Int)<((ab.length:Int):Int):=zd
    obtain⟨al,aJ,aq,ar,gl11,cl11,HG11⟩:=Kd.R_form ac.out (by omega)
    (first|cases aq|(injection aq with ea_ en_ ec_;(first|subst ea_|(injection ea_ with ea_;subst ea_));subst ec_;clear en_))
    have GB11:=A0_ ar;have GG11:=A0_ HG11;clear ar gl11 HG11
    obtain⟨aM,aN⟩:=Kd.R_celln 0 ac.out ((rd l0 aa):Int) ao ap
    replace ao:=eq_true ao;replace ap:=eq_true ap
    have HP12:=Kd.R_putg ac.out ((rd l0 aa):Int) aa
    go_wp2_with (first|((with_reducible refine gS (t:=3) (p:=19) rfl ?_);refine store_event (t:=3) (p:=19) (v := ?vo_w13) (w1:=(wr.setCell ⟨al,((rd l0 aa):Int).toNat,none⟩ (.int .i64 aa))) ?hg ?ho ?hn ?hr ?_;(case ho=>rfl);(case hg=>rfl);(case hn=>rfl);(case hr=>first|(go_simp;done)|(go_simp;rfl));intro w13 hw;have hg:wr.grownBy w13 (some al):=(by rw [hw];exact HP12.2);have hp_:Kd.R (Kd.int .i64) 3 w13 w.heap.size (fun _=>True) (.slice (some ⟨al,0,none⟩) ab.length aJ) ai:=(by rw [hw,av.out];exact HP12.1);clear HP12;replace ac:=A0_ (hp_);replace HB:=A0_ ((by rw [hw];exact bS (HB.out) GB11.out:Below w.heap.size w w13));clear hg hw hp_))
    go_roundg k1
    case measure=>have:=ay.out;omega
    case rel=>exact⟨(ai),(wrap64 (aa+1)),zt,H',⟨by have:=ay.out;omega⟩,⟨zR_ ac⟩,⟨zB_ HB⟩⟩
   rw [if_neg c6] at H;have aH:=dF c6;clear c6;obtain rfl:=sI H
   go_wp2
   go_ret
   exact⟨_,by first|rfl|(simp [*] <;> rfl),zR_ ac,zB_ HB⟩
def ih_.l0:Nat→List Int→List Int→Int→Int→Option (List Int)
  | 0,_,_,_,_=>none
  | k+1,x3,x8,x9,aa=>if aa<x9 then (if 0≤aa then (if aa<(x8.length:Int) then (if aa<(rd x8 aa) then (if x3.length<17592186044416 then (ih_.l0 k (x3 ++ [aa]) x8 x9 (wrap64 (aa+1))) else (none)) else (ih_.l0 k x3 x8 x9 (wrap64 (aa+1)))) else (none)) else (none)) else (some x3)
def ih_.f (k:Nat) (ab:List Int) (aa:List Int):Option (List Int):=ih_.l0 k (([]:List Int)) aa (aa.length:Int) 0
theorem ih_.calls (k:Nat) (aj:Option Addr) (ak:Nat) (af:List Int) (an:Option Addr) (al:Nat) (ab:List Int) (r:List Int) (w:World) (au:Kd.C (Kd.int .i64) w aj af.length af) (av:af.length≤ak) (aw:Kd.C (Kd.int .i64) w an ab.length ab) (ax:ab.length≤al) (h:ih_.f k af ab=some r) :
    Calls Try.prog 105 #[.agg #[.slice aj af.length ak,.slice an ab.length al]] w fun e w' => ∃ v0_:Value,e = .returned (v0_)∧Kd.R (Kd.int .i64) 3 w' w.heap.size (fun _=>True) v0_ r∧Below w.heap.size w w':=by
 have a6:=Try.underlying25;have aX:=A0_ au;have aY:=A0_ av;clear au av;have ay:=A0_ aw;have aZ:=A0_ ax;clear aw ax
 have HB:=A0_ (Below.refl w.heap.size w)
 have H:(ih_.l0 k (([]:List Int)) ab (ab.length:Int) 0)=some r:=h
 clear h
 obtain⟨aE,ao⟩ : ∃ y_:List Int,y_=(([]:List Int)):=⟨_,rfl⟩
 replace H:(ih_.l0 k aE ab (ab.length:Int) 0)=some r:=zH ao H
 have az:=A0_ ao;clear ao;have H':=A0_ H;clear H
 go_enter Try.func105,Try.ntmps105
 go_wp2_with (first|((with_reducible refine gD (N:=1) rfl ?_);refine zX (N:=1) (cs := #[.slice aj af.length ak,.slice an ab.length al]) (t:=25) ?_;intro aA hg w2 hbox hb;have ac:=A0_ (hbox);have a4:=zG hg HB;have a5:=zG hg HB;replace HB:=zB HB hb;clear hb hbox hg)|((with_reducible refine gD (N:=6) rfl ?_);refine Kd.R_lit (Kd.int .i64) _ 3 ?hg (N:=6) ?hd (xs:=([]:List Int)) (inner := []) (ok:=fun _=>True) (okp:=fun _=>True) ?hr ?hp (fun _ hk=>hk) trivial (Below.refl _ _) (Nat.le_refl _) (by simp) ?_;(case hd=>rfl);(case hg=>rfl);(case hr=>first|(go_simp;done)|(go_simp;rfl));(case hp=>exact(Reps.none _ _));intro a7 w3 aq hb hg_ hnew_;clear hg_ hnew_;(first|rw [← az.out] at aq|(simp only [Int.reduceToNat] at aq;rw [← az.out] at aq));have aM:=A0_ (rL aq (bZ (zB_ HB)));replace ac:=zK ac hb;replace HB:=zB HB hb;clear hb aq;have aG:=zc0 ac;have aH:=zc1 ac;have aI:=kF ac.out 0;have aJ:=kF ac.out 1))
 go_loopg [3,10] k (fun kq v3 v10 w' => ∃ (ai:List Int) (aa:Int),v10 = .int .i64 aa∧Aside0 (ih_.l0 kq ai ab (ab.length:Int) aa=some r)∧Aside0 (kq≤k)∧Aside0 (Kd.R (Kd.int .i64) 3 w' w.heap.size (fun _=>True) v3 ai)∧Aside0 (w'.heap[aA]? = some (.cells #[(.slice aj af.length ak),(.slice an ab.length al)] 25 (0,0)))∧Aside0 (Below w.heap.size w w'))
 case atStart=>exact⟨(aE),(0),zt,H',⟨Nat.le_refl _⟩,⟨zR_ aM⟩,⟨zK_ ac⟩,⟨zB_ HB⟩⟩
 case round =>
  clear H';(try clear aG);(try clear aH);(try clear aI);(try clear aJ);obtain⟨ai,aa,rfl,HA,aC,am,ac,HB⟩:=hrel
  cases gk with
  | zero=>exact absurd HA.out (by simp [ih_.l0])
  | succ k1 =>
   have H:=HA.out;clear HA;simp only [ih_.l0] at H
   by_cases c6:aa<(ab.length:Int)
   ·rw [if_pos c6] at H
    have aV:=dT c6;clear c6
    have c7:=zpc H;replace H:=zph H
    have a8:=dT c7;clear c7
    have c8:=zpc H;replace H:=zph H
    have a9:=dT c8;clear c8
    by_cases c9:aa<(rd ab aa)
    ·rw [if_pos c9] at H
     have aW:=dT c9;clear c9
     have aU:=zpc H;replace H:=zph H
     have aN:=A0_ aU;clear aU
     obtain⟨aK,ap⟩ : ∃ y_:List Int,y_=(ai ++ [aa]):=⟨_,rfl⟩
     replace H:(ih_.l0 k1 aK ab (ab.length:Int) (wrap64 (aa+1)))=some r:=zH ap H
     have aQ:=A0_ ap;clear ap;have H':=A0_ H;clear H
     have ag:0≤(aa:Int):=zd
     have ah:aa<(ab.length:Int):=zd
     obtain⟨aD,ar,ae⟩:=tI ay.out aa ag ah
     cases ar
     try replace ae:=(HB.out.cell (wL w _ ae)).trans ae
     replace ag:=eq_true ag;replace ah:=eq_true ah
     go_wp2_with (first|((with_reducible refine gB (b := .append) (xs := #[.tmp 18,.tmp 20]) rfl ?_);at_builtin;refine Kd.R_append (Kd.int .i64) (w0:=w) w.heap.size rfl (.tmp 18) (.tmp 20) 23 3 (.int .i64 0) 8 rfl Try.underlying23 info3 rfl (by decide) (by omega) u3 ai aa [.int .i64 aa] (fun _=>True) (fun _=>False) rfl rfl ?aP (fun _ hk=>hk.elim) ?aF ?aO ?aB ?aS ?aL ?_;(case aP=>exact rfl);(case aB=>exact(zB_ HB));(case aF=>exact(fun _ _=>trivial));(case aO=>exact(zR_ am));(case aS=>exact(bZ (zB_ HB)));(case aL=>have:=aN.out;omega);intro ba w11 ho hb hg hat;rw [← aQ.out] at ho;replace ac:=A0_ (blk_grown (g:=aA) (o := .cells #[.slice aj af.length ak,.slice (some aD) ab.length al] 25 (0,0)) (zK_ ac) hg (Kd.R_ne am.out ac.out (by decide)));replace HB:=A0_ (hb);have aT:=A0_ (ho);clear am ho hb hg hat))
     go_roundg k1
     case measure=>have:=aC.out;omega
     case rel=>exact⟨(aK),(wrap64 (aa+1)),zt,H',⟨by have:=aC.out;omega⟩,⟨zR_ aT⟩,⟨zK_ ac⟩,⟨zB_ HB⟩⟩
    rw [if_neg c9] at H;have aW:=dF c9;clear c9;have H':=A0_ H;clear H
    have ag:0≤(aa:Int):=zd
    have ah:aa<(ab.length:Int):=zd
    obtain⟨aD,ar,ae⟩:=tI ay.out aa ag ah
    cases ar
    try replace ae:=(HB.out.cell (wL w _ ae)).trans ae
    replace ag:=eq_true ag;replace ah:=eq_true ah
    go_wp2
    go_roundg k1
    case measure=>have:=aC.out;omega
    case rel=>exact⟨(ai),(wrap64 (aa+1)),zt,H',⟨by have:=aC.out;omega⟩,⟨zR_ am⟩,⟨zK_ ac⟩,⟨zB_ HB⟩⟩
   rw [if_neg c6] at H;have aV:=dF c6;clear c6;obtain rfl:=sI H
   go_wp2
   go_ret
   exact⟨_,by first|rfl|(simp [*] <;> rfl),zR_ am,zB_ HB⟩
end Go.Proofs.Ytmegggomhjgehaa.PFnCoverConj
