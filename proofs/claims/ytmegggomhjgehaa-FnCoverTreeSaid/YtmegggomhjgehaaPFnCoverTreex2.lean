import Derived.Test.YtmegggomhjgehaaPFnCoverTreex1
namespace Go.Proofs.Ytmegggomhjgehaa.PFnCoverTree
open Go.RowKit Go.Proofs.YtmegggomhjgehaaW.PrintWords Go.Proofs.YtmegggomhjgehaaW.PrintLast Go.Proofs.YtmegggomhjgehaaW.PrintMore
set_option maxHeartbeats 8000000
set_option maxRecDepth 100000
attribute [local go_sem] max2_int min2_int max_two min_two max_three min_three max_four min_four
set_option linter.unusedVariables false
set_option linter.unusedSimpArgs false
mutual
def i6_.j0:Nat→Bool→List Int→List Int→Option (Bool)
  | 0,_,_,_=>none
  | k+1,ac,ab,aa=>if ac=true then (some false) else (i6_.l0 k aa (aa.length:Int) 0 ab aa)
def i6_.l0:Nat→List Int→Int→Int→List Int→List Int→Option (Bool)
  | 0,_,_,_,_,_=>none
  | k+1,ac,af,ab,ae,aa=>if ab<af then (if 0≤ab then (if ab<(ac.length:Int) then (if (rd ac ab)=ab then (some false) else (if 0≤(rd ac ab) then (if (rd ac ab)<(aa.length:Int) then (if (rd aa (rd ac ab))=ab then (i6_.l0 k ac af (wrap64 (ab+1)) ae aa) else (some false)) else (none)) else (none))) else (none)) else (none)) else ((il_.f k (([ae,aa]:List (List Int)))).bind fun ag=>((su_.f ag).bind fun ah=>(some (ah == 0))))
end
def i6_.f (k:Nat) (aa:List Int) (ab:List Int):Option (Bool):=(i7_.f aa).bind fun ac=>(if ac=true then ((i7_.f ab).bind fun ae=>(if ae=true then (i6_.j0 k ((aa.length:Int) != (ab.length:Int)) aa ab) else (i6_.j0 k true aa ab))) else (i6_.j0 k true aa ab))
theorem i6_.calls (k:Nat) (P0_0_:Nat→Prop) (am:Option Addr) (an:Nat) (ae:List Int) (P0_1_:Nat→Prop) (ao:Option Addr) (ap:Nat) (ab:List Int) (r:Bool) (w:World) (a8:Kd.V (Kd.int .i64) 3 w w.heap.size (fun k_=>P0_0_ k_) (.slice am ae.length an) ae) (a9:Kd.V (Kd.int .i64) 3 w w.heap.size (fun k_=>P0_1_ k_) (.slice ao ab.length ap) ab) (h:i6_.f k ae ab=some r) :
    Calls Try.prog 54 #[.agg #[.slice am ae.length an,.slice ao ab.length ap]] w fun e w'=>e = .returned (.bool r)∧Below w.heap.size w w':=by
 have cl:=Try.underlying25
 have ag:=A0_ (show Kd.V (Kd.int .i64) 3 w w.heap.size (fun k_=>((P0_0_ k_∨P0_1_ k_)∨w.heap.size≤k_)) (.slice am ae.length an) ae from Kd.V_mono a8 (fun k_ hk => .inl (.inl hk)))
 have ah:=A0_ (show Kd.V (Kd.int .i64) 3 w w.heap.size (fun k_=>((P0_0_ k_∨P0_1_ k_)∨w.heap.size≤k_)) (.slice ao ab.length ap) ab from Kd.V_mono a9 (fun k_ hk => .inl (.inr hk)))
 have HB:=A0_ (Below.refl w.heap.size w)
 have H:((i7_.f ae).bind fun aT=>(if aT=true then ((i7_.f ab).bind fun aU=>(if aU=true then (i6_.j0 k ((ae.length:Int) != (ab.length:Int)) ae ab) else (i6_.j0 k true ae ab))) else (i6_.j0 k true ae ab)))=some r:=h
 clear h;have a7:=A0_ H;clear H
 go_enter Try.func54,Try.ntmps54
 go_upto_region 1 with(first|((with_reducible refine gD (N:=1) rfl ?_);refine zX (N:=1) (cs := #[.slice am ae.length an,.slice ao ab.length ap]) (t:=25) ?_;intro ai hg w3 hbox hb;replace ag:=A0_ (Kd.V_below (Kd.V_elderB (by(with_reducible repeat(first|apply Kd.V_alloc|apply Kd.V_drewN|apply Kd.V_drew));exact ag.out) ai (Nat.le_of_eq hg.symm)) hb);replace ah:=A0_ (Kd.V_below (Kd.V_elderB (by(with_reducible repeat(first|apply Kd.V_alloc|apply Kd.V_drewN|apply Kd.V_drew));exact ah.out) ai (Nat.le_of_eq hg.symm)) hb);have aa:=A0_ (hbox);have cf:=zG hg HB;have cg:=zG hg HB;replace HB:=zB HB hb;clear hb hbox hg))
 (try simp only [Act.put,List.setIfInBounds_toArray,List.set_cons_zero,List.set_cons_succ])
 go_cut [23] (fun v23 wc => ∃ (kq:Nat) (az:Bool),v23 = .bool az∧Aside0 (i6_.j0 kq az ae ab=some r)∧Aside0 (kq≤k)∧Aside0 (Kd.V (Kd.int .i64) 3 wc w.heap.size (fun k_=>((P0_0_ k_∨P0_1_ k_)∨w.heap.size≤k_)∧k_≠ai) (.slice am ae.length an) ae)∧Aside0 (Kd.V (Kd.int .i64) 3 wc w.heap.size (fun k_=>((P0_0_ k_∨P0_1_ k_)∨w.heap.size≤k_)∧k_≠ai) (.slice ao ab.length ap) ab)∧Aside0 (wc.heap[ai]? = some (.cells #[(.slice am ae.length an),(.slice ao ab.length ap)] 25 (0,0)))∧Aside0 (Below w.heap.size w wc))
 case first =>
  have H:=a7.out;clear a7;obtain⟨aT,A4,H⟩:=zbind H
  by_cases c5:aT=true
  ·subst c5
   rw [if_pos rfl] at H;obtain⟨aU,A6,H⟩:=zbind H
   by_cases c7:aU=true
   ·subst c7
    rw [if_pos rfl] at H;have H':=A0_ H;clear H;have b9:=zc0 aa;have ca:=zc1 aa;have cb:=kF aa.out 0;have cc:=kF aa.out 1
    go_wp2_with (first|((with_reducible refine gC (f:=47) rfl ?_);refine zJ (some 7) Try.func47 #[.slice am ae.length an] ?_;(with_reducible refine(i7_.calls _ _ ae true _ ?ak ?al A4.out).mono ?_);(case ak=>repeat(first|exact(Kd.V_reads' ag.out).2.2|(with_reducible refine cA ?_ _)|(with_reducible refine cN ?_ _)|(with_reducible refine cD ?_)));(case al=>exact(Kd.V_reads' ag.out).2.1);rintro e w9 ⟨rfl,hb⟩;refine⟨_,rfl,?_⟩;replace ag:=A0_ (Kd.V_below (by(with_reducible repeat(first|apply Kd.V_alloc|apply Kd.V_drewN|apply Kd.V_drew));exact ag.out) hb);replace ah:=A0_ (Kd.V_below (by(with_reducible repeat(first|apply Kd.V_alloc|apply Kd.V_drewN|apply Kd.V_drew));exact ah.out) hb);replace aa:=zK aa hb;replace HB:=zB HB hb;(try clear hb);have bu:=zc0 aa;have bv:=zc1 aa;have bw:=kF aa.out 0;have bx:=kF aa.out 1)|(go_at_call 47;(with_reducible refine(i7_.calls _ _ ab true _ ?ak ?al A6.out).mono ?_);(case ak=>repeat(first|exact(Kd.V_reads' ah.out).2.2|(with_reducible refine cA ?_ _)|(with_reducible refine cN ?_ _)|(with_reducible refine cD ?_)));(case al=>exact(Kd.V_reads' ah.out).2.1);rintro e w11 ⟨rfl,hb⟩;replace ag:=A0_ (Kd.V_below (by(with_reducible repeat(first|apply Kd.V_alloc|apply Kd.V_drewN|apply Kd.V_drew));exact ag.out) hb);replace ah:=A0_ (Kd.V_below (by(with_reducible repeat(first|apply Kd.V_alloc|apply Kd.V_drewN|apply Kd.V_drew));exact ah.out) hb);replace aa:=zK aa hb;replace HB:=zB HB hb;(try clear hb);have bz:=zc0 aa;have bB:=zc1 aa;have bC:=kF aa.out 0;have bE:=kF aa.out 1))
    go_meet
    case rel=>exact⟨_,(((ae.length:Int) != (ab.length:Int))),zt,H',zo,⟨by(with_reducible repeat(first|apply Kd.V_alloc|apply Kd.V_drewN|apply Kd.V_drew));exact ag.out⟩,⟨by(with_reducible repeat(first|apply Kd.V_alloc|apply Kd.V_drewN|apply Kd.V_drew));exact ah.out⟩,⟨zK_ aa⟩,⟨zB_ HB⟩⟩
   replace c7:=Bool.eq_false_iff.mpr c7;subst c7
   rw [if_neg (show ¬ (false=true) by decide)] at H
   have H':=A0_ H;clear H;have bF:=zc0 aa;have bG:=zc1 aa;have bH:=kF aa.out 0;have bI:=kF aa.out 1
   go_wp2_with (first|((with_reducible refine gC (f:=47) rfl ?_);refine zJ (some 7) Try.func47 #[.slice am ae.length an] ?_;(with_reducible refine(i7_.calls _ _ ae true _ ?ak ?al A4.out).mono ?_);(case ak=>repeat(first|exact(Kd.V_reads' ag.out).2.2|(with_reducible refine cA ?_ _)|(with_reducible refine cN ?_ _)|(with_reducible refine cD ?_)));(case al=>exact(Kd.V_reads' ag.out).2.1);rintro e w14 ⟨rfl,hb⟩;refine⟨_,rfl,?_⟩;replace ag:=A0_ (Kd.V_below (by(with_reducible repeat(first|apply Kd.V_alloc|apply Kd.V_drewN|apply Kd.V_drew));exact ag.out) hb);replace ah:=A0_ (Kd.V_below (by(with_reducible repeat(first|apply Kd.V_alloc|apply Kd.V_drewN|apply Kd.V_drew));exact ah.out) hb);replace aa:=zK aa hb;replace HB:=zB HB hb;(try clear hb);have bJ:=zc0 aa;have bK:=zc1 aa;have bL:=kF aa.out 0;have bM:=kF aa.out 1)|(go_at_call 47;(with_reducible refine(i7_.calls _ _ ab false _ ?ak ?al A6.out).mono ?_);(case ak=>repeat(first|exact(Kd.V_reads' ah.out).2.2|(with_reducible refine cA ?_ _)|(with_reducible refine cN ?_ _)|(with_reducible refine cD ?_)));(case al=>exact(Kd.V_reads' ah.out).2.1);rintro e w16 ⟨rfl,hb⟩;replace ag:=A0_ (Kd.V_below (by(with_reducible repeat(first|apply Kd.V_alloc|apply Kd.V_drewN|apply Kd.V_drew));exact ag.out) hb);replace ah:=A0_ (Kd.V_below (by(with_reducible repeat(first|apply Kd.V_alloc|apply Kd.V_drewN|apply Kd.V_drew));exact ah.out) hb);replace aa:=zK aa hb;replace HB:=zB HB hb;(try clear hb)))
   go_meet
   case rel=>exact⟨_,(true),zt,H',zo,⟨by(with_reducible repeat(first|apply Kd.V_alloc|apply Kd.V_drewN|apply Kd.V_drew));exact ag.out⟩,⟨by(with_reducible repeat(first|apply Kd.V_alloc|apply Kd.V_drewN|apply Kd.V_drew));exact ah.out⟩,⟨zK_ aa⟩,⟨zB_ HB⟩⟩
  replace c5:=Bool.eq_false_iff.mpr c5;subst c5
  rw [if_neg (show ¬ (false=true) by decide)] at H
  have H':=A0_ H;clear H;have bO:=zc0 aa;have bP:=zc1 aa;have bQ:=kF aa.out 0;have bR:=kF aa.out 1
  go_wp2_with (first|((with_reducible refine gC (f:=47) rfl ?_);refine zJ (some 7) Try.func47 #[.slice am ae.length an] ?_;(with_reducible refine(i7_.calls _ _ ae false _ ?ak ?al A4.out).mono ?_);(case ak=>repeat(first|exact(Kd.V_reads' ag.out).2.2|(with_reducible refine cA ?_ _)|(with_reducible refine cN ?_ _)|(with_reducible refine cD ?_)));(case al=>exact(Kd.V_reads' ag.out).2.1);rintro e w18 ⟨rfl,hb⟩;refine⟨_,rfl,?_⟩;replace ag:=A0_ (Kd.V_below (by(with_reducible repeat(first|apply Kd.V_alloc|apply Kd.V_drewN|apply Kd.V_drew));exact ag.out) hb);replace ah:=A0_ (Kd.V_below (by(with_reducible repeat(first|apply Kd.V_alloc|apply Kd.V_drewN|apply Kd.V_drew));exact ah.out) hb);replace aa:=zK aa hb;replace HB:=zB HB hb;(try clear hb)))
  go_meet
  case rel=>exact⟨_,(true),zt,H',zo,⟨by(with_reducible repeat(first|apply Kd.V_alloc|apply Kd.V_drewN|apply Kd.V_drew));exact ag.out⟩,⟨by(with_reducible repeat(first|apply Kd.V_alloc|apply Kd.V_drewN|apply Kd.V_drew));exact ah.out⟩,⟨zK_ aa⟩,⟨zB_ HB⟩⟩
 case rest =>
  clear a7;obtain⟨kq,az,rfl,HA,bf,aj,af,aa,HB⟩:=hcut
  cases kq with
  | zero=>exact absurd HA.out (by simp [i6_.j0])
  | succ bg =>
   have H:=HA.out;clear HA;simp only [i6_.j0] at H
   by_cases aQ:az=true
   ·subst aQ
    rw [if_pos rfl] at H;obtain rfl:=sI H
    go_wp2
    go_ret
    exact⟨by first|rfl|(simp [*] <;> rfl),zB_ HB⟩
   replace aQ:=Bool.eq_false_iff.mpr aQ;subst aQ
   rw [if_neg (show ¬ (false=true) by decide)] at H
   have H':=A0_ H;clear H;have aZ:=zc0 aa;have a3:=zc1 aa;have a4:=kF aa.out 0;have a5:=kF aa.out 1
   go_wp2
   go_loopg [27] bg (fun kq v27 w' => ∃ (ac:Int),v27 = .int .i64 ac∧Aside0 (i6_.l0 kq ab (ab.length:Int) ac ae ab=some r)∧Aside0 (kq≤bg)∧Aside0 (Kd.V (Kd.int .i64) 3 w' w.heap.size (fun k_=>((P0_0_ k_∨P0_1_ k_)∨w.heap.size≤k_)∧k_≠ai) (.slice ao ab.length ap) ab)∧Aside0 (Kd.V (Kd.int .i64) 3 w' w.heap.size (fun k_=>((P0_0_ k_∨P0_1_ k_)∨w.heap.size≤k_)∧k_≠ai) (.slice am ae.length an) ae)∧Aside0 (Kd.V (Kd.int .i64) 3 w' w.heap.size (fun k_=>((P0_0_ k_∨P0_1_ k_)∨w.heap.size≤k_)∧k_≠ai) (.slice ao ab.length ap) ab)∧Aside0 (w'.heap[ai]? = some (.cells #[(.slice am ae.length an),(.slice ao ab.length ap)] 25 (0,0)))∧Aside0 (Below w.heap.size w w'))
   case atStart=>exact⟨(0),zt,H',⟨Nat.le_refl _⟩,⟨by(with_reducible repeat(first|apply Kd.V_alloc|apply Kd.V_drewN|apply Kd.V_drew));exact af.out⟩,⟨by(with_reducible repeat(first|apply Kd.V_alloc|apply Kd.V_drewN|apply Kd.V_drew));exact aj.out⟩,⟨by(with_reducible repeat(first|apply Kd.V_alloc|apply Kd.V_drewN|apply Kd.V_drew));exact af.out⟩,⟨zK_ aa⟩,⟨zB_ HB⟩⟩
   case round =>
    clear H';(try clear aQ);(try clear aZ);(try clear a3);(try clear a4);(try clear a5);obtain⟨ac,rfl,HA,bh,au,aj,af,aa,HB⟩:=hrel
    cases gk with
    | zero=>exact absurd HA.out (by simp [i6_.l0])
    | succ k2 =>
     have H:=HA.out;clear HA;simp only [i6_.l0] at H
     by_cases aH:ac<(ab.length:Int)
     ·rw [if_pos aH] at H
      have ba:=dT aH;clear aH
      have bi:=zpc H;replace H:=zph H
      have ch:=dT bi;clear bi
      have bj:=zpc H;replace H:=zph H
      have ci:=dT bj;clear bj
      by_cases aC:(rd ab ac)=ac
      ·rw [if_pos aC] at H
       have bb:((rd ab ac) == ac)=true:=beq_iff_eq.mpr aC
       have bc:((rd ab ac) != ac)=false:=bne_eq_false_iff_eq.mpr aC
       clear aC;obtain rfl:=sI H
       have aq:0≤(ac:Int):=zd
       have ar:ac<(ab.length:Int):=zd
       obtain⟨aA,aD,aI⟩:=tI (Kd.V_reads' au.out).2.2 ac aq ar
       cases aD
       replace aq:=eq_true aq;replace ar:=eq_true ar
       go_wp2
       go_ret
       exact⟨by first|rfl|(simp [*] <;> rfl),zB_ HB⟩
      rw [if_neg aC] at H
      have bb:((rd ab ac) == ac)=false:=beq_eq_false_iff_ne.mpr aC
      have bc:((rd ab ac) != ac)=true:=bne_iff_ne.mpr aC
      have bk:=zpc H;replace H:=zph H
      have cj:=dT bk;clear bk
      have bl:=zpc H;replace H:=zph H
      have ck:=dT bl;clear bl
      by_cases aE:(rd ab (rd ab ac))=ac
      ·rw [if_pos aE] at H
       have bd:((rd ab (rd ab ac)) == ac)=true:=beq_iff_eq.mpr aE
       have be:((rd ab (rd ab ac)) != ac)=false:=bne_eq_false_iff_eq.mpr aE
       clear aE;have H':=A0_ H;clear H
       have aq:0≤(ac:Int):=zd
       have ar:ac<(ab.length:Int):=zd
       obtain⟨aA,aD,aI⟩:=tI (Kd.V_reads' au.out).2.2 ac aq ar
       cases aD
       replace aq:=eq_true aq;replace ar:=eq_true ar;have bU:=zc0 aa;have bV:=zc1 aa;have bW:=kF aa.out 0;have bX:=kF aa.out 1
       have aw:0≤((rd ab ac):Int):=zd
       have ax:(rd ab ac)<(ab.length:Int):=zd
       obtain⟨aK,aV,a6⟩:=tI (Kd.V_reads' af.out).2.2 (rd ab ac) aw ax
       obtain rfl:aA=aK:=(by injection aV)
       replace aw:=eq_true aw;replace ax:=eq_true ax
       go_wp2
       go_roundg k2
       case measure=>have:=bf.out;have:=bh.out;omega
       case rel=>exact⟨(wrap64 (ac+1)),zt,H',⟨by have:=bf.out;have:=bh.out;omega⟩,⟨by(with_reducible repeat(first|apply Kd.V_alloc|apply Kd.V_drewN|apply Kd.V_drew));exact au.out⟩,⟨by(with_reducible repeat(first|apply Kd.V_alloc|apply Kd.V_drewN|apply Kd.V_drew));exact aj.out⟩,⟨by(with_reducible repeat(first|apply Kd.V_alloc|apply Kd.V_drewN|apply Kd.V_drew));exact af.out⟩,⟨zK_ aa⟩,⟨zB_ HB⟩⟩
      rw [if_neg aE] at H
      have bd:((rd ab (rd ab ac)) == ac)=false:=beq_eq_false_iff_ne.mpr aE
      have be:((rd ab (rd ab ac)) != ac)=true:=bne_iff_ne.mpr aE
      obtain rfl:=sI H
      have aq:0≤(ac:Int):=zd
      have ar:ac<(ab.length:Int):=zd
      obtain⟨aA,aD,aI⟩:=tI (Kd.V_reads' au.out).2.2 ac aq ar
      cases aD
      replace aq:=eq_true aq;replace ar:=eq_true ar;have bY:=zc0 aa;have b2:=zc1 aa;have b3:=kF aa.out 0;have b4:=kF aa.out 1
      have aw:0≤((rd ab ac):Int):=zd
      have ax:(rd ab ac)<(ab.length:Int):=zd
      obtain⟨aK,aV,a6⟩:=tI (Kd.V_reads' af.out).2.2 (rd ab ac) aw ax
      obtain rfl:aA=aK:=(by injection aV)
      replace aw:=eq_true aw;replace ax:=eq_true ax
      go_wp2
      go_ret
      exact⟨by first|rfl|(simp [*] <;> rfl),zB_ HB⟩
     rw [if_neg aH] at H;have ba:=dF aH;clear aH
     obtain⟨aW,aM⟩ : ∃ y_:List (List Int),y_=(([ae,ab]:List (List Int))):=⟨_,rfl⟩
     replace H:((il_.f k2 aW).bind fun aG=>((su_.f aG).bind fun aX=>(some (aX == 0))))=some r:=zH aM H
     have aY:=A0_ aM;clear aM;obtain⟨aG,cd,H⟩:=zbind H;obtain⟨aX,ce,H⟩:=zbind H;obtain rfl:=sI H;have b5:=zc0 aa;have b6:=zc1 aa;have b7:=kF aa.out 0;have b8:=kF aa.out 1
     go_wp2_with (first|((with_reducible refine gD (N:=49) rfl ?_);refine Kd.N_lit (Kd.slice 3 (Kd.int .i64)) _ 23 ?hg (N':=49) ?hd (xs:=([ae,ab]:List (List Int))) (inner := [.slice am ae.length an,.slice ao ab.length ap]) (ok:=(fun k_=>((P0_0_ k_∨P0_1_ k_)∨w.heap.size≤k_)∧k_≠ai)) (okp:=(fun k_=>((P0_0_ k_∨P0_1_ k_)∨w.heap.size≤k_)∧k_≠ai)) ?hr ?hp (fun _ hk=>hk) ((show ∀ k_,wr.heap.size≤k_→(fun k_=>((P0_0_ k_∨P0_1_ k_)∨w.heap.size≤k_)∧k_≠ai) k_ from fun k_ hk=>⟨(.inr (Nat.le_trans (bZ (zB_ HB)) hk)),Kd.freshB (g:=ai) (o := .cells #[.slice am ae.length an,.slice ao ab.length ap] 25 (0,0)) (zK_ aa) k_ hk⟩) _ (Nat.le_refl _)) (Below.refl _ _) (Nat.le_refl _) (by simp) ?_;(case hd=>rfl);(case hg=>rfl);(case hr=>first|(go_simp;done)|(go_simp;rfl));(case hp=>exact(Reps.one (show Kd.FK (Kd.slice 3 (Kd.int .i64)) _ _ ae [.slice am ae.length an] from(Kd.FK_slice_mk (Kd.V_reads' (Kd.V_mono (ok':=(fun k_=>((P0_0_ k_∨P0_1_ k_)∨w.heap.size≤k_)∧k_≠ai)) (aj.out) (fun k_ hk=>⟨hk.1,hk.2⟩))).2.1 (Kd.V_F (Kd.V_mono (ok':=(fun k_=>((P0_0_ k_∨P0_1_ k_)∨w.heap.size≤k_)∧k_≠ai)) (aj.out) (fun k_ hk=>⟨hk.1,hk.2⟩))))) (Reps.one (show Kd.FK (Kd.slice 3 (Kd.int .i64)) _ _ ab [.slice ao ab.length ap] from(Kd.FK_slice_mk (Kd.V_reads' (Kd.V_mono (ok':=(fun k_=>((P0_0_ k_∨P0_1_ k_)∨w.heap.size≤k_)∧k_≠ai)) (af.out) (fun k_ hk=>⟨hk.1,hk.2⟩))).2.1 (Kd.V_F (Kd.V_mono (ok':=(fun k_=>((P0_0_ k_∨P0_1_ k_)∨w.heap.size≤k_)∧k_≠ai)) (af.out) (fun k_ hk=>⟨hk.1,hk.2⟩))))) (Reps.none _ _))));intro cm w33 av hb hg_ hnew_;clear hg_ hnew_;(first|rw [← aY.out] at av|(simp only [Int.reduceToNat] at av;rw [← aY.out] at av));replace au:=A0_ (Kd.V_elder' (by(with_reducible repeat(first|apply Kd.V_alloc|apply Kd.V_drewN|apply Kd.V_drew));exact au.out) (Kd.N_base av) hb);replace aj:=A0_ (Kd.V_elder' (by(with_reducible repeat(first|apply Kd.V_alloc|apply Kd.V_drewN|apply Kd.V_drew));exact aj.out) (Kd.N_base av) hb);replace af:=A0_ (Kd.V_elder' (by(with_reducible repeat(first|apply Kd.V_alloc|apply Kd.V_drewN|apply Kd.V_drew));exact af.out) (Kd.N_base av) hb);have ay:=A0_ (Kd.N_lower av (bZ (zB_ HB)));replace aa:=zK aa hb;replace HB:=zB HB hb;clear hb av;obtain⟨bm,bn,bo⟩:=Kd.N_slice ay.out;subst bo)|((with_reducible refine gC (f:=100) rfl ?_);refine zJ (some 50) Try.func100 #[.slice bm aW.length bn] ?_;(with_reducible refine(il_.calls k2 _ _ aW aG _ ?ak ?al cd.out).mono ?_);(case ak=>repeat(first|exact(Kd.N_reads' ay.out).2.2|(with_reducible refine cA ?_ _)|(with_reducible refine cN ?_ _)|(with_reducible refine cD ?_)));(case al=>exact(Kd.N_reads' ay.out).2.1);rintro e w36 ⟨cn,rfl,aJ,hb⟩;refine⟨_,rfl,?_⟩;replace au:=A0_ (Kd.V_elder' (by(with_reducible repeat(first|apply Kd.V_alloc|apply Kd.V_drewN|apply Kd.V_drew));exact au.out) (Kd.R_base aJ) hb);replace aj:=A0_ (Kd.V_elder' (by(with_reducible repeat(first|apply Kd.V_alloc|apply Kd.V_drewN|apply Kd.V_drew));exact aj.out) (Kd.R_base aJ) hb);replace af:=A0_ (Kd.V_elder' (by(with_reducible repeat(first|apply Kd.V_alloc|apply Kd.V_drewN|apply Kd.V_drew));exact af.out) (Kd.R_base aJ) hb);replace ay:=A0_ (Kd.N_elder' (by(with_reducible repeat(first|apply Kd.N_alloc|apply Kd.N_drewN|apply Kd.N_drew));exact ay.out) (Kd.R_base aJ) hb);have aN:=A0_ (rL (Kd.R_newM (M:=fun k_=>(w.heap.size≤k_)) aJ (bZ (zB_ HB)) (fun k_ h_=>h_)) (bZ (zB_ HB)));replace aa:=zK aa hb;replace HB:=zB HB hb;(try clear hb);(try clear aJ);obtain⟨bp,bq,br⟩:=rS aN.out;subst br)|((with_reducible refine gC (f:=99) rfl ?_);refine zJ (some 51) Try.func99 #[.slice bp aG.length bq] ?_;(with_reducible refine(su_.calls _ _ aG aX _ ?ak ?al ce.out).mono ?_);(case ak=>exact zD aN);(case al=>exact(rR aN.out).2.1);rintro e w' ⟨rfl,⟨nd,rfl⟩⟩;refine⟨_,rfl,?_⟩))
     go_ret
     exact⟨by first|rfl|(simp [*] <;> rfl),zB_ HB⟩
mutual
def i8_.j0:Nat→Int→List (List Int)→Bool→Option (Bool)
  | 0,_,_,_=>none
  | k+1,x1,x2,aa=>if aa=true then (some false) else (i8_.l0 k x1 x2 (x2.length:Int) 0)
def i8_.l0:Nat→Int→List (List Int)→Int→Int→Option (Bool)
  | 0,_,_,_,_=>none
  | k+1,x1,ab,ac,aa=>if aa<ac then (if 0≤aa then (if aa<(ab.length:Int) then ((i7_.f (rd_L1 ab aa)).bind fun ae=>(if ae=true then (if ((rd_L1 ab aa).length:Int)=x1 then (i8_.l0 k x1 ab ac (wrap64 (aa+1))) else (some false)) else (some false))) else (none)) else (none)) else (some true)
end
def i8_.f (k:Nat) (aa:List Int) (ab:List Int) (a1:Int) (l2:List (List Int)):Option (Bool):=(i6_.f k aa ab).bind fun ac=>(if ac=true then (if a1<1 then (i8_.j0 k a1 l2 true) else (if a1>6 then (i8_.j0 k a1 l2 true) else (if (wrap64 ((aa.length:Int)*a1))>12 then (i8_.j0 k a1 l2 true) else (i8_.j0 k a1 l2 ((l2.length:Int) != (wrap64 ((ab.length:Int) / 2))))))) else (i8_.j0 k a1 l2 true))
theorem i8_.calls (k:Nat) (am:Option Addr) (an:Nat) (ac:List Int) (ao:Option Addr) (ap:Nat) (ae:List Int) (a1:Int) (A2:Option Addr) (c2:Nat) (l2:List (List Int)) (r:Bool) (w:World) (aM:Kd.C (Kd.int .i64) w am ac.length ac) (aN:ac.length≤an) (aQ:Kd.C (Kd.int .i64) w ao ae.length ae) (aT:ae.length≤ap) (a8:Kd.C (Kd.slice 3 (Kd.int .i64)) w A2 l2.length l2) (a9:l2.length≤c2) (h:i8_.f k ac ae a1 l2=some r) :
    Calls Try.prog 53 #[.agg #[.slice am ac.length an,.slice ao ae.length ap],.int .i64 a1,.slice A2 l2.length c2] w fun e w'=>e = .returned (.bool r)∧Below w.heap.size w w':=by
 have bU:=Try.underlying25;have aw:=A0_ aM;have ax:=A0_ aN;clear aM aN;have ay:=A0_ aQ;have az:=A0_ aT;clear aQ aT;have aX:=A0_ a8;have bV:=A0_ a9;clear a8 a9
 have HB:=A0_ (Below.refl w.heap.size w)
 have H:((i6_.f k ac ae).bind fun aK=>(if aK=true then (if a1<1 then (i8_.j0 k a1 l2 true) else (if a1>6 then (i8_.j0 k a1 l2 true) else (if (wrap64 ((ac.length:Int)*a1))>12 then (i8_.j0 k a1 l2 true) else (i8_.j0 k a1 l2 ((l2.length:Int) != (wrap64 ((ae.length:Int) / 2))))))) else (i8_.j0 k a1 l2 true)))=some r:=h
 clear h;have aY:=A0_ H;clear H
 go_enter Try.func53,Try.ntmps53
 go_upto_region 1 with(first|((with_reducible refine gD (N:=3) rfl ?_);refine zX (N:=3) (cs := #[.slice am ac.length an,.slice ao ae.length ap]) (t:=25) ?_;intro aU hg w5 hbox hb;have aa:=A0_ (hbox);have bO:=zG hg HB;have bP:=zG hg HB;replace HB:=zB HB hb;clear hb hbox hg))
 (try simp only [Act.put,List.setIfInBounds_toArray,List.set_cons_zero,List.set_cons_succ])
 go_cut [36] (fun v36 wc => ∃ (kq:Nat) (aA:Bool),v36 = .bool aA∧Aside0 (i8_.j0 kq a1 l2 aA=some r)∧Aside0 (kq≤k)∧Aside0 (wc.heap[aU]? = some (.cells #[(.slice am ac.length an),(.slice ao ae.length ap)] 25 (0,0)))∧Aside0 (Below w.heap.size w wc))
 case first =>
  have H:=aY.out;clear aY;obtain⟨aK,A6,H⟩:=zbind H
  by_cases c7:aK=true
  ·subst c7
   rw [if_pos rfl] at H
   by_cases c8:a1<1
   ·rw [if_pos c8] at H
    have aC:=dT c8;clear c8
    (first|rw [aC]|(simp only [i64_w,i32_w];rw [aC])|skip)
    have H':=A0_ H;clear H;have bJ:=zc0 aa;have bK:=zc1 aa;have bL:=kF aa.out 0;have bM:=kF aa.out 1
    go_wp2_with (first|((with_reducible refine gC (f:=54) rfl ?_);refine zJ (some 10) Try.func54 #[.agg #[.slice am ac.length an,.slice ao ae.length ap]] ?_;(with_reducible refine(i6_.calls k (fun k_=>k_<w.heap.size) _ _ ac (fun k_=>k_<w.heap.size) _ _ ae true _ ?ag ?ah A6.out).mono ?_);(case ag=>exact Kd.V_mk ax.out (Kd.F_below (Kd.C_F (Kd.heap_int .i64) aw.out) (zB_ HB)));(case ah=>exact Kd.V_mk az.out (Kd.F_below (Kd.C_F (Kd.heap_int .i64) ay.out) (zB_ HB)));rintro e w10 ⟨rfl,hb⟩;refine⟨_,rfl,?_⟩;replace aa:=zK aa hb;replace HB:=zB HB hb;(try clear hb)))
    go_meet
    case rel=>exact⟨_,(true),zt,H',zo,⟨zK_ aa⟩,⟨zB_ HB⟩⟩
   rw [if_neg c8] at H;have aC:=dF c8;clear c8
   (first|rw [aC]|(simp only [i64_w,i32_w];rw [aC])|skip)
   by_cases aG:a1>6
   ·rw [if_pos aG] at H
    have a3:decide (6<a1)=true:=dT aG
    clear aG;have H':=A0_ H;clear H;have bg:=zc0 aa;have bh:=zc1 aa;have bi:=kF aa.out 0;have bj:=kF aa.out 1
    go_wp2_with (first|((with_reducible refine gC (f:=54) rfl ?_);refine zJ (some 10) Try.func54 #[.agg #[.slice am ac.length an,.slice ao ae.length ap]] ?_;(with_reducible refine(i6_.calls k (fun k_=>k_<w.heap.size) _ _ ac (fun k_=>k_<w.heap.size) _ _ ae true _ ?ag ?ah A6.out).mono ?_);(case ag=>exact Kd.V_mk ax.out (Kd.F_below (Kd.C_F (Kd.heap_int .i64) aw.out) (zB_ HB)));(case ah=>exact Kd.V_mk az.out (Kd.F_below (Kd.C_F (Kd.heap_int .i64) ay.out) (zB_ HB)));rintro e w13 ⟨rfl,hb⟩;refine⟨_,rfl,?_⟩;replace aa:=zK aa hb;replace HB:=zB HB hb;(try clear hb)))
    go_meet
    case rel=>exact⟨_,(true),zt,H',zo,⟨zK_ aa⟩,⟨zB_ HB⟩⟩
   rw [if_neg aG] at H
   have a3:decide (6<a1)=false:=dF aG
   clear aG
   by_cases aH:(wrap64 ((ac.length:Int)*a1))>12
   ·rw [if_pos aH] at H
    have a4:decide (12<(wrap64 ((ac.length:Int)*a1)))=true:=dT aH
    clear aH;have H':=A0_ H;clear H;have bk:=zc0 aa;have bl:=zc1 aa;have bm:=kF aa.out 0;have bn:=kF aa.out 1
    go_wp2_with (first|((with_reducible refine gC (f:=54) rfl ?_);refine zJ (some 10) Try.func54 #[.agg #[.slice am ac.length an,.slice ao ae.length ap]] ?_;(with_reducible refine(i6_.calls k (fun k_=>k_<w.heap.size) _ _ ac (fun k_=>k_<w.heap.size) _ _ ae true _ ?ag ?ah A6.out).mono ?_);(case ag=>exact Kd.V_mk ax.out (Kd.F_below (Kd.C_F (Kd.heap_int .i64) aw.out) (zB_ HB)));(case ah=>exact Kd.V_mk az.out (Kd.F_below (Kd.C_F (Kd.heap_int .i64) ay.out) (zB_ HB)));rintro e w16 ⟨rfl,hb⟩;refine⟨_,rfl,?_⟩;replace aa:=zK aa hb;replace HB:=zB HB hb;(try clear hb);have bo:=zc0 aa;have bp:=zc1 aa;have bq:=kF aa.out 0;have br:=kF aa.out 1))
    go_meet
    case rel=>exact⟨_,(true),zt,H',zo,⟨zK_ aa⟩,⟨zB_ HB⟩⟩
   rw [if_neg aH] at H
   have a4:decide (12<(wrap64 ((ac.length:Int)*a1)))=false:=dF aH
   clear aH;have H':=A0_ H;clear H;have bu:=zc0 aa;have bv:=zc1 aa;have bw:=kF aa.out 0;have bx:=kF aa.out 1
   go_wp2_with (first|((with_reducible refine gC (f:=54) rfl ?_);refine zJ (some 10) Try.func54 #[.agg #[.slice am ac.length an,.slice ao ae.length ap]] ?_;(with_reducible refine(i6_.calls k (fun k_=>k_<w.heap.size) _ _ ac (fun k_=>k_<w.heap.size) _ _ ae true _ ?ag ?ah A6.out).mono ?_);(case ag=>exact Kd.V_mk ax.out (Kd.F_below (Kd.C_F (Kd.heap_int .i64) aw.out) (zB_ HB)));(case ah=>exact Kd.V_mk az.out (Kd.F_below (Kd.C_F (Kd.heap_int .i64) ay.out) (zB_ HB)));rintro e w19 ⟨rfl,hb⟩;refine⟨_,rfl,?_⟩;replace aa:=zK aa hb;replace HB:=zB HB hb;(try clear hb);have bz:=zc0 aa;have bB:=zc1 aa;have bC:=kF aa.out 0;have bE:=kF aa.out 1))
   go_meet
   case rel=>exact⟨_,(((l2.length:Int) != (wrap64 ((ae.length:Int) / 2)))),zt,H',zo,⟨zK_ aa⟩,⟨zB_ HB⟩⟩
  replace c7:=Bool.eq_false_iff.mpr c7;subst c7
  rw [if_neg (show ¬ (false=true) by decide)] at H
  have H':=A0_ H;clear H;have bF:=zc0 aa;have bG:=zc1 aa;have bH:=kF aa.out 0;have bI:=kF aa.out 1
  go_wp2_with (first|((with_reducible refine gC (f:=54) rfl ?_);refine zJ (some 10) Try.func54 #[.agg #[.slice am ac.length an,.slice ao ae.length ap]] ?_;(with_reducible refine(i6_.calls k (fun k_=>k_<w.heap.size) _ _ ac (fun k_=>k_<w.heap.size) _ _ ae false _ ?ag ?ah A6.out).mono ?_);(case ag=>exact Kd.V_mk ax.out (Kd.F_below (Kd.C_F (Kd.heap_int .i64) aw.out) (zB_ HB)));(case ah=>exact Kd.V_mk az.out (Kd.F_below (Kd.C_F (Kd.heap_int .i64) ay.out) (zB_ HB)));rintro e w22 ⟨rfl,hb⟩;refine⟨_,rfl,?_⟩;replace aa:=zK aa hb;replace HB:=zB HB hb;(try clear hb)))
  go_meet
  case rel=>exact⟨_,(true),zt,H',zo,⟨zK_ aa⟩,⟨zB_ HB⟩⟩
 case rest =>
  clear aY;(try clear c2);obtain⟨kq,aA,rfl,HA,ba,aa,HB⟩:=hcut
  cases kq with
  | zero=>exact absurd HA.out (by simp [i8_.j0])
  | succ bb =>
   have H:=HA.out;clear HA;simp only [i8_.j0] at H
   by_cases aJ:aA=true
   ·subst aJ
    rw [if_pos rfl] at H;obtain rfl:=sI H
    go_wp2
    go_ret
    exact⟨by first|rfl|(simp [*] <;> rfl),zB_ HB⟩
   replace aJ:=Bool.eq_false_iff.mpr aJ;subst aJ
   rw [if_neg (show ¬ (false=true) by decide)] at H
   have H':=A0_ H;clear H
   go_wp2
   go_loopg [39] bb (fun kq v39 w' => ∃ (ab:Int),v39 = .int .i64 ab∧Aside0 (i8_.l0 kq a1 l2 (l2.length:Int) ab=some r)∧Aside0 (kq≤bb)∧Aside0 (w'.heap[aU]? = some (.cells #[(.slice am ac.length an),(.slice ao ae.length ap)] 25 (0,0)))∧Aside0 (Below w.heap.size w w'))
   case atStart=>exact⟨(0),zt,H',⟨Nat.le_refl _⟩,⟨zK_ aa⟩,⟨zB_ HB⟩⟩
   case round =>
    clear H';(try clear c2);(try clear aJ);obtain⟨ab,rfl,HA,bc,aa,HB⟩:=hrel
    cases gk with
    | zero=>exact absurd HA.out (by simp [i8_.l0])
    | succ k2 =>
     have H:=HA.out;clear HA;simp only [i8_.l0] at H
     by_cases aI:ab<(l2.length:Int)
     ·rw [if_pos aI] at H
      have a5:=dT aI;clear aI
      have bd:=zpc H;replace H:=zph H
      have bQ:=dT bd;clear bd
      have be:=zpc H;replace H:=zph H
      have bR:=dT be;clear be;obtain⟨bf,aZ,H⟩:=zbind H
      by_cases aV:bf=true
      ·subst aV
       rw [if_pos rfl] at H
       by_cases aD:((rd_L1 l2 ab).length:Int)=a1
       ·rw [if_pos aD] at H
        have a6:(((rd_L1 l2 ab).length:Int) == a1)=true:=beq_iff_eq.mpr aD
        have a7:(((rd_L1 l2 ab).length:Int) != a1)=false:=bne_eq_false_iff_eq.mpr aD
        clear aD;have H':=A0_ H;clear H
        have ak:0≤(ab:Int):=zd
        have al:ab<(l2.length:Int):=zd
        obtain⟨aW,au,av,aE,af,ai,aj⟩:=at_L1 aX.out ab ak al
        cases aE
        try replace af:=(HB.out.cell (wL w _ af)).trans af
        have aq:=A0_ aj;have ar:=A0_ ai;clear aj ai;replace ak:=eq_true ak;replace al:=eq_true al
        go_wp2_with (first|((with_reducible refine gC (f:=47) rfl ?_);refine zJ (some 44) Try.func47 #[.slice au (rd_L1 l2 ab).length av] ?_;(with_reducible refine(i7_.calls _ _ (rd_L1 l2 ab) true _ ?ag ?ah aZ.out).mono ?_);(case ag=>exact zC aq HB);(case ah=>exact ar.out);rintro e w30 ⟨rfl,hb⟩;refine⟨_,rfl,?_⟩;replace aa:=zK aa hb;replace HB:=zB HB hb;(try clear hb)))
        go_roundg k2
        case measure=>have:=ba.out;have:=bc.out;omega
        case rel=>exact⟨(wrap64 (ab+1)),zt,H',⟨by have:=ba.out;have:=bc.out;omega⟩,⟨zK_ aa⟩,⟨zB_ HB⟩⟩
       rw [if_neg aD] at H
       have a6:(((rd_L1 l2 ab).length:Int) == a1)=false:=beq_eq_false_iff_ne.mpr aD
       have a7:(((rd_L1 l2 ab).length:Int) != a1)=true:=bne_iff_ne.mpr aD
       obtain rfl:=sI H
       have ak:0≤(ab:Int):=zd
       have al:ab<(l2.length:Int):=zd
       obtain⟨aW,au,av,aE,af,ai,aj⟩:=at_L1 aX.out ab ak al
       cases aE
       try replace af:=(HB.out.cell (wL w _ af)).trans af
       have aq:=A0_ aj;have ar:=A0_ ai;clear aj ai;replace ak:=eq_true ak;replace al:=eq_true al
       go_wp2_with (first|((with_reducible refine gC (f:=47) rfl ?_);refine zJ (some 44) Try.func47 #[.slice au (rd_L1 l2 ab).length av] ?_;(with_reducible refine(i7_.calls _ _ (rd_L1 l2 ab) true _ ?ag ?ah aZ.out).mono ?_);(case ag=>exact zC aq HB);(case ah=>exact ar.out);rintro e w31 ⟨rfl,hb⟩;refine⟨_,rfl,?_⟩;replace aa:=zK aa hb;replace HB:=zB HB hb;(try clear hb)))
       go_ret
       exact⟨by first|rfl|(simp [*] <;> rfl),zB_ HB⟩
      replace aV:=Bool.eq_false_iff.mpr aV;subst aV
      rw [if_neg (show ¬ (false=true) by decide)] at H
      obtain rfl:=sI H
      have ak:0≤(ab:Int):=zd
      have al:ab<(l2.length:Int):=zd
      obtain⟨aW,au,av,aE,af,ai,aj⟩:=at_L1 aX.out ab ak al
      cases aE
      try replace af:=(HB.out.cell (wL w _ af)).trans af
      have aq:=A0_ aj;have ar:=A0_ ai;clear aj ai;replace ak:=eq_true ak;replace al:=eq_true al
      go_wp2_with (first|((with_reducible refine gC (f:=47) rfl ?_);refine zJ (some 44) Try.func47 #[.slice au (rd_L1 l2 ab).length av] ?_;(with_reducible refine(i7_.calls _ _ (rd_L1 l2 ab) false _ ?ag ?ah aZ.out).mono ?_);(case ag=>exact zC aq HB);(case ah=>exact ar.out);rintro e w32 ⟨rfl,hb⟩;refine⟨_,rfl,?_⟩;replace aa:=zK aa hb;replace HB:=zB HB hb;(try clear hb)))
      go_ret
      exact⟨by first|rfl|(simp [*] <;> rfl),zB_ HB⟩
     rw [if_neg aI] at H;have a5:=dF aI;clear aI;obtain rfl:=sI H
     go_wp2
     go_ret
     exact⟨by first|rfl|(simp [*] <;> rfl),zB_ HB⟩
mutual
def if_.l0:Nat→List Int→List (List Int)→List Bool→Int→Int→Option ((List (List Int)))
  | 0,_,_,_,_,_=>none
  | k+1,x0,x3,x4,ab,aa=>if aa<ab then (if_.l1 k x0 x3 x4 (([]:List Int)) aa ab aa) else (some x3)
def if_.l1:Nat→List Int→List (List Int)→List Bool→List Int→Int→Int→Int→Option ((List (List Int)))
  | 0,_,_,_,_,_,_,_=>none
  | k+1,x0,x3,x4,x6,x7,aa,ab=>if 0≤x7 then (if x7<(x4.length:Int) then (if rdOf false x4 x7=true then (if (x6.length:Int)>0 then (if x3.length<5864062014805 then (if_.l0 k x0 (x3 ++ [x6]) x4 aa (wrap64 (ab+1))) else (none)) else (if_.l0 k x0 x3 x4 aa (wrap64 (ab+1)))) else (if x6.length<17592186044416 then (if x7<(x0.length:Int) then (if_.l1 k x0 x3 (x4.set (x7:Int).toNat true) (x6 ++ [x7]) (rd x0 x7) aa ab) else (none)) else (none))) else (none)) else (none)
end
def if_.f (k:Nat) (l0:List Int):Option ((List (List Int))):=if 0≤(l0.length:Int) then (if ((l0.length:Int):Int).toNat≤281474976710656 then (if_.l0 k l0 (([]:List (List Int))) (List.replicate ((l0.length:Int):Int).toNat false) (l0.length:Int) 0) else (none)) else (none)
theorem if_.calls (k:Nat) (A0:Option Addr) (c0:Nat) (l0:List Int) (r:List (List Int)) (w:World) (bq:Kd.C (Kd.int .i64) w A0 l0.length l0) (br:l0.length≤c0) (h:if_.f k l0=some r) :
    Calls Try.prog 68 #[.slice A0 l0.length c0] w fun e w' => ∃ v0_:Value,e = .returned (v0_)∧Kd.S (Kd.slice 3 (Kd.int .i64)) 23 w' w.heap.size (fun _=>True) v0_ r∧Below w.heap.size w w':=by
 have bI:=A0_ bq;have b7:=A0_ br;clear bq br
 have HB:=A0_ (Below.refl w.heap.size w)
 have H:(if 0≤(l0.length:Int) then (if ((l0.length:Int):Int).toNat≤281474976710656 then (if_.l0 k l0 (([]:List (List Int))) (List.replicate ((l0.length:Int):Int).toNat false) (l0.length:Int) 0) else (none)) else (none))=some r:=h
 clear h
 obtain⟨aI,aw⟩ : ∃ y_:List (List Int),y_=(([]:List (List Int))):=⟨_,rfl⟩
 replace H:(if 0≤(l0.length:Int) then (if ((l0.length:Int):Int).toNat≤281474976710656 then (if_.l0 k l0 aI (List.replicate ((l0.length:Int):Int).toNat false) (l0.length:Int) 0) else (none)) else (none))=some r:=zH aw H
 have aN:=A0_ aw;clear aw
 have c2:=zpc H;replace H:=zph H
 have aW:=eq_true c2;have aX:=dT c2;clear c2
 have c3:=zpc H;replace H:=zph H
 have aY:=eq_true c3;have aZ:=dT c3;clear c3
 obtain⟨a3,ax⟩ : ∃ y_:List Bool,y_=(List.replicate ((l0.length:Int):Int).toNat false):=⟨_,rfl⟩
 replace H:(if_.l0 k l0 aI a3 (l0.length:Int) 0)=some r:=zH ax H
 have aQ:=A0_ ax;clear ax;have H':=A0_ H;clear H
 go_enter Try.func68,Try.ntmps68
 go_wp2_with (first|((with_reducible refine gD (N:=8) rfl ?_);refine Kd.S_lit (Kd.slice 3 (Kd.int .i64)) _ 23 ?hg (N:=8) ?hd (xs:=([]:List (List Int))) (inner := []) (ok:=fun _=>True) (okp:=fun _=>True) ?hr ?hp (fun _ hk=>hk) trivial (Below.refl _ _) (Nat.le_refl _) (by simp) ?_;(case hd=>rfl);(case hg=>rfl);(case hr=>first|(go_simp;done)|(go_simp;rfl));(case hp=>exact(Reps.none _ _));intro bQ w4 aG hb hg_ hnew_;clear hg_ hnew_;(first|rw [← aN.out] at aG|(simp only [Int.reduceToNat] at aG;rw [← aN.out] at aG));have ay:=A0_ (Kd.S_lower aG (bZ (zB_ HB)));replace HB:=zB HB hb;clear hb aG)|((with_reducible refine gD (N:=11) rfl ?_);refine Kd.R_make Kd.bool _ 4 rfl (N:=11) rfl 60 _ _ rfl (l0.length:Int) rfl rfl Try.underlying60 (.bool false) 1 info4 rfl (by decide) (by omega) false (ok:=fun _=>True) (okp:=fun _=>True) rfl (fun _ hk=>hk) trivial (zd) (Nat.le_trans (Nat.mul_le_mul_right _ (zd:(l0.length:Int).toNat≤281474976710656)) (by omega)) (Below.refl _ _) (Nat.le_refl _) ?_;intro a4 w6 aH hb hg_ hnew_;clear hg_ hnew_;(first|rw [← aQ.out] at aH|(simp only [Int.reduceToNat] at aH;rw [← aQ.out] at aH));replace ay:=zS ay hb;have bf:=A0_ (rL aH (bZ (zB_ HB)));replace HB:=zB HB hb;clear hb aH))
 go_loopg [3,14] k (fun kq v3 v14 w' => ∃ (ah:List (List Int)) (ao:List Bool) (ac:Int),v14 = .int .i64 ac∧Aside0 (if_.l0 kq l0 ah ao (l0.length:Int) ac=some r)∧Aside0 (kq≤k)∧Aside0 (Kd.S (Kd.slice 3 (Kd.int .i64)) 23 w' w.heap.size (fun _=>True) v3 ah)∧Aside0 (Kd.R Kd.bool 4 w' w.heap.size (fun _=>True) a4 ao)∧Aside0 (Below w.heap.size w w'))
 case atStart=>exact⟨(aI),(a3),(0),zt,H',⟨Nat.le_refl _⟩,⟨zS_ ay⟩,⟨zR_ bf⟩,⟨zB_ HB⟩⟩
 case round =>
  clear H';(try clear c2);(try clear aW);(try clear aX);(try clear c3);(try clear aY);(try clear aZ);obtain⟨ah,ao,ac,rfl,HA,ar,ag,ab,HB⟩:=hrel
  cases gk with
  | zero=>exact absurd HA.out (by simp [if_.l0])
  | succ k1 =>
   have H:=HA.out;clear HA;simp only [if_.l0] at H
   by_cases c8:ac<(l0.length:Int)
   ·rw [if_pos c8] at H
    have a5:=dT c8;clear c8
    obtain⟨a6,az⟩ : ∃ y_:List Int,y_=(([]:List Int)):=⟨_,rfl⟩
    replace H:(if_.l1 k1 l0 ah ao a6 ac (l0.length:Int) ac)=some r:=zH az H
    have aT:=A0_ az;clear az;have H':=A0_ H;clear H
    go_wp2_with (first|((with_reducible refine gD (N:=17) rfl ?_);refine Kd.R_lit (Kd.int .i64) _ 3 ?hg (N:=17) ?hd (xs:=([]:List Int)) (inner := []) (ok:=fun _=>True) (okp:=fun _=>True) ?hr ?hp (fun _ hk=>hk) trivial (Below.refl _ _) (Nat.le_refl _) (by simp) ?_;(case hd=>rfl);(case hg=>rfl);(case hr=>first|(go_simp;done)|(go_simp;rfl));(case hp=>exact(Reps.none _ _));intro bR w9 am hb hg_ hnew_;clear hg_ hnew_;(first|rw [← aT.out] at am|(simp only [Int.reduceToNat] at am;rw [← aT.out] at am));replace ag:=A0_ (Kd.S_elder' (zS_ ag) (Kd.R_base am) hb);replace ab:=zR ab hb;have bg:=A0_ (rL am (bZ (zB_ HB)));replace HB:=zB HB hb;clear hb am))
    go_loopg [6,7] k1 (fun kq v6 v7 w' => ∃ (af:List Bool) (ae:List Int) (aa:Int),v7 = .int .i64 aa∧Aside0 (if_.l1 kq l0 ah af ae aa (l0.length:Int) ac=some r)∧Aside0 (kq≤k1)∧Aside0 (Kd.S (Kd.slice 3 (Kd.int .i64)) 23 w' w.heap.size (fun k_=>some k_≠(v6:Value).ownBlock) u3 ah)∧Aside0 (Kd.R Kd.bool 4 w' w.heap.size (fun _=>True) a4 af)∧Aside0 (Kd.R (Kd.int .i64) 3 w' w.heap.size (fun _=>True) v6 ae)∧Aside0 (Below w.heap.size w w'))
    case atStart=>exact⟨(ao),(a6),(ac),zt,H',⟨Nat.le_refl _⟩,⟨zmS ag (fun _ hk=>hk.2)⟩,⟨zR_ ab⟩,⟨zR_ bg⟩,⟨zB_ HB⟩⟩
    case round =>
     clear H';(try clear c2);(try clear aW);(try clear aX);(try clear c3);(try clear aY);(try clear aZ);(try clear c8);(try clear a5);obtain⟨af,ae,aa,rfl,HA,au,ag,ab,al,HB⟩:=hrel
     cases gk with
     | zero=>exact absurd HA.out (by simp [if_.l1])
     | succ k2 =>
      have H:=HA.out;clear HA;simp only [if_.l1] at H
      have bu:=zpc H;replace H:=zph H
      have bL:=dT bu;clear bu
      have bv:=zpc H;replace H:=zph H
      have bM:=dT bv;clear bv
      obtain⟨bq13,hbq13⟩ : ∃ b_:Bool,b_=(rdOf false af aa):=⟨_,rfl⟩
      replace H:(if bq13=true then (if (ae.length:Int)>0 then (if ah.length<5864062014805 then (if_.l0 k2 l0 (ah ++ [ae]) af (l0.length:Int) (wrap64 (ac+1))) else (none)) else (if_.l0 k2 l0 ah af (l0.length:Int) (wrap64 (ac+1)))) else (if ae.length<17592186044416 then (if aa<(l0.length:Int) then (if_.l1 k2 l0 ah (af.set (aa:Int).toNat true) (ae ++ [aa]) (rd l0 aa) (l0.length:Int) ac) else (none)) else (none)))=some r:=by rw [← hbq13] at H;exact H
      have Nbq13:=A0_ hbq13;clear hbq13
      by_cases aU:bq13=true
      ·subst aU
       rw [if_pos rfl] at H
       by_cases av:(ae.length:Int)>0
       ·rw [if_pos av] at H
        have bh:decide (0<(ae.length:Int))=true:=dT av
        have bi:decide (0<ae.length)=true:=dT (by omega)
        clear av
        have bw:=zpc H;replace H:=zph H
        have bj:=A0_ bw;clear bw
        obtain⟨a7,aA⟩ : ∃ y_:List (List Int),y_=(ah ++ [ae]):=⟨_,rfl⟩
        replace H:(if_.l0 k2 l0 a7 af (l0.length:Int) (wrap64 (ac+1)))=some r:=zH aA H
        have bk:=A0_ aA;clear aA;have H':=A0_ H;clear H;obtain⟨bU,bV,bB⟩:=rS ab.out;subst bB
        have aj:0≤(aa:Int):=zd
        have ak:aa<(af.length:Int):=zd
        obtain⟨aV,ap,ai⟩:=Kd.at_bool (rR ab.out).2.2 aa aj ak
        (try rw [← Nbq13.out] at ai)
        cases ap
        replace aj:=eq_true aj;replace ak:=eq_true ak;obtain⟨a8,a9,bC⟩:=rS al.out;subst bC
        go_wp2_with (first|((with_reducible refine gB (b := .append) (xs := #[.tmp 38,.tmp 40]) rfl ?_);at_builtin;refine Kd.S_append (Kd.slice 3 (Kd.int .i64)) (w0:=w) w.heap.size rfl (.tmp 38) (.tmp 40) 26 23 (.slice none 0 0) 24 rfl Try.underlying26 info23 rfl (by decide) (by omega) u3 ah ae [.slice a8 ae.length a9] (fun _=>True) (fun k_=>some k_=(.slice a8 ae.length a9:Value).ownBlock) rfl rfl ?aP (fun k_ hk_=>((rM (ok':=fun k_=>((fun _=>True)) k_∧some k_≠(u3:Value).ownBlock) (Kd.R_apart' (al.out) (Kd.S_typed ag.out) (by decide)) (fun k_ hk=>⟨trivial,hk.2⟩))).1 k_ hk_.symm) ?aF ?aO ?aB ?aS ?aL ?_;(case aP=>exact Kd.M_row (rM (Kd.R_tight rfl (rM (ok':=fun k_=>((fun _=>True)) k_∧some k_≠(u3:Value).ownBlock) (Kd.R_apart' (al.out) (Kd.S_typed ag.out) (by decide)) (fun k_ hk=>⟨trivial,hk.2⟩))) (fun _ h_=>h_)));(case aB=>exact(zB_ HB));(case aF=>exact(fun _ _=>trivial));(case aO=>exact(zmS ag (fun k_ hk=>⟨trivial,fun e_=>hk e_⟩)));(case aS=>exact(bZ (zB_ HB)));(case aL=>have:=bj.out;omega);intro bW w19 ho hb hg hat;rw [← bk.out] at ho;replace ab:=A0_ (Kd.R_over' (zR_ ab) (Kd.S_typed (zS_ ag)) (by decide) hg);replace HB:=A0_ (hb);have bl:=A0_ (ho);clear ag al ho hb hg hat))
        go_roundg k2
        case measure=>have:=ar.out;have:=au.out;omega
        case rel=>exact⟨(a7),(af),(wrap64 (ac+1)),zt,H',⟨by have:=ar.out;have:=au.out;omega⟩,⟨zS_ bl⟩,⟨zR_ ab⟩,⟨zB_ HB⟩⟩
       rw [if_neg av] at H
       have bh:decide (0<(ae.length:Int))=false:=dF av
       have bi:decide (0<ae.length)=false:=dF (by omega)
       clear av;have H':=A0_ H;clear H;obtain⟨bX,bY,bE⟩:=rS ab.out;subst bE
       have aj:0≤(aa:Int):=zd
       have ak:aa<(af.length:Int):=zd
       obtain⟨aV,ap,ai⟩:=Kd.at_bool (rR ab.out).2.2 aa aj ak
       (try rw [← Nbq13.out] at ai)
       cases ap
       replace aj:=eq_true aj;replace ak:=eq_true ak;obtain⟨b2,b3,bF⟩:=rS al.out;subst bF
       go_wp2
       go_roundg k2
       case measure=>have:=ar.out;have:=au.out;omega
       case rel=>exact⟨(ah),(af),(wrap64 (ac+1)),zt,H',⟨by have:=ar.out;have:=au.out;omega⟩,⟨zmS ag (fun _ hk=>trivial)⟩,⟨zR_ ab⟩,⟨zB_ HB⟩⟩
      replace aU:=Bool.eq_false_iff.mpr aU;subst aU
      rw [if_neg (show ¬ (false=true) by decide)] at H
      obtain⟨aC,aD⟩ : ∃ y_:List Bool,y_=(af.set (aa:Int).toNat true):=⟨_,rfl⟩
      replace H:(if ae.length<17592186044416 then (if aa<(l0.length:Int) then (if_.l1 k2 l0 ah aC (ae ++ [aa]) (rd l0 aa) (l0.length:Int) ac) else (none)) else (none))=some r:=zH aD H
      have bm:=A0_ aD;clear aD
      have bx:=zpc H;replace H:=zph H
      have bn:=A0_ bx;clear bx
      obtain⟨ba,aE⟩ : ∃ y_:List Int,y_=(ae ++ [aa]):=⟨_,rfl⟩
      replace H:(if aa<(l0.length:Int) then (if_.l1 k2 l0 ah aC ba (rd l0 aa) (l0.length:Int) ac) else (none))=some r:=zH aE H
      have bo:=A0_ aE;clear aE
      have bz:=zpc H;replace H:=zph H
      have bO:=dT bz;clear bz;have H':=A0_ H;clear H;obtain⟨b4,aJ,bG⟩:=rS ab.out;subst bG
      have aj:0≤(aa:Int):=zd
      have ak:aa<(af.length:Int):=zd
      obtain⟨aV,ap,ai⟩:=Kd.at_bool (rR ab.out).2.2 aa aj ak
      (try rw [← Nbq13.out] at ai)
      cases ap
      replace aj:=eq_true aj;replace ak:=eq_true ak
      have bb:0≤(aa:Int):=zd
      have bc:(aa:Int)<((af.length:Int):Int):=zd
      obtain⟨aq,b5,bd,be,gl22,cl22,HG22⟩:=Kd.R_form ab.out (by omega)
      (first|cases bd|(injection bd with ea_ en_ ec_;(first|subst ea_|(injection ea_ with ea_;subst ea_));subst ec_;clear en_))
      have GB22:=A0_ be;have GG22:=A0_ HG22;clear be gl22 HG22
      (first|simp only [add_plain] at ai|skip)
      obtain⟨bJ,bK⟩:=Kd.R_celln false ab.out (aa:Int) bb bc
      replace bb:=eq_true bb;replace bc:=eq_true bc
      have HP26:=Kd.R_putg ab.out (aa:Int) true
      go_wp2_with (first|((with_reducible refine gS (t:=4) (p:=30) rfl ?_);refine store_event (t:=4) (p:=30) (v := ?vo_w27) (w1:=(wr.setCell ⟨aq,(aa:Int).toNat,none⟩ (.bool true))) ?hg ?ho ?hn ?hr ?_;(case ho=>rfl);(case hg=>rfl);(case hn=>rfl);(case hr=>first|(go_simp;done)|(go_simp;rfl));intro w27 hw;have hg:wr.grownBy w27 (some aq):=(by rw [hw];exact HP26.2);have hp_:Kd.R Kd.bool 4 w27 w.heap.size (fun _=>True) (.slice (some ⟨aq,0,none⟩) af.length aJ) aC:=(by rw [hw,bm.out];exact HP26.1);clear HP26;replace ag:=A0_ (Kd.S_over' (v:=(.slice (some ⟨aq,0,none⟩) af.length aJ)) (zS_ ag) (Kd.R_typed ab.out) (by decide) hg);replace al:=A0_ (Kd.R_over' (v:=(.slice (some ⟨aq,0,none⟩) af.length aJ)) (zR_ al) (Kd.R_typed ab.out) (by decide) hg);replace ab:=A0_ (hp_);replace HB:=A0_ ((by rw [hw];exact bS (HB.out) GB22.out:Below w.heap.size w w27));clear hg hw hp_)|((with_reducible refine gB (b := .append) (xs := #[.tmp 31,.tmp 33]) rfl ?_);at_builtin;refine Kd.R_append (Kd.int .i64) (w0:=w) w.heap.size rfl (.tmp 31) (.tmp 33) 23 3 (.int .i64 0) 8 rfl Try.underlying23 info3 rfl (by decide) (by omega) u6 ae aa [.int .i64 aa] (fun _=>True) (fun _=>False) rfl rfl ?aP (fun _ hk=>hk.elim) ?aF ?aO ?aB ?aS ?aL ?_;(case aP=>exact rfl);(case aB=>exact(zB_ HB));(case aF=>exact(fun _ _=>trivial));(case aO=>exact(zR_ al));(case aS=>exact(bZ (zB_ HB)));(case aL=>have:=bn.out;omega);intro b6 w28 ho hb hg hat;rw [← bo.out] at ho;replace ag:=A0_ (Kd.S_after (ok:=(fun _=>True)) (zmS ag (fun _ hk=>⟨trivial,hk⟩)) hg hat);replace ab:=A0_ (Kd.R_over' (zR_ ab) (Kd.R_typed (zR_ al)) (by decide) hg);replace HB:=A0_ (hb);have bp:=A0_ (ho);clear al ho hb hg hat;have aK:0≤(aa:Int):=zd;have aM:aa<(l0.length:Int):=zd;obtain⟨bP,bH,an⟩:=tI bI.out aa aK aM;cases bH;try replace an:=(HB.out.cell (wL w _ an)).trans an;replace aK:=eq_true aK;replace aM:=eq_true aM))
      go_roundg k2
      case measure=>have:=ar.out;have:=au.out;omega
      case rel=>exact⟨(aC),(ba),(rd l0 aa),zt,H',⟨by have:=ar.out;have:=au.out;omega⟩,⟨zmS ag (fun _ hk=>hk.2)⟩,⟨zR_ ab⟩,⟨zR_ bp⟩,⟨zB_ HB⟩⟩
   rw [if_neg c8] at H;have a5:=dF c8;clear c8;obtain rfl:=sI H
   go_wp2
   go_ret
   exact⟨_,by first|rfl|(simp [*] <;> rfl),zS_ ag,zB_ HB⟩
end Go.Proofs.Ytmegggomhjgehaa.PFnCoverTree
