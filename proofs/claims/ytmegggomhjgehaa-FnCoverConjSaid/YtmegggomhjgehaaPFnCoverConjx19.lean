import Derived.Test.YtmegggomhjgehaaPFnCoverConjx18
namespace Go.Proofs.Ytmegggomhjgehaa.PFnCoverConj
open Go.RowKit Go.Proofs.YtmegggomhjgehaaW.PrintWords Go.Proofs.YtmegggomhjgehaaW.PrintLast Go.Proofs.YtmegggomhjgehaaW.PrintMore
set_option maxHeartbeats 8000000
set_option maxRecDepth 100000
attribute [local go_sem] max2_int min2_int max_two min_two max_three min_three max_four min_four
def i5_.j0:Nat→Bool→List Int→List Int→List Int→List Int→Option (Bool)
  | 0,_,_,_,_,_=>none
  | k+1,ai,ac,ae,af,ag=>if ai=true then (some false) else ((ii_.f k ac ae).bind fun aa=>((ii_.f k af ag).bind fun ab=>((ic_.f k aa.1 aa.2 ab.1 ab.2).bind fun ah=>(some (ah == 0)))))
def i5_.f (k:Nat) (aa:List Int) (ac:List Int) (ab:List Int) (ae:List Int):Option (Bool):=(i6_.f k aa ac).bind fun af=>(if af=true then ((i6_.f k ab ae).bind fun ag=>(if ag=true then (i5_.j0 k ((aa.length:Int) != (ab.length:Int)) aa ac ab ae) else (i5_.j0 k true aa ac ab ae))) else (i5_.j0 k true aa ac ab ae))
theorem i5_.calls (k:Nat) (al:Option Addr) (am:Nat) (ac:List Int) (an:Option Addr) (ao:Nat) (ae:List Int) (ax:Option Addr) (ay:Nat) (af:List Int) (az:Option Addr) (aA:Nat) (ai:List Int) (r:Bool) (w:World) (a5:Kd.C (Kd.int .i64) w al ac.length ac) (a6:ac.length≤am) (a7:Kd.C (Kd.int .i64) w an ae.length ae) (a8:ae.length≤ao) (a9:Kd.C (Kd.int .i64) w ax af.length af) (ba:af.length≤ay) (bb:Kd.C (Kd.int .i64) w az ai.length ai) (bc:ai.length≤aA) (h:i5_.f k ac ae af ai=some r) :
    Calls Try.prog 35 #[.agg #[.slice al ac.length am,.slice an ae.length ao],.agg #[.slice ax af.length ay,.slice az ai.length aA]] w fun e w'=>e = .returned (.bool r)∧Below w.heap.size w w':=by
 have cn:=Try.underlying25;have aC:=A0_ a5;have aD:=A0_ a6;clear a5 a6;have aE:=A0_ a7;have aG:=A0_ a8;clear a7 a8;have aK:=A0_ a9;have aM:=A0_ ba;clear a9 ba;have aN:=A0_ bb;have aQ:=A0_ bc;clear bb bc
 have HB:=A0_ (Below.refl w.heap.size w)
 have H:((i6_.f k ac ae).bind fun aV=>(if aV=true then ((i6_.f k af ai).bind fun aW=>(if aW=true then (i5_.j0 k ((ac.length:Int) != (af.length:Int)) ac ae af ai) else (i5_.j0 k true ac ae af ai))) else (i5_.j0 k true ac ae af ai)))=some r:=h
 clear h;have be:=A0_ H;clear H
 go_enter Try.func35,Try.ntmps35
 go_upto_region 1 with(first|((with_reducible refine gD (N:=2) rfl ?_);refine zX (N:=2) (cs := #[.slice al ac.length am,.slice an ae.length ao]) (t:=25) ?_;intro aT hg w4 hbox hb;have aa:=A0_ (hbox);have cd:=zG hg HB;have ce:=zG hg HB;replace HB:=zB HB hb;clear hb hbox hg)|((with_reducible refine gD (N:=3) rfl ?_);refine zX (N:=3) (cs := #[.slice ax af.length ay,.slice az ai.length aA]) (t:=25) ?_;intro aU hg w5 hbox hb;have ab:=A0_ (hbox);have cf:=zG hg HB;have cg:=zG hg HB;replace HB:=zB HB hb;have ap:=zL hg aa;have aq:=zM hg aa;replace aa:=zK aa hb;clear hb hbox hg))
 (try simp only [Act.put,List.setIfInBounds_toArray,List.set_cons_zero,List.set_cons_succ])
 go_cut [21] (fun v21 wc => ∃ (kq:Nat) (aH:Bool),v21 = .bool aH∧Aside0 (i5_.j0 kq aH ac ae af ai=some r)∧Aside0 (kq≤k)∧Aside0 (wc.heap[aT]? = some (.cells #[(.slice al ac.length am),(.slice an ae.length ao)] 25 (0,0)))∧Aside0 (wc.heap[aU]? = some (.cells #[(.slice ax af.length ay),(.slice az ai.length aA)] 25 (0,0)))∧Aside0 (Below w.heap.size w wc))
 case first =>
  have H:=be.out;clear be;obtain⟨aV,A6,H⟩:=zbind H
  by_cases c7:aV=true
  ·subst c7
   rw [if_pos rfl] at H;obtain⟨aW,A8,H⟩:=zbind H
   by_cases c9:aW=true
   ·subst c9
    rw [if_pos rfl] at H;have H':=A0_ H;clear H;have ch:=ap.out;have ci:=aq.out;have bB:=zc0 aa;have bC:=zc1 aa;have bE:=kF aa.out 0;have bF:=kF aa.out 1
    go_wp2_with (first|((with_reducible refine gC (f:=54) rfl ?_);refine zJ (some 6) Try.func54 #[.agg #[.slice al ac.length am,.slice an ae.length ao]] ?_;(with_reducible refine(i6_.calls k (fun k_=>k_<w.heap.size) _ _ ac (fun k_=>k_<w.heap.size) _ _ ae true _ ?ag ?ah A6.out).mono ?_);(case ag=>exact Kd.V_mk aD.out (Kd.F_below (Kd.C_F (Kd.heap_int .i64) aC.out) (zB_ HB)));(case ah=>exact Kd.V_mk aG.out (Kd.F_below (Kd.C_F (Kd.heap_int .i64) aE.out) (zB_ HB)));rintro e w12 ⟨rfl,hb⟩;refine⟨_,rfl,?_⟩;replace aa:=zK aa hb;replace ab:=zK ab hb;replace HB:=zB HB hb;(try clear hb);have bG:=zc0 ab;have bH:=zc1 ab;have bI:=kF ab.out 0;have bJ:=kF ab.out 1)|(go_at_call 54;(with_reducible refine(i6_.calls k (fun k_=>k_<w.heap.size) _ _ af (fun k_=>k_<w.heap.size) _ _ ai true _ ?ag ?ah A8.out).mono ?_);(case ag=>exact Kd.V_mk aM.out (Kd.F_below (Kd.C_F (Kd.heap_int .i64) aK.out) (zB_ HB)));(case ah=>exact Kd.V_mk aQ.out (Kd.F_below (Kd.C_F (Kd.heap_int .i64) aN.out) (zB_ HB)));rintro e w14 ⟨rfl,hb⟩;replace aa:=zK aa hb;replace ab:=zK ab hb;replace HB:=zB HB hb;(try clear hb);have bK:=zc0 aa;have bL:=zc1 aa;have bM:=kF aa.out 0;have bO:=kF aa.out 1;have bP:=zc0 ab;have bQ:=zc1 ab;have bR:=kF ab.out 0;have bU:=kF ab.out 1))
    go_meet
    case rel=>exact⟨_,(((ac.length:Int) != (af.length:Int))),zt,H',zo,⟨zK_ aa⟩,⟨zK_ ab⟩,⟨zB_ HB⟩⟩
   replace c9:=Bool.eq_false_iff.mpr c9;subst c9
   rw [if_neg (show ¬ (false=true) by decide)] at H
   have H':=A0_ H;clear H;have cj:=ap.out;have ck:=aq.out;have bV:=zc0 aa;have bW:=zc1 aa;have bX:=kF aa.out 0;have bY:=kF aa.out 1
   go_wp2_with (first|((with_reducible refine gC (f:=54) rfl ?_);refine zJ (some 6) Try.func54 #[.agg #[.slice al ac.length am,.slice an ae.length ao]] ?_;(with_reducible refine(i6_.calls k (fun k_=>k_<w.heap.size) _ _ ac (fun k_=>k_<w.heap.size) _ _ ae true _ ?ag ?ah A6.out).mono ?_);(case ag=>exact Kd.V_mk aD.out (Kd.F_below (Kd.C_F (Kd.heap_int .i64) aC.out) (zB_ HB)));(case ah=>exact Kd.V_mk aG.out (Kd.F_below (Kd.C_F (Kd.heap_int .i64) aE.out) (zB_ HB)));rintro e w19 ⟨rfl,hb⟩;refine⟨_,rfl,?_⟩;replace aa:=zK aa hb;replace ab:=zK ab hb;replace HB:=zB HB hb;(try clear hb);have b2:=zc0 ab;have b3:=zc1 ab;have b4:=kF ab.out 0;have b5:=kF ab.out 1)|(go_at_call 54;(with_reducible refine(i6_.calls k (fun k_=>k_<w.heap.size) _ _ af (fun k_=>k_<w.heap.size) _ _ ai false _ ?ag ?ah A8.out).mono ?_);(case ag=>exact Kd.V_mk aM.out (Kd.F_below (Kd.C_F (Kd.heap_int .i64) aK.out) (zB_ HB)));(case ah=>exact Kd.V_mk aQ.out (Kd.F_below (Kd.C_F (Kd.heap_int .i64) aN.out) (zB_ HB)));rintro e w21 ⟨rfl,hb⟩;replace aa:=zK aa hb;replace ab:=zK ab hb;replace HB:=zB HB hb;(try clear hb)))
   go_meet
   case rel=>exact⟨_,(true),zt,H',zo,⟨zK_ aa⟩,⟨zK_ ab⟩,⟨zB_ HB⟩⟩
  replace c7:=Bool.eq_false_iff.mpr c7;subst c7
  rw [if_neg (show ¬ (false=true) by decide)] at H
  have H':=A0_ H;clear H;have cl:=ap.out;have cm:=aq.out;have b6:=zc0 aa;have b7:=zc1 aa;have b8:=kF aa.out 0;have b9:=kF aa.out 1
  go_wp2_with (first|((with_reducible refine gC (f:=54) rfl ?_);refine zJ (some 6) Try.func54 #[.agg #[.slice al ac.length am,.slice an ae.length ao]] ?_;(with_reducible refine(i6_.calls k (fun k_=>k_<w.heap.size) _ _ ac (fun k_=>k_<w.heap.size) _ _ ae false _ ?ag ?ah A6.out).mono ?_);(case ag=>exact Kd.V_mk aD.out (Kd.F_below (Kd.C_F (Kd.heap_int .i64) aC.out) (zB_ HB)));(case ah=>exact Kd.V_mk aG.out (Kd.F_below (Kd.C_F (Kd.heap_int .i64) aE.out) (zB_ HB)));rintro e w24 ⟨rfl,hb⟩;refine⟨_,rfl,?_⟩;replace aa:=zK aa hb;replace ab:=zK ab hb;replace HB:=zB HB hb;(try clear hb)))
  go_meet
  case rel=>exact⟨_,(true),zt,H',zo,⟨zK_ aa⟩,⟨zK_ ab⟩,⟨zB_ HB⟩⟩
 case rest =>
  clear be;obtain⟨kq,aH,rfl,HA,ct,aa,ab,HB⟩:=hcut
  cases kq with
  | zero=>exact absurd HA.out (by simp [i5_.j0])
  | succ bf =>
   have H:=HA.out;clear HA;simp only [i5_.j0] at H
   by_cases bd:aH=true
   ·subst bd
    rw [if_pos rfl] at H;obtain rfl:=sI H
    go_wp2
    go_ret
    exact⟨by first|rfl|(simp [*] <;> rfl),zB_ HB⟩
   replace bd:=Bool.eq_false_iff.mpr bd;subst bd
   rw [if_neg (show ¬ (false=true) by decide)] at H
   obtain⟨⟨aX,aY⟩,ca,H⟩:=zbind H;dsimp only at H;obtain⟨⟨aZ,a4⟩,cb,H⟩:=zbind H;dsimp only at H;obtain⟨bo,cc,H⟩:=zbind H;obtain rfl:=sI H
   try go_wp2
   replace aa:=A0_ (kD aa.out)
   replace ab:=A0_ (kD ab.out)
   replace HB:=A0_ (bD HB.out)
   refine start_ (n:=7) (S:=fun w'=>w'.cell? ⟨aT,0,none⟩=some (.slice al ac.length am)∧w'.cell? ⟨aT,1,none⟩=some (.slice an ae.length ao)∧w'.cell? ⟨aU,0,none⟩=some (.slice ax af.length ay)∧w'.cell? ⟨aU,1,none⟩=some (.slice az ai.length aA)) (ds := []) (bs 7 0) (by kernel_rfl) rfl rfl ⟨(kC aa.out 0).trans rfl,(kC aa.out 1).trans rfl,(kC ab.out 0).trans rfl,(kC ab.out 1).trans rfl⟩ (fun hHeld => ?_)
   generalize wc.drew=w29 at aa ab HB hHeld ⊢
   refine zT0 0 (some 22) (bs 7 1) hHeld ?_
   refine zT0 2 (some 24) (bs 7 5) hHeld ?_
   refine one_ (i:=1) (N:=some 23) (bs 7 7) rfl rfl (by kernel_rfl) (by decide) (fun K hK => ?_)
   refine zg Try.func92 #[.agg #[.slice al ac.length am,.slice an ae.length ao]] ?_
   with_reducible refine(ii_.calls bf _ _ ac _ _ ae aX aY _ ?ag ?ah ?ar ?au ca.out).mono ?_
   (case ag=>exact zC aC HB)
   (case ah=>exact aD.out)
   (case ar=>exact zC aE HB)
   (case au=>exact aG.out)
   rintro e w30 ⟨co,cp,rfl,aI,aJ,hb⟩
   refine⟨_,rfl,?_⟩
   have aj:=A0_ (rL aI (bZ (zB_ HB)))
   have ak:=A0_ (rL aJ (bZ (zB_ HB)))
   replace aa:=zK aa hb;replace ab:=zK ab hb;replace HB:=zB HB hb;(try clear hb);(try clear aI);(try clear aJ)
   refine hK.out _ _ ⟨(kC aa.out 0).trans rfl,(kC aa.out 1).trans rfl,(kC ab.out 0).trans rfl,(kC ab.out 1).trans rfl⟩ (fun hHeld => ?_)
   clear hK K
   refine zN (some 23) ?_
   refine one_ (i:=3) (N:=some 25) (bs 7 15) rfl rfl (by kernel_rfl) (by decide) (fun K hK => ?_)
   refine zg Try.func92 #[.agg #[.slice ax af.length ay,.slice az ai.length aA]] ?_
   with_reducible refine(ii_.calls bf _ _ af _ _ ai aZ a4 _ ?ag ?ah ?ar ?au cb.out).mono ?_
   (case ag=>exact zC aK HB)
   (case ah=>exact aM.out)
   (case ar=>exact zC aN HB)
   (case au=>exact aQ.out)
   rintro e w31 ⟨cq,cr,rfl,aI,aJ,hb⟩
   refine⟨_,rfl,?_⟩
   have av:=A0_ (rL (Kd.R_new' (Kd.R_new' aI (rX (zR_ aj))) (rX (zR_ ak))) (bZ (zB_ HB)))
   have aw:=A0_ (rL (Kd.R_new' (Kd.R_new' aJ (rX (zR_ aj))) (rX (zR_ ak))) (bZ (zB_ HB)))
   replace aj:=A0_ (rM (rT (rT (rO (zR_ aj) hb) (Kd.R_base aI)) (Kd.R_base aJ)) (fun _ h_=>h_.1))
   replace ak:=A0_ (rM (rT (rT (rO (zR_ ak) hb) (Kd.R_base aI)) (Kd.R_base aJ)) (fun _ h_=>h_.1))
   replace aa:=zK aa hb;replace ab:=zK ab hb;replace HB:=zB HB hb;(try clear hb);(try clear aI);(try clear aJ);obtain⟨bp,bq,bg⟩:=rS aj.out
   (first|subst bg|(injection bg with f1_ f2_ f3_;have f4_:=f1_.symm;have f5_:=f3_.symm;clear f1_ f2_ f3_;subst f4_;subst f5_))
   obtain⟨br,bu,bh⟩:=rS ak.out
   (first|subst bh|(injection bh with f1_ f2_ f3_;have f4_:=f1_.symm;have f5_:=f3_.symm;clear f1_ f2_ f3_;subst f4_;subst f5_))
   obtain⟨bv,bw,bi⟩:=rS av.out
   (first|subst bi|(injection bi with f1_ f2_ f3_;have f4_:=f1_.symm;have f5_:=f3_.symm;clear f1_ f2_ f3_;subst f4_;subst f5_))
   obtain⟨bx,bz,bj⟩:=rS aw.out
   (first|subst bj|(injection bj with f1_ f2_ f3_;have f4_:=f1_.symm;have f5_:=f3_.symm;clear f1_ f2_ f3_;subst f4_;subst f5_))
   refine hK.out _ _ ⟨(kC aa.out 0).trans rfl,(kC aa.out 1).trans rfl,(kC ab.out 0).trans rfl,(kC ab.out 1).trans rfl⟩ (fun hHeld => ?_)
   clear hK K
   refine zN (some 25) ?_
   refine one_ (i:=4) (N:=some 26) (bs 7 31) rfl rfl (by kernel_rfl) (by decide) (fun K hK => ?_)
   refine zg Try.func84 #[.agg #[.slice bp aX.length bq,.slice br aY.length bu],.agg #[.slice bv aZ.length bw,.slice bx a4.length bz]] ?_
   with_reducible refine(ic_.calls bf _ _ aX _ _ aY _ _ aZ _ _ a4 bo _ ?ag ?ah ?ar ?au ?bk ?bl ?bm ?bn cc.out).mono ?_
   (case ag=>exact zD aj)
   (case ah=>exact(rR aj.out).2.1)
   (case ar=>exact zD ak)
   (case au=>exact(rR ak.out).2.1)
   (case bk=>exact zD av)
   (case bl=>exact(rR av.out).2.1)
   (case bm=>exact zD aw)
   (case bn=>exact(rR aw.out).2.1)
   rintro e w36 ⟨rfl,hb⟩
   refine⟨_,rfl,?_⟩
   replace aj:=zR aj hb;replace ak:=zR ak hb;replace av:=zR av hb;replace aw:=zR aw hb;replace aa:=zK aa hb;replace ab:=zK ab hb;replace HB:=zB HB hb;(try clear hb)
   refine hK.out _ _ ⟨(kC aa.out 0).trans rfl,(kC aa.out 1).trans rfl,(kC ab.out 0).trans rfl,(kC ab.out 1).trans rfl⟩ (fun hHeld => ?_)
   clear hK K
   refine zN (some 26) ?_
   refine zP0 5 (some 27) (bs 7 63) ?_
   refine zP0 6 (some 4) (bs 7 127) ?_
   refine done_ (by kernel_rfl) ?_
   try go_wp2
   go_ret
   exact⟨by first|rfl|(simp [*] <;> rfl),zB_ HB⟩
end Go.Proofs.Ytmegggomhjgehaa.PFnCoverConj
