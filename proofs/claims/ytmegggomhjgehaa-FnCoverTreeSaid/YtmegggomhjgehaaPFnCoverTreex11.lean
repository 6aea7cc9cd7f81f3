import Derived.Test.YtmegggomhjgehaaPFnCoverTreex10
namespace Go.Proofs.Ytmegggomhjgehaa.PFnCoverTree
open Go.RowKit Go.Proofs.YtmegggomhjgehaaW.PrintWords Go.Proofs.YtmegggomhjgehaaW.PrintLast Go.Proofs.YtmegggomhjgehaaW.PrintMore
set_option maxHeartbeats 8000000
set_option maxRecDepth 100000
attribute [local go_sem] max2_int min2_int max_two min_two max_three min_three max_four min_four
set_option linter.unusedVariables false
set_option linter.unusedSimpArgs false
def i5_.j0:Nat→Bool→List Int→List Int→List Int→List Int→Option (Bool)
  | 0,_,_,_,_,_=>none
  | k+1,ai,ac,ae,af,ag=>if ai=true then (some false) else ((ii_.f k ac ae).bind fun aa=>((ii_.f k af ag).bind fun ab=>((ib_.f k aa.1 aa.2 ab.1 ab.2).bind fun ah=>(some (ah == 0)))))
def i5_.f (k:Nat) (aa:List Int) (ac:List Int) (ab:List Int) (ae:List Int):Option (Bool):=(i6_.f k aa ac).bind fun af=>(if af=true then ((i6_.f k ab ae).bind fun ag=>(if ag=true then (i5_.j0 k ((aa.length:Int) != (ab.length:Int)) aa ac ab ae) else (i5_.j0 k true aa ac ab ae))) else (i5_.j0 k true aa ac ab ae))
theorem i5_.calls (k:Nat) (al:Option Addr) (am:Nat) (ac:List Int) (an:Option Addr) (ao:Nat) (ae:List Int) (ax:Option Addr) (ay:Nat) (af:List Int) (az:Option Addr) (aA:Nat) (ai:List Int) (r:Bool) (w:World) (a4:Kd.C (Kd.int .i64) w al ac.length ac) (a5:ac.length≤am) (a6:Kd.C (Kd.int .i64) w an ae.length ae) (a7:ae.length≤ao) (a8:Kd.C (Kd.int .i64) w ax af.length af) (a9:af.length≤ay) (ba:Kd.C (Kd.int .i64) w az ai.length ai) (bb:ai.length≤aA) (h:i5_.f k ac ae af ai=some r) :
    Calls Try.prog 35 #[.agg #[.slice al ac.length am,.slice an ae.length ao],.agg #[.slice ax af.length ay,.slice az ai.length aA]] w fun e w'=>e = .returned (.bool r)∧Below w.heap.size w w':=by
 have cm:=Try.underlying25;have aC:=A0_ a4;have aD:=A0_ a5;clear a4 a5;have aE:=A0_ a6;have aG:=A0_ a7;clear a6 a7;have aK:=A0_ a8;have aM:=A0_ a9;clear a8 a9;have aN:=A0_ ba;have aQ:=A0_ bb;clear ba bb
 have HB:=A0_ (Below.refl w.heap.size w)
 have H:((i6_.f k ac ae).bind fun aV=>(if aV=true then ((i6_.f k af ai).bind fun aW=>(if aW=true then (i5_.j0 k ((ac.length:Int) != (af.length:Int)) ac ae af ai) else (i5_.j0 k true ac ae af ai))) else (i5_.j0 k true ac ae af ai)))=some r:=h
 clear h;have bd:=A0_ H;clear H
 go_enter Try.func35,Try.ntmps35
 go_upto_region 1 with(first|((with_reducible refine gD (N:=2) rfl ?_);refine zX (N:=2) (cs := #[.slice al ac.length am,.slice an ae.length ao]) (t:=25) ?_;intro aT hg w4 hbox hb;have aa:=A0_ (hbox);have cc:=zG hg HB;have cd:=zG hg HB;replace HB:=zB HB hb;clear hb hbox hg)|((with_reducible refine gD (N:=3) rfl ?_);refine zX (N:=3) (cs := #[.slice ax af.length ay,.slice az ai.length aA]) (t:=25) ?_;intro aU hg w5 hbox hb;have ab:=A0_ (hbox);have ce:=zG hg HB;have cf:=zG hg HB;replace HB:=zB HB hb;have ap:=zL hg aa;have aq:=zM hg aa;replace aa:=zK aa hb;clear hb hbox hg))
 (try simp only [Act.put,List.setIfInBounds_toArray,List.set_cons_zero,List.set_cons_succ])
 go_cut [21] (fun v21 wc => ∃ (kq:Nat) (aH:Bool),v21 = .bool aH∧Aside0 (i5_.j0 kq aH ac ae af ai=some r)∧Aside0 (kq≤k)∧Aside0 (wc.heap[aT]? = some (.cells #[(.slice al ac.length am),(.slice an ae.length ao)] 25 (0,0)))∧Aside0 (wc.heap[aU]? = some (.cells #[(.slice ax af.length ay),(.slice az ai.length aA)] 25 (0,0)))∧Aside0 (Below w.heap.size w wc))
 case first =>
  have H:=bd.out;clear bd;obtain⟨aV,A6,H⟩:=zbind H
  by_cases c7:aV=true
  ·subst c7
   rw [if_pos rfl] at H;obtain⟨aW,A8,H⟩:=zbind H
   by_cases c9:aW=true
   ·subst c9
    rw [if_pos rfl] at H;have H':=A0_ H;clear H;have cg:=ap.out;have ch:=aq.out;have bz:=zc0 aa;have bB:=zc1 aa;have bC:=kF aa.out 0;have bE:=kF aa.out 1
    go_wp2_with (first|((with_reducible refine gC (f:=54) rfl ?_);refine zJ (some 6) Try.func54 #[.agg #[.slice al ac.length am,.slice an ae.length ao]] ?_;(with_reducible refine(i6_.calls k (fun k_=>k_<w.heap.size) _ _ ac (fun k_=>k_<w.heap.size) _ _ ae true _ ?ag ?ah A6.out).mono ?_);(case ag=>exact Kd.V_mk aD.out (Kd.F_below (Kd.C_F (Kd.heap_int .i64) aC.out) (zB_ HB)));(case ah=>exact Kd.V_mk aG.out (Kd.F_below (Kd.C_F (Kd.heap_int .i64) aE.out) (zB_ HB)));rintro e w12 ⟨rfl,hb⟩;refine⟨_,rfl,?_⟩;replace aa:=zK aa hb;replace ab:=zK ab hb;replace HB:=zB HB hb;(try clear hb);have bF:=zc0 ab;have bG:=zc1 ab;have bH:=kF ab.out 0;have bI:=kF ab.out 1)|(go_at_call 54;(with_reducible refine(i6_.calls k (fun k_=>k_<w.heap.size) _ _ af (fun k_=>k_<w.heap.size) _ _ ai true _ ?ag ?ah A8.out).mono ?_);(case ag=>exact Kd.V_mk aM.out (Kd.F_below (Kd.C_F (Kd.heap_int .i64) aK.out) (zB_ HB)));(case ah=>exact Kd.V_mk aQ.out (Kd.F_below (Kd.C_F (Kd.heap_int .i64) aN.out) (zB_ HB)));rintro e w14 ⟨rfl,hb⟩;replace aa:=zK aa hb;replace ab:=zK ab hb;replace HB:=zB HB hb;(try clear hb);have bJ:=zc0 aa;have bK:=zc1 aa;have bL:=kF aa.out 0;have bM:=kF aa.out 1;have bO:=zc0 ab;have bP:=zc1 ab;have bQ:=kF ab.out 0;have bR:=kF ab.out 1))
    go_meet
    case rel=>exact⟨_,(((ac.length:Int) != (af.length:Int))),zt,H',zo,⟨zK_ aa⟩,⟨zK_ ab⟩,⟨zB_ HB⟩⟩
   replace c9:=Bool.eq_false_iff.mpr c9;subst c9
   rw [if_neg (show ¬ (false=true) by decide)] at H
   have H':=A0_ H;clear H;have ci:=ap.out;have cj:=aq.out;have bU:=zc0 aa;have bV:=zc1 aa;have bW:=kF aa.out 0;have bX:=kF aa.out 1
   go_wp2_with (first|((with_reducible refine gC (f:=54) rfl ?_);refine zJ (some 6) Try.func54 #[.agg #[.slice al ac.length am,.slice an ae.length ao]] ?_;(with_reducible refine(i6_.calls k (fun k_=>k_<w.heap.size) _ _ ac (fun k_=>k_<w.heap.size) _ _ ae true _ ?ag ?ah A6.out).mono ?_);(case ag=>exact Kd.V_mk aD.out (Kd.F_below (Kd.C_F (Kd.heap_int .i64) aC.out) (zB_ HB)));(case ah=>exact Kd.V_mk aG.out (Kd.F_below (Kd.C_F (Kd.heap_int .i64) aE.out) (zB_ HB)));rintro e w19 ⟨rfl,hb⟩;refine⟨_,rfl,?_⟩;replace aa:=zK aa hb;replace ab:=zK ab hb;replace HB:=zB HB hb;(try clear hb);have bY:=zc0 ab;have b2:=zc1 ab;have b3:=kF ab.out 0;have b4:=kF ab.out 1)|(go_at_call 54;(with_reducible refine(i6_.calls k (fun k_=>k_<w.heap.size) _ _ af (fun k_=>k_<w.heap.size) _ _ ai false _ ?ag ?ah A8.out).mono ?_);(case ag=>exact Kd.V_mk aM.out (Kd.F_below (Kd.C_F (Kd.heap_int .i64) aK.out) (zB_ HB)));(case ah=>exact Kd.V_mk aQ.out (Kd.F_below (Kd.C_F (Kd.heap_int .i64) aN.out) (zB_ HB)));rintro e w21 ⟨rfl,hb⟩;replace aa:=zK aa hb;replace ab:=zK ab hb;replace HB:=zB HB hb;(try clear hb)))
   go_meet
   case rel=>exact⟨_,(true),zt,H',zo,⟨zK_ aa⟩,⟨zK_ ab⟩,⟨zB_ HB⟩⟩
  replace c7:=Bool.eq_false_iff.mpr c7;subst c7
  rw [if_neg (show ¬ (false=true) by decide)] at H
  have H':=A0_ H;clear H;have ck:=ap.out;have cl:=aq.out;have b5:=zc0 aa;have b6:=zc1 aa;have b7:=kF aa.out 0;have b8:=kF aa.out 1
  go_wp2_with (first|((with_reducible refine gC (f:=54) rfl ?_);refine zJ (some 6) Try.func54 #[.agg #[.slice al ac.length am,.slice an ae.length ao]] ?_;(with_reducible refine(i6_.calls k (fun k_=>k_<w.heap.size) _ _ ac (fun k_=>k_<w.heap.size) _ _ ae false _ ?ag ?ah A6.out).mono ?_);(case ag=>exact Kd.V_mk aD.out (Kd.F_below (Kd.C_F (Kd.heap_int .i64) aC.out) (zB_ HB)));(case ah=>exact Kd.V_mk aG.out (Kd.F_below (Kd.C_F (Kd.heap_int .i64) aE.out) (zB_ HB)));rintro e w24 ⟨rfl,hb⟩;refine⟨_,rfl,?_⟩;replace aa:=zK aa hb;replace ab:=zK ab hb;replace HB:=zB HB hb;(try clear hb)))
  go_meet
  case rel=>exact⟨_,(true),zt,H',zo,⟨zK_ aa⟩,⟨zK_ ab⟩,⟨zB_ HB⟩⟩
 case rest =>
  clear bd;obtain⟨kq,aH,rfl,HA,cr,aa,ab,HB⟩:=hcut
  cases kq with
  | zero=>exact absurd HA.out (by simp [i5_.j0])
  | succ be =>
   have H:=HA.out;clear HA;simp only [i5_.j0] at H
   by_cases bc:aH=true
   ·subst bc
    rw [if_pos rfl] at H;obtain rfl:=sI H
    go_wp2
    go_ret
    exact⟨by first|rfl|(simp [*] <;> rfl),zB_ HB⟩
   replace bc:=Bool.eq_false_iff.mpr bc;subst bc
   rw [if_neg (show ¬ (false=true) by decide)] at H
   obtain⟨⟨aX,aY⟩,b9,H⟩:=zbind H;dsimp only at H;obtain⟨⟨aZ,a3⟩,ca,H⟩:=zbind H;dsimp only at H;obtain⟨bn,cb,H⟩:=zbind H;obtain rfl:=sI H
   try go_wp2
   replace aa:=A0_ (kD aa.out)
   replace ab:=A0_ (kD ab.out)
   replace HB:=A0_ (bD HB.out)
   refine start_ (n:=7) (S:=fun w'=>w'.cell? ⟨aT,0,none⟩=some (.slice al ac.length am)∧w'.cell? ⟨aT,1,none⟩=some (.slice an ae.length ao)∧w'.cell? ⟨aU,0,none⟩=some (.slice ax af.length ay)∧w'.cell? ⟨aU,1,none⟩=some (.slice az ai.length aA)) (ds := []) (bs 7 0) (by kernel_rfl) rfl rfl ⟨(kC aa.out 0).trans rfl,(kC aa.out 1).trans rfl,(kC ab.out 0).trans rfl,(kC ab.out 1).trans rfl⟩ (fun hHeld => ?_)
   generalize wc.drew=w29 at aa ab HB hHeld ⊢
   refine zT0 0 (some 22) (bs 7 1) hHeld ?_
   refine zT0 2 (some 24) (bs 7 5) hHeld ?_
   refine one_ (i:=1) (N:=some 23) (bs 7 7) rfl rfl (by kernel_rfl) (by decide) (fun K hK => ?_)
   refine zg Try.func92 #[.agg #[.slice al ac.length am,.slice an ae.length ao]] ?_
   with_reducible refine(ii_.calls be _ _ ac _ _ ae aX aY _ ?ag ?ah ?ar ?au b9.out).mono ?_
   (case ag=>exact zC aC HB)
   (case ah=>exact aD.out)
   (case ar=>exact zC aE HB)
   (case au=>exact aG.out)
   rintro e w30 ⟨cn,co,rfl,aI,aJ,hb⟩
   refine⟨_,rfl,?_⟩
   have aj:=A0_ (rL aI (bZ (zB_ HB)))
   have ak:=A0_ (rL aJ (bZ (zB_ HB)))
   replace aa:=zK aa hb;replace ab:=zK ab hb;replace HB:=zB HB hb;(try clear hb);(try clear aI);(try clear aJ)
   refine hK.out _ _ ⟨(kC aa.out 0).trans rfl,(kC aa.out 1).trans rfl,(kC ab.out 0).trans rfl,(kC ab.out 1).trans rfl⟩ (fun hHeld => ?_)
   clear hK K
   refine zN (some 23) ?_
   refine one_ (i:=3) (N:=some 25) (bs 7 15) rfl rfl (by kernel_rfl) (by decide) (fun K hK => ?_)
   refine zg Try.func92 #[.agg #[.slice ax af.length ay,.slice az ai.length aA]] ?_
   with_reducible refine(ii_.calls be _ _ af _ _ ai aZ a3 _ ?ag ?ah ?ar ?au ca.out).mono ?_
   (case ag=>exact zC aK HB)
   (case ah=>exact aM.out)
   (case ar=>exact zC aN HB)
   (case au=>exact aQ.out)
   rintro e w31 ⟨cp,cq,rfl,aI,aJ,hb⟩
   refine⟨_,rfl,?_⟩
   have av:=A0_ (rL (Kd.R_new' (Kd.R_new' aI (rX (zR_ aj))) (rX (zR_ ak))) (bZ (zB_ HB)))
   have aw:=A0_ (rL (Kd.R_new' (Kd.R_new' aJ (rX (zR_ aj))) (rX (zR_ ak))) (bZ (zB_ HB)))
   replace aj:=A0_ (rM (rT (rT (rO (zR_ aj) hb) (Kd.R_base aI)) (Kd.R_base aJ)) (fun _ h_=>h_.1))
   replace ak:=A0_ (rM (rT (rT (rO (zR_ ak) hb) (Kd.R_base aI)) (Kd.R_base aJ)) (fun _ h_=>h_.1))
   replace aa:=zK aa hb;replace ab:=zK ab hb;replace HB:=zB HB hb;(try clear hb);(try clear aI);(try clear aJ);obtain⟨bo,bp,bf⟩:=rS aj.out
   (first|subst bf|(injection bf with f1_ f2_ f3_;have f4_:=f1_.symm;have f5_:=f3_.symm;clear f1_ f2_ f3_;subst f4_;subst f5_))
   obtain⟨bq,br,bg⟩:=rS ak.out
   (first|subst bg|(injection bg with f1_ f2_ f3_;have f4_:=f1_.symm;have f5_:=f3_.symm;clear f1_ f2_ f3_;subst f4_;subst f5_))
   obtain⟨bu,bv,bh⟩:=rS av.out
   (first|subst bh|(injection bh with f1_ f2_ f3_;have f4_:=f1_.symm;have f5_:=f3_.symm;clear f1_ f2_ f3_;subst f4_;subst f5_))
   obtain⟨bw,bx,bi⟩:=rS aw.out
   (first|subst bi|(injection bi with f1_ f2_ f3_;have f4_:=f1_.symm;have f5_:=f3_.symm;clear f1_ f2_ f3_;subst f4_;subst f5_))
   refine hK.out _ _ ⟨(kC aa.out 0).trans rfl,(kC aa.out 1).trans rfl,(kC ab.out 0).trans rfl,(kC ab.out 1).trans rfl⟩ (fun hHeld => ?_)
   clear hK K
   refine zN (some 25) ?_
   refine one_ (i:=4) (N:=some 26) (bs 7 31) rfl rfl (by kernel_rfl) (by decide) (fun K hK => ?_)
   refine zg Try.func84 #[.agg #[.slice bo aX.length bp,.slice bq aY.length br],.agg #[.slice bu aZ.length bv,.slice bw a3.length bx]] ?_
   with_reducible refine(ib_.calls be _ _ aX _ _ aY _ _ aZ _ _ a3 bn _ ?ag ?ah ?ar ?au ?bj ?bk ?bl ?bm cb.out).mono ?_
   (case ag=>exact zD aj)
   (case ah=>exact(rR aj.out).2.1)
   (case ar=>exact zD ak)
   (case au=>exact(rR ak.out).2.1)
   (case bj=>exact zD av)
   (case bk=>exact(rR av.out).2.1)
   (case bl=>exact zD aw)
   (case bm=>exact(rR aw.out).2.1)
   rintro e w36 ⟨rfl,hb⟩
   refine⟨_,rfl,?_⟩
   replace aj:=zR aj hb;replace ak:=zR ak hb;replace av:=zR av hb;replace aw:=zR aw hb;replace aa:=zK aa hb;replace ab:=zK ab hb;replace HB:=zB HB hb;(try clear hb)
   refine hK.out _ _ ⟨(kC aa.out 0).trans rfl,(kC aa.out 1).trans rfl,(kC ab.out 0).trans rfl,(kC ab.out 1).trans rfl⟩ (fun hHeld => ?_)
   clear hK K
   refine zN (some 26) ?_
   refine zP0 5 (some 27) (bs 7 63) ?_
   refine zP0 6 (some 4) (bs 7 127) ?_
   refine done_ (by kernel_rfl) ?_
   try go_wp2
   go_ret
   exact⟨by first|rfl|(simp [*] <;> rfl),zB_ HB⟩
/-- A state of type 82 at block g of W; what its slices lead to came in by w0. -/
def IsS82 (w0 W:World) (g:Nat) (f0:List Int) (f1:Int):Prop := ∃ A0 c0,W.heap[g]? = some (.cells #[.slice A0 f0.length c0,.int .i64 f1] 82 (0,0))∧w0.heap.size≤g∧Kd.C (Kd.int .u8) w0 A0 f0.length f0
theorem IsS82.grown {w0 W:World} {g:Nat} {f0:List Int} {f1:Int} {W1:World} {row:Option Nat} (h:IsS82 w0 W g f0 f1) (hw:W.grownBy W1 row) (hne:some g≠row):IsS82 w0 W1 g f0 f1:=by
  obtain⟨A0,c0,hb,hg,aa⟩:=h
  exact⟨A0,c0,blk_grown hb hw hne,hg,aa⟩
theorem IsS82.own_neN {w0 W:World} {g:Nat} {f0:List Int} {f1:Int} {α:Type} {d:Kd α} {e:Nat} {base:Nat} {ok:Nat→Prop} {v:Value} {xs:List α} (h:IsS82 w0 W g f0 f1) (ho:Kd.N d e W base ok v xs) (ht:e≠82):some g≠v.ownBlock:=by
  obtain⟨A0,c0,hb,hg,aa⟩:=h
  exact Kd.N_ne ho hb ht
theorem IsS82.fresh {w0 W:World} {g:Nat} {f0:List Int} {f1:Int} (h:IsS82 w0 W g f0 f1) : ∀ k,W.heap.size≤k→k≠g:=by
  obtain⟨A0,c0,hb,hg,aa⟩:=h
  exact Kd.freshB hb
theorem IsS82.kept {w0 W:World} {g:Nat} {f0:List Int} {f1:Int} {W1:World} {S:Nat→Prop} (h:IsS82 w0 W g f0 f1) (hk:Kept W W1 S) (hne : ¬ S g):IsS82 w0 W1 g f0 f1:=by
  obtain⟨A0,c0,hb,hg,aa⟩:=h
  exact⟨A0,c0,blk_kept hb hk hne,hg,aa⟩
theorem IsS82.below {w0 W:World} {g:Nat} {f0:List Int} {f1:Int} {W1:World} (h:IsS82 w0 W g f0 f1) (hw:Below W.heap.size W W1):IsS82 w0 W1 g f0 f1:=h.grown (grown_of_below hw none) (by simp)
theorem IsS82.alloc {w0 W:World} {g:Nat} {f0:List Int} {f1:Int} (h:IsS82 w0 W g f0 f1) (o:Obj):IsS82 w0 (W.alloc o) g f0 f1:=h.below (bA (Below.refl _ _) o)
theorem IsS82.drewN {w0 W:World} {g:Nat} {f0:List Int} {f1:Int} (h:IsS82 w0 W g f0 f1) (m:Nat):IsS82 w0 (W.drewN m) g f0 f1:=h
theorem IsS82.drew {w0 W:World} {g:Nat} {f0:List Int} {f1:Int} (h:IsS82 w0 W g f0 f1):IsS82 w0 W.drew g f0 f1:=h
theorem IsS82.at_ {w0 W:World} {g:Nat} {f0:List Int} {f1:Int} {w':World} {m:Nat} (hq:W.drewN m=w') (h:IsS82 w0 W g f0 f1):IsS82 w0 w' g f0 f1:=by subst hq;exact IsS82.drewN h m
theorem IsS82.apart {w0 W:World} {g:Nat} {f0:List Int} {f1:Int} {α:Type} {d:Kd α} {e:Nat} {base:Nat} {ok:Nat→Prop} {v:Value} {xs:List α} (h:IsS82 w0 W g f0 f1) (ho:d.R e W base ok v xs) (ht : ∀ q,q ∈ e :: d.E→q≠82):d.R e W base (fun k=>ok k∧k≠g) v xs:=by
  obtain⟨A0,c0,hb,hg,aa⟩:=h
  exact rY ho hb ht
theorem IsS82.own_ne {w0 W:World} {g:Nat} {f0:List Int} {f1:Int} {α:Type} {d:Kd α} {e:Nat} {base:Nat} {ok:Nat→Prop} {v:Value} {xs:List α} (h:IsS82 w0 W g f0 f1) (ho:d.R e W base ok v xs) (ht:e≠82):some g≠v.ownBlock:=by
  obtain⟨A0,c0,hb,hg,aa⟩:=h
  exact Kd.R_ne ho hb ht
theorem IsS82.apartQ {w0 W:World} {g:Nat} {f0:List Int} {f1:Int} {α:Type} {d:Kd α} {e:Nat} {base:Nat} {ok:Nat→Prop} {v:Value} {xs:List α} (h:IsS82 w0 W g f0 f1) (ho:d.Q e W base ok v xs) (ht : ∀ q,q ∈ e :: d.E→q≠82):d.Q e W base (fun k=>ok k∧k≠g) v xs:=by
  obtain⟨A0,c0,hb,hg,aa⟩:=h
  exact Kd.Q_types ho hb ht
theorem IsS82.own_neQ {w0 W:World} {g:Nat} {f0:List Int} {f1:Int} {α:Type} {d:Kd α} {e:Nat} {base:Nat} {ok:Nat→Prop} {v:Value} {xs:List α} (h:IsS82 w0 W g f0 f1) (ho:d.Q e W base ok v xs) (ht:e≠82):some g≠v.ownBlock:=by
  obtain⟨A0,c0,hb,hg,aa⟩:=h
  exact Kd.Q_ne ho hb ht
theorem IsS82.apartS {w0 W:World} {g:Nat} {f0:List Int} {f1:Int} {α:Type} {d:Kd α} {e:Nat} {base:Nat} {ok:Nat→Prop} {v:Value} {xs:List α} (h:IsS82 w0 W g f0 f1) (ho:d.S e W base ok v xs) (ht : ∀ q,q ∈ e :: d.E→q≠82):d.S e W base (fun k=>ok k∧k≠g) v xs:=by
  obtain⟨A0,c0,hb,hg,aa⟩:=h
  exact Kd.S_types ho hb ht
theorem IsS82.own_neS {w0 W:World} {g:Nat} {f0:List Int} {f1:Int} {α:Type} {d:Kd α} {e:Nat} {base:Nat} {ok:Nat→Prop} {v:Value} {xs:List α} (h:IsS82 w0 W g f0 f1) (ho:d.S e W base ok v xs) (ht:e≠82):some g≠v.ownBlock:=by
  obtain⟨A0,c0,hb,hg,aa⟩:=h
  exact Kd.S_ne ho hb ht
theorem IsS82.lt {w0 W:World} {g:Nat} {f0:List Int} {f1:Int} (h:IsS82 w0 W g f0 f1):g<W.heap.size:=by
  obtain⟨A0,c0,hb,hg,aa⟩:=h
  exact kL hb
theorem IsS82.ge {w0 W:World} {g:Nat} {f0:List Int} {f1:Int} (h:IsS82 w0 W g f0 f1):w0.heap.size≤g:=by
  obtain⟨A0,c0,hb,hg,aa⟩:=h
  exact hg
theorem IsS82.ne_blk {w0 W:World} {g:Nat} {f0:List Int} {f1:Int} {a:Nat} {cs:Array Value} {t:TypeId} {fr:Nat×Nat} (h:IsS82 w0 W g f0 f1) (hb2:W.heap[a]? = some (.cells cs t fr)) (ht:t≠82):g≠a:=by
  obtain⟨A0,c0,hb,hg,aa⟩:=h
  rintro rfl
  rw [hb] at hb2
  injection hb2 with hb2
  injection hb2 with _ ht2
  exact ht ht2.symm
theorem IsS82.far {w0 W:World} {g:Nat} {f0:List Int} {f1:Int} {p:Addr} (h:IsS82 w0 W g f0 f1) (hne:g≠p.block) (u:Value):IsS82 w0 (W.setCell p u) g f0 f1:=by
  obtain⟨A0,c0,hb,hg,aa⟩:=h
  exact⟨A0,c0,blk_far hb hne u,hg,aa⟩
theorem cellS82_0 {W:World} {g:Nat} {A0:Option Addr} {c0:Nat} {f0:List Int} {f1:Int} (h:W.heap[g]? = some (.cells #[.slice A0 f0.length c0,.int .i64 f1] 82 (0,0))):W.cell? ⟨g,0,none⟩=some (.slice A0 f0.length c0):=(kC h 0).trans rfl
theorem cellS82_1 {W:World} {g:Nat} {A0:Option Addr} {c0:Nat} {f0:List Int} {f1:Int} (h:W.heap[g]? = some (.cells #[.slice A0 f0.length c0,.int .i64 f1] 82 (0,0))):W.cell? ⟨g,1,none⟩=some (.int .i64 f1):=(kC h 1).trans rfl
theorem IsS82.set_1 {w0 W:World} {g:Nat} {f0:List Int} {f1:Int} (h:IsS82 w0 W g f0 f1) (x:Int):IsS82 w0 (W.setCell ⟨g,1,none⟩ (.int .i64 x)) g f0 x:=by
  obtain⟨A0,c0,hb,hg,aa⟩:=h
  exact⟨A0,c0,by simpa using blk_set hb 1 (.int .i64 x),hg,aa⟩
theorem IsS82.new (w0 W:World) (A0:Option Addr) (c0:Nat) (f0:List Int) (f1:Int) (hB:Below w0.heap.size w0 W) (aa:Kd.C (Kd.int .u8) w0 A0 f0.length f0):IsS82 w0 (W.alloc (.cells #[.slice A0 f0.length c0,.int .i64 f1] 82)) W.heap.size f0 f1:=⟨A0,c0,by simpa using heap_alloc_new W _,hB.size,aa⟩
theorem zIs {w0 W W2:World} {g:Nat} {f0 f0':List Int} {f1 f1':Int} (h:Aside0 (IsS82 w0 W g f0 f1)) (t:IsS82 w0 W g f0 f1→IsS82 w0 W2 g f0' f1':=by intro h_;repeat(first|(with_reducible first|exact h_|apply IsS82.alloc|apply IsS82.drewN|apply IsS82.drew|apply IsS82.set_1|refine IsS82.far ?_ (Aside0.out (by assumption)) _)|exact h_)):IsS82 w0 W2 g f0' f1':=t h.out
theorem zBw {b:Nat} {w W W2:World} (h:Aside0 (Below b w W)) (t:Below b w W→Below b w W2:=by intro h_;repeat(first|(with_reducible first|exact h_|apply bA|apply bN|apply bD|refine bS ?_ (Aside0.out (by assumption))|refine bS ?_ (IsS82.ge (Aside0.out (by assumption))))|exact h_)):Below b w W2:=t h.out
def s1a_.j0:Nat→Int→Bool→List Int→Int→Option (Int×Int)
  | 0,_,_,_,_=>none
  | k+1,x1,ac,aa,ab=>if ac=true then (some (0,ab)) else (if (wrap64 (ab - 1))<(aa.length:Int) then (if 0≤(wrap64 (ab - 1)) then (if x1=0 then (none) else (some (Int.tmod (wrap64 (rd aa (wrap64 (ab - 1)))) x1,ab))) else (none)) else (if (aa.length:Int)=0 then (none) else (if 0≤(Int.tmod (wrap64 (ab - 1)) (aa.length:Int)) then (if (Int.tmod (wrap64 (ab - 1)) (aa.length:Int))<(aa.length:Int) then (if 0≤(Int.tmod (wrap64 ((wrap64 ((wrap64 (ab - 1))*7))+3)) (aa.length:Int)) then (if (Int.tmod (wrap64 ((wrap64 ((wrap64 (ab - 1))*7))+3)) (aa.length:Int))<(aa.length:Int) then (if x1=0 then (none) else (some (Int.tmod (Go.bits .xor .i64 (wrap64 ((wrap64 ((wrap64 ((wrap64 ((wrap64 (rd aa (Int.tmod (wrap64 (ab - 1)) (aa.length:Int))))*131))+(wrap64 ((wrap64 (rd aa (Int.tmod (wrap64 ((wrap64 ((wrap64 (ab - 1))*7))+3)) (aa.length:Int))))*1117))))+(wrap64 ((wrap64 (ab - 1))*29))))+(wrap64 ((wrap64 (Int.tdiv (wrap64 (ab - 1)) (aa.length:Int)))*53)))) (wrap64 (Int.tdiv (wrap64 ((wrap64 ((wrap64 ((wrap64 ((wrap64 (rd aa (Int.tmod (wrap64 (ab - 1)) (aa.length:Int))))*131))+(wrap64 ((wrap64 (rd aa (Int.tmod (wrap64 ((wrap64 ((wrap64 (ab - 1))*7))+3)) (aa.length:Int))))*1117))))+(wrap64 ((wrap64 (ab - 1))*29))))+(wrap64 ((wrap64 (Int.tdiv (wrap64 (ab - 1)) (aa.length:Int)))*53)))) 64))) x1,ab))) else (none)) else (none)) else (none)) else (none))))
def s1a_.f (k:Nat) (s0_0:List Int) (s0_1:Int) (a1:Int):Option (Int×Int):=if a1<1 then (s1a_.j0 k a1 true s0_0 (wrap64 (s0_1+1))) else (s1a_.j0 k a1 ((s0_0.length:Int) == 0) s0_0 (wrap64 (s0_1+1)))
theorem s1a_.calls (k:Nat) (g:Nat) (s0_0:List Int) (s0_1:Int) (a1:Int) (r1:Int) (r2:Int) (w0 w:World) (hI:IsS82 w0 w g s0_0 s0_1) (hB:Below w0.heap.size w0 w) (h:s1a_.f k s0_0 s0_1 a1=some (r1,r2)) :
    Calls Try.prog 74 #[.pointer (some ⟨g,0,none⟩),.int .i64 a1] w fun e w'=>e = .returned (.int .i64 r1)∧IsS82 w0 w' g s0_0 r2∧Below w0.heap.size w0 w'∧KeepBut w w' g none:=by
 have HI0:=A0_ hI
 have HK:=A0_ (KeepBut.refl w g none)
 have HL:=A0_ hB.size;clear hI;have HW0:=A0_ hB.size;have HB:=A0_ hB;clear hB
 have H:(if a1<1 then (s1a_.j0 k a1 true s0_0 (wrap64 (s0_1+1))) else (s1a_.j0 k a1 ((s0_0.length:Int) == 0) s0_0 (wrap64 (s0_1+1))))=some (r1,r2):=h
 clear h;have au:=A0_ H;clear H;obtain⟨ASz4_0,cSz4_0,HGz4,hgz4,HSz4_0⟩:=HI0.out;have av:=cellS82_0 HGz4;have aw:=cellS82_1 HGz4;have ax:=kF HGz4 1;clear HGz4 hgz4
 go_enter Try.func74,Try.ntmps74
 go_upto_region 2 with(fail)
 repeat(go_quiet (fail);go_upto_region 2 with(fail))
 go_cut [24] (fun v24 wc => ∃ (kq:Nat) (ac:Bool),v24 = .bool ac∧Aside0 (s1a_.j0 kq a1 ac s0_0 (wrap64 (s0_1+1))=some (r1,r2))∧Aside0 (kq≤k)∧Aside0 (IsS82 w0 wc g s0_0 (wrap64 (s0_1+1)))∧Aside0 (KeepBut w wc g none)∧Aside0 (Below w0.heap.size w0 wc))
 case first =>
  have H:=au.out;clear au
  by_cases c5:a1<1
  ·rw [if_pos c5] at H
   have ae:=dT c5;clear c5
   (first|rw [ae]|(simp only [i64_w,i32_w];rw [ae])|skip)
   have H':=A0_ H;clear H
   go_wp2
   repeat(go_quiet (fail);try go_wp2)
   go_meet
   case rel=>exact⟨_,(true),zt,H',zo,⟨zIs HI0⟩,⟨zKp HK⟩,⟨zBw HB⟩⟩
  rw [if_neg c5] at H;have ae:=dF c5;clear c5
  (first|rw [ae]|(simp only [i64_w,i32_w];rw [ae])|skip)
  have H':=A0_ H;clear H;obtain⟨ASz6_0,cSz6_0,HGz6,hgz6,HSz6_0⟩:=HI0.out;have aZ:=cellS82_0 HGz6;have a3:=cellS82_1 HGz6;have a4:=kF HGz6 1;clear HGz6 hgz6
  go_wp2
  repeat(go_quiet (fail);try go_wp2)
  go_meet
  case rel=>exact⟨_,(((s0_0.length:Int) == 0)),zt,H',zo,⟨zIs HI0⟩,⟨zKp HK⟩,⟨zBw HB⟩⟩
 case rest =>
  clear au;(try clear av);(try clear aw);(try clear ax);obtain⟨kq,ac,rfl,HA,bi,HI0,HK,HB⟩:=hcut
  cases kq with
  | zero=>exact absurd HA.out (by simp [s1a_.j0])
  | succ bj =>
   have H:=HA.out;clear HA;simp only [s1a_.j0] at H
   by_cases c7:ac=true
   ·subst c7
    have H1:(some (0,(wrap64 (s0_1+1))))=some (r1,r2):=by rw [if_pos rfl] at H;exact H
    clear H;have H:=H1;clear H1;simp only [Option.some.injEq,Prod.mk.injEq] at H;obtain⟨rfl,rfl⟩:=H
    go_wp2
    repeat(go_quiet (fail);try go_wp2)
    go_ret
    exact⟨by first|rfl|(simp [*] <;> rfl),zIs HI0,zBw HB,zKp HK⟩
   replace c7:=Bool.eq_false_iff.mpr c7;subst c7
   have H1:(if (wrap64 ((wrap64 (s0_1+1)) - 1))<(s0_0.length:Int) then (if 0≤(wrap64 ((wrap64 (s0_1+1)) - 1)) then (if a1=0 then (none) else (some (Int.tmod (wrap64 (rd s0_0 (wrap64 ((wrap64 (s0_1+1)) - 1)))) a1,(wrap64 (s0_1+1))))) else (none)) else (if (s0_0.length:Int)=0 then (none) else (if 0≤(Int.tmod (wrap64 ((wrap64 (s0_1+1)) - 1)) (s0_0.length:Int)) then (if (Int.tmod (wrap64 ((wrap64 (s0_1+1)) - 1)) (s0_0.length:Int))<(s0_0.length:Int) then (if 0≤(Int.tmod (wrap64 ((wrap64 ((wrap64 ((wrap64 (s0_1+1)) - 1))*7))+3)) (s0_0.length:Int)) then (if (Int.tmod (wrap64 ((wrap64 ((wrap64 ((wrap64 (s0_1+1)) - 1))*7))+3)) (s0_0.length:Int))<(s0_0.length:Int) then (if a1=0 then (none) else (some (Int.tmod (Go.bits .xor .i64 (wrap64 ((wrap64 ((wrap64 ((wrap64 ((wrap64 (rd s0_0 (Int.tmod (wrap64 ((wrap64 (s0_1+1)) - 1)) (s0_0.length:Int))))*131))+(wrap64 ((wrap64 (rd s0_0 (Int.tmod (wrap64 ((wrap64 ((wrap64 ((wrap64 (s0_1+1)) - 1))*7))+3)) (s0_0.length:Int))))*1117))))+(wrap64 ((wrap64 ((wrap64 (s0_1+1)) - 1))*29))))+(wrap64 ((wrap64 (Int.tdiv (wrap64 ((wrap64 (s0_1+1)) - 1)) (s0_0.length:Int)))*53)))) (wrap64 (Int.tdiv (wrap64 ((wrap64 ((wrap64 ((wrap64 ((wrap64 (rd s0_0 (Int.tmod (wrap64 ((wrap64 (s0_1+1)) - 1)) (s0_0.length:Int))))*131))+(wrap64 ((wrap64 (rd s0_0 (Int.tmod (wrap64 ((wrap64 ((wrap64 ((wrap64 (s0_1+1)) - 1))*7))+3)) (s0_0.length:Int))))*1117))))+(wrap64 ((wrap64 ((wrap64 (s0_1+1)) - 1))*29))))+(wrap64 ((wrap64 (Int.tdiv (wrap64 ((wrap64 (s0_1+1)) - 1)) (s0_0.length:Int)))*53)))) 64))) a1,(wrap64 (s0_1+1))))) else (none)) else (none)) else (none)) else (none))))=some (r1,r2):=by rw [if_neg (show ¬ (false=true) by decide)] at H;exact H
   clear H;have H:=H1;clear H1
   by_cases c8:(wrap64 ((wrap64 (s0_1+1)) - 1))<(s0_0.length:Int)
   ·rw [if_pos c8] at H
    have ay:=dT c8;clear c8
    obtain⟨ag,af⟩ : ∃ j_:Int,(wrap64 ((wrap64 (s0_1+1)) - 1))=j_:=⟨_,rfl⟩
    replace H:(if 0≤(ag) then (if a1=0 then (none) else (some (Int.tmod (wrap64 (rd s0_0 (ag))) a1,(wrap64 (s0_1+1))))) else (none))=some (r1,r2):=by first|(rw [af] at H;exact H)|(simp only [af] at H ⊢;exact H)
    (try rw [af] at ay)
    have hji9w:(IntKind.i64.wrap ((wrap64 (s0_1+1)) - 1))=ag:=(i64_w _).trans af
    have aD:=zpc H;replace H:=zph H
    have a5:=dT aD;clear aD
    have aE:=zqc H;replace H:=zqh H
    have a6:(a1 == 0)=false:=beq_eq_false_iff_ne.mpr aE
    have a7:(a1 != 0)=true:=bne_iff_ne.mpr aE
    simp only [Option.some.injEq,Prod.mk.injEq] at H;obtain⟨rfl,rfl⟩:=H;obtain⟨ASz12_0,cSz12_0,HGz12,hgz12,HSz12_0⟩:=HI0.out;have aT:=cellS82_0 HGz12;have aU:=cellS82_1 HGz12;have aV:=kF HGz12 1;clear HGz12 hgz12
    have am:0≤((ag):Int):=zd
    have an:(ag)<(s0_0.length:Int):=zd
    obtain⟨a8,aM,ah⟩:=tI HSz12_0 (ag) am an
    cases aM
    replace ah:=pw_cell_below HB.out ah
    replace am:=eq_true am;replace an:=eq_true an
    go_wp2
    repeat(go_quiet (fail);try go_wp2)
    go_ret
    exact⟨by first|rfl|(simp [errW_none,errW_some] <;> rfl)|(simp only [← af];first|rfl|(simp [errW_none,errW_some] <;> rfl))|(simp [*,errW_none,errW_some] <;> rfl),zIs HI0,zBw HB,zKp HK⟩
   rw [if_neg c8] at H;have ay:=dF c8;clear c8
   have az:=zqc H;replace H:=zqh H
   have a9:((s0_0.length:Int) == 0)=false:=beq_eq_false_iff_ne.mpr az
   have ba:((s0_0.length:Int) != 0)=true:=bne_iff_ne.mpr az
   have bb : ¬ (s0_0 = []):=fun h_=>az (by rw [h_];rfl)
   obtain⟨aa,ak⟩ : ∃ j_:Int,(Int.tmod (wrap64 ((wrap64 (s0_1+1)) - 1)) (s0_0.length:Int))=j_:=⟨_,rfl⟩
   replace H:(if 0≤(aa) then (if (aa)<(s0_0.length:Int) then (if 0≤(Int.tmod (wrap64 ((wrap64 ((wrap64 ((wrap64 (s0_1+1)) - 1))*7))+3)) (s0_0.length:Int)) then (if (Int.tmod (wrap64 ((wrap64 ((wrap64 ((wrap64 (s0_1+1)) - 1))*7))+3)) (s0_0.length:Int))<(s0_0.length:Int) then (if a1=0 then (none) else (some (Int.tmod (Go.bits .xor .i64 (wrap64 ((wrap64 ((wrap64 ((wrap64 ((wrap64 (rd s0_0 (aa)))*131))+(wrap64 ((wrap64 (rd s0_0 (Int.tmod (wrap64 ((wrap64 ((wrap64 ((wrap64 (s0_1+1)) - 1))*7))+3)) (s0_0.length:Int))))*1117))))+(wrap64 ((wrap64 ((wrap64 (s0_1+1)) - 1))*29))))+(wrap64 ((wrap64 (Int.tdiv (wrap64 ((wrap64 (s0_1+1)) - 1)) (s0_0.length:Int)))*53)))) (wrap64 (Int.tdiv (wrap64 ((wrap64 ((wrap64 ((wrap64 ((wrap64 (rd s0_0 (aa)))*131))+(wrap64 ((wrap64 (rd s0_0 (Int.tmod (wrap64 ((wrap64 ((wrap64 ((wrap64 (s0_1+1)) - 1))*7))+3)) (s0_0.length:Int))))*1117))))+(wrap64 ((wrap64 ((wrap64 (s0_1+1)) - 1))*29))))+(wrap64 ((wrap64 (Int.tdiv (wrap64 ((wrap64 (s0_1+1)) - 1)) (s0_0.length:Int)))*53)))) 64))) a1,(wrap64 (s0_1+1))))) else (none)) else (none)) else (none)) else (none))=some (r1,r2):=by first|(rw [ak] at H;exact H)|(simp only [ak] at H ⊢;exact H)
   have aG:=zpc H;replace H:=zph H
   have bc:=dT aG;clear aG
   have aH:=zpc H;replace H:=zph H
   have bd:=dT aH;clear aH
   obtain⟨ab,al⟩ : ∃ j_:Int,(Int.tmod (wrap64 ((wrap64 ((wrap64 ((wrap64 (s0_1+1)) - 1))*7))+3)) (s0_0.length:Int))=j_:=⟨_,rfl⟩
   replace H:(if 0≤(ab) then (if (ab)<(s0_0.length:Int) then (if a1=0 then (none) else (some (Int.tmod (Go.bits .xor .i64 (wrap64 ((wrap64 ((wrap64 ((wrap64 ((wrap64 (rd s0_0 (aa)))*131))+(wrap64 ((wrap64 (rd s0_0 (ab)))*1117))))+(wrap64 ((wrap64 ((wrap64 (s0_1+1)) - 1))*29))))+(wrap64 ((wrap64 (Int.tdiv (wrap64 ((wrap64 (s0_1+1)) - 1)) (s0_0.length:Int)))*53)))) (wrap64 (Int.tdiv (wrap64 ((wrap64 ((wrap64 ((wrap64 ((wrap64 (rd s0_0 (aa)))*131))+(wrap64 ((wrap64 (rd s0_0 (ab)))*1117))))+(wrap64 ((wrap64 ((wrap64 (s0_1+1)) - 1))*29))))+(wrap64 ((wrap64 (Int.tdiv (wrap64 ((wrap64 (s0_1+1)) - 1)) (s0_0.length:Int)))*53)))) 64))) a1,(wrap64 (s0_1+1))))) else (none)) else (none))=some (r1,r2):=by first|(rw [al] at H;exact H)|(simp only [al] at H ⊢;exact H)
   have aI:=zpc H;replace H:=zph H
   have be:=dT aI;clear aI
   have aJ:=zpc H;replace H:=zph H
   have bf:=dT aJ;clear aJ
   have aK:=zqc H;replace H:=zqh H
   have bg:(a1 == 0)=false:=beq_eq_false_iff_ne.mpr aK
   have bh:(a1 != 0)=true:=bne_iff_ne.mpr aK
   simp only [Option.some.injEq,Prod.mk.injEq] at H;obtain⟨rfl,rfl⟩:=H;obtain⟨ASz21_0,cSz21_0,HGz21,hgz21,HSz21_0⟩:=HI0.out;have aW:=cellS82_0 HGz21;have aX:=cellS82_1 HGz21;have aY:=kF HGz21 1;clear HGz21 hgz21
   have ao:0≤((aa):Int):=zd
   have ap:(aa)<(s0_0.length:Int):=zd
   obtain⟨aA,aN,ai⟩:=tI HSz21_0 (aa) ao ap
   cases aN
   replace ai:=pw_cell_below HB.out ai
   replace ao:=eq_true ao;replace ap:=eq_true ap
   have aq:0≤((ab):Int):=zd
   have ar:(ab)<(s0_0.length:Int):=zd
   obtain⟨aC,aQ,aj⟩:=tI HSz21_0 (ab) aq ar
   obtain rfl:aA=aC:=(by injection aQ)
   replace aj:=pw_cell_below HB.out aj
   replace aq:=eq_true aq;replace ar:=eq_true ar
   go_wp2
   repeat(go_quiet (fail);try go_wp2)
   go_ret
   exact⟨by first|rfl|(simp [errW_none,errW_some] <;> rfl)|(simp only [← ak,← al];first|rfl|(simp [errW_none,errW_some] <;> rfl))|(simp [*,errW_none,errW_some] <;> rfl),zIs HI0,zBw HB,zKp HK⟩
def s18_.f (a0:Int) (a1:Int) (a2:Int):Option (Bool):=if a0≥a1 then (some (decide (a0≤a2))) else (some false)
theorem s18_.calls (a0:Int) (a1:Int) (a2:Int) (r:Bool) (w:World) (h:s18_.f a0 a1 a2=some r) :
    Calls Try.prog 101 #[.int .i64 a0,.int .i64 a1,.int .i64 a2] w fun e w'=>e = .returned (.bool r)∧Drawn0 w w':=by
 have H:(if a0≥a1 then (some (decide (a0≤a2))) else (some false))=some r:=h
 clear h
 by_cases c4:a0≥a1
 ·rw [if_pos c4] at H
  have aa:decide (a1≤a0)=true:=dT c4
  clear c4;obtain rfl:=sI H
  go_enter Try.func101,Try.ntmps101
  go_wp2
  go_ret
  exact⟨by first|rfl|(simp;done)|(simp [*];done),by repeat(first|exact Drawn0.refl _|apply Drawn0.step)⟩
 rw [if_neg c4] at H
 have aa:decide (a1≤a0)=false:=dF c4
 clear c4;obtain rfl:=sI H
 go_enter Try.func101,Try.ntmps101
 go_wp2
 go_ret
 exact⟨by first|rfl|(simp;done)|(simp [*];done),by repeat(first|exact Drawn0.refl _|apply Drawn0.step)⟩
mutual
def sy_.l0:Nat→List Int→Int→Option (Bool)
  | 0,_,_=>none
  | k+1,x0,x3=>if x3<(x0.length:Int) then (if 0≤x3 then ((s18_.f (rd x0 x3) 0 (wrap64 ((x0.length:Int) - 1))).bind fun aa=>(if aa=true then (sy_.l1 k x0 x3 0) else (some false))) else (none)) else ((s18_.f (x0.length:Int) 1 12).bind fun ab=>(some ab))
def sy_.l1:Nat→List Int→Int→Int→Option (Bool)
  | 0,_,_,_=>none
  | k+1,x0,x3,x4=>if x4<x3 then (if 0≤x4 then (if x4<(x0.length:Int) then (if 0≤x3 then (if x3<(x0.length:Int) then (if (rd x0 x4)=(rd x0 x3) then (some false) else (sy_.l1 k x0 x3 (wrap64 (x4+1)))) else (none)) else (none)) else (none)) else (none)) else (sy_.l0 k x0 (wrap64 (x3+1)))
end
def sy_.f (k:Nat) (l0:List Int):Option (Bool):=sy_.l0 k l0 0
theorem sy_.calls (k:Nat) (A0:Option Addr) (c0:Nat) (l0:List Int) (r:Bool) (w:World) (aE:Kd.C (Kd.int .i64) w A0 l0.length l0) (aG:l0.length≤c0) (h:sy_.f k l0=some r) :
    Calls Try.prog 89 #[.slice A0 l0.length c0] w fun e w'=>e = .returned (.bool r)∧Drawn0 w w':=by
 have al:=A0_ aE;have aU:=A0_ aG;clear aE aG
 have H:(sy_.l0 k l0 0)=some r:=h
 clear h;have H':=A0_ H;clear H
 go_enter Try.func89,Try.ntmps89
 go_wp2
 repeat(go_quiet (fail);try go_wp2)
 go_loopg [3] k (fun kq v3 w' => ∃ (aa:Int),v3 = .int .i64 aa∧Aside0 (sy_.l0 kq l0 aa=some r)∧Aside0 (kq≤k)∧Drawn0 w w')
 case atStart=>exact⟨(0),zt,H',⟨Nat.le_refl _⟩,by repeat(first|exact Drawn0.refl _|apply Drawn0.step)⟩
 case round =>
  clear H';obtain⟨aa,rfl,HA,av,⟨m1,rfl⟩⟩:=hrel
  cases gk with
  | zero=>exact absurd HA.out (by simp [sy_.l0])
  | succ k1 =>
   have H:=HA.out;clear HA;simp only [sy_.l0] at H
   by_cases c2:aa<(l0.length:Int)
   ·rw [if_pos c2] at H
    have az:=dT c2;clear c2
    have c3:=zpc H;replace H:=zph H
    have aI:=dT c3;clear c3;obtain⟨aJ,A4,H⟩:=zbind H
    by_cases c5:aJ=true
    ·subst c5
     rw [if_pos rfl] at H;have H':=A0_ H;clear H
     have ac:0≤(aa:Int):=zd
     have ae:aa<(l0.length:Int):=zd
     obtain⟨af,ap,am⟩:=tI al.out aa ac ae
     cases ap
     replace ac:=eq_true ac;replace ae:=eq_true ae
     go_wp2_with (first|(go_at_call 101;(with_reducible refine(s18_.calls (rd l0 aa) 0 (wrap64 ((l0.length:Int) - 1)) true _ A4.out).mono ?_);rintro e w' ⟨rfl,⟨nd,rfl⟩⟩;(try first|exact⟨rfl,_,World.drewN_drewN _ _ _⟩|exact⟨rfl,_,Eq.trans (World.drewN_drewN _ _ _) (congrArg (World.drewN _) (Nat.add_assoc _ _ _))⟩)))
     repeat(go_quiet (first|(go_at_call 101;(with_reducible refine(s18_.calls (rd l0 aa) 0 (wrap64 ((l0.length:Int) - 1)) true _ A4.out).mono ?_);rintro e w' ⟨rfl,⟨nd,rfl⟩⟩;(try first|exact⟨rfl,_,World.drewN_drewN _ _ _⟩|exact⟨rfl,_,Eq.trans (World.drewN_drewN _ _ _) (congrArg (World.drewN _) (Nat.add_assoc _ _ _))⟩)));try go_wp2_with (first|(go_at_call 101;(with_reducible refine(s18_.calls (rd l0 aa) 0 (wrap64 ((l0.length:Int) - 1)) true _ A4.out).mono ?_);rintro e w' ⟨rfl,⟨nd,rfl⟩⟩;(try first|exact⟨rfl,_,World.drewN_drewN _ _ _⟩|exact⟨rfl,_,Eq.trans (World.drewN_drewN _ _ _) (congrArg (World.drewN _) (Nat.add_assoc _ _ _))⟩))))
     (try generalize Value.pointer (some (af.add (aa:Int).toNat))=pz_)
     go_loopg [4] k1 (fun kq v4 w' => ∃ (ab:Int),v4 = .int .i64 ab∧Aside0 (sy_.l1 kq l0 aa ab=some r)∧Aside0 (kq≤k1)∧Drawn0 w w')
     case atStart=>exact⟨(0),zt,H',⟨Nat.le_refl _⟩,by repeat(first|exact Drawn0.refl _|apply Drawn0.step)⟩
     case round =>
      clear H';(try clear c2);(try clear az);(try clear c3);(try clear aI);(try clear c5);(try clear am);(try clear ac);(try clear ae);obtain⟨ab,rfl,HA,aw,⟨m2,rfl⟩⟩:=hrel
      cases gk with
      | zero=>exact absurd HA.out (by simp [sy_.l1])
      | succ k2 =>
       have H:=HA.out;clear HA;simp only [sy_.l1] at H
       by_cases c6:ab<aa
       ·rw [if_pos c6] at H
        have aK:=dT c6;clear c6
        have c7:=zpc H;replace H:=zph H
        have aN:=dT c7;clear c7
        have c8:=zpc H;replace H:=zph H
        have aQ:=dT c8;clear c8
        have c9:=zpc H;replace H:=zph H
        have aT:=dT c9;clear c9
        have aH:=zpc H;replace H:=zph H
        have aM:=dT aH;clear aH
        by_cases ak:(rd l0 ab)=(rd l0 aa)
        ·rw [if_pos ak] at H
         have aC:((rd l0 ab) == (rd l0 aa))=true:=beq_iff_eq.mpr ak
         have aD:((rd l0 ab) != (rd l0 aa))=false:=bne_eq_false_iff_eq.mpr ak
         clear ak;obtain rfl:=sI H
         have ag:0≤(ab:Int):=zd
         have ah:ab<(l0.length:Int):=zd
         obtain⟨an,aq,ax⟩:=tI al.out ab ag ah
         obtain rfl:af=an:=(by injection aq)
         replace ag:=eq_true ag;replace ah:=eq_true ah
         have ai:0≤(aa:Int):=zd
         have aj:aa<(l0.length:Int):=zd
         obtain⟨ao,ar,ay⟩:=tI al.out aa ai aj
         obtain rfl:af=ao:=(by injection ar)
         replace ai:=eq_true ai;replace aj:=eq_true aj
         go_wp2
         repeat(go_quiet (fail);try go_wp2)
         go_ret
         exact⟨by first|rfl|(simp;done)|(simp [*];done),by repeat(first|exact Drawn0.refl _|apply Drawn0.step)⟩
        rw [if_neg ak] at H
        have aC:((rd l0 ab) == (rd l0 aa))=false:=beq_eq_false_iff_ne.mpr ak
        have aD:((rd l0 ab) != (rd l0 aa))=true:=bne_iff_ne.mpr ak
        have H':=A0_ H;clear H
        have ag:0≤(ab:Int):=zd
        have ah:ab<(l0.length:Int):=zd
        obtain⟨an,aq,ax⟩:=tI al.out ab ag ah
        obtain rfl:af=an:=(by injection aq)
        replace ag:=eq_true ag;replace ah:=eq_true ah
        have ai:0≤(aa:Int):=zd
        have aj:aa<(l0.length:Int):=zd
        obtain⟨ao,ar,ay⟩:=tI al.out aa ai aj
        obtain rfl:af=ao:=(by injection ar)
        replace ai:=eq_true ai;replace aj:=eq_true aj
        go_wp2
        repeat(go_quiet (fail);try go_wp2)
        go_roundg k2
        case measure=>have:=av.out;have:=aw.out;omega
        case rel=>exact⟨(wrap64 (ab+1)),zt,H',⟨by have:=av.out;have:=aw.out;omega⟩,by repeat(first|exact Drawn0.refl _|apply Drawn0.step)⟩
       rw [if_neg c6] at H;have aK:=dF c6;clear c6;have H':=A0_ H;clear H
       go_wp2
       repeat(go_quiet (fail);try go_wp2)
       go_roundg k2
       case measure=>have:=av.out;have:=aw.out;omega
       case rel=>exact⟨(wrap64 (aa+1)),zt,H',⟨by have:=av.out;have:=aw.out;omega⟩,by repeat(first|exact Drawn0.refl _|apply Drawn0.step)⟩
    replace c5:=Bool.eq_false_iff.mpr c5;subst c5
    rw [if_neg (show ¬ (false=true) by decide)] at H
    obtain rfl:=sI H
    have ac:0≤(aa:Int):=zd
    have ae:aa<(l0.length:Int):=zd
    obtain⟨af,ap,am⟩:=tI al.out aa ac ae
    cases ap
    replace ac:=eq_true ac;replace ae:=eq_true ae
    go_wp2_with (first|(go_at_call 101;(with_reducible refine(s18_.calls (rd l0 aa) 0 (wrap64 ((l0.length:Int) - 1)) false _ A4.out).mono ?_);rintro e w' ⟨rfl,⟨nd,rfl⟩⟩;(try first|exact⟨rfl,_,World.drewN_drewN _ _ _⟩|exact⟨rfl,_,Eq.trans (World.drewN_drewN _ _ _) (congrArg (World.drewN _) (Nat.add_assoc _ _ _))⟩)))
    repeat(go_quiet (first|(go_at_call 101;(with_reducible refine(s18_.calls (rd l0 aa) 0 (wrap64 ((l0.length:Int) - 1)) false _ A4.out).mono ?_);rintro e w' ⟨rfl,⟨nd,rfl⟩⟩;(try first|exact⟨rfl,_,World.drewN_drewN _ _ _⟩|exact⟨rfl,_,Eq.trans (World.drewN_drewN _ _ _) (congrArg (World.drewN _) (Nat.add_assoc _ _ _))⟩)));try go_wp2_with (first|(go_at_call 101;(with_reducible refine(s18_.calls (rd l0 aa) 0 (wrap64 ((l0.length:Int) - 1)) false _ A4.out).mono ?_);rintro e w' ⟨rfl,⟨nd,rfl⟩⟩;(try first|exact⟨rfl,_,World.drewN_drewN _ _ _⟩|exact⟨rfl,_,Eq.trans (World.drewN_drewN _ _ _) (congrArg (World.drewN _) (Nat.add_assoc _ _ _))⟩))))
    go_ret
    exact⟨by first|rfl|(simp;done)|(simp [*];done),by repeat(first|exact Drawn0.refl _|apply Drawn0.step)⟩
   rw [if_neg c2] at H;have az:=dF c2;clear c2;obtain⟨au,aA,H⟩:=zbind H;obtain rfl:=sI H
   go_wp2_with (first|(go_at_call 101;(with_reducible refine(s18_.calls (l0.length:Int) 1 12 au _ aA.out).mono ?_);rintro e w' ⟨rfl,⟨nd,rfl⟩⟩;(try first|exact⟨rfl,_,World.drewN_drewN _ _ _⟩|exact⟨rfl,_,Eq.trans (World.drewN_drewN _ _ _) (congrArg (World.drewN _) (Nat.add_assoc _ _ _))⟩)))
   repeat(go_quiet (first|(go_at_call 101;(with_reducible refine(s18_.calls (l0.length:Int) 1 12 au _ aA.out).mono ?_);rintro e w' ⟨rfl,⟨nd,rfl⟩⟩;(try first|exact⟨rfl,_,World.drewN_drewN _ _ _⟩|exact⟨rfl,_,Eq.trans (World.drewN_drewN _ _ _) (congrArg (World.drewN _) (Nat.add_assoc _ _ _))⟩)));try go_wp2_with (first|(go_at_call 101;(with_reducible refine(s18_.calls (l0.length:Int) 1 12 au _ aA.out).mono ?_);rintro e w' ⟨rfl,⟨nd,rfl⟩⟩;(try first|exact⟨rfl,_,World.drewN_drewN _ _ _⟩|exact⟨rfl,_,Eq.trans (World.drewN_drewN _ _ _) (congrArg (World.drewN _) (Nat.add_assoc _ _ _))⟩))))
   go_ret
   exact⟨by first|rfl|(simp;done)|(simp [*];done),by repeat(first|exact Drawn0.refl _|apply Drawn0.step)⟩
end Go.Proofs.Ytmegggomhjgehaa.PFnCoverTree
