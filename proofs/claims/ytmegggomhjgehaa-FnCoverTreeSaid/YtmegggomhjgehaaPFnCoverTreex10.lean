import Derived.Test.YtmegggomhjgehaaPFnCoverTreex9
namespace Go.Proofs.Ytmegggomhjgehaa.PFnCoverTree
open Go.RowKit Go.Proofs.YtmegggomhjgehaaW.PrintWords Go.Proofs.YtmegggomhjgehaaW.PrintLast Go.Proofs.YtmegggomhjgehaaW.PrintMore
set_option maxHeartbeats 8000000
set_option maxRecDepth 100000
attribute [local go_sem] max2_int min2_int max_two min_two max_three min_three max_four min_four
set_option linter.unusedVariables false
set_option linter.unusedSimpArgs false
def ii_.l0:Nat→Int→Int→List Int→List Int→List Int→List Int→Option (List Int×List Int)
  | 0,_,_,_,_,_,_=>none
  | k+1,ah,ag,aa,ab,ac,ae=>if ag<ah then ((ik_.f k aa ab ag).bind fun ai=>((im_.f k aa ab ai).bind fun af=>((ib_.f k af.1 af.2 ac ae).bind fun aj=>(if aj<0 then (ii_.l0 k ah (wrap64 (ag+1)) aa ab af.1 af.2) else (ii_.l0 k ah (wrap64 (ag+1)) aa ab ac ae))))) else (some (ac,ae))
def ii_.f (k:Nat) (aa:List Int) (ab:List Int):Option (List Int×List Int):=(ik_.f k aa ab 0).bind fun ae=>((im_.f k aa ab ae).bind fun ac=>(ii_.l0 k (aa.length:Int) 0 aa ab ac.1 ac.2))
theorem ii_.calls (k:Nat) (aI:Option Addr) (aJ:Nat) (an:List Int) (aK:Option Addr) (aM:Nat) (ao:List Int) (r1:List Int) (r2:List Int) (w:World) (ce:Kd.C (Kd.int .i64) w aI an.length an) (cf:an.length≤aJ) (cg:Kd.C (Kd.int .i64) w aK ao.length ao) (ch:ao.length≤aM) (h:ii_.f k an ao=some (r1,r2)) :
    Calls Try.prog 92 #[.agg #[.slice aI an.length aJ,.slice aK ao.length aM]] w fun e w' => ∃ v0_ v1_:Value,e = .returned (.agg #[v0_,v1_])∧Kd.R (Kd.int .i64) 3 w' w.heap.size (fun k_=>some k_≠(v1_:Value).ownBlock) v0_ r1∧Kd.R (Kd.int .i64) 3 w' w.heap.size (fun k_=>some k_≠(v0_:Value).ownBlock) v1_ r2∧Below w.heap.size w w':=by
 have eO:=Try.underlying25;have a9:=A0_ ce;have ba:=A0_ cf;clear ce cf;have bb:=A0_ cg;have bc:=A0_ ch;clear cg ch
 have HB:=A0_ (Below.refl w.heap.size w)
 have H:((ik_.f k an ao 0).bind fun bj=>((im_.f k an ao bj).bind fun ci=>(ii_.l0 k (an.length:Int) 0 an ao ci.1 ci.2)))=some (r1,r2):=h
 clear h;obtain⟨bj,A2,H⟩:=zbind H;obtain⟨⟨bp,bq⟩,A3,H⟩:=zbind H;dsimp only at H;have H':=A0_ H;clear H
 go_enter Try.func92,Try.ntmps92
 try go_wp2_with (first|((with_reducible refine gD (N:=1) rfl ?_);refine zX (N:=1) (cs := #[.slice aI an.length aJ,.slice aK ao.length aM]) (t:=25) ?_;intro av hg w4 hbox hb;have aa:=A0_ (hbox);have ea:=zG hg HB;have eb:=zG hg HB;replace HB:=zB HB hb;clear hb hbox hg)|((with_reducible refine gD (N:=2) rfl ?_);refine zX (N:=2) (cs := #[.slice none 0 0,.slice none 0 0]) (t:=25) ?_;intro aW hg w5 hbox hb;have ae:=A0_ (hbox);have ec:=zG hg HB;have ed:=zG hg HB;replace HB:=zB HB hb;have bI:=zL hg aa;have bJ:=zM hg aa;replace aa:=zK aa hb;clear hb hbox hg))
 replace aa:=A0_ (kD aa.out)
 replace ae:=A0_ (kD ae.out)
 replace HB:=A0_ (bD HB.out)
 refine start_ (n:=6) (S:=fun w'=>w'.cell? ⟨av,0,none⟩=some (.slice aI an.length aJ)∧w'.cell? ⟨av,1,none⟩=some (.slice aK ao.length aM)) (ds := []) (bs 6 0) (by kernel_rfl) rfl rfl ⟨(kC aa.out 0).trans rfl,(kC aa.out 1).trans rfl⟩ (fun hHeld => ?_)
 generalize w5.drew=w6 at aa ae HB hHeld ⊢
 refine zT0 0 (some 6) (bs 6 1) hHeld ?_
 refine zT0 1 (some 7) (bs 6 3) hHeld ?_
 refine join_ (σ:=Value×Value×Value×Nat) 1 (bs 6 31) (fun s_ => [(8,s_.1),(9,.agg #[s_.2.1,s_.2.2.1]),(3,.pointer (some ⟨s_.2.2.2,0,none⟩))]) (fun s_ w'=>(w'.cell? ⟨av,0,none⟩=some (.slice aI an.length aJ)∧w'.cell? ⟨av,1,none⟩=some (.slice aK ao.length aM))∧(Kd.R (Kd.int .i64) 3 w' w.heap.size (fun k_=>some k_≠(s_.2.1:Value).ownBlock∧some k_≠(s_.2.2.1:Value).ownBlock) s_.1 bj)∧(Kd.R (Kd.int .i64) 3 w' w.heap.size (fun k_=>some k_≠(s_.1:Value).ownBlock∧some k_≠(s_.2.2.1:Value).ownBlock) s_.2.1 bp)∧(Kd.R (Kd.int .i64) 3 w' w.heap.size (fun k_=>some k_≠(s_.1:Value).ownBlock∧some k_≠(s_.2.1:Value).ownBlock) s_.2.2.1 bq)∧(w'.heap[av]? = some (.cells #[.slice aI an.length aJ,.slice aK ao.length aM] 25 (0,0)))∧(w'.heap[aW]? = some (.cells #[.slice none 0 0,.slice none 0 0] 25 (0,0)))∧(w'.heap[s_.2.2.2]? = some (.cells #[.slice none 0 0,.slice none 0 0] 25 (0,0)))∧(w.heap.size≤s_.2.2.2)∧(w.heap.size≤s_.2.2.2)∧(av≠s_.2.2.2)∧(s_.2.2.2≠av)∧(aW≠s_.2.2.2)∧(s_.2.2.2≠aW)∧(Below w.heap.size w w')) ?_ ?_
 rotate_left
 ·intro hCont
  refine two_ (i:=2) (j:=4) (Ni:=some 8) (Nj:=some 3) (bs 6 7) (bs 6 19) rfl rfl rfl rfl (by kernel_rfl) (by decide) (by decide) (fun K hK => ?_) (fun K hK => ?_)
  ·skip
   refine zg Try.func61 #[.agg #[.slice aI an.length aJ,.slice aK ao.length aM],.int .i64 0] ?_
   with_reducible refine(ik_.calls k _ _ an _ _ ao 0 bj _ ?aC ?aD ?aE ?aG A2.out).mono ?_
   (case aC=>exact zC a9 HB)
   (case aD=>exact ba.out)
   (case aE=>exact zC bb HB)
   (case aG=>exact bc.out)
   rintro e w7 ⟨bK,rfl,ap,hb⟩
   refine⟨_,rfl,?_⟩
   have aH:=A0_ (rL ap (bZ (zB_ HB)))
   replace aa:=zK aa hb;replace ae:=zK ae hb;replace HB:=zB HB hb;(try clear hb);(try clear ap);obtain⟨cH,cI,cJ⟩:=rS aH.out
   (first|subst cJ|(injection cJ with f1_ f2_ f3_;have f4_:=f1_.symm;have f5_:=f3_.symm;clear f1_ f2_ f3_;subst f4_;subst f5_))
   refine hK.out _ _ ⟨(kC aa.out 0).trans rfl,(kC aa.out 1).trans rfl⟩ (fun hHeld => ?_)
   clear hK K
   refine zN (some 8) ?_
   refine two_ (i:=3) (j:=4) (Ni:=some 9) (Nj:=some 3) (bs 6 15) (bs 6 23) rfl rfl rfl rfl (by kernel_rfl) (by decide) (by decide) (fun K hK => ?_) (fun K hK => ?_)
   ·skip
    refine zg Try.func83 #[.agg #[.slice aI an.length aJ,.slice aK ao.length aM],.slice cH bj.length cI] ?_
    with_reducible refine(im_.calls k _ _ an _ _ ao _ _ bj bp bq _ ?aC ?aD ?aE ?aG ?aX ?aY A3.out).mono ?_
    (case aC=>exact zC a9 HB)
    (case aD=>exact ba.out)
    (case aE=>exact zC bb HB)
    (case aG=>exact bc.out)
    (case aX=>exact zD aH)
    (case aY=>exact(rR aH.out).2.1)
    rintro e w9 ⟨br,bu,rfl,ap,aT,hb⟩
    refine⟨_,rfl,?_⟩
    have bn:=A0_ (rL (Kd.R_new' ap (rX (zR_ aH))) (bZ (zB_ HB)))
    have bo:=A0_ (rL (Kd.R_new' aT (rX (zR_ aH))) (bZ (zB_ HB)))
    replace aH:=A0_ (rM (rT (rT (rO (zR_ aH) hb) (Kd.R_base ap)) (Kd.R_base aT)) (fun _ h_=>h_.1))
    replace aa:=zK aa hb;replace ae:=zK ae hb;replace HB:=zB HB hb;(try clear hb);(try clear ap);(try clear aT)
    refine hK.out _ _ ⟨(kC aa.out 0).trans rfl,(kC aa.out 1).trans rfl⟩ (fun hHeld => ?_)
    clear hK K
    refine zN (some 9) ?_
    refine one_ (i:=4) (N:=some 3) (bs 6 31) rfl rfl (by kernel_rfl) (by decide) (fun K hK => ?_)
    refine zbx (N:=3) (cs := #[.slice none 0 0,.slice none 0 0]) (t:=25) ?_
    intro am hg w10 hbox hb
    replace aH:=zR aH hb;replace bn:=zR bn hb;replace bo:=zR bo hb
    have af:=A0_ (hbox)
    have bz:=zG hg HB;have bB:=zG hg HB;replace HB:=zB HB hb;have ax:=zL hg aa;have aV:=zM hg aa;replace aa:=zK aa hb;have aU:=zL hg ae;have aZ:=zM hg ae;replace ae:=zK ae hb;clear hb hbox hg
    refine hK.out _ _ ⟨(kC aa.out 0).trans rfl,(kC aa.out 1).trans rfl⟩ (fun hHeld => ?_)
    clear hK K
    refine zN (some 3) ?_
    exact norm_ zA (hCont (.slice cH bj.length cI,br,bu,am) _ ⟨hHeld,(zmR aH (fun _ hk=>⟨hk.1.2,hk.2⟩)),(zmR bn (fun _ hk=>⟨hk.2,hk.1⟩)),(zmR bo (fun _ hk=>⟨hk.2,hk.1⟩)),(zK_ aa),(zK_ ae),(zK_ af),bz.out,bB.out,ax.out,aV.out,aU.out,aZ.out,(zB_ HB)⟩)
   skip
   refine zbx (N:=3) (cs := #[.slice none 0 0,.slice none 0 0]) (t:=25) ?_
   intro am hg w8 hbox hb
   replace aH:=zR aH hb
   have af:=A0_ (hbox)
   have bz:=zG hg HB;have bB:=zG hg HB;replace HB:=zB HB hb;have ax:=zL hg aa;have aV:=zM hg aa;replace aa:=zK aa hb;have aU:=zL hg ae;have aZ:=zM hg ae;replace ae:=zK ae hb;clear hb hbox hg;obtain⟨b6,b7,b8⟩:=rS aH.out
   (first|subst b8|(injection b8 with f1_ f2_ f3_;have f4_:=f1_.symm;have f5_:=f3_.symm;clear f1_ f2_ f3_;subst f4_;subst f5_))
   refine hK.out _ _ ⟨(kC aa.out 0).trans rfl,(kC aa.out 1).trans rfl⟩ (fun hHeld => ?_)
   clear hK K
   refine zN (some 3) ?_
   refine one_ (i:=3) (N:=some 9) (bs 6 31) rfl rfl (by kernel_rfl) (by decide) (fun K hK => ?_)
   refine zg Try.func83 #[.agg #[.slice aI an.length aJ,.slice aK ao.length aM],.slice b6 bj.length b7] ?_
   with_reducible refine(im_.calls k _ _ an _ _ ao _ _ bj bp bq _ ?aC ?aD ?aE ?aG ?aX ?aY A3.out).mono ?_
   (case aC=>exact zC a9 HB)
   (case aD=>exact ba.out)
   (case aE=>exact zC bb HB)
   (case aG=>exact bc.out)
   (case aX=>exact zD aH)
   (case aY=>exact(rR aH.out).2.1)
   rintro e w10 ⟨br,bu,rfl,ap,aT,hb⟩
   refine⟨_,rfl,?_⟩
   have bn:=A0_ (rL (Kd.R_new' ap (rX (zR_ aH))) (bZ (zB_ HB)))
   have bo:=A0_ (rL (Kd.R_new' aT (rX (zR_ aH))) (bZ (zB_ HB)))
   replace aH:=A0_ (rM (rT (rT (rO (zR_ aH) hb) (Kd.R_base ap)) (Kd.R_base aT)) (fun _ h_=>h_.1))
   replace aa:=zK aa hb;replace ae:=zK ae hb;replace af:=zK af hb;replace HB:=zB HB hb;(try clear hb);(try clear ap);(try clear aT)
   refine hK.out _ _ ⟨(kC aa.out 0).trans rfl,(kC aa.out 1).trans rfl⟩ (fun hHeld => ?_)
   clear hK K
   refine zN (some 9) ?_
   exact norm_ zA (hCont (.slice b6 bj.length b7,br,bu,am) _ ⟨hHeld,(zmR aH (fun _ hk=>⟨hk.1.2,hk.2⟩)),(zmR bn (fun _ hk=>⟨hk.2,hk.1⟩)),(zmR bo (fun _ hk=>⟨hk.2,hk.1⟩)),(zK_ aa),(zK_ ae),(zK_ af),bz.out,bB.out,ax.out,aV.out,aU.out,aZ.out,(zB_ HB)⟩)
  skip
  refine zbx (N:=3) (cs := #[.slice none 0 0,.slice none 0 0]) (t:=25) ?_
  intro am hg w7 hbox hb
  have af:=A0_ (hbox)
  have bz:=zG hg HB;have bB:=zG hg HB;replace HB:=zB HB hb;have ax:=zL hg aa;have aV:=zM hg aa;replace aa:=zK aa hb;have aU:=zL hg ae;have aZ:=zM hg ae;replace ae:=zK ae hb;clear hb hbox hg
  refine hK.out _ _ ⟨(kC aa.out 0).trans rfl,(kC aa.out 1).trans rfl⟩ (fun hHeld => ?_)
  clear hK K
  refine zN (some 3) ?_
  refine one_ (i:=2) (N:=some 8) (bs 6 23) rfl rfl (by kernel_rfl) (by decide) (fun K hK => ?_)
  refine zg Try.func61 #[.agg #[.slice aI an.length aJ,.slice aK ao.length aM],.int .i64 0] ?_
  with_reducible refine(ik_.calls k _ _ an _ _ ao 0 bj _ ?aC ?aD ?aE ?aG A2.out).mono ?_
  (case aC=>exact zC a9 HB)
  (case aD=>exact ba.out)
  (case aE=>exact zC bb HB)
  (case aG=>exact bc.out)
  rintro e w8 ⟨bK,rfl,ap,hb⟩
  refine⟨_,rfl,?_⟩
  have aH:=A0_ (rL ap (bZ (zB_ HB)))
  replace aa:=zK aa hb;replace ae:=zK ae hb;replace af:=zK af hb;replace HB:=zB HB hb;(try clear hb);(try clear ap);obtain⟨b6,b7,b8⟩:=rS aH.out
  (first|subst b8|(injection b8 with f1_ f2_ f3_;have f4_:=f1_.symm;have f5_:=f3_.symm;clear f1_ f2_ f3_;subst f4_;subst f5_))
  refine hK.out _ _ ⟨(kC aa.out 0).trans rfl,(kC aa.out 1).trans rfl⟩ (fun hHeld => ?_)
  clear hK K
  refine zN (some 8) ?_
  refine one_ (i:=3) (N:=some 9) (bs 6 31) rfl rfl (by kernel_rfl) (by decide) (fun K hK => ?_)
  refine zg Try.func83 #[.agg #[.slice aI an.length aJ,.slice aK ao.length aM],.slice b6 bj.length b7] ?_
  with_reducible refine(im_.calls k _ _ an _ _ ao _ _ bj bp bq _ ?aC ?aD ?aE ?aG ?aX ?aY A3.out).mono ?_
  (case aC=>exact zC a9 HB)
  (case aD=>exact ba.out)
  (case aE=>exact zC bb HB)
  (case aG=>exact bc.out)
  (case aX=>exact zD aH)
  (case aY=>exact(rR aH.out).2.1)
  rintro e w10 ⟨br,bu,rfl,ap,aT,hb⟩
  refine⟨_,rfl,?_⟩
  have bn:=A0_ (rL (Kd.R_new' ap (rX (zR_ aH))) (bZ (zB_ HB)))
  have bo:=A0_ (rL (Kd.R_new' aT (rX (zR_ aH))) (bZ (zB_ HB)))
  replace aH:=A0_ (rM (rT (rT (rO (zR_ aH) hb) (Kd.R_base ap)) (Kd.R_base aT)) (fun _ h_=>h_.1))
  replace aa:=zK aa hb;replace ae:=zK ae hb;replace af:=zK af hb;replace HB:=zB HB hb;(try clear hb);(try clear ap);(try clear aT)
  refine hK.out _ _ ⟨(kC aa.out 0).trans rfl,(kC aa.out 1).trans rfl⟩ (fun hHeld => ?_)
  clear hK K
  refine zN (some 9) ?_
  exact norm_ zA (hCont (.slice b6 bj.length b7,br,bu,am) _ ⟨hHeld,(zmR aH (fun _ hk=>⟨hk.1.2,hk.2⟩)),(zmR bn (fun _ hk=>⟨hk.2,hk.1⟩)),(zmR bo (fun _ hk=>⟨hk.2,hk.1⟩)),(zK_ aa),(zK_ ae),(zK_ af),bz.out,bB.out,ax.out,aV.out,aU.out,aZ.out,(zB_ HB)⟩)
 rintro⟨bK,br,bu,am⟩ w11 ⟨hS_,h0_,h1_,h2_,h3_,h4_,h5_,h6_,h7_,h8_,h9_,h10_,h11_,h12_⟩
 have aH:Aside0 (Kd.R (Kd.int .i64) 3 w11 w.heap.size (fun k_=>some k_≠(br:Value).ownBlock∧some k_≠(bu:Value).ownBlock) bK bj):=⟨h0_⟩
 have bn:Aside0 (Kd.R (Kd.int .i64) 3 w11 w.heap.size (fun k_=>some k_≠(bK:Value).ownBlock∧some k_≠(bu:Value).ownBlock) br bp):=⟨h1_⟩
 have bo:Aside0 (Kd.R (Kd.int .i64) 3 w11 w.heap.size (fun k_=>some k_≠(bK:Value).ownBlock∧some k_≠(br:Value).ownBlock) bu bq):=⟨h2_⟩
 replace aa:Aside0 (w11.heap[av]? = some (.cells #[.slice aI an.length aJ,.slice aK ao.length aM] 25 (0,0))):=⟨h3_⟩
 replace ae:Aside0 (w11.heap[aW]? = some (.cells #[.slice none 0 0,.slice none 0 0] 25 (0,0))):=⟨h4_⟩
 have af:Aside0 (w11.heap[am]? = some (.cells #[.slice none 0 0,.slice none 0 0] 25 (0,0))):=⟨h5_⟩
 have bz:Aside0 (w.heap.size≤am):=⟨h6_⟩
 have bB:Aside0 (w.heap.size≤am):=⟨h7_⟩
 have ax:Aside0 (av≠am):=⟨h8_⟩
 have aV:Aside0 (am≠av):=⟨h9_⟩
 have aU:Aside0 (aW≠am):=⟨h10_⟩
 have aZ:Aside0 (am≠aW):=⟨h11_⟩
 replace HB:Aside0 (Below w.heap.size w w11):=⟨h12_⟩
 clear h0_ h1_ h2_ h3_ h4_ h5_ h6_ h7_ h8_ h9_ h10_ h11_ h12_
 have hHeld:w11.cell? ⟨av,0,none⟩=some (.slice aI an.length aJ)∧w11.cell? ⟨av,1,none⟩=some (.slice aK ao.length aM):=hS_
 obtain⟨bX,bY,cp⟩:=rS bn.out
 (first|subst cp|(injection cp with f1_ f2_ f3_;have f4_:=f1_.symm;have f5_:=f3_.symm;clear f1_ f2_ f3_;subst f4_;subst f5_))
 obtain⟨b9,ca,cq⟩:=rS bo.out
 (first|subst cq|(injection cq with f1_ f2_ f3_;have f4_:=f1_.symm;have f5_:=f3_.symm;clear f1_ f2_ f3_;subst f4_;subst f5_))
 refine norm_ (a' := ?_) ?_ ?_
 rotate_left
 ·simp only [putAll,Act.put,List.setIfInBounds_toArray,List.set_cons_zero,List.set_cons_succ]
  rfl
 refine one_ (i:=5) (N:=none) (bs 6 63) rfl rfl (by kernel_rfl) (by decide) (fun K hK => ?_)
 have eP:w11.cell? ⟨am,0,none⟩=some (.slice none 0 0):=(kC af.out 0).trans rfl
 have ee:=kF af.out 0;have cS:=ax.out;have cT:=aU.out;have cU:=aV.out;have cV:=aZ.out
 have eQ:w11.cell? ⟨am,1,none⟩=some (.slice none 0 0):=(kC af.out 1).trans rfl
 have ef:=kF af.out 1;have cW:=ax.out;have cX:=aU.out;have cY:=aV.out;have cZ:=aZ.out
 refine skip_ (w1 := ?_) (by rfl) rfl ?_ ?_
 rotate_left
 ·go_simp
  rfl
 refine hK.out _ _ ⟨((cell_far (p:=⟨am,_,none⟩) ax.out _).trans (((cell_far (p:=⟨am,_,none⟩) ax.out _).trans (hHeld.1)))),((cell_far (p:=⟨am,_,none⟩) ax.out _).trans (((cell_far (p:=⟨am,_,none⟩) ax.out _).trans (hHeld.2))))⟩ (fun hHeld => ?_)
 clear hK K
 refine done_ (by kernel_rfl) ?_
 have eg:=bI.out;have eh:=bJ.out;have ei:=ax.out;have ej:=aV.out;have cl:=zc0 aa;have cm:=zc1 aa;have cn:=kF aa.out 0;have co:=kF aa.out 1
 try go_wp2
 go_loopg [13] k (fun kq v13 w' => ∃ (bf:Int) (aj:List Int) (ak:List Int) (u404000:Value) (u404001:Value),v13 = .int .i64 bf∧Aside0 (ii_.l0 kq (an.length:Int) bf an ao aj ak=some (r1,r2))∧Aside0 (kq≤k)∧Aside0 (Kd.R (Kd.int .i64) 3 w' w.heap.size (fun k_=>some k_≠(u404001:Value).ownBlock) u404000 aj)∧Aside0 (Kd.R (Kd.int .i64) 3 w' w.heap.size (fun k_=>some k_≠(u404000:Value).ownBlock) u404001 ak)∧Aside0 (w'.heap[av]? = some (.cells #[(.slice aI an.length aJ),(.slice aK ao.length aM)] 25 (0,0)))∧Aside0 (w'.heap[aW]? = some (.cells #[(.slice none 0 0),(.slice none 0 0)] 25 (0,0)))∧Aside0 (w'.heap[am]? = some (.cells #[u404000,u404001] 25 (0,0)))∧Aside0 (Below w.heap.size w w'))
 case atStart=>exact⟨(0),(bp),(bq),(.slice bX bp.length bY),(.slice b9 bq.length ca),zt,H',⟨Nat.le_refl _⟩,⟨by(with_reducible repeat(first|apply rA|apply rN|apply rD));exact rM (rF (p:=⟨am,1,none⟩) (rF (p:=⟨am,0,none⟩) (rY bn.out af.out (by decide)) (fun _ hk=>hk.2) (.slice bX bp.length bY)) (fun _ hk=>hk.2) (.slice b9 bq.length ca)) (fun _ hk=>hk.1.2)⟩,⟨by(with_reducible repeat(first|apply rA|apply rN|apply rD));exact rM (rF (p:=⟨am,1,none⟩) (rF (p:=⟨am,0,none⟩) (rY bo.out af.out (by decide)) (fun _ hk=>hk.2) (.slice bX bp.length bY)) (fun _ hk=>hk.2) (.slice b9 bq.length ca)) (fun _ hk=>hk.1.2)⟩,⟨by refine zbf ?_ _ (hp:=by exact ax.out);refine zbf ?_ _ (hp:=by exact ax.out);exact zK_ aa⟩,⟨by refine zbf ?_ _ (hp:=by exact aU.out);refine zbf ?_ _ (hp:=by exact aU.out);exact zK_ ae⟩,⟨by refine zbp (cs := #[.slice bX bp.length bY,.slice none 0 0]) ?_ 1 _ rfl;refine zbp (cs := #[.slice none 0 0,.slice none 0 0]) ?_ 0 _ rfl;exact zK_ af⟩,⟨zB_ HB⟩⟩
 case round =>
  clear H';(try clear cl);(try clear cm);(try clear cn);(try clear co);obtain⟨bf,aj,ak,u404000,u404001,rfl,HA,cj,ab,ac,aa,ae,af,HB⟩:=hrel
  cases gk with
  | zero=>exact absurd HA.out (by simp [ii_.l0])
  | succ k1 =>
   have H:=HA.out;clear HA;simp only [ii_.l0] at H
   by_cases bU:bf<(an.length:Int)
   ·rw [if_pos bU] at H
    have cF:=dT bU;clear bU;obtain⟨a3,ck,H⟩:=zbind H;obtain⟨⟨au,aw⟩,bV,H⟩:=zbind H;dsimp only at H;obtain⟨cb,cK,H⟩:=zbind H
    by_cases bW:cb<0
    ·rw [if_pos bW] at H
     have cG:=dT bW;clear bW;have H':=A0_ H;clear H
     try go_wp2
     replace ab:=A0_ (rD ab.out)
     replace ac:=A0_ (rD ac.out)
     replace aa:=A0_ (kD aa.out)
     replace ae:=A0_ (kD ae.out)
     replace af:=A0_ (kD af.out)
     replace HB:=A0_ (bD HB.out)
     refine start_ (n:=7) (S:=fun w'=>w'.cell? ⟨av,0,none⟩=some (.slice aI an.length aJ)∧w'.cell? ⟨av,1,none⟩=some (.slice aK ao.length aM)) (ds := []) (bs 7 0) (by kernel_rfl) rfl rfl ⟨(kC aa.out 0).trans rfl,(kC aa.out 1).trans rfl⟩ (fun hHeld => ?_)
     generalize wr.drew=w24 at ab ac aa ae af HB hHeld ⊢
     refine zP0 2 (some 18) (bs 7 4) ?_
     refine zT0 0 (some 16) (bs 7 5) hHeld ?_
     refine zT0 1 (some 17) (bs 7 7) hHeld ?_
     refine join_ (σ:=Value×Value×Value×Nat) 1 (bs 7 63) (fun s_ => [(19,s_.1),(20,.agg #[s_.2.1,s_.2.2.1]),(5,.pointer (some ⟨s_.2.2.2,0,none⟩))]) (fun s_ w'=>(w'.cell? ⟨av,0,none⟩=some (.slice aI an.length aJ)∧w'.cell? ⟨av,1,none⟩=some (.slice aK ao.length aM))∧(Kd.R (Kd.int .i64) 3 w' w.heap.size (fun k_=>some k_≠(s_.2.1:Value).ownBlock∧some k_≠(s_.2.2.1:Value).ownBlock∧some k_≠(u404000:Value).ownBlock∧some k_≠(u404001:Value).ownBlock) s_.1 a3)∧(Kd.R (Kd.int .i64) 3 w' w.heap.size (fun k_=>some k_≠(s_.1:Value).ownBlock∧some k_≠(s_.2.2.1:Value).ownBlock∧some k_≠(u404000:Value).ownBlock∧some k_≠(u404001:Value).ownBlock) s_.2.1 au)∧(Kd.R (Kd.int .i64) 3 w' w.heap.size (fun k_=>some k_≠(s_.1:Value).ownBlock∧some k_≠(s_.2.1:Value).ownBlock∧some k_≠(u404000:Value).ownBlock∧some k_≠(u404001:Value).ownBlock) s_.2.2.1 aw)∧(Kd.R (Kd.int .i64) 3 w' w.heap.size (fun k_=>some k_≠(s_.1:Value).ownBlock∧some k_≠(s_.2.1:Value).ownBlock∧some k_≠(s_.2.2.1:Value).ownBlock∧some k_≠(u404001:Value).ownBlock) u404000 aj)∧(Kd.R (Kd.int .i64) 3 w' w.heap.size (fun k_=>some k_≠(s_.1:Value).ownBlock∧some k_≠(s_.2.1:Value).ownBlock∧some k_≠(s_.2.2.1:Value).ownBlock∧some k_≠(u404000:Value).ownBlock) u404001 ak)∧(w'.heap[av]? = some (.cells #[.slice aI an.length aJ,.slice aK ao.length aM] 25 (0,0)))∧(w'.heap[aW]? = some (.cells #[.slice none 0 0,.slice none 0 0] 25 (0,0)))∧(w'.heap[am]? = some (.cells #[u404000,u404001] 25 (0,0)))∧(w'.heap[s_.2.2.2]? = some (.cells #[.slice none 0 0,.slice none 0 0] 25 (0,0)))∧(w.heap.size≤s_.2.2.2)∧(w.heap.size≤s_.2.2.2)∧(av≠s_.2.2.2)∧(s_.2.2.2≠av)∧(aW≠s_.2.2.2)∧(s_.2.2.2≠aW)∧(am≠s_.2.2.2)∧(s_.2.2.2≠am)∧(Below w.heap.size w w')) ?_ ?_
     rotate_left
     ·intro hCont
      refine two_ (i:=3) (j:=5) (Ni:=some 19) (Nj:=some 5) (bs 7 15) (bs 7 39) rfl rfl rfl rfl (by kernel_rfl) (by decide) (by decide) (fun K hK => ?_) (fun K hK => ?_)
      ·skip
       refine zg Try.func61 #[.agg #[.slice aI an.length aJ,.slice aK ao.length aM],.int .i64 bf] ?_
       with_reducible refine(ik_.calls k1 _ _ an _ _ ao bf a3 _ ?aC ?aD ?aE ?aG ck.out).mono ?_
       (case aC=>exact zC a9 HB)
       (case aD=>exact ba.out)
       (case aE=>exact zC bb HB)
       (case aG=>exact bc.out)
       rintro e w25 ⟨a4,rfl,ap,hb⟩
       refine⟨_,rfl,?_⟩
       have ah:=A0_ (rL (Kd.R_new' (Kd.R_new' ap (rX (zR_ ab))) (rX (zR_ ac))) (bZ (zB_ HB)))
       replace ab:=A0_ (Kd.R_elder' (zR_ ab) (Kd.R_base ap) hb)
       replace ac:=A0_ (Kd.R_elder' (zR_ ac) (Kd.R_base ap) hb)
       replace aa:=zK aa hb;replace ae:=zK ae hb;replace af:=zK af hb;replace HB:=zB HB hb;(try clear hb);(try clear hk);(try clear ap);obtain⟨cr,ct,cu⟩:=rS ah.out
       (first|subst cu|(injection cu with f1_ f2_ f3_;have f4_:=f1_.symm;have f5_:=f3_.symm;clear f1_ f2_ f3_;subst f4_;subst f5_))
       refine hK.out _ _ ⟨(kC aa.out 0).trans rfl,(kC aa.out 1).trans rfl⟩ (fun hHeld => ?_)
       clear hK K
       refine zN (some 19) ?_
       refine two_ (i:=4) (j:=5) (Ni:=some 20) (Nj:=some 5) (bs 7 31) (bs 7 47) rfl rfl rfl rfl (by kernel_rfl) (by decide) (by decide) (fun K hK => ?_) (fun K hK => ?_)
       ·skip
        refine zg Try.func83 #[.agg #[.slice aI an.length aJ,.slice aK ao.length aM],.slice cr a3.length ct] ?_
        with_reducible refine(im_.calls k1 _ _ an _ _ ao _ _ a3 au aw _ ?aC ?aD ?aE ?aG ?aX ?aY bV.out).mono ?_
        (case aC=>exact zC a9 HB)
        (case aD=>exact ba.out)
        (case aE=>exact zC bb HB)
        (case aG=>exact bc.out)
        (case aX=>exact zD ah)
        (case aY=>exact(rR ah.out).2.1)
        rintro e w27 ⟨a5,a6,rfl,ap,aT,hb⟩
        refine⟨_,rfl,?_⟩
        have aN:=A0_ (rL (Kd.R_new' (Kd.R_new' (Kd.R_new' ap (rX (zR_ ab))) (rX (zR_ ac))) (rX (zR_ ah))) (bZ (zB_ HB)))
        have aQ:=A0_ (rL (Kd.R_new' (Kd.R_new' (Kd.R_new' aT (rX (zR_ ab))) (rX (zR_ ac))) (rX (zR_ ah))) (bZ (zB_ HB)))
        replace ab:=A0_ (rM (rT (rT (rO (zR_ ab) hb) (Kd.R_base ap)) (Kd.R_base aT)) (fun _ h_=>h_.1))
        replace ac:=A0_ (rM (rT (rT (rO (zR_ ac) hb) (Kd.R_base ap)) (Kd.R_base aT)) (fun _ h_=>h_.1))
        replace ah:=A0_ (rM (rT (rT (rO (zR_ ah) hb) (Kd.R_base ap)) (Kd.R_base aT)) (fun _ h_=>h_.1))
        replace aa:=zK aa hb;replace ae:=zK ae hb;replace af:=zK af hb;replace HB:=zB HB hb;(try clear hb);(try clear hk);(try clear ap);(try clear aT)
        refine hK.out _ _ ⟨(kC aa.out 0).trans rfl,(kC aa.out 1).trans rfl⟩ (fun hHeld => ?_)
        clear hK K
        refine zN (some 20) ?_
        refine one_ (i:=5) (N:=some 5) (bs 7 63) rfl rfl (by kernel_rfl) (by decide) (fun K hK => ?_)
        refine zbx (N:=5) (cs := #[.slice none 0 0,.slice none 0 0]) (t:=25) ?_
        intro al hg w28 hbox hb
        replace ab:=zR ab hb;replace ac:=zR ac hb;replace ah:=zR ah hb;replace aN:=zR aN hb;replace aQ:=zR aQ hb
        have ag:=A0_ (hbox)
        have bg:=zG hg HB;have bh:=zG hg HB;replace HB:=zB HB hb;have ai:=zL hg aa;have ay:=zM hg aa;replace aa:=zK aa hb;have aq:=zL hg ae;have az:=zM hg ae;replace ae:=zK ae hb;have ar:=zL hg af;have aA:=zM hg af;replace af:=zK af hb;clear hb hbox hg
        refine hK.out _ _ ⟨(kC aa.out 0).trans rfl,(kC aa.out 1).trans rfl⟩ (fun hHeld => ?_)
        clear hK K
        refine zN (some 5) ?_
        exact norm_ zA (hCont (.slice cr a3.length ct,a5,a6,al) _ ⟨hHeld,(zmR ah (fun _ hk=>⟨hk.1.2,⟨hk.2,⟨hk.1.1.1.2,hk.1.1.2⟩⟩⟩)),(zmR aN (fun _ hk=>⟨hk.2,⟨hk.1.1.1,⟨hk.1.1.2,hk.1.2⟩⟩⟩)),(zmR aQ (fun _ hk=>⟨hk.2,⟨hk.1.1.1,⟨hk.1.1.2,hk.1.2⟩⟩⟩)),(zmR ab (fun _ hk=>⟨hk.1.1.2,⟨hk.1.2,⟨hk.2,hk.1.1.1⟩⟩⟩)),(zmR ac (fun _ hk=>⟨hk.1.1.2,⟨hk.1.2,⟨hk.2,hk.1.1.1⟩⟩⟩)),(zK_ aa),(zK_ ae),(zK_ af),(zK_ ag),bg.out,bh.out,ai.out,ay.out,aq.out,az.out,ar.out,aA.out,(zB_ HB)⟩)
       skip
       refine zbx (N:=5) (cs := #[.slice none 0 0,.slice none 0 0]) (t:=25) ?_
       intro al hg w26 hbox hb
       replace ab:=zR ab hb;replace ac:=zR ac hb;replace ah:=zR ah hb
       have ag:=A0_ (hbox)
       have bg:=zG hg HB;have bh:=zG hg HB;replace HB:=zB HB hb;have ai:=zL hg aa;have ay:=zM hg aa;replace aa:=zK aa hb;have aq:=zL hg ae;have az:=zM hg ae;replace ae:=zK ae hb;have ar:=zL hg af;have aA:=zM hg af;replace af:=zK af hb;clear hb hbox hg;obtain⟨bL,bM,bO⟩:=rS ah.out
       (first|subst bO|(injection bO with f1_ f2_ f3_;have f4_:=f1_.symm;have f5_:=f3_.symm;clear f1_ f2_ f3_;subst f4_;subst f5_))
       refine hK.out _ _ ⟨(kC aa.out 0).trans rfl,(kC aa.out 1).trans rfl⟩ (fun hHeld => ?_)
       clear hK K
       refine zN (some 5) ?_
       refine one_ (i:=4) (N:=some 20) (bs 7 63) rfl rfl (by kernel_rfl) (by decide) (fun K hK => ?_)
       refine zg Try.func83 #[.agg #[.slice aI an.length aJ,.slice aK ao.length aM],.slice bL a3.length bM] ?_
       with_reducible refine(im_.calls k1 _ _ an _ _ ao _ _ a3 au aw _ ?aC ?aD ?aE ?aG ?aX ?aY bV.out).mono ?_
       (case aC=>exact zC a9 HB)
       (case aD=>exact ba.out)
       (case aE=>exact zC bb HB)
       (case aG=>exact bc.out)
       (case aX=>exact zD ah)
       (case aY=>exact(rR ah.out).2.1)
       rintro e w28 ⟨a5,a6,rfl,ap,aT,hb⟩
       refine⟨_,rfl,?_⟩
       have aN:=A0_ (rL (Kd.R_new' (Kd.R_new' (Kd.R_new' ap (rX (zR_ ab))) (rX (zR_ ac))) (rX (zR_ ah))) (bZ (zB_ HB)))
       have aQ:=A0_ (rL (Kd.R_new' (Kd.R_new' (Kd.R_new' aT (rX (zR_ ab))) (rX (zR_ ac))) (rX (zR_ ah))) (bZ (zB_ HB)))
       replace ab:=A0_ (rM (rT (rT (rO (zR_ ab) hb) (Kd.R_base ap)) (Kd.R_base aT)) (fun _ h_=>h_.1))
       replace ac:=A0_ (rM (rT (rT (rO (zR_ ac) hb) (Kd.R_base ap)) (Kd.R_base aT)) (fun _ h_=>h_.1))
       replace ah:=A0_ (rM (rT (rT (rO (zR_ ah) hb) (Kd.R_base ap)) (Kd.R_base aT)) (fun _ h_=>h_.1))
       replace aa:=zK aa hb;replace ae:=zK ae hb;replace af:=zK af hb;replace ag:=zK ag hb;replace HB:=zB HB hb;(try clear hb);(try clear hk);(try clear ap);(try clear aT)
       refine hK.out _ _ ⟨(kC aa.out 0).trans rfl,(kC aa.out 1).trans rfl⟩ (fun hHeld => ?_)
       clear hK K
       refine zN (some 20) ?_
       exact norm_ zA (hCont (.slice bL a3.length bM,a5,a6,al) _ ⟨hHeld,(zmR ah (fun _ hk=>⟨hk.1.2,⟨hk.2,⟨hk.1.1.1.2,hk.1.1.2⟩⟩⟩)),(zmR aN (fun _ hk=>⟨hk.2,⟨hk.1.1.1,⟨hk.1.1.2,hk.1.2⟩⟩⟩)),(zmR aQ (fun _ hk=>⟨hk.2,⟨hk.1.1.1,⟨hk.1.1.2,hk.1.2⟩⟩⟩)),(zmR ab (fun _ hk=>⟨hk.1.1.2,⟨hk.1.2,⟨hk.2,hk.1.1.1⟩⟩⟩)),(zmR ac (fun _ hk=>⟨hk.1.1.2,⟨hk.1.2,⟨hk.2,hk.1.1.1⟩⟩⟩)),(zK_ aa),(zK_ ae),(zK_ af),(zK_ ag),bg.out,bh.out,ai.out,ay.out,aq.out,az.out,ar.out,aA.out,(zB_ HB)⟩)
      skip
      refine zbx (N:=5) (cs := #[.slice none 0 0,.slice none 0 0]) (t:=25) ?_
      intro al hg w25 hbox hb
      replace ab:=zR ab hb;replace ac:=zR ac hb
      have ag:=A0_ (hbox)
      have bg:=zG hg HB;have bh:=zG hg HB;replace HB:=zB HB hb;have ai:=zL hg aa;have ay:=zM hg aa;replace aa:=zK aa hb;have aq:=zL hg ae;have az:=zM hg ae;replace ae:=zK ae hb;have ar:=zL hg af;have aA:=zM hg af;replace af:=zK af hb;clear hb hbox hg
      refine hK.out _ _ ⟨(kC aa.out 0).trans rfl,(kC aa.out 1).trans rfl⟩ (fun hHeld => ?_)
      clear hK K
      refine zN (some 5) ?_
      refine one_ (i:=3) (N:=some 19) (bs 7 47) rfl rfl (by kernel_rfl) (by decide) (fun K hK => ?_)
      refine zg Try.func61 #[.agg #[.slice aI an.length aJ,.slice aK ao.length aM],.int .i64 bf] ?_
      with_reducible refine(ik_.calls k1 _ _ an _ _ ao bf a3 _ ?aC ?aD ?aE ?aG ck.out).mono ?_
      (case aC=>exact zC a9 HB)
      (case aD=>exact ba.out)
      (case aE=>exact zC bb HB)
      (case aG=>exact bc.out)
      rintro e w26 ⟨a4,rfl,ap,hb⟩
      refine⟨_,rfl,?_⟩
      have ah:=A0_ (rL (Kd.R_new' (Kd.R_new' ap (rX (zR_ ab))) (rX (zR_ ac))) (bZ (zB_ HB)))
      replace ab:=A0_ (Kd.R_elder' (zR_ ab) (Kd.R_base ap) hb)
      replace ac:=A0_ (Kd.R_elder' (zR_ ac) (Kd.R_base ap) hb)
      replace aa:=zK aa hb;replace ae:=zK ae hb;replace af:=zK af hb;replace ag:=zK ag hb;replace HB:=zB HB hb;(try clear hb);(try clear hk);(try clear ap);obtain⟨bL,bM,bO⟩:=rS ah.out
      (first|subst bO|(injection bO with f1_ f2_ f3_;have f4_:=f1_.symm;have f5_:=f3_.symm;clear f1_ f2_ f3_;subst f4_;subst f5_))
      refine hK.out _ _ ⟨(kC aa.out 0).trans rfl,(kC aa.out 1).trans rfl⟩ (fun hHeld => ?_)
      clear hK K
      refine zN (some 19) ?_
      refine one_ (i:=4) (N:=some 20) (bs 7 63) rfl rfl (by kernel_rfl) (by decide) (fun K hK => ?_)
      refine zg Try.func83 #[.agg #[.slice aI an.length aJ,.slice aK ao.length aM],.slice bL a3.length bM] ?_
      with_reducible refine(im_.calls k1 _ _ an _ _ ao _ _ a3 au aw _ ?aC ?aD ?aE ?aG ?aX ?aY bV.out).mono ?_
      (case aC=>exact zC a9 HB)
      (case aD=>exact ba.out)
      (case aE=>exact zC bb HB)
      (case aG=>exact bc.out)
      (case aX=>exact zD ah)
      (case aY=>exact(rR ah.out).2.1)
      rintro e w28 ⟨a5,a6,rfl,ap,aT,hb⟩
      refine⟨_,rfl,?_⟩
      have aN:=A0_ (rL (Kd.R_new' (Kd.R_new' (Kd.R_new' ap (rX (zR_ ab))) (rX (zR_ ac))) (rX (zR_ ah))) (bZ (zB_ HB)))
      have aQ:=A0_ (rL (Kd.R_new' (Kd.R_new' (Kd.R_new' aT (rX (zR_ ab))) (rX (zR_ ac))) (rX (zR_ ah))) (bZ (zB_ HB)))
      replace ab:=A0_ (rM (rT (rT (rO (zR_ ab) hb) (Kd.R_base ap)) (Kd.R_base aT)) (fun _ h_=>h_.1))
      replace ac:=A0_ (rM (rT (rT (rO (zR_ ac) hb) (Kd.R_base ap)) (Kd.R_base aT)) (fun _ h_=>h_.1))
      replace ah:=A0_ (rM (rT (rT (rO (zR_ ah) hb) (Kd.R_base ap)) (Kd.R_base aT)) (fun _ h_=>h_.1))
      replace aa:=zK aa hb;replace ae:=zK ae hb;replace af:=zK af hb;replace ag:=zK ag hb;replace HB:=zB HB hb;(try clear hb);(try clear hk);(try clear ap);(try clear aT)
      refine hK.out _ _ ⟨(kC aa.out 0).trans rfl,(kC aa.out 1).trans rfl⟩ (fun hHeld => ?_)
      clear hK K
      refine zN (some 20) ?_
      exact norm_ zA (hCont (.slice bL a3.length bM,a5,a6,al) _ ⟨hHeld,(zmR ah (fun _ hk=>⟨hk.1.2,⟨hk.2,⟨hk.1.1.1.2,hk.1.1.2⟩⟩⟩)),(zmR aN (fun _ hk=>⟨hk.2,⟨hk.1.1.1,⟨hk.1.1.2,hk.1.2⟩⟩⟩)),(zmR aQ (fun _ hk=>⟨hk.2,⟨hk.1.1.1,⟨hk.1.1.2,hk.1.2⟩⟩⟩)),(zmR ab (fun _ hk=>⟨hk.1.1.2,⟨hk.1.2,⟨hk.2,hk.1.1.1⟩⟩⟩)),(zmR ac (fun _ hk=>⟨hk.1.1.2,⟨hk.1.2,⟨hk.2,hk.1.1.1⟩⟩⟩)),(zK_ aa),(zK_ ae),(zK_ af),(zK_ ag),bg.out,bh.out,ai.out,ay.out,aq.out,az.out,ar.out,aA.out,(zB_ HB)⟩)
     rintro⟨a4,a5,a6,al⟩ w29 ⟨hS_,h0_,h1_,h2_,h3_,h4_,h5_,h6_,h7_,h8_,h9_,h10_,h11_,h12_,h13_,h14_,h15_,h16_,h17_⟩
     have ah:Aside0 (Kd.R (Kd.int .i64) 3 w29 w.heap.size (fun k_=>some k_≠(a5:Value).ownBlock∧some k_≠(a6:Value).ownBlock∧some k_≠(u404000:Value).ownBlock∧some k_≠(u404001:Value).ownBlock) a4 a3):=⟨h0_⟩
     have aN:Aside0 (Kd.R (Kd.int .i64) 3 w29 w.heap.size (fun k_=>some k_≠(a4:Value).ownBlock∧some k_≠(a6:Value).ownBlock∧some k_≠(u404000:Value).ownBlock∧some k_≠(u404001:Value).ownBlock) a5 au):=⟨h1_⟩
     have aQ:Aside0 (Kd.R (Kd.int .i64) 3 w29 w.heap.size (fun k_=>some k_≠(a4:Value).ownBlock∧some k_≠(a5:Value).ownBlock∧some k_≠(u404000:Value).ownBlock∧some k_≠(u404001:Value).ownBlock) a6 aw):=⟨h2_⟩
     replace ab:Aside0 (Kd.R (Kd.int .i64) 3 w29 w.heap.size (fun k_=>some k_≠(a4:Value).ownBlock∧some k_≠(a5:Value).ownBlock∧some k_≠(a6:Value).ownBlock∧some k_≠(u404001:Value).ownBlock) u404000 aj):=⟨h3_⟩
     replace ac:Aside0 (Kd.R (Kd.int .i64) 3 w29 w.heap.size (fun k_=>some k_≠(a4:Value).ownBlock∧some k_≠(a5:Value).ownBlock∧some k_≠(a6:Value).ownBlock∧some k_≠(u404000:Value).ownBlock) u404001 ak):=⟨h4_⟩
     replace aa:Aside0 (w29.heap[av]? = some (.cells #[.slice aI an.length aJ,.slice aK ao.length aM] 25 (0,0))):=⟨h5_⟩
     replace ae:Aside0 (w29.heap[aW]? = some (.cells #[.slice none 0 0,.slice none 0 0] 25 (0,0))):=⟨h6_⟩
     replace af:Aside0 (w29.heap[am]? = some (.cells #[u404000,u404001] 25 (0,0))):=⟨h7_⟩
     have ag:Aside0 (w29.heap[al]? = some (.cells #[.slice none 0 0,.slice none 0 0] 25 (0,0))):=⟨h8_⟩
     have bg:Aside0 (w.heap.size≤al):=⟨h9_⟩
     have bh:Aside0 (w.heap.size≤al):=⟨h10_⟩
     have ai:Aside0 (av≠al):=⟨h11_⟩
     have ay:Aside0 (al≠av):=⟨h12_⟩
     have aq:Aside0 (aW≠al):=⟨h13_⟩
     have az:Aside0 (al≠aW):=⟨h14_⟩
     have ar:Aside0 (am≠al):=⟨h15_⟩
     have aA:Aside0 (al≠am):=⟨h16_⟩
     replace HB:Aside0 (Below w.heap.size w w29):=⟨h17_⟩
     clear h0_ h1_ h2_ h3_ h4_ h5_ h6_ h7_ h8_ h9_ h10_ h11_ h12_ h13_ h14_ h15_ h16_ h17_
     have hHeld:w29.cell? ⟨av,0,none⟩=some (.slice aI an.length aJ)∧w29.cell? ⟨av,1,none⟩=some (.slice aK ao.length aM):=hS_
     obtain⟨a8,a7,cv⟩:=rS aN.out
     (first|subst cv|(injection cv with f1_ f2_ f3_;have f4_:=f1_.symm;have f5_:=f3_.symm;clear f1_ f2_ f3_;subst f4_;subst f5_))
     obtain⟨be,bd,cw⟩:=rS aQ.out
     (first|subst cw|(injection cw with f1_ f2_ f3_;have f4_:=f1_.symm;have f5_:=f3_.symm;clear f1_ f2_ f3_;subst f4_;subst f5_))
     refine norm_ (a' := ?_) ?_ ?_
     rotate_left
     ·simp only [putAll,Act.put,List.setIfInBounds_toArray,List.set_cons_zero,List.set_cons_succ]
      rfl
     refine one_ (i:=6) (N:=none) (bs 7 127) rfl rfl (by kernel_rfl) (by decide) (fun K hK => ?_)
     have eR:w29.cell? ⟨al,0,none⟩=some (.slice none 0 0):=(kC ag.out 0).trans rfl
     have ek:=kF ag.out 0;have da:=ai.out;have db:=aq.out;have dc:=ar.out;have dd:=ay.out;have de:=az.out;have df:=aA.out
     have eS:w29.cell? ⟨al,1,none⟩=some (.slice none 0 0):=(kC ag.out 1).trans rfl
     have el:=kF ag.out 1;have dg:=ai.out;have dh:=aq.out;have di:=ar.out;have dj:=ay.out;have dk:=az.out;have dl:=aA.out
     refine skip_ (w1 := ?_) (by rfl) rfl ?_ ?_
     rotate_left
     ·go_simp
      rfl
     refine hK.out _ _ ⟨((cell_far (p:=⟨al,_,none⟩) ai.out _).trans (((cell_far (p:=⟨al,_,none⟩) ai.out _).trans (hHeld.1)))),((cell_far (p:=⟨al,_,none⟩) ai.out _).trans (((cell_far (p:=⟨al,_,none⟩) ai.out _).trans (hHeld.2))))⟩ (fun hHeld => ?_)
     clear hK K
     refine done_ (by kernel_rfl) ?_
     have em:=ay.out;have en:=ai.out;have eo:=az.out;have ep:=aq.out;have eq:=aA.out;have er:=ar.out
     have dm:w29.cell? ⟨al,0,none⟩=some (.slice none 0 0):=(kC ag.out 0).trans rfl
     have dn:w29.cell? ⟨al,1,none⟩=some (.slice none 0 0):=(kC ag.out 1).trans rfl
     have dp:=kF ag.out 0;have dq:=kF ag.out 1;have es:=aV.out;have et:=ax.out;have eu:=aZ.out;have ev:=aU.out
     have dr:w29.cell? ⟨am,0,none⟩=some (u404000):=(kC af.out 0).trans rfl
     have dt:w29.cell? ⟨am,1,none⟩=some (u404001):=(kC af.out 1).trans rfl
     have du:=kF af.out 0;have dv:=kF af.out 1;obtain⟨bC,bw,cL⟩:=rS ab.out;subst cL;obtain⟨bx,bv,cM⟩:=rS ac.out;subst cM
     try go_wp2_with (first|((with_reducible refine gC (f:=84) rfl ?_);refine zJ (some 23) Try.func84 #[.agg #[.slice a8 au.length a7,.slice be aw.length bd],.agg #[.slice bC aj.length bw,.slice bx ak.length bv]] ?_;(with_reducible refine(ib_.calls k1 _ _ au _ _ aw _ _ aj _ _ ak cb _ ?aC ?aD ?aE ?aG ?aX ?aY ?b2 ?b3 cK.out).mono ?_);(case aC=>refine(rR (e:=3) (base:=w.heap.size) (ok:=fun k_=>(some k_≠(a4:Value).ownBlock∧(some k_≠(.slice be aw.length bd:Value).ownBlock∧(some k_≠(.slice bC aj.length bw:Value).ownBlock∧some k_≠(.slice bx ak.length bv:Value).ownBlock)))) (n:=au.length) (c:=a7) ?_).2.2;exact(zF aN ag (.slice a8 au.length a7) (.slice be aw.length bd) 0 1));(case aD=>exact(rR aN.out).2.1);(case aE=>refine(rR (e:=3) (base:=w.heap.size) (ok:=fun k_=>(some k_≠(a4:Value).ownBlock∧(some k_≠(.slice a8 au.length a7:Value).ownBlock∧(some k_≠(.slice bC aj.length bw:Value).ownBlock∧some k_≠(.slice bx ak.length bv:Value).ownBlock)))) (n:=aw.length) (c:=bd) ?_).2.2;exact(zF aQ ag (.slice a8 au.length a7) (.slice be aw.length bd) 0 1));(case aG=>exact(rR aQ.out).2.1);(case aX=>refine(rR (e:=3) (base:=w.heap.size) (ok:=fun k_=>(some k_≠(a4:Value).ownBlock∧(some k_≠(.slice a8 au.length a7:Value).ownBlock∧(some k_≠(.slice be aw.length bd:Value).ownBlock∧some k_≠(.slice bx ak.length bv:Value).ownBlock)))) (n:=aj.length) (c:=bw) ?_).2.2;exact(zF ab ag (.slice a8 au.length a7) (.slice be aw.length bd) 0 1));(case aY=>exact(rR ab.out).2.1);(case b2=>refine(rR (e:=3) (base:=w.heap.size) (ok:=fun k_=>(some k_≠(a4:Value).ownBlock∧(some k_≠(.slice a8 au.length a7:Value).ownBlock∧(some k_≠(.slice be aw.length bd:Value).ownBlock∧some k_≠(.slice bC aj.length bw:Value).ownBlock)))) (n:=ak.length) (c:=bv) ?_).2.2;exact(zF ac ag (.slice a8 au.length a7) (.slice be aw.length bd) 0 1));(case b3=>exact(rR ac.out).2.1);rintro e w43 ⟨rfl,hb⟩;refine⟨_,rfl,?_⟩;replace ab:=A0_ (rB (zF ab ag (.slice a8 au.length a7) (.slice be aw.length bd) 0 1) hb);replace ac:=A0_ (rB (zF ac ag (.slice a8 au.length a7) (.slice be aw.length bd) 0 1) hb);replace ah:=A0_ (rB (zF ah ag (.slice a8 au.length a7) (.slice be aw.length bd) 0 1) hb);replace aN:=A0_ (rB (zF aN ag (.slice a8 au.length a7) (.slice be aw.length bd) 0 1) hb);replace aQ:=A0_ (rB (zF aQ ag (.slice a8 au.length a7) (.slice be aw.length bd) 0 1) hb);replace aa:=A0_ (kB (g:=av) (o := .cells #[.slice aI an.length aJ,.slice aK ao.length aM] 25 (0,0)) (by refine zbf ?_ _ (hp:=by exact ai.out);refine zbf ?_ _ (hp:=by exact ai.out);exact zK_ aa) hb);replace ae:=A0_ (kB (g:=aW) (o := .cells #[.slice none 0 0,.slice none 0 0] 25 (0,0)) (by refine zbf ?_ _ (hp:=by exact aq.out);refine zbf ?_ _ (hp:=by exact aq.out);exact zK_ ae) hb);replace af:=A0_ (kB (g:=am) (o := .cells #[.slice bC aj.length bw,.slice bx ak.length bv] 25 (0,0)) (by refine zbf ?_ _ (hp:=by exact ar.out);refine zbf ?_ _ (hp:=by exact ar.out);exact zK_ af) hb);replace ag:=A0_ (kB (g:=al) (o := .cells #[.slice a8 au.length a7,.slice be aw.length bd] 25 (0,0)) (by refine zbp (cs := #[.slice a8 au.length a7,.slice none 0 0]) ?_ 1 _ rfl;refine zbp (cs := #[.slice none 0 0,.slice none 0 0]) ?_ 0 _ rfl;exact zK_ ag) hb);replace HB:=zB HB hb;(try clear hb);have dw:w43.cell? ⟨al,0,none⟩=some (.slice a8 au.length a7):=(kC ag.out 0).trans rfl;have dx:w43.cell? ⟨al,1,none⟩=some (.slice be aw.length bd):=(kC ag.out 1).trans rfl;have dy:=kF ag.out 0;have dz:=kF ag.out 1;have dA:w43.cell? ⟨am,0,none⟩=some (.slice bC aj.length bw):=(kC af.out 0).trans rfl;have dB:w43.cell? ⟨am,1,none⟩=some (.slice bx ak.length bv):=(kC af.out 1).trans rfl;have dC:=kF af.out 0;have dD:=kF af.out 1))
     go_roundg k1
     case measure=>have:=cj.out;omega
     case rel=>exact⟨(wrap64 (bf+1)),(au),(aw),(.slice a8 au.length a7),(.slice be aw.length bd),zt,H',⟨by have:=cj.out;omega⟩,⟨by(with_reducible repeat(first|apply rA|apply rN|apply rD));exact rM (rF (p:=⟨am,1,none⟩) (rF (p:=⟨am,0,none⟩) (rY aN.out af.out (by decide)) (fun _ hk=>hk.2) (.slice a8 au.length a7)) (fun _ hk=>hk.2) (.slice be aw.length bd)) (fun _ hk=>hk.1.2.1)⟩,⟨by(with_reducible repeat(first|apply rA|apply rN|apply rD));exact rM (rF (p:=⟨am,1,none⟩) (rF (p:=⟨am,0,none⟩) (rY aQ.out af.out (by decide)) (fun _ hk=>hk.2) (.slice a8 au.length a7)) (fun _ hk=>hk.2) (.slice be aw.length bd)) (fun _ hk=>hk.1.2.1)⟩,⟨by refine zbf ?_ _ (hp:=by exact ax.out);refine zbf ?_ _ (hp:=by exact ax.out);exact zK_ aa⟩,⟨by refine zbf ?_ _ (hp:=by exact aU.out);refine zbf ?_ _ (hp:=by exact aU.out);exact zK_ ae⟩,⟨by refine zbp (cs := #[.slice a8 au.length a7,.slice bx ak.length bv]) ?_ 1 _ rfl;refine zbp (cs := #[.slice bC aj.length bw,.slice bx ak.length bv]) ?_ 0 _ rfl;exact zK_ af⟩,⟨zB_ HB⟩⟩
    rw [if_neg bW] at H;have cG:=dF bW;clear bW;have H':=A0_ H;clear H
    try go_wp2
    replace ab:=A0_ (rD ab.out)
    replace ac:=A0_ (rD ac.out)
    replace aa:=A0_ (kD aa.out)
    replace ae:=A0_ (kD ae.out)
    replace af:=A0_ (kD af.out)
    replace HB:=A0_ (bD HB.out)
    refine start_ (n:=7) (S:=fun w'=>w'.cell? ⟨av,0,none⟩=some (.slice aI an.length aJ)∧w'.cell? ⟨av,1,none⟩=some (.slice aK ao.length aM)) (ds := []) (bs 7 0) (by kernel_rfl) rfl rfl ⟨(kC aa.out 0).trans rfl,(kC aa.out 1).trans rfl⟩ (fun hHeld => ?_)
    generalize wr.drew=w46 at ab ac aa ae af HB hHeld ⊢
    refine zP0 2 (some 18) (bs 7 4) ?_
    refine zT0 0 (some 16) (bs 7 5) hHeld ?_
    refine zT0 1 (some 17) (bs 7 7) hHeld ?_
    refine join_ (σ:=Value×Value×Value×Nat) 1 (bs 7 63) (fun s_ => [(19,s_.1),(20,.agg #[s_.2.1,s_.2.2.1]),(5,.pointer (some ⟨s_.2.2.2,0,none⟩))]) (fun s_ w'=>(w'.cell? ⟨av,0,none⟩=some (.slice aI an.length aJ)∧w'.cell? ⟨av,1,none⟩=some (.slice aK ao.length aM))∧(Kd.R (Kd.int .i64) 3 w' w.heap.size (fun k_=>some k_≠(s_.2.1:Value).ownBlock∧some k_≠(s_.2.2.1:Value).ownBlock∧some k_≠(u404000:Value).ownBlock∧some k_≠(u404001:Value).ownBlock) s_.1 a3)∧(Kd.R (Kd.int .i64) 3 w' w.heap.size (fun k_=>some k_≠(s_.1:Value).ownBlock∧some k_≠(s_.2.2.1:Value).ownBlock∧some k_≠(u404000:Value).ownBlock∧some k_≠(u404001:Value).ownBlock) s_.2.1 au)∧(Kd.R (Kd.int .i64) 3 w' w.heap.size (fun k_=>some k_≠(s_.1:Value).ownBlock∧some k_≠(s_.2.1:Value).ownBlock∧some k_≠(u404000:Value).ownBlock∧some k_≠(u404001:Value).ownBlock) s_.2.2.1 aw)∧(Kd.R (Kd.int .i64) 3 w' w.heap.size (fun k_=>some k_≠(s_.1:Value).ownBlock∧some k_≠(s_.2.1:Value).ownBlock∧some k_≠(s_.2.2.1:Value).ownBlock∧some k_≠(u404001:Value).ownBlock) u404000 aj)∧(Kd.R (Kd.int .i64) 3 w' w.heap.size (fun k_=>some k_≠(s_.1:Value).ownBlock∧some k_≠(s_.2.1:Value).ownBlock∧some k_≠(s_.2.2.1:Value).ownBlock∧some k_≠(u404000:Value).ownBlock) u404001 ak)∧(w'.heap[av]? = some (.cells #[.slice aI an.length aJ,.slice aK ao.length aM] 25 (0,0)))∧(w'.heap[aW]? = some (.cells #[.slice none 0 0,.slice none 0 0] 25 (0,0)))∧(w'.heap[am]? = some (.cells #[u404000,u404001] 25 (0,0)))∧(w'.heap[s_.2.2.2]? = some (.cells #[.slice none 0 0,.slice none 0 0] 25 (0,0)))∧(w.heap.size≤s_.2.2.2)∧(w.heap.size≤s_.2.2.2)∧(av≠s_.2.2.2)∧(s_.2.2.2≠av)∧(aW≠s_.2.2.2)∧(s_.2.2.2≠aW)∧(am≠s_.2.2.2)∧(s_.2.2.2≠am)∧(Below w.heap.size w w')) ?_ ?_
    rotate_left
    ·intro hCont
     refine two_ (i:=3) (j:=5) (Ni:=some 19) (Nj:=some 5) (bs 7 15) (bs 7 39) rfl rfl rfl rfl (by kernel_rfl) (by decide) (by decide) (fun K hK => ?_) (fun K hK => ?_)
     ·skip
      refine zg Try.func61 #[.agg #[.slice aI an.length aJ,.slice aK ao.length aM],.int .i64 bf] ?_
      with_reducible refine(ik_.calls k1 _ _ an _ _ ao bf a3 _ ?aC ?aD ?aE ?aG ck.out).mono ?_
      (case aC=>exact zC a9 HB)
      (case aD=>exact ba.out)
      (case aE=>exact zC bb HB)
      (case aG=>exact bc.out)
      rintro e w47 ⟨a4,rfl,ap,hb⟩
      refine⟨_,rfl,?_⟩
      have ah:=A0_ (rL (Kd.R_new' (Kd.R_new' ap (rX (zR_ ab))) (rX (zR_ ac))) (bZ (zB_ HB)))
      replace ab:=A0_ (Kd.R_elder' (zR_ ab) (Kd.R_base ap) hb)
      replace ac:=A0_ (Kd.R_elder' (zR_ ac) (Kd.R_base ap) hb)
      replace aa:=zK aa hb;replace ae:=zK ae hb;replace af:=zK af hb;replace HB:=zB HB hb;(try clear hb);(try clear hk);(try clear ap);obtain⟨cx,cy,cz⟩:=rS ah.out
      (first|subst cz|(injection cz with f1_ f2_ f3_;have f4_:=f1_.symm;have f5_:=f3_.symm;clear f1_ f2_ f3_;subst f4_;subst f5_))
      refine hK.out _ _ ⟨(kC aa.out 0).trans rfl,(kC aa.out 1).trans rfl⟩ (fun hHeld => ?_)
      clear hK K
      refine zN (some 19) ?_
      refine two_ (i:=4) (j:=5) (Ni:=some 20) (Nj:=some 5) (bs 7 31) (bs 7 47) rfl rfl rfl rfl (by kernel_rfl) (by decide) (by decide) (fun K hK => ?_) (fun K hK => ?_)
      ·skip
       refine zg Try.func83 #[.agg #[.slice aI an.length aJ,.slice aK ao.length aM],.slice cx a3.length cy] ?_
       with_reducible refine(im_.calls k1 _ _ an _ _ ao _ _ a3 au aw _ ?aC ?aD ?aE ?aG ?aX ?aY bV.out).mono ?_
       (case aC=>exact zC a9 HB)
       (case aD=>exact ba.out)
       (case aE=>exact zC bb HB)
       (case aG=>exact bc.out)
       (case aX=>exact zD ah)
       (case aY=>exact(rR ah.out).2.1)
       rintro e w49 ⟨a5,a6,rfl,ap,aT,hb⟩
       refine⟨_,rfl,?_⟩
       have aN:=A0_ (rL (Kd.R_new' (Kd.R_new' (Kd.R_new' ap (rX (zR_ ab))) (rX (zR_ ac))) (rX (zR_ ah))) (bZ (zB_ HB)))
       have aQ:=A0_ (rL (Kd.R_new' (Kd.R_new' (Kd.R_new' aT (rX (zR_ ab))) (rX (zR_ ac))) (rX (zR_ ah))) (bZ (zB_ HB)))
       replace ab:=A0_ (rM (rT (rT (rO (zR_ ab) hb) (Kd.R_base ap)) (Kd.R_base aT)) (fun _ h_=>h_.1))
       replace ac:=A0_ (rM (rT (rT (rO (zR_ ac) hb) (Kd.R_base ap)) (Kd.R_base aT)) (fun _ h_=>h_.1))
       replace ah:=A0_ (rM (rT (rT (rO (zR_ ah) hb) (Kd.R_base ap)) (Kd.R_base aT)) (fun _ h_=>h_.1))
       replace aa:=zK aa hb;replace ae:=zK ae hb;replace af:=zK af hb;replace HB:=zB HB hb;(try clear hb);(try clear hk);(try clear ap);(try clear aT)
       refine hK.out _ _ ⟨(kC aa.out 0).trans rfl,(kC aa.out 1).trans rfl⟩ (fun hHeld => ?_)
       clear hK K
       refine zN (some 20) ?_
       refine one_ (i:=5) (N:=some 5) (bs 7 63) rfl rfl (by kernel_rfl) (by decide) (fun K hK => ?_)
       refine zbx (N:=5) (cs := #[.slice none 0 0,.slice none 0 0]) (t:=25) ?_
       intro al hg w50 hbox hb
       replace ab:=zR ab hb;replace ac:=zR ac hb;replace ah:=zR ah hb;replace aN:=zR aN hb;replace aQ:=zR aQ hb
       have ag:=A0_ (hbox)
       have bg:=zG hg HB;have bh:=zG hg HB;replace HB:=zB HB hb;have ai:=zL hg aa;have ay:=zM hg aa;replace aa:=zK aa hb;have aq:=zL hg ae;have az:=zM hg ae;replace ae:=zK ae hb;have ar:=zL hg af;have aA:=zM hg af;replace af:=zK af hb;clear hb hbox hg
       refine hK.out _ _ ⟨(kC aa.out 0).trans rfl,(kC aa.out 1).trans rfl⟩ (fun hHeld => ?_)
       clear hK K
       refine zN (some 5) ?_
       exact norm_ zA (hCont (.slice cx a3.length cy,a5,a6,al) _ ⟨hHeld,(zmR ah (fun _ hk=>⟨hk.1.2,⟨hk.2,⟨hk.1.1.1.2,hk.1.1.2⟩⟩⟩)),(zmR aN (fun _ hk=>⟨hk.2,⟨hk.1.1.1,⟨hk.1.1.2,hk.1.2⟩⟩⟩)),(zmR aQ (fun _ hk=>⟨hk.2,⟨hk.1.1.1,⟨hk.1.1.2,hk.1.2⟩⟩⟩)),(zmR ab (fun _ hk=>⟨hk.1.1.2,⟨hk.1.2,⟨hk.2,hk.1.1.1⟩⟩⟩)),(zmR ac (fun _ hk=>⟨hk.1.1.2,⟨hk.1.2,⟨hk.2,hk.1.1.1⟩⟩⟩)),(zK_ aa),(zK_ ae),(zK_ af),(zK_ ag),bg.out,bh.out,ai.out,ay.out,aq.out,az.out,ar.out,aA.out,(zB_ HB)⟩)
      skip
      refine zbx (N:=5) (cs := #[.slice none 0 0,.slice none 0 0]) (t:=25) ?_
      intro al hg w48 hbox hb
      replace ab:=zR ab hb;replace ac:=zR ac hb;replace ah:=zR ah hb
      have ag:=A0_ (hbox)
      have bg:=zG hg HB;have bh:=zG hg HB;replace HB:=zB HB hb;have ai:=zL hg aa;have ay:=zM hg aa;replace aa:=zK aa hb;have aq:=zL hg ae;have az:=zM hg ae;replace ae:=zK ae hb;have ar:=zL hg af;have aA:=zM hg af;replace af:=zK af hb;clear hb hbox hg;obtain⟨bP,bQ,bR⟩:=rS ah.out
      (first|subst bR|(injection bR with f1_ f2_ f3_;have f4_:=f1_.symm;have f5_:=f3_.symm;clear f1_ f2_ f3_;subst f4_;subst f5_))
      refine hK.out _ _ ⟨(kC aa.out 0).trans rfl,(kC aa.out 1).trans rfl⟩ (fun hHeld => ?_)
      clear hK K
      refine zN (some 5) ?_
      refine one_ (i:=4) (N:=some 20) (bs 7 63) rfl rfl (by kernel_rfl) (by decide) (fun K hK => ?_)
      refine zg Try.func83 #[.agg #[.slice aI an.length aJ,.slice aK ao.length aM],.slice bP a3.length bQ] ?_
      with_reducible refine(im_.calls k1 _ _ an _ _ ao _ _ a3 au aw _ ?aC ?aD ?aE ?aG ?aX ?aY bV.out).mono ?_
      (case aC=>exact zC a9 HB)
      (case aD=>exact ba.out)
      (case aE=>exact zC bb HB)
      (case aG=>exact bc.out)
      (case aX=>exact zD ah)
      (case aY=>exact(rR ah.out).2.1)
      rintro e w50 ⟨a5,a6,rfl,ap,aT,hb⟩
      refine⟨_,rfl,?_⟩
      have aN:=A0_ (rL (Kd.R_new' (Kd.R_new' (Kd.R_new' ap (rX (zR_ ab))) (rX (zR_ ac))) (rX (zR_ ah))) (bZ (zB_ HB)))
      have aQ:=A0_ (rL (Kd.R_new' (Kd.R_new' (Kd.R_new' aT (rX (zR_ ab))) (rX (zR_ ac))) (rX (zR_ ah))) (bZ (zB_ HB)))
      replace ab:=A0_ (rM (rT (rT (rO (zR_ ab) hb) (Kd.R_base ap)) (Kd.R_base aT)) (fun _ h_=>h_.1))
      replace ac:=A0_ (rM (rT (rT (rO (zR_ ac) hb) (Kd.R_base ap)) (Kd.R_base aT)) (fun _ h_=>h_.1))
      replace ah:=A0_ (rM (rT (rT (rO (zR_ ah) hb) (Kd.R_base ap)) (Kd.R_base aT)) (fun _ h_=>h_.1))
      replace aa:=zK aa hb;replace ae:=zK ae hb;replace af:=zK af hb;replace ag:=zK ag hb;replace HB:=zB HB hb;(try clear hb);(try clear hk);(try clear ap);(try clear aT)
      refine hK.out _ _ ⟨(kC aa.out 0).trans rfl,(kC aa.out 1).trans rfl⟩ (fun hHeld => ?_)
      clear hK K
      refine zN (some 20) ?_
      exact norm_ zA (hCont (.slice bP a3.length bQ,a5,a6,al) _ ⟨hHeld,(zmR ah (fun _ hk=>⟨hk.1.2,⟨hk.2,⟨hk.1.1.1.2,hk.1.1.2⟩⟩⟩)),(zmR aN (fun _ hk=>⟨hk.2,⟨hk.1.1.1,⟨hk.1.1.2,hk.1.2⟩⟩⟩)),(zmR aQ (fun _ hk=>⟨hk.2,⟨hk.1.1.1,⟨hk.1.1.2,hk.1.2⟩⟩⟩)),(zmR ab (fun _ hk=>⟨hk.1.1.2,⟨hk.1.2,⟨hk.2,hk.1.1.1⟩⟩⟩)),(zmR ac (fun _ hk=>⟨hk.1.1.2,⟨hk.1.2,⟨hk.2,hk.1.1.1⟩⟩⟩)),(zK_ aa),(zK_ ae),(zK_ af),(zK_ ag),bg.out,bh.out,ai.out,ay.out,aq.out,az.out,ar.out,aA.out,(zB_ HB)⟩)
     skip
     refine zbx (N:=5) (cs := #[.slice none 0 0,.slice none 0 0]) (t:=25) ?_
     intro al hg w47 hbox hb
     replace ab:=zR ab hb;replace ac:=zR ac hb
     have ag:=A0_ (hbox)
     have bg:=zG hg HB;have bh:=zG hg HB;replace HB:=zB HB hb;have ai:=zL hg aa;have ay:=zM hg aa;replace aa:=zK aa hb;have aq:=zL hg ae;have az:=zM hg ae;replace ae:=zK ae hb;have ar:=zL hg af;have aA:=zM hg af;replace af:=zK af hb;clear hb hbox hg
     refine hK.out _ _ ⟨(kC aa.out 0).trans rfl,(kC aa.out 1).trans rfl⟩ (fun hHeld => ?_)
     clear hK K
     refine zN (some 5) ?_
     refine one_ (i:=3) (N:=some 19) (bs 7 47) rfl rfl (by kernel_rfl) (by decide) (fun K hK => ?_)
     refine zg Try.func61 #[.agg #[.slice aI an.length aJ,.slice aK ao.length aM],.int .i64 bf] ?_
     with_reducible refine(ik_.calls k1 _ _ an _ _ ao bf a3 _ ?aC ?aD ?aE ?aG ck.out).mono ?_
     (case aC=>exact zC a9 HB)
     (case aD=>exact ba.out)
     (case aE=>exact zC bb HB)
     (case aG=>exact bc.out)
     rintro e w48 ⟨a4,rfl,ap,hb⟩
     refine⟨_,rfl,?_⟩
     have ah:=A0_ (rL (Kd.R_new' (Kd.R_new' ap (rX (zR_ ab))) (rX (zR_ ac))) (bZ (zB_ HB)))
     replace ab:=A0_ (Kd.R_elder' (zR_ ab) (Kd.R_base ap) hb)
     replace ac:=A0_ (Kd.R_elder' (zR_ ac) (Kd.R_base ap) hb)
     replace aa:=zK aa hb;replace ae:=zK ae hb;replace af:=zK af hb;replace ag:=zK ag hb;replace HB:=zB HB hb;(try clear hb);(try clear hk);(try clear ap);obtain⟨bP,bQ,bR⟩:=rS ah.out
     (first|subst bR|(injection bR with f1_ f2_ f3_;have f4_:=f1_.symm;have f5_:=f3_.symm;clear f1_ f2_ f3_;subst f4_;subst f5_))
     refine hK.out _ _ ⟨(kC aa.out 0).trans rfl,(kC aa.out 1).trans rfl⟩ (fun hHeld => ?_)
     clear hK K
     refine zN (some 19) ?_
     refine one_ (i:=4) (N:=some 20) (bs 7 63) rfl rfl (by kernel_rfl) (by decide) (fun K hK => ?_)
     refine zg Try.func83 #[.agg #[.slice aI an.length aJ,.slice aK ao.length aM],.slice bP a3.length bQ] ?_
     with_reducible refine(im_.calls k1 _ _ an _ _ ao _ _ a3 au aw _ ?aC ?aD ?aE ?aG ?aX ?aY bV.out).mono ?_
     (case aC=>exact zC a9 HB)
     (case aD=>exact ba.out)
     (case aE=>exact zC bb HB)
     (case aG=>exact bc.out)
     (case aX=>exact zD ah)
     (case aY=>exact(rR ah.out).2.1)
     rintro e w50 ⟨a5,a6,rfl,ap,aT,hb⟩
     refine⟨_,rfl,?_⟩
     have aN:=A0_ (rL (Kd.R_new' (Kd.R_new' (Kd.R_new' ap (rX (zR_ ab))) (rX (zR_ ac))) (rX (zR_ ah))) (bZ (zB_ HB)))
     have aQ:=A0_ (rL (Kd.R_new' (Kd.R_new' (Kd.R_new' aT (rX (zR_ ab))) (rX (zR_ ac))) (rX (zR_ ah))) (bZ (zB_ HB)))
     replace ab:=A0_ (rM (rT (rT (rO (zR_ ab) hb) (Kd.R_base ap)) (Kd.R_base aT)) (fun _ h_=>h_.1))
     replace ac:=A0_ (rM (rT (rT (rO (zR_ ac) hb) (Kd.R_base ap)) (Kd.R_base aT)) (fun _ h_=>h_.1))
     replace ah:=A0_ (rM (rT (rT (rO (zR_ ah) hb) (Kd.R_base ap)) (Kd.R_base aT)) (fun _ h_=>h_.1))
     replace aa:=zK aa hb;replace ae:=zK ae hb;replace af:=zK af hb;replace ag:=zK ag hb;replace HB:=zB HB hb;(try clear hb);(try clear hk);(try clear ap);(try clear aT)
     refine hK.out _ _ ⟨(kC aa.out 0).trans rfl,(kC aa.out 1).trans rfl⟩ (fun hHeld => ?_)
     clear hK K
     refine zN (some 20) ?_
     exact norm_ zA (hCont (.slice bP a3.length bQ,a5,a6,al) _ ⟨hHeld,(zmR ah (fun _ hk=>⟨hk.1.2,⟨hk.2,⟨hk.1.1.1.2,hk.1.1.2⟩⟩⟩)),(zmR aN (fun _ hk=>⟨hk.2,⟨hk.1.1.1,⟨hk.1.1.2,hk.1.2⟩⟩⟩)),(zmR aQ (fun _ hk=>⟨hk.2,⟨hk.1.1.1,⟨hk.1.1.2,hk.1.2⟩⟩⟩)),(zmR ab (fun _ hk=>⟨hk.1.1.2,⟨hk.1.2,⟨hk.2,hk.1.1.1⟩⟩⟩)),(zmR ac (fun _ hk=>⟨hk.1.1.2,⟨hk.1.2,⟨hk.2,hk.1.1.1⟩⟩⟩)),(zK_ aa),(zK_ ae),(zK_ af),(zK_ ag),bg.out,bh.out,ai.out,ay.out,aq.out,az.out,ar.out,aA.out,(zB_ HB)⟩)
    rintro⟨a4,a5,a6,al⟩ w51 ⟨hS_,h0_,h1_,h2_,h3_,h4_,h5_,h6_,h7_,h8_,h9_,h10_,h11_,h12_,h13_,h14_,h15_,h16_,h17_⟩
    have ah:Aside0 (Kd.R (Kd.int .i64) 3 w51 w.heap.size (fun k_=>some k_≠(a5:Value).ownBlock∧some k_≠(a6:Value).ownBlock∧some k_≠(u404000:Value).ownBlock∧some k_≠(u404001:Value).ownBlock) a4 a3):=⟨h0_⟩
    have aN:Aside0 (Kd.R (Kd.int .i64) 3 w51 w.heap.size (fun k_=>some k_≠(a4:Value).ownBlock∧some k_≠(a6:Value).ownBlock∧some k_≠(u404000:Value).ownBlock∧some k_≠(u404001:Value).ownBlock) a5 au):=⟨h1_⟩
    have aQ:Aside0 (Kd.R (Kd.int .i64) 3 w51 w.heap.size (fun k_=>some k_≠(a4:Value).ownBlock∧some k_≠(a5:Value).ownBlock∧some k_≠(u404000:Value).ownBlock∧some k_≠(u404001:Value).ownBlock) a6 aw):=⟨h2_⟩
    replace ab:Aside0 (Kd.R (Kd.int .i64) 3 w51 w.heap.size (fun k_=>some k_≠(a4:Value).ownBlock∧some k_≠(a5:Value).ownBlock∧some k_≠(a6:Value).ownBlock∧some k_≠(u404001:Value).ownBlock) u404000 aj):=⟨h3_⟩
    replace ac:Aside0 (Kd.R (Kd.int .i64) 3 w51 w.heap.size (fun k_=>some k_≠(a4:Value).ownBlock∧some k_≠(a5:Value).ownBlock∧some k_≠(a6:Value).ownBlock∧some k_≠(u404000:Value).ownBlock) u404001 ak):=⟨h4_⟩
    replace aa:Aside0 (w51.heap[av]? = some (.cells #[.slice aI an.length aJ,.slice aK ao.length aM] 25 (0,0))):=⟨h5_⟩
    replace ae:Aside0 (w51.heap[aW]? = some (.cells #[.slice none 0 0,.slice none 0 0] 25 (0,0))):=⟨h6_⟩
    replace af:Aside0 (w51.heap[am]? = some (.cells #[u404000,u404001] 25 (0,0))):=⟨h7_⟩
    have ag:Aside0 (w51.heap[al]? = some (.cells #[.slice none 0 0,.slice none 0 0] 25 (0,0))):=⟨h8_⟩
    have bg:Aside0 (w.heap.size≤al):=⟨h9_⟩
    have bh:Aside0 (w.heap.size≤al):=⟨h10_⟩
    have ai:Aside0 (av≠al):=⟨h11_⟩
    have ay:Aside0 (al≠av):=⟨h12_⟩
    have aq:Aside0 (aW≠al):=⟨h13_⟩
    have az:Aside0 (al≠aW):=⟨h14_⟩
    have ar:Aside0 (am≠al):=⟨h15_⟩
    have aA:Aside0 (al≠am):=⟨h16_⟩
    replace HB:Aside0 (Below w.heap.size w w51):=⟨h17_⟩
    clear h0_ h1_ h2_ h3_ h4_ h5_ h6_ h7_ h8_ h9_ h10_ h11_ h12_ h13_ h14_ h15_ h16_ h17_
    have hHeld:w51.cell? ⟨av,0,none⟩=some (.slice aI an.length aJ)∧w51.cell? ⟨av,1,none⟩=some (.slice aK ao.length aM):=hS_
    obtain⟨bk,bi,cC⟩:=rS aN.out
    (first|subst cC|(injection cC with f1_ f2_ f3_;have f4_:=f1_.symm;have f5_:=f3_.symm;clear f1_ f2_ f3_;subst f4_;subst f5_))
    obtain⟨bm,bl,cE⟩:=rS aQ.out
    (first|subst cE|(injection cE with f1_ f2_ f3_;have f4_:=f1_.symm;have f5_:=f3_.symm;clear f1_ f2_ f3_;subst f4_;subst f5_))
    refine norm_ (a' := ?_) ?_ ?_
    rotate_left
    ·simp only [putAll,Act.put,List.setIfInBounds_toArray,List.set_cons_zero,List.set_cons_succ]
     rfl
    refine one_ (i:=6) (N:=none) (bs 7 127) rfl rfl (by kernel_rfl) (by decide) (fun K hK => ?_)
    have eT:w51.cell? ⟨al,0,none⟩=some (.slice none 0 0):=(kC ag.out 0).trans rfl
    have ew:=kF ag.out 0;have dE:=ai.out;have dG:=aq.out;have dH:=ar.out;have dI:=ay.out;have dJ:=az.out;have dK:=aA.out
    have eU:w51.cell? ⟨al,1,none⟩=some (.slice none 0 0):=(kC ag.out 1).trans rfl
    have ex:=kF ag.out 1;have dL:=ai.out;have dM:=aq.out;have dN:=ar.out;have dO:=ay.out;have dP:=az.out;have dQ:=aA.out
    refine skip_ (w1 := ?_) (by rfl) rfl ?_ ?_
    rotate_left
    ·go_simp
     rfl
    refine hK.out _ _ ⟨((cell_far (p:=⟨al,_,none⟩) ai.out _).trans (((cell_far (p:=⟨al,_,none⟩) ai.out _).trans (hHeld.1)))),((cell_far (p:=⟨al,_,none⟩) ai.out _).trans (((cell_far (p:=⟨al,_,none⟩) ai.out _).trans (hHeld.2))))⟩ (fun hHeld => ?_)
    clear hK K
    refine done_ (by kernel_rfl) ?_
    have ey:=ay.out;have ez:=ai.out;have eA:=az.out;have eB:=aq.out;have eC:=aA.out;have eD:=ar.out
    have dR:w51.cell? ⟨al,0,none⟩=some (.slice none 0 0):=(kC ag.out 0).trans rfl
    have dS:w51.cell? ⟨al,1,none⟩=some (.slice none 0 0):=(kC ag.out 1).trans rfl
    have dU:=kF ag.out 0;have dV:=kF ag.out 1;have eE:=aV.out;have eF:=ax.out;have eG:=aZ.out;have eH:=aU.out
    have dW:w51.cell? ⟨am,0,none⟩=some (u404000):=(kC af.out 0).trans rfl
    have dX:w51.cell? ⟨am,1,none⟩=some (u404001):=(kC af.out 1).trans rfl
    have dY:=kF af.out 0;have dZ:=kF af.out 1;obtain⟨bG,bE,cO⟩:=rS ab.out;subst cO;obtain⟨bH,bF,cP⟩:=rS ac.out;subst cP
    try go_wp2_with (first|((with_reducible refine gC (f:=84) rfl ?_);refine zJ (some 23) Try.func84 #[.agg #[.slice bk au.length bi,.slice bm aw.length bl],.agg #[.slice bG aj.length bE,.slice bH ak.length bF]] ?_;(with_reducible refine(ib_.calls k1 _ _ au _ _ aw _ _ aj _ _ ak cb _ ?aC ?aD ?aE ?aG ?aX ?aY ?b2 ?b3 cK.out).mono ?_);(case aC=>refine(rR (e:=3) (base:=w.heap.size) (ok:=fun k_=>(some k_≠(a4:Value).ownBlock∧(some k_≠(.slice bm aw.length bl:Value).ownBlock∧(some k_≠(.slice bG aj.length bE:Value).ownBlock∧some k_≠(.slice bH ak.length bF:Value).ownBlock)))) (n:=au.length) (c:=bi) ?_).2.2;exact(zF aN ag (.slice bk au.length bi) (.slice bm aw.length bl) 0 1));(case aD=>exact(rR aN.out).2.1);(case aE=>refine(rR (e:=3) (base:=w.heap.size) (ok:=fun k_=>(some k_≠(a4:Value).ownBlock∧(some k_≠(.slice bk au.length bi:Value).ownBlock∧(some k_≠(.slice bG aj.length bE:Value).ownBlock∧some k_≠(.slice bH ak.length bF:Value).ownBlock)))) (n:=aw.length) (c:=bl) ?_).2.2;exact(zF aQ ag (.slice bk au.length bi) (.slice bm aw.length bl) 0 1));(case aG=>exact(rR aQ.out).2.1);(case aX=>refine(rR (e:=3) (base:=w.heap.size) (ok:=fun k_=>(some k_≠(a4:Value).ownBlock∧(some k_≠(.slice bk au.length bi:Value).ownBlock∧(some k_≠(.slice bm aw.length bl:Value).ownBlock∧some k_≠(.slice bH ak.length bF:Value).ownBlock)))) (n:=aj.length) (c:=bE) ?_).2.2;exact(zF ab ag (.slice bk au.length bi) (.slice bm aw.length bl) 0 1));(case aY=>exact(rR ab.out).2.1);(case b2=>refine(rR (e:=3) (base:=w.heap.size) (ok:=fun k_=>(some k_≠(a4:Value).ownBlock∧(some k_≠(.slice bk au.length bi:Value).ownBlock∧(some k_≠(.slice bm aw.length bl:Value).ownBlock∧some k_≠(.slice bG aj.length bE:Value).ownBlock)))) (n:=ak.length) (c:=bF) ?_).2.2;exact(zF ac ag (.slice bk au.length bi) (.slice bm aw.length bl) 0 1));(case b3=>exact(rR ac.out).2.1);rintro e w65 ⟨rfl,hb⟩;refine⟨_,rfl,?_⟩;replace ab:=A0_ (rB (zF ab ag (.slice bk au.length bi) (.slice bm aw.length bl) 0 1) hb);replace ac:=A0_ (rB (zF ac ag (.slice bk au.length bi) (.slice bm aw.length bl) 0 1) hb);replace ah:=A0_ (rB (zF ah ag (.slice bk au.length bi) (.slice bm aw.length bl) 0 1) hb);replace aN:=A0_ (rB (zF aN ag (.slice bk au.length bi) (.slice bm aw.length bl) 0 1) hb);replace aQ:=A0_ (rB (zF aQ ag (.slice bk au.length bi) (.slice bm aw.length bl) 0 1) hb);replace aa:=A0_ (kB (g:=av) (o := .cells #[.slice aI an.length aJ,.slice aK ao.length aM] 25 (0,0)) (by refine zbf ?_ _ (hp:=by exact ai.out);refine zbf ?_ _ (hp:=by exact ai.out);exact zK_ aa) hb);replace ae:=A0_ (kB (g:=aW) (o := .cells #[.slice none 0 0,.slice none 0 0] 25 (0,0)) (by refine zbf ?_ _ (hp:=by exact aq.out);refine zbf ?_ _ (hp:=by exact aq.out);exact zK_ ae) hb);replace af:=A0_ (kB (g:=am) (o := .cells #[.slice bG aj.length bE,.slice bH ak.length bF] 25 (0,0)) (by refine zbf ?_ _ (hp:=by exact ar.out);refine zbf ?_ _ (hp:=by exact ar.out);exact zK_ af) hb);replace ag:=A0_ (kB (g:=al) (o := .cells #[.slice bk au.length bi,.slice bm aw.length bl] 25 (0,0)) (by refine zbp (cs := #[.slice bk au.length bi,.slice none 0 0]) ?_ 1 _ rfl;refine zbp (cs := #[.slice none 0 0,.slice none 0 0]) ?_ 0 _ rfl;exact zK_ ag) hb);replace HB:=zB HB hb;(try clear hb)))
    go_roundg k1
    case measure=>have:=cj.out;omega
    case rel=>exact⟨(wrap64 (bf+1)),(aj),(ak),(.slice bG aj.length bE),(.slice bH ak.length bF),zt,H',⟨by have:=cj.out;omega⟩,⟨zmR ab (fun _ hk=>hk.2.2.2)⟩,⟨zmR ac (fun _ hk=>hk.2.2.2)⟩,⟨zK_ aa⟩,⟨zK_ ae⟩,⟨zK_ af⟩,⟨zB_ HB⟩⟩
   rw [if_neg bU] at H;have cF:=dF bU;clear bU;simp only [Option.some.injEq,Prod.mk.injEq] at H;obtain⟨rfl,rfl⟩:=H;have eI:=aV.out;have eJ:=ax.out;have eK:=aZ.out;have eL:=aU.out
   have d0:wr.cell? ⟨am,0,none⟩=some (u404000):=(kC af.out 0).trans rfl
   have d3:wr.cell? ⟨am,1,none⟩=some (u404001):=(kC af.out 1).trans rfl
   have d4:=kF af.out 0;have d5:=kF af.out 1;obtain⟨b4,b5,cQ⟩:=rS ab.out;subst cQ;have eM:=bJ.out;have eN:=bI.out;have d6:=zc0 ae;have d7:=zc1 ae;have d8:=kF ae.out 0;have d9:=kF ae.out 1;obtain⟨cc,cd,cR⟩:=rS ac.out;subst cR
   go_wp2
   refine bodyPost_ret (results_cell_row rfl _ _ aW 25 #[.slice b4 aj.length b5,.slice cc ak.length cd] (0,0) _ rfl (by refine zbp (cs := #[.slice b4 aj.length b5,.slice none 0 0]) ?_ 1 _ rfl;refine zbp (cs := #[.slice none 0 0,.slice none 0 0]) ?_ 0 _ rfl;exact zK_ ae) Try.underlying25 rfl (by kernel_rfl)) rfl ?_
   exact⟨_,_,by first|rfl|(simp [*] <;> rfl),zF ab ae (.slice b4 aj.length b5) (.slice cc ak.length cd) 0 1,zF ac ae (.slice b4 aj.length b5) (.slice cc ak.length cd) 0 1,zB_ HB⟩
end Go.Proofs.Ytmegggomhjgehaa.PFnCoverTree
