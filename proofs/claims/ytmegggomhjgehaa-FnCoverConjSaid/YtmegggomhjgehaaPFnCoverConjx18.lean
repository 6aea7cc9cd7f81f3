import Derived.Test.YtmegggomhjgehaaPFnCoverConjx15
import Derived.Test.YtmegggomhjgehaaPFnCoverConjx16
import Derived.Test.YtmegggomhjgehaaPFnCoverConjx17
namespace Go.Proofs.Ytmegggomhjgehaa.PFnCoverConj
open Go.RowKit Go.Proofs.YtmegggomhjgehaaW.PrintWords Go.Proofs.YtmegggomhjgehaaW.PrintLast Go.Proofs.YtmegggomhjgehaaW.PrintMore
set_option maxHeartbeats 8000000
set_option maxRecDepth 100000
attribute [local go_sem] max2_int min2_int max_two min_two max_three min_three max_four min_four
def ii_.l0:Nat→Int→Int→List Int→List Int→List Int→List Int→Option (List Int×List Int)
  | 0,_,_,_,_,_,_=>none
  | k+1,ah,ag,aa,ab,ac,ae=>if ag<ah then ((ik_.f k aa ab ag).bind fun ai=>((im_.f k aa ab ai).bind fun af=>((ic_.f k af.1 af.2 ac ae).bind fun aj=>(if aj<0 then (ii_.l0 k ah (wrap64 (ag+1)) aa ab af.1 af.2) else (ii_.l0 k ah (wrap64 (ag+1)) aa ab ac ae))))) else (some (ac,ae))
def ii_.f (k:Nat) (aa:List Int) (ab:List Int):Option (List Int×List Int):=(ik_.f k aa ab 0).bind fun ae=>((im_.f k aa ab ae).bind fun ac=>(ii_.l0 k (aa.length:Int) 0 aa ab ac.1 ac.2))
theorem ii_.calls (k:Nat) (aI:Option Addr) (aJ:Nat) (an:List Int) (aK:Option Addr) (aM:Nat) (ao:List Int) (r1:List Int) (r2:List Int) (w:World) (cf:Kd.C (Kd.int .i64) w aI an.length an) (cg:an.length≤aJ) (ch:Kd.C (Kd.int .i64) w aK ao.length ao) (ci:ao.length≤aM) (h:ii_.f k an ao=some (r1,r2)) :
    Calls Try.prog 92 #[.agg #[.slice aI an.length aJ,.slice aK ao.length aM]] w fun e w' => ∃ v0_ v1_:Value,e = .returned (.agg #[v0_,v1_])∧Kd.R (Kd.int .i64) 3 w' w.heap.size (fun k_=>nO k_ v1_) v0_ r1∧Kd.R (Kd.int .i64) 3 w' w.heap.size (fun k_=>nO k_ v0_) v1_ r2∧Below w.heap.size w w':=by
 have eP:=Try.underlying25;have ba:=A0_ cf;have bb:=A0_ cg;clear cf cg;have bc:=A0_ ch;have bd:=A0_ ci;clear ch ci
 have HB:=A0_ (Below.refl w.heap.size w)
 have H:((ik_.f k an ao 0).bind fun bk=>((im_.f k an ao bk).bind fun cj=>(ii_.l0 k (an.length:Int) 0 an ao cj.1 cj.2)))=some (r1,r2):=h
 clear h;obtain⟨bk,A2,H⟩:=zbind H;obtain⟨⟨bq,br⟩,A3,H⟩:=zbind H;dsimp only at H;have H':=A0_ H;clear H
 go_enter Try.func92,Try.ntmps92
 try go_wp2_with (first|((with_reducible refine gD (N:=1) rfl ?_);refine zX (N:=1) (cs := #[.slice aI an.length aJ,.slice aK ao.length aM]) (t:=25) ?_;intro av hg w4 hbox hb;have aa:=A0_ (hbox);have eb:=zG hg HB;have ec:=zG hg HB;replace HB:=zB HB hb;clear hb hbox hg)|((with_reducible refine gD (N:=2) rfl ?_);refine zX (N:=2) (cs := #[.slice none 0 0,.slice none 0 0]) (t:=25) ?_;intro aW hg w5 hbox hb;have ae:=A0_ (hbox);have ed:=zG hg HB;have ee:=zG hg HB;replace HB:=zB HB hb;have bJ:=zL hg aa;have bK:=zM hg aa;replace aa:=zK aa hb;clear hb hbox hg))
 replace aa:=A0_ (kD aa.out)
 replace ae:=A0_ (kD ae.out)
 replace HB:=A0_ (bD HB.out)
 refine start_ (n:=6) (S:=fun w'=>w'.cell? ⟨av,0,none⟩=some (.slice aI an.length aJ)∧w'.cell? ⟨av,1,none⟩=some (.slice aK ao.length aM)) (ds := []) (bs 6 0) (by kernel_rfl) rfl rfl ⟨(kC aa.out 0).trans rfl,(kC aa.out 1).trans rfl⟩ (fun hHeld => ?_)
 generalize w5.drew=w6 at aa ae HB hHeld ⊢
 refine zT0 0 (some 6) (bs 6 1) hHeld ?_
 refine zT0 1 (some 7) (bs 6 3) hHeld ?_
 refine join_ (σ:=Value×Value×Value×Nat) 1 (bs 6 31) (fun s_ => [(8,s_.1),(9,.agg #[s_.2.1,s_.2.2.1]),(3,.pointer (some ⟨s_.2.2.2,0,none⟩))]) (fun s_ w'=>(w'.cell? ⟨av,0,none⟩=some (.slice aI an.length aJ)∧w'.cell? ⟨av,1,none⟩=some (.slice aK ao.length aM))∧(Kd.R (Kd.int .i64) 3 w' w.heap.size (fun k_=>some k_≠(s_.2.1:Value).ownBlock∧some k_≠(s_.2.2.1:Value).ownBlock) s_.1 bk)∧(Kd.R (Kd.int .i64) 3 w' w.heap.size (fun k_=>some k_≠(s_.1:Value).ownBlock∧some k_≠(s_.2.2.1:Value).ownBlock) s_.2.1 bq)∧(Kd.R (Kd.int .i64) 3 w' w.heap.size (fun k_=>some k_≠(s_.1:Value).ownBlock∧some k_≠(s_.2.1:Value).ownBlock) s_.2.2.1 br)∧(w'.heap[av]? = some (.cells #[.slice aI an.length aJ,.slice aK ao.length aM] 25 (0,0)))∧(w'.heap[aW]? = some (.cells #[.slice none 0 0,.slice none 0 0] 25 (0,0)))∧(w'.heap[s_.2.2.2]? = some (.cells #[.slice none 0 0,.slice none 0 0] 25 (0,0)))∧(w.heap.size≤s_.2.2.2)∧(w.heap.size≤s_.2.2.2)∧(av≠s_.2.2.2)∧(s_.2.2.2≠av)∧(aW≠s_.2.2.2)∧(s_.2.2.2≠aW)∧(Below w.heap.size w w')) ?_ ?_
 rotate_left
 ·intro hCont
  refine two_ (i:=2) (j:=4) (Ni:=some 8) (Nj:=some 3) (bs 6 7) (bs 6 19) rfl rfl rfl rfl (by kernel_rfl) (by decide) (by decide) (fun K hK => ?_) (fun K hK => ?_)
  ·skip
   refine zg Try.func61 #[.agg #[.slice aI an.length aJ,.slice aK ao.length aM],.int .i64 0] ?_
   with_reducible refine(ik_.calls k _ _ an _ _ ao 0 bk _ ?aC ?aD ?aE ?aG A2.out).mono ?_
   (case aC=>exact zC ba HB)
   (case aD=>exact bb.out)
   (case aE=>exact zC bc HB)
   (case aG=>exact bd.out)
   rintro e w7 ⟨bL,rfl,ap,hb⟩
   refine⟨_,rfl,?_⟩
   have aH:=A0_ (rL ap (bZ (zB_ HB)))
   replace aa:=zK aa hb;replace ae:=zK ae hb;replace HB:=zB HB hb;(try clear hb);(try clear ap);obtain⟨cI,cJ,cK⟩:=rS aH.out
   (first|subst cK|(injection cK with f1_ f2_ f3_;have f4_:=f1_.symm;have f5_:=f3_.symm;clear f1_ f2_ f3_;subst f4_;subst f5_))
   refine hK.out _ _ ⟨(kC aa.out 0).trans rfl,(kC aa.out 1).trans rfl⟩ (fun hHeld => ?_)
   clear hK K
   refine zN (some 8) ?_
   refine two_ (i:=3) (j:=4) (Ni:=some 9) (Nj:=some 3) (bs 6 15) (bs 6 23) rfl rfl rfl rfl (by kernel_rfl) (by decide) (by decide) (fun K hK => ?_) (fun K hK => ?_)
   ·skip
    refine zg Try.func83 #[.agg #[.slice aI an.length aJ,.slice aK ao.length aM],.slice cI bk.length cJ] ?_
    with_reducible refine(im_.calls k _ _ an _ _ ao _ _ bk bq br _ ?aC ?aD ?aE ?aG ?aX ?aY A3.out).mono ?_
    (case aC=>exact zC ba HB)
    (case aD=>exact bb.out)
    (case aE=>exact zC bc HB)
    (case aG=>exact bd.out)
    (case aX=>exact zD aH)
    (case aY=>exact(rR aH.out).2.1)
    rintro e w9 ⟨bu,bv,rfl,ap,aT,hb⟩
    refine⟨_,rfl,?_⟩
    have bo:=A0_ (rL (Kd.R_new' ap (rX (zR_ aH))) (bZ (zB_ HB)))
    have bp:=A0_ (rL (Kd.R_new' aT (rX (zR_ aH))) (bZ (zB_ HB)))
    replace aH:=A0_ (rM (rT (rT (rO (zR_ aH) hb) (Kd.R_base ap)) (Kd.R_base aT)) (fun _ h_=>h_.1))
    replace aa:=zK aa hb;replace ae:=zK ae hb;replace HB:=zB HB hb;(try clear hb);(try clear ap);(try clear aT)
    refine hK.out _ _ ⟨(kC aa.out 0).trans rfl,(kC aa.out 1).trans rfl⟩ (fun hHeld => ?_)
    clear hK K
    refine zN (some 9) ?_
    refine one_ (i:=4) (N:=some 3) (bs 6 31) rfl rfl (by kernel_rfl) (by decide) (fun K hK => ?_)
    refine zbx (N:=3) (cs := #[.slice none 0 0,.slice none 0 0]) (t:=25) ?_
    intro am hg w10 hbox hb
    replace aH:=zR aH hb;replace bo:=zR bo hb;replace bp:=zR bp hb
    have af:=A0_ (hbox)
    have bB:=zG hg HB;have bC:=zG hg HB;replace HB:=zB HB hb;have ax:=zL hg aa;have aV:=zM hg aa;replace aa:=zK aa hb;have aU:=zL hg ae;have aZ:=zM hg ae;replace ae:=zK ae hb;clear hb hbox hg
    refine hK.out _ _ ⟨(kC aa.out 0).trans rfl,(kC aa.out 1).trans rfl⟩ (fun hHeld => ?_)
    clear hK K
    refine zN (some 3) ?_
    exact norm_ zA (hCont (.slice cI bk.length cJ,bu,bv,am) _ ⟨hHeld,(zmR aH (fun _ hk=>⟨hk.1.2,hk.2⟩)),(zmR bo (fun _ hk=>⟨hk.2,hk.1⟩)),(zmR bp (fun _ hk=>⟨hk.2,hk.1⟩)),(zK_ aa),(zK_ ae),(zK_ af),bB.out,bC.out,ax.out,aV.out,aU.out,aZ.out,(zB_ HB)⟩)
   skip
   refine zbx (N:=3) (cs := #[.slice none 0 0,.slice none 0 0]) (t:=25) ?_
   intro am hg w8 hbox hb
   replace aH:=zR aH hb
   have af:=A0_ (hbox)
   have bB:=zG hg HB;have bC:=zG hg HB;replace HB:=zB HB hb;have ax:=zL hg aa;have aV:=zM hg aa;replace aa:=zK aa hb;have aU:=zL hg ae;have aZ:=zM hg ae;replace ae:=zK ae hb;clear hb hbox hg;obtain⟨b7,b8,b9⟩:=rS aH.out
   (first|subst b9|(injection b9 with f1_ f2_ f3_;have f4_:=f1_.symm;have f5_:=f3_.symm;clear f1_ f2_ f3_;subst f4_;subst f5_))
   refine hK.out _ _ ⟨(kC aa.out 0).trans rfl,(kC aa.out 1).trans rfl⟩ (fun hHeld => ?_)
   clear hK K
   refine zN (some 3) ?_
   refine one_ (i:=3) (N:=some 9) (bs 6 31) rfl rfl (by kernel_rfl) (by decide) (fun K hK => ?_)
   refine zg Try.func83 #[.agg #[.slice aI an.length aJ,.slice aK ao.length aM],.slice b7 bk.length b8] ?_
   with_reducible refine(im_.calls k _ _ an _ _ ao _ _ bk bq br _ ?aC ?aD ?aE ?aG ?aX ?aY A3.out).mono ?_
   (case aC=>exact zC ba HB)
   (case aD=>exact bb.out)
   (case aE=>exact zC bc HB)
   (case aG=>exact bd.out)
   (case aX=>exact zD aH)
   (case aY=>exact(rR aH.out).2.1)
   rintro e w10 ⟨bu,bv,rfl,ap,aT,hb⟩
   refine⟨_,rfl,?_⟩
   have bo:=A0_ (rL (Kd.R_new' ap (rX (zR_ aH))) (bZ (zB_ HB)))
   have bp:=A0_ (rL (Kd.R_new' aT (rX (zR_ aH))) (bZ (zB_ HB)))
   replace aH:=A0_ (rM (rT (rT (rO (zR_ aH) hb) (Kd.R_base ap)) (Kd.R_base aT)) (fun _ h_=>h_.1))
   replace aa:=zK aa hb;replace ae:=zK ae hb;replace af:=zK af hb;replace HB:=zB HB hb;(try clear hb);(try clear ap);(try clear aT)
   refine hK.out _ _ ⟨(kC aa.out 0).trans rfl,(kC aa.out 1).trans rfl⟩ (fun hHeld => ?_)
   clear hK K
   refine zN (some 9) ?_
   exact norm_ zA (hCont (.slice b7 bk.length b8,bu,bv,am) _ ⟨hHeld,(zmR aH (fun _ hk=>⟨hk.1.2,hk.2⟩)),(zmR bo (fun _ hk=>⟨hk.2,hk.1⟩)),(zmR bp (fun _ hk=>⟨hk.2,hk.1⟩)),(zK_ aa),(zK_ ae),(zK_ af),bB.out,bC.out,ax.out,aV.out,aU.out,aZ.out,(zB_ HB)⟩)
  skip
  refine zbx (N:=3) (cs := #[.slice none 0 0,.slice none 0 0]) (t:=25) ?_
  intro am hg w7 hbox hb
  have af:=A0_ (hbox)
  have bB:=zG hg HB;have bC:=zG hg HB;replace HB:=zB HB hb;have ax:=zL hg aa;have aV:=zM hg aa;replace aa:=zK aa hb;have aU:=zL hg ae;have aZ:=zM hg ae;replace ae:=zK ae hb;clear hb hbox hg
  refine hK.out _ _ ⟨(kC aa.out 0).trans rfl,(kC aa.out 1).trans rfl⟩ (fun hHeld => ?_)
  clear hK K
  refine zN (some 3) ?_
  refine one_ (i:=2) (N:=some 8) (bs 6 23) rfl rfl (by kernel_rfl) (by decide) (fun K hK => ?_)
  refine zg Try.func61 #[.agg #[.slice aI an.length aJ,.slice aK ao.length aM],.int .i64 0] ?_
  with_reducible refine(ik_.calls k _ _ an _ _ ao 0 bk _ ?aC ?aD ?aE ?aG A2.out).mono ?_
  (case aC=>exact zC ba HB)
  (case aD=>exact bb.out)
  (case aE=>exact zC bc HB)
  (case aG=>exact bd.out)
  rintro e w8 ⟨bL,rfl,ap,hb⟩
  refine⟨_,rfl,?_⟩
  have aH:=A0_ (rL ap (bZ (zB_ HB)))
  replace aa:=zK aa hb;replace ae:=zK ae hb;replace af:=zK af hb;replace HB:=zB HB hb;(try clear hb);(try clear ap);obtain⟨b7,b8,b9⟩:=rS aH.out
  (first|subst b9|(injection b9 with f1_ f2_ f3_;have f4_:=f1_.symm;have f5_:=f3_.symm;clear f1_ f2_ f3_;subst f4_;subst f5_))
  refine hK.out _ _ ⟨(kC aa.out 0).trans rfl,(kC aa.out 1).trans rfl⟩ (fun hHeld => ?_)
  clear hK K
  refine zN (some 8) ?_
  refine one_ (i:=3) (N:=some 9) (bs 6 31) rfl rfl (by kernel_rfl) (by decide) (fun K hK => ?_)
  refine zg Try.func83 #[.agg #[.slice aI an.length aJ,.slice aK ao.length aM],.slice b7 bk.length b8] ?_
  with_reducible refine(im_.calls k _ _ an _ _ ao _ _ bk bq br _ ?aC ?aD ?aE ?aG ?aX ?aY A3.out).mono ?_
  (case aC=>exact zC ba HB)
  (case aD=>exact bb.out)
  (case aE=>exact zC bc HB)
  (case aG=>exact bd.out)
  (case aX=>exact zD aH)
  (case aY=>exact(rR aH.out).2.1)
  rintro e w10 ⟨bu,bv,rfl,ap,aT,hb⟩
  refine⟨_,rfl,?_⟩
  have bo:=A0_ (rL (Kd.R_new' ap (rX (zR_ aH))) (bZ (zB_ HB)))
  have bp:=A0_ (rL (Kd.R_new' aT (rX (zR_ aH))) (bZ (zB_ HB)))
  replace aH:=A0_ (rM (rT (rT (rO (zR_ aH) hb) (Kd.R_base ap)) (Kd.R_base aT)) (fun _ h_=>h_.1))
  replace aa:=zK aa hb;replace ae:=zK ae hb;replace af:=zK af hb;replace HB:=zB HB hb;(try clear hb);(try clear ap);(try clear aT)
  refine hK.out _ _ ⟨(kC aa.out 0).trans rfl,(kC aa.out 1).trans rfl⟩ (fun hHeld => ?_)
  clear hK K
  refine zN (some 9) ?_
  exact norm_ zA (hCont (.slice b7 bk.length b8,bu,bv,am) _ ⟨hHeld,(zmR aH (fun _ hk=>⟨hk.1.2,hk.2⟩)),(zmR bo (fun _ hk=>⟨hk.2,hk.1⟩)),(zmR bp (fun _ hk=>⟨hk.2,hk.1⟩)),(zK_ aa),(zK_ ae),(zK_ af),bB.out,bC.out,ax.out,aV.out,aU.out,aZ.out,(zB_ HB)⟩)
 rintro⟨bL,bu,bv,am⟩ w11 ⟨hS_,h0_,h1_,h2_,h3_,h4_,h5_,h6_,h7_,h8_,h9_,h10_,h11_,h12_⟩
 have aH:Aside0 (Kd.R (Kd.int .i64) 3 w11 w.heap.size (fun k_=>nO k_ bu∧nO k_ bv) bL bk):=⟨h0_⟩
 have bo:Aside0 (Kd.R (Kd.int .i64) 3 w11 w.heap.size (fun k_=>nO k_ bL∧nO k_ bv) bu bq):=⟨h1_⟩
 have bp:Aside0 (Kd.R (Kd.int .i64) 3 w11 w.heap.size (fun k_=>nO k_ bL∧nO k_ bu) bv br):=⟨h2_⟩
 replace aa:Aside0 (w11.heap[av]? = some (.cells #[.slice aI an.length aJ,.slice aK ao.length aM] 25 (0,0))):=⟨h3_⟩
 replace ae:Aside0 (w11.heap[aW]? = some (.cells #[.slice none 0 0,.slice none 0 0] 25 (0,0))):=⟨h4_⟩
 have af:Aside0 (w11.heap[am]? = some (.cells #[.slice none 0 0,.slice none 0 0] 25 (0,0))):=⟨h5_⟩
 have bB:Aside0 (w.heap.size≤am):=⟨h6_⟩
 have bC:Aside0 (w.heap.size≤am):=⟨h7_⟩
 have ax:Aside0 (av≠am):=⟨h8_⟩
 have aV:Aside0 (am≠av):=⟨h9_⟩
 have aU:Aside0 (aW≠am):=⟨h10_⟩
 have aZ:Aside0 (am≠aW):=⟨h11_⟩
 replace HB:Aside0 (Below w.heap.size w w11):=⟨h12_⟩
 clear h0_ h1_ h2_ h3_ h4_ h5_ h6_ h7_ h8_ h9_ h10_ h11_ h12_
 have hHeld:w11.cell? ⟨av,0,none⟩=some (.slice aI an.length aJ)∧w11.cell? ⟨av,1,none⟩=some (.slice aK ao.length aM):=hS_
 obtain⟨bY,b2,cq⟩:=rS bo.out
 (first|subst cq|(injection cq with f1_ f2_ f3_;have f4_:=f1_.symm;have f5_:=f3_.symm;clear f1_ f2_ f3_;subst f4_;subst f5_))
 obtain⟨ca,cb,cr⟩:=rS bp.out
 (first|subst cr|(injection cr with f1_ f2_ f3_;have f4_:=f1_.symm;have f5_:=f3_.symm;clear f1_ f2_ f3_;subst f4_;subst f5_))
 refine norm_ (a' := ?_) ?_ ?_
 rotate_left
 ·simp only [putAll,Act.put,List.setIfInBounds_toArray,List.set_cons_zero,List.set_cons_succ]
  rfl
 refine one_ (i:=5) (N:=none) (bs 6 63) rfl rfl (by kernel_rfl) (by decide) (fun K hK => ?_)
 have eQ:w11.cell? ⟨am,0,none⟩=some (.slice none 0 0):=(kC af.out 0).trans rfl
 have ef:=kF af.out 0;have cT:=ax.out;have cU:=aU.out;have cV:=aV.out;have cW:=aZ.out
 have eR:w11.cell? ⟨am,1,none⟩=some (.slice none 0 0):=(kC af.out 1).trans rfl
 have eg:=kF af.out 1;have cX:=ax.out;have cY:=aU.out;have cZ:=aV.out;have da:=aZ.out
 refine skip_ (w1 := ?_) (by rfl) rfl ?_ ?_
 rotate_left
 ·go_simp
  rfl
 refine hK.out _ _ ⟨((cell_far (p:=⟨am,_,none⟩) ax.out _).trans (((cell_far (p:=⟨am,_,none⟩) ax.out _).trans (hHeld.1)))),((cell_far (p:=⟨am,_,none⟩) ax.out _).trans (((cell_far (p:=⟨am,_,none⟩) ax.out _).trans (hHeld.2))))⟩ (fun hHeld => ?_)
 clear hK K
 refine done_ (by kernel_rfl) ?_
 have eh:=bJ.out;have ei:=bK.out;have ej:=ax.out;have ek:=aV.out;have cm:=zc0 aa;have cn:=zc1 aa;have co:=kF aa.out 0;have cp:=kF aa.out 1
 try go_wp2
 go_loopg [13] k (fun kq v13 w' => ∃ (bg:Int) (aj:List Int) (ak:List Int) (u714000:Value) (u714001:Value),v13 = .int .i64 bg∧Aside0 (ii_.l0 kq (an.length:Int) bg an ao aj ak=some (r1,r2))∧Aside0 (kq≤k)∧Aside0 (Kd.R (Kd.int .i64) 3 w' w.heap.size (fun k_=>nO k_ u714001) u714000 aj)∧Aside0 (Kd.R (Kd.int .i64) 3 w' w.heap.size (fun k_=>nO k_ u714000) u714001 ak)∧Aside0 (w'.heap[av]? = some (.cells #[(.slice aI an.length aJ),(.slice aK ao.length aM)] 25 (0,0)))∧Aside0 (w'.heap[aW]? = some (.cells #[(.slice none 0 0),(.slice none 0 0)] 25 (0,0)))∧Aside0 (w'.heap[am]? = some (.cells #[u714000,u714001] 25 (0,0)))∧Aside0 (Below w.heap.size w w'))
 case atStart=>exact⟨(0),(bq),(br),(.slice bY bq.length b2),(.slice ca br.length cb),zt,H',⟨Nat.le_refl _⟩,⟨by(with_reducible repeat(first|apply rA|apply rN|apply rD));exact rM (rF (p:=⟨am,1,none⟩) (rF (p:=⟨am,0,none⟩) (rY bo.out af.out (by decide)) (fun _ hk=>hk.2) (.slice bY bq.length b2)) (fun _ hk=>hk.2) (.slice ca br.length cb)) (fun _ hk=>hk.1.2)⟩,⟨by(with_reducible repeat(first|apply rA|apply rN|apply rD));exact rM (rF (p:=⟨am,1,none⟩) (rF (p:=⟨am,0,none⟩) (rY bp.out af.out (by decide)) (fun _ hk=>hk.2) (.slice bY bq.length b2)) (fun _ hk=>hk.2) (.slice ca br.length cb)) (fun _ hk=>hk.1.2)⟩,⟨by refine zbf ?_ _ (hp:=by exact ax.out);refine zbf ?_ _ (hp:=by exact ax.out);exact zK_ aa⟩,⟨by refine zbf ?_ _ (hp:=by exact aU.out);refine zbf ?_ _ (hp:=by exact aU.out);exact zK_ ae⟩,⟨by refine zbp (cs := #[.slice bY bq.length b2,.slice none 0 0]) ?_ 1 _ rfl;refine zbp (cs := #[.slice none 0 0,.slice none 0 0]) ?_ 0 _ rfl;exact zK_ af⟩,⟨zB_ HB⟩⟩
 case round =>
  clear H';(try clear cm);(try clear cn);(try clear co);(try clear cp);obtain⟨bg,aj,ak,u714000,u714001,rfl,HA,ck,ab,ac,aa,ae,af,HB⟩:=hrel
  cases gk with
  | zero=>exact absurd HA.out (by simp [ii_.l0])
  | succ k1 =>
   have H:=HA.out;clear HA;simp only [ii_.l0] at H
   by_cases bV:bg<(an.length:Int)
   ·rw [if_pos bV] at H
    have cG:=dT bV;clear bV;obtain⟨a4,cl,H⟩:=zbind H;obtain⟨⟨au,aw⟩,bW,H⟩:=zbind H;dsimp only at H;obtain⟨cc,cL,H⟩:=zbind H
    by_cases bX:cc<0
    ·rw [if_pos bX] at H
     have cH:=dT bX;clear bX;have H':=A0_ H;clear H
     try go_wp2
     replace ab:=A0_ (rD ab.out)
     replace ac:=A0_ (rD ac.out)
     replace aa:=A0_ (kD aa.out)
     replace ae:=A0_ (kD ae.out)
     replace af:=A0_ (kD af.out)
     replace HB:=A0_ (bD HB.out)
     refine start_ (n:=7) (S:=fun w'=>w'.cell? ⟨av,0,none⟩=some (.slice aI an.length aJ)∧w'.cell? ⟨av,1,none⟩=some (.slice aK ao.length aM)) (ds := []) (bs 7 0) (by kernel_rfl) rfl rfl ⟨(kC aa.out 0).trans rfl,(kC aa.out 1).trans rfl⟩ (fun hHeld => ?_)
     generalize wr.drew=w24 at ab ac aa ae af HB hHeld ⊢
     refine zP0 2 (some 18) (bs 7 4) ?_
     refine zT0 0 (some 16) (bs 7 5) hHeld ?_
     refine zT0 1 (some 17) (bs 7 7) hHeld ?_
     refine join_ (σ:=Value×Value×Value×Nat) 1 (bs 7 63) (fun s_ => [(19,s_.1),(20,.agg #[s_.2.1,s_.2.2.1]),(5,.pointer (some ⟨s_.2.2.2,0,none⟩))]) (fun s_ w'=>(w'.cell? ⟨av,0,none⟩=some (.slice aI an.length aJ)∧w'.cell? ⟨av,1,none⟩=some (.slice aK ao.length aM))∧(Kd.R (Kd.int .i64) 3 w' w.heap.size (fun k_=>some k_≠(s_.2.1:Value).ownBlock∧some k_≠(s_.2.2.1:Value).ownBlock∧nO k_ u714000∧nO k_ u714001) s_.1 a4)∧(Kd.R (Kd.int .i64) 3 w' w.heap.size (fun k_=>some k_≠(s_.1:Value).ownBlock∧some k_≠(s_.2.2.1:Value).ownBlock∧nO k_ u714000∧nO k_ u714001) s_.2.1 au)∧(Kd.R (Kd.int .i64) 3 w' w.heap.size (fun k_=>some k_≠(s_.1:Value).ownBlock∧some k_≠(s_.2.1:Value).ownBlock∧nO k_ u714000∧nO k_ u714001) s_.2.2.1 aw)∧(Kd.R (Kd.int .i64) 3 w' w.heap.size (fun k_=>some k_≠(s_.1:Value).ownBlock∧some k_≠(s_.2.1:Value).ownBlock∧some k_≠(s_.2.2.1:Value).ownBlock∧nO k_ u714001) u714000 aj)∧(Kd.R (Kd.int .i64) 3 w' w.heap.size (fun k_=>some k_≠(s_.1:Value).ownBlock∧some k_≠(s_.2.1:Value).ownBlock∧some k_≠(s_.2.2.1:Value).ownBlock∧nO k_ u714000) u714001 ak)∧(w'.heap[av]? = some (.cells #[.slice aI an.length aJ,.slice aK ao.length aM] 25 (0,0)))∧(w'.heap[aW]? = some (.cells #[.slice none 0 0,.slice none 0 0] 25 (0,0)))∧(w'.heap[am]? = some (.cells #[u714000,u714001] 25 (0,0)))∧(w'.heap[s_.2.2.2]? = some (.cells #[.slice none 0 0,.slice none 0 0] 25 (0,0)))∧(w.heap.size≤s_.2.2.2)∧(w.heap.size≤s_.2.2.2)∧(av≠s_.2.2.2)∧(s_.2.2.2≠av)∧(aW≠s_.2.2.2)∧(s_.2.2.2≠aW)∧(am≠s_.2.2.2)∧(s_.2.2.2≠am)∧(Below w.heap.size w w')) ?_ ?_
     rotate_left
     ·intro hCont
      refine two_ (i:=3) (j:=5) (Ni:=some 19) (Nj:=some 5) (bs 7 15) (bs 7 39) rfl rfl rfl rfl (by kernel_rfl) (by decide) (by decide) (fun K hK => ?_) (fun K hK => ?_)
      ·skip
       refine zg Try.func61 #[.agg #[.slice aI an.length aJ,.slice aK ao.length aM],.int .i64 bg] ?_
       with_reducible refine(ik_.calls k1 _ _ an _ _ ao bg a4 _ ?aC ?aD ?aE ?aG cl.out).mono ?_
       (case aC=>exact zC ba HB)
       (case aD=>exact bb.out)
       (case aE=>exact zC bc HB)
       (case aG=>exact bd.out)
       rintro e w25 ⟨a5,rfl,ap,hb⟩
       refine⟨_,rfl,?_⟩
       have ah:=A0_ (rL (Kd.R_new' (Kd.R_new' ap (rX (zR_ ab))) (rX (zR_ ac))) (bZ (zB_ HB)))
       replace ab:=A0_ (Kd.R_elder' (zR_ ab) (Kd.R_base ap) hb)
       replace ac:=A0_ (Kd.R_elder' (zR_ ac) (Kd.R_base ap) hb)
       replace aa:=zK aa hb;replace ae:=zK ae hb;replace af:=zK af hb;replace HB:=zB HB hb;(try clear hb);(try clear hk);(try clear ap);obtain⟨ct,cu,cv⟩:=rS ah.out
       (first|subst cv|(injection cv with f1_ f2_ f3_;have f4_:=f1_.symm;have f5_:=f3_.symm;clear f1_ f2_ f3_;subst f4_;subst f5_))
       refine hK.out _ _ ⟨(kC aa.out 0).trans rfl,(kC aa.out 1).trans rfl⟩ (fun hHeld => ?_)
       clear hK K
       refine zN (some 19) ?_
       refine two_ (i:=4) (j:=5) (Ni:=some 20) (Nj:=some 5) (bs 7 31) (bs 7 47) rfl rfl rfl rfl (by kernel_rfl) (by decide) (by decide) (fun K hK => ?_) (fun K hK => ?_)
       ·skip
        refine zg Try.func83 #[.agg #[.slice aI an.length aJ,.slice aK ao.length aM],.slice ct a4.length cu] ?_
        with_reducible refine(im_.calls k1 _ _ an _ _ ao _ _ a4 au aw _ ?aC ?aD ?aE ?aG ?aX ?aY bW.out).mono ?_
        (case aC=>exact zC ba HB)
        (case aD=>exact bb.out)
        (case aE=>exact zC bc HB)
        (case aG=>exact bd.out)
        (case aX=>exact zD ah)
        (case aY=>exact(rR ah.out).2.1)
        rintro e w27 ⟨a6,a7,rfl,ap,aT,hb⟩
        refine⟨_,rfl,?_⟩
        have aN:=A0_ (rL (Kd.R_new' (Kd.R_new' (Kd.R_new' ap (rX (zR_ ab))) (rX (zR_ ac))) (rX (zR_ ah))) (bZ (zB_ HB)))
        have aQ:=A0_ (rL (Kd.R_new' (Kd.R_new' (Kd.R_new' aT (rX (zR_ ab))) (rX (zR_ ac))) (rX (zR_ ah))) (bZ (zB_ HB)))
        replace ab:=A0_ (rM (rT (rT (rO (zR_ ab) hb) (Kd.R_base ap)) (Kd.R_base aT)) (fun _ h_=>h_.1))
        replace ac:=A0_ (rM (rT (rT (rO (zR_ ac) hb) (Kd.R_base ap)) (Kd.R_base aT)) (fun _ h_=>h_.1))
        replace ah:=A0_ (rM (rT (rT (rO (zR_ ah) hb) (Kd.R_base ap)) (Kd.R_base aT)) (fun _ h_=>h_.1))
        replace aa:=zK aa hb;replace ae:=zK ae hb;replace af:=zK af hb;replace HB:=zB HB hb;(try clear hb);(try clear hk);(try clear ap);(try clear aT)
        refine hK.out _ _ ⟨(kC aa.out 0).trans rfl,(kC aa.out 1).trans rfl⟩ (fun hHeld => ?_)
        clear hK K
        refine zN (some 20) ?_
        refine one_ (i:=5) (N:=some 5) (bs 7 63) rfl rfl (by kernel_rfl) (by decide) (fun K hK => ?_)
        refine zbx (N:=5) (cs := #[.slice none 0 0,.slice none 0 0]) (t:=25) ?_
        intro al hg w28 hbox hb
        replace ab:=zR ab hb;replace ac:=zR ac hb;replace ah:=zR ah hb;replace aN:=zR aN hb;replace aQ:=zR aQ hb
        have ag:=A0_ (hbox)
        have bh:=zG hg HB;have bi:=zG hg HB;replace HB:=zB HB hb;have ai:=zL hg aa;have ay:=zM hg aa;replace aa:=zK aa hb;have aq:=zL hg ae;have az:=zM hg ae;replace ae:=zK ae hb;have ar:=zL hg af;have aA:=zM hg af;replace af:=zK af hb;clear hb hbox hg
        refine hK.out _ _ ⟨(kC aa.out 0).trans rfl,(kC aa.out 1).trans rfl⟩ (fun hHeld => ?_)
        clear hK K
        refine zN (some 5) ?_
        exact norm_ zA (hCont (.slice ct a4.length cu,a6,a7,al) _ ⟨hHeld,(zmR ah (fun _ hk=>⟨hk.1.2,⟨hk.2,⟨hk.1.1.1.2,hk.1.1.2⟩⟩⟩)),(zmR aN (fun _ hk=>⟨hk.2,⟨hk.1.1.1,⟨hk.1.1.2,hk.1.2⟩⟩⟩)),(zmR aQ (fun _ hk=>⟨hk.2,⟨hk.1.1.1,⟨hk.1.1.2,hk.1.2⟩⟩⟩)),(zmR ab (fun _ hk=>⟨hk.1.1.2,⟨hk.1.2,⟨hk.2,hk.1.1.1⟩⟩⟩)),(zmR ac (fun _ hk=>⟨hk.1.1.2,⟨hk.1.2,⟨hk.2,hk.1.1.1⟩⟩⟩)),(zK_ aa),(zK_ ae),(zK_ af),(zK_ ag),bh.out,bi.out,ai.out,ay.out,aq.out,az.out,ar.out,aA.out,(zB_ HB)⟩)
       skip
       refine zbx (N:=5) (cs := #[.slice none 0 0,.slice none 0 0]) (t:=25) ?_
       intro al hg w26 hbox hb
       replace ab:=zR ab hb;replace ac:=zR ac hb;replace ah:=zR ah hb
       have ag:=A0_ (hbox)
       have bh:=zG hg HB;have bi:=zG hg HB;replace HB:=zB HB hb;have ai:=zL hg aa;have ay:=zM hg aa;replace aa:=zK aa hb;have aq:=zL hg ae;have az:=zM hg ae;replace ae:=zK ae hb;have ar:=zL hg af;have aA:=zM hg af;replace af:=zK af hb;clear hb hbox hg;obtain⟨bM,bO,bP⟩:=rS ah.out
       (first|subst bP|(injection bP with f1_ f2_ f3_;have f4_:=f1_.symm;have f5_:=f3_.symm;clear f1_ f2_ f3_;subst f4_;subst f5_))
       refine hK.out _ _ ⟨(kC aa.out 0).trans rfl,(kC aa.out 1).trans rfl⟩ (fun hHeld => ?_)
       clear hK K
       refine zN (some 5) ?_
       refine one_ (i:=4) (N:=some 20) (bs 7 63) rfl rfl (by kernel_rfl) (by decide) (fun K hK => ?_)
       refine zg Try.func83 #[.agg #[.slice aI an.length aJ,.slice aK ao.length aM],.slice bM a4.length bO] ?_
       with_reducible refine(im_.calls k1 _ _ an _ _ ao _ _ a4 au aw _ ?aC ?aD ?aE ?aG ?aX ?aY bW.out).mono ?_
       (case aC=>exact zC ba HB)
       (case aD=>exact bb.out)
       (case aE=>exact zC bc HB)
       (case aG=>exact bd.out)
       (case aX=>exact zD ah)
       (case aY=>exact(rR ah.out).2.1)
       rintro e w28 ⟨a6,a7,rfl,ap,aT,hb⟩
       refine⟨_,rfl,?_⟩
       have aN:=A0_ (rL (Kd.R_new' (Kd.R_new' (Kd.R_new' ap (rX (zR_ ab))) (rX (zR_ ac))) (rX (zR_ ah))) (bZ (zB_ HB)))
       have aQ:=A0_ (rL (Kd.R_new' (Kd.R_new' (Kd.R_new' aT (rX (zR_ ab))) (rX (zR_ ac))) (rX (zR_ ah))) (bZ (zB_ HB)))
       replace ab:=A0_ (rM (rT (rT (rO (zR_ ab) hb) (Kd.R_base ap)) (Kd.R_base aT)) (fun _ h_=>h_.1))
       replace ac:=A0_ (rM (rT (rT (rO (zR_ ac) hb) (Kd.R_base ap)) (Kd.R_base aT)) (fun _ h_=>h_.1))
       replace ah:=A0_ (rM (rT (rT (rO (zR_ ah) hb) (Kd.R_base ap)) (Kd.R_base aT)) (fun _ h_=>h_.1))
       replace aa:=zK aa hb;replace ae:=zK ae hb;replace af:=zK af hb;replace ag:=zK ag hb;replace HB:=zB HB hb;(try clear hb);(try clear hk);(try clear ap);(try clear aT)
       refine hK.out _ _ ⟨(kC aa.out 0).trans rfl,(kC aa.out 1).trans rfl⟩ (fun hHeld => ?_)
       clear hK K
       refine zN (some 20) ?_
       exact norm_ zA (hCont (.slice bM a4.length bO,a6,a7,al) _ ⟨hHeld,(zmR ah (fun _ hk=>⟨hk.1.2,⟨hk.2,⟨hk.1.1.1.2,hk.1.1.2⟩⟩⟩)),(zmR aN (fun _ hk=>⟨hk.2,⟨hk.1.1.1,⟨hk.1.1.2,hk.1.2⟩⟩⟩)),(zmR aQ (fun _ hk=>⟨hk.2,⟨hk.1.1.1,⟨hk.1.1.2,hk.1.2⟩⟩⟩)),(zmR ab (fun _ hk=>⟨hk.1.1.2,⟨hk.1.2,⟨hk.2,hk.1.1.1⟩⟩⟩)),(zmR ac (fun _ hk=>⟨hk.1.1.2,⟨hk.1.2,⟨hk.2,hk.1.1.1⟩⟩⟩)),(zK_ aa),(zK_ ae),(zK_ af),(zK_ ag),bh.out,bi.out,ai.out,ay.out,aq.out,az.out,ar.out,aA.out,(zB_ HB)⟩)
      skip
      refine zbx (N:=5) (cs := #[.slice none 0 0,.slice none 0 0]) (t:=25) ?_
      intro al hg w25 hbox hb
      replace ab:=zR ab hb;replace ac:=zR ac hb
      have ag:=A0_ (hbox)
      have bh:=zG hg HB;have bi:=zG hg HB;replace HB:=zB HB hb;have ai:=zL hg aa;have ay:=zM hg aa;replace aa:=zK aa hb;have aq:=zL hg ae;have az:=zM hg ae;replace ae:=zK ae hb;have ar:=zL hg af;have aA:=zM hg af;replace af:=zK af hb;clear hb hbox hg
      refine hK.out _ _ ⟨(kC aa.out 0).trans rfl,(kC aa.out 1).trans rfl⟩ (fun hHeld => ?_)
      clear hK K
      refine zN (some 5) ?_
      refine one_ (i:=3) (N:=some 19) (bs 7 47) rfl rfl (by kernel_rfl) (by decide) (fun K hK => ?_)
      refine zg Try.func61 #[.agg #[.slice aI an.length aJ,.slice aK ao.length aM],.int .i64 bg] ?_
      with_reducible refine(ik_.calls k1 _ _ an _ _ ao bg a4 _ ?aC ?aD ?aE ?aG cl.out).mono ?_
      (case aC=>exact zC ba HB)
      (case aD=>exact bb.out)
      (case aE=>exact zC bc HB)
      (case aG=>exact bd.out)
      rintro e w26 ⟨a5,rfl,ap,hb⟩
      refine⟨_,rfl,?_⟩
      have ah:=A0_ (rL (Kd.R_new' (Kd.R_new' ap (rX (zR_ ab))) (rX (zR_ ac))) (bZ (zB_ HB)))
      replace ab:=A0_ (Kd.R_elder' (zR_ ab) (Kd.R_base ap) hb)
      replace ac:=A0_ (Kd.R_elder' (zR_ ac) (Kd.R_base ap) hb)
      replace aa:=zK aa hb;replace ae:=zK ae hb;replace af:=zK af hb;replace ag:=zK ag hb;replace HB:=zB HB hb;(try clear hb);(try clear hk);(try clear ap);obtain⟨bM,bO,bP⟩:=rS ah.out
      (first|subst bP|(injection bP with f1_ f2_ f3_;have f4_:=f1_.symm;have f5_:=f3_.symm;clear f1_ f2_ f3_;subst f4_;subst f5_))
      refine hK.out _ _ ⟨(kC aa.out 0).trans rfl,(kC aa.out 1).trans rfl⟩ (fun hHeld => ?_)
      clear hK K
      refine zN (some 19) ?_
      refine one_ (i:=4) (N:=some 20) (bs 7 63) rfl rfl (by kernel_rfl) (by decide) (fun K hK => ?_)
      refine zg Try.func83 #[.agg #[.slice aI an.length aJ,.slice aK ao.length aM],.slice bM a4.length bO] ?_
      with_reducible refine(im_.calls k1 _ _ an _ _ ao _ _ a4 au aw _ ?aC ?aD ?aE ?aG ?aX ?aY bW.out).mono ?_
      (case aC=>exact zC ba HB)
      (case aD=>exact bb.out)
      (case aE=>exact zC bc HB)
      (case aG=>exact bd.out)
      (case aX=>exact zD ah)
      (case aY=>exact(rR ah.out).2.1)
      rintro e w28 ⟨a6,a7,rfl,ap,aT,hb⟩
      refine⟨_,rfl,?_⟩
      have aN:=A0_ (rL (Kd.R_new' (Kd.R_new' (Kd.R_new' ap (rX (zR_ ab))) (rX (zR_ ac))) (rX (zR_ ah))) (bZ (zB_ HB)))
      have aQ:=A0_ (rL (Kd.R_new' (Kd.R_new' (Kd.R_new' aT (rX (zR_ ab))) (rX (zR_ ac))) (rX (zR_ ah))) (bZ (zB_ HB)))
      replace ab:=A0_ (rM (rT (rT (rO (zR_ ab) hb) (Kd.R_base ap)) (Kd.R_base aT)) (fun _ h_=>h_.1))
      replace ac:=A0_ (rM (rT (rT (rO (zR_ ac) hb) (Kd.R_base ap)) (Kd.R_base aT)) (fun _ h_=>h_.1))
      replace ah:=A0_ (rM (rT (rT (rO (zR_ ah) hb) (Kd.R_base ap)) (Kd.R_base aT)) (fun _ h_=>h_.1))
      replace aa:=zK aa hb;replace ae:=zK ae hb;replace af:=zK af hb;replace ag:=zK ag hb;replace HB:=zB HB hb;(try clear hb);(try clear hk);(try clear ap);(try clear aT)
      refine hK.out _ _ ⟨(kC aa.out 0).trans rfl,(kC aa.out 1).trans rfl⟩ (fun hHeld => ?_)
      clear hK K
      refine zN (some 20) ?_
      exact norm_ zA (hCont (.slice bM a4.length bO,a6,a7,al) _ ⟨hHeld,(zmR ah (fun _ hk=>⟨hk.1.2,⟨hk.2,⟨hk.1.1.1.2,hk.1.1.2⟩⟩⟩)),(zmR aN (fun _ hk=>⟨hk.2,⟨hk.1.1.1,⟨hk.1.1.2,hk.1.2⟩⟩⟩)),(zmR aQ (fun _ hk=>⟨hk.2,⟨hk.1.1.1,⟨hk.1.1.2,hk.1.2⟩⟩⟩)),(zmR ab (fun _ hk=>⟨hk.1.1.2,⟨hk.1.2,⟨hk.2,hk.1.1.1⟩⟩⟩)),(zmR ac (fun _ hk=>⟨hk.1.1.2,⟨hk.1.2,⟨hk.2,hk.1.1.1⟩⟩⟩)),(zK_ aa),(zK_ ae),(zK_ af),(zK_ ag),bh.out,bi.out,ai.out,ay.out,aq.out,az.out,ar.out,aA.out,(zB_ HB)⟩)
     rintro⟨a5,a6,a7,al⟩ w29 ⟨hS_,h0_,h1_,h2_,h3_,h4_,h5_,h6_,h7_,h8_,h9_,h10_,h11_,h12_,h13_,h14_,h15_,h16_,h17_⟩
     have ah:Aside0 (Kd.R (Kd.int .i64) 3 w29 w.heap.size (fun k_=>nO k_ a6∧nO k_ a7∧nO k_ u714000∧nO k_ u714001) a5 a4):=⟨h0_⟩
     have aN:Aside0 (Kd.R (Kd.int .i64) 3 w29 w.heap.size (fun k_=>nO k_ a5∧nO k_ a7∧nO k_ u714000∧nO k_ u714001) a6 au):=⟨h1_⟩
     have aQ:Aside0 (Kd.R (Kd.int .i64) 3 w29 w.heap.size (fun k_=>nO k_ a5∧nO k_ a6∧nO k_ u714000∧nO k_ u714001) a7 aw):=⟨h2_⟩
     replace ab:Aside0 (Kd.R (Kd.int .i64) 3 w29 w.heap.size (fun k_=>nO k_ a5∧nO k_ a6∧nO k_ a7∧nO k_ u714001) u714000 aj):=⟨h3_⟩
     replace ac:Aside0 (Kd.R (Kd.int .i64) 3 w29 w.heap.size (fun k_=>nO k_ a5∧nO k_ a6∧nO k_ a7∧nO k_ u714000) u714001 ak):=⟨h4_⟩
     replace aa:Aside0 (w29.heap[av]? = some (.cells #[.slice aI an.length aJ,.slice aK ao.length aM] 25 (0,0))):=⟨h5_⟩
     replace ae:Aside0 (w29.heap[aW]? = some (.cells #[.slice none 0 0,.slice none 0 0] 25 (0,0))):=⟨h6_⟩
     replace af:Aside0 (w29.heap[am]? = some (.cells #[u714000,u714001] 25 (0,0))):=⟨h7_⟩
     have ag:Aside0 (w29.heap[al]? = some (.cells #[.slice none 0 0,.slice none 0 0] 25 (0,0))):=⟨h8_⟩
     have bh:Aside0 (w.heap.size≤al):=⟨h9_⟩
     have bi:Aside0 (w.heap.size≤al):=⟨h10_⟩
     have ai:Aside0 (av≠al):=⟨h11_⟩
     have ay:Aside0 (al≠av):=⟨h12_⟩
     have aq:Aside0 (aW≠al):=⟨h13_⟩
     have az:Aside0 (al≠aW):=⟨h14_⟩
     have ar:Aside0 (am≠al):=⟨h15_⟩
     have aA:Aside0 (al≠am):=⟨h16_⟩
     replace HB:Aside0 (Below w.heap.size w w29):=⟨h17_⟩
     clear h0_ h1_ h2_ h3_ h4_ h5_ h6_ h7_ h8_ h9_ h10_ h11_ h12_ h13_ h14_ h15_ h16_ h17_
     have hHeld:w29.cell? ⟨av,0,none⟩=some (.slice aI an.length aJ)∧w29.cell? ⟨av,1,none⟩=some (.slice aK ao.length aM):=hS_
     obtain⟨a9,a8,cw⟩:=rS aN.out
     (first|subst cw|(injection cw with f1_ f2_ f3_;have f4_:=f1_.symm;have f5_:=f3_.symm;clear f1_ f2_ f3_;subst f4_;subst f5_))
     obtain⟨bf,be,cx⟩:=rS aQ.out
     (first|subst cx|(injection cx with f1_ f2_ f3_;have f4_:=f1_.symm;have f5_:=f3_.symm;clear f1_ f2_ f3_;subst f4_;subst f5_))
     refine norm_ (a' := ?_) ?_ ?_
     rotate_left
     ·simp only [putAll,Act.put,List.setIfInBounds_toArray,List.set_cons_zero,List.set_cons_succ]
      rfl
     refine one_ (i:=6) (N:=none) (bs 7 127) rfl rfl (by kernel_rfl) (by decide) (fun K hK => ?_)
     have eS:w29.cell? ⟨al,0,none⟩=some (.slice none 0 0):=(kC ag.out 0).trans rfl
     have el:=kF ag.out 0;have db:=ai.out;have dc:=aq.out;have dd:=ar.out;have de:=ay.out;have df:=az.out;have dg:=aA.out
     have eT:w29.cell? ⟨al,1,none⟩=some (.slice none 0 0):=(kC ag.out 1).trans rfl
     have em:=kF ag.out 1;have dh:=ai.out;have di:=aq.out;have dj:=ar.out;have dk:=ay.out;have dl:=az.out;have dm:=aA.out
     refine skip_ (w1 := ?_) (by rfl) rfl ?_ ?_
     rotate_left
     ·go_simp
      rfl
     refine hK.out _ _ ⟨((cell_far (p:=⟨al,_,none⟩) ai.out _).trans (((cell_far (p:=⟨al,_,none⟩) ai.out _).trans (hHeld.1)))),((cell_far (p:=⟨al,_,none⟩) ai.out _).trans (((cell_far (p:=⟨al,_,none⟩) ai.out _).trans (hHeld.2))))⟩ (fun hHeld => ?_)
     clear hK K
     refine done_ (by kernel_rfl) ?_
     have en:=ay.out;have eo:=ai.out;have ep:=az.out;have eq:=aq.out;have er:=aA.out;have es:=ar.out
     have dn:w29.cell? ⟨al,0,none⟩=some (.slice none 0 0):=(kC ag.out 0).trans rfl
     have dp:w29.cell? ⟨al,1,none⟩=some (.slice none 0 0):=(kC ag.out 1).trans rfl
     have dq:=kF ag.out 0;have dr:=kF ag.out 1;have et:=aV.out;have eu:=ax.out;have ev:=aZ.out;have ew:=aU.out
     have dt:w29.cell? ⟨am,0,none⟩=some (u714000):=(kC af.out 0).trans rfl
     have du:w29.cell? ⟨am,1,none⟩=some (u714001):=(kC af.out 1).trans rfl
     have dv:=kF af.out 0;have dw:=kF af.out 1;obtain⟨bE,bx,cM⟩:=rS ab.out;subst cM;obtain⟨bz,bw,cO⟩:=rS ac.out;subst cO
     try go_wp2_with (first|((with_reducible refine gC (f:=84) rfl ?_);refine zJ (some 23) Try.func84 #[.agg #[.slice a9 au.length a8,.slice bf aw.length be],.agg #[.slice bE aj.length bx,.slice bz ak.length bw]] ?_;(with_reducible refine(ic_.calls k1 _ _ au _ _ aw _ _ aj _ _ ak cc _ ?aC ?aD ?aE ?aG ?aX ?aY ?b3 ?b4 cL.out).mono ?_);(case aC=>refine(rR (e:=3) (base:=w.heap.size) (ok:=fun k_=>(nO k_ a5∧(nL k_ bf aw be∧(nL k_ bE aj bx∧nL k_ bz ak bw)))) (n:=au.length) (c:=a8) ?_).2.2;exact(zF aN ag (.slice a9 au.length a8) (.slice bf aw.length be) 0 1));(case aD=>exact(rR aN.out).2.1);(case aE=>refine(rR (e:=3) (base:=w.heap.size) (ok:=fun k_=>(nO k_ a5∧(nL k_ a9 au a8∧(nL k_ bE aj bx∧nL k_ bz ak bw)))) (n:=aw.length) (c:=be) ?_).2.2;exact(zF aQ ag (.slice a9 au.length a8) (.slice bf aw.length be) 0 1));(case aG=>exact(rR aQ.out).2.1);(case aX=>refine(rR (e:=3) (base:=w.heap.size) (ok:=fun k_=>(nO k_ a5∧(nL k_ a9 au a8∧(nL k_ bf aw be∧nL k_ bz ak bw)))) (n:=aj.length) (c:=bx) ?_).2.2;exact(zF ab ag (.slice a9 au.length a8) (.slice bf aw.length be) 0 1));(case aY=>exact(rR ab.out).2.1);(case b3=>refine(rR (e:=3) (base:=w.heap.size) (ok:=fun k_=>(nO k_ a5∧(nL k_ a9 au a8∧(nL k_ bf aw be∧nL k_ bE aj bx)))) (n:=ak.length) (c:=bw) ?_).2.2;exact(zF ac ag (.slice a9 au.length a8) (.slice bf aw.length be) 0 1));(case b4=>exact(rR ac.out).2.1);rintro e w43 ⟨rfl,hb⟩;refine⟨_,rfl,?_⟩;replace ab:=A0_ (rB (zF ab ag (.slice a9 au.length a8) (.slice bf aw.length be) 0 1) hb);replace ac:=A0_ (rB (zF ac ag (.slice a9 au.length a8) (.slice bf aw.length be) 0 1) hb);replace ah:=A0_ (rB (zF ah ag (.slice a9 au.length a8) (.slice bf aw.length be) 0 1) hb);replace aN:=A0_ (rB (zF aN ag (.slice a9 au.length a8) (.slice bf aw.length be) 0 1) hb);replace aQ:=A0_ (rB (zF aQ ag (.slice a9 au.length a8) (.slice bf aw.length be) 0 1) hb);replace aa:=A0_ (kB (g:=av) (o := .cells #[.slice aI an.length aJ,.slice aK ao.length aM] 25 (0,0)) (by refine zbf ?_ _ (hp:=by exact ai.out);refine zbf ?_ _ (hp:=by exact ai.out);exact zK_ aa) hb);replace ae:=A0_ (kB (g:=aW) (o := .cells #[.slice none 0 0,.slice none 0 0] 25 (0,0)) (by refine zbf ?_ _ (hp:=by exact aq.out);refine zbf ?_ _ (hp:=by exact aq.out);exact zK_ ae) hb);replace af:=A0_ (kB (g:=am) (o := .cells #[.slice bE aj.length bx,.slice bz ak.length bw] 25 (0,0)) (by refine zbf ?_ _ (hp:=by exact ar.out);refine zbf ?_ _ (hp:=by exact ar.out);exact zK_ af) hb);replace ag:=A0_ (kB (g:=al) (o := .cells #[.slice a9 au.length a8,.slice bf aw.length be] 25 (0,0)) (by refine zbp (cs := #[.slice a9 au.length a8,.slice none 0 0]) ?_ 1 _ rfl;refine zbp (cs := #[.slice none 0 0,.slice none 0 0]) ?_ 0 _ rfl;exact zK_ ag) hb);replace HB:=zB HB hb;(try clear hb);have dx:w43.cell? ⟨al,0,none⟩=some (.slice a9 au.length a8):=(kC ag.out 0).trans rfl;have dy:w43.cell? ⟨al,1,none⟩=some (.slice bf aw.length be):=(kC ag.out 1).trans rfl;have dz:=kF ag.out 0;have dA:=kF ag.out 1;have dB:w43.cell? ⟨am,0,none⟩=some (.slice bE aj.length bx):=(kC af.out 0).trans rfl;have dC:w43.cell? ⟨am,1,none⟩=some (.slice bz ak.length bw):=(kC af.out 1).trans rfl;have dD:=kF af.out 0;have dE:=kF af.out 1))
     go_roundg k1
     case measure=>have:=ck.out;omega
     case rel=>exact⟨(wrap64 (bg+1)),(au),(aw),(.slice a9 au.length a8),(.slice bf aw.length be),zt,H',⟨by have:=ck.out;omega⟩,⟨by(with_reducible repeat(first|apply rA|apply rN|apply rD));exact rM (rF (p:=⟨am,1,none⟩) (rF (p:=⟨am,0,none⟩) (rY aN.out af.out (by decide)) (fun _ hk=>hk.2) (.slice a9 au.length a8)) (fun _ hk=>hk.2) (.slice bf aw.length be)) (fun _ hk=>hk.1.2.1)⟩,⟨by(with_reducible repeat(first|apply rA|apply rN|apply rD));exact rM (rF (p:=⟨am,1,none⟩) (rF (p:=⟨am,0,none⟩) (rY aQ.out af.out (by decide)) (fun _ hk=>hk.2) (.slice a9 au.length a8)) (fun _ hk=>hk.2) (.slice bf aw.length be)) (fun _ hk=>hk.1.2.1)⟩,⟨by refine zbf ?_ _ (hp:=by exact ax.out);refine zbf ?_ _ (hp:=by exact ax.out);exact zK_ aa⟩,⟨by refine zbf ?_ _ (hp:=by exact aU.out);refine zbf ?_ _ (hp:=by exact aU.out);exact zK_ ae⟩,⟨by refine zbp (cs := #[.slice a9 au.length a8,.slice bz ak.length bw]) ?_ 1 _ rfl;refine zbp (cs := #[.slice bE aj.length bx,.slice bz ak.length bw]) ?_ 0 _ rfl;exact zK_ af⟩,⟨zB_ HB⟩⟩
    rw [if_neg bX] at H;have cH:=dF bX;clear bX;have H':=A0_ H;clear H
    try go_wp2
    replace ab:=A0_ (rD ab.out)
    replace ac:=A0_ (rD ac.out)
    replace aa:=A0_ (kD aa.out)
    replace ae:=A0_ (kD ae.out)
    replace af:=A0_ (kD af.out)
    replace HB:=A0_ (bD HB.out)
    refine start_ (n:=7) (S:=fun w'=>w'.cell? ⟨av,0,none⟩=some (.slice aI an.length aJ)∧w'.cell? ⟨av,1,none⟩=some (.slice aK ao.length aM)) (ds := []) (bs 7 0) (by kernel_rfl) rfl rfl ⟨(kC aa.out 0).trans rfl,(kC aa.out 1).trans rfl⟩ (fun hHeld => ?_)
    generalize wr.drew=w46 at ab ac aa ae af HB hHeld ⊢
    refine zP0 2 (some 18) (bs 7 4) ?_
    refine zT0 0 (some 16) (bs 7 5) hHeld ?_
    refine zT0 1 (some 17) (bs 7 7) hHeld ?_
    refine join_ (σ:=Value×Value×Value×Nat) 1 (bs 7 63) (fun s_ => [(19,s_.1),(20,.agg #[s_.2.1,s_.2.2.1]),(5,.pointer (some ⟨s_.2.2.2,0,none⟩))]) (fun s_ w'=>(w'.cell? ⟨av,0,none⟩=some (.slice aI an.length aJ)∧w'.cell? ⟨av,1,none⟩=some (.slice aK ao.length aM))∧(Kd.R (Kd.int .i64) 3 w' w.heap.size (fun k_=>some k_≠(s_.2.1:Value).ownBlock∧some k_≠(s_.2.2.1:Value).ownBlock∧nO k_ u714000∧nO k_ u714001) s_.1 a4)∧(Kd.R (Kd.int .i64) 3 w' w.heap.size (fun k_=>some k_≠(s_.1:Value).ownBlock∧some k_≠(s_.2.2.1:Value).ownBlock∧nO k_ u714000∧nO k_ u714001) s_.2.1 au)∧(Kd.R (Kd.int .i64) 3 w' w.heap.size (fun k_=>some k_≠(s_.1:Value).ownBlock∧some k_≠(s_.2.1:Value).ownBlock∧nO k_ u714000∧nO k_ u714001) s_.2.2.1 aw)∧(Kd.R (Kd.int .i64) 3 w' w.heap.size (fun k_=>some k_≠(s_.1:Value).ownBlock∧some k_≠(s_.2.1:Value).ownBlock∧some k_≠(s_.2.2.1:Value).ownBlock∧nO k_ u714001) u714000 aj)∧(Kd.R (Kd.int .i64) 3 w' w.heap.size (fun k_=>some k_≠(s_.1:Value).ownBlock∧some k_≠(s_.2.1:Value).ownBlock∧some k_≠(s_.2.2.1:Value).ownBlock∧nO k_ u714000) u714001 ak)∧(w'.heap[av]? = some (.cells #[.slice aI an.length aJ,.slice aK ao.length aM] 25 (0,0)))∧(w'.heap[aW]? = some (.cells #[.slice none 0 0,.slice none 0 0] 25 (0,0)))∧(w'.heap[am]? = some (.cells #[u714000,u714001] 25 (0,0)))∧(w'.heap[s_.2.2.2]? = some (.cells #[.slice none 0 0,.slice none 0 0] 25 (0,0)))∧(w.heap.size≤s_.2.2.2)∧(w.heap.size≤s_.2.2.2)∧(av≠s_.2.2.2)∧(s_.2.2.2≠av)∧(aW≠s_.2.2.2)∧(s_.2.2.2≠aW)∧(am≠s_.2.2.2)∧(s_.2.2.2≠am)∧(Below w.heap.size w w')) ?_ ?_
    rotate_left
    ·intro hCont
     refine two_ (i:=3) (j:=5) (Ni:=some 19) (Nj:=some 5) (bs 7 15) (bs 7 39) rfl rfl rfl rfl (by kernel_rfl) (by decide) (by decide) (fun K hK => ?_) (fun K hK => ?_)
     ·skip
      refine zg Try.func61 #[.agg #[.slice aI an.length aJ,.slice aK ao.length aM],.int .i64 bg] ?_
      with_reducible refine(ik_.calls k1 _ _ an _ _ ao bg a4 _ ?aC ?aD ?aE ?aG cl.out).mono ?_
      (case aC=>exact zC ba HB)
      (case aD=>exact bb.out)
      (case aE=>exact zC bc HB)
      (case aG=>exact bd.out)
      rintro e w47 ⟨a5,rfl,ap,hb⟩
      refine⟨_,rfl,?_⟩
      have ah:=A0_ (rL (Kd.R_new' (Kd.R_new' ap (rX (zR_ ab))) (rX (zR_ ac))) (bZ (zB_ HB)))
      replace ab:=A0_ (Kd.R_elder' (zR_ ab) (Kd.R_base ap) hb)
      replace ac:=A0_ (Kd.R_elder' (zR_ ac) (Kd.R_base ap) hb)
      replace aa:=zK aa hb;replace ae:=zK ae hb;replace af:=zK af hb;replace HB:=zB HB hb;(try clear hb);(try clear hk);(try clear ap);obtain⟨cy,cz,cC⟩:=rS ah.out
      (first|subst cC|(injection cC with f1_ f2_ f3_;have f4_:=f1_.symm;have f5_:=f3_.symm;clear f1_ f2_ f3_;subst f4_;subst f5_))
      refine hK.out _ _ ⟨(kC aa.out 0).trans rfl,(kC aa.out 1).trans rfl⟩ (fun hHeld => ?_)
      clear hK K
      refine zN (some 19) ?_
      refine two_ (i:=4) (j:=5) (Ni:=some 20) (Nj:=some 5) (bs 7 31) (bs 7 47) rfl rfl rfl rfl (by kernel_rfl) (by decide) (by decide) (fun K hK => ?_) (fun K hK => ?_)
      ·skip
       refine zg Try.func83 #[.agg #[.slice aI an.length aJ,.slice aK ao.length aM],.slice cy a4.length cz] ?_
       with_reducible refine(im_.calls k1 _ _ an _ _ ao _ _ a4 au aw _ ?aC ?aD ?aE ?aG ?aX ?aY bW.out).mono ?_
       (case aC=>exact zC ba HB)
       (case aD=>exact bb.out)
       (case aE=>exact zC bc HB)
       (case aG=>exact bd.out)
       (case aX=>exact zD ah)
       (case aY=>exact(rR ah.out).2.1)
       rintro e w49 ⟨a6,a7,rfl,ap,aT,hb⟩
       refine⟨_,rfl,?_⟩
       have aN:=A0_ (rL (Kd.R_new' (Kd.R_new' (Kd.R_new' ap (rX (zR_ ab))) (rX (zR_ ac))) (rX (zR_ ah))) (bZ (zB_ HB)))
       have aQ:=A0_ (rL (Kd.R_new' (Kd.R_new' (Kd.R_new' aT (rX (zR_ ab))) (rX (zR_ ac))) (rX (zR_ ah))) (bZ (zB_ HB)))
       replace ab:=A0_ (rM (rT (rT (rO (zR_ ab) hb) (Kd.R_base ap)) (Kd.R_base aT)) (fun _ h_=>h_.1))
       replace ac:=A0_ (rM (rT (rT (rO (zR_ ac) hb) (Kd.R_base ap)) (Kd.R_base aT)) (fun _ h_=>h_.1))
       replace ah:=A0_ (rM (rT (rT (rO (zR_ ah) hb) (Kd.R_base ap)) (Kd.R_base aT)) (fun _ h_=>h_.1))
       replace aa:=zK aa hb;replace ae:=zK ae hb;replace af:=zK af hb;replace HB:=zB HB hb;(try clear hb);(try clear hk);(try clear ap);(try clear aT)
       refine hK.out _ _ ⟨(kC aa.out 0).trans rfl,(kC aa.out 1).trans rfl⟩ (fun hHeld => ?_)
       clear hK K
       refine zN (some 20) ?_
       refine one_ (i:=5) (N:=some 5) (bs 7 63) rfl rfl (by kernel_rfl) (by decide) (fun K hK => ?_)
       refine zbx (N:=5) (cs := #[.slice none 0 0,.slice none 0 0]) (t:=25) ?_
       intro al hg w50 hbox hb
       replace ab:=zR ab hb;replace ac:=zR ac hb;replace ah:=zR ah hb;replace aN:=zR aN hb;replace aQ:=zR aQ hb
       have ag:=A0_ (hbox)
       have bh:=zG hg HB;have bi:=zG hg HB;replace HB:=zB HB hb;have ai:=zL hg aa;have ay:=zM hg aa;replace aa:=zK aa hb;have aq:=zL hg ae;have az:=zM hg ae;replace ae:=zK ae hb;have ar:=zL hg af;have aA:=zM hg af;replace af:=zK af hb;clear hb hbox hg
       refine hK.out _ _ ⟨(kC aa.out 0).trans rfl,(kC aa.out 1).trans rfl⟩ (fun hHeld => ?_)
       clear hK K
       refine zN (some 5) ?_
       exact norm_ zA (hCont (.slice cy a4.length cz,a6,a7,al) _ ⟨hHeld,(zmR ah (fun _ hk=>⟨hk.1.2,⟨hk.2,⟨hk.1.1.1.2,hk.1.1.2⟩⟩⟩)),(zmR aN (fun _ hk=>⟨hk.2,⟨hk.1.1.1,⟨hk.1.1.2,hk.1.2⟩⟩⟩)),(zmR aQ (fun _ hk=>⟨hk.2,⟨hk.1.1.1,⟨hk.1.1.2,hk.1.2⟩⟩⟩)),(zmR ab (fun _ hk=>⟨hk.1.1.2,⟨hk.1.2,⟨hk.2,hk.1.1.1⟩⟩⟩)),(zmR ac (fun _ hk=>⟨hk.1.1.2,⟨hk.1.2,⟨hk.2,hk.1.1.1⟩⟩⟩)),(zK_ aa),(zK_ ae),(zK_ af),(zK_ ag),bh.out,bi.out,ai.out,ay.out,aq.out,az.out,ar.out,aA.out,(zB_ HB)⟩)
      skip
      refine zbx (N:=5) (cs := #[.slice none 0 0,.slice none 0 0]) (t:=25) ?_
      intro al hg w48 hbox hb
      replace ab:=zR ab hb;replace ac:=zR ac hb;replace ah:=zR ah hb
      have ag:=A0_ (hbox)
      have bh:=zG hg HB;have bi:=zG hg HB;replace HB:=zB HB hb;have ai:=zL hg aa;have ay:=zM hg aa;replace aa:=zK aa hb;have aq:=zL hg ae;have az:=zM hg ae;replace ae:=zK ae hb;have ar:=zL hg af;have aA:=zM hg af;replace af:=zK af hb;clear hb hbox hg;obtain⟨bQ,bR,bU⟩:=rS ah.out
      (first|subst bU|(injection bU with f1_ f2_ f3_;have f4_:=f1_.symm;have f5_:=f3_.symm;clear f1_ f2_ f3_;subst f4_;subst f5_))
      refine hK.out _ _ ⟨(kC aa.out 0).trans rfl,(kC aa.out 1).trans rfl⟩ (fun hHeld => ?_)
      clear hK K
      refine zN (some 5) ?_
      refine one_ (i:=4) (N:=some 20) (bs 7 63) rfl rfl (by kernel_rfl) (by decide) (fun K hK => ?_)
      refine zg Try.func83 #[.agg #[.slice aI an.length aJ,.slice aK ao.length aM],.slice bQ a4.length bR] ?_
      with_reducible refine(im_.calls k1 _ _ an _ _ ao _ _ a4 au aw _ ?aC ?aD ?aE ?aG ?aX ?aY bW.out).mono ?_
      (case aC=>exact zC ba HB)
      (case aD=>exact bb.out)
      (case aE=>exact zC bc HB)
      (case aG=>exact bd.out)
      (case aX=>exact zD ah)
      (case aY=>exact(rR ah.out).2.1)
      rintro e w50 ⟨a6,a7,rfl,ap,aT,hb⟩
      refine⟨_,rfl,?_⟩
      have aN:=A0_ (rL (Kd.R_new' (Kd.R_new' (Kd.R_new' ap (rX (zR_ ab))) (rX (zR_ ac))) (rX (zR_ ah))) (bZ (zB_ HB)))
      have aQ:=A0_ (rL (Kd.R_new' (Kd.R_new' (Kd.R_new' aT (rX (zR_ ab))) (rX (zR_ ac))) (rX (zR_ ah))) (bZ (zB_ HB)))
      replace ab:=A0_ (rM (rT (rT (rO (zR_ ab) hb) (Kd.R_base ap)) (Kd.R_base aT)) (fun _ h_=>h_.1))
      replace ac:=A0_ (rM (rT (rT (rO (zR_ ac) hb) (Kd.R_base ap)) (Kd.R_base aT)) (fun _ h_=>h_.1))
      replace ah:=A0_ (rM (rT (rT (rO (zR_ ah) hb) (Kd.R_base ap)) (Kd.R_base aT)) (fun _ h_=>h_.1))
      replace aa:=zK aa hb;replace ae:=zK ae hb;replace af:=zK af hb;replace ag:=zK ag hb;replace HB:=zB HB hb;(try clear hb);(try clear hk);(try clear ap);(try clear aT)
      refine hK.out _ _ ⟨(kC aa.out 0).trans rfl,(kC aa.out 1).trans rfl⟩ (fun hHeld => ?_)
      clear hK K
      refine zN (some 20) ?_
      exact norm_ zA (hCont (.slice bQ a4.length bR,a6,a7,al) _ ⟨hHeld,(zmR ah (fun _ hk=>⟨hk.1.2,⟨hk.2,⟨hk.1.1.1.2,hk.1.1.2⟩⟩⟩)),(zmR aN (fun _ hk=>⟨hk.2,⟨hk.1.1.1,⟨hk.1.1.2,hk.1.2⟩⟩⟩)),(zmR aQ (fun _ hk=>⟨hk.2,⟨hk.1.1.1,⟨hk.1.1.2,hk.1.2⟩⟩⟩)),(zmR ab (fun _ hk=>⟨hk.1.1.2,⟨hk.1.2,⟨hk.2,hk.1.1.1⟩⟩⟩)),(zmR ac (fun _ hk=>⟨hk.1.1.2,⟨hk.1.2,⟨hk.2,hk.1.1.1⟩⟩⟩)),(zK_ aa),(zK_ ae),(zK_ af),(zK_ ag),bh.out,bi.out,ai.out,ay.out,aq.out,az.out,ar.out,aA.out,(zB_ HB)⟩)
     skip
     refine zbx (N:=5) (cs := #[.slice none 0 0,.slice none 0 0]) (t:=25) ?_
     intro al hg w47 hbox hb
     replace ab:=zR ab hb;replace ac:=zR ac hb
     have ag:=A0_ (hbox)
     have bh:=zG hg HB;have bi:=zG hg HB;replace HB:=zB HB hb;have ai:=zL hg aa;have ay:=zM hg aa;replace aa:=zK aa hb;have aq:=zL hg ae;have az:=zM hg ae;replace ae:=zK ae hb;have ar:=zL hg af;have aA:=zM hg af;replace af:=zK af hb;clear hb hbox hg
     refine hK.out _ _ ⟨(kC aa.out 0).trans rfl,(kC aa.out 1).trans rfl⟩ (fun hHeld => ?_)
     clear hK K
     refine zN (some 5) ?_
     refine one_ (i:=3) (N:=some 19) (bs 7 47) rfl rfl (by kernel_rfl) (by decide) (fun K hK => ?_)
     refine zg Try.func61 #[.agg #[.slice aI an.length aJ,.slice aK ao.length aM],.int .i64 bg] ?_
     with_reducible refine(ik_.calls k1 _ _ an _ _ ao bg a4 _ ?aC ?aD ?aE ?aG cl.out).mono ?_
     (case aC=>exact zC ba HB)
     (case aD=>exact bb.out)
     (case aE=>exact zC bc HB)
     (case aG=>exact bd.out)
     rintro e w48 ⟨a5,rfl,ap,hb⟩
     refine⟨_,rfl,?_⟩
     have ah:=A0_ (rL (Kd.R_new' (Kd.R_new' ap (rX (zR_ ab))) (rX (zR_ ac))) (bZ (zB_ HB)))
     replace ab:=A0_ (Kd.R_elder' (zR_ ab) (Kd.R_base ap) hb)
     replace ac:=A0_ (Kd.R_elder' (zR_ ac) (Kd.R_base ap) hb)
     replace aa:=zK aa hb;replace ae:=zK ae hb;replace af:=zK af hb;replace ag:=zK ag hb;replace HB:=zB HB hb;(try clear hb);(try clear hk);(try clear ap);obtain⟨bQ,bR,bU⟩:=rS ah.out
     (first|subst bU|(injection bU with f1_ f2_ f3_;have f4_:=f1_.symm;have f5_:=f3_.symm;clear f1_ f2_ f3_;subst f4_;subst f5_))
     refine hK.out _ _ ⟨(kC aa.out 0).trans rfl,(kC aa.out 1).trans rfl⟩ (fun hHeld => ?_)
     clear hK K
     refine zN (some 19) ?_
     refine one_ (i:=4) (N:=some 20) (bs 7 63) rfl rfl (by kernel_rfl) (by decide) (fun K hK => ?_)
     refine zg Try.func83 #[.agg #[.slice aI an.length aJ,.slice aK ao.length aM],.slice bQ a4.length bR] ?_
     with_reducible refine(im_.calls k1 _ _ an _ _ ao _ _ a4 au aw _ ?aC ?aD ?aE ?aG ?aX ?aY bW.out).mono ?_
     (case aC=>exact zC ba HB)
     (case aD=>exact bb.out)
     (case aE=>exact zC bc HB)
     (case aG=>exact bd.out)
     (case aX=>exact zD ah)
     (case aY=>exact(rR ah.out).2.1)
     rintro e w50 ⟨a6,a7,rfl,ap,aT,hb⟩
     refine⟨_,rfl,?_⟩
     have aN:=A0_ (rL (Kd.R_new' (Kd.R_new' (Kd.R_new' ap (rX (zR_ ab))) (rX (zR_ ac))) (rX (zR_ ah))) (bZ (zB_ HB)))
     have aQ:=A0_ (rL (Kd.R_new' (Kd.R_new' (Kd.R_new' aT (rX (zR_ ab))) (rX (zR_ ac))) (rX (zR_ ah))) (bZ (zB_ HB)))
     replace ab:=A0_ (rM (rT (rT (rO (zR_ ab) hb) (Kd.R_base ap)) (Kd.R_base aT)) (fun _ h_=>h_.1))
     replace ac:=A0_ (rM (rT (rT (rO (zR_ ac) hb) (Kd.R_base ap)) (Kd.R_base aT)) (fun _ h_=>h_.1))
     replace ah:=A0_ (rM (rT (rT (rO (zR_ ah) hb) (Kd.R_base ap)) (Kd.R_base aT)) (fun _ h_=>h_.1))
     replace aa:=zK aa hb;replace ae:=zK ae hb;replace af:=zK af hb;replace ag:=zK ag hb;replace HB:=zB HB hb;(try clear hb);(try clear hk);(try clear ap);(try clear aT)
     refine hK.out _ _ ⟨(kC aa.out 0).trans rfl,(kC aa.out 1).trans rfl⟩ (fun hHeld => ?_)
     clear hK K
     refine zN (some 20) ?_
     exact norm_ zA (hCont (.slice bQ a4.length bR,a6,a7,al) _ ⟨hHeld,(zmR ah (fun _ hk=>⟨hk.1.2,⟨hk.2,⟨hk.1.1.1.2,hk.1.1.2⟩⟩⟩)),(zmR aN (fun _ hk=>⟨hk.2,⟨hk.1.1.1,⟨hk.1.1.2,hk.1.2⟩⟩⟩)),(zmR aQ (fun _ hk=>⟨hk.2,⟨hk.1.1.1,⟨hk.1.1.2,hk.1.2⟩⟩⟩)),(zmR ab (fun _ hk=>⟨hk.1.1.2,⟨hk.1.2,⟨hk.2,hk.1.1.1⟩⟩⟩)),(zmR ac (fun _ hk=>⟨hk.1.1.2,⟨hk.1.2,⟨hk.2,hk.1.1.1⟩⟩⟩)),(zK_ aa),(zK_ ae),(zK_ af),(zK_ ag),bh.out,bi.out,ai.out,ay.out,aq.out,az.out,ar.out,aA.out,(zB_ HB)⟩)
    rintro⟨a5,a6,a7,al⟩ w51 ⟨hS_,h0_,h1_,h2_,h3_,h4_,h5_,h6_,h7_,h8_,h9_,h10_,h11_,h12_,h13_,h14_,h15_,h16_,h17_⟩
    have ah:Aside0 (Kd.R (Kd.int .i64) 3 w51 w.heap.size (fun k_=>nO k_ a6∧nO k_ a7∧nO k_ u714000∧nO k_ u714001) a5 a4):=⟨h0_⟩
    have aN:Aside0 (Kd.R (Kd.int .i64) 3 w51 w.heap.size (fun k_=>nO k_ a5∧nO k_ a7∧nO k_ u714000∧nO k_ u714001) a6 au):=⟨h1_⟩
    have aQ:Aside0 (Kd.R (Kd.int .i64) 3 w51 w.heap.size (fun k_=>nO k_ a5∧nO k_ a6∧nO k_ u714000∧nO k_ u714001) a7 aw):=⟨h2_⟩
    replace ab:Aside0 (Kd.R (Kd.int .i64) 3 w51 w.heap.size (fun k_=>nO k_ a5∧nO k_ a6∧nO k_ a7∧nO k_ u714001) u714000 aj):=⟨h3_⟩
    replace ac:Aside0 (Kd.R (Kd.int .i64) 3 w51 w.heap.size (fun k_=>nO k_ a5∧nO k_ a6∧nO k_ a7∧nO k_ u714000) u714001 ak):=⟨h4_⟩
    replace aa:Aside0 (w51.heap[av]? = some (.cells #[.slice aI an.length aJ,.slice aK ao.length aM] 25 (0,0))):=⟨h5_⟩
    replace ae:Aside0 (w51.heap[aW]? = some (.cells #[.slice none 0 0,.slice none 0 0] 25 (0,0))):=⟨h6_⟩
    replace af:Aside0 (w51.heap[am]? = some (.cells #[u714000,u714001] 25 (0,0))):=⟨h7_⟩
    have ag:Aside0 (w51.heap[al]? = some (.cells #[.slice none 0 0,.slice none 0 0] 25 (0,0))):=⟨h8_⟩
    have bh:Aside0 (w.heap.size≤al):=⟨h9_⟩
    have bi:Aside0 (w.heap.size≤al):=⟨h10_⟩
    have ai:Aside0 (av≠al):=⟨h11_⟩
    have ay:Aside0 (al≠av):=⟨h12_⟩
    have aq:Aside0 (aW≠al):=⟨h13_⟩
    have az:Aside0 (al≠aW):=⟨h14_⟩
    have ar:Aside0 (am≠al):=⟨h15_⟩
    have aA:Aside0 (al≠am):=⟨h16_⟩
    replace HB:Aside0 (Below w.heap.size w w51):=⟨h17_⟩
    clear h0_ h1_ h2_ h3_ h4_ h5_ h6_ h7_ h8_ h9_ h10_ h11_ h12_ h13_ h14_ h15_ h16_ h17_
    have hHeld:w51.cell? ⟨av,0,none⟩=some (.slice aI an.length aJ)∧w51.cell? ⟨av,1,none⟩=some (.slice aK ao.length aM):=hS_
    obtain⟨bl,bj,cE⟩:=rS aN.out
    (first|subst cE|(injection cE with f1_ f2_ f3_;have f4_:=f1_.symm;have f5_:=f3_.symm;clear f1_ f2_ f3_;subst f4_;subst f5_))
    obtain⟨bn,bm,cF⟩:=rS aQ.out
    (first|subst cF|(injection cF with f1_ f2_ f3_;have f4_:=f1_.symm;have f5_:=f3_.symm;clear f1_ f2_ f3_;subst f4_;subst f5_))
    refine norm_ (a' := ?_) ?_ ?_
    rotate_left
    ·simp only [putAll,Act.put,List.setIfInBounds_toArray,List.set_cons_zero,List.set_cons_succ]
     rfl
    refine one_ (i:=6) (N:=none) (bs 7 127) rfl rfl (by kernel_rfl) (by decide) (fun K hK => ?_)
    have eU:w51.cell? ⟨al,0,none⟩=some (.slice none 0 0):=(kC ag.out 0).trans rfl
    have ex:=kF ag.out 0;have dG:=ai.out;have dH:=aq.out;have dI:=ar.out;have dJ:=ay.out;have dK:=az.out;have dL:=aA.out
    have eV:w51.cell? ⟨al,1,none⟩=some (.slice none 0 0):=(kC ag.out 1).trans rfl
    have ey:=kF ag.out 1;have dM:=ai.out;have dN:=aq.out;have dO:=ar.out;have dP:=ay.out;have dQ:=az.out;have dR:=aA.out
    refine skip_ (w1 := ?_) (by rfl) rfl ?_ ?_
    rotate_left
    ·go_simp
     rfl
    refine hK.out _ _ ⟨((cell_far (p:=⟨al,_,none⟩) ai.out _).trans (((cell_far (p:=⟨al,_,none⟩) ai.out _).trans (hHeld.1)))),((cell_far (p:=⟨al,_,none⟩) ai.out _).trans (((cell_far (p:=⟨al,_,none⟩) ai.out _).trans (hHeld.2))))⟩ (fun hHeld => ?_)
    clear hK K
    refine done_ (by kernel_rfl) ?_
    have ez:=ay.out;have eA:=ai.out;have eB:=az.out;have eC:=aq.out;have eD:=aA.out;have eE:=ar.out
    have dS:w51.cell? ⟨al,0,none⟩=some (.slice none 0 0):=(kC ag.out 0).trans rfl
    have dU:w51.cell? ⟨al,1,none⟩=some (.slice none 0 0):=(kC ag.out 1).trans rfl
    have dV:=kF ag.out 0;have dW:=kF ag.out 1;have eF:=aV.out;have eG:=ax.out;have eH:=aZ.out;have eI:=aU.out
    have dX:w51.cell? ⟨am,0,none⟩=some (u714000):=(kC af.out 0).trans rfl
    have dY:w51.cell? ⟨am,1,none⟩=some (u714001):=(kC af.out 1).trans rfl
    have dZ:=kF af.out 0;have d0:=kF af.out 1;obtain⟨bH,bF,cP⟩:=rS ab.out;subst cP;obtain⟨bI,bG,cQ⟩:=rS ac.out;subst cQ
    try go_wp2_with (first|((with_reducible refine gC (f:=84) rfl ?_);refine zJ (some 23) Try.func84 #[.agg #[.slice bl au.length bj,.slice bn aw.length bm],.agg #[.slice bH aj.length bF,.slice bI ak.length bG]] ?_;(with_reducible refine(ic_.calls k1 _ _ au _ _ aw _ _ aj _ _ ak cc _ ?aC ?aD ?aE ?aG ?aX ?aY ?b3 ?b4 cL.out).mono ?_);(case aC=>refine(rR (e:=3) (base:=w.heap.size) (ok:=fun k_=>(nO k_ a5∧(nL k_ bn aw bm∧(nL k_ bH aj bF∧nL k_ bI ak bG)))) (n:=au.length) (c:=bj) ?_).2.2;exact(zF aN ag (.slice bl au.length bj) (.slice bn aw.length bm) 0 1));(case aD=>exact(rR aN.out).2.1);(case aE=>refine(rR (e:=3) (base:=w.heap.size) (ok:=fun k_=>(nO k_ a5∧(nL k_ bl au bj∧(nL k_ bH aj bF∧nL k_ bI ak bG)))) (n:=aw.length) (c:=bm) ?_).2.2;exact(zF aQ ag (.slice bl au.length bj) (.slice bn aw.length bm) 0 1));(case aG=>exact(rR aQ.out).2.1);(case aX=>refine(rR (e:=3) (base:=w.heap.size) (ok:=fun k_=>(nO k_ a5∧(nL k_ bl au bj∧(nL k_ bn aw bm∧nL k_ bI ak bG)))) (n:=aj.length) (c:=bF) ?_).2.2;exact(zF ab ag (.slice bl au.length bj) (.slice bn aw.length bm) 0 1));(case aY=>exact(rR ab.out).2.1);(case b3=>refine(rR (e:=3) (base:=w.heap.size) (ok:=fun k_=>(nO k_ a5∧(nL k_ bl au bj∧(nL k_ bn aw bm∧nL k_ bH aj bF)))) (n:=ak.length) (c:=bG) ?_).2.2;exact(zF ac ag (.slice bl au.length bj) (.slice bn aw.length bm) 0 1));(case b4=>exact(rR ac.out).2.1);rintro e w65 ⟨rfl,hb⟩;refine⟨_,rfl,?_⟩;replace ab:=A0_ (rB (zF ab ag (.slice bl au.length bj) (.slice bn aw.length bm) 0 1) hb);replace ac:=A0_ (rB (zF ac ag (.slice bl au.length bj) (.slice bn aw.length bm) 0 1) hb);replace ah:=A0_ (rB (zF ah ag (.slice bl au.length bj) (.slice bn aw.length bm) 0 1) hb);replace aN:=A0_ (rB (zF aN ag (.slice bl au.length bj) (.slice bn aw.length bm) 0 1) hb);replace aQ:=A0_ (rB (zF aQ ag (.slice bl au.length bj) (.slice bn aw.length bm) 0 1) hb);replace aa:=A0_ (kB (g:=av) (o := .cells #[.slice aI an.length aJ,.slice aK ao.length aM] 25 (0,0)) (by refine zbf ?_ _ (hp:=by exact ai.out);refine zbf ?_ _ (hp:=by exact ai.out);exact zK_ aa) hb);replace ae:=A0_ (kB (g:=aW) (o := .cells #[.slice none 0 0,.slice none 0 0] 25 (0,0)) (by refine zbf ?_ _ (hp:=by exact aq.out);refine zbf ?_ _ (hp:=by exact aq.out);exact zK_ ae) hb);replace af:=A0_ (kB (g:=am) (o := .cells #[.slice bH aj.length bF,.slice bI ak.length bG] 25 (0,0)) (by refine zbf ?_ _ (hp:=by exact ar.out);refine zbf ?_ _ (hp:=by exact ar.out);exact zK_ af) hb);replace ag:=A0_ (kB (g:=al) (o := .cells #[.slice bl au.length bj,.slice bn aw.length bm] 25 (0,0)) (by refine zbp (cs := #[.slice bl au.length bj,.slice none 0 0]) ?_ 1 _ rfl;refine zbp (cs := #[.slice none 0 0,.slice none 0 0]) ?_ 0 _ rfl;exact zK_ ag) hb);replace HB:=zB HB hb;(try clear hb)))
    go_roundg k1
    case measure=>have:=ck.out;omega
    case rel=>exact⟨(wrap64 (bg+1)),(aj),(ak),(.slice bH aj.length bF),(.slice bI ak.length bG),zt,H',⟨by have:=ck.out;omega⟩,⟨zmR ab (fun _ hk=>hk.2.2.2)⟩,⟨zmR ac (fun _ hk=>hk.2.2.2)⟩,⟨zK_ aa⟩,⟨zK_ ae⟩,⟨zK_ af⟩,⟨zB_ HB⟩⟩
   rw [if_neg bV] at H;have cG:=dF bV;clear bV;simp only [Option.some.injEq,Prod.mk.injEq] at H;obtain⟨rfl,rfl⟩:=H;have eJ:=aV.out;have eK:=ax.out;have eL:=aZ.out;have eM:=aU.out
   have d3:wr.cell? ⟨am,0,none⟩=some (u714000):=(kC af.out 0).trans rfl
   have d4:wr.cell? ⟨am,1,none⟩=some (u714001):=(kC af.out 1).trans rfl
   have d5:=kF af.out 0;have d6:=kF af.out 1;obtain⟨b5,b6,cR⟩:=rS ab.out;subst cR;have eN:=bK.out;have eO:=bJ.out;have d7:=zc0 ae;have d8:=zc1 ae;have d9:=kF ae.out 0;have ea:=kF ae.out 1;obtain⟨cd,ce,cS⟩:=rS ac.out;subst cS
   go_wp2
   refine bodyPost_ret (results_cell_row rfl _ _ aW 25 #[.slice b5 aj.length b6,.slice cd ak.length ce] (0,0) _ rfl (by refine zbp (cs := #[.slice b5 aj.length b6,.slice none 0 0]) ?_ 1 _ rfl;refine zbp (cs := #[.slice none 0 0,.slice none 0 0]) ?_ 0 _ rfl;exact zK_ ae) Try.underlying25 rfl (by kernel_rfl)) rfl ?_
   exact⟨_,_,by first|rfl|(simp [*] <;> rfl),zF ab ae (.slice b5 aj.length b6) (.slice cd ak.length ce) 0 1,zF ac ae (.slice b5 aj.length b6) (.slice cd ak.length ce) 0 1,zB_ HB⟩
end Go.Proofs.Ytmegggomhjgehaa.PFnCoverConj
