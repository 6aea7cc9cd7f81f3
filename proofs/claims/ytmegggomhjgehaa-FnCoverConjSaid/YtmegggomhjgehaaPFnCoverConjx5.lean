import Derived.Test.YtmegggomhjgehaaPFnCoverConjx4
namespace Go.Proofs.Ytmegggomhjgehaa.PFnCoverConj
open Go.RowKit Go.Proofs.YtmegggomhjgehaaW.PrintWords Go.Proofs.YtmegggomhjgehaaW.PrintLast Go.Proofs.YtmegggomhjgehaaW.PrintMore
set_option maxHeartbeats 8000000
set_option maxRecDepth 100000
attribute [local go_sem] max2_int min2_int max_two min_two max_three min_three max_four min_four
def i4_.f (k:Nat) (ab:List Int) (ac:List Int) (a1:Int) (l2:List (List Int)):Option (List Int×List Int×Bool):=(i9_.f k ab ac a1 l2).bind fun ae=>(if ae=true then ((ie_.f k ab ac a1 l2).bind fun aa=>((i6_.f k aa.1 aa.2).bind fun af=>(if af=true then (some (aa.1,aa.2,true)) else (some (([]:List Int),([]:List Int),false))))) else (some (([]:List Int),([]:List Int),false)))
theorem i4_.calls (k:Nat) (au:Option Addr) (av:Nat) (ag:List Int) (aw:Option Addr) (ax:Nat) (ah:List Int) (a1:Int) (A2:Option Addr) (c2:Nat) (l2:List (List Int)) (r1:List Int) (r2:List Int) (r3:Bool) (w:World) (a9:Kd.C (Kd.int .i64) w au ag.length ag) (ba:ag.length≤av) (bb:Kd.C (Kd.int .i64) w aw ah.length ah) (bc:ah.length≤ax) (bj:Kd.C (Kd.slice 3 (Kd.int .i64)) w A2 l2.length l2) (bk:l2.length≤c2) (h:i4_.f k ag ah a1 l2=some (r1,r2,r3)) :
    Calls Try.prog 20 #[.agg #[.slice au ag.length av,.slice aw ah.length ax],.int .i64 a1,.slice A2 l2.length c2] w fun e w' => ∃ v0_ v1_:Value,e = .returned (.tuple #[.agg #[v0_,v1_],.bool r3])∧Kd.R (Kd.int .i64) 3 w' w.heap.size (fun k_=>nO k_ v1_) v0_ r1∧Kd.R (Kd.int .i64) 3 w' w.heap.size (fun k_=>nO k_ v0_) v1_ r2∧Below w.heap.size w w':=by
 have cK:=Try.underlying25;have aU:=A0_ a9;have aV:=A0_ ba;clear a9 ba;have aW:=A0_ bb;have aX:=A0_ bc;clear bb bc;have a4:=A0_ bj;have a5:=A0_ bk;clear bj bk
 have HB:=A0_ (Below.refl w.heap.size w)
 have H:((i9_.f k ag ah a1 l2).bind fun a8=>(if a8=true then ((ie_.f k ag ah a1 l2).bind fun ay=>((i6_.f k ay.1 ay.2).bind fun aZ=>(if aZ=true then (some (ay.1,ay.2,true)) else (some (([]:List Int),([]:List Int),false))))) else (some (([]:List Int),([]:List Int),false))))=some (r1,r2,r3):=h
 clear h;obtain⟨a8,A4,H⟩:=zbind H
 by_cases c5:a8=true
 ·subst c5
  have H1:((ie_.f k ag ah a1 l2).bind fun ay=>((i6_.f k ay.1 ay.2).bind fun aZ=>(if aZ=true then (some (ay.1,ay.2,true)) else (some (([]:List Int),([]:List Int),false)))))=some (r1,r2,r3):=by rw [if_pos rfl] at H;exact H
  clear H;have H:=H1;clear H1;obtain⟨⟨ae,af⟩,A6,H⟩:=zbind H;dsimp only at H;obtain⟨aZ,A7,H⟩:=zbind H
  by_cases c8:aZ=true
  ·subst c8
   have H1:(some (ae,af,true))=some (r1,r2,r3):=by rw [if_pos rfl] at H;exact H
   clear H;have H:=H1;clear H1;simp only [Option.some.injEq,Prod.mk.injEq] at H;obtain⟨rfl,rfl,rfl⟩:=H
   go_enter Try.func20,Try.ntmps20
   go_wp2_with (first|((with_reducible refine gD (N:=3) rfl ?_);refine zX (N:=3) (cs := #[.slice au ag.length av,.slice aw ah.length ax]) (t:=25) ?_;intro aY hg w9 hbox hb;have aa:=A0_ (hbox);have bd:=zG hg HB;have be:=zG hg HB;replace HB:=zB HB hb;clear hb hbox hg)|((with_reducible refine gD (N:=6) rfl ?_);refine zX (N:=6) (cs := #[.slice none 0 0,.slice none 0 0]) (t:=25) ?_;intro aH hg w10 hbox hb;have ab:=A0_ (hbox);have bf:=zG hg HB;have bg:=zG hg HB;replace HB:=zB HB hb;have aq:=zL hg aa;have ar:=zM hg aa;replace aa:=zK aa hb;clear hb hbox hg;have ct:=aq.out;have cu:=ar.out;have br:=zc0 aa;have bu:=zc1 aa;have bv:=kF aa.out 0;have bw:=kF aa.out 1)|((with_reducible refine gC (f:=53) rfl ?_);refine zJ (some 12) Try.func53 #[.agg #[.slice au ag.length av,.slice aw ah.length ax],.int .i64 a1,.slice A2 l2.length c2] ?_;(with_reducible refine(i9_.calls k _ _ ag _ _ ah a1 _ _ l2 true _ ?am ?an ?az ?aA ?aC ?aD A4.out).mono ?_);(case am=>exact zC aU HB);(case an=>exact aV.out);(case az=>exact zC aW HB);(case aA=>exact aX.out);(case aC=>exact zC a4 HB);(case aD=>exact a5.out);rintro e w13 ⟨rfl,hb⟩;refine⟨_,rfl,?_⟩;replace aa:=zK aa hb;replace ab:=zK ab hb;replace HB:=zB HB hb;(try clear hb);have bx:=zc0 aa;have bz:=zc1 aa;have bB:=kF aa.out 0;have bC:=kF aa.out 1)|((with_reducible refine gC (f:=55) rfl ?_);refine zJ (some 18) Try.func55 #[.agg #[.slice au ag.length av,.slice aw ah.length ax],.int .i64 a1,.slice A2 l2.length c2] ?_;(with_reducible refine(ie_.calls k _ _ ag _ _ ah a1 _ _ l2 ae af _ ?am ?an ?az ?aA ?aC ?aD A6.out).mono ?_);(case am=>exact zC aU HB);(case an=>exact aV.out);(case az=>exact zC aW HB);(case aA=>exact aX.out);(case aC=>exact zC a4 HB);(case aD=>exact a5.out);rintro e w15 ⟨bl,bm,rfl,a6,a7,hb⟩;refine⟨_,rfl,?_⟩;have ai:=A0_ (rL a6 (bZ (zB_ HB)));have aj:=A0_ (rL a7 (bZ (zB_ HB)));replace aa:=zK aa hb;replace ab:=zK ab hb;replace HB:=zB HB hb;(try clear hb);(try clear a6);(try clear a7))|((with_reducible refine gD (N:=8) rfl ?_);refine zX (N:=8) (cs := #[.slice none 0 0,.slice none 0 0]) (t:=25) ?_;intro aI hg w16 hbox hb;replace ai:=zR ai hb;replace aj:=zR aj hb;have ac:=A0_ (hbox);have bh:=zG hg HB;have bi:=zG hg HB;replace HB:=zB HB hb;have ak:=zL hg aa;have aM:=zM hg aa;replace aa:=zK aa hb;have al:=zL hg ab;have aN:=zM hg ab;replace ab:=zK ab hb;clear hb hbox hg;obtain⟨ao,ap,bn⟩:=rS ai.out;subst bn;have cv:=aM.out;have cw:=ak.out;have cx:=aN.out;have cy:=al.out;have bE:=zc0 ac;have bF:=zc1 ac;have bG:=kF ac.out 0;have bH:=kF ac.out 1;obtain⟨aE,aG,bo⟩:=rS aj.out;subst bo)|((with_reducible refine gS (t:=25) (p:=8) rfl ?_);refine store_event (t:=25) (p:=8) (v := ?vo_w22) (w1:=((w16.setCell ⟨aI,0,none⟩ (.slice ao ae.length ap)).setCell ⟨aI,1,none⟩ (.slice aE af.length aG))) ?hg ?ho ?hn ?hr ?_;(case ho=>rfl);(case hg=>rfl);(case hn=>rfl);(case hr=>first|(go_simp;done)|(go_simp;rfl));intro w22 hw;replace ai:Aside0 (Kd.R (Kd.int .i64) 3 w22 w.heap.size (fun k_=>nL k_ aE af aG) (.slice ao ae.length ap) ae):=⟨(by rw [hw];exact(zF ai ac (.slice ao ae.length ap) (.slice aE af.length aG) 0 1))⟩;replace aj:Aside0 (Kd.R (Kd.int .i64) 3 w22 w.heap.size (fun k_=>nL k_ ao ae ap) (.slice aE af.length aG) af):=⟨(by rw [hw];exact(zF aj ac (.slice ao ae.length ap) (.slice aE af.length aG) 0 1))⟩;replace aa:Aside0 (w22.heap[aY]? = some (.cells #[.slice au ag.length av,.slice aw ah.length ax] 25 (0,0))):=⟨(by rw [hw];exact(by refine zbf ?_ _ (hp:=by exact ak.out);refine zbf ?_ _ (hp:=by exact ak.out);exact zK_ aa))⟩;replace ab:Aside0 (w22.heap[aH]? = some (.cells #[.slice none 0 0,.slice none 0 0] 25 (0,0))):=⟨(by rw [hw];exact(by refine zbf ?_ _ (hp:=by exact al.out);refine zbf ?_ _ (hp:=by exact al.out);exact zK_ ab))⟩;replace ac:Aside0 (w22.heap[aI]? = some (.cells #[.slice ao ae.length ap,.slice aE af.length aG] 25 (0,0))):=⟨(by rw [hw];exact(by refine zbp (cs := #[.slice ao ae.length ap,.slice none 0 0]) ?_ 1 _ rfl;refine zbp (cs := #[.slice none 0 0,.slice none 0 0]) ?_ 0 _ rfl;exact zK_ ac))⟩;replace HB:Aside0 (Below w.heap.size w w22):=⟨(by rw [hw];exact(zB_ HB))⟩;clear hw;have bI:=zc0 ac;have bJ:=zc1 ac;have bK:=kF ac.out 0;have bL:=kF ac.out 1)|((with_reducible refine gC (f:=54) rfl ?_);refine zJ (some 20) Try.func54 #[.agg #[.slice ao ae.length ap,.slice aE af.length aG]] ?_;(with_reducible refine(i6_.calls k (fun k_=>some k_=(.slice ao ae.length ap:Value).ownBlock) _ _ ae (fun k_=>some k_=(.slice aE af.length aG:Value).ownBlock) _ _ af true _ ?am ?an A7.out).mono ?_);(case am=>exact Kd.R_V (Kd.R_tight rfl (rY (rY (rY (ai.out) aa.out (by decide)) ab.out (by decide)) ac.out (by decide))));(case an=>exact Kd.R_V (Kd.R_tight rfl (rY (rY (rY (aj.out) aa.out (by decide)) ab.out (by decide)) ac.out (by decide))));rintro e w24 ⟨rfl,hb⟩;refine⟨_,rfl,?_⟩;replace ai:=zR ai hb;replace aj:=zR aj hb;replace aa:=zK aa hb;replace ab:=zK ab hb;replace ac:=zK ac hb;replace HB:=zB HB hb;(try clear hb);have bM:=zc0 ac;have bO:=zc1 ac;have bP:=kF ac.out 0;have bQ:=kF ac.out 1;have bR:=zc0 ab;have bU:=zc1 ab;have bV:=kF ab.out 0;have bW:=kF ab.out 1))
   refine bodyPost_ret (results_ct rfl _ _ aH 25 #[.slice ao ae.length ap,.slice aE af.length aG] (0,0) _ rfl (by refine zbp (cs := #[.slice ao ae.length ap,.slice none 0 0]) ?_ 1 _ rfl;refine zbp (cs := #[.slice none 0 0,.slice none 0 0]) ?_ 0 _ rfl;exact zK_ ab) Try.underlying25 rfl (by kernel_rfl)) rfl ?_
   exact⟨_,_,by first|rfl|(simp [*] <;> rfl),zF ai ab (.slice ao ae.length ap) (.slice aE af.length aG) 0 1,zF aj ab (.slice ao ae.length ap) (.slice aE af.length aG) 0 1,zB_ HB⟩
  replace c8:=Bool.eq_false_iff.mpr c8;subst c8
  have H1:(some (([]:List Int),([]:List Int),false))=some (r1,r2,r3):=by rw [if_neg (show ¬ (false=true) by decide)] at H;exact H
  clear H;have H:=H1;clear H1;simp only [Option.some.injEq,Prod.mk.injEq] at H;obtain⟨rfl,rfl,rfl⟩:=H
  go_enter Try.func20,Try.ntmps20
  go_wp2_with (first|((with_reducible refine gD (N:=3) rfl ?_);refine zX (N:=3) (cs := #[.slice au ag.length av,.slice aw ah.length ax]) (t:=25) ?_;intro aY hg w27 hbox hb;have aa:=A0_ (hbox);have bd:=zG hg HB;have be:=zG hg HB;replace HB:=zB HB hb;clear hb hbox hg)|((with_reducible refine gD (N:=6) rfl ?_);refine zX (N:=6) (cs := #[.slice none 0 0,.slice none 0 0]) (t:=25) ?_;intro aH hg w28 hbox hb;have ab:=A0_ (hbox);have bf:=zG hg HB;have bg:=zG hg HB;replace HB:=zB HB hb;have aq:=zL hg aa;have ar:=zM hg aa;replace aa:=zK aa hb;clear hb hbox hg;have cz:=aq.out;have cC:=ar.out;have bX:=zc0 aa;have bY:=zc1 aa;have b2:=kF aa.out 0;have b3:=kF aa.out 1)|((with_reducible refine gC (f:=53) rfl ?_);refine zJ (some 12) Try.func53 #[.agg #[.slice au ag.length av,.slice aw ah.length ax],.int .i64 a1,.slice A2 l2.length c2] ?_;(with_reducible refine(i9_.calls k _ _ ag _ _ ah a1 _ _ l2 true _ ?am ?an ?az ?aA ?aC ?aD A4.out).mono ?_);(case am=>exact zC aU HB);(case an=>exact aV.out);(case az=>exact zC aW HB);(case aA=>exact aX.out);(case aC=>exact zC a4 HB);(case aD=>exact a5.out);rintro e w31 ⟨rfl,hb⟩;refine⟨_,rfl,?_⟩;replace aa:=zK aa hb;replace ab:=zK ab hb;replace HB:=zB HB hb;(try clear hb);have b4:=zc0 aa;have b5:=zc1 aa;have b6:=kF aa.out 0;have b7:=kF aa.out 1)|((with_reducible refine gC (f:=55) rfl ?_);refine zJ (some 18) Try.func55 #[.agg #[.slice au ag.length av,.slice aw ah.length ax],.int .i64 a1,.slice A2 l2.length c2] ?_;(with_reducible refine(ie_.calls k _ _ ag _ _ ah a1 _ _ l2 ae af _ ?am ?an ?az ?aA ?aC ?aD A6.out).mono ?_);(case am=>exact zC aU HB);(case an=>exact aV.out);(case az=>exact zC aW HB);(case aA=>exact aX.out);(case aC=>exact zC a4 HB);(case aD=>exact a5.out);rintro e w33 ⟨bl,bm,rfl,a6,a7,hb⟩;refine⟨_,rfl,?_⟩;have ai:=A0_ (rL a6 (bZ (zB_ HB)));have aj:=A0_ (rL a7 (bZ (zB_ HB)));replace aa:=zK aa hb;replace ab:=zK ab hb;replace HB:=zB HB hb;(try clear hb);(try clear a6);(try clear a7))|((with_reducible refine gD (N:=8) rfl ?_);refine zX (N:=8) (cs := #[.slice none 0 0,.slice none 0 0]) (t:=25) ?_;intro aI hg w34 hbox hb;replace ai:=zR ai hb;replace aj:=zR aj hb;have ac:=A0_ (hbox);have bh:=zG hg HB;have bi:=zG hg HB;replace HB:=zB HB hb;have ak:=zL hg aa;have aM:=zM hg aa;replace aa:=zK aa hb;have al:=zL hg ab;have aN:=zM hg ab;replace ab:=zK ab hb;clear hb hbox hg;obtain⟨aJ,aK,bp⟩:=rS ai.out;subst bp;have cE:=aM.out;have cF:=ak.out;have cG:=aN.out;have cH:=al.out;have b8:=zc0 ac;have b9:=zc1 ac;have ca:=kF ac.out 0;have cb:=kF ac.out 1;obtain⟨aQ,aT,bq⟩:=rS aj.out;subst bq)|((with_reducible refine gS (t:=25) (p:=8) rfl ?_);refine store_event (t:=25) (p:=8) (v := ?vo_w40) (w1:=((w34.setCell ⟨aI,0,none⟩ (.slice aJ ae.length aK)).setCell ⟨aI,1,none⟩ (.slice aQ af.length aT))) ?hg ?ho ?hn ?hr ?_;(case ho=>rfl);(case hg=>rfl);(case hn=>rfl);(case hr=>first|(go_simp;done)|(go_simp;rfl));intro w40 hw;replace ai:Aside0 (Kd.R (Kd.int .i64) 3 w40 w.heap.size (fun k_=>nL k_ aQ af aT) (.slice aJ ae.length aK) ae):=⟨(by rw [hw];exact(zF ai ac (.slice aJ ae.length aK) (.slice aQ af.length aT) 0 1))⟩;replace aj:Aside0 (Kd.R (Kd.int .i64) 3 w40 w.heap.size (fun k_=>nL k_ aJ ae aK) (.slice aQ af.length aT) af):=⟨(by rw [hw];exact(zF aj ac (.slice aJ ae.length aK) (.slice aQ af.length aT) 0 1))⟩;replace aa:Aside0 (w40.heap[aY]? = some (.cells #[.slice au ag.length av,.slice aw ah.length ax] 25 (0,0))):=⟨(by rw [hw];exact(by refine zbf ?_ _ (hp:=by exact ak.out);refine zbf ?_ _ (hp:=by exact ak.out);exact zK_ aa))⟩;replace ab:Aside0 (w40.heap[aH]? = some (.cells #[.slice none 0 0,.slice none 0 0] 25 (0,0))):=⟨(by rw [hw];exact(by refine zbf ?_ _ (hp:=by exact al.out);refine zbf ?_ _ (hp:=by exact al.out);exact zK_ ab))⟩;replace ac:Aside0 (w40.heap[aI]? = some (.cells #[.slice aJ ae.length aK,.slice aQ af.length aT] 25 (0,0))):=⟨(by rw [hw];exact(by refine zbp (cs := #[.slice aJ ae.length aK,.slice none 0 0]) ?_ 1 _ rfl;refine zbp (cs := #[.slice none 0 0,.slice none 0 0]) ?_ 0 _ rfl;exact zK_ ac))⟩;replace HB:Aside0 (Below w.heap.size w w40):=⟨(by rw [hw];exact(zB_ HB))⟩;clear hw;have cc:=zc0 ac;have cd:=zc1 ac;have ce:=kF ac.out 0;have cf:=kF ac.out 1)|((with_reducible refine gC (f:=54) rfl ?_);refine zJ (some 20) Try.func54 #[.agg #[.slice aJ ae.length aK,.slice aQ af.length aT]] ?_;(with_reducible refine(i6_.calls k (fun k_=>some k_=(.slice aJ ae.length aK:Value).ownBlock) _ _ ae (fun k_=>some k_=(.slice aQ af.length aT:Value).ownBlock) _ _ af false _ ?am ?an A7.out).mono ?_);(case am=>exact Kd.R_V (Kd.R_tight rfl (rY (rY (rY (ai.out) aa.out (by decide)) ab.out (by decide)) ac.out (by decide))));(case an=>exact Kd.R_V (Kd.R_tight rfl (rY (rY (rY (aj.out) aa.out (by decide)) ab.out (by decide)) ac.out (by decide))));rintro e w42 ⟨rfl,hb⟩;refine⟨_,rfl,?_⟩;replace ai:=zR ai hb;replace aj:=zR aj hb;replace aa:=zK aa hb;replace ab:=zK ab hb;replace ac:=zK ac hb;replace HB:=zB HB hb;(try clear hb);have cg:=zc0 ab;have ch:=zc1 ab;have ci:=kF ab.out 0;have cj:=kF ab.out 1))
  refine bodyPost_ret (results_ct rfl _ _ aH 25 #[.slice none 0 0,.slice none 0 0] (0,0) _ rfl (by refine zbp (cs := #[.slice none 0 0,.slice none 0 0]) ?_ 1 _ rfl;refine zbp (cs := #[.slice none 0 0,.slice none 0 0]) ?_ 0 _ rfl;exact zK_ ab) Try.underlying25 rfl (by kernel_rfl)) rfl ?_
  exact⟨_,_,by first|rfl|(simp [*] <;> rfl),by first|exact Kd.R_nil _ _ _ _ _|exact Kd.N_nil _ _ _ _ _|exact Kd.V_nil _ _ _ _ _|exact Kd.Q_nil _ _ _ _ _|exact Kd.S_nil _ _ _ _ _,by first|exact Kd.R_nil _ _ _ _ _|exact Kd.N_nil _ _ _ _ _|exact Kd.V_nil _ _ _ _ _|exact Kd.Q_nil _ _ _ _ _|exact Kd.S_nil _ _ _ _ _,zB_ HB⟩
 replace c5:=Bool.eq_false_iff.mpr c5;subst c5
 have H1:(some (([]:List Int),([]:List Int),false))=some (r1,r2,r3):=by rw [if_neg (show ¬ (false=true) by decide)] at H;exact H
 clear H;have H:=H1;clear H1;simp only [Option.some.injEq,Prod.mk.injEq] at H;obtain⟨rfl,rfl,rfl⟩:=H
 go_enter Try.func20,Try.ntmps20
 go_wp2_with (first|((with_reducible refine gD (N:=3) rfl ?_);refine zX (N:=3) (cs := #[.slice au ag.length av,.slice aw ah.length ax]) (t:=25) ?_;intro aY hg w44 hbox hb;have aa:=A0_ (hbox);have bd:=zG hg HB;have be:=zG hg HB;replace HB:=zB HB hb;clear hb hbox hg)|((with_reducible refine gD (N:=6) rfl ?_);refine zX (N:=6) (cs := #[.slice none 0 0,.slice none 0 0]) (t:=25) ?_;intro aH hg w45 hbox hb;have ab:=A0_ (hbox);have bf:=zG hg HB;have bg:=zG hg HB;replace HB:=zB HB hb;have aq:=zL hg aa;have ar:=zM hg aa;replace aa:=zK aa hb;clear hb hbox hg;have cI:=aq.out;have cJ:=ar.out;have ck:=zc0 aa;have cl:=zc1 aa;have cm:=kF aa.out 0;have cn:=kF aa.out 1)|((with_reducible refine gC (f:=53) rfl ?_);refine zJ (some 12) Try.func53 #[.agg #[.slice au ag.length av,.slice aw ah.length ax],.int .i64 a1,.slice A2 l2.length c2] ?_;(with_reducible refine(i9_.calls k _ _ ag _ _ ah a1 _ _ l2 false _ ?am ?an ?az ?aA ?aC ?aD A4.out).mono ?_);(case am=>exact zC aU HB);(case an=>exact aV.out);(case az=>exact zC aW HB);(case aA=>exact aX.out);(case aC=>exact zC a4 HB);(case aD=>exact a5.out);rintro e w48 ⟨rfl,hb⟩;refine⟨_,rfl,?_⟩;replace aa:=zK aa hb;replace ab:=zK ab hb;replace HB:=zB HB hb;(try clear hb);have co:=zc0 ab;have cp:=zc1 ab;have cq:=kF ab.out 0;have cr:=kF ab.out 1))
 refine bodyPost_ret (results_ct rfl _ _ aH 25 #[.slice none 0 0,.slice none 0 0] (0,0) _ rfl (by refine zbp (cs := #[.slice none 0 0,.slice none 0 0]) ?_ 1 _ rfl;refine zbp (cs := #[.slice none 0 0,.slice none 0 0]) ?_ 0 _ rfl;exact zK_ ab) Try.underlying25 rfl (by kernel_rfl)) rfl ?_
 exact⟨_,_,by first|rfl|(simp [*] <;> rfl),by first|exact Kd.R_nil _ _ _ _ _|exact Kd.N_nil _ _ _ _ _|exact Kd.V_nil _ _ _ _ _|exact Kd.Q_nil _ _ _ _ _|exact Kd.S_nil _ _ _ _ _,by first|exact Kd.R_nil _ _ _ _ _|exact Kd.N_nil _ _ _ _ _|exact Kd.V_nil _ _ _ _ _|exact Kd.Q_nil _ _ _ _ _|exact Kd.S_nil _ _ _ _ _,zB_ HB⟩
mutual
def if_.l0:Nat→List Int→List (List Int)→List Bool→Int→Int→Option ((List (List Int)))
  | 0,_,_,_,_,_=>none
  | k+1,x0,x3,x4,ab,aa=>if aa<ab then (if_.l1 k x0 x3 x4 (([]:List Int)) aa ab aa) else (some x3)
def if_.l1:Nat→List Int→List (List Int)→List Bool→List Int→Int→Int→Int→Option ((List (List Int)))
  | 0,_,_,_,_,_,_,_=>none
  | k+1,x0,x3,x4,x6,x7,aa,ab=>if 0≤x7 then (if x7<(x4.length:Int) then (if rdOf false x4 x7=true then (if (x6.length:Int)>0 then (if x3.length<5864062014805 then (if_.l0 k x0 (x3 ++ [x6]) x4 aa (wrap64 (ab+1))) else (none)) else (if_.l0 k x0 x3 x4 aa (wrap64 (ab+1)))) else (if x6.length<17592186044416 then (if x7<(x0.length:Int) then (if_.l1 k x0 x3 (x4.set (x7:Int).toNat true) (x6 ++ [x7]) (rd x0 x7) aa ab) else (none)) else (none))) else (none)) else (none)
end
def if_.f (k:Nat) (l0:List Int):Option ((List (List Int))):=if 0≤(l0.length:Int) then (if ((l0.length:Int):Int).toNat≤281474976710656 then (if_.l0 k l0 (([]:List (List Int))) (List.replicate ((l0.length:Int):Int).toNat false) (l0.length:Int) 0) else (none)) else (none)
theorem if_.calls (k:Nat) (A0:Option Addr) (c0:Nat) (l0:List Int) (r:List (List Int)) (w:World) (br:Kd.C (Kd.int .i64) w A0 l0.length l0) (bu:l0.length≤c0) (h:if_.f k l0=some r) :
    Calls Try.prog 68 #[.slice A0 l0.length c0] w fun e w' => ∃ v0_:Value,e = .returned (v0_)∧Kd.S (Kd.slice 3 (Kd.int .i64)) 23 w' w.heap.size (fun _=>True) v0_ r∧Below w.heap.size w w':=by
 have bJ:=A0_ br;have b8:=A0_ bu;clear br bu
 have HB:=A0_ (Below.refl w.heap.size w)
 have H:(if 0≤(l0.length:Int) then (if ((l0.length:Int):Int).toNat≤281474976710656 then (if_.l0 k l0 (([]:List (List Int))) (List.replicate ((l0.length:Int):Int).toNat false) (l0.length:Int) 0) else (none)) else (none))=some r:=h
 clear h
 obtain⟨aI,aw⟩ : ∃ y_:List (List Int),y_=(([]:List (List Int))):=⟨_,rfl⟩
 replace H:(if 0≤(l0.length:Int) then (if ((l0.length:Int):Int).toNat≤281474976710656 then (if_.l0 k l0 aI (List.replicate ((l0.length:Int):Int).toNat false) (l0.length:Int) 0) else (none)) else (none))=some r:=zH aw H
 have aN:=A0_ aw;clear aw
 have c2:=zpc H;replace H:=zph H
 have aW:=eq_true c2;have aX:=dT c2;clear c2
 have c3:=zpc H;replace H:=zph H
 have aY:=eq_true c3;have aZ:=dT c3;clear c3
 obtain⟨a4,ax⟩ : ∃ y_:List Bool,y_=(List.replicate ((l0.length:Int):Int).toNat false):=⟨_,rfl⟩
 replace H:(if_.l0 k l0 aI a4 (l0.length:Int) 0)=some r:=zH ax H
 have aQ:=A0_ ax;clear ax;have H':=A0_ H;clear H
 go_enter Try.func68,Try.ntmps68
 go_wp2_with (first|((with_reducible refine gD (N:=8) rfl ?_);refine Kd.S_lit (Kd.slice 3 (Kd.int .i64)) _ 23 ?hg (N:=8) ?hd (xs:=([]:List (List Int))) (inner := []) (ok:=fun _=>True) (okp:=fun _=>True) ?hr ?hp (fun _ hk=>hk) trivial (Below.refl _ _) (Nat.le_refl _) (by simp) ?_;(case hd=>rfl);(case hg=>rfl);(case hr=>first|(go_simp;done)|(go_simp;rfl));(case hp=>exact(Reps.none _ _));intro bR w4 aG hb hg_ hnew_;clear hg_ hnew_;(first|rw [← aN.out] at aG|(simp only [Int.reduceToNat] at aG;rw [← aN.out] at aG));have ay:=A0_ (Kd.S_lower aG (bZ (zB_ HB)));replace HB:=zB HB hb;clear hb aG)|((with_reducible refine gD (N:=11) rfl ?_);refine Kd.R_make Kd.bool _ 4 rfl (N:=11) rfl 60 _ _ rfl (l0.length:Int) rfl rfl Try.underlying60 (.bool false) 1 info4 rfl (by decide) (by omega) false (ok:=fun _=>True) (okp:=fun _=>True) rfl (fun _ hk=>hk) trivial (zd) (Nat.le_trans (Nat.mul_le_mul_right _ (zd:(l0.length:Int).toNat≤281474976710656)) (by omega)) (Below.refl _ _) (Nat.le_refl _) ?_;intro a5 w6 aH hb hg_ hnew_;clear hg_ hnew_;(first|rw [← aQ.out] at aH|(simp only [Int.reduceToNat] at aH;rw [← aQ.out] at aH));replace ay:=zS ay hb;have bg:=A0_ (rL aH (bZ (zB_ HB)));replace HB:=zB HB hb;clear hb aH))
 go_loopg [3,14] k (fun kq v3 v14 w' => ∃ (ah:List (List Int)) (ao:List Bool) (ac:Int),v14 = .int .i64 ac∧Aside0 (if_.l0 kq l0 ah ao (l0.length:Int) ac=some r)∧Aside0 (kq≤k)∧Aside0 (Kd.S (Kd.slice 3 (Kd.int .i64)) 23 w' w.heap.size (fun _=>True) v3 ah)∧Aside0 (Kd.R Kd.bool 4 w' w.heap.size (fun _=>True) a5 ao)∧Aside0 (Below w.heap.size w w'))
 case atStart=>exact⟨(aI),(a4),(0),zt,H',⟨Nat.le_refl _⟩,⟨zS_ ay⟩,⟨zR_ bg⟩,⟨zB_ HB⟩⟩
 case round =>
  clear H';(try clear c2);(try clear aW);(try clear aX);(try clear c3);(try clear aY);(try clear aZ);obtain⟨ah,ao,ac,rfl,HA,ar,ag,ab,HB⟩:=hrel
  cases gk with
  | zero=>exact absurd HA.out (by simp [if_.l0])
  | succ k1 =>
   have H:=HA.out;clear HA;simp only [if_.l0] at H
   by_cases c8:ac<(l0.length:Int)
   ·rw [if_pos c8] at H
    have a6:=dT c8;clear c8
    obtain⟨a7,az⟩ : ∃ y_:List Int,y_=(([]:List Int)):=⟨_,rfl⟩
    replace H:(if_.l1 k1 l0 ah ao a7 ac (l0.length:Int) ac)=some r:=zH az H
    have aT:=A0_ az;clear az;have H':=A0_ H;clear H
    go_wp2_with (first|((with_reducible refine gD (N:=17) rfl ?_);refine Kd.R_lit (Kd.int .i64) _ 3 ?hg (N:=17) ?hd (xs:=([]:List Int)) (inner := []) (ok:=fun _=>True) (okp:=fun _=>True) ?hr ?hp (fun _ hk=>hk) trivial (Below.refl _ _) (Nat.le_refl _) (by simp) ?_;(case hd=>rfl);(case hg=>rfl);(case hr=>first|(go_simp;done)|(go_simp;rfl));(case hp=>exact(Reps.none _ _));intro bU w9 am hb hg_ hnew_;clear hg_ hnew_;(first|rw [← aT.out] at am|(simp only [Int.reduceToNat] at am;rw [← aT.out] at am));replace ag:=A0_ (Kd.S_elder' (zS_ ag) (Kd.R_base am) hb);replace ab:=zR ab hb;have bh:=A0_ (rL am (bZ (zB_ HB)));replace HB:=zB HB hb;clear hb am))
    go_loopg [6,7] k1 (fun kq v6 v7 w' => ∃ (af:List Bool) (ae:List Int) (aa:Int),v7 = .int .i64 aa∧Aside0 (if_.l1 kq l0 ah af ae aa (l0.length:Int) ac=some r)∧Aside0 (kq≤k1)∧Aside0 (Kd.S (Kd.slice 3 (Kd.int .i64)) 23 w' w.heap.size (fun k_=>nO k_ v6) u3 ah)∧Aside0 (Kd.R Kd.bool 4 w' w.heap.size (fun _=>True) a5 af)∧Aside0 (Kd.R (Kd.int .i64) 3 w' w.heap.size (fun _=>True) v6 ae)∧Aside0 (Below w.heap.size w w'))
    case atStart=>exact⟨(ao),(a7),(ac),zt,H',⟨Nat.le_refl _⟩,⟨zmS ag (fun _ hk=>hk.2)⟩,⟨zR_ ab⟩,⟨zR_ bh⟩,⟨zB_ HB⟩⟩
    case round =>
     clear H';(try clear c2);(try clear aW);(try clear aX);(try clear c3);(try clear aY);(try clear aZ);(try clear c8);(try clear a6);obtain⟨af,ae,aa,rfl,HA,au,ag,ab,al,HB⟩:=hrel
     cases gk with
     | zero=>exact absurd HA.out (by simp [if_.l1])
     | succ k2 =>
      have H:=HA.out;clear HA;simp only [if_.l1] at H
      have bv:=zpc H;replace H:=zph H
      have bM:=dT bv;clear bv
      have bw:=zpc H;replace H:=zph H
      have bO:=dT bw;clear bw
      obtain⟨bq13,hbq13⟩ : ∃ b_:Bool,b_=(rdOf false af aa):=⟨_,rfl⟩
      replace H:(if bq13=true then (if (ae.length:Int)>0 then (if ah.length<5864062014805 then (if_.l0 k2 l0 (ah ++ [ae]) af (l0.length:Int) (wrap64 (ac+1))) else (none)) else (if_.l0 k2 l0 ah af (l0.length:Int) (wrap64 (ac+1)))) else (if ae.length<17592186044416 then (if aa<(l0.length:Int) then (if_.l1 k2 l0 ah (af.set (aa:Int).toNat true) (ae ++ [aa]) (rd l0 aa) (l0.length:Int) ac) else (none)) else (none)))=some r:=by rw [← hbq13] at H;exact H
      have Nbq13:=A0_ hbq13;clear hbq13
      by_cases aU:bq13=true
      ·subst aU
       rw [if_pos rfl] at H
       by_cases av:(ae.length:Int)>0
       ·rw [if_pos av] at H
        have bi:decide (0<(ae.length:Int))=true:=dT av
        have bj:decide (0<ae.length)=true:=dT (by omega)
        clear av
        have bx:=zpc H;replace H:=zph H
        have bk:=A0_ bx;clear bx
        obtain⟨a8,aA⟩ : ∃ y_:List (List Int),y_=(ah ++ [ae]):=⟨_,rfl⟩
        replace H:(if_.l0 k2 l0 a8 af (l0.length:Int) (wrap64 (ac+1)))=some r:=zH aA H
        have bl:=A0_ aA;clear aA;have H':=A0_ H;clear H;obtain⟨bV,bW,bC⟩:=rS ab.out;subst bC
        have aj:0≤(aa:Int):=zd
        have ak:aa<(af.length:Int):=zd
        obtain⟨aV,ap,ai⟩:=Kd.at_bool (rR ab.out).2.2 aa aj ak
        (try rw [← Nbq13.out] at ai)
        cases ap
        replace aj:=eq_true aj;replace ak:=eq_true ak;obtain⟨a9,ba,bE⟩:=rS al.out;subst bE
        go_wp2_with (first|((with_reducible refine gB (b := .append) (xs := #[.tmp 38,.tmp 40]) rfl ?_);at_builtin;refine Kd.S_append (Kd.slice 3 (Kd.int .i64)) (w0:=w) w.heap.size rfl (.tmp 38) (.tmp 40) 26 23 (.slice none 0 0) 24 rfl Try.underlying26 info23 rfl (by decide) (by omega) u3 ah ae [.slice a9 ae.length ba] (fun _=>True) (fun k_=>some k_=(.slice a9 ae.length ba:Value).ownBlock) rfl rfl ?aP (fun k_ hk_=>((rM (ok':=fun k_=>((fun _=>True)) k_∧nO k_ u3) (Kd.R_apart' (al.out) (Kd.S_typed ag.out) (by decide)) (fun k_ hk=>⟨trivial,hk.2⟩))).1 k_ hk_.symm) ?aF ?aO ?aB ?aS ?aL ?_;(case aP=>exact Kd.M_row (rM (Kd.R_tight rfl (rM (ok':=fun k_=>((fun _=>True)) k_∧nO k_ u3) (Kd.R_apart' (al.out) (Kd.S_typed ag.out) (by decide)) (fun k_ hk=>⟨trivial,hk.2⟩))) (fun _ h_=>h_)));(case aB=>exact(zB_ HB));(case aF=>exact(fun _ _=>trivial));(case aO=>exact(zmS ag (fun k_ hk=>⟨trivial,fun e_=>hk e_⟩)));(case aS=>exact(bZ (zB_ HB)));(case aL=>have:=bk.out;omega);intro bX w19 ho hb hg hat;rw [← bl.out] at ho;replace ab:=A0_ (Kd.R_over' (zR_ ab) (Kd.S_typed (zS_ ag)) (by decide) hg);replace HB:=A0_ (hb);have bm:=A0_ (ho);clear ag al ho hb hg hat))
        go_roundg k2
        case measure=>have:=ar.out;have:=au.out;omega
        case rel=>exact⟨(a8),(af),(wrap64 (ac+1)),zt,H',⟨by have:=ar.out;have:=au.out;omega⟩,⟨zS_ bm⟩,⟨zR_ ab⟩,⟨zB_ HB⟩⟩
       rw [if_neg av] at H
       have bi:decide (0<(ae.length:Int))=false:=dF av
       have bj:decide (0<ae.length)=false:=dF (by omega)
       clear av;have H':=A0_ H;clear H;obtain⟨bY,b2,bF⟩:=rS ab.out;subst bF
       have aj:0≤(aa:Int):=zd
       have ak:aa<(af.length:Int):=zd
       obtain⟨aV,ap,ai⟩:=Kd.at_bool (rR ab.out).2.2 aa aj ak
       (try rw [← Nbq13.out] at ai)
       cases ap
       replace aj:=eq_true aj;replace ak:=eq_true ak;obtain⟨b3,b4,bG⟩:=rS al.out;subst bG
       go_wp2
       go_roundg k2
       case measure=>have:=ar.out;have:=au.out;omega
       case rel=>exact⟨(ah),(af),(wrap64 (ac+1)),zt,H',⟨by have:=ar.out;have:=au.out;omega⟩,⟨zmS ag (fun _ hk=>trivial)⟩,⟨zR_ ab⟩,⟨zB_ HB⟩⟩
      replace aU:=Bool.eq_false_iff.mpr aU;subst aU
      rw [if_neg (show ¬ (false=true) by decide)] at H
      obtain⟨aC,aD⟩ : ∃ y_:List Bool,y_=(af.set (aa:Int).toNat true):=⟨_,rfl⟩
      replace H:(if ae.length<17592186044416 then (if aa<(l0.length:Int) then (if_.l1 k2 l0 ah aC (ae ++ [aa]) (rd l0 aa) (l0.length:Int) ac) else (none)) else (none))=some r:=zH aD H
      have bn:=A0_ aD;clear aD
      have bz:=zpc H;replace H:=zph H
      have bo:=A0_ bz;clear bz
      obtain⟨bb,aE⟩ : ∃ y_:List Int,y_=(ae ++ [aa]):=⟨_,rfl⟩
      replace H:(if aa<(l0.length:Int) then (if_.l1 k2 l0 ah aC bb (rd l0 aa) (l0.length:Int) ac) else (none))=some r:=zH aE H
      have bp:=A0_ aE;clear aE
      have bB:=zpc H;replace H:=zph H
      have bP:=dT bB;clear bB;have H':=A0_ H;clear H;obtain⟨b5,aJ,bH⟩:=rS ab.out;subst bH
      have aj:0≤(aa:Int):=zd
      have ak:aa<(af.length:Int):=zd
      obtain⟨aV,ap,ai⟩:=Kd.at_bool (rR ab.out).2.2 aa aj ak
      (try rw [← Nbq13.out] at ai)
      cases ap
      replace aj:=eq_true aj;replace ak:=eq_true ak
      have bc:0≤(aa:Int):=zd
      have bd:(aa:Int)<((af.length:Int):Int):=zd
      obtain⟨aq,b6,be,bf,gl22,cl22,HG22⟩:=Kd.R_form ab.out (by omega)
      (first|cases be|(injection be with ea_ en_ ec_;(first|subst ea_|(injection ea_ with ea_;subst ea_));subst ec_;clear en_))
      have GB22:=A0_ bf;have GG22:=A0_ HG22;clear bf gl22 HG22
      (first|simp only [add_plain] at ai|skip)
      obtain⟨bK,bL⟩:=Kd.R_celln false ab.out (aa:Int) bc bd
      replace bc:=eq_true bc;replace bd:=eq_true bd
      have HP26:=Kd.R_putg ab.out (aa:Int) true
      go_wp2_with (first|((with_reducible refine gS (t:=4) (p:=30) rfl ?_);refine store_event (t:=4) (p:=30) (v := ?vo_w27) (w1:=(wr.setCell ⟨aq,(aa:Int).toNat,none⟩ (.bool true))) ?hg ?ho ?hn ?hr ?_;(case ho=>rfl);(case hg=>rfl);(case hn=>rfl);(case hr=>first|(go_simp;done)|(go_simp;rfl));intro w27 hw;have hg:wr.grownBy w27 (some aq):=(by rw [hw];exact HP26.2);have hp_:Kd.R Kd.bool 4 w27 w.heap.size (fun _=>True) (.slice (some ⟨aq,0,none⟩) af.length aJ) aC:=(by rw [hw,bn.out];exact HP26.1);clear HP26;replace ag:=A0_ (Kd.S_over' (v:=(.slice (some ⟨aq,0,none⟩) af.length aJ)) (zS_ ag) (Kd.R_typed ab.out) (by decide) hg);replace al:=A0_ (Kd.R_over' (v:=(.slice (some ⟨aq,0,none⟩) af.length aJ)) (zR_ al) (Kd.R_typed ab.out) (by decide) hg);replace ab:=A0_ (hp_);replace HB:=A0_ ((by rw [hw];exact bS (HB.out) GB22.out:Below w.heap.size w w27));clear hg hw hp_)|((with_reducible refine gB (b := .append) (xs := #[.tmp 31,.tmp 33]) rfl ?_);at_builtin;refine Kd.R_append (Kd.int .i64) (w0:=w) w.heap.size rfl (.tmp 31) (.tmp 33) 23 3 (.int .i64 0) 8 rfl Try.underlying23 info3 rfl (by decide) (by omega) u6 ae aa [.int .i64 aa] (fun _=>True) (fun _=>False) rfl rfl ?aP (fun _ hk=>hk.elim) ?aF ?aO ?aB ?aS ?aL ?_;(case aP=>exact rfl);(case aB=>exact(zB_ HB));(case aF=>exact(fun _ _=>trivial));(case aO=>exact(zR_ al));(case aS=>exact(bZ (zB_ HB)));(case aL=>have:=bo.out;omega);intro b7 w28 ho hb hg hat;rw [← bp.out] at ho;replace ag:=A0_ (Kd.S_after (ok:=(fun _=>True)) (zmS ag (fun _ hk=>⟨trivial,hk⟩)) hg hat);replace ab:=A0_ (Kd.R_over' (zR_ ab) (Kd.R_typed (zR_ al)) (by decide) hg);replace HB:=A0_ (hb);have bq:=A0_ (ho);clear al ho hb hg hat;have aK:0≤(aa:Int):=zd;have aM:aa<(l0.length:Int):=zd;obtain⟨bQ,bI,an⟩:=tI bJ.out aa aK aM;cases bI;try replace an:=(HB.out.cell (wL w _ an)).trans an;replace aK:=eq_true aK;replace aM:=eq_true aM))
      go_roundg k2
      case measure=>have:=ar.out;have:=au.out;omega
      case rel=>exact⟨(aC),(bb),(rd l0 aa),zt,H',⟨by have:=ar.out;have:=au.out;omega⟩,⟨zmS ag (fun _ hk=>hk.2)⟩,⟨zR_ ab⟩,⟨zR_ bq⟩,⟨zB_ HB⟩⟩
   rw [if_neg c8] at H;have a6:=dF c8;clear c8;obtain rfl:=sI H
   go_wp2
   go_ret
   exact⟨_,by first|rfl|(simp [*] <;> rfl),zS_ ag,zB_ HB⟩
def ij_.l0:Nat→List Int→List Int→List Int→Int→Int→Option (List Int)
  | 0,_,_,_,_,_=>none
  | k+1,x1,x5,ab,ac,aa=>if aa<ac then (if 0≤aa then (if aa<(ab.length:Int) then (if 0≤(rd ab aa) then (if (rd ab aa)<(x1.length:Int) then (if aa<(x5.length:Int) then (ij_.l0 k x1 (x5.set (aa:Int).toNat (rd x1 (rd ab aa))) ab ac (wrap64 (aa+1))) else (none)) else (none)) else (none)) else (none)) else (none)) else (some x5)
def ij_.f (k:Nat) (l0:List Int) (l1:List Int):Option (List Int):=if 0≤(l0.length:Int) then (if ((l0.length:Int):Int).toNat≤35184372088832 then (ij_.l0 k l1 (List.replicate ((l0.length:Int):Int).toNat 0) l0 (l0.length:Int) 0) else (none)) else (none)
theorem ij_.calls (k:Nat) (A0:Option Addr) (c0:Nat) (l0:List Int) (A1:Option Addr) (c1:Nat) (l1:List Int) (r:List Int) (w:World) (az:Kd.C (Kd.int .i64) w A0 l0.length l0) (aA:l0.length≤c0) (aC:Kd.C (Kd.int .i64) w A1 l1.length l1) (aD:l1.length≤c1) (h:ij_.f k l0 l1=some r) :
    Calls Try.prog 69 #[.slice A0 l0.length c0,.slice A1 l1.length c1] w fun e w' => ∃ v0_:Value,e = .returned (v0_)∧Kd.R (Kd.int .i64) 3 w' w.heap.size (fun _=>True) v0_ r∧Below w.heap.size w w':=by
 have aX:=A0_ az;have bc:=A0_ aA;clear az aA;have aY:=A0_ aC;have bd:=A0_ aD;clear aC aD
 have HB:=A0_ (Below.refl w.heap.size w)
 have H:(if 0≤(l0.length:Int) then (if ((l0.length:Int):Int).toNat≤35184372088832 then (ij_.l0 k l1 (List.replicate ((l0.length:Int):Int).toNat 0) l0 (l0.length:Int) 0) else (none)) else (none))=some r:=h
 clear h
 have c3:=zpc H;replace H:=zph H
 have aJ:=eq_true c3;have aK:=dT c3;clear c3
 have c4:=zpc H;replace H:=zph H
 have aM:=eq_true c4;have aN:=dT c4;clear c4
 obtain⟨aq,ag⟩ : ∃ y_:List Int,y_=(List.replicate ((l0.length:Int):Int).toNat 0):=⟨_,rfl⟩
 replace H:(ij_.l0 k l1 aq l0 (l0.length:Int) 0)=some r:=zH ag H
 have ap:=A0_ ag;clear ag;have H':=A0_ H;clear H
 go_enter Try.func69,Try.ntmps69
 go_wp2_with (first|((with_reducible refine gD (N:=10) rfl ?_);refine Kd.R_make (Kd.int .i64) _ 3 rfl (N:=10) rfl 23 _ _ rfl (l0.length:Int) rfl rfl Try.underlying23 (.int .i64 0) 8 info3 rfl (by decide) (by omega) 0 (ok:=fun _=>True) (okp:=fun _=>True) rfl (fun _ hk=>hk) trivial (zd) (Nat.le_trans (Nat.mul_le_mul_right _ (zd:(l0.length:Int).toNat≤35184372088832)) (by omega)) (Below.refl _ _) (Nat.le_refl _) ?_;intro aQ w5 ai hb hg_ hnew_;clear hg_ hnew_;(first|rw [← ap.out] at ai|(simp only [Int.reduceToNat] at ai;rw [← ap.out] at ai));have ax:=A0_ (rL ai (bZ (zB_ HB)));replace HB:=zB HB hb;clear hb ai))
 go_loopg [13] k (fun kq v13 w' => ∃ (ab:List Int) (aa:Int),v13 = .int .i64 aa∧Aside0 (ij_.l0 kq l1 ab l0 (l0.length:Int) aa=some r)∧Aside0 (kq≤k)∧Aside0 (Kd.R (Kd.int .i64) 3 w' w.heap.size (fun _=>True) aQ ab)∧Aside0 (Below w.heap.size w w'))
 case atStart=>exact⟨(aq),(0),zt,H',⟨Nat.le_refl _⟩,⟨zR_ ax⟩,⟨zB_ HB⟩⟩
 case round =>
  clear H';(try clear c1);(try clear c3);(try clear aJ);(try clear aK);(try clear c4);(try clear aM);(try clear aN);obtain⟨ab,aa,rfl,HA,aE,ac,HB⟩:=hrel
  cases gk with
  | zero=>exact absurd HA.out (by simp [ij_.l0])
  | succ k1 =>
   have H:=HA.out;clear HA;simp only [ij_.l0] at H
   by_cases c7:aa<(l0.length:Int)
   ·rw [if_pos c7] at H
    have aT:=dT c7;clear c7
    have c8:=zpc H;replace H:=zph H
    have ba:=dT c8;clear c8
    have c9:=zpc H;replace H:=zph H
    have bb:=dT c9;clear c9
    have aG:=zpc H;replace H:=zph H
    have a5:=dT aG;clear aG
    have aH:=zpc H;replace H:=zph H
    have a6:=dT aH;clear aH
    have aI:=zpc H;replace H:=zph H
    have a7:=dT aI;clear aI
    obtain⟨aj,ah⟩ : ∃ y_:List Int,y_=(ab.set (aa:Int).toNat (rd l1 (rd l0 aa))):=⟨_,rfl⟩
    replace H:(ij_.l0 k1 l1 aj l0 (l0.length:Int) (wrap64 (aa+1)))=some r:=zH ah H
    have ay:=A0_ ah;clear ah;have H':=A0_ H;clear H
    have ak:0≤(aa:Int):=zd
    have al:aa<(l0.length:Int):=zd
    obtain⟨a8,aU,ae⟩:=tI aX.out aa ak al
    cases aU
    try replace ae:=(HB.out.cell (wL w _ ae)).trans ae
    replace ak:=eq_true ak;replace al:=eq_true al
    have am:0≤((rd l0 aa):Int):=zd
    have an:(rd l0 aa)<(l1.length:Int):=zd
    obtain⟨a9,aV,af⟩:=tI aY.out (rd l0 aa) am an
    cases aV
    try replace af:=(HB.out.cell (wL w _ af)).trans af
    replace am:=eq_true am;replace an:=eq_true an
    have ar:0≤(aa:Int):=zd
    have au:(aa:Int)<((ab.length:Int):Int):=zd
    obtain⟨ao,aW,av,aw,gl13,cl13,HG13⟩:=Kd.R_form ac.out (by omega)
    (first|cases av|(injection av with ea_ en_ ec_;(first|subst ea_|(injection ea_ with ea_;subst ea_));subst ec_;clear en_))
    have GB13:=A0_ aw;have GG13:=A0_ HG13;clear aw gl13 HG13
    obtain⟨aZ,a4⟩:=Kd.R_celln 0 ac.out (aa:Int) ar au
    replace ar:=eq_true ar;replace au:=eq_true au
    have HP14:=Kd.R_putg ac.out (aa:Int) (rd l1 (rd l0 aa))
    go_wp2_with (first|((with_reducible refine gS (t:=3) (p:=24) rfl ?_);refine store_event (t:=3) (p:=24) (v := ?vo_w15) (w1:=(wr.setCell ⟨ao,(aa:Int).toNat,none⟩ (.int .i64 (rd l1 (rd l0 aa))))) ?hg ?ho ?hn ?hr ?_;(case ho=>rfl);(case hg=>rfl);(case hn=>rfl);(case hr=>first|(go_simp;done)|(go_simp;rfl));intro w15 hw;have hg:wr.grownBy w15 (some ao):=(by rw [hw];exact HP14.2);have hp_:Kd.R (Kd.int .i64) 3 w15 w.heap.size (fun _=>True) (.slice (some ⟨ao,0,none⟩) ab.length aW) aj:=(by rw [hw,ay.out];exact HP14.1);clear HP14;replace ac:=A0_ (hp_);replace HB:=A0_ ((by rw [hw];exact bS (HB.out) GB13.out:Below w.heap.size w w15));clear hg hw hp_))
    go_roundg k1
    case measure=>have:=aE.out;omega
    case rel=>exact⟨(aj),(wrap64 (aa+1)),zt,H',⟨by have:=aE.out;omega⟩,⟨zR_ ac⟩,⟨zB_ HB⟩⟩
   rw [if_neg c7] at H;have aT:=dF c7;clear c7;obtain rfl:=sI H
   go_wp2
   go_ret
   exact⟨_,by first|rfl|(simp [*] <;> rfl),zR_ ac,zB_ HB⟩
def ip_.l0:Nat→List (List Int)→List Int→List Int→Int→Int→List Int→List Int→Option (List Int)
  | 0,_,_,_,_,_,_,_=>none
  | k+1,x2,x9,ae,af,ac,aa,ab=>if ac<af then (if 0≤ac then (if ac<(ae.length:Int) then ((ia_.f k aa ab x2 (rd ae ac)).bind fun ag=>((ij_.f k x9 ag).bind fun ah=>(ip_.l0 k x2 ah ae af (wrap64 (ac+1)) aa ab))) else (none)) else (none)) else (some x9)
def ip_.f (k:Nat) (aa:List Int) (ab:List Int) (a1:Int) (l2:List (List Int)) (l3:List Int):Option (List Int):=(in_.f k a1).bind fun ac=>(ip_.l0 k l2 ac l3 (l3.length:Int) 0 aa ab)
theorem ip_.calls (k:Nat) (ai:Option Addr) (aj:Nat) (ac:List Int) (ak:Option Addr) (al:Nat) (ae:List Int) (a1:Int) (A2:Option Addr) (c2:Nat) (l2:List (List Int)) (A3:Option Addr) (c3:Nat) (l3:List Int) (r:List Int) (w:World) (az:Kd.C (Kd.int .i64) w ai ac.length ac) (aA:ac.length≤aj) (aC:Kd.C (Kd.int .i64) w ak ae.length ae) (aD:ae.length≤al) (aT:Kd.C (Kd.slice 3 (Kd.int .i64)) w A2 l2.length l2) (aU:l2.length≤c2) (aV:Kd.C (Kd.int .i64) w A3 l3.length l3) (aW:l3.length≤c3) (h:ip_.f k ac ae a1 l2 l3=some r) :
    Calls Try.prog 70 #[.agg #[.slice ai ac.length aj,.slice ak ae.length al],.int .i64 a1,.slice A2 l2.length c2,.slice A3 l3.length c3] w fun e w' => ∃ v0_:Value,e = .returned (v0_)∧Kd.R (Kd.int .i64) 3 w' w.heap.size (fun _=>True) v0_ r∧Below w.heap.size w w':=by
 have bn:=Try.underlying25;have aG:=A0_ az;have aH:=A0_ aA;clear az aA;have aI:=A0_ aC;have aJ:=A0_ aD;clear aC aD;have bf:=A0_ aT;have bg:=A0_ aU;clear aT aU;have bh:=A0_ aV;have bu:=A0_ aW;clear aV aW
 have HB:=A0_ (Below.refl w.heap.size w)
 have H:((in_.f k a1).bind fun ao=>(ip_.l0 k l2 ao l3 (l3.length:Int) 0 ac ae))=some r:=h
 clear h;obtain⟨ao,A5,H⟩:=zbind H;have H':=A0_ H;clear H
 go_enter Try.func70,Try.ntmps70
 go_wp2_with (first|((with_reducible refine gD (N:=4) rfl ?_);refine zX (N:=4) (cs := #[.slice ai ac.length aj,.slice ak ae.length al]) (t:=25) ?_;intro ap hg w6 hbox hb;have aa:=A0_ (hbox);have aK:=zG hg HB;have bk:=zG hg HB;replace HB:=zB HB hb;clear hb hbox hg)|((with_reducible refine gC (f:=65) rfl ?_);refine zJ (some 13) Try.func65 #[.int .i64 a1] ?_;(with_reducible refine(in_.calls k a1 ao _ A5.out).mono ?_);rintro e w7 ⟨bo,rfl,ag,hb⟩;refine⟨_,rfl,?_⟩;have aM:=A0_ (rL ag (bZ (zB_ HB)));replace aa:=zK aa hb;replace HB:=zB HB hb;(try clear hb);(try clear ag)))
 go_loopg [9,16] k (fun kq v9 v16 w' => ∃ (an:List Int) (ab:Int),v16 = .int .i64 ab∧Aside0 (ip_.l0 kq l2 an l3 (l3.length:Int) ab ac ae=some r)∧Aside0 (kq≤k)∧Aside0 (Kd.R (Kd.int .i64) 3 w' w.heap.size (fun _=>True) v9 an)∧Aside0 (w'.heap[ap]? = some (.cells #[(.slice ai ac.length aj),(.slice ak ae.length al)] 25 (0,0)))∧Aside0 (Below w.heap.size w w'))
 case atStart=>exact⟨(ao),(0),zt,H',⟨Nat.le_refl _⟩,⟨zR_ aM⟩,⟨zK_ aa⟩,⟨zB_ HB⟩⟩
 case round =>
  clear H';(try clear c2);(try clear c3);obtain⟨an,ab,rfl,HA,aX,af,aa,HB⟩:=hrel
  cases gk with
  | zero=>exact absurd HA.out (by simp [ip_.l0])
  | succ k1 =>
   have H:=HA.out;clear HA;simp only [ip_.l0] at H
   by_cases c8:ab<(l3.length:Int)
   ·rw [if_pos c8] at H
    have aZ:=dT c8;clear c8
    have c9:=zpc H;replace H:=zph H
    have bp:=dT c9;clear c9
    have aY:=zpc H;replace H:=zph H
    have bl:=dT aY;clear aY;obtain⟨aw,bi,H⟩:=zbind H;obtain⟨aE,bj,H⟩:=zbind H;have H':=A0_ H;clear H
    have ax:0≤(ab:Int):=zd
    have ay:ab<(l3.length:Int):=zd
    obtain⟨bm,a4,am⟩:=tI bh.out ab ax ay
    cases a4
    try replace am:=(HB.out.cell (wL w _ am)).trans am
    replace ax:=eq_true ax;replace ay:=eq_true ay;have bb:=zc0 aa;have bc:=zc1 aa;have bd:=kF aa.out 0;have be:=kF aa.out 1
    go_wp2_with (first|((with_reducible refine gC (f:=62) rfl ?_);refine zJ (some 24) Try.func62 #[.agg #[.slice ai ac.length aj,.slice ak ae.length al],.slice A2 l2.length c2,.int .i64 (rd l3 ab)] ?_;(with_reducible refine(ia_.calls k1 _ _ ac _ _ ae (fun k_=>k_<w.heap.size) _ _ l2 (rd l3 ab) aw _ ?aq ?ar ?au ?av ?aN bi.out).mono ?_);(case aq=>exact zC aG HB);(case ar=>exact aH.out);(case au=>exact zC aI HB);(case av=>exact aJ.out);(case aN=>exact Kd.V_mk bg.out (Kd.F_below (Kd.C_F (Kd.heap_slice 3 (Kd.heap_int .i64)) bf.out) (zB_ HB)));rintro e w14 ⟨bq,rfl,ag,hb⟩;refine⟨_,rfl,?_⟩;have ah:=A0_ (Kd.V_lower (Kd.V_mono (ok':=fun k_=>nO k_ u9∧k_≠ap) ag (fun k_ hk_=>⟨Or.elim hk_ (fun hs_=>fun e_=>Nat.not_le.2 hs_ (Kd.R_base af.out k_ e_.symm)) (fun hn_=>(Kd.fresh' (rX (zR_ af)) k_ hn_)),Or.elim hk_ (fun hs_=>fun e_=>Nat.not_le.2 hs_ (by rw [e_];exact aK.out)) (fun hn_=>(Kd.freshB (g:=ap) (o := .cells #[.slice ai ac.length aj,.slice ak ae.length al] 25 (0,0)) (zK_ aa) k_ hn_))⟩)) (bZ (zB_ HB)));replace af:=zR af hb;replace aa:=zK aa hb;replace HB:=zB HB hb;(try clear hb);(try clear ag);obtain⟨a5,a6,a7⟩:=rS af.out;subst a7;obtain⟨a8,a9,ba⟩:=Kd.V_slice ah.out;subst ba)|((with_reducible refine gC (f:=69) rfl ?_);refine zJ (some 25) Try.func69 #[.slice a5 an.length a6,.slice a8 aw.length a9] ?_;(with_reducible refine(ij_.calls k1 _ _ an _ _ aw aE _ ?aq ?ar ?au ?av bj.out).mono ?_);(case aq=>exact zD af);(case ar=>exact(rR af.out).2.1);(case au=>repeat(first|exact(Kd.V_reads' ah.out).2.2|(with_reducible refine cA ?_ _)|(with_reducible refine cN ?_ _)|(with_reducible refine cD ?_)));(case av=>exact(Kd.V_reads' ah.out).2.1);rintro e w17 ⟨br,rfl,ag,hb⟩;refine⟨_,rfl,?_⟩;replace ah:=A0_ (Kd.V_elder' (by(with_reducible repeat(first|apply Kd.V_alloc|apply Kd.V_drewN|apply Kd.V_drew));exact ah.out) (Kd.R_base ag) hb);have aQ:=A0_ (rL (Kd.R_new' ag (rX (zR_ af))) (bZ (zB_ HB)));replace af:=A0_ (Kd.R_elder' (zR_ af) (Kd.R_base ag) hb);replace aa:=zK aa hb;replace HB:=zB HB hb;(try clear hb);(try clear ag)))
    go_roundg k1
    case measure=>have:=aX.out;omega
    case rel=>exact⟨(aE),(wrap64 (ab+1)),zt,H',⟨by have:=aX.out;omega⟩,⟨zmR aQ (fun _ hk=>trivial)⟩,⟨zK_ aa⟩,⟨zB_ HB⟩⟩
   rw [if_neg c8] at H;have aZ:=dF c8;clear c8;obtain rfl:=sI H
   go_wp2
   go_ret
   exact⟨_,by first|rfl|(simp [*] <;> rfl),zR_ af,zB_ HB⟩
def i2_.l0:Nat→Int→List (List Int)→Int→List (List Int)→Int→Int→List Int→List Int→Option (Int)
  | 0,_,_,_,_,_,_,_,_=>none
  | k+1,x1,x2,x7,ae,af,ac,aa,ab=>if ac<af then (if 0≤ac then (if ac<(ae.length:Int) then ((ip_.f k aa ab x1 x2 (rd_L1 ae ac)).bind fun ag=>((if_.f k ag).bind fun ah=>(i2_.l0 k x1 x2 (wrap64 (x7+(wrap64 (x1 - (ah.length:Int))))) ae af (wrap64 (ac+1)) aa ab))) else (none)) else (none)) else (some x7)
def i2_.f (k:Nat) (aa:List Int) (ab:List Int) (a1:Int) (l2:List (List Int)):Option (Int):=(i9_.f k aa ab a1 l2).bind fun ae=>(if ae=true then ((ij_.f k ab aa).bind fun af=>((if_.f k af).bind fun ac=>(i2_.l0 k a1 l2 0 ac (ac.length:Int) 0 aa ab))) else (some (-1)))
theorem i2_.calls (k:Nat) (al:Option Addr) (am:Nat) (ab:List Int) (an:Option Addr) (ao:Nat) (ac:List Int) (a1:Int) (A2:Option Addr) (c2:Nat) (l2:List (List Int)) (r:Int) (w:World) (aT:Kd.C (Kd.int .i64) w al ab.length ab) (aU:ab.length≤am) (aV:Kd.C (Kd.int .i64) w an ac.length ac) (aW:ac.length≤ao) (bo:Kd.C (Kd.slice 3 (Kd.int .i64)) w A2 l2.length l2) (bp:l2.length≤c2) (h:i2_.f k ab ac a1 l2=some r) :
    Calls Try.prog 22 #[.agg #[.slice al ab.length am,.slice an ac.length ao],.int .i64 a1,.slice A2 l2.length c2] w fun e w'=>e = .returned (.int .i64 r)∧Below w.heap.size w w':=by
 have b2:=Try.underlying25;have ay:=A0_ aT;have az:=A0_ aU;clear aT aU;have aA:=A0_ aV;have aC:=A0_ aW;clear aV aW;have a9:=A0_ bo;have ba:=A0_ bp;clear bo bp
 have HB:=A0_ (Below.refl w.heap.size w)
 have H:((i9_.f k ab ac a1 l2).bind fun aN=>(if aN=true then ((ij_.f k ac ab).bind fun aD=>((if_.f k aD).bind fun ai=>(i2_.l0 k a1 l2 0 ai (ai.length:Int) 0 ab ac))) else (some (-1))))=some r:=h
 clear h;obtain⟨aN,A4,H⟩:=zbind H
 by_cases c5:aN=true
 ·subst c5
  rw [if_pos rfl] at H;obtain⟨aD,A6,H⟩:=zbind H;obtain⟨ai,A7,H⟩:=zbind H;have H':=A0_ H;clear H
  go_enter Try.func22,Try.ntmps22
  go_wp2_with (first|((with_reducible refine gD (N:=3) rfl ?_);refine zX (N:=3) (cs := #[.slice al ab.length am,.slice an ac.length ao]) (t:=25) ?_;intro aX hg w8 hbox hb;have aa:=A0_ (hbox);have bi:=zG hg HB;have bj:=zG hg HB;replace HB:=zB HB hb;clear hb hbox hg;have bb:=zc0 aa;have bc:=zc1 aa;have bd:=kF aa.out 0;have be:=kF aa.out 1)|((with_reducible refine gC (f:=53) rfl ?_);refine zJ (some 13) Try.func53 #[.agg #[.slice al ab.length am,.slice an ac.length ao],.int .i64 a1,.slice A2 l2.length c2] ?_;(with_reducible refine(i9_.calls k _ _ ab _ _ ac a1 _ _ l2 true _ ?ag ?ah ?ap ?aq ?av ?aw A4.out).mono ?_);(case ag=>exact zC ay HB);(case ah=>exact az.out);(case ap=>exact zC aA HB);(case aq=>exact aC.out);(case av=>exact zC a9 HB);(case aw=>exact ba.out);rintro e w10 ⟨rfl,hb⟩;refine⟨_,rfl,?_⟩;replace aa:=zK aa hb;replace HB:=zB HB hb;(try clear hb);have aZ:=zc0 aa;have a4:=zc1 aa;have a5:=kF aa.out 0;have a6:=kF aa.out 1)|((with_reducible refine gC (f:=69) rfl ?_);refine zJ (some 19) Try.func69 #[.slice an ac.length ao,.slice al ab.length am] ?_;(with_reducible refine(ij_.calls k _ _ ac _ _ ab aD _ ?ag ?ah ?ap ?aq A6.out).mono ?_);(case ag=>exact zC aA HB);(case ah=>exact aC.out);(case ap=>exact zC ay HB);(case aq=>exact az.out);rintro e w12 ⟨b3,rfl,ak,hb⟩;refine⟨_,rfl,?_⟩;have ar:=A0_ (rL ak (bZ (zB_ HB)));replace aa:=zK aa hb;replace HB:=zB HB hb;(try clear hb);(try clear ak);obtain⟨bv,bw,bx⟩:=rS ar.out;subst bx)|((with_reducible refine gC (f:=68) rfl ?_);refine zJ (some 20) Try.func68 #[.slice bv aD.length bw] ?_;(with_reducible refine(if_.calls k _ _ aD ai _ ?ag ?ah A7.out).mono ?_);(case ag=>exact zD ar);(case ah=>exact(rR ar.out).2.1);rintro e w14 ⟨b4,rfl,ak,hb⟩;refine⟨_,rfl,?_⟩;have aY:=A0_ (Kd.S_lower (Kd.S_new' ak (rX (zR_ ar))) (bZ (zB_ HB)));replace ar:=zR ar hb;replace aa:=zK aa hb;replace HB:=zB HB hb;(try clear hb);(try clear ak);obtain⟨bz,bB,bC⟩:=Kd.S_slice aY.out;subst bC))
  go_loopg [7,22] k (fun kq v7 v22 w' => ∃ (aI:Int) (ae:Int),v7 = .int .i64 aI∧v22 = .int .i64 ae∧Aside0 (i2_.l0 kq a1 l2 aI ai (ai.length:Int) ae ab ac=some r)∧Aside0 (kq≤k)∧Aside0 (Kd.S (Kd.slice 3 (Kd.int .i64)) 23 w' w.heap.size (fun _=>True) (.slice bz ai.length bB) ai)∧Aside0 (w'.heap[aX]? = some (.cells #[(.slice al ab.length am),(.slice an ac.length ao)] 25 (0,0)))∧Aside0 (Below w.heap.size w w'))
  case atStart=>exact⟨(0),(0),zt,zt,H',⟨Nat.le_refl _⟩,⟨zmS aY (fun _ hk=>trivial)⟩,⟨zK_ aa⟩,⟨zB_ HB⟩⟩
  case round =>
   clear H';(try clear c2);(try clear c5);(try clear aZ);(try clear a4);(try clear bb);(try clear bc);(try clear a5);(try clear a6);(try clear bd);(try clear be);obtain⟨aI,ae,rfl,rfl,HA,bq,aj,aa,HB⟩:=hrel
   cases gk with
   | zero=>exact absurd HA.out (by simp [i2_.l0])
   | succ k1 =>
    have H:=HA.out;clear HA;simp only [i2_.l0] at H
    by_cases aE:ae<(ai.length:Int)
    ·rw [if_pos aE] at H
     have bk:=dT aE;clear aE
     have br:=zpc H;replace H:=zph H
     have bW:=dT br;clear br
     have bu:=zpc H;replace H:=zph H
     have bX:=dT bu;clear bu;obtain⟨aQ,bU,H⟩:=zbind H;obtain⟨bf,bV,H⟩:=zbind H;have H':=A0_ H;clear H
     have aJ:0≤(ae:Int):=zd
     have aK:ae<(ai.length:Int):=zd
     obtain⟨bY,bg,bh,bE,a7,aG,aH⟩:=at_L1 (Kd.S_reads' aj.out).2.2 ae aJ aK
     cases bE
     obtain⟨ce240,hce240,hMe240,aM⟩:=Kd.S_get aj.out [] ae aJ (by first|exact aK|exact zd|(have e_:=(Kd.S_reads' aj.out).1;omega))
     obtain⟨ve240_0,rfl,ax⟩:=hMe240;have hv240_0:=aM 0 _ rfl
     rw [Nat.add_zero,show((Kd.slice 3 (Kd.int .i64))).sz=1 from rfl,Nat.mul_one] at hv240_0
     replace hv240_0:=sI (hv240_0.symm.trans a7)
     rw [hv240_0] at ax
     have HL240_0:=A0_ (show Kd.R (Kd.int .i64) 3 _ _ _ _ (rd_L1 ai ae) from ax)
     clear hv240_0 ax aM hce240;have af:=A0_ aH;have a8:=A0_ aG;clear aH aG;replace aJ:=eq_true aJ;replace aK:=eq_true aK;have bJ:=zc0 aa;have bK:=zc1 aa;have bL:=kF aa.out 0;have bM:=kF aa.out 1
     go_wp2_with (first|((with_reducible refine gC (f:=70) rfl ?_);refine zJ (some 32) Try.func70 #[.agg #[.slice al ab.length am,.slice an ac.length ao],.int .i64 a1,.slice A2 l2.length c2,.slice bg (rd_L1 ai ae).length bh] ?_;(with_reducible refine(ip_.calls k1 _ _ ab _ _ ac a1 _ _ l2 _ _ (rd_L1 ai ae) aQ _ ?ag ?ah ?ap ?aq ?av ?aw ?bl ?bm bU.out).mono ?_);(case ag=>exact zC ay HB);(case ah=>exact az.out);(case ap=>exact zC aA HB);(case aq=>exact aC.out);(case av=>exact zC a9 HB);(case aw=>exact ba.out);(case bl=>repeat(first|exact(by repeat(first|(with_reducible exact af.out)|(with_reducible refine cA ?_ _)|(with_reducible refine cN ?_ _)|(with_reducible refine cD ?_)|exact af.out))|(with_reducible refine cA ?_ _)|(with_reducible refine cN ?_ _)|(with_reducible refine cD ?_)));(case bm=>exact a8.out);rintro e w22 ⟨b5,rfl,ak,hb⟩;refine⟨_,rfl,?_⟩;replace aj:=A0_ (Kd.S_elder' (zS_ aj) (Kd.R_base ak) hb);have au:=A0_ (rL (Kd.R_new' ak (rX (zR_ HL240_0))) (bZ (zB_ HB)));replace HL240_0:=A0_ (Kd.R_elder' (zR_ HL240_0) (Kd.R_base ak) hb);replace aa:=zK aa hb;replace af:=A0_ (cB (by repeat(first|(with_reducible exact af.out)|(with_reducible refine cA ?_ _)|(with_reducible refine cN ?_ _)|(with_reducible refine cD ?_)|exact af.out)) hb);replace HB:=zB HB hb;(try clear hb);(try clear ak);obtain⟨bF,bG,bH⟩:=rS au.out;subst bH)|((with_reducible refine gC (f:=68) rfl ?_);refine zJ (some 33) Try.func68 #[.slice bF aQ.length bG] ?_;(with_reducible refine(if_.calls k1 _ _ aQ bf _ ?ag ?ah bV.out).mono ?_);(case ag=>exact zD au);(case ah=>exact(rR au.out).2.1);rintro e w24 ⟨b6,rfl,ak,hb⟩;refine⟨_,rfl,?_⟩;have bn:=A0_ (Kd.S_lower (Kd.S_new' (Kd.S_new' (Kd.S_new' ak (Kd.S_lt (zS_ aj))) (rX (zR_ HL240_0))) (rX (zR_ au))) (bZ (zB_ HB)));replace aj:=A0_ (Kd.S_elder' (zS_ aj) (Kd.S_base ak) hb);replace HL240_0:=zR HL240_0 hb;replace au:=zR au hb;replace aa:=zK aa hb;replace af:=A0_ (cB (by repeat(first|(with_reducible exact af.out)|(with_reducible refine cA ?_ _)|(with_reducible refine cN ?_ _)|(with_reducible refine cD ?_)|exact af.out)) hb);replace HB:=zB HB hb;(try clear hb);(try clear ak);obtain⟨b7,b8,bI⟩:=Kd.S_slice bn.out;subst bI))
     go_roundg k1
     case measure=>have:=bq.out;omega
     case rel=>exact⟨(wrap64 (aI+(wrap64 (a1 - (bf.length:Int))))),(wrap64 (ae+1)),zt,zt,H',⟨by have:=bq.out;omega⟩,⟨zmS aj (fun _ hk=>trivial)⟩,⟨zK_ aa⟩,⟨zB_ HB⟩⟩
    rw [if_neg aE] at H;have bk:=dF aE;clear aE;obtain rfl:=sI H
    go_wp2
    go_ret
    exact⟨by first|rfl|(simp [*] <;> rfl),zB_ HB⟩
 replace c5:=Bool.eq_false_iff.mpr c5;subst c5
 rw [if_neg (show ¬ (false=true) by decide)] at H
 obtain rfl:=sI H
 go_enter Try.func22,Try.ntmps22
 go_wp2_with (first|((with_reducible refine gD (N:=3) rfl ?_);refine zX (N:=3) (cs := #[.slice al ab.length am,.slice an ac.length ao]) (t:=25) ?_;intro aX hg w26 hbox hb;have aa:=A0_ (hbox);have bi:=zG hg HB;have bj:=zG hg HB;replace HB:=zB HB hb;clear hb hbox hg;have bO:=zc0 aa;have bP:=zc1 aa;have bQ:=kF aa.out 0;have bR:=kF aa.out 1)|((with_reducible refine gC (f:=53) rfl ?_);refine zJ (some 13) Try.func53 #[.agg #[.slice al ab.length am,.slice an ac.length ao],.int .i64 a1,.slice A2 l2.length c2] ?_;(with_reducible refine(i9_.calls k _ _ ab _ _ ac a1 _ _ l2 false _ ?ag ?ah ?ap ?aq ?av ?aw A4.out).mono ?_);(case ag=>exact zC ay HB);(case ah=>exact az.out);(case ap=>exact zC aA HB);(case aq=>exact aC.out);(case av=>exact zC a9 HB);(case aw=>exact ba.out);rintro e w28 ⟨rfl,hb⟩;refine⟨_,rfl,?_⟩;replace aa:=zK aa hb;replace HB:=zB HB hb;(try clear hb)))
 go_ret
 exact⟨by first|rfl|(simp [*] <;> rfl),zB_ HB⟩
end Go.Proofs.Ytmegggomhjgehaa.PFnCoverConj
