import Derived.Test.YtmegggomhjgehaaPFnCoverTreex7
namespace Go.Proofs.Ytmegggomhjgehaa.PFnCoverTree
open Go.RowKit Go.Proofs.YtmegggomhjgehaaW.PrintWords Go.Proofs.YtmegggomhjgehaaW.PrintLast Go.Proofs.YtmegggomhjgehaaW.PrintMore
set_option maxHeartbeats 8000000
set_option maxRecDepth 100000
attribute [local go_sem] max2_int min2_int max_two min_two max_three min_three max_four min_four
set_option linter.unusedVariables false
set_option linter.unusedSimpArgs false
def i2_.f (k:Nat) (ab:List Int) (ac:List Int) (a1:Int) (l2:List (List Int)):Option (List Int×List Int×Bool):=(i8_.f k ab ac a1 l2).bind fun ae=>(if ae=true then ((ie_.f k ab ac a1 l2).bind fun aa=>((i6_.f k aa.1 aa.2).bind fun af=>(if af=true then (some (aa.1,aa.2,true)) else (some (([]:List Int),([]:List Int),false))))) else (some (([]:List Int),([]:List Int),false)))
theorem i2_.calls (k:Nat) (au:Option Addr) (av:Nat) (ag:List Int) (aw:Option Addr) (ax:Nat) (ah:List Int) (a1:Int) (A2:Option Addr) (c2:Nat) (l2:List (List Int)) (r1:List Int) (r2:List Int) (r3:Bool) (w:World) (a8:Kd.C (Kd.int .i64) w au ag.length ag) (a9:ag.length≤av) (ba:Kd.C (Kd.int .i64) w aw ah.length ah) (bb:ah.length≤ax) (bi:Kd.C (Kd.slice 3 (Kd.int .i64)) w A2 l2.length l2) (bj:l2.length≤c2) (h:i2_.f k ag ah a1 l2=some (r1,r2,r3)) :
    Calls Try.prog 20 #[.agg #[.slice au ag.length av,.slice aw ah.length ax],.int .i64 a1,.slice A2 l2.length c2] w fun e w' => ∃ v0_ v1_:Value,e = .returned (.tuple #[.agg #[v0_,v1_],.bool r3])∧Kd.R (Kd.int .i64) 3 w' w.heap.size (fun k_=>some k_≠(v1_:Value).ownBlock) v0_ r1∧Kd.R (Kd.int .i64) 3 w' w.heap.size (fun k_=>some k_≠(v0_:Value).ownBlock) v1_ r2∧Below w.heap.size w w':=by
 have cJ:=Try.underlying25;have aU:=A0_ a8;have aV:=A0_ a9;clear a8 a9;have aW:=A0_ ba;have aX:=A0_ bb;clear ba bb;have a3:=A0_ bi;have a4:=A0_ bj;clear bi bj
 have HB:=A0_ (Below.refl w.heap.size w)
 have H:((i8_.f k ag ah a1 l2).bind fun a7=>(if a7=true then ((ie_.f k ag ah a1 l2).bind fun ay=>((i6_.f k ay.1 ay.2).bind fun aZ=>(if aZ=true then (some (ay.1,ay.2,true)) else (some (([]:List Int),([]:List Int),false))))) else (some (([]:List Int),([]:List Int),false))))=some (r1,r2,r3):=h
 clear h;obtain⟨a7,A4,H⟩:=zbind H
 by_cases c5:a7=true
 ·subst c5
  have H1:((ie_.f k ag ah a1 l2).bind fun ay=>((i6_.f k ay.1 ay.2).bind fun aZ=>(if aZ=true then (some (ay.1,ay.2,true)) else (some (([]:List Int),([]:List Int),false)))))=some (r1,r2,r3):=by rw [if_pos rfl] at H;exact H
  clear H;have H:=H1;clear H1;obtain⟨⟨ae,af⟩,A6,H⟩:=zbind H;dsimp only at H;obtain⟨aZ,A7,H⟩:=zbind H
  by_cases c8:aZ=true
  ·subst c8
   have H1:(some (ae,af,true))=some (r1,r2,r3):=by rw [if_pos rfl] at H;exact H
   clear H;have H:=H1;clear H1;simp only [Option.some.injEq,Prod.mk.injEq] at H;obtain⟨rfl,rfl,rfl⟩:=H
   go_enter Try.func20,Try.ntmps20
   go_wp2_with (first|((with_reducible refine gD (N:=3) rfl ?_);refine zX (N:=3) (cs := #[.slice au ag.length av,.slice aw ah.length ax]) (t:=25) ?_;intro aY hg w9 hbox hb;have aa:=A0_ (hbox);have bc:=zG hg HB;have bd:=zG hg HB;replace HB:=zB HB hb;clear hb hbox hg)|((with_reducible refine gD (N:=6) rfl ?_);refine zX (N:=6) (cs := #[.slice none 0 0,.slice none 0 0]) (t:=25) ?_;intro aH hg w10 hbox hb;have ab:=A0_ (hbox);have be:=zG hg HB;have bf:=zG hg HB;replace HB:=zB HB hb;have aq:=zL hg aa;have ar:=zM hg aa;replace aa:=zK aa hb;clear hb hbox hg;have cr:=aq.out;have ct:=ar.out;have bq:=zc0 aa;have br:=zc1 aa;have bu:=kF aa.out 0;have bv:=kF aa.out 1)|((with_reducible refine gC (f:=53) rfl ?_);refine zJ (some 12) Try.func53 #[.agg #[.slice au ag.length av,.slice aw ah.length ax],.int .i64 a1,.slice A2 l2.length c2] ?_;(with_reducible refine(i8_.calls k _ _ ag _ _ ah a1 _ _ l2 true _ ?am ?an ?az ?aA ?aC ?aD A4.out).mono ?_);(case am=>exact zC aU HB);(case an=>exact aV.out);(case az=>exact zC aW HB);(case aA=>exact aX.out);(case aC=>exact zC a3 HB);(case aD=>exact a4.out);rintro e w13 ⟨rfl,hb⟩;refine⟨_,rfl,?_⟩;replace aa:=zK aa hb;replace ab:=zK ab hb;replace HB:=zB HB hb;(try clear hb);have bw:=zc0 aa;have bx:=zc1 aa;have bz:=kF aa.out 0;have bB:=kF aa.out 1)|((with_reducible refine gC (f:=55) rfl ?_);refine zJ (some 18) Try.func55 #[.agg #[.slice au ag.length av,.slice aw ah.length ax],.int .i64 a1,.slice A2 l2.length c2] ?_;(with_reducible refine(ie_.calls k _ _ ag _ _ ah a1 _ _ l2 ae af _ ?am ?an ?az ?aA ?aC ?aD A6.out).mono ?_);(case am=>exact zC aU HB);(case an=>exact aV.out);(case az=>exact zC aW HB);(case aA=>exact aX.out);(case aC=>exact zC a3 HB);(case aD=>exact a4.out);rintro e w15 ⟨bk,bl,rfl,a5,a6,hb⟩;refine⟨_,rfl,?_⟩;have ai:=A0_ (rL a5 (bZ (zB_ HB)));have aj:=A0_ (rL a6 (bZ (zB_ HB)));replace aa:=zK aa hb;replace ab:=zK ab hb;replace HB:=zB HB hb;(try clear hb);(try clear a5);(try clear a6))|((with_reducible refine gD (N:=8) rfl ?_);refine zX (N:=8) (cs := #[.slice none 0 0,.slice none 0 0]) (t:=25) ?_;intro aI hg w16 hbox hb;replace ai:=zR ai hb;replace aj:=zR aj hb;have ac:=A0_ (hbox);have bg:=zG hg HB;have bh:=zG hg HB;replace HB:=zB HB hb;have ak:=zL hg aa;have aM:=zM hg aa;replace aa:=zK aa hb;have al:=zL hg ab;have aN:=zM hg ab;replace ab:=zK ab hb;clear hb hbox hg;obtain⟨ao,ap,bm⟩:=rS ai.out;subst bm;have cu:=aM.out;have cv:=ak.out;have cw:=aN.out;have cx:=al.out;have bC:=zc0 ac;have bE:=zc1 ac;have bF:=kF ac.out 0;have bG:=kF ac.out 1;obtain⟨aE,aG,bn⟩:=rS aj.out;subst bn)|((with_reducible refine gS (t:=25) (p:=8) rfl ?_);refine store_event (t:=25) (p:=8) (v := ?vo_w22) (w1:=((w16.setCell ⟨aI,0,none⟩ (.slice ao ae.length ap)).setCell ⟨aI,1,none⟩ (.slice aE af.length aG))) ?hg ?ho ?hn ?hr ?_;(case ho=>rfl);(case hg=>rfl);(case hn=>rfl);(case hr=>first|(go_simp;done)|(go_simp;rfl));intro w22 hw;replace ai:Aside0 (Kd.R (Kd.int .i64) 3 w22 w.heap.size (fun k_=>some k_≠(.slice aE af.length aG:Value).ownBlock) (.slice ao ae.length ap) ae):=⟨(by rw [hw];exact(zF ai ac (.slice ao ae.length ap) (.slice aE af.length aG) 0 1))⟩;replace aj:Aside0 (Kd.R (Kd.int .i64) 3 w22 w.heap.size (fun k_=>some k_≠(.slice ao ae.length ap:Value).ownBlock) (.slice aE af.length aG) af):=⟨(by rw [hw];exact(zF aj ac (.slice ao ae.length ap) (.slice aE af.length aG) 0 1))⟩;replace aa:Aside0 (w22.heap[aY]? = some (.cells #[.slice au ag.length av,.slice aw ah.length ax] 25 (0,0))):=⟨(by rw [hw];exact(by refine zbf ?_ _ (hp:=by exact ak.out);refine zbf ?_ _ (hp:=by exact ak.out);exact zK_ aa))⟩;replace ab:Aside0 (w22.heap[aH]? = some (.cells #[.slice none 0 0,.slice none 0 0] 25 (0,0))):=⟨(by rw [hw];exact(by refine zbf ?_ _ (hp:=by exact al.out);refine zbf ?_ _ (hp:=by exact al.out);exact zK_ ab))⟩;replace ac:Aside0 (w22.heap[aI]? = some (.cells #[.slice ao ae.length ap,.slice aE af.length aG] 25 (0,0))):=⟨(by rw [hw];exact(by refine zbp (cs := #[.slice ao ae.length ap,.slice none 0 0]) ?_ 1 _ rfl;refine zbp (cs := #[.slice none 0 0,.slice none 0 0]) ?_ 0 _ rfl;exact zK_ ac))⟩;replace HB:Aside0 (Below w.heap.size w w22):=⟨(by rw [hw];exact(zB_ HB))⟩;clear hw;have bH:=zc0 ac;have bI:=zc1 ac;have bJ:=kF ac.out 0;have bK:=kF ac.out 1)|((with_reducible refine gC (f:=54) rfl ?_);refine zJ (some 20) Try.func54 #[.agg #[.slice ao ae.length ap,.slice aE af.length aG]] ?_;(with_reducible refine(i6_.calls k (fun k_=>some k_=(.slice ao ae.length ap:Value).ownBlock) _ _ ae (fun k_=>some k_=(.slice aE af.length aG:Value).ownBlock) _ _ af true _ ?am ?an A7.out).mono ?_);(case am=>exact Kd.R_V (Kd.R_tight rfl (rY (rY (rY (ai.out) aa.out (by decide)) ab.out (by decide)) ac.out (by decide))));(case an=>exact Kd.R_V (Kd.R_tight rfl (rY (rY (rY (aj.out) aa.out (by decide)) ab.out (by decide)) ac.out (by decide))));rintro e w24 ⟨rfl,hb⟩;refine⟨_,rfl,?_⟩;replace ai:=zR ai hb;replace aj:=zR aj hb;replace aa:=zK aa hb;replace ab:=zK ab hb;replace ac:=zK ac hb;replace HB:=zB HB hb;(try clear hb);have bL:=zc0 ac;have bM:=zc1 ac;have bO:=kF ac.out 0;have bP:=kF ac.out 1;have bQ:=zc0 ab;have bR:=zc1 ab;have bU:=kF ab.out 0;have bV:=kF ab.out 1))
   refine bodyPost_ret (results_ct rfl _ _ aH 25 #[.slice ao ae.length ap,.slice aE af.length aG] (0,0) _ rfl (by refine zbp (cs := #[.slice ao ae.length ap,.slice none 0 0]) ?_ 1 _ rfl;refine zbp (cs := #[.slice none 0 0,.slice none 0 0]) ?_ 0 _ rfl;exact zK_ ab) Try.underlying25 rfl (by kernel_rfl)) rfl ?_
   exact⟨_,_,by first|rfl|(simp [*] <;> rfl),zF ai ab (.slice ao ae.length ap) (.slice aE af.length aG) 0 1,zF aj ab (.slice ao ae.length ap) (.slice aE af.length aG) 0 1,zB_ HB⟩
  replace c8:=Bool.eq_false_iff.mpr c8;subst c8
  have H1:(some (([]:List Int),([]:List Int),false))=some (r1,r2,r3):=by rw [if_neg (show ¬ (false=true) by decide)] at H;exact H
  clear H;have H:=H1;clear H1;simp only [Option.some.injEq,Prod.mk.injEq] at H;obtain⟨rfl,rfl,rfl⟩:=H
  go_enter Try.func20,Try.ntmps20
  go_wp2_with (first|((with_reducible refine gD (N:=3) rfl ?_);refine zX (N:=3) (cs := #[.slice au ag.length av,.slice aw ah.length ax]) (t:=25) ?_;intro aY hg w27 hbox hb;have aa:=A0_ (hbox);have bc:=zG hg HB;have bd:=zG hg HB;replace HB:=zB HB hb;clear hb hbox hg)|((with_reducible refine gD (N:=6) rfl ?_);refine zX (N:=6) (cs := #[.slice none 0 0,.slice none 0 0]) (t:=25) ?_;intro aH hg w28 hbox hb;have ab:=A0_ (hbox);have be:=zG hg HB;have bf:=zG hg HB;replace HB:=zB HB hb;have aq:=zL hg aa;have ar:=zM hg aa;replace aa:=zK aa hb;clear hb hbox hg;have cy:=aq.out;have cz:=ar.out;have bW:=zc0 aa;have bX:=zc1 aa;have bY:=kF aa.out 0;have b2:=kF aa.out 1)|((with_reducible refine gC (f:=53) rfl ?_);refine zJ (some 12) Try.func53 #[.agg #[.slice au ag.length av,.slice aw ah.length ax],.int .i64 a1,.slice A2 l2.length c2] ?_;(with_reducible refine(i8_.calls k _ _ ag _ _ ah a1 _ _ l2 true _ ?am ?an ?az ?aA ?aC ?aD A4.out).mono ?_);(case am=>exact zC aU HB);(case an=>exact aV.out);(case az=>exact zC aW HB);(case aA=>exact aX.out);(case aC=>exact zC a3 HB);(case aD=>exact a4.out);rintro e w31 ⟨rfl,hb⟩;refine⟨_,rfl,?_⟩;replace aa:=zK aa hb;replace ab:=zK ab hb;replace HB:=zB HB hb;(try clear hb);have b3:=zc0 aa;have b4:=zc1 aa;have b5:=kF aa.out 0;have b6:=kF aa.out 1)|((with_reducible refine gC (f:=55) rfl ?_);refine zJ (some 18) Try.func55 #[.agg #[.slice au ag.length av,.slice aw ah.length ax],.int .i64 a1,.slice A2 l2.length c2] ?_;(with_reducible refine(ie_.calls k _ _ ag _ _ ah a1 _ _ l2 ae af _ ?am ?an ?az ?aA ?aC ?aD A6.out).mono ?_);(case am=>exact zC aU HB);(case an=>exact aV.out);(case az=>exact zC aW HB);(case aA=>exact aX.out);(case aC=>exact zC a3 HB);(case aD=>exact a4.out);rintro e w33 ⟨bk,bl,rfl,a5,a6,hb⟩;refine⟨_,rfl,?_⟩;have ai:=A0_ (rL a5 (bZ (zB_ HB)));have aj:=A0_ (rL a6 (bZ (zB_ HB)));replace aa:=zK aa hb;replace ab:=zK ab hb;replace HB:=zB HB hb;(try clear hb);(try clear a5);(try clear a6))|((with_reducible refine gD (N:=8) rfl ?_);refine zX (N:=8) (cs := #[.slice none 0 0,.slice none 0 0]) (t:=25) ?_;intro aI hg w34 hbox hb;replace ai:=zR ai hb;replace aj:=zR aj hb;have ac:=A0_ (hbox);have bg:=zG hg HB;have bh:=zG hg HB;replace HB:=zB HB hb;have ak:=zL hg aa;have aM:=zM hg aa;replace aa:=zK aa hb;have al:=zL hg ab;have aN:=zM hg ab;replace ab:=zK ab hb;clear hb hbox hg;obtain⟨aJ,aK,bo⟩:=rS ai.out;subst bo;have cC:=aM.out;have cE:=ak.out;have cF:=aN.out;have cG:=al.out;have b7:=zc0 ac;have b8:=zc1 ac;have b9:=kF ac.out 0;have ca:=kF ac.out 1;obtain⟨aQ,aT,bp⟩:=rS aj.out;subst bp)|((with_reducible refine gS (t:=25) (p:=8) rfl ?_);refine store_event (t:=25) (p:=8) (v := ?vo_w40) (w1:=((w34.setCell ⟨aI,0,none⟩ (.slice aJ ae.length aK)).setCell ⟨aI,1,none⟩ (.slice aQ af.length aT))) ?hg ?ho ?hn ?hr ?_;(case ho=>rfl);(case hg=>rfl);(case hn=>rfl);(case hr=>first|(go_simp;done)|(go_simp;rfl));intro w40 hw;replace ai:Aside0 (Kd.R (Kd.int .i64) 3 w40 w.heap.size (fun k_=>some k_≠(.slice aQ af.length aT:Value).ownBlock) (.slice aJ ae.length aK) ae):=⟨(by rw [hw];exact(zF ai ac (.slice aJ ae.length aK) (.slice aQ af.length aT) 0 1))⟩;replace aj:Aside0 (Kd.R (Kd.int .i64) 3 w40 w.heap.size (fun k_=>some k_≠(.slice aJ ae.length aK:Value).ownBlock) (.slice aQ af.length aT) af):=⟨(by rw [hw];exact(zF aj ac (.slice aJ ae.length aK) (.slice aQ af.length aT) 0 1))⟩;replace aa:Aside0 (w40.heap[aY]? = some (.cells #[.slice au ag.length av,.slice aw ah.length ax] 25 (0,0))):=⟨(by rw [hw];exact(by refine zbf ?_ _ (hp:=by exact ak.out);refine zbf ?_ _ (hp:=by exact ak.out);exact zK_ aa))⟩;replace ab:Aside0 (w40.heap[aH]? = some (.cells #[.slice none 0 0,.slice none 0 0] 25 (0,0))):=⟨(by rw [hw];exact(by refine zbf ?_ _ (hp:=by exact al.out);refine zbf ?_ _ (hp:=by exact al.out);exact zK_ ab))⟩;replace ac:Aside0 (w40.heap[aI]? = some (.cells #[.slice aJ ae.length aK,.slice aQ af.length aT] 25 (0,0))):=⟨(by rw [hw];exact(by refine zbp (cs := #[.slice aJ ae.length aK,.slice none 0 0]) ?_ 1 _ rfl;refine zbp (cs := #[.slice none 0 0,.slice none 0 0]) ?_ 0 _ rfl;exact zK_ ac))⟩;replace HB:Aside0 (Below w.heap.size w w40):=⟨(by rw [hw];exact(zB_ HB))⟩;clear hw;have cb:=zc0 ac;have cc:=zc1 ac;have cd:=kF ac.out 0;have ce:=kF ac.out 1)|((with_reducible refine gC (f:=54) rfl ?_);refine zJ (some 20) Try.func54 #[.agg #[.slice aJ ae.length aK,.slice aQ af.length aT]] ?_;(with_reducible refine(i6_.calls k (fun k_=>some k_=(.slice aJ ae.length aK:Value).ownBlock) _ _ ae (fun k_=>some k_=(.slice aQ af.length aT:Value).ownBlock) _ _ af false _ ?am ?an A7.out).mono ?_);(case am=>exact Kd.R_V (Kd.R_tight rfl (rY (rY (rY (ai.out) aa.out (by decide)) ab.out (by decide)) ac.out (by decide))));(case an=>exact Kd.R_V (Kd.R_tight rfl (rY (rY (rY (aj.out) aa.out (by decide)) ab.out (by decide)) ac.out (by decide))));rintro e w42 ⟨rfl,hb⟩;refine⟨_,rfl,?_⟩;replace ai:=zR ai hb;replace aj:=zR aj hb;replace aa:=zK aa hb;replace ab:=zK ab hb;replace ac:=zK ac hb;replace HB:=zB HB hb;(try clear hb);have cf:=zc0 ab;have cg:=zc1 ab;have ch:=kF ab.out 0;have ci:=kF ab.out 1))
  refine bodyPost_ret (results_ct rfl _ _ aH 25 #[.slice none 0 0,.slice none 0 0] (0,0) _ rfl (by refine zbp (cs := #[.slice none 0 0,.slice none 0 0]) ?_ 1 _ rfl;refine zbp (cs := #[.slice none 0 0,.slice none 0 0]) ?_ 0 _ rfl;exact zK_ ab) Try.underlying25 rfl (by kernel_rfl)) rfl ?_
  exact⟨_,_,by first|rfl|(simp [*] <;> rfl),by first|exact Kd.R_nil _ _ _ _ _|exact Kd.N_nil _ _ _ _ _|exact Kd.V_nil _ _ _ _ _|exact Kd.Q_nil _ _ _ _ _|exact Kd.S_nil _ _ _ _ _,by first|exact Kd.R_nil _ _ _ _ _|exact Kd.N_nil _ _ _ _ _|exact Kd.V_nil _ _ _ _ _|exact Kd.Q_nil _ _ _ _ _|exact Kd.S_nil _ _ _ _ _,zB_ HB⟩
 replace c5:=Bool.eq_false_iff.mpr c5;subst c5
 have H1:(some (([]:List Int),([]:List Int),false))=some (r1,r2,r3):=by rw [if_neg (show ¬ (false=true) by decide)] at H;exact H
 clear H;have H:=H1;clear H1;simp only [Option.some.injEq,Prod.mk.injEq] at H;obtain⟨rfl,rfl,rfl⟩:=H
 go_enter Try.func20,Try.ntmps20
 go_wp2_with (first|((with_reducible refine gD (N:=3) rfl ?_);refine zX (N:=3) (cs := #[.slice au ag.length av,.slice aw ah.length ax]) (t:=25) ?_;intro aY hg w44 hbox hb;have aa:=A0_ (hbox);have bc:=zG hg HB;have bd:=zG hg HB;replace HB:=zB HB hb;clear hb hbox hg)|((with_reducible refine gD (N:=6) rfl ?_);refine zX (N:=6) (cs := #[.slice none 0 0,.slice none 0 0]) (t:=25) ?_;intro aH hg w45 hbox hb;have ab:=A0_ (hbox);have be:=zG hg HB;have bf:=zG hg HB;replace HB:=zB HB hb;have aq:=zL hg aa;have ar:=zM hg aa;replace aa:=zK aa hb;clear hb hbox hg;have cH:=aq.out;have cI:=ar.out;have cj:=zc0 aa;have ck:=zc1 aa;have cl:=kF aa.out 0;have cm:=kF aa.out 1)|((with_reducible refine gC (f:=53) rfl ?_);refine zJ (some 12) Try.func53 #[.agg #[.slice au ag.length av,.slice aw ah.length ax],.int .i64 a1,.slice A2 l2.length c2] ?_;(with_reducible refine(i8_.calls k _ _ ag _ _ ah a1 _ _ l2 false _ ?am ?an ?az ?aA ?aC ?aD A4.out).mono ?_);(case am=>exact zC aU HB);(case an=>exact aV.out);(case az=>exact zC aW HB);(case aA=>exact aX.out);(case aC=>exact zC a3 HB);(case aD=>exact a4.out);rintro e w48 ⟨rfl,hb⟩;refine⟨_,rfl,?_⟩;replace aa:=zK aa hb;replace ab:=zK ab hb;replace HB:=zB HB hb;(try clear hb);have cn:=zc0 ab;have co:=zc1 ab;have cp:=kF ab.out 0;have cq:=kF ab.out 1))
 refine bodyPost_ret (results_ct rfl _ _ aH 25 #[.slice none 0 0,.slice none 0 0] (0,0) _ rfl (by refine zbp (cs := #[.slice none 0 0,.slice none 0 0]) ?_ 1 _ rfl;refine zbp (cs := #[.slice none 0 0,.slice none 0 0]) ?_ 0 _ rfl;exact zK_ ab) Try.underlying25 rfl (by kernel_rfl)) rfl ?_
 exact⟨_,_,by first|rfl|(simp [*] <;> rfl),by first|exact Kd.R_nil _ _ _ _ _|exact Kd.N_nil _ _ _ _ _|exact Kd.V_nil _ _ _ _ _|exact Kd.Q_nil _ _ _ _ _|exact Kd.S_nil _ _ _ _ _,by first|exact Kd.R_nil _ _ _ _ _|exact Kd.N_nil _ _ _ _ _|exact Kd.V_nil _ _ _ _ _|exact Kd.Q_nil _ _ _ _ _|exact Kd.S_nil _ _ _ _ _,zB_ HB⟩
def i4_.f (k:Nat) (aa:List Int) (ab:List Int):Option (List Int×Bool):=(i6_.f k aa ab).bind fun ac=>(if ac=true then ((if_.f k aa).bind fun ae=>((ij_.f k ab aa).bind fun af=>((if_.f k af).bind fun ag=>(some ((([(ae.length:Int),wrap64 ((ab.length:Int) / 2),(ag.length:Int)]:List Int)),true))))) else (some (([]:List Int),false)))
def i4_.T3:Bool×List (List Nat×List Nat):=(true,[([],[]),([0],[0]),([1],[1]),([2],[2]),([],[]),([4],[4]),([5],[5]),([6],[6]),([],[]),([8],[8]),([],[]),([10],[10]),([9,11,2],[9,11]),([12,12],[12]),([13],[13]),([3,7,14],[3,7,14]),([15,13,0,1,2,3,4,5,6,7,8,9,10,11,12,13,14,15],[15]),([16,0,1,2,3,4,5,6,7,8,9,10,11,12,13,14,15,16],[])])
def i4_.B3:List Nat := [0,1,3,7,0,16,48,112,0,256,0,1024,3847,7943,16135,32767,65535,131071]
theorem i4_.tab3:rtab .any (opsOf Try.f25 3)=i4_.T3:=by kernel_rfl
theorem i4_.bits3:waitsOk i4_.T3.2 i4_.B3=true:=by kernel_rfl
theorem i4_.calls (k:Nat) (ak:Option Addr) (al:Nat) (ac:List Int) (am:Option Addr) (an:Nat) (ab:List Int) (r1:List Int) (r2:Bool) (w:World) (aC:Kd.C (Kd.int .i64) w ak ac.length ac) (aD:ac.length≤al) (aE:Kd.C (Kd.int .i64) w am ab.length ab) (aG:ab.length≤an) (h:i4_.f k ac ab=some (r1,r2)) :
    Calls Try.prog 25 #[.agg #[.slice ak ac.length al,.slice am ab.length an]] w fun e w' => ∃ v0_:Value,e = .returned (.tuple #[v0_,.bool r2])∧Kd.R (Kd.int .i64) 3 w' w.heap.size (fun _=>True) v0_ r1∧Below w.heap.size w w':=by
 have a9:=Try.underlying25;have ar:=A0_ aC;have au:=A0_ aD;clear aC aD;have av:=A0_ aE;have aw:=A0_ aG;clear aE aG
 have HB:=A0_ (Below.refl w.heap.size w)
 have H:((i6_.f k ac ab).bind fun aA=>(if aA=true then ((if_.f k ac).bind fun ai=>((ij_.f k ab ac).bind fun aq=>((if_.f k aq).bind fun aj=>(some ((([(ai.length:Int),wrap64 ((ab.length:Int) / 2),(aj.length:Int)]:List Int)),true))))) else (some (([]:List Int),false))))=some (r1,r2):=h
 clear h;obtain⟨aA,A2,H⟩:=zbind H
 by_cases c3:aA=true
 ·subst c3
  have H1:((if_.f k ac).bind fun ai=>((ij_.f k ab ac).bind fun aq=>((if_.f k aq).bind fun aj=>(some ((([(ai.length:Int),wrap64 ((ab.length:Int) / 2),(aj.length:Int)]:List Int)),true)))))=some (r1,r2):=by rw [if_pos rfl] at H;exact H
  clear H;have H:=H1;clear H1;obtain⟨ai,A4,H⟩:=zbind H;obtain⟨aq,A5,H⟩:=zbind H;obtain⟨aj,A6,H⟩:=zbind H
  obtain⟨aV,ax⟩ : ∃ y_:List Int,y_=(([(ai.length:Int),wrap64 ((ab.length:Int) / 2),(aj.length:Int)]:List Int)):=⟨_,rfl⟩
  replace H:(some (aV,true))=some (r1,r2):=zH ax H
  have aH:=A0_ ax;clear ax;simp only [Option.some.injEq,Prod.mk.injEq] at H;obtain⟨rfl,rfl⟩:=H
  go_enter Try.func25,Try.ntmps25
  try go_wp2_with (first|((with_reducible refine gD (N:=1) rfl ?_);refine zX (N:=1) (cs := #[.slice ak ac.length al,.slice am ab.length an]) (t:=25) ?_;intro ay hg w7 hbox hb;have aa:=A0_ (hbox);have aM:=zG hg HB;have aN:=zG hg HB;replace HB:=zB HB hb;clear hb hbox hg;have a5:=zc0 aa;have a6:=zc1 aa;have a7:=kF aa.out 0;have a8:=kF aa.out 1)|((with_reducible refine gC (f:=54) rfl ?_);refine zJ (some 5) Try.func54 #[.agg #[.slice ak ac.length al,.slice am ab.length an]] ?_;(with_reducible refine(i6_.calls k (fun k_=>k_<w.heap.size) _ _ ac (fun k_=>k_<w.heap.size) _ _ ab true _ ?ae ?af A2.out).mono ?_);(case ae=>exact Kd.V_mk au.out (Kd.F_below (Kd.C_F (Kd.heap_int .i64) ar.out) (zB_ HB)));(case af=>exact Kd.V_mk aw.out (Kd.F_below (Kd.C_F (Kd.heap_int .i64) av.out) (zB_ HB)));rintro e w9 ⟨rfl,hb⟩;refine⟨_,rfl,?_⟩;replace aa:=zK aa hb;replace HB:=zB HB hb;(try clear hb)))
  replace aa:=A0_ (kD aa.out)
  replace HB:=A0_ (bD HB.out)
  refine start_ (n:=18) (S:=fun w'=>w'.cell? ⟨ay,0,none⟩=some (.slice ak ac.length al)∧w'.cell? ⟨ay,1,none⟩=some (.slice am ab.length an)) (ds := []) (bs 18 0) (by kernel_rfl) rfl rfl ⟨(kC aa.out 0).trans rfl,(kC aa.out 1).trans rfl⟩ (fun hHeld => ?_);refine with_tabW i4_.tab3 i4_.bits3 (fun HT_ HW_ => ?_)
  generalize w9.drew=w10 at aa HB hHeld ⊢
  refine zP 0 (some 7) (bs 18 1) ?_
  refine zP 4 (some 11) (bs 18 17) ?_
  refine zP 8 (some 15) (bs 18 273) ?_
  refine zP 10 (some 17) (bs 18 1297) ?_
  refine zT 1 (some 8) (bs 18 1299) hHeld ?_
  refine zT 5 (some 12) (bs 18 1331) hHeld ?_
  refine zP 6 (some 13) (bs 18 1395) ?_
  refine zP 7 (some 14) (bs 18 1523) ?_
  refine zT 9 (some 16) (bs 18 2035) hHeld ?_
  refine zT 11 (some 18) (bs 18 4083) hHeld ?_
  refine one_ (i:=2) (N:=some 9) (bs 18 4087) rfl rfl (one_of HT_.out (by kernel_rfl)) (by decide) (fun K hK => ?_)
  refine zg Try.func68 #[.slice ak ac.length al] ?_
  with_reducible refine(if_.calls k _ _ ac ai _ ?ae ?af A4.out).mono ?_
  (case ae=>exact zC ar HB)
  (case af=>exact au.out)
  rintro e w11 ⟨ba,rfl,ap,hb⟩
  refine⟨_,rfl,?_⟩
  have ah:=A0_ (Kd.S_lower ap (bZ (zB_ HB)))
  replace aa:=zK aa hb;replace HB:=zB HB hb;(try clear hb);(try clear ap);obtain⟨bb,bc,aI⟩:=Kd.S_slice ah.out
  (first|subst aI|(injection aI with f1_ f2_ f3_;have f4_:=f1_.symm;have f5_:=f3_.symm;clear f1_ f2_ f3_;subst f4_;subst f5_))
  refine hK.out _ _ ⟨(kC aa.out 0).trans rfl,(kC aa.out 1).trans rfl⟩ (fun hHeld => ?_)
  clear hK K
  refine zN (some 9) ?_
  refine zP 3 (some 10) (bs 18 4095) ?_
  refine one_ (i:=12) (N:=some 19) (bs 18 8191) rfl rfl (one_of HT_.out (by kernel_rfl)) (by decide) (fun K hK => ?_)
  refine zg Try.func69 #[.slice am ab.length an,.slice ak ac.length al] ?_
  with_reducible refine(ij_.calls k _ _ ab _ _ ac aq _ ?ae ?af ?aQ ?aT A5.out).mono ?_
  (case ae=>exact zC av HB)
  (case af=>exact aw.out)
  (case aQ=>exact zC ar HB)
  (case aT=>exact au.out)
  rintro e w13 ⟨bd,rfl,ap,hb⟩
  refine⟨_,rfl,?_⟩
  replace ah:=A0_ (Kd.S_elder' (zS_ ah) (Kd.R_base ap) hb)
  have ag:=A0_ (rL ap (bZ (zB_ HB)))
  replace aa:=zK aa hb;replace HB:=zB HB hb;(try clear hb);(try clear ap);obtain⟨aW,aX,aJ⟩:=rS ag.out
  (first|subst aJ|(injection aJ with f1_ f2_ f3_;have f4_:=f1_.symm;have f5_:=f3_.symm;clear f1_ f2_ f3_;subst f4_;subst f5_))
  refine hK.out _ _ ⟨(kC aa.out 0).trans rfl,(kC aa.out 1).trans rfl⟩ (fun hHeld => ?_)
  clear hK K
  refine zN (some 19) ?_
  refine one_ (i:=13) (N:=some 20) (bs 18 16383) rfl rfl (one_of HT_.out (by kernel_rfl)) (by decide) (fun K hK => ?_)
  refine zg Try.func68 #[.slice aW aq.length aX] ?_
  with_reducible refine(if_.calls k _ _ aq aj _ ?ae ?af A6.out).mono ?_
  (case ae=>exact zD ag)
  (case af=>exact(rR ag.out).2.1)
  rintro e w15 ⟨be,rfl,ap,hb⟩
  refine⟨_,rfl,?_⟩
  have az:=A0_ (Kd.S_lower (Kd.S_new' (Kd.S_new' ap (Kd.S_lt (zS_ ah))) (rX (zR_ ag))) (bZ (zB_ HB)))
  replace ah:=A0_ (Kd.S_elder' (zS_ ah) (Kd.S_base ap) hb)
  replace ag:=zR ag hb;replace aa:=zK aa hb;replace HB:=zB HB hb;(try clear hb);(try clear ap);obtain⟨bf,bg,aK⟩:=Kd.S_slice az.out
  (first|subst aK|(injection aK with f1_ f2_ f3_;have f4_:=f1_.symm;have f5_:=f3_.symm;clear f1_ f2_ f3_;subst f4_;subst f5_))
  refine hK.out _ _ ⟨(kC aa.out 0).trans rfl,(kC aa.out 1).trans rfl⟩ (fun hHeld => ?_)
  clear hK K
  refine zN (some 20) ?_
  refine zP 14 (some 21) (bs 18 32767) ?_
  refine one_ (i:=15) (N:=some 22) (bs 18 65535) rfl rfl (one_of HT_.out (by kernel_rfl)) (by decide) (fun K hK => ?_)
  refine Kd.R_lit_step (Kd.int .i64) _ 3 ?hg (N:=22) ?hd (xs:=([(ai.length:Int),wrap64 ((ab.length:Int) / 2),(aj.length:Int)]:List Int)) (inner := [.int .i64 (ai.length:Int),.int .i64 (wrap64 ((ab.length:Int) / 2)),.int .i64 (aj.length:Int)]) (ok:=fun _=>True) (okp:=fun _=>True) ?hr ?hp (fun _ hk=>hk) trivial (Below.refl _ _) (Nat.le_refl _) (by simp) ?_;(case hd=>rfl);(case hg=>rfl);(case hr=>first|(go_simp;done)|(go_simp;rfl));(case hp=>exact(Reps.one (show Kd.M (Kd.int .i64) _ _ _ (ai.length:Int) [.int .i64 (ai.length:Int)] from rfl) (Reps.one (show Kd.M (Kd.int .i64) _ _ _ (wrap64 ((ab.length:Int) / 2)) [.int .i64 (wrap64 ((ab.length:Int) / 2))] from rfl) (Reps.one (show Kd.M (Kd.int .i64) _ _ _ (aj.length:Int) [.int .i64 (aj.length:Int)] from rfl) (Reps.none _ _)))))
  intro bh w17 ao hb hg_ hnew_
  clear hg_ hnew_
  (first|rw [← aH.out] at ao|(simp only [Int.reduceToNat] at ao;rw [← aH.out] at ao))
  replace ah:=A0_ (Kd.S_elder' (zS_ ah) (Kd.R_base ao) hb)
  replace az:=A0_ (Kd.S_elder' (zS_ az) (Kd.R_base ao) hb)
  have aU:=A0_ (rL (Kd.R_new' ao (rX (zR_ ag))) (bZ (zB_ HB)))
  replace ag:=A0_ (Kd.R_elder' (zR_ ag) (Kd.R_base ao) hb)
  replace aa:=zK aa hb;replace HB:=zB HB hb;clear hb ao
  refine hK.out _ _ ⟨(kC aa.out 0).trans rfl,(kC aa.out 1).trans rfl⟩ (fun hHeld => ?_)
  clear hK K
  refine zN (some 22) ?_
  refine zP 16 (some 2) (bs 18 131071) ?_
  refine zP 17 (some 3) (bs 18 262143) ?_
  refine done_ (done_of HT_.out (by kernel_rfl)) ?_
  try go_wp2
  go_ret2
  exact⟨_,by first|rfl|(simp [*] <;> rfl),zmR aU (fun _ hk=>trivial),zB_ HB⟩
 replace c3:=Bool.eq_false_iff.mpr c3;subst c3
 have H1:(some (([]:List Int),false))=some (r1,r2):=by rw [if_neg (show ¬ (false=true) by decide)] at H;exact H
 clear H;have H:=H1;clear H1;simp only [Option.some.injEq,Prod.mk.injEq] at H;obtain⟨rfl,rfl⟩:=H
 go_enter Try.func25,Try.ntmps25
 go_wp2_with (first|((with_reducible refine gD (N:=1) rfl ?_);refine zX (N:=1) (cs := #[.slice ak ac.length al,.slice am ab.length an]) (t:=25) ?_;intro ay hg w19 hbox hb;have aa:=A0_ (hbox);have aM:=zG hg HB;have aN:=zG hg HB;replace HB:=zB HB hb;clear hb hbox hg;have aY:=zc0 aa;have aZ:=zc1 aa;have a3:=kF aa.out 0;have a4:=kF aa.out 1)|((with_reducible refine gC (f:=54) rfl ?_);refine zJ (some 5) Try.func54 #[.agg #[.slice ak ac.length al,.slice am ab.length an]] ?_;(with_reducible refine(i6_.calls k (fun k_=>k_<w.heap.size) _ _ ac (fun k_=>k_<w.heap.size) _ _ ab false _ ?ae ?af A2.out).mono ?_);(case ae=>exact Kd.V_mk au.out (Kd.F_below (Kd.C_F (Kd.heap_int .i64) ar.out) (zB_ HB)));(case af=>exact Kd.V_mk aw.out (Kd.F_below (Kd.C_F (Kd.heap_int .i64) av.out) (zB_ HB)));rintro e w21 ⟨rfl,hb⟩;refine⟨_,rfl,?_⟩;replace aa:=zK aa hb;replace HB:=zB HB hb;(try clear hb)))
 go_ret2
 exact⟨_,by first|rfl|(simp [*] <;> rfl),by first|exact Kd.R_nil _ _ _ _ _|exact Kd.N_nil _ _ _ _ _|exact Kd.V_nil _ _ _ _ _|exact Kd.Q_nil _ _ _ _ _|exact Kd.S_nil _ _ _ _ _,zB_ HB⟩
def lp_.l0:Nat→List Int→List Int→Int→Option (Bool)
  | 0,_,_,_=>none
  | k+1,x0,x1,x5=>if x5<(x0.length:Int) then (if 0≤x5 then (if x5<(x1.length:Int) then (if (rd x0 x5)=(rd x1 x5) then (lp_.l0 k x0 x1 (wrap64 (x5+1))) else (some false)) else (none)) else (none)) else (some true)
def lp_.f (k:Nat) (l0:List Int) (l1:List Int):Option (Bool):=if (l0.length:Int)=(l1.length:Int) then (lp_.l0 k l0 l1 0) else (some false)
theorem lp_.calls (k:Nat) (A0:Option Addr) (c0:Nat) (l0:List Int) (A1:Option Addr) (c1:Nat) (l1:List Int) (r:Bool) (w:World) (ap:Kd.C (Kd.int .i64) w A0 l0.length l0) (aq:l0.length≤c0) (ar:Kd.C (Kd.int .i64) w A1 l1.length l1) (au:l1.length≤c1) (h:lp_.f k l0 l1=some r) :
    Calls Try.prog 38 #[.slice A0 l0.length c0,.slice A1 l1.length c1] w fun e w'=>e = .returned (.bool r)∧Drawn0 w w':=by
 have av:=A0_ ap;have aE:=A0_ aq;clear ap aq;have aw:=A0_ ar;have aG:=A0_ au;clear ar au
 have H:(if (l0.length:Int)=(l1.length:Int) then (lp_.l0 k l0 l1 0) else (some false))=some r:=h
 clear h
 by_cases c3:(l0.length:Int)=(l1.length:Int)
 ·rw [if_pos c3] at H
  have ak:((l0.length:Int) == (l1.length:Int))=true:=beq_iff_eq.mpr c3
  have al:((l0.length:Int) != (l1.length:Int))=false:=bne_eq_false_iff_eq.mpr c3
  have am:(l0.length == l1.length)=true:=by first|simpa using c3|(simp at c3 ⊢;omega)
  clear c3;have H':=A0_ H;clear H
  go_enter Try.func38,Try.ntmps38
  go_wp2
  repeat(go_quiet (fail);try go_wp2)
  go_loopg [5] k (fun kq v5 w' => ∃ (aa:Int),v5 = .int .i64 aa∧Aside0 (lp_.l0 kq l0 l1 aa=some r)∧Aside0 (kq≤k)∧Drawn0 w w')
  case atStart=>exact⟨(0),zt,H',⟨Nat.le_refl _⟩,by repeat(first|exact Drawn0.refl _|apply Drawn0.step)⟩
  case round =>
   clear H';(try clear c1);(try clear c3);(try clear ak);(try clear al);(try clear am);obtain⟨aa,rfl,HA,ax,⟨m1,rfl⟩⟩:=hrel
   cases gk with
   | zero=>exact absurd HA.out (by simp [lp_.l0])
   | succ k1 =>
    have H:=HA.out;clear HA;simp only [lp_.l0] at H
    by_cases c4:aa<(l0.length:Int)
    ·rw [if_pos c4] at H
     have ay:=dT c4;clear c4
     have c5:=zpc H;replace H:=zph H
     have aC:=dT c5;clear c5
     have c6:=zpc H;replace H:=zph H
     have aD:=dT c6;clear c6
     by_cases c7:(rd l0 aa)=(rd l1 aa)
     ·rw [if_pos c7] at H
      have az:((rd l0 aa) == (rd l1 aa))=true:=beq_iff_eq.mpr c7
      have aA:((rd l0 aa) != (rd l1 aa))=false:=bne_eq_false_iff_eq.mpr c7
      clear c7;have H':=A0_ H;clear H
      have ab:0≤(aa:Int):=zd
      have ac:aa<(l0.length:Int):=zd
      obtain⟨an,ag,ai⟩:=tI av.out aa ab ac
      cases ag
      replace ab:=eq_true ab;replace ac:=eq_true ac
      have ae:0≤(aa:Int):=zd
      have af:aa<(l1.length:Int):=zd
      obtain⟨ao,ah,aj⟩:=tI aw.out aa ae af
      cases ah
      replace ae:=eq_true ae;replace af:=eq_true af
      go_wp2
      repeat(go_quiet (fail);try go_wp2)
      go_roundg k1
      case measure=>have:=ax.out;omega
      case rel=>exact⟨(wrap64 (aa+1)),zt,H',⟨by have:=ax.out;omega⟩,by repeat(first|exact Drawn0.refl _|apply Drawn0.step)⟩
     rw [if_neg c7] at H
     have az:((rd l0 aa) == (rd l1 aa))=false:=beq_eq_false_iff_ne.mpr c7
     have aA:((rd l0 aa) != (rd l1 aa))=true:=bne_iff_ne.mpr c7
     obtain rfl:=sI H
     have ab:0≤(aa:Int):=zd
     have ac:aa<(l0.length:Int):=zd
     obtain⟨an,ag,ai⟩:=tI av.out aa ab ac
     cases ag
     replace ab:=eq_true ab;replace ac:=eq_true ac
     have ae:0≤(aa:Int):=zd
     have af:aa<(l1.length:Int):=zd
     obtain⟨ao,ah,aj⟩:=tI aw.out aa ae af
     cases ah
     replace ae:=eq_true ae;replace af:=eq_true af
     go_wp2
     repeat(go_quiet (fail);try go_wp2)
     go_ret
     exact⟨by first|rfl|(simp;done)|(simp [*];done),by repeat(first|exact Drawn0.refl _|apply Drawn0.step)⟩
    rw [if_neg c4] at H;have ay:=dF c4;clear c4;obtain rfl:=sI H
    go_wp2
    repeat(go_quiet (fail);try go_wp2)
    go_ret
    exact⟨by first|rfl|(simp;done)|(simp [*];done),by repeat(first|exact Drawn0.refl _|apply Drawn0.step)⟩
 rw [if_neg c3] at H
 have ak:((l0.length:Int) == (l1.length:Int))=false:=beq_eq_false_iff_ne.mpr c3
 have al:((l0.length:Int) != (l1.length:Int))=true:=bne_iff_ne.mpr c3
 have am:(l0.length == l1.length)=false:=by first|simpa using c3|(simp at c3 ⊢;omega)
 obtain rfl:=sI H
 go_enter Try.func38,Try.ntmps38
 go_wp2
 repeat(go_quiet (fail);try go_wp2)
 go_ret
 exact⟨by first|rfl|(simp;done)|(simp [*];done),by repeat(first|exact Drawn0.refl _|apply Drawn0.step)⟩
def lq_.l0:Nat→List (List Int)→List (List Int)→Int→Option (Bool)
  | 0,_,_,_=>none
  | k+1,x0,x1,x5=>if x5<(x0.length:Int) then (if 0≤x5 then (if x5<(x1.length:Int) then ((lp_.f k (rd_L1 x0 x5) (rd_L1 x1 x5)).bind fun aa=>(if aa=true then (lq_.l0 k x0 x1 (wrap64 (x5+1))) else (some false))) else (none)) else (none)) else (some true)
def lq_.f (k:Nat) (l0:List (List Int)) (l1:List (List Int)):Option (Bool):=if (l0.length:Int)=(l1.length:Int) then (lq_.l0 k l0 l1 0) else (some false)
theorem lq_.calls (k:Nat) (A0:Option Addr) (c0:Nat) (l0:List (List Int)) (A1:Option Addr) (c1:Nat) (l1:List (List Int)) (r:Bool) (w:World) (aJ:Kd.C (Kd.slice 3 (Kd.int .i64)) w A0 l0.length l0) (aK:l0.length≤c0) (aM:Kd.C (Kd.slice 3 (Kd.int .i64)) w A1 l1.length l1) (aN:l1.length≤c1) (h:lq_.f k l0 l1=some r) :
    Calls Try.prog 33 #[.slice A0 l0.length c0,.slice A1 l1.length c1] w fun e w'=>e = .returned (.bool r)∧Drawn0 w w':=by
 have aQ:=A0_ aJ;have aZ:=A0_ aK;clear aJ aK;have aT:=A0_ aM;have a3:=A0_ aN;clear aM aN
 have H:(if (l0.length:Int)=(l1.length:Int) then (lq_.l0 k l0 l1 0) else (some false))=some r:=h
 clear h
 by_cases c3:(l0.length:Int)=(l1.length:Int)
 ·rw [if_pos c3] at H
  have ay:((l0.length:Int) == (l1.length:Int))=true:=beq_iff_eq.mpr c3
  have az:((l0.length:Int) != (l1.length:Int))=false:=bne_eq_false_iff_eq.mpr c3
  have aA:(l0.length == l1.length)=true:=by first|simpa using c3|(simp at c3 ⊢;omega)
  clear c3;have H':=A0_ H;clear H
  go_enter Try.func33,Try.ntmps33
  go_wp2
  repeat(go_quiet (fail);try go_wp2)
  go_loopg [5] k (fun kq v5 w' => ∃ (aa:Int),v5 = .int .i64 aa∧Aside0 (lq_.l0 kq l0 l1 aa=some r)∧Aside0 (kq≤k)∧Drawn0 w w')
  case atStart=>exact⟨(0),zt,H',⟨Nat.le_refl _⟩,by repeat(first|exact Drawn0.refl _|apply Drawn0.step)⟩
  case round =>
   clear H';(try clear c1);(try clear c3);(try clear ay);(try clear az);(try clear aA);obtain⟨aa,rfl,HA,aU,⟨m1,rfl⟩⟩:=hrel
   cases gk with
   | zero=>exact absurd HA.out (by simp [lq_.l0])
   | succ k1 =>
    have H:=HA.out;clear HA;simp only [lq_.l0] at H
    by_cases c4:aa<(l0.length:Int)
    ·rw [if_pos c4] at H
     have aV:=dT c4;clear c4
     have c5:=zpc H;replace H:=zph H
     have aX:=dT c5;clear c5
     have c6:=zpc H;replace H:=zph H
     have aY:=dT c6;clear c6;obtain⟨aW,A7,H⟩:=zbind H
     by_cases c8:aW=true
     ·subst c8
      rw [if_pos rfl] at H;have H':=A0_ H;clear H
      have ao:0≤(aa:Int):=zd
      have ap:aa<(l0.length:Int):=zd
      obtain⟨aH,aC,aD,au,aw,ak,al⟩:=at_L1 aQ.out aa ao ap
      cases au
      have ag:=A0_ al;have ah:=A0_ ak;clear al ak;replace ao:=eq_true ao;replace ap:=eq_true ap
      have aq:0≤(aa:Int):=zd
      have ar:aa<(l1.length:Int):=zd
      obtain⟨aI,aE,aG,av,ax,am,an⟩:=at_L1 aT.out aa aq ar
      cases av
      have ai:=A0_ an;have aj:=A0_ am;clear an am;replace aq:=eq_true aq;replace ar:=eq_true ar
      go_wp2_with (first|(go_at_call 38;(with_reducible refine(lp_.calls k1 _ _ (rd_L1 l0 aa) _ _ (rd_L1 l1 aa) true _ ?ab ?ac ?ae ?af A7.out).mono ?_);(case ab=>repeat(first|exact ag.out|(with_reducible refine cA ?_ _)|(with_reducible refine cN ?_ _)|(with_reducible refine cD ?_)));(case ac=>exact ah.out);(case ae=>repeat(first|exact ai.out|(with_reducible refine cA ?_ _)|(with_reducible refine cN ?_ _)|(with_reducible refine cD ?_)));(case af=>exact aj.out);rintro e w' ⟨rfl,⟨nd,rfl⟩⟩;(try first|exact⟨rfl,_,World.drewN_drewN _ _ _⟩|exact⟨rfl,_,Eq.trans (World.drewN_drewN _ _ _) (congrArg (World.drewN _) (Nat.add_assoc _ _ _))⟩)))
      repeat(go_quiet (first|(go_at_call 38;(with_reducible refine(lp_.calls k1 _ _ (rd_L1 l0 aa) _ _ (rd_L1 l1 aa) true _ ?ab ?ac ?ae ?af A7.out).mono ?_);(case ab=>repeat(first|exact ag.out|(with_reducible refine cA ?_ _)|(with_reducible refine cN ?_ _)|(with_reducible refine cD ?_)));(case ac=>exact ah.out);(case ae=>repeat(first|exact ai.out|(with_reducible refine cA ?_ _)|(with_reducible refine cN ?_ _)|(with_reducible refine cD ?_)));(case af=>exact aj.out);rintro e w' ⟨rfl,⟨nd,rfl⟩⟩;(try first|exact⟨rfl,_,World.drewN_drewN _ _ _⟩|exact⟨rfl,_,Eq.trans (World.drewN_drewN _ _ _) (congrArg (World.drewN _) (Nat.add_assoc _ _ _))⟩)));try go_wp2_with (first|(go_at_call 38;(with_reducible refine(lp_.calls k1 _ _ (rd_L1 l0 aa) _ _ (rd_L1 l1 aa) true _ ?ab ?ac ?ae ?af A7.out).mono ?_);(case ab=>repeat(first|exact ag.out|(with_reducible refine cA ?_ _)|(with_reducible refine cN ?_ _)|(with_reducible refine cD ?_)));(case ac=>exact ah.out);(case ae=>repeat(first|exact ai.out|(with_reducible refine cA ?_ _)|(with_reducible refine cN ?_ _)|(with_reducible refine cD ?_)));(case af=>exact aj.out);rintro e w' ⟨rfl,⟨nd,rfl⟩⟩;(try first|exact⟨rfl,_,World.drewN_drewN _ _ _⟩|exact⟨rfl,_,Eq.trans (World.drewN_drewN _ _ _) (congrArg (World.drewN _) (Nat.add_assoc _ _ _))⟩))))
      go_roundg k1
      case measure=>have:=aU.out;omega
      case rel=>exact⟨(wrap64 (aa+1)),zt,H',⟨by have:=aU.out;omega⟩,by repeat(first|exact Drawn0.refl _|apply Drawn0.step)⟩
     replace c8:=Bool.eq_false_iff.mpr c8;subst c8
     rw [if_neg (show ¬ (false=true) by decide)] at H
     obtain rfl:=sI H
     have ao:0≤(aa:Int):=zd
     have ap:aa<(l0.length:Int):=zd
     obtain⟨aH,aC,aD,au,aw,ak,al⟩:=at_L1 aQ.out aa ao ap
     cases au
     have ag:=A0_ al;have ah:=A0_ ak;clear al ak;replace ao:=eq_true ao;replace ap:=eq_true ap
     have aq:0≤(aa:Int):=zd
     have ar:aa<(l1.length:Int):=zd
     obtain⟨aI,aE,aG,av,ax,am,an⟩:=at_L1 aT.out aa aq ar
     cases av
     have ai:=A0_ an;have aj:=A0_ am;clear an am;replace aq:=eq_true aq;replace ar:=eq_true ar
     go_wp2_with (first|(go_at_call 38;(with_reducible refine(lp_.calls k1 _ _ (rd_L1 l0 aa) _ _ (rd_L1 l1 aa) false _ ?ab ?ac ?ae ?af A7.out).mono ?_);(case ab=>repeat(first|exact ag.out|(with_reducible refine cA ?_ _)|(with_reducible refine cN ?_ _)|(with_reducible refine cD ?_)));(case ac=>exact ah.out);(case ae=>repeat(first|exact ai.out|(with_reducible refine cA ?_ _)|(with_reducible refine cN ?_ _)|(with_reducible refine cD ?_)));(case af=>exact aj.out);rintro e w' ⟨rfl,⟨nd,rfl⟩⟩;(try first|exact⟨rfl,_,World.drewN_drewN _ _ _⟩|exact⟨rfl,_,Eq.trans (World.drewN_drewN _ _ _) (congrArg (World.drewN _) (Nat.add_assoc _ _ _))⟩)))
     repeat(go_quiet (first|(go_at_call 38;(with_reducible refine(lp_.calls k1 _ _ (rd_L1 l0 aa) _ _ (rd_L1 l1 aa) false _ ?ab ?ac ?ae ?af A7.out).mono ?_);(case ab=>repeat(first|exact ag.out|(with_reducible refine cA ?_ _)|(with_reducible refine cN ?_ _)|(with_reducible refine cD ?_)));(case ac=>exact ah.out);(case ae=>repeat(first|exact ai.out|(with_reducible refine cA ?_ _)|(with_reducible refine cN ?_ _)|(with_reducible refine cD ?_)));(case af=>exact aj.out);rintro e w' ⟨rfl,⟨nd,rfl⟩⟩;(try first|exact⟨rfl,_,World.drewN_drewN _ _ _⟩|exact⟨rfl,_,Eq.trans (World.drewN_drewN _ _ _) (congrArg (World.drewN _) (Nat.add_assoc _ _ _))⟩)));try go_wp2_with (first|(go_at_call 38;(with_reducible refine(lp_.calls k1 _ _ (rd_L1 l0 aa) _ _ (rd_L1 l1 aa) false _ ?ab ?ac ?ae ?af A7.out).mono ?_);(case ab=>repeat(first|exact ag.out|(with_reducible refine cA ?_ _)|(with_reducible refine cN ?_ _)|(with_reducible refine cD ?_)));(case ac=>exact ah.out);(case ae=>repeat(first|exact ai.out|(with_reducible refine cA ?_ _)|(with_reducible refine cN ?_ _)|(with_reducible refine cD ?_)));(case af=>exact aj.out);rintro e w' ⟨rfl,⟨nd,rfl⟩⟩;(try first|exact⟨rfl,_,World.drewN_drewN _ _ _⟩|exact⟨rfl,_,Eq.trans (World.drewN_drewN _ _ _) (congrArg (World.drewN _) (Nat.add_assoc _ _ _))⟩))))
     go_ret
     exact⟨by first|rfl|(simp;done)|(simp [*];done),by repeat(first|exact Drawn0.refl _|apply Drawn0.step)⟩
    rw [if_neg c4] at H;have aV:=dF c4;clear c4;obtain rfl:=sI H
    go_wp2
    repeat(go_quiet (fail);try go_wp2)
    go_ret
    exact⟨by first|rfl|(simp;done)|(simp [*];done),by repeat(first|exact Drawn0.refl _|apply Drawn0.step)⟩
 rw [if_neg c3] at H
 have ay:((l0.length:Int) == (l1.length:Int))=false:=beq_eq_false_iff_ne.mpr c3
 have az:((l0.length:Int) != (l1.length:Int))=true:=bne_iff_ne.mpr c3
 have aA:(l0.length == l1.length)=false:=by first|simpa using c3|(simp at c3 ⊢;omega)
 obtain rfl:=sI H
 go_enter Try.func33,Try.ntmps33
 go_wp2
 repeat(go_quiet (fail);try go_wp2)
 go_ret
 exact⟨by first|rfl|(simp;done)|(simp [*];done),by repeat(first|exact Drawn0.refl _|apply Drawn0.step)⟩
def c1_.f (a0:Int):Option (Bool):=some (a0 != a0)
theorem c1_.calls (a0:Int) (r:Bool) (w:World) (h:c1_.f a0=some r) :
    Calls Try.prog 119 #[.int .i64 a0] w fun e w'=>e = .returned (.bool r)∧Drawn0 w w':=by
 have H:(some (a0 != a0))=some r:=h
 clear h;obtain rfl:=sI H
 go_enter Try.func119,Try.ntmps119
 go_wp2
 go_ret
 exact⟨by first|rfl|(simp;done)|(simp [*];done),by repeat(first|exact Drawn0.refl _|apply Drawn0.step)⟩
def c0_.f (a0:Int) (a1:Int):Option (Int):=(c1_.f a0).bind fun ab=>((c1_.f a1).bind fun aa=>(if ab=true then (if aa=true then (some 0) else (some (-1))) else (if aa=true then (some 1) else (if a0<a1 then (some (-1)) else (if a0>a1 then (some 1) else (some 0))))))
theorem c0_.calls (a0:Int) (a1:Int) (r:Int) (w:World) (h:c0_.f a0 a1=some r) :
    Calls Try.prog 116 #[.int .i64 a0,.int .i64 a1] w fun e w'=>e = .returned (.int .i64 r)∧Drawn0 w w':=by
 have H:((c1_.f a0).bind fun ab=>((c1_.f a1).bind fun aa=>(if ab=true then (if aa=true then (some 0) else (some (-1))) else (if aa=true then (some 1) else (if a0<a1 then (some (-1)) else (if a0>a1 then (some 1) else (some 0)))))))=some r:=h
 clear h;obtain⟨ab,A3,H⟩:=zbind H;obtain⟨aa,A4,H⟩:=zbind H
 by_cases c5:ab=true
 ·subst c5
  rw [if_pos rfl] at H
  by_cases c6:aa=true
  ·subst c6
   rw [if_pos rfl] at H;obtain rfl:=sI H
   go_enter Try.func116,Try.ntmps116
   go_wp2_with (first|((with_reducible refine gC (f:=119) rfl ?_);refine zJ (some 8) Try.func119 #[.int .i64 a0] ?_;(with_reducible refine(c1_.calls a0 true _ A3.out).mono ?_);rintro e w' ⟨rfl,⟨nd,rfl⟩⟩;refine⟨_,rfl,?_⟩)|((with_reducible refine gC (f:=119) rfl ?_);refine zJ (some 10) Try.func119 #[.int .i64 a1] ?_;(with_reducible refine(c1_.calls a1 true _ A4.out).mono ?_);rintro e w' ⟨rfl,⟨nd,rfl⟩⟩;refine⟨_,rfl,?_⟩))
   go_ret
   exact⟨by first|rfl|(simp;done)|(simp [*];done),by repeat(first|exact Drawn0.refl _|apply Drawn0.step)⟩
  replace c6:=Bool.eq_false_iff.mpr c6;subst c6
  rw [if_neg (show ¬ (false=true) by decide)] at H
  obtain rfl:=sI H
  go_enter Try.func116,Try.ntmps116
  go_wp2_with (first|((with_reducible refine gC (f:=119) rfl ?_);refine zJ (some 8) Try.func119 #[.int .i64 a0] ?_;(with_reducible refine(c1_.calls a0 true _ A3.out).mono ?_);rintro e w' ⟨rfl,⟨nd,rfl⟩⟩;refine⟨_,rfl,?_⟩)|((with_reducible refine gC (f:=119) rfl ?_);refine zJ (some 10) Try.func119 #[.int .i64 a1] ?_;(with_reducible refine(c1_.calls a1 false _ A4.out).mono ?_);rintro e w' ⟨rfl,⟨nd,rfl⟩⟩;refine⟨_,rfl,?_⟩))
  go_ret
  exact⟨by first|rfl|(simp;done)|(simp [*];done),by repeat(first|exact Drawn0.refl _|apply Drawn0.step)⟩
 replace c5:=Bool.eq_false_iff.mpr c5;subst c5
 rw [if_neg (show ¬ (false=true) by decide)] at H
 by_cases c7:aa=true
 ·subst c7
  rw [if_pos rfl] at H;obtain rfl:=sI H
  go_enter Try.func116,Try.ntmps116
  go_wp2_with (first|((with_reducible refine gC (f:=119) rfl ?_);refine zJ (some 8) Try.func119 #[.int .i64 a0] ?_;(with_reducible refine(c1_.calls a0 false _ A3.out).mono ?_);rintro e w' ⟨rfl,⟨nd,rfl⟩⟩;refine⟨_,rfl,?_⟩)|((with_reducible refine gC (f:=119) rfl ?_);refine zJ (some 10) Try.func119 #[.int .i64 a1] ?_;(with_reducible refine(c1_.calls a1 true _ A4.out).mono ?_);rintro e w' ⟨rfl,⟨nd,rfl⟩⟩;refine⟨_,rfl,?_⟩))
  go_ret
  exact⟨by first|rfl|(simp;done)|(simp [*];done),by repeat(first|exact Drawn0.refl _|apply Drawn0.step)⟩
 replace c7:=Bool.eq_false_iff.mpr c7;subst c7
 rw [if_neg (show ¬ (false=true) by decide)] at H
 by_cases c8:a0<a1
 ·rw [if_pos c8] at H
  have ac:=dT c8;clear c8;obtain rfl:=sI H
  go_enter Try.func116,Try.ntmps116
  go_wp2_with (first|((with_reducible refine gC (f:=119) rfl ?_);refine zJ (some 8) Try.func119 #[.int .i64 a0] ?_;(with_reducible refine(c1_.calls a0 false _ A3.out).mono ?_);rintro e w' ⟨rfl,⟨nd,rfl⟩⟩;refine⟨_,rfl,?_⟩)|((with_reducible refine gC (f:=119) rfl ?_);refine zJ (some 10) Try.func119 #[.int .i64 a1] ?_;(with_reducible refine(c1_.calls a1 false _ A4.out).mono ?_);rintro e w' ⟨rfl,⟨nd,rfl⟩⟩;refine⟨_,rfl,?_⟩))
  go_ret
  exact⟨by first|rfl|(simp;done)|(simp [*];done),by repeat(first|exact Drawn0.refl _|apply Drawn0.step)⟩
 rw [if_neg c8] at H;have ac:=dF c8;clear c8
 by_cases c9:a0>a1
 ·rw [if_pos c9] at H
  have ae:decide (a1<a0)=true:=dT c9
  clear c9;obtain rfl:=sI H
  go_enter Try.func116,Try.ntmps116
  go_wp2_with (first|((with_reducible refine gC (f:=119) rfl ?_);refine zJ (some 8) Try.func119 #[.int .i64 a0] ?_;(with_reducible refine(c1_.calls a0 false _ A3.out).mono ?_);rintro e w' ⟨rfl,⟨nd,rfl⟩⟩;refine⟨_,rfl,?_⟩)|((with_reducible refine gC (f:=119) rfl ?_);refine zJ (some 10) Try.func119 #[.int .i64 a1] ?_;(with_reducible refine(c1_.calls a1 false _ A4.out).mono ?_);rintro e w' ⟨rfl,⟨nd,rfl⟩⟩;refine⟨_,rfl,?_⟩))
  go_ret
  exact⟨by first|rfl|(simp;done)|(simp [*];done),by repeat(first|exact Drawn0.refl _|apply Drawn0.step)⟩
 rw [if_neg c9] at H
 have ae:decide (a1<a0)=false:=dF c9
 clear c9;obtain rfl:=sI H
 go_enter Try.func116,Try.ntmps116
 go_wp2_with (first|((with_reducible refine gC (f:=119) rfl ?_);refine zJ (some 8) Try.func119 #[.int .i64 a0] ?_;(with_reducible refine(c1_.calls a0 false _ A3.out).mono ?_);rintro e w' ⟨rfl,⟨nd,rfl⟩⟩;refine⟨_,rfl,?_⟩)|((with_reducible refine gC (f:=119) rfl ?_);refine zJ (some 10) Try.func119 #[.int .i64 a1] ?_;(with_reducible refine(c1_.calls a1 false _ A4.out).mono ?_);rintro e w' ⟨rfl,⟨nd,rfl⟩⟩;refine⟨_,rfl,?_⟩))
 go_ret
 exact⟨by first|rfl|(simp;done)|(simp [*];done),by repeat(first|exact Drawn0.refl _|apply Drawn0.step)⟩
end Go.Proofs.Ytmegggomhjgehaa.PFnCoverTree
