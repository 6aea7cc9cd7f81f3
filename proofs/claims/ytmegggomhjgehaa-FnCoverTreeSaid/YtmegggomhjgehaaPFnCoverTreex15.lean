import Derived.Test.YtmegggomhjgehaaPFnCoverTreex14
namespace Go.Proofs.Ytmegggomhjgehaa.PFnCoverTree
open Go.RowKit Go.Proofs.YtmegggomhjgehaaW.PrintWords Go.Proofs.YtmegggomhjgehaaW.PrintLast Go.Proofs.YtmegggomhjgehaaW.PrintMore
set_option maxHeartbeats 8000000
set_option maxRecDepth 100000
attribute [local go_sem] max2_int min2_int max_two min_two max_three min_three max_four min_four
set_option linter.unusedVariables false
set_option linter.unusedSimpArgs false
def s19_.f (l0:List Int):Option (List Int×Int):=if (l0.length:Int)>2000 then (if 2000≤(l0.length:Int) then (some (l0.take 2000,0)) else (none)) else (some (l0,0))
theorem s19_.calls (A0:Option Addr) (c0:Nat) (l0:List Int) (r1:List Int) (r2:Int) (w0 w:World) (hB:Below w0.heap.size w0 w) (al:Kd.C (Kd.int .u8) w0 A0 l0.length l0) (am:l0.length≤c0) (h:s19_.f l0=some (r1,r2)) :
    Calls Try.prog 52 #[.slice A0 l0.length c0] w fun e w' => ∃ g_:Nat,e = .returned (.pointer (some ⟨g_,0,none⟩))∧IsS82 w0 w' g_ r1 r2∧Below w0.heap.size w0 w'∧Below w.heap.size w w':=by
 have au:=Try.underlying82;have an:=A0_ al;have aq:=A0_ am;clear al am
 have HBW:=A0_ (Below.refl w.heap.size w)
 have HW0:=A0_ hB.size;have HB:=A0_ hB;clear hB
 have H:(if (l0.length:Int)>2000 then (if 2000≤(l0.length:Int) then (some (l0.take 2000,0)) else (none)) else (some (l0,0)))=some (r1,r2):=h
 clear h
 by_cases c2:(l0.length:Int)>2000
 ·rw [if_pos c2] at H
  have ao:decide (2000<(l0.length:Int))=true:=dT c2
  have ap:decide (2000<l0.length)=true:=dT (by omega)
  clear c2
  have c3:=zpc H;replace H:=zph H
  have av:=eq_true c3;have aw:=dT c3;clear c3;simp only [Option.some.injEq,Prod.mk.injEq] at H;obtain⟨rfl,rfl⟩:=H;obtain⟨i04,ac,_,hsz4,_⟩:=info_parts info5
  obtain⟨hcut4,hA4,hC4⟩:=print_take_of (P:=Try.prog) (Value.int .u8) 0 22 5 .i64 Try.underlying22 ac hsz4 A0 c0 l0 2000 (by omega) (zd) aq.out
  have ae:=A0_ (Kd.C_of_reads (h1:=fun _=>rfl) (hA4 _ (Kd.reads_of_C an.out)))
  have ar:=A0_ hC4;clear hA4 hC4 ac hsz4
  go_enter Try.func52,Try.ntmps52
  go_wp2_with (first|((with_reducible refine gD (N:=10) rfl ?_);refine zX (N:=10) (cs := #[.slice A0 (l0.take 2000).length c0,.int .i64 0]) (t:=82) ?_;intro aa hg w5 hbox hb;replace HB:=zB HB hb;have af:=A0_ (hbox);have ag:=A0_ ((by rw [hg];exact(bZ (by repeat(first|(with_reducible first|exact HBW.out|apply bA|apply bN|apply bD)|exact HBW.out))):w.heap.size≤aa));have ah:=A0_ ((Nat.le_trans HW0.out (by rw [hg];exact(bZ (by repeat(first|(with_reducible first|exact HBW.out|apply bA|apply bN|apply bD)|exact HBW.out))):w.heap.size≤aa):w0.heap.size≤aa));replace HBW:=A0_ (bT HBW.out hb);clear hb hbox hg))
  go_ret
  exact⟨_,rfl,(show IsS82 w0 _ aa (l0.take 2000) 0 from⟨_,_,zK_ af,ah.out,ae.out⟩),zB_ HB,by repeat(first|(with_reducible first|exact HBW.out|apply bA|apply bN|apply bD|refine bS ?_ ag.out)|exact HBW.out)⟩
 rw [if_neg c2] at H
 have ao:decide (2000<(l0.length:Int))=false:=dF c2
 have ap:decide (2000<l0.length)=false:=dF (by omega)
 clear c2;simp only [Option.some.injEq,Prod.mk.injEq] at H;obtain⟨rfl,rfl⟩:=H
 go_enter Try.func52,Try.ntmps52
 go_wp2_with (first|((with_reducible refine gD (N:=10) rfl ?_);refine zX (N:=10) (cs := #[.slice A0 l0.length c0,.int .i64 0]) (t:=82) ?_;intro ab hg w6 hbox hb;replace HB:=zB HB hb;have ai:=A0_ (hbox);have aj:=A0_ ((by rw [hg];exact(bZ (by repeat(first|(with_reducible first|exact HBW.out|apply bA|apply bN|apply bD)|exact HBW.out))):w.heap.size≤ab));have ak:=A0_ ((Nat.le_trans HW0.out (by rw [hg];exact(bZ (by repeat(first|(with_reducible first|exact HBW.out|apply bA|apply bN|apply bD)|exact HBW.out))):w.heap.size≤ab):w0.heap.size≤ab));replace HBW:=A0_ (bT HBW.out hb);clear hb hbox hg))
 go_ret
 exact⟨_,rfl,(show IsS82 w0 _ ab l0 0 from⟨_,_,zK_ ai,ak.out,an.out⟩),zB_ HB,by repeat(first|(with_reducible first|exact HBW.out|apply bA|apply bN|apply bD|refine bS ?_ aj.out)|exact HBW.out)⟩
def sw_.f (k:Nat) (l0:List Int):Option (List Int×List Int×Int×(List (List Int))):=(s19_.f l0).bind fun ab=>((s1h_.f k ab.1 ab.2).bind fun aa=>(some (aa.1,aa.2.1,aa.2.2.1,aa.2.2.2.1)))
theorem sw_.calls (k:Nat) (A0:Option Addr) (c0:Nat) (l0:List Int) (r1:List Int) (r2:List Int) (r3:Int) (r4:List (List Int)) (w:World) (ay:Kd.C (Kd.int .u8) w A0 l0.length l0) (az:l0.length≤c0) (h:sw_.f k l0=some (r1,r2,r3,r4)) :
    Calls Try.prog 36 #[.slice A0 l0.length c0] w fun e w' => ∃ v0_ v1_ v3_:Value,e = .returned (.tuple #[.agg #[v0_,v1_],.int .i64 r3,v3_])∧Kd.Q (Kd.int .i64) 3 w' w.heap.size (fun k_=>some k_≠(v1_:Value).ownBlock) v0_ r1∧Kd.R (Kd.int .i64) 3 w' w.heap.size (fun k_=>some k_≠(v0_:Value).ownBlock) v1_ r2∧Kd.S (Kd.slice 3 (Kd.int .i64)) 23 w' w.heap.size (fun k_=>some k_≠(v0_:Value).ownBlock∧some k_≠(v1_:Value).ownBlock) v3_ r4∧Below w.heap.size w w':=by
 have aW:=Try.underlying25;have aJ:=A0_ ay;have aK:=A0_ az;clear ay az
 have HB:=A0_ (Below.refl w.heap.size w)
 have H:((s19_.f l0).bind fun ao=>((s1h_.f k ao.1 ao.2).bind fun ag=>(some (ag.1,ag.2.1,ag.2.2.1,ag.2.2.2.1))))=some (r1,r2,r3,r4):=h
 clear h;obtain⟨⟨au,av⟩,A2,H⟩:=zbind H;dsimp only at H;obtain⟨⟨ac,ah,aE,aG,aH⟩,A3,H⟩:=zbind H;dsimp only at H;simp only [Option.some.injEq,Prod.mk.injEq] at H;obtain⟨rfl,rfl,rfl,rfl⟩:=H
 go_enter Try.func36,Try.ntmps36
 go_wp2_with (first|((with_reducible refine gD (N:=2) rfl ?_);refine zX (N:=2) (cs := #[.slice none 0 0,.slice none 0 0]) (t:=25) ?_;intro ab hg w4 hbox hb;have aa:=A0_ (hbox);have aV:=zG hg HB;have ap:=zG hg HB;replace HB:=zB HB hb;clear hb hbox hg)|((with_reducible refine gC (f:=52) rfl ?_);refine zJ (some 6) Try.func52 #[.slice A0 l0.length c0] ?_;(with_reducible refine(s19_.calls _ _ l0 au av w _ ?ai ?aj ?aw A2.out).mono ?_);(case ai=>repeat(first|(with_reducible first|exact HB.out|apply bA|apply bN|apply bD|refine bS ?_ ap.out)|exact HB.out));(case aj=>exact aJ.out);(case aw=>exact aK.out);rintro e w5 ⟨g572,rfl,hi,hb,hb2⟩;refine⟨_,rfl,?_⟩;replace HB:=A0_ (hb);have HI572:=A0_ (hi);have ae:=A0_ (IsS82.ne_blk hi (kB (g:=ab) (o := .cells #[.slice none 0 0,.slice none 0 0] 25 (0,0)) (zK_ aa) hb2) (by decide));have af:=A0_ (Ne.symm (IsS82.ne_blk hi (kB (g:=ab) (o := .cells #[.slice none 0 0,.slice none 0 0] 25 (0,0)) (zK_ aa) hb2) (by decide)));replace aa:=A0_ (kB (g:=ab) (o := .cells #[.slice none 0 0,.slice none 0 0] 25 (0,0)) (zK_ aa) hb2);(try clear hb))|((with_reducible refine gC (f:=51) rfl ?_);refine zJ (some 7) Try.func51 #[.pointer (some ⟨g572,0,none⟩)] ?_;(with_reducible refine(s1h_.calls k g572 au av ac ah aE aG aH w _ ?ai ?aj A3.out).mono ?_);(case ai=>repeat(first|(with_reducible first|exact HI572.out|apply IsS82.alloc|apply IsS82.drewN|apply IsS82.drew|apply IsS82.set_1|refine IsS82.far ?_ ae.out _)|exact HI572.out));(case aj=>repeat(first|(with_reducible first|exact HB.out|apply bA|apply bN|apply bD|refine bS ?_ (IsS82.ge HI572.out)|refine bS ?_ ap.out)|exact HB.out));rintro e w6 ⟨aX,aY,aZ,rfl,aA,aC,aD,hi,hb,hk⟩;refine⟨_,rfl,?_⟩;replace aa:=A0_ (KeepBut.blk hk (g':=ab) (o := .cells #[.slice none 0 0,.slice none 0 0] 25 (0,0)) (zK_ aa) af.out (by simp));have aq:=A0_ (Kd.Q_lower aA (bZ (zBw HB)));have ar:=A0_ (rL aC (bZ (zBw HB)));have ax:=A0_ (Kd.S_lower aD (bZ (zBw HB)));replace HB:=A0_ (hb);replace HI572:=A0_ (hi);(try clear hb);(try clear aA);(try clear aC);(try clear aD);obtain⟨am,an,aM,_⟩:=Kd.Q_slice aq.out;subst aM;have a3:=af.out;have a4:=ae.out;have aN:=zc0 aa;have aQ:=zc1 aa;have aT:=kF aa.out 0;have aU:=kF aa.out 1;obtain⟨ak,al,aI⟩:=rS ar.out;subst aI))
 refine bodyPost_ret (results_ctt rfl _ _ ab 25 #[.slice am ac.length an,.slice ak ah.length al] (0,0) _ rfl (by refine zbp (cs := #[.slice am ac.length an,.slice none 0 0]) ?_ 1 _ rfl;refine zbp (cs := #[.slice none 0 0,.slice none 0 0]) ?_ 0 _ rfl;exact zK_ aa) Try.underlying25 rfl (by kernel_rfl)) rfl ?_
 exact⟨_,_,_,by first|rfl|(simp [*] <;> rfl),by(with_reducible repeat(first|apply Kd.Q_alloc|apply Kd.Q_drewN|apply Kd.Q_drew));exact Kd.Q_mono (Kd.Q_far (p:=⟨ab,1,none⟩) (Kd.Q_far (p:=⟨ab,0,none⟩) (Kd.Q_types aq.out aa.out (by decide)) (fun _ hk=>hk.2) (.slice am ac.length an)) (fun _ hk=>hk.2) (.slice ak ah.length al)) (fun _ hk=>hk.1),zF ar aa (.slice am ac.length an) (.slice ak ah.length al) 0 1,by(with_reducible repeat(first|apply sA|apply sN|apply sD));exact sM (Kd.S_far (p:=⟨ab,1,none⟩) (Kd.S_far (p:=⟨ab,0,none⟩) (Kd.S_types ax.out aa.out (by decide)) (fun _ hk=>hk.2) (.slice am ac.length an)) (fun _ hk=>hk.2) (.slice ak ah.length al)) (fun _ hk=>⟨hk.1.1,hk.1.2⟩),zBw HB⟩
mutual
def sz_.j0:Nat→Int→List (List Int)→Bool→Option (Bool)
  | 0,_,_,_=>none
  | k+1,x1,x2,aa=>if aa=true then (some false) else (sz_.l0 k x1 x2 0)
def sz_.l0:Nat→Int→List (List Int)→Int→Option (Bool)
  | 0,_,_,_=>none
  | k+1,x1,x2,x7=>if x7<(x2.length:Int) then (if 0≤x7 then ((sy_.f k (rd_L1 x2 x7)).bind fun aa=>(if aa=true then (if ((rd_L1 x2 x7).length:Int)=x1 then (sz_.l0 k x1 x2 (wrap64 (x7+1))) else (some false)) else (some false))) else (none)) else (some true)
end
def sz_.f (k:Nat) (aa:List Int) (ab:List Int) (a1:Int) (l2:List (List Int)):Option (Bool):=(sx_.f k aa ab).bind fun ac=>(if ac=true then ((s18_.f a1 1 6).bind fun ae=>(if ae=true then (if (wrap64 (a1*(aa.length:Int)))>12 then (sz_.j0 k a1 l2 true) else (sz_.j0 k a1 l2 ((l2.length:Int) != (wrap64 ((ab.length:Int) / 2))))) else (sz_.j0 k a1 l2 true))) else (sz_.j0 k a1 l2 true))
theorem sz_.calls (k:Nat) (ar:Option Addr) (au:Nat) (ae:List Int) (av:Option Addr) (aw:Nat) (af:List Int) (a1:Int) (A2:Option Addr) (c2:Nat) (l2:List (List Int)) (r:Bool) (w:World) (a4:Kd.C (Kd.int .i64) w ar ae.length ae) (a5:ae.length≤au) (a6:Kd.C (Kd.int .i64) w av af.length af) (a7:af.length≤aw) (bj:Kd.C (Kd.slice 3 (Kd.int .i64)) w A2 l2.length l2) (bk:l2.length≤c2) (h:sz_.f k ae af a1 l2=some r) :
    Calls Try.prog 56 #[.agg #[.slice ar ae.length au,.slice av af.length aw],.int .i64 a1,.slice A2 l2.length c2] w fun e w'=>e = .returned (.bool r)∧Below w.heap.size w w':=by
 have b2:=Try.underlying25;have aG:=A0_ a4;have aH:=A0_ a5;clear a4 a5;have aI:=A0_ a6;have aJ:=A0_ a7;clear a6 a7;have aW:=A0_ bj;have b3:=A0_ bk;clear bj bk
 have HB:=A0_ (Below.refl w.heap.size w)
 have H:((sx_.f k ae af).bind fun aY=>(if aY=true then ((s18_.f a1 1 6).bind fun aZ=>(if aZ=true then (if (wrap64 (a1*(ae.length:Int)))>12 then (sz_.j0 k a1 l2 true) else (sz_.j0 k a1 l2 ((l2.length:Int) != (wrap64 ((af.length:Int) / 2))))) else (sz_.j0 k a1 l2 true))) else (sz_.j0 k a1 l2 true)))=some r:=h
 clear h;have bc:=A0_ H;clear H
 go_enter Try.func56,Try.ntmps56
 go_upto_region 1 with(first|((with_reducible refine gD (N:=3) rfl ?_);refine zX (N:=3) (cs := #[.slice ar ae.length au,.slice av af.length aw]) (t:=25) ?_;intro a8 hg w5 hbox hb;have aa:=A0_ (hbox);have bW:=zG hg HB;have bX:=zG hg HB;replace HB:=zB HB hb;clear hb hbox hg))
 (try simp only [Act.put,List.setIfInBounds_toArray,List.set_cons_zero,List.set_cons_succ])
 go_cut [32] (fun v32 wc => ∃ (kq:Nat) (aK:Bool),v32 = .bool aK∧Aside0 (sz_.j0 kq a1 l2 aK=some r)∧Aside0 (kq≤k)∧Aside0 (wc.heap[a8]? = some (.cells #[(.slice ar ae.length au),(.slice av af.length aw)] 25 (0,0)))∧Aside0 (Below w.heap.size w wc))
 case first =>
  have H:=bc.out;clear bc;obtain⟨aY,A6,H⟩:=zbind H
  by_cases c7:aY=true
  ·subst c7
   rw [if_pos rfl] at H;obtain⟨aZ,A8,H⟩:=zbind H
   by_cases c9:aZ=true
   ·subst c9
    rw [if_pos rfl] at H
    by_cases aT:(wrap64 (a1*(ae.length:Int)))>12
    ·rw [if_pos aT] at H
     have aE:decide (12<(wrap64 (a1*(ae.length:Int))))=true:=dT aT
     clear aT
     (first|rw [aE]|(simp only [i64_w,i32_w];rw [aE])|skip)
     have H':=A0_ H;clear H;have bq:=zc0 aa;have br:=zc1 aa;have bu:=kF aa.out 0;have bv:=kF aa.out 1
     go_wp2_with (first|((with_reducible refine gC (f:=57) rfl ?_);refine zJ (some 9) Try.func57 #[.agg #[.slice ar ae.length au,.slice av af.length aw]] ?_;(with_reducible refine(sx_.calls k _ _ ae _ _ af true _ ?ag ?ah ?ax ?ay A6.out).mono ?_);(case ag=>exact zC aG HB);(case ah=>exact aH.out);(case ax=>exact zC aI HB);(case ay=>exact aJ.out);rintro e w12 ⟨rfl,hb⟩;refine⟨_,rfl,?_⟩;replace aa:=zK aa hb;replace HB:=zB HB hb;(try clear hb))|(go_at_call 101;(with_reducible refine(s18_.calls a1 1 6 true _ A8.out).mono ?_);rintro e w' ⟨rfl,⟨nd,rfl⟩⟩;have bw:=zc0 aa;have bx:=zc1 aa;have bz:=kF aa.out 0;have bB:=kF aa.out 1))
     go_meet
     case rel=>exact⟨_,(true),zt,H',zo,⟨zK_ aa⟩,⟨zB_ HB⟩⟩
    rw [if_neg aT] at H
    have aE:decide (12<(wrap64 (a1*(ae.length:Int))))=false:=dF aT
    clear aT
    (first|rw [aE]|(simp only [i64_w,i32_w];rw [aE])|skip)
    have H':=A0_ H;clear H;have bC:=zc0 aa;have bE:=zc1 aa;have bF:=kF aa.out 0;have bG:=kF aa.out 1
    go_wp2_with (first|((with_reducible refine gC (f:=57) rfl ?_);refine zJ (some 9) Try.func57 #[.agg #[.slice ar ae.length au,.slice av af.length aw]] ?_;(with_reducible refine(sx_.calls k _ _ ae _ _ af true _ ?ag ?ah ?ax ?ay A6.out).mono ?_);(case ag=>exact zC aG HB);(case ah=>exact aH.out);(case ax=>exact zC aI HB);(case ay=>exact aJ.out);rintro e w15 ⟨rfl,hb⟩;refine⟨_,rfl,?_⟩;replace aa:=zK aa hb;replace HB:=zB HB hb;(try clear hb))|(go_at_call 101;(with_reducible refine(s18_.calls a1 1 6 true _ A8.out).mono ?_);rintro e w' ⟨rfl,⟨nd,rfl⟩⟩;have bH:=zc0 aa;have bI:=zc1 aa;have bJ:=kF aa.out 0;have bK:=kF aa.out 1))
    go_meet
    case rel=>exact⟨_,(((l2.length:Int) != (wrap64 ((af.length:Int) / 2)))),zt,H',zo,⟨zK_ aa⟩,⟨zB_ HB⟩⟩
   replace c9:=Bool.eq_false_iff.mpr c9;subst c9
   rw [if_neg (show ¬ (false=true) by decide)] at H
   have H':=A0_ H;clear H;have bL:=zc0 aa;have bM:=zc1 aa;have bO:=kF aa.out 0;have bP:=kF aa.out 1
   go_wp2_with (first|((with_reducible refine gC (f:=57) rfl ?_);refine zJ (some 9) Try.func57 #[.agg #[.slice ar ae.length au,.slice av af.length aw]] ?_;(with_reducible refine(sx_.calls k _ _ ae _ _ af true _ ?ag ?ah ?ax ?ay A6.out).mono ?_);(case ag=>exact zC aG HB);(case ah=>exact aH.out);(case ax=>exact zC aI HB);(case ay=>exact aJ.out);rintro e w18 ⟨rfl,hb⟩;refine⟨_,rfl,?_⟩;replace aa:=zK aa hb;replace HB:=zB HB hb;(try clear hb))|(go_at_call 101;(with_reducible refine(s18_.calls a1 1 6 false _ A8.out).mono ?_);rintro e w' ⟨rfl,⟨nd,rfl⟩⟩))
   go_meet
   case rel=>exact⟨_,(true),zt,H',zo,⟨zK_ aa⟩,⟨zB_ HB⟩⟩
  replace c7:=Bool.eq_false_iff.mpr c7;subst c7
  rw [if_neg (show ¬ (false=true) by decide)] at H
  have H':=A0_ H;clear H;have bQ:=zc0 aa;have bR:=zc1 aa;have bU:=kF aa.out 0;have bV:=kF aa.out 1
  go_wp2_with (first|((with_reducible refine gC (f:=57) rfl ?_);refine zJ (some 9) Try.func57 #[.agg #[.slice ar ae.length au,.slice av af.length aw]] ?_;(with_reducible refine(sx_.calls k _ _ ae _ _ af false _ ?ag ?ah ?ax ?ay A6.out).mono ?_);(case ag=>exact zC aG HB);(case ah=>exact aH.out);(case ax=>exact zC aI HB);(case ay=>exact aJ.out);rintro e w20 ⟨rfl,hb⟩;refine⟨_,rfl,?_⟩;replace aa:=zK aa hb;replace HB:=zB HB hb;(try clear hb)))
  go_meet
  case rel=>exact⟨_,(true),zt,H',zo,⟨zK_ aa⟩,⟨zB_ HB⟩⟩
 case rest =>
  clear bc;(try clear c2);obtain⟨kq,aK,rfl,HA,bl,aa,HB⟩:=hcut
  cases kq with
  | zero=>exact absurd HA.out (by simp [sz_.j0])
  | succ bm =>
   have H:=HA.out;clear HA;simp only [sz_.j0] at H
   by_cases aX:aK=true
   ·subst aX
    rw [if_pos rfl] at H;obtain rfl:=sI H
    go_wp2
    go_ret
    exact⟨by first|rfl|(simp [*] <;> rfl),zB_ HB⟩
   replace aX:=Bool.eq_false_iff.mpr aX;subst aX
   rw [if_neg (show ¬ (false=true) by decide)] at H
   have H':=A0_ H;clear H
   go_wp2
   go_loopg [7] bm (fun kq v7 w' => ∃ (ab:Int),v7 = .int .i64 ab∧Aside0 (sz_.l0 kq a1 l2 ab=some r)∧Aside0 (kq≤bm)∧Aside0 (w'.heap[a8]? = some (.cells #[(.slice ar ae.length au),(.slice av af.length aw)] 25 (0,0)))∧Aside0 (Below w.heap.size w w'))
   case atStart=>exact⟨(0),zt,H',⟨Nat.le_refl _⟩,⟨zK_ aa⟩,⟨zB_ HB⟩⟩
   case round =>
    clear H';(try clear c2);(try clear aX);obtain⟨ab,rfl,HA,bn,aa,HB⟩:=hrel
    cases gk with
    | zero=>exact absurd HA.out (by simp [sz_.l0])
    | succ k2 =>
     have H:=HA.out;clear HA;simp only [sz_.l0] at H
     by_cases aU:ab<(l2.length:Int)
     ·rw [if_pos aU] at H
      have bg:=dT aU;clear aU
      have bo:=zpc H;replace H:=zph H
      have bY:=dT bo;clear bo;obtain⟨bp,bd,H⟩:=zbind H
      by_cases a9:bp=true
      ·subst a9
       rw [if_pos rfl] at H
       by_cases aN:((rd_L1 l2 ab).length:Int)=a1
       ·rw [if_pos aN] at H
        have bh:(((rd_L1 l2 ab).length:Int) == a1)=true:=beq_iff_eq.mpr aN
        have bi:(((rd_L1 l2 ab).length:Int) != a1)=false:=bne_eq_false_iff_eq.mpr aN
        clear aN;have H':=A0_ H;clear H
        have al:0≤(ab:Int):=zd
        have am:ab<(l2.length:Int):=zd
        obtain⟨aM,az,aA,aQ,ac,aj,ak⟩:=at_L1 aW.out ab al am
        cases aQ
        try replace ac:=(HB.out.cell (wL w _ ac)).trans ac
        have an:=A0_ ak;have ao:=A0_ aj;clear ak aj;replace al:=eq_true al;replace am:=eq_true am
        go_wp2_with (first|((with_reducible refine gC (f:=89) rfl ?_);refine zJ (some 43) Try.func89 #[.slice az (rd_L1 l2 ab).length aA] ?_;(with_reducible refine(sy_.calls k2 _ _ (rd_L1 l2 ab) true _ ?ag ?ah bd.out).mono ?_);(case ag=>exact zC an HB);(case ah=>exact ao.out);rintro e w' ⟨rfl,⟨nd,rfl⟩⟩;refine⟨_,rfl,?_⟩;have aC:0≤(ab:Int):=zd;have aD:ab<(l2.length:Int):=zd;obtain⟨aV,be,bf,a3,ai,ap,aq⟩:=at_L1 aW.out ab aC aD;obtain rfl:aM=aV:=(by injection a3);try replace ai:=(HB.out.cell (wL w _ ai)).trans ai;have ba:=A0_ aq;have bb:=A0_ ap;clear aq ap;replace aC:=eq_true aC;replace aD:=eq_true aD;have ea_:=sI (ac.symm.trans ai);injection ea_ with ea_ en_ ec_;subst ea_;subst ec_;clear en_))
        go_roundg k2
        case measure=>have:=bl.out;have:=bn.out;omega
        case rel=>exact⟨(wrap64 (ab+1)),zt,H',⟨by have:=bl.out;have:=bn.out;omega⟩,⟨zK_ aa⟩,⟨zB_ HB⟩⟩
       rw [if_neg aN] at H
       have bh:(((rd_L1 l2 ab).length:Int) == a1)=false:=beq_eq_false_iff_ne.mpr aN
       have bi:(((rd_L1 l2 ab).length:Int) != a1)=true:=bne_iff_ne.mpr aN
       obtain rfl:=sI H
       have al:0≤(ab:Int):=zd
       have am:ab<(l2.length:Int):=zd
       obtain⟨aM,az,aA,aQ,ac,aj,ak⟩:=at_L1 aW.out ab al am
       cases aQ
       try replace ac:=(HB.out.cell (wL w _ ac)).trans ac
       have an:=A0_ ak;have ao:=A0_ aj;clear ak aj;replace al:=eq_true al;replace am:=eq_true am
       go_wp2_with (first|((with_reducible refine gC (f:=89) rfl ?_);refine zJ (some 43) Try.func89 #[.slice az (rd_L1 l2 ab).length aA] ?_;(with_reducible refine(sy_.calls k2 _ _ (rd_L1 l2 ab) true _ ?ag ?ah bd.out).mono ?_);(case ag=>exact zC an HB);(case ah=>exact ao.out);rintro e w' ⟨rfl,⟨nd,rfl⟩⟩;refine⟨_,rfl,?_⟩;have aC:0≤(ab:Int):=zd;have aD:ab<(l2.length:Int):=zd;obtain⟨aV,be,bf,a3,ai,ap,aq⟩:=at_L1 aW.out ab aC aD;obtain rfl:aM=aV:=(by injection a3);try replace ai:=(HB.out.cell (wL w _ ai)).trans ai;have ba:=A0_ aq;have bb:=A0_ ap;clear aq ap;replace aC:=eq_true aC;replace aD:=eq_true aD;have ea_:=sI (ac.symm.trans ai);injection ea_ with ea_ en_ ec_;subst ea_;subst ec_;clear en_))
       go_ret
       exact⟨by first|rfl|(simp [*] <;> rfl),zB_ HB⟩
      replace a9:=Bool.eq_false_iff.mpr a9;subst a9
      rw [if_neg (show ¬ (false=true) by decide)] at H
      obtain rfl:=sI H
      have al:0≤(ab:Int):=zd
      have am:ab<(l2.length:Int):=zd
      obtain⟨aM,az,aA,aQ,ac,aj,ak⟩:=at_L1 aW.out ab al am
      cases aQ
      try replace ac:=(HB.out.cell (wL w _ ac)).trans ac
      have an:=A0_ ak;have ao:=A0_ aj;clear ak aj;replace al:=eq_true al;replace am:=eq_true am
      go_wp2_with (first|((with_reducible refine gC (f:=89) rfl ?_);refine zJ (some 43) Try.func89 #[.slice az (rd_L1 l2 ab).length aA] ?_;(with_reducible refine(sy_.calls k2 _ _ (rd_L1 l2 ab) false _ ?ag ?ah bd.out).mono ?_);(case ag=>exact zC an HB);(case ah=>exact ao.out);rintro e w' ⟨rfl,⟨nd,rfl⟩⟩;refine⟨_,rfl,?_⟩))
      go_ret
      exact⟨by first|rfl|(simp [*] <;> rfl),zB_ HB⟩
     rw [if_neg aU] at H;have bg:=dF aU;clear aU;obtain rfl:=sI H
     go_wp2
     go_ret
     exact⟨by first|rfl|(simp [*] <;> rfl),zB_ HB⟩
def s13_.l0:Nat→List Int→List Int→List Int→Int→Option (List Int)
  | 0,_,_,_,_=>none
  | k+1,x0,x1,x5,x6=>if x6<(x0.length:Int) then (if 0≤x6 then (if 0≤(rd x0 x6) then (if (rd x0 x6)<(x1.length:Int) then (if x5.length<17592186044416 then (s13_.l0 k x0 x1 (x5 ++ [rd x1 (rd x0 x6)]) (wrap64 (x6+1))) else (none)) else (none)) else (none)) else (none)) else (some x5)
def s13_.f (k:Nat) (l0:List Int) (l1:List Int):Option (List Int):=s13_.l0 k l0 l1 (([]:List Int)) 0
theorem s13_.calls (k:Nat) (A0:Option Addr) (c0:Nat) (l0:List Int) (A1:Option Addr) (c1:Nat) (l1:List Int) (r:List Int) (w:World) (av:Kd.C (Kd.int .i64) w A0 l0.length l0) (aw:l0.length≤c0) (ax:Kd.C (Kd.int .i64) w A1 l1.length l1) (ay:l1.length≤c1) (h:s13_.f k l0 l1=some r) :
    Calls Try.prog 82 #[.slice A0 l0.length c0,.slice A1 l1.length c1] w fun e w' => ∃ v0_:Value,e = .returned (v0_)∧Kd.R (Kd.int .i64) 3 w' w.heap.size (fun _=>True) v0_ r∧Below w.heap.size w w':=by
 have aG:=A0_ av;have aU:=A0_ aw;clear av aw;have aH:=A0_ ax;have aV:=A0_ ay;clear ax ay
 have HB:=A0_ (Below.refl w.heap.size w)
 have H:(s13_.l0 k l0 l1 (([]:List Int)) 0)=some r:=h
 clear h
 obtain⟨ao,af⟩ : ∃ y_:List Int,y_=(([]:List Int)):=⟨_,rfl⟩
 replace H:(s13_.l0 k l0 l1 ao 0)=some r:=zH af H
 have an:=A0_ af;clear af;have H':=A0_ H;clear H
 go_enter Try.func82,Try.ntmps82
 go_wp2_with (first|((with_reducible refine gD (N:=7) rfl ?_);refine Kd.R_lit (Kd.int .i64) _ 3 ?hg (N:=7) ?hd (xs:=([]:List Int)) (inner := []) (ok:=fun _=>True) (okp:=fun _=>True) ?hr ?hp (fun _ hk=>hk) trivial (Below.refl _ _) (Nat.le_refl _) (by simp) ?_;(case hd=>rfl);(case hg=>rfl);(case hr=>first|(go_simp;done)|(go_simp;rfl));(case hp=>exact(Reps.none _ _));intro aK w3 ah hb hg_ hnew_;clear hg_ hnew_;(first|rw [← an.out] at ah|(simp only [Int.reduceToNat] at ah;rw [← an.out] at ah));have aq:=A0_ (rL ah (bZ (zB_ HB)));replace HB:=zB HB hb;clear hb ah))
 go_loopg [5,6] k (fun kq v5 v6 w' => ∃ (ae:List Int) (aa:Int),v6 = .int .i64 aa∧Aside0 (s13_.l0 kq l0 l1 ae aa=some r)∧Aside0 (kq≤k)∧Aside0 (Kd.R (Kd.int .i64) 3 w' w.heap.size (fun _=>True) v5 ae)∧Aside0 (Below w.heap.size w w'))
 case atStart=>exact⟨(ao),(0),zt,H',⟨Nat.le_refl _⟩,⟨zR_ aq⟩,⟨zB_ HB⟩⟩
 case round =>
  clear H';(try clear c1);obtain⟨ae,aa,rfl,HA,az,ai,HB⟩:=hrel
  cases gk with
  | zero=>exact absurd HA.out (by simp [s13_.l0])
  | succ k1 =>
   have H:=HA.out;clear HA;simp only [s13_.l0] at H
   by_cases c5:aa<(l0.length:Int)
   ·rw [if_pos c5] at H
    have aA:=dT c5;clear c5
    have c6:=zpc H;replace H:=zph H
    have aM:=dT c6;clear c6
    have c7:=zpc H;replace H:=zph H
    have aN:=dT c7;clear c7
    have c8:=zpc H;replace H:=zph H
    have aQ:=dT c8;clear c8
    have c9:=zpc H;replace H:=zph H
    have aC:=A0_ c9;clear c9
    obtain⟨ap,ag⟩ : ∃ y_:List Int,y_=(ae ++ [rd l1 (rd l0 aa)]):=⟨_,rfl⟩
    replace H:(s13_.l0 k1 l0 l1 ap (wrap64 (aa+1)))=some r:=zH ag H
    have ar:=A0_ ag;clear ag;have H':=A0_ H;clear H
    have aj:0≤(aa:Int):=zd
    have ak:aa<(l0.length:Int):=zd
    obtain⟨aI,aD,ab⟩:=tI aG.out aa aj ak
    cases aD
    try replace ab:=(HB.out.cell (wL w _ ab)).trans ab
    replace aj:=eq_true aj;replace ak:=eq_true ak
    have al:0≤((rd l0 aa):Int):=zd
    have am:(rd l0 aa)<(l1.length:Int):=zd
    obtain⟨aJ,aE,ac⟩:=tI aH.out (rd l0 aa) al am
    cases aE
    try replace ac:=(HB.out.cell (wL w _ ac)).trans ac
    replace al:=eq_true al;replace am:=eq_true am
    go_wp2_with (first|((with_reducible refine gB (b := .append) (xs := #[.tmp 14,.tmp 22]) rfl ?_);at_builtin;refine Kd.R_append (Kd.int .i64) (w0:=w) w.heap.size rfl (.tmp 14) (.tmp 22) 23 3 (.int .i64 0) 8 rfl Try.underlying23 info3 rfl (by decide) (by omega) u5 ae (rd l1 (rd l0 aa)) [.int .i64 (rd l1 (rd l0 aa))] (fun _=>True) (fun _=>False) rfl rfl ?aP (fun _ hk=>hk.elim) ?aF ?aO ?aB ?aS ?aL ?_;(case aP=>exact rfl);(case aB=>exact(zB_ HB));(case aF=>exact(fun _ _=>trivial));(case aO=>exact(zR_ ai));(case aS=>exact(bZ (zB_ HB)));(case aL=>have:=aC.out;omega);intro aT w10 ho hb hg hat;rw [← ar.out] at ho;replace HB:=A0_ (hb);have au:=A0_ (ho);clear ai ho hb hg hat))
    go_roundg k1
    case measure=>have:=az.out;omega
    case rel=>exact⟨(ap),(wrap64 (aa+1)),zt,H',⟨by have:=az.out;omega⟩,⟨zR_ au⟩,⟨zB_ HB⟩⟩
   rw [if_neg c5] at H;have aA:=dF c5;clear c5;obtain rfl:=sI H
   go_wp2
   go_ret
   exact⟨_,by first|rfl|(simp [*] <;> rfl),zR_ ai,zB_ HB⟩
mutual
def s12_.l0:Nat→List Int→List (List Int)→List Bool→Int→Option ((List (List Int)))
  | 0,_,_,_,_=>none
  | k+1,x0,x3,x4,x5=>if x5<(x0.length:Int) then (if 0≤x5 then (if x5<(x4.length:Int) then (if rdOf false x4 x5=true then (s12_.l0 k x0 x3 x4 (wrap64 (x5+1))) else (s12_.l1 k x0 x3 x4 x5 (([]:List Int)) x5)) else (none)) else (none)) else (some x3)
def s12_.l1:Nat→List Int→List (List Int)→List Bool→Int→List Int→Int→Option ((List (List Int)))
  | 0,_,_,_,_,_,_=>none
  | k+1,x0,x3,x4,x5,x6,x7=>if 0≤x7 then (if x7<(x4.length:Int) then (if rdOf false x4 x7=true then (if x3.length<5864062014805 then (s12_.l0 k x0 (x3 ++ [x6]) x4 (wrap64 (x5+1))) else (none)) else (if x6.length<17592186044416 then (if x7<(x0.length:Int) then (s12_.l1 k x0 x3 (x4.set (x7:Int).toNat true) x5 (x6 ++ [x7]) (rd x0 x7)) else (none)) else (none))) else (none)) else (none)
end
def s12_.f (k:Nat) (l0:List Int):Option ((List (List Int))):=if 0≤(l0.length:Int) then (if ((l0.length:Int):Int).toNat≤281474976710656 then (s12_.l0 k l0 (([]:List (List Int))) (List.replicate ((l0.length:Int):Int).toNat false) 0) else (none)) else (none)
theorem s12_.calls (k:Nat) (A0:Option Addr) (c0:Nat) (l0:List Int) (r:List (List Int)) (w:World) (bB:Kd.C (Kd.int .i64) w A0 l0.length l0) (bC:l0.length≤c0) (h:s12_.f k l0=some r) :
    Calls Try.prog 71 #[.slice A0 l0.length c0] w fun e w' => ∃ v0_:Value,e = .returned (v0_)∧Kd.S (Kd.slice 3 (Kd.int .i64)) 23 w' w.heap.size (fun _=>True) v0_ r∧Below w.heap.size w w':=by
 have bQ:=A0_ bB;have b8:=A0_ bC;clear bB bC
 have HB:=A0_ (Below.refl w.heap.size w)
 have H:(if 0≤(l0.length:Int) then (if ((l0.length:Int):Int).toNat≤281474976710656 then (s12_.l0 k l0 (([]:List (List Int))) (List.replicate ((l0.length:Int):Int).toNat false) 0) else (none)) else (none))=some r:=h
 clear h
 obtain⟨aQ,ay⟩ : ∃ y_:List (List Int),y_=(([]:List (List Int))):=⟨_,rfl⟩
 replace H:(if 0≤(l0.length:Int) then (if ((l0.length:Int):Int).toNat≤281474976710656 then (s12_.l0 k l0 aQ (List.replicate ((l0.length:Int):Int).toNat false) 0) else (none)) else (none))=some r:=zH ay H
 have aX:=A0_ ay;clear ay
 have c2:=zpc H;replace H:=zph H
 have a5:=eq_true c2;have a6:=dT c2;clear c2
 have c3:=zpc H;replace H:=zph H
 have a7:=eq_true c3;have a8:=dT c3;clear c3
 obtain⟨a9,az⟩ : ∃ y_:List Bool,y_=(List.replicate ((l0.length:Int):Int).toNat false):=⟨_,rfl⟩
 replace H:(s12_.l0 k l0 aQ a9 0)=some r:=zH az H
 have aY:=A0_ az;clear az;have H':=A0_ H;clear H
 go_enter Try.func71,Try.ntmps71
 go_wp2_with (first|((with_reducible refine gD (N:=8) rfl ?_);refine Kd.S_lit (Kd.slice 3 (Kd.int .i64)) _ 23 ?hg (N:=8) ?hd (xs:=([]:List (List Int))) (inner := []) (ok:=fun _=>True) (okp:=fun _=>True) ?hr ?hp (fun _ hk=>hk) trivial (Below.refl _ _) (Nat.le_refl _) (by simp) ?_;(case hd=>rfl);(case hg=>rfl);(case hr=>first|(go_simp;done)|(go_simp;rfl));(case hp=>exact(Reps.none _ _));intro bX w4 aK hb hg_ hnew_;clear hg_ hnew_;(first|rw [← aX.out] at aK|(simp only [Int.reduceToNat] at aK;rw [← aX.out] at aK));have aA:=A0_ (Kd.S_lower aK (bZ (zB_ HB)));replace HB:=zB HB hb;clear hb aK)|((with_reducible refine gD (N:=11) rfl ?_);refine Kd.R_make Kd.bool _ 4 rfl (N:=11) rfl 60 _ _ rfl (l0.length:Int) rfl rfl Try.underlying60 (.bool false) 1 info4 rfl (by decide) (by omega) false (ok:=fun _=>True) (okp:=fun _=>True) rfl (fun _ hk=>hk) trivial (zd) (Nat.le_trans (Nat.mul_le_mul_right _ (zd:(l0.length:Int).toNat≤281474976710656)) (by omega)) (Below.refl _ _) (Nat.le_refl _) ?_;intro bJ w6 aM hb hg_ hnew_;clear hg_ hnew_;(first|rw [← aY.out] at aM|(simp only [Int.reduceToNat] at aM;rw [← aY.out] at aM));replace aA:=zS aA hb;have bl:=A0_ (rL aM (bZ (zB_ HB)));replace HB:=zB HB hb;clear hb aM))
 go_loopg [3,5] k (fun kq v3 v5 w' => ∃ (ag:List (List Int)) (aj:List Bool) (ab:Int),v5 = .int .i64 ab∧Aside0 (s12_.l0 kq l0 ag aj ab=some r)∧Aside0 (kq≤k)∧Aside0 (Kd.S (Kd.slice 3 (Kd.int .i64)) 23 w' w.heap.size (fun _=>True) v3 ag)∧Aside0 (Kd.R Kd.bool 4 w' w.heap.size (fun _=>True) bJ aj)∧Aside0 (Below w.heap.size w w'))
 case atStart=>exact⟨(aQ),(a9),(0),zt,H',⟨Nat.le_refl _⟩,⟨zS_ aA⟩,⟨zR_ bl⟩,⟨zB_ HB⟩⟩
 case round =>
  clear H';(try clear c2);(try clear a5);(try clear a6);(try clear c3);(try clear a7);(try clear a8);obtain⟨ag,aj,ab,rfl,HA,ax,ae,ac,HB⟩:=hrel
  cases gk with
  | zero=>exact absurd HA.out (by simp [s12_.l0])
  | succ k1 =>
   have H:=HA.out;clear HA;simp only [s12_.l0] at H
   by_cases c8:ab<(l0.length:Int)
   ·rw [if_pos c8] at H
    have ba:=dT c8;clear c8
    have c9:=zpc H;replace H:=zph H
    have bK:=dT c9;clear c9
    have bb:=zpc H;replace H:=zph H
    have bm:=dT bb;clear bb
    obtain⟨bq11,hbq11⟩ : ∃ b_:Bool,b_=(rdOf false aj ab):=⟨_,rfl⟩
    replace H:(if bq11=true then (s12_.l0 k1 l0 ag aj (wrap64 (ab+1))) else (s12_.l1 k1 l0 ag aj ab (([]:List Int)) ab))=some r:=by rw [← hbq11] at H;exact H
    have Nbq11:=A0_ hbq11;clear hbq11
    by_cases aN:bq11=true
    ·subst aN
     rw [if_pos rfl] at H;have H':=A0_ H;clear H;obtain⟨bY,b2,bL⟩:=rS ac.out;subst bL
     have an:0≤(ab:Int):=zd
     have ao:ab<(aj.length:Int):=zd
     obtain⟨ar,aT,am⟩:=Kd.at_bool (rR ac.out).2.2 ab an ao
     (try rw [← Nbq11.out] at am)
     cases aT
     replace an:=eq_true an;replace ao:=eq_true ao
     go_wp2
     go_roundg k1
     case measure=>have:=ax.out;omega
     case rel=>exact⟨(ag),(aj),(wrap64 (ab+1)),zt,H',⟨by have:=ax.out;omega⟩,⟨zS_ ae⟩,⟨zR_ ac⟩,⟨zB_ HB⟩⟩
    replace aN:=Bool.eq_false_iff.mpr aN;subst aN
    rw [if_neg (show ¬ (false=true) by decide)] at H
    obtain⟨bc,aC⟩ : ∃ y_:List Int,y_=(([]:List Int)):=⟨_,rfl⟩
    replace H:(s12_.l1 k1 l0 ag aj ab bc ab)=some r:=zH aC H
    have aZ:=A0_ aC;clear aC;have H':=A0_ H;clear H;obtain⟨b3,aD,bM⟩:=rS ac.out;subst bM
    have an:0≤(ab:Int):=zd
    have ao:ab<(aj.length:Int):=zd
    obtain⟨ar,aT,am⟩:=Kd.at_bool (rR ac.out).2.2 ab an ao
    (try rw [← Nbq11.out] at am)
    cases aT
    replace an:=eq_true an;replace ao:=eq_true ao
    go_wp2_with (first|((with_reducible refine gD (N:=22) rfl ?_);refine Kd.R_lit (Kd.int .i64) _ 3 ?hg (N:=22) ?hd (xs:=([]:List Int)) (inner := []) (ok:=fun _=>True) (okp:=fun _=>True) ?hr ?hp (fun _ hk=>hk) trivial (Below.refl _ _) (Nat.le_refl _) (by simp) ?_;(case hd=>rfl);(case hg=>rfl);(case hr=>first|(go_simp;done)|(go_simp;rfl));(case hp=>exact(Reps.none _ _));intro b4 w15 au hb hg_ hnew_;clear hg_ hnew_;(first|rw [← aZ.out] at au|(simp only [Int.reduceToNat] at au;rw [← aZ.out] at au));replace ae:=A0_ (Kd.S_elder' (zS_ ae) (Kd.R_base au) hb);replace ac:=zR ac hb;have bn:=A0_ (rL au (bZ (zB_ HB)));replace HB:=zB HB hb;clear hb au))
    (try generalize Value.pointer (some (ar.add (ab:Int).toNat))=pz_)
    go_loopg [6,7] k1 (fun kq v6 v7 w' => ∃ (ah:List Bool) (ai:List Int) (aa:Int),v7 = .int .i64 aa∧Aside0 (s12_.l1 kq l0 ag ah ab ai aa=some r)∧Aside0 (kq≤k1)∧Aside0 (Kd.S (Kd.slice 3 (Kd.int .i64)) 23 w' w.heap.size (fun k_=>some k_≠(v6:Value).ownBlock) u3 ag)∧Aside0 (Kd.R Kd.bool 4 w' w.heap.size (fun _=>True) (.slice (some ar) aj.length aD) ah)∧Aside0 (Kd.R (Kd.int .i64) 3 w' w.heap.size (fun _=>True) v6 ai)∧Aside0 (Below w.heap.size w w'))
    case atStart=>exact⟨(aj),(bc),(ab),zt,H',⟨Nat.le_refl _⟩,⟨zmS ae (fun _ hk=>hk.2)⟩,⟨zR_ ac⟩,⟨zR_ bn⟩,⟨zB_ HB⟩⟩
    case round =>
     clear H';(try clear c2);(try clear a5);(try clear a6);(try clear c3);(try clear a7);(try clear a8);(try clear c8);(try clear ba);(try clear c9);(try clear bK);(try clear bb);(try clear bm);(try clear aN);(try clear am);(try clear an);(try clear ao);obtain⟨ah,ai,aa,rfl,HA,a3,ae,ac,al,HB⟩:=hrel;have af:=(rR ac.out).1;rw [af] at ac;(try simp only [af]);(try simp only [af] at ae);(try simp only [af] at al)
     cases gk with
     | zero=>exact absurd HA.out (by simp [s12_.l1])
     | succ k2 =>
      have H:=HA.out;clear HA;simp only [s12_.l1] at H
      have bE:=zpc H;replace H:=zph H
      have bV:=dT bE;clear bE
      have bF:=zpc H;replace H:=zph H
      have bo:=dT bF;(try simp only [af] at bo);clear bF
      obtain⟨bq19,hbq19⟩ : ∃ b_:Bool,b_=(rdOf false ah aa):=⟨_,rfl⟩
      replace H:(if bq19=true then (if ag.length<5864062014805 then (s12_.l0 k2 l0 (ag ++ [ai]) ah (wrap64 (ab+1))) else (none)) else (if ai.length<17592186044416 then (if aa<(l0.length:Int) then (s12_.l1 k2 l0 ag (ah.set (aa:Int).toNat true) ab (ai ++ [aa]) (rd l0 aa)) else (none)) else (none)))=some r:=by rw [← hbq19] at H;exact H
      have Nbq19:=A0_ hbq19;clear hbq19
      by_cases a4:bq19=true
      ·subst a4
       rw [if_pos rfl] at H
       have bG:=zpc H;replace H:=zph H
       have bp:=A0_ bG;clear bG
       obtain⟨bd,aE⟩ : ∃ y_:List (List Int),y_=(ag ++ [ai]):=⟨_,rfl⟩
       replace H:(s12_.l0 k2 l0 bd ah (wrap64 (ab+1)))=some r:=zH aE H
       have bq:=A0_ aE;clear aE;have H':=A0_ H;clear H
       have ap:0≤(aa:Int):=zd
       have aq:aa<(ah.length:Int):=zd
       obtain⟨aG,aU,ak⟩:=Kd.at_bool (rR ac.out).2.2 aa ap aq
       (try rw [← Nbq11.out] at ak)
       (try rw [← Nbq19.out] at ak)
       obtain rfl:ar=aG:=(by injection aU)
       replace ap:=eq_true ap;replace aq:=eq_true aq;obtain⟨be,bf,bO⟩:=rS al.out;subst bO
       go_wp2_with (first|((with_reducible refine gB (b := .append) (xs := #[.tmp 40,.tmp 42]) rfl ?_);at_builtin;refine Kd.S_append (Kd.slice 3 (Kd.int .i64)) (w0:=w) w.heap.size rfl (.tmp 40) (.tmp 42) 26 23 (.slice none 0 0) 24 rfl Try.underlying26 info23 rfl (by decide) (by omega) u3 ag ai [.slice be ai.length bf] (fun _=>True) (fun k_=>some k_=(.slice be ai.length bf:Value).ownBlock) rfl rfl ?aP (fun k_ hk_=>((rM (ok':=fun k_=>((fun _=>True)) k_∧some k_≠(u3:Value).ownBlock) (Kd.R_apart' (al.out) (Kd.S_typed ae.out) (by decide)) (fun k_ hk=>⟨trivial,hk.2⟩))).1 k_ hk_.symm) ?aF ?aO ?aB ?aS ?aL ?_;(case aP=>exact Kd.M_row (rM (Kd.R_tight rfl (rM (ok':=fun k_=>((fun _=>True)) k_∧some k_≠(u3:Value).ownBlock) (Kd.R_apart' (al.out) (Kd.S_typed ae.out) (by decide)) (fun k_ hk=>⟨trivial,hk.2⟩))) (fun _ h_=>h_)));(case aB=>exact(zB_ HB));(case aF=>exact(fun _ _=>trivial));(case aO=>exact(zmS ae (fun k_ hk=>⟨trivial,fun e_=>hk e_⟩)));(case aS=>exact(bZ (zB_ HB)));(case aL=>have:=bp.out;omega);intro b5 w22 ho hb hg hat;rw [← bq.out] at ho;replace ac:=A0_ (Kd.R_over' (zR_ ac) (Kd.S_typed (zS_ ae)) (by decide) hg);replace HB:=A0_ (hb);have br:=A0_ (ho);clear ae al ho hb hg hat))
       (try simp only [← af])
       go_roundg k2
       case measure=>have:=ax.out;have:=a3.out;omega
       case rel=>exact⟨(bd),(ah),(wrap64 (ab+1)),zt,H',⟨by have:=ax.out;have:=a3.out;omega⟩,⟨by(try simp only [af]);(with_reducible repeat(first|apply sA|apply sN|apply sD));exact br.out⟩,⟨by(try simp only [af]);(with_reducible repeat(first|apply rA|apply rN|apply rD));exact ac.out⟩,⟨zB_ HB⟩⟩
      replace a4:=Bool.eq_false_iff.mpr a4;subst a4
      rw [if_neg (show ¬ (false=true) by decide)] at H
      obtain⟨aH,aI⟩ : ∃ y_:List Bool,y_=(ah.set (aa:Int).toNat true):=⟨_,rfl⟩
      replace H:(if ai.length<17592186044416 then (if aa<(l0.length:Int) then (s12_.l1 k2 l0 ag aH ab (ai ++ [aa]) (rd l0 aa)) else (none)) else (none))=some r:=zH aI H
      have bu:=A0_ aI;clear aI
      have bH:=zpc H;replace H:=zph H
      have bv:=A0_ bH;clear bH
      obtain⟨bg,aJ⟩ : ∃ y_:List Int,y_=(ai ++ [aa]):=⟨_,rfl⟩
      replace H:(if aa<(l0.length:Int) then (s12_.l1 k2 l0 ag aH ab bg (rd l0 aa)) else (none))=some r:=zH aJ H
      have bw:=A0_ aJ;clear aJ
      have bI:=zpc H;replace H:=zph H
      have bx:=dT bI;(try simp only [af] at bx);clear bI;have H':=A0_ H;clear H
      have ap:0≤(aa:Int):=zd
      have aq:aa<(ah.length:Int):=zd
      obtain⟨aG,aU,ak⟩:=Kd.at_bool (rR ac.out).2.2 aa ap aq
      (try rw [← Nbq11.out] at ak)
      (try rw [← Nbq19.out] at ak)
      obtain rfl:ar=aG:=(by injection aU)
      replace ap:=eq_true ap;replace aq:=eq_true aq
      have bh:0≤(aa:Int):=zd
      have bi:(aa:Int)<((ah.length:Int):Int):=zd
      obtain⟨aw,b6,bj,bk,gl24,cl24,HG24⟩:=Kd.R_form ac.out (by omega)
      (first|cases bj|(injection bj with ea_ en_ ec_;(first|subst ea_|(injection ea_ with ea_;subst ea_));subst ec_;clear en_))
      have GB24:=A0_ bk;have GG24:=A0_ HG24;clear bk gl24 HG24
      (first|simp only [add_plain] at am|skip)
      (first|simp only [add_plain] at ak|skip)
      obtain⟨bR,bU⟩:=Kd.R_celln false ac.out (aa:Int) bh bi
      replace bh:=eq_true bh;replace bi:=eq_true bi
      have HP27:=Kd.R_putg ac.out (aa:Int) true
      go_wp2_with (first|((with_reducible refine gS (t:=4) (p:=35) rfl ?_);refine store_event (t:=4) (p:=35) (v := ?vo_w28) (w1:=(wr.setCell ⟨aw,(aa:Int).toNat,none⟩ (.bool true))) ?hg ?ho ?hn ?hr ?_;(case ho=>rfl);(case hg=>rfl);(case hn=>rfl);(case hr=>first|(go_simp;done)|(go_simp;rfl));intro w28 hw;have hg:wr.grownBy w28 (some aw):=(by rw [hw];exact HP27.2);have hp_:Kd.R Kd.bool 4 w28 w.heap.size (fun _=>True) (.slice (some ⟨aw,0,none⟩) ah.length aD) aH:=(by rw [hw,bu.out];exact HP27.1);clear HP27;replace ae:=A0_ (Kd.S_over' (v:=(.slice (some ⟨aw,0,none⟩) ah.length aD)) (zS_ ae) (Kd.R_typed ac.out) (by decide) hg);replace al:=A0_ (Kd.R_over' (v:=(.slice (some ⟨aw,0,none⟩) ah.length aD)) (zR_ al) (Kd.R_typed ac.out) (by decide) hg);replace ac:=A0_ (hp_);replace HB:=A0_ ((by rw [hw];exact bS (HB.out) GB24.out:Below w.heap.size w w28));clear hg hw hp_)|((with_reducible refine gB (b := .append) (xs := #[.tmp 36,.tmp 38]) rfl ?_);at_builtin;refine Kd.R_append (Kd.int .i64) (w0:=w) w.heap.size rfl (.tmp 36) (.tmp 38) 23 3 (.int .i64 0) 8 rfl Try.underlying23 info3 rfl (by decide) (by omega) u6 ai aa [.int .i64 aa] (fun _=>True) (fun _=>False) rfl rfl ?aP (fun _ hk=>hk.elim) ?aF ?aO ?aB ?aS ?aL ?_;(case aP=>exact rfl);(case aB=>exact(zB_ HB));(case aF=>exact(fun _ _=>trivial));(case aO=>exact(zR_ al));(case aS=>exact(bZ (zB_ HB)));(case aL=>have:=bv.out;omega);intro b7 w29 ho hb hg hat;rw [← bw.out] at ho;replace ae:=A0_ (Kd.S_after (ok:=(fun _=>True)) (zmS ae (fun _ hk=>⟨trivial,hk⟩)) hg hat);replace ac:=A0_ (Kd.R_over' (zR_ ac) (Kd.R_typed (zR_ al)) (by decide) hg);replace HB:=A0_ (hb);have bz:=A0_ (ho);clear al ho hb hg hat;have aV:0≤(aa:Int):=zd;have aW:aa<(l0.length:Int):=zd;obtain⟨bW,bP,av⟩:=tI bQ.out aa aV aW;cases bP;try replace av:=(HB.out.cell (wL w _ av)).trans av;replace aV:=eq_true aV;replace aW:=eq_true aW))
      (try simp only [← af])
      go_roundg k2
      case measure=>have:=ax.out;have:=a3.out;omega
      case rel=>exact⟨(aH),(bg),(rd l0 aa),zt,H',⟨by have:=ax.out;have:=a3.out;omega⟩,⟨by(try simp only [af]);(with_reducible repeat(first|apply sA|apply sN|apply sD));exact sM ae.out (fun _ hk=>hk.2)⟩,⟨by(try simp only [af]);(with_reducible repeat(first|apply rA|apply rN|apply rD));exact ac.out⟩,⟨by(try simp only [af]);(with_reducible repeat(first|apply rA|apply rN|apply rD));exact bz.out⟩,⟨zB_ HB⟩⟩
   rw [if_neg c8] at H;have ba:=dF c8;clear c8;obtain rfl:=sI H
   go_wp2
   go_ret
   exact⟨_,by first|rfl|(simp [*] <;> rfl),zS_ ae,zB_ HB⟩
end Go.Proofs.Ytmegggomhjgehaa.PFnCoverTree
