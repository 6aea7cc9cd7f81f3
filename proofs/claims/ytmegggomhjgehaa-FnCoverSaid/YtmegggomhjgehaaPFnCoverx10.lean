-- Made by a program of this session (wip/tools) out of the loaded program; not trusted: Lean checks it.
import Derived.Test.YtmegggomhjgehaaPFnCoverx0
import Derived.Test.YtmegggomhjgehaaPFnCoverx6
import Derived.Test.YtmegggomhjgehaaPFnCoverx7
import Derived.Test.YtmegggomhjgehaaPFnCoverx9
-- packed
-- packed2
namespace Go.Proofs.Ytmegggomhjgehaa.PFnCover
open Go.RowKit Go.Proofs.YtmegggomhjgehaaW.PrintWords Go.Proofs.YtmegggomhjgehaaW.PrintLast Go.Proofs.YtmegggomhjgehaaW.PrintMore
attribute [local go_sem] max2_int min2_int max_two min_two max_three min_three max_four min_four
set_option linter.unusedVariables false
set_option linter.unusedSimpArgs false

/-! ### spec_l6Open: function 52 -/
def spec_l6Open.f (l0:List Int):Option (List Int×Int):=if (l0.length:Int)>2000 then (if 2000≤(l0.length:Int) then (some (l0.take 2000,0)) else (none)) else (some (l0,0))
set_option maxHeartbeats 8000000 in
set_option maxRecDepth 100000 in
theorem spec_l6Open.calls (A0:Option Addr) (c0:Nat) (l0:List Int) (r1:List Int) (r2:Int) (w0 w:World) (hB:Below w0.heap.size w0 w) (hr0:Kd.C (Kd.int .u8) w0 A0 l0.length l0) (hc0:l0.length≤c0) (h:spec_l6Open.f l0=some (r1,r2)) :
    Calls Try.prog 52 #[.slice A0 l0.length c0] w fun e w' => ∃ g_:Nat,e = .returned (.pointer (some ⟨g_,0,none⟩))∧IsS82 w0 w' g_ r1 r2∧Below w0.heap.size w0 w'∧Below w.heap.size w w':=by
 have hu82:=Try.underlying82;have HR0:=A0_ hr0;have HC0:=A0_ hc0;clear hr0 hc0
 have HBW:=A0_ (Below.refl w.heap.size w)
 have HW0:=A0_ hB.size;have HB:=A0_ hB;clear hB
 have H:(if (l0.length:Int)>2000 then (if 2000≤(l0.length:Int) then (some (l0.take 2000,0)) else (none)) else (some (l0,0)))=some (r1,r2):=h
 clear h
 by_cases c2:(l0.length:Int)>2000
 ·rw [if_pos c2] at H
  have c2b0:decide (2000<(l0.length:Int))=true:=dT c2
  have c2b1:decide (2000<l0.length)=true:=dT (by omega)
  clear c2
  have c3:=zpc H;replace H:=zph H
  have c3b0:=eq_true c3;have c3b1:=dT c3;clear c3;simp only [Option.some.injEq,Prod.mk.injEq] at H;obtain⟨rfl,rfl⟩:=H;obtain⟨i04,hi04,_,hsz4,_⟩:=info_parts info5
  obtain⟨hcut4,hA4,hC4⟩:=print_take_of (P:=Try.prog) (Value.int .u8) 0 22 5 .i64 Try.underlying22 hi04 hsz4 A0 c0 l0 2000 (by omega) (zd) HC0.out
  have HR395:=A0_ (Kd.C_of_reads (h1:=fun _=>rfl) (hA4 _ (Kd.reads_of_C HR0.out)))
  have HC395:=A0_ hC4;clear hA4 hC4 hi04 hsz4
  go_enter Try.func52,Try.ntmps52
  go_wp2_with (first|((with_reducible refine gD (N:=10) rfl ?_);refine zX (N:=10) (cs := #[.slice A0 (l0.take 2000).length c0,.int .i64 0]) (t:=82) ?_;intro gb396 hg w5 hbox hb;replace HB:=zB HB hb;have BK396:=A0_ (hbox);have GW396:=A0_ ((by rw [hg];exact(bZ (by repeat(first|(with_reducible first|exact HBW.out|apply bA|apply bN|apply bD)|exact HBW.out))):w.heap.size≤gb396));have GE396:=A0_ ((Nat.le_trans HW0.out (by rw [hg];exact(bZ (by repeat(first|(with_reducible first|exact HBW.out|apply bA|apply bN|apply bD)|exact HBW.out))):w.heap.size≤gb396):w0.heap.size≤gb396));replace HBW:=A0_ (bT HBW.out hb);clear hb hbox hg))
  go_ret
  exact⟨_,rfl,(show IsS82 w0 _ gb396 (l0.take 2000) 0 from⟨_,_,zK_ BK396,GE396.out,HR395.out⟩),zB_ HB,by repeat(first|(with_reducible first|exact HBW.out|apply bA|apply bN|apply bD|refine bS ?_ GW396.out)|exact HBW.out)⟩
 rw [if_neg c2] at H
 have c2b0:decide (2000<(l0.length:Int))=false:=dF c2
 have c2b1:decide (2000<l0.length)=false:=dF (by omega)
 clear c2;simp only [Option.some.injEq,Prod.mk.injEq] at H;obtain⟨rfl,rfl⟩:=H
 go_enter Try.func52,Try.ntmps52
 go_wp2_with (first|((with_reducible refine gD (N:=10) rfl ?_);refine zX (N:=10) (cs := #[.slice A0 l0.length c0,.int .i64 0]) (t:=82) ?_;intro gb397 hg w6 hbox hb;replace HB:=zB HB hb;have BK397:=A0_ (hbox);have GW397:=A0_ ((by rw [hg];exact(bZ (by repeat(first|(with_reducible first|exact HBW.out|apply bA|apply bN|apply bD)|exact HBW.out))):w.heap.size≤gb397));have GE397:=A0_ ((Nat.le_trans HW0.out (by rw [hg];exact(bZ (by repeat(first|(with_reducible first|exact HBW.out|apply bA|apply bN|apply bD)|exact HBW.out))):w.heap.size≤gb397):w0.heap.size≤gb397));replace HBW:=A0_ (bT HBW.out hb);clear hb hbox hg))
 go_ret
 exact⟨_,rfl,(show IsS82 w0 _ gb397 l0 0 from⟨_,_,zK_ BK397,GE397.out,HR0.out⟩),zB_ HB,by repeat(first|(with_reducible first|exact HBW.out|apply bA|apply bN|apply bD|refine bS ?_ GW397.out)|exact HBW.out)⟩

/-! ### spec_DrawCoverMap: function 40 -/
def spec_DrawCoverMap.f (k:Nat) (l0:List Int):Option (List Int×List Int×Int×(List (List Int))):=(spec_l6Open.f l0).bind fun bt399=>((spec_l92Cover.f k bt399.1 bt399.2).bind fun bt402=>(some (bt402.1,bt402.2.1,bt402.2.2.1,bt402.2.2.2.1)))
set_option maxHeartbeats 8000000 in
set_option maxRecDepth 100000 in
theorem spec_DrawCoverMap.calls (k:Nat) (A0:Option Addr) (c0:Nat) (l0:List Int) (r1:List Int) (r2:List Int) (r3:Int) (r4:List (List Int)) (w:World) (hr0:Kd.C (Kd.int .u8) w A0 l0.length l0) (hc0:l0.length≤c0) (h:spec_DrawCoverMap.f k l0=some (r1,r2,r3,r4)) :
    Calls Try.prog 40 #[.slice A0 l0.length c0] w fun e w' => ∃ v0_ v1_ v3_:Value,e = .returned (.tuple #[.agg #[v0_,v1_],.int .i64 r3,v3_])∧Kd.Q (Kd.int .i64) 3 w' w.heap.size (fun k_=>some k_≠(v1_:Value).ownBlock) v0_ r1∧Kd.R (Kd.int .i64) 3 w' w.heap.size (fun k_=>some k_≠(v0_:Value).ownBlock) v1_ r2∧Kd.S (Kd.slice 3 (Kd.int .i64)) 23 w' w.heap.size (fun k_=>some k_≠(v0_:Value).ownBlock∧some k_≠(v1_:Value).ownBlock) v3_ r4∧Below w.heap.size w w':=by
 have hu25:=Try.underlying25;have HR0:=A0_ hr0;have HC0:=A0_ hc0;clear hr0 hc0
 have HB:=A0_ (Below.refl w.heap.size w)
 have H:((spec_l6Open.f l0).bind fun bt399=>((spec_l92Cover.f k bt399.1 bt399.2).bind fun bt402=>(some (bt402.1,bt402.2.1,bt402.2.2.1,bt402.2.2.2.1))))=some (r1,r2,r3,r4):=h
 clear h;obtain⟨⟨t399,t400⟩,A2,H⟩:=zbind H;dsimp only at H;obtain⟨⟨t402,t405,t408,t409,t412⟩,A3,H⟩:=zbind H;dsimp only at H;simp only [Option.some.injEq,Prod.mk.injEq] at H;obtain⟨rfl,rfl,rfl,rfl⟩:=H
 go_enter Try.func40,Try.ntmps40
 go_wp2_with (first|((with_reducible refine gD (N:=2) rfl ?_);refine zX (N:=2) (cs := #[.slice none 0 0,.slice none 0 0]) (t:=25) ?_;intro gb398 hg w4 hbox hb;have BK398:=A0_ (hbox);have GW398:=zG hg HB;have GE398:=zG hg HB;replace HB:=zB HB hb;clear hb hbox hg)|((with_reducible refine gC (f:=52) rfl ?_);refine zJ (some 6) Try.func52 #[.slice A0 l0.length c0] ?_;(with_reducible refine(spec_l6Open.calls _ _ l0 t399 t400 w _ ?side1 ?side2 ?side3 A2.out).mono ?_);(case side1=>repeat(first|(with_reducible first|exact HB.out|apply bA|apply bN|apply bD|refine bS ?_ GE398.out)|exact HB.out));(case side2=>exact HR0.out);(case side3=>exact HC0.out);rintro e w5 ⟨g401,rfl,hi,hb,hb2⟩;refine⟨_,rfl,?_⟩;replace HB:=A0_ (hb);have HI401:=A0_ (hi);have NB401_398:=A0_ (IsS82.ne_blk hi (kB (g:=gb398) (o := .cells #[.slice none 0 0,.slice none 0 0] 25 (0,0)) (zK_ BK398) hb2) (by decide));have NB398_401:=A0_ (Ne.symm (IsS82.ne_blk hi (kB (g:=gb398) (o := .cells #[.slice none 0 0,.slice none 0 0] 25 (0,0)) (zK_ BK398) hb2) (by decide)));replace BK398:=A0_ (kB (g:=gb398) (o := .cells #[.slice none 0 0,.slice none 0 0] 25 (0,0)) (zK_ BK398) hb2);(try clear hb))|((with_reducible refine gC (f:=51) rfl ?_);refine zJ (some 7) Try.func51 #[.pointer (some ⟨g401,0,none⟩)] ?_;(with_reducible refine(spec_l92Cover.calls k g401 t399 t400 t402 t405 t408 t409 t412 w _ ?side1 ?side2 A3.out).mono ?_);(case side1=>repeat(first|(with_reducible first|exact HI401.out|apply IsS82.alloc|apply IsS82.drewN|apply IsS82.drew|apply IsS82.set_1|refine IsS82.far ?_ NB401_398.out _)|exact HI401.out));(case side2=>repeat(first|(with_reducible first|exact HB.out|apply bA|apply bN|apply bD|refine bS ?_ (IsS82.ge HI401.out)|refine bS ?_ GE398.out)|exact HB.out));rintro e w6 ⟨v403,v406,v410,rfl,ho0,ho1,ho2,hi,hb,hk⟩;refine⟨_,rfl,?_⟩;replace BK398:=A0_ (KeepBut.blk hk (g':=gb398) (o := .cells #[.slice none 0 0,.slice none 0 0] 25 (0,0)) (zK_ BK398) NB398_401.out (by simp));have HO404:=A0_ (Kd.Q_lower ho0 (bZ (by repeat(first|(with_reducible first|exact HB.out|apply bA|apply bN|apply bD|refine bS ?_ (IsS82.ge HI401.out)|refine bS ?_ GE398.out)|exact HB.out))));have HO407:=A0_ (rL ho1 (bZ (by repeat(first|(with_reducible first|exact HB.out|apply bA|apply bN|apply bD|refine bS ?_ (IsS82.ge HI401.out)|refine bS ?_ GE398.out)|exact HB.out))));have HO411:=A0_ (Kd.S_lower ho2 (bZ (by repeat(first|(with_reducible first|exact HB.out|apply bA|apply bN|apply bD|refine bS ?_ (IsS82.ge HI401.out)|refine bS ?_ GE398.out)|exact HB.out))));replace HB:=A0_ (hb);replace HI401:=A0_ (hi);(try clear hb);(try clear ho0);(try clear ho1);(try clear ho2);obtain⟨Ao7,co7,eo7,_⟩:=Kd.Q_slice HO404.out;subst eo7;have hnb8:=NB398_401.out;have hnc8:=NB401_398.out;have hcz9_0:=zc0 BK398;have hcz9_1:=zc1 BK398;have hfz9_0:=kF BK398.out 0;have hfz9_1:=kF BK398.out 1;obtain⟨Ao10,co10,eo10⟩:=rS HO407.out;subst eo10))
 refine bodyPost_ret (results_ctt rfl _ _ gb398 25 #[.slice Ao7 t402.length co7,.slice Ao10 t405.length co10] (0,0) _ rfl (by(with_reducible repeat(first|refine kN ?_ _|refine kD ?_|refine kA ?_ _));refine blk_put (cs := #[.slice Ao7 t402.length co7,.slice none 0 0]) ?_ 1 _ rfl;(with_reducible repeat(first|refine kN ?_ _|refine kD ?_|refine kA ?_ _));refine blk_put (cs := #[.slice none 0 0,.slice none 0 0]) ?_ 0 _ rfl;(with_reducible repeat(first|refine kN ?_ _|refine kD ?_|refine kA ?_ _));exact BK398.out) Try.underlying25 rfl (by kernel_rfl)) rfl ?_
 exact⟨_,_,_,by first|rfl|(simp [*] <;> rfl),by(with_reducible repeat(first|apply Kd.Q_alloc|apply Kd.Q_drewN|apply Kd.Q_drew));exact Kd.Q_mono (Kd.Q_far (p:=⟨gb398,1,none⟩) (Kd.Q_far (p:=⟨gb398,0,none⟩) (Kd.Q_types HO404.out BK398.out (by decide)) (fun _ hk=>hk.2) (.slice Ao7 t402.length co7)) (fun _ hk=>hk.2) (.slice Ao10 t405.length co10)) (fun _ hk=>hk.1),zF HO407 BK398 (.slice Ao7 t402.length co7) (.slice Ao10 t405.length co10) 0 1,by(with_reducible repeat(first|apply sA|apply sN|apply sD));exact sM (Kd.S_far (p:=⟨gb398,1,none⟩) (Kd.S_far (p:=⟨gb398,0,none⟩) (Kd.S_types HO411.out BK398.out (by decide)) (fun _ hk=>hk.2) (.slice Ao7 t402.length co7)) (fun _ hk=>hk.2) (.slice Ao10 t405.length co10)) (fun _ hk=>⟨hk.1.1,hk.1.2⟩),by repeat(first|(with_reducible first|exact HB.out|apply bA|apply bN|apply bD|refine bS ?_ (IsS82.ge HI401.out)|refine bS ?_ GE398.out)|exact HB.out)⟩

/-! ### spec_VoltageValid: function 56 -/
mutual
def spec_VoltageValid.j0:Nat→Int→List (List Int)→Bool→Option (Bool)
  | 0,_,_,_=>none
  | k+1,x1,x2,x32=>if x32=true then (some false) else (spec_VoltageValid.l0 k x1 x2 0)
def spec_VoltageValid.l0:Nat→Int→List (List Int)→Int→Option (Bool)
  | 0,_,_,_=>none
  | k+1,x1,x2,x7=>if x7<(x2.length:Int) then (if 0≤x7 then ((spec_PermValid.f k (rd_L1 x2 x7)).bind fun t417=>(if t417=true then (if ((rd_L1 x2 x7).length:Int)=x1 then (spec_VoltageValid.l0 k x1 x2 (wrap64 (x7+1))) else (some false)) else (some false))) else (none)) else (some true)
end
def spec_VoltageValid.f (k:Nat) (l0_0:List Int) (l0_1:List Int) (a1:Int) (l2:List (List Int)):Option (Bool):=(spec_MapValid.f k l0_0 l0_1).bind fun t414=>(if t414=true then ((spec_l6In.f a1 1 6).bind fun t415=>(if t415=true then (if (wrap64 (a1*(l0_0.length:Int)))>12 then (spec_VoltageValid.j0 k a1 l2 true) else (spec_VoltageValid.j0 k a1 l2 ((l2.length:Int) != (wrap64 ((l0_1.length:Int) / 2))))) else (spec_VoltageValid.j0 k a1 l2 true))) else (spec_VoltageValid.j0 k a1 l2 true))
set_option maxHeartbeats 8000000 in
set_option maxRecDepth 100000 in
theorem spec_VoltageValid.calls (k:Nat) (A0_0:Option Addr) (c0_0:Nat) (l0_0:List Int) (A0_1:Option Addr) (c0_1:Nat) (l0_1:List Int) (a1:Int) (A2:Option Addr) (c2:Nat) (l2:List (List Int)) (r:Bool) (w:World) (hr0_0:Kd.C (Kd.int .i64) w A0_0 l0_0.length l0_0) (hc0_0:l0_0.length≤c0_0) (hr0_1:Kd.C (Kd.int .i64) w A0_1 l0_1.length l0_1) (hc0_1:l0_1.length≤c0_1) (hr2:Kd.C (Kd.slice 3 (Kd.int .i64)) w A2 l2.length l2) (hc2:l2.length≤c2) (h:spec_VoltageValid.f k l0_0 l0_1 a1 l2=some r) :
    Calls Try.prog 56 #[.agg #[.slice A0_0 l0_0.length c0_0,.slice A0_1 l0_1.length c0_1],.int .i64 a1,.slice A2 l2.length c2] w fun e w'=>e = .returned (.bool r)∧Below w.heap.size w w':=by
 have hu25:=Try.underlying25;have HR0_0:=A0_ hr0_0;have HC0_0:=A0_ hc0_0;clear hr0_0 hc0_0;have HR0_1:=A0_ hr0_1;have HC0_1:=A0_ hc0_1;clear hr0_1 hc0_1;have HR2:=A0_ hr2;have HC2:=A0_ hc2;clear hr2 hc2
 have HB:=A0_ (Below.refl w.heap.size w)
 have H:((spec_MapValid.f k l0_0 l0_1).bind fun t414=>(if t414=true then ((spec_l6In.f a1 1 6).bind fun t415=>(if t415=true then (if (wrap64 (a1*(l0_0.length:Int)))>12 then (spec_VoltageValid.j0 k a1 l2 true) else (spec_VoltageValid.j0 k a1 l2 ((l2.length:Int) != (wrap64 ((l0_1.length:Int) / 2))))) else (spec_VoltageValid.j0 k a1 l2 true))) else (spec_VoltageValid.j0 k a1 l2 true)))=some r:=h
 clear h;have HC4:=A0_ H;clear H
 go_enter Try.func56,Try.ntmps56
 go_upto_region 1 with(first|((with_reducible refine gD (N:=3) rfl ?_);refine zX (N:=3) (cs := #[.slice A0_0 l0_0.length c0_0,.slice A0_1 l0_1.length c0_1]) (t:=25) ?_;intro gb413 hg w5 hbox hb;have BK413:=A0_ (hbox);have GW413:=zG hg HB;have GE413:=zG hg HB;replace HB:=zB HB hb;clear hb hbox hg))
 (try simp only [Act.put,List.setIfInBounds_toArray,List.set_cons_zero,List.set_cons_succ])
 go_cut [32] (fun v32 wc => ∃ (kq:Nat) (x32_3:Bool),v32 = .bool x32_3∧Aside0 (spec_VoltageValid.j0 kq a1 l2 x32_3=some r)∧Aside0 (kq≤k)∧Aside0 (wc.heap[gb413]? = some (.cells #[(.slice A0_0 l0_0.length c0_0),(.slice A0_1 l0_1.length c0_1)] 25 (0,0)))∧Aside0 (Below w.heap.size w wc))
 case first =>
  have H:=HC4.out;clear HC4;obtain⟨t414,A6,H⟩:=zbind H
  by_cases c7:t414=true
  ·subst c7
   rw [if_pos rfl] at H;obtain⟨t415,A8,H⟩:=zbind H
   by_cases c9:t415=true
   ·subst c9
    rw [if_pos rfl] at H
    by_cases c10:(wrap64 (a1*(l0_0.length:Int)))>12
    ·rw [if_pos c10] at H
     have c10b0:decide (12<(wrap64 (a1*(l0_0.length:Int))))=true:=dT c10
     clear c10
     (first|rw [c10b0]|(simp only [i64_w,i32_w];rw [c10b0])|skip)
     have H':=A0_ H;clear H;have hcz11_0:=zc0 BK413;have hcz11_1:=zc1 BK413;have hfz11_0:=kF BK413.out 0;have hfz11_1:=kF BK413.out 1
     go_wp2_with (first|((with_reducible refine gC (f:=57) rfl ?_);refine zJ (some 9) Try.func57 #[.agg #[.slice A0_0 l0_0.length c0_0,.slice A0_1 l0_1.length c0_1]] ?_;(with_reducible refine(spec_MapValid.calls k _ _ l0_0 _ _ l0_1 true _ ?side1 ?side2 ?side3 ?side4 A6.out).mono ?_);(case side1=>exact zC HR0_0 HB);(case side2=>exact HC0_0.out);(case side3=>exact zC HR0_1 HB);(case side4=>exact HC0_1.out);rintro e w12 ⟨rfl,hb⟩;refine⟨_,rfl,?_⟩;replace BK413:=zK BK413 hb;replace HB:=zB HB hb;(try clear hb))|(go_at_call 101;(with_reducible refine(spec_l6In.calls a1 1 6 true _ A8.out).mono ?_);rintro e w' ⟨rfl,⟨nd,rfl⟩⟩;have hcz13_0:=zc0 BK413;have hcz13_1:=zc1 BK413;have hfz13_0:=kF BK413.out 0;have hfz13_1:=kF BK413.out 1))
     go_meet
     case rel=>exact⟨_,(true),zt,H',zo,⟨zK_ BK413⟩,⟨zB_ HB⟩⟩
    rw [if_neg c10] at H
    have c10b0:decide (12<(wrap64 (a1*(l0_0.length:Int))))=false:=dF c10
    clear c10
    (first|rw [c10b0]|(simp only [i64_w,i32_w];rw [c10b0])|skip)
    have H':=A0_ H;clear H;have hcz14_0:=zc0 BK413;have hcz14_1:=zc1 BK413;have hfz14_0:=kF BK413.out 0;have hfz14_1:=kF BK413.out 1
    go_wp2_with (first|((with_reducible refine gC (f:=57) rfl ?_);refine zJ (some 9) Try.func57 #[.agg #[.slice A0_0 l0_0.length c0_0,.slice A0_1 l0_1.length c0_1]] ?_;(with_reducible refine(spec_MapValid.calls k _ _ l0_0 _ _ l0_1 true _ ?side1 ?side2 ?side3 ?side4 A6.out).mono ?_);(case side1=>exact zC HR0_0 HB);(case side2=>exact HC0_0.out);(case side3=>exact zC HR0_1 HB);(case side4=>exact HC0_1.out);rintro e w15 ⟨rfl,hb⟩;refine⟨_,rfl,?_⟩;replace BK413:=zK BK413 hb;replace HB:=zB HB hb;(try clear hb))|(go_at_call 101;(with_reducible refine(spec_l6In.calls a1 1 6 true _ A8.out).mono ?_);rintro e w' ⟨rfl,⟨nd,rfl⟩⟩;have hcz16_0:=zc0 BK413;have hcz16_1:=zc1 BK413;have hfz16_0:=kF BK413.out 0;have hfz16_1:=kF BK413.out 1))
    go_meet
    case rel=>exact⟨_,(((l2.length:Int) != (wrap64 ((l0_1.length:Int) / 2)))),zt,H',zo,⟨zK_ BK413⟩,⟨zB_ HB⟩⟩
   replace c9:=Bool.eq_false_iff.mpr c9;subst c9
   rw [if_neg (show ¬ (false=true) by decide)] at H
   have H':=A0_ H;clear H;have hcz17_0:=zc0 BK413;have hcz17_1:=zc1 BK413;have hfz17_0:=kF BK413.out 0;have hfz17_1:=kF BK413.out 1
   go_wp2_with (first|((with_reducible refine gC (f:=57) rfl ?_);refine zJ (some 9) Try.func57 #[.agg #[.slice A0_0 l0_0.length c0_0,.slice A0_1 l0_1.length c0_1]] ?_;(with_reducible refine(spec_MapValid.calls k _ _ l0_0 _ _ l0_1 true _ ?side1 ?side2 ?side3 ?side4 A6.out).mono ?_);(case side1=>exact zC HR0_0 HB);(case side2=>exact HC0_0.out);(case side3=>exact zC HR0_1 HB);(case side4=>exact HC0_1.out);rintro e w18 ⟨rfl,hb⟩;refine⟨_,rfl,?_⟩;replace BK413:=zK BK413 hb;replace HB:=zB HB hb;(try clear hb))|(go_at_call 101;(with_reducible refine(spec_l6In.calls a1 1 6 false _ A8.out).mono ?_);rintro e w' ⟨rfl,⟨nd,rfl⟩⟩))
   go_meet
   case rel=>exact⟨_,(true),zt,H',zo,⟨zK_ BK413⟩,⟨zB_ HB⟩⟩
  replace c7:=Bool.eq_false_iff.mpr c7;subst c7
  rw [if_neg (show ¬ (false=true) by decide)] at H
  have H':=A0_ H;clear H;have hcz19_0:=zc0 BK413;have hcz19_1:=zc1 BK413;have hfz19_0:=kF BK413.out 0;have hfz19_1:=kF BK413.out 1
  go_wp2_with (first|((with_reducible refine gC (f:=57) rfl ?_);refine zJ (some 9) Try.func57 #[.agg #[.slice A0_0 l0_0.length c0_0,.slice A0_1 l0_1.length c0_1]] ?_;(with_reducible refine(spec_MapValid.calls k _ _ l0_0 _ _ l0_1 false _ ?side1 ?side2 ?side3 ?side4 A6.out).mono ?_);(case side1=>exact zC HR0_0 HB);(case side2=>exact HC0_0.out);(case side3=>exact zC HR0_1 HB);(case side4=>exact HC0_1.out);rintro e w20 ⟨rfl,hb⟩;refine⟨_,rfl,?_⟩;replace BK413:=zK BK413 hb;replace HB:=zB HB hb;(try clear hb)))
  go_meet
  case rel=>exact⟨_,(true),zt,H',zo,⟨zK_ BK413⟩,⟨zB_ HB⟩⟩
 case rest =>
  clear HC4;(try clear c1);(try clear c2);(try clear p2);(try clear c5);(try clear p6);(try clear c7);(try clear c9);(try clear c10);(try clear c10b0);(try clear hcz11_0);(try clear hcz11_1);(try clear hcz13_0);(try clear hcz13_1);(try clear hcz14_0);(try clear hcz14_1);(try clear hcz16_0);(try clear hcz16_1);(try clear hcz17_0);(try clear hcz17_1);(try clear hcz19_0);(try clear hcz19_1);(try clear hfz11_0);(try clear hfz11_1);(try clear hfz13_0);(try clear hfz13_1);(try clear hfz14_0);(try clear hfz14_1);(try clear hfz16_0);(try clear hfz16_1);(try clear hfz17_0);(try clear hfz17_1);(try clear hfz19_0);(try clear hfz19_1);obtain⟨kq,x32_3,rfl,HA,HJ3,BK413,HB⟩:=hcut
  cases kq with
  | zero=>exact absurd HA.out (by simp [spec_VoltageValid.j0])
  | succ kj3 =>
   have H:=HA.out;clear HA;simp only [spec_VoltageValid.j0] at H
   by_cases c21:x32_3=true
   ·subst c21
    rw [if_pos rfl] at H;obtain rfl:=sI H
    go_wp2
    go_ret
    exact⟨by first|rfl|(simp [*] <;> rfl),zB_ HB⟩
   replace c21:=Bool.eq_false_iff.mpr c21;subst c21
   rw [if_neg (show ¬ (false=true) by decide)] at H
   have H':=A0_ H;clear H
   go_wp2
   go_loopg [7] kj3 (fun kq v7 w' => ∃ (x7_2:Int),v7 = .int .i64 x7_2∧Aside0 (spec_VoltageValid.l0 kq a1 l2 x7_2=some r)∧Aside0 (kq≤kj3)∧Aside0 (w'.heap[gb413]? = some (.cells #[(.slice A0_0 l0_0.length c0_0),(.slice A0_1 l0_1.length c0_1)] 25 (0,0)))∧Aside0 (Below w.heap.size w w'))
   case atStart=>exact⟨(0),zt,H',⟨Nat.le_refl _⟩,⟨zK_ BK413⟩,⟨zB_ HB⟩⟩
   case round =>
    clear H';(try clear c1);(try clear c2);(try clear p2);(try clear c5);(try clear p6);(try clear c7);(try clear c9);(try clear c10);(try clear c10b0);(try clear c21);(try clear hcz11_0);(try clear hcz11_1);(try clear hcz13_0);(try clear hcz13_1);(try clear hcz14_0);(try clear hcz14_1);(try clear hcz16_0);(try clear hcz16_1);(try clear hcz17_0);(try clear hcz17_1);(try clear hcz19_0);(try clear hcz19_1);(try clear hfz11_0);(try clear hfz11_1);(try clear hfz13_0);(try clear hfz13_1);(try clear hfz14_0);(try clear hfz14_1);(try clear hfz16_0);(try clear hfz16_1);(try clear hfz17_0);(try clear hfz17_1);(try clear hfz19_0);(try clear hfz19_1);(try clear p2);(try clear p6);obtain⟨x7_2,rfl,HA,HK2,BK413,HB⟩:=hrel
    cases gk with
    | zero=>exact absurd HA.out (by simp [spec_VoltageValid.l0])
    | succ k2 =>
     have H:=HA.out;clear HA;simp only [spec_VoltageValid.l0] at H
     by_cases c22:x7_2<(l2.length:Int)
     ·rw [if_pos c22] at H
      have c22b0:=dT c22;clear c22
      have c23:=zpc H;replace H:=zph H
      have c23b0:=dT c23;clear c23;obtain⟨t417,A24,H⟩:=zbind H
      by_cases c25:t417=true
      ·subst c25
       rw [if_pos rfl] at H
       by_cases c26:((rd_L1 l2 x7_2).length:Int)=a1
       ·rw [if_pos c26] at H
        have c26b0:(((rd_L1 l2 x7_2).length:Int) == a1)=true:=beq_iff_eq.mpr c26
        have c26b1:(((rd_L1 l2 x7_2).length:Int) != a1)=false:=bne_eq_false_iff_eq.mpr c26
        clear c26;have H':=A0_ H;clear H
        have p416:0≤(x7_2:Int):=zd
        have q416:x7_2<(l2.length:Int):=zd
        obtain⟨ad416,A416_0,c416_0,e416,hx416_0,hl416_0,hi416_0⟩:=at_L1 HR2.out x7_2 p416 q416
        cases e416
        try replace hx416_0:=(HB.out.cell (wL w _ hx416_0)).trans hx416_0
        have HR416_0:=A0_ hi416_0;have HC416_0:=A0_ hl416_0;clear hi416_0 hl416_0;replace p416:=eq_true p416;replace q416:=eq_true q416
        go_wp2_with (first|((with_reducible refine gC (f:=89) rfl ?_);refine zJ (some 43) Try.func89 #[.slice A416_0 (rd_L1 l2 x7_2).length c416_0] ?_;(with_reducible refine(spec_PermValid.calls k2 _ _ (rd_L1 l2 x7_2) true _ ?side1 ?side2 A24.out).mono ?_);(case side1=>exact zC HR416_0 HB);(case side2=>exact HC416_0.out);rintro e w' ⟨rfl,⟨nd,rfl⟩⟩;refine⟨_,rfl,?_⟩;have p418:0≤(x7_2:Int):=zd;have q418:x7_2<(l2.length:Int):=zd;obtain⟨ad418,A418_0,c418_0,e418,hx418_0,hl418_0,hi418_0⟩:=at_L1 HR2.out x7_2 p418 q418;obtain rfl:ad416=ad418:=(by injection e418);try replace hx418_0:=(HB.out.cell (wL w _ hx418_0)).trans hx418_0;have HR418_0:=A0_ hi418_0;have HC418_0:=A0_ hl418_0;clear hi418_0 hl418_0;replace p418:=eq_true p418;replace q418:=eq_true q418;have ea_:=sI (hx416_0.symm.trans hx418_0);injection ea_ with ea_ en_ ec_;subst ea_;subst ec_;clear en_))
        go_roundg k2
        case measure=>have:=HJ3.out;have:=HK2.out;omega
        case rel=>exact⟨(wrap64 (x7_2+1)),zt,H',⟨by have:=HJ3.out;have:=HK2.out;omega⟩,⟨zK_ BK413⟩,⟨zB_ HB⟩⟩
       rw [if_neg c26] at H
       have c26b0:(((rd_L1 l2 x7_2).length:Int) == a1)=false:=beq_eq_false_iff_ne.mpr c26
       have c26b1:(((rd_L1 l2 x7_2).length:Int) != a1)=true:=bne_iff_ne.mpr c26
       obtain rfl:=sI H
       have p416:0≤(x7_2:Int):=zd
       have q416:x7_2<(l2.length:Int):=zd
       obtain⟨ad416,A416_0,c416_0,e416,hx416_0,hl416_0,hi416_0⟩:=at_L1 HR2.out x7_2 p416 q416
       cases e416
       try replace hx416_0:=(HB.out.cell (wL w _ hx416_0)).trans hx416_0
       have HR416_0:=A0_ hi416_0;have HC416_0:=A0_ hl416_0;clear hi416_0 hl416_0;replace p416:=eq_true p416;replace q416:=eq_true q416
       go_wp2_with (first|((with_reducible refine gC (f:=89) rfl ?_);refine zJ (some 43) Try.func89 #[.slice A416_0 (rd_L1 l2 x7_2).length c416_0] ?_;(with_reducible refine(spec_PermValid.calls k2 _ _ (rd_L1 l2 x7_2) true _ ?side1 ?side2 A24.out).mono ?_);(case side1=>exact zC HR416_0 HB);(case side2=>exact HC416_0.out);rintro e w' ⟨rfl,⟨nd,rfl⟩⟩;refine⟨_,rfl,?_⟩;have p418:0≤(x7_2:Int):=zd;have q418:x7_2<(l2.length:Int):=zd;obtain⟨ad418,A418_0,c418_0,e418,hx418_0,hl418_0,hi418_0⟩:=at_L1 HR2.out x7_2 p418 q418;obtain rfl:ad416=ad418:=(by injection e418);try replace hx418_0:=(HB.out.cell (wL w _ hx418_0)).trans hx418_0;have HR418_0:=A0_ hi418_0;have HC418_0:=A0_ hl418_0;clear hi418_0 hl418_0;replace p418:=eq_true p418;replace q418:=eq_true q418;have ea_:=sI (hx416_0.symm.trans hx418_0);injection ea_ with ea_ en_ ec_;subst ea_;subst ec_;clear en_))
       go_ret
       exact⟨by first|rfl|(simp [*] <;> rfl),zB_ HB⟩
      replace c25:=Bool.eq_false_iff.mpr c25;subst c25
      rw [if_neg (show ¬ (false=true) by decide)] at H
      obtain rfl:=sI H
      have p416:0≤(x7_2:Int):=zd
      have q416:x7_2<(l2.length:Int):=zd
      obtain⟨ad416,A416_0,c416_0,e416,hx416_0,hl416_0,hi416_0⟩:=at_L1 HR2.out x7_2 p416 q416
      cases e416
      try replace hx416_0:=(HB.out.cell (wL w _ hx416_0)).trans hx416_0
      have HR416_0:=A0_ hi416_0;have HC416_0:=A0_ hl416_0;clear hi416_0 hl416_0;replace p416:=eq_true p416;replace q416:=eq_true q416
      go_wp2_with (first|((with_reducible refine gC (f:=89) rfl ?_);refine zJ (some 43) Try.func89 #[.slice A416_0 (rd_L1 l2 x7_2).length c416_0] ?_;(with_reducible refine(spec_PermValid.calls k2 _ _ (rd_L1 l2 x7_2) false _ ?side1 ?side2 A24.out).mono ?_);(case side1=>exact zC HR416_0 HB);(case side2=>exact HC416_0.out);rintro e w' ⟨rfl,⟨nd,rfl⟩⟩;refine⟨_,rfl,?_⟩))
      go_ret
      exact⟨by first|rfl|(simp [*] <;> rfl),zB_ HB⟩
     rw [if_neg c22] at H;have c22b0:=dF c22;clear c22;obtain rfl:=sI H
     go_wp2
     go_ret
     exact⟨by first|rfl|(simp [*] <;> rfl),zB_ HB⟩

/-! ### spec_l1Back: function 93 -/
def spec_l1Back.l0:Nat→List Int→List Int→Int→Option (List Int)
  | 0,_,_,_=>none
  | k+1,x0,x3,x4=>if x4<(x0.length:Int) then (if 0≤x4 then (if 0≤(rd x0 x4) then (if (rd x0 x4)<(x3.length:Int) then (spec_l1Back.l0 k x0 (x3.set ((rd x0 x4):Int).toNat x4) (wrap64 (x4+1))) else (none)) else (none)) else (none)) else (some x3)
def spec_l1Back.f (k:Nat) (l0:List Int):Option (List Int):=if 0≤(l0.length:Int) then (if ((l0.length:Int):Int).toNat≤35184372088832 then (spec_l1Back.l0 k l0 (List.replicate ((l0.length:Int):Int).toNat 0) 0) else (none)) else (none)
set_option maxHeartbeats 8000000 in
set_option maxRecDepth 100000 in
theorem spec_l1Back.calls (k:Nat) (A0:Option Addr) (c0:Nat) (l0:List Int) (r:List Int) (w:World) (hr0:Kd.C (Kd.int .i64) w A0 l0.length l0) (hc0:l0.length≤c0) (h:spec_l1Back.f k l0=some r) :
    Calls Try.prog 93 #[.slice A0 l0.length c0] w fun e w' => ∃ v0_:Value,e = .returned (v0_)∧Kd.R (Kd.int .i64) 3 w' w.heap.size (fun _=>True) v0_ r∧Below w.heap.size w w':=by
 have HR0:=A0_ hr0;have HC0:=A0_ hc0;clear hr0 hc0
 have HB:=A0_ (Below.refl w.heap.size w)
 have H:(if 0≤(l0.length:Int) then (if ((l0.length:Int):Int).toNat≤35184372088832 then (spec_l1Back.l0 k l0 (List.replicate ((l0.length:Int):Int).toNat 0) 0) else (none)) else (none))=some r:=h
 clear h
 have c2:=zpc H;replace H:=zph H
 have c2b0:=eq_true c2;have c2b1:=dT c2;clear c2
 have c3:=zpc H;replace H:=zph H
 have c3b0:=eq_true c3;have c3b1:=dT c3;clear c3
 obtain⟨y419,hy419⟩ : ∃ y_:List Int,y_=(List.replicate ((l0.length:Int):Int).toNat 0):=⟨_,rfl⟩
 replace H:(spec_l1Back.l0 k l0 y419 0)=some r:=zH hy419 H
 have Ny419:=A0_ hy419;clear hy419;have H':=A0_ H;clear H
 go_enter Try.func93,Try.ntmps93
 go_wp2_with (first|((with_reducible refine gD (N:=7) rfl ?_);refine Kd.R_make (Kd.int .i64) _ 3 rfl (N:=7) rfl 23 _ _ rfl (l0.length:Int) rfl rfl Try.underlying23 (.int .i64 0) 8 info3 rfl (by decide) (by omega) 0 (ok:=fun _=>True) (okp:=fun _=>True) rfl (fun _ hk=>hk) trivial (zd) (Nat.le_trans (Nat.mul_le_mul_right _ (zd:(l0.length:Int).toNat≤35184372088832)) (by omega)) (Below.refl _ _) (Nat.le_refl _) ?_;intro v420 w4 ho5 hb hg_ hnew_;clear hg_ hnew_;(first|rw [← Ny419.out] at ho5|(simp only [Int.reduceToNat] at ho5;rw [← Ny419.out] at ho5));have HO421:=A0_ (rL ho5 (bZ (zB_ HB)));replace HB:=zB HB hb;clear hb ho5))
 go_loopg [4] k (fun kq v4 w' => ∃ (x3_1:List Int) (x4_1:Int),v4 = .int .i64 x4_1∧Aside0 (spec_l1Back.l0 kq l0 x3_1 x4_1=some r)∧Aside0 (kq≤k)∧Aside0 (Kd.R (Kd.int .i64) 3 w' w.heap.size (fun _=>True) v420 x3_1)∧Aside0 (Below w.heap.size w w'))
 case atStart=>exact⟨(y419),(0),zt,H',⟨Nat.le_refl _⟩,⟨zR_ HO421⟩,⟨zB_ HB⟩⟩
 case round =>
  clear H';(try clear c2);(try clear c2b0);(try clear c2b1);(try clear p2);(try clear c3);(try clear c3b0);(try clear c3b1);obtain⟨x3_1,x4_1,rfl,HA,HK1,HO_3,HB⟩:=hrel
  cases gk with
  | zero=>exact absurd HA.out (by simp [spec_l1Back.l0])
  | succ k1 =>
   have H:=HA.out;clear HA;simp only [spec_l1Back.l0] at H
   by_cases c6:x4_1<(l0.length:Int)
   ·rw [if_pos c6] at H
    have c6b0:=dT c6;clear c6
    have c7:=zpc H;replace H:=zph H
    have c7b0:=dT c7;clear c7
    have c8:=zpc H;replace H:=zph H
    have c8b0:=dT c8;clear c8
    have c9:=zpc H;replace H:=zph H
    have c9b0:=dT c9;clear c9
    obtain⟨y423,hy423⟩ : ∃ y_:List Int,y_=(x3_1.set ((rd l0 x4_1):Int).toNat x4_1):=⟨_,rfl⟩
    replace H:(spec_l1Back.l0 k1 l0 y423 (wrap64 (x4_1+1)))=some r:=zH hy423 H
    have Ny423:=A0_ hy423;clear hy423;have H':=A0_ H;clear H
    have p422:0≤(x4_1:Int):=zd
    have q422:x4_1<(l0.length:Int):=zd
    obtain⟨ad422,e422,hx422_0⟩:=tI HR0.out x4_1 p422 q422
    cases e422
    try replace hx422_0:=(HB.out.cell (wL w _ hx422_0)).trans hx422_0
    replace p422:=eq_true p422;replace q422:=eq_true q422
    have p10:0≤((rd l0 x4_1):Int):=zd
    have q10:((rd l0 x4_1):Int)<((x3_1.length:Int):Int):=zd
    obtain⟨go10,co10,eo10,gb10,gl10,cl10,HG10⟩:=Kd.R_form HO_3.out (by omega)
    (first|cases eo10|(injection eo10 with ea_ en_ ec_;(first|subst ea_|(injection ea_ with ea_;subst ea_));subst ec_;clear en_))
    have GB10:=A0_ gb10;have GG10:=A0_ HG10;clear gb10 gl10 HG10
    obtain⟨hx10_0,hf10_0⟩:=Kd.R_celln 0 HO_3.out ((rd l0 x4_1):Int) p10 q10
    replace p10:=eq_true p10;replace q10:=eq_true q10
    have HP11:=Kd.R_putg HO_3.out ((rd l0 x4_1):Int) x4_1
    go_wp2_with (first|((with_reducible refine gS (t:=3) (p:=20) rfl ?_);refine store_event (t:=3) (p:=20) (v := ?vo_w12) (w1:=(wr.setCell ⟨go10,((rd l0 x4_1):Int).toNat,none⟩ (.int .i64 x4_1))) ?hg ?ho ?hn ?hr ?_;(case ho=>rfl);(case hg=>rfl);(case hn=>rfl);(case hr=>first|(go_simp;done)|(go_simp;rfl));intro w12 hw;have hg:wr.grownBy w12 (some go10):=(by rw [hw];exact HP11.2);have hp_:Kd.R (Kd.int .i64) 3 w12 w.heap.size (fun _=>True) (.slice (some ⟨go10,0,none⟩) x3_1.length co10) y423:=(by rw [hw,Ny423.out];exact HP11.1);clear HP11;replace HO_3:=A0_ (hp_);replace HB:=A0_ ((by rw [hw];exact bS (HB.out) GB10.out:Below w.heap.size w w12));clear hg hw hp_))
    go_roundg k1
    case measure=>have:=HK1.out;omega
    case rel=>exact⟨(y423),(wrap64 (x4_1+1)),zt,H',⟨by have:=HK1.out;omega⟩,⟨zR_ HO_3⟩,⟨zB_ HB⟩⟩
   rw [if_neg c6] at H;have c6b0:=dF c6;clear c6;obtain rfl:=sI H
   go_wp2
   go_ret
   exact⟨_,by first|rfl|(simp [*] <;> rfl),zR_ HO_3,zB_ HB⟩

/-! ### spec_l7Edges: function 112 -/
def spec_l7Edges.l0:Nat→List Int→Int→Int→List Int→List Int→Option (List Int)
  | 0,_,_,_,_,_=>none
  | k+1,x3,x4,x5,x425000,x425001=>if x5<(x3.length:Int) then (if 0≤x5 then (if x5<(x425001.length:Int) then (if x5<(rd x425001 x5) then (if 0≤(rd x425001 x5) then (if (rd x425001 x5)<(x3.length:Int) then (spec_l7Edges.l0 k ((x3.set (x5:Int).toNat x4).set ((rd x425001 x5):Int).toNat x4) (wrap64 (x4+1)) (wrap64 (x5+1)) x425000 x425001) else (none)) else (none)) else (spec_l7Edges.l0 k x3 x4 (wrap64 (x5+1)) x425000 x425001)) else (none)) else (none)) else (some x3)
def spec_l7Edges.f (k:Nat) (l0_0:List Int) (l0_1:List Int):Option (List Int):=if 0≤(l0_1.length:Int) then (if ((l0_1.length:Int):Int).toNat≤35184372088832 then (spec_l7Edges.l0 k (List.replicate ((l0_1.length:Int):Int).toNat 0) 0 0 l0_0 l0_1) else (none)) else (none)
set_option maxHeartbeats 8000000 in
set_option maxRecDepth 100000 in
theorem spec_l7Edges.calls (k:Nat) (A0_0:Option Addr) (c0_0:Nat) (l0_0:List Int) (A0_1:Option Addr) (c0_1:Nat) (l0_1:List Int) (r:List Int) (w:World) (hr0_0:Kd.C (Kd.int .i64) w A0_0 l0_0.length l0_0) (hc0_0:l0_0.length≤c0_0) (hr0_1:Kd.C (Kd.int .i64) w A0_1 l0_1.length l0_1) (hc0_1:l0_1.length≤c0_1) (h:spec_l7Edges.f k l0_0 l0_1=some r) :
    Calls Try.prog 112 #[.agg #[.slice A0_0 l0_0.length c0_0,.slice A0_1 l0_1.length c0_1]] w fun e w' => ∃ v0_:Value,e = .returned (v0_)∧Kd.R (Kd.int .i64) 3 w' w.heap.size (fun _=>True) v0_ r∧Below w.heap.size w w':=by
 have hu25:=Try.underlying25;have HR0_0:=A0_ hr0_0;have HC0_0:=A0_ hc0_0;clear hr0_0 hc0_0;have HR0_1:=A0_ hr0_1;have HC0_1:=A0_ hc0_1;clear hr0_1 hc0_1
 have HB:=A0_ (Below.refl w.heap.size w)
 have H:(if 0≤(l0_1.length:Int) then (if ((l0_1.length:Int):Int).toNat≤35184372088832 then (spec_l7Edges.l0 k (List.replicate ((l0_1.length:Int):Int).toNat 0) 0 0 l0_0 l0_1) else (none)) else (none))=some r:=h
 clear h
 have c2:=zpc H;replace H:=zph H
 have c2b0:=eq_true c2;have c2b1:=dT c2;clear c2
 have c3:=zpc H;replace H:=zph H
 have c3b0:=eq_true c3;have c3b1:=dT c3;clear c3
 obtain⟨y425,hy425⟩ : ∃ y_:List Int,y_=(List.replicate ((l0_1.length:Int):Int).toNat 0):=⟨_,rfl⟩
 replace H:(spec_l7Edges.l0 k y425 0 0 l0_0 l0_1)=some r:=zH hy425 H
 have Ny425:=A0_ hy425;clear hy425;have H':=A0_ H;clear H
 go_enter Try.func112,Try.ntmps112
 go_wp2_with (first|((with_reducible refine gD (N:=1) rfl ?_);refine zX (N:=1) (cs := #[.slice A0_0 l0_0.length c0_0,.slice A0_1 l0_1.length c0_1]) (t:=25) ?_;intro gb424 hg w4 hbox hb;have BK424:=A0_ (hbox);have GW424:=zG hg HB;have GE424:=zG hg HB;replace HB:=zB HB hb;clear hb hbox hg;have hcz5_0:=zc0 BK424;have hcz5_1:=zc1 BK424;have hfz5_0:=kF BK424.out 0;have hfz5_1:=kF BK424.out 1)|((with_reducible refine gD (N:=9) rfl ?_);refine Kd.R_make (Kd.int .i64) _ 3 rfl (N:=9) rfl 23 _ _ rfl (l0_1.length:Int) rfl rfl Try.underlying23 (.int .i64 0) 8 info3 rfl (by decide) (by omega) 0 (ok:=fun _=>True) (okp:=fun _=>True) rfl (fun _ hk=>hk) trivial (zd) (Nat.le_trans (Nat.mul_le_mul_right _ (zd:(l0_1.length:Int).toNat≤35184372088832)) (by omega)) (Below.refl _ _) (Nat.le_refl _) ?_;intro v426 w6 ho7 hb hg_ hnew_;clear hg_ hnew_;(first|rw [← Ny425.out] at ho7|(simp only [Int.reduceToNat] at ho7;rw [← Ny425.out] at ho7));have HO427:=A0_ (rL ho7 (bZ (zB_ HB)));replace BK424:=zK BK424 hb;replace HB:=zB HB hb;clear hb ho7))
 go_loopg [4,5] k (fun kq v4 v5 w' => ∃ (x3_1:List Int) (x4_1:Int) (x5_1:Int),v4 = .int .i64 x4_1∧v5 = .int .i64 x5_1∧Aside0 (spec_l7Edges.l0 kq x3_1 x4_1 x5_1 l0_0 l0_1=some r)∧Aside0 (kq≤k)∧Aside0 (Kd.R (Kd.int .i64) 3 w' w.heap.size (fun _=>True) v426 x3_1)∧Aside0 (w'.heap[gb424]? = some (.cells #[(.slice A0_0 l0_0.length c0_0),(.slice A0_1 l0_1.length c0_1)] 25 (0,0)))∧Aside0 (Below w.heap.size w w'))
 case atStart=>exact⟨(y425),(0),(0),zt,zt,H',⟨Nat.le_refl _⟩,⟨zR_ HO427⟩,⟨zK_ BK424⟩,⟨zB_ HB⟩⟩
 case round =>
  clear H';(try clear c1);(try clear c2);(try clear c2b0);(try clear c2b1);(try clear p2);(try clear c3);(try clear c3b0);(try clear c3b1);(try clear hcz5_0);(try clear hcz5_1);(try clear hfz5_0);(try clear hfz5_1);obtain⟨x3_1,x4_1,x5_1,rfl,rfl,HA,HK1,HO_3,BK424,HB⟩:=hrel
  cases gk with
  | zero=>exact absurd HA.out (by simp [spec_l7Edges.l0])
  | succ k1 =>
   have H:=HA.out;clear HA;simp only [spec_l7Edges.l0] at H
   by_cases c8:x5_1<(x3_1.length:Int)
   ·rw [if_pos c8] at H
    have c8b0:=dT c8;clear c8
    have c9:=zpc H;replace H:=zph H
    have c9b0:=dT c9;clear c9
    have c10:=zpc H;replace H:=zph H
    have c10b0:=dT c10;clear c10
    by_cases c11:x5_1<(rd l0_1 x5_1)
    ·rw [if_pos c11] at H
     have c11b0:=dT c11;clear c11
     obtain⟨y429,hy429⟩ : ∃ y_:List Int,y_=(x3_1.set (x5_1:Int).toNat x4_1):=⟨_,rfl⟩
     replace H:(if 0≤(rd l0_1 x5_1) then (if (rd l0_1 x5_1)<(x3_1.length:Int) then (spec_l7Edges.l0 k1 (y429.set ((rd l0_1 x5_1):Int).toNat x4_1) (wrap64 (x4_1+1)) (wrap64 (x5_1+1)) l0_0 l0_1) else (none)) else (none))=some r:=zH hy429 H
     have Ny429:=A0_ hy429;clear hy429
     have c13:=zpc H;replace H:=zph H
     have c13b0:=dT c13;clear c13
     have c14:=zpc H;replace H:=zph H
     have c14b0:=dT c14;clear c14
     obtain⟨y431,hy431⟩ : ∃ y_:List Int,y_=(y429.set ((rd l0_1 x5_1):Int).toNat x4_1):=⟨_,rfl⟩
     replace H:(spec_l7Edges.l0 k1 y431 (wrap64 (x4_1+1)) (wrap64 (x5_1+1)) l0_0 l0_1)=some r:=zH hy431 H
     have Ny431:=A0_ hy431;clear hy431;have H':=A0_ H;clear H;obtain⟨Ao16,co16,eo16⟩:=rS HO_3.out;subst eo16;have hcz17_0:=zc0 BK424;have hcz17_1:=zc1 BK424;have hfz17_0:=kF BK424.out 0;have hfz17_1:=kF BK424.out 1
     have p428:0≤(x5_1:Int):=zd
     have q428:x5_1<(l0_1.length:Int):=zd
     obtain⟨ad428,e428,hx428_0⟩:=tI HR0_1.out x5_1 p428 q428
     cases e428
     try replace hx428_0:=(HB.out.cell (wL w _ hx428_0)).trans hx428_0
     replace p428:=eq_true p428;replace q428:=eq_true q428
     have p12:0≤(x5_1:Int):=zd
     have q12:(x5_1:Int)<((x3_1.length:Int):Int):=zd
     obtain⟨go12,co12,eo12,gb12,gl12,cl12,HG12⟩:=Kd.R_form HO_3.out (by omega)
     (first|cases eo12|(injection eo12 with ea_ en_ ec_;(first|subst ea_|(injection ea_ with ea_;subst ea_));subst ec_;clear en_))
     have GB12:=A0_ gb12;have GG12:=A0_ HG12;clear gb12 gl12 HG12
     obtain⟨hx12_0,hf12_0⟩:=Kd.R_celln 0 HO_3.out (x5_1:Int) p12 q12
     replace p12:=eq_true p12;replace q12:=eq_true q12
     have HP18:=Kd.R_putg HO_3.out (x5_1:Int) x4_1
     go_wp2_with (first|((with_reducible refine gS (t:=3) (p:=26) rfl ?_);refine store_event (t:=3) (p:=26) (v := ?vo_w19) (w1:=(wr.setCell ⟨go12,(x5_1:Int).toNat,none⟩ (.int .i64 x4_1))) ?hg ?ho ?hn ?hr ?_;(case ho=>rfl);(case hg=>rfl);(case hn=>rfl);(case hr=>first|(go_simp;done)|(go_simp;rfl));intro w19 hw;have hg:wr.grownBy w19 (some go12):=(by rw [hw];exact HP18.2);have hp_:Kd.R (Kd.int .i64) 3 w19 w.heap.size (fun _=>True) (.slice (some ⟨go12,0,none⟩) x3_1.length co16) y429:=(by rw [hw,Ny429.out];exact HP18.1);clear HP18;replace BK424:=A0_ (blk_grown (g:=gb424) (o := .cells #[.slice A0_0 l0_0.length c0_0,.slice (some ad428) l0_1.length c0_1] 25 (0,0)) (zK_ BK424) hg (Kd.R_ne HO_3.out BK424.out (by decide)));replace HO_3:=A0_ (hp_);replace HB:=A0_ ((by rw [hw];exact bS (HB.out) GB12.out:Below w.heap.size w w19));clear hg hw hp_;have hcz20_0:=zc0 BK424;have hcz20_1:=zc1 BK424;have hfz20_0:=kF BK424.out 0;have hfz20_1:=kF BK424.out 1;have p430:0≤(x5_1:Int):=zd;have q430:x5_1<(l0_1.length:Int):=zd;obtain⟨ad430,e430,hx430_0⟩:=tI HR0_1.out x5_1 p430 q430;obtain rfl:ad428=ad430:=(by injection e430);try replace hx430_0:=(HB.out.cell (wL w _ hx430_0)).trans hx430_0;replace p430:=eq_true p430;replace q430:=eq_true q430;have p15:0≤((rd l0_1 x5_1):Int):=zd;have q15:((rd l0_1 x5_1):Int)<((x3_1.length:Int):Int):=zd;obtain⟨hx15_0,hf15_0⟩:=Kd.R_celln 0 HO_3.out ((rd l0_1 x5_1):Int) p15 q15;replace p15:=eq_true p15;replace q15:=eq_true q15;obtain⟨hy21_,hz21_⟩:=Kd.R_celln 0 HO_3.out ((rd l0_1 x5_1):Int) (zd) (zd);have HP21:=Kd.R_putg HO_3.out ((rd l0_1 x5_1):Int) x4_1)|((with_reducible refine gS (t:=3) (p:=34) rfl ?_);refine store_event (t:=3) (p:=34) (v := ?vo_w22) (w1:=(w19.setCell ⟨go12,((rd l0_1 x5_1):Int).toNat,none⟩ (.int .i64 x4_1))) ?hg ?ho ?hn ?hr ?_;(case ho=>rfl);(case hg=>rfl);(case hn=>rfl);(case hr=>first|(go_simp;done)|(go_simp;rfl));intro w22 hw;have hg:w19.grownBy w22 (some go12):=(by rw [hw];exact HP21.2);have hp_:Kd.R (Kd.int .i64) 3 w22 w.heap.size (fun _=>True) (.slice (some ⟨go12,0,none⟩) x3_1.length co16) y431:=(by rw [hw,Ny431.out];exact HP21.1);clear HP21;replace BK424:=A0_ (blk_grown (g:=gb424) (o := .cells #[.slice A0_0 l0_0.length c0_0,.slice (some ad428) l0_1.length c0_1] 25 (0,0)) (zK_ BK424) hg (Kd.R_ne HO_3.out BK424.out (by decide)));replace HO_3:=A0_ (hp_);replace HB:=A0_ ((by rw [hw];exact bS (HB.out) GB12.out:Below w.heap.size w w22));clear hg hw hp_))
     go_roundg k1
     case measure=>have:=HK1.out;omega
     case rel=>exact⟨(y431),(wrap64 (x4_1+1)),(wrap64 (x5_1+1)),zt,zt,H',⟨by have:=HK1.out;omega⟩,⟨zR_ HO_3⟩,⟨zK_ BK424⟩,⟨zB_ HB⟩⟩
    rw [if_neg c11] at H;have c11b0:=dF c11;clear c11;have H':=A0_ H;clear H;obtain⟨Ao23,co23,eo23⟩:=rS HO_3.out;subst eo23;have hcz24_0:=zc0 BK424;have hcz24_1:=zc1 BK424;have hfz24_0:=kF BK424.out 0;have hfz24_1:=kF BK424.out 1
    have p428:0≤(x5_1:Int):=zd
    have q428:x5_1<(l0_1.length:Int):=zd
    obtain⟨ad428,e428,hx428_0⟩:=tI HR0_1.out x5_1 p428 q428
    cases e428
    try replace hx428_0:=(HB.out.cell (wL w _ hx428_0)).trans hx428_0
    replace p428:=eq_true p428;replace q428:=eq_true q428
    go_wp2
    go_roundg k1
    case measure=>have:=HK1.out;omega
    case rel=>exact⟨(x3_1),(x4_1),(wrap64 (x5_1+1)),zt,zt,H',⟨by have:=HK1.out;omega⟩,⟨zR_ HO_3⟩,⟨zK_ BK424⟩,⟨zB_ HB⟩⟩
   rw [if_neg c8] at H;have c8b0:=dF c8;clear c8;obtain rfl:=sI H;obtain⟨Ao25,co25,eo25⟩:=rS HO_3.out;subst eo25
   go_wp2
   go_ret
   exact⟨_,by first|rfl|(simp [*] <;> rfl),zR_ HO_3,zB_ HB⟩

/-! ### spec_l9Volt: function 96 -/
def spec_l9Volt.f (k:Nat) (l0_0:List Int) (l0_1:List Int) (l1:List (List Int)) (a2:Int):Option (List Int):=(spec_l7Edges.f k l0_0 l0_1).bind fun t433=>(if 0≤a2 then (if a2<(t433.length:Int) then (if a2<(l0_1.length:Int) then (if a2<(rd l0_1 a2) then (if 0≤(rd t433 a2) then (if (rd t433 a2)<(l1.length:Int) then (some (rd_L1 l1 (rd t433 a2))) else (none)) else (none)) else (if 0≤(rd t433 a2) then (if (rd t433 a2)<(l1.length:Int) then ((spec_l1Back.f k (rd_L1 l1 (rd t433 a2))).bind fun t440=>(some t440)) else (none)) else (none))) else (none)) else (none)) else (none))
set_option maxHeartbeats 8000000 in
set_option maxRecDepth 100000 in
theorem spec_l9Volt.calls (k:Nat) (A0_0:Option Addr) (c0_0:Nat) (l0_0:List Int) (A0_1:Option Addr) (c0_1:Nat) (l0_1:List Int) (P1_:Nat→Prop) (A1:Option Addr) (c1:Nat) (l1:List (List Int)) (a2:Int) (r:List Int) (w:World) (hr0_0:Kd.C (Kd.int .i64) w A0_0 l0_0.length l0_0) (hc0_0:l0_0.length≤c0_0) (hr0_1:Kd.C (Kd.int .i64) w A0_1 l0_1.length l0_1) (hc0_1:l0_1.length≤c0_1) (hs1:Kd.V (Kd.slice 3 (Kd.int .i64)) 23 w w.heap.size (fun k_=>P1_ k_) (.slice A1 l1.length c1) l1) (h:spec_l9Volt.f k l0_0 l0_1 l1 a2=some r) :
    Calls Try.prog 96 #[.agg #[.slice A0_0 l0_0.length c0_0,.slice A0_1 l0_1.length c0_1],.slice A1 l1.length c1,.int .i64 a2] w fun e w' => ∃ v0_:Value,e = .returned (v0_)∧Kd.V (Kd.int .i64) 3 w' w.heap.size (fun k_=>(P1_ k_∨w.heap.size≤k_)) v0_ r∧Below w.heap.size w w':=by
 have hu25:=Try.underlying25;have HR0_0:=A0_ hr0_0;have HC0_0:=A0_ hc0_0;clear hr0_0 hc0_0;have HR0_1:=A0_ hr0_1;have HC0_1:=A0_ hc0_1;clear hr0_1 hc0_1
 have HO1:=A0_ (show Kd.V (Kd.slice 3 (Kd.int .i64)) 23 w w.heap.size (fun k_=>(P1_ k_∨w.heap.size≤k_)) (.slice A1 l1.length c1) l1 from Kd.V_mono hs1 (fun k_ hk => .inl hk))
 have HB:=A0_ (Below.refl w.heap.size w)
 have H:((spec_l7Edges.f k l0_0 l0_1).bind fun t433=>(if 0≤a2 then (if a2<(t433.length:Int) then (if a2<(l0_1.length:Int) then (if a2<(rd l0_1 a2) then (if 0≤(rd t433 a2) then (if (rd t433 a2)<(l1.length:Int) then (some (rd_L1 l1 (rd t433 a2))) else (none)) else (none)) else (if 0≤(rd t433 a2) then (if (rd t433 a2)<(l1.length:Int) then ((spec_l1Back.f k (rd_L1 l1 (rd t433 a2))).bind fun t440=>(some t440)) else (none)) else (none))) else (none)) else (none)) else (none)))=some r:=h
 clear h;obtain⟨t433,A4,H⟩:=zbind H
 have c5:=zpc H;replace H:=zph H
 have c5b0:=dT c5;clear c5
 have c6:=zpc H;replace H:=zph H
 have c6b0:=dT c6;clear c6
 have c7:=zpc H;replace H:=zph H
 have c7b0:=dT c7;clear c7
 by_cases c8:a2<(rd l0_1 a2)
 ·rw [if_pos c8] at H
  have c8b0:=dT c8;clear c8
  have c9:=zpc H;replace H:=zph H
  have c9b0:=dT c9;clear c9
  have c10:=zpc H;replace H:=zph H
  have c10b0:=dT c10;clear c10;obtain rfl:=sI H
  go_enter Try.func96,Try.ntmps96
  go_wp2_with (first|((with_reducible refine gD (N:=3) rfl ?_);refine zX (N:=3) (cs := #[.slice A0_0 l0_0.length c0_0,.slice A0_1 l0_1.length c0_1]) (t:=25) ?_;intro gb432 hg w11 hbox hb;replace HO1:=A0_ (Kd.V_below (Kd.V_elderB (by(with_reducible repeat(first|apply Kd.V_alloc|apply Kd.V_drewN|apply Kd.V_drew));exact HO1.out) gb432 (Nat.le_of_eq hg.symm)) hb);have BK432:=A0_ (hbox);have GW432:=zG hg HB;have GE432:=zG hg HB;replace HB:=zB HB hb;clear hb hbox hg;have hcz12_0:=zc0 BK432;have hcz12_1:=zc1 BK432;have hfz12_0:=kF BK432.out 0;have hfz12_1:=kF BK432.out 1)|((with_reducible refine gC (f:=112) rfl ?_);refine zJ (some 9) Try.func112 #[.agg #[.slice A0_0 l0_0.length c0_0,.slice A0_1 l0_1.length c0_1]] ?_;(with_reducible refine(spec_l7Edges.calls k _ _ l0_0 _ _ l0_1 t433 _ ?side1 ?side2 ?side3 ?side4 A4.out).mono ?_);(case side1=>exact zC HR0_0 HB);(case side2=>exact HC0_0.out);(case side3=>exact zC HR0_1 HB);(case side4=>exact HC0_1.out);rintro e w13 ⟨v434,rfl,ho0,hb⟩;refine⟨_,rfl,?_⟩;replace HO1:=A0_ (Kd.V_elder' (by(with_reducible repeat(first|apply Kd.V_alloc|apply Kd.V_drewN|apply Kd.V_drew));exact HO1.out) (Kd.R_base ho0) hb);have HO435:=A0_ (rL (Kd.R_newM (M:=fun k_=>(w.heap.size≤k_)) ho0 (bZ (zB_ HB)) (fun k_ h_=>h_)) (bZ (zB_ HB)));replace BK432:=zK BK432 hb;replace HB:=zB HB hb;(try clear hb);(try clear ho0);obtain⟨Ao14,co14,eo14⟩:=rS HO435.out;subst eo14;have p436:0≤(a2:Int):=zd;have q436:a2<(t433.length:Int):=zd;obtain⟨ad436,e436,hx436_0⟩:=tI (rR HO435.out).2.2 a2 p436 q436;cases e436;replace p436:=eq_true p436;replace q436:=eq_true q436;have hcz15_0:=zc0 BK432;have hcz15_1:=zc1 BK432;have hfz15_0:=kF BK432.out 0;have hfz15_1:=kF BK432.out 1;have p437:0≤(a2:Int):=zd;have q437:a2<(l0_1.length:Int):=zd;obtain⟨ad437,e437,hx437_0⟩:=tI HR0_1.out a2 p437 q437;cases e437;try replace hx437_0:=(HB.out.cell (wL w _ hx437_0)).trans hx437_0;replace p437:=eq_true p437;replace q437:=eq_true q437;have p438:0≤((rd t433 a2):Int):=zd;have q438:(rd t433 a2)<(l1.length:Int):=zd;obtain⟨ad438,A438_0,c438_0,e438,hx438_0,hl438_0,hi438_0⟩:=at_L1 (Kd.V_reads' HO1.out).2.2 (rd t433 a2) p438 q438;cases e438;obtain⟨ce438,hce438,hMe438,hcc438⟩:=Kd.V_get HO1.out [] (rd t433 a2) p438 (by first|exact q438|exact zd|(have e_:=(Kd.V_reads' HO1.out).1;omega));obtain⟨ua438_0,uc438_0,rfl,ul438_0,ge438_0⟩:=Kd.FK_slice_open hMe438;have hv438_0:=hcc438 0 _ rfl;rw [Nat.add_zero,show((Kd.slice 3 (Kd.int .i64))).sz=1 from rfl,Nat.mul_one] at hv438_0;replace hv438_0:=sI (hv438_0.symm.trans hx438_0);injection hv438_0 with hva_ hvn_ hvc_;rw [hva_] at ge438_0;rw [hvc_] at ul438_0;have HL438_0:=A0_ (show Kd.V (Kd.int .i64) 3 _ w.heap.size _ _ (rd_L1 l1 (rd t433 a2)) from Kd.V_mk ul438_0 ge438_0);clear hva_ hvn_ hvc_ ge438_0 ul438_0 hcc438 hce438;have HR438_0:=A0_ hi438_0;have HC438_0:=A0_ hl438_0;clear hi438_0 hl438_0;replace p438:=eq_true p438;replace q438:=eq_true q438))
  go_ret
  exact⟨_,by first|rfl|(simp [*] <;> rfl),by(with_reducible repeat(first|apply Kd.V_alloc|apply Kd.V_drewN|apply Kd.V_drew));exact Kd.V_mono HL438_0.out (fun _ hk=>hk.1.1),zB_ HB⟩
 rw [if_neg c8] at H;have c8b0:=dF c8;clear c8
 have c16:=zpc H;replace H:=zph H
 have c16b0:=dT c16;clear c16
 have c17:=zpc H;replace H:=zph H
 have c17b0:=dT c17;clear c17;obtain⟨t440,A18,H⟩:=zbind H;obtain rfl:=sI H
 go_enter Try.func96,Try.ntmps96
 go_wp2_with (first|((with_reducible refine gD (N:=3) rfl ?_);refine zX (N:=3) (cs := #[.slice A0_0 l0_0.length c0_0,.slice A0_1 l0_1.length c0_1]) (t:=25) ?_;intro gb432 hg w19 hbox hb;replace HO1:=A0_ (Kd.V_below (Kd.V_elderB (by(with_reducible repeat(first|apply Kd.V_alloc|apply Kd.V_drewN|apply Kd.V_drew));exact HO1.out) gb432 (Nat.le_of_eq hg.symm)) hb);have BK432:=A0_ (hbox);have GW432:=zG hg HB;have GE432:=zG hg HB;replace HB:=zB HB hb;clear hb hbox hg;have hcz20_0:=zc0 BK432;have hcz20_1:=zc1 BK432;have hfz20_0:=kF BK432.out 0;have hfz20_1:=kF BK432.out 1)|((with_reducible refine gC (f:=112) rfl ?_);refine zJ (some 9) Try.func112 #[.agg #[.slice A0_0 l0_0.length c0_0,.slice A0_1 l0_1.length c0_1]] ?_;(with_reducible refine(spec_l7Edges.calls k _ _ l0_0 _ _ l0_1 t433 _ ?side1 ?side2 ?side3 ?side4 A4.out).mono ?_);(case side1=>exact zC HR0_0 HB);(case side2=>exact HC0_0.out);(case side3=>exact zC HR0_1 HB);(case side4=>exact HC0_1.out);rintro e w21 ⟨v434,rfl,ho0,hb⟩;refine⟨_,rfl,?_⟩;replace HO1:=A0_ (Kd.V_elder' (by(with_reducible repeat(first|apply Kd.V_alloc|apply Kd.V_drewN|apply Kd.V_drew));exact HO1.out) (Kd.R_base ho0) hb);have HO435:=A0_ (rL (Kd.R_newM (M:=fun k_=>(w.heap.size≤k_)) ho0 (bZ (zB_ HB)) (fun k_ h_=>h_)) (bZ (zB_ HB)));replace BK432:=zK BK432 hb;replace HB:=zB HB hb;(try clear hb);(try clear ho0);obtain⟨Ao22,co22,eo22⟩:=rS HO435.out;subst eo22;have p436:0≤(a2:Int):=zd;have q436:a2<(t433.length:Int):=zd;obtain⟨ad436,e436,hx436_0⟩:=tI (rR HO435.out).2.2 a2 p436 q436;cases e436;replace p436:=eq_true p436;replace q436:=eq_true q436;have hcz23_0:=zc0 BK432;have hcz23_1:=zc1 BK432;have hfz23_0:=kF BK432.out 0;have hfz23_1:=kF BK432.out 1;have p437:0≤(a2:Int):=zd;have q437:a2<(l0_1.length:Int):=zd;obtain⟨ad437,e437,hx437_0⟩:=tI HR0_1.out a2 p437 q437;cases e437;try replace hx437_0:=(HB.out.cell (wL w _ hx437_0)).trans hx437_0;replace p437:=eq_true p437;replace q437:=eq_true q437;have p439:0≤((rd t433 a2):Int):=zd;have q439:(rd t433 a2)<(l1.length:Int):=zd;obtain⟨ad439,A439_0,c439_0,e439,hx439_0,hl439_0,hi439_0⟩:=at_L1 (Kd.V_reads' HO1.out).2.2 (rd t433 a2) p439 q439;cases e439;obtain⟨ce439,hce439,hMe439,hcc439⟩:=Kd.V_get HO1.out [] (rd t433 a2) p439 (by first|exact q439|exact zd|(have e_:=(Kd.V_reads' HO1.out).1;omega));obtain⟨ua439_0,uc439_0,rfl,ul439_0,ge439_0⟩:=Kd.FK_slice_open hMe439;have hv439_0:=hcc439 0 _ rfl;rw [Nat.add_zero,show((Kd.slice 3 (Kd.int .i64))).sz=1 from rfl,Nat.mul_one] at hv439_0;replace hv439_0:=sI (hv439_0.symm.trans hx439_0);injection hv439_0 with hva_ hvn_ hvc_;rw [hva_] at ge439_0;rw [hvc_] at ul439_0;have HL439_0:=A0_ (show Kd.V (Kd.int .i64) 3 _ w.heap.size _ _ (rd_L1 l1 (rd t433 a2)) from Kd.V_mk ul439_0 ge439_0);clear hva_ hvn_ hvc_ ge439_0 ul439_0 hcc439 hce439;have HR439_0:=A0_ hi439_0;have HC439_0:=A0_ hl439_0;clear hi439_0 hl439_0;replace p439:=eq_true p439;replace q439:=eq_true q439)|((with_reducible refine gC (f:=93) rfl ?_);refine zJ (some 28) Try.func93 #[.slice A439_0 (rd_L1 l1 (rd t433 a2)).length c439_0] ?_;(with_reducible refine(spec_l1Back.calls k _ _ (rd_L1 l1 (rd t433 a2)) t440 _ ?side1 ?side2 A18.out).mono ?_);(case side1=>repeat(first|exact(by repeat(first|(with_reducible exact HR439_0.out)|(with_reducible refine cA ?_ _)|(with_reducible refine cN ?_ _)|(with_reducible refine cD ?_)|exact HR439_0.out))|(with_reducible refine cA ?_ _)|(with_reducible refine cN ?_ _)|(with_reducible refine cD ?_)));(case side2=>exact HC439_0.out);rintro e w24 ⟨v441,rfl,ho0,hb⟩;refine⟨_,rfl,?_⟩;replace HO1:=A0_ (Kd.V_elder' (by(with_reducible repeat(first|apply Kd.V_alloc|apply Kd.V_drewN|apply Kd.V_drew));exact HO1.out) (Kd.R_base ho0) hb);replace HL439_0:=A0_ (Kd.V_elder' (by(with_reducible repeat(first|apply Kd.V_alloc|apply Kd.V_drewN|apply Kd.V_drew));exact HL439_0.out) (Kd.R_base ho0) hb);have HO442:=A0_ (rL (Kd.R_new' (Kd.R_newM (M:=fun k_=>(w.heap.size≤k_)) ho0 (bZ (zB_ HB)) (fun k_ h_=>h_)) (rX (zR_ HO435))) (bZ (zB_ HB)));replace HO435:=A0_ (Kd.R_elder' (zR_ HO435) (Kd.R_base ho0) hb);replace BK432:=zK BK432 hb;replace HR439_0:=A0_ (cB (by repeat(first|(with_reducible exact HR439_0.out)|(with_reducible refine cA ?_ _)|(with_reducible refine cN ?_ _)|(with_reducible refine cD ?_)|exact HR439_0.out)) hb);replace HB:=zB HB hb;(try clear hb);(try clear ho0)))
 go_ret
 exact⟨_,by first|rfl|(simp [*] <;> rfl),Kd.V_mono (Kd.R_V (zmR HO442 (fun _ hk=>hk.1.1))) (fun k_ hk=>by first|exact⟨(.inr (hk.1)),hk.2⟩|exact(.inr (hk))),zB_ HB⟩

end Go.Proofs.Ytmegggomhjgehaa.PFnCover
