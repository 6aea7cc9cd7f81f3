-- Made by a program of this session (wip/tools) out of the loaded program; not trusted: Lean checks it.
import Derived.Test.YtmegggomhjgehaaPFnCoverx0
import Derived.Test.YtmegggomhjgehaaPFnCoverx1
import Derived.Test.YtmegggomhjgehaaPFnCoverx2
import Derived.Test.YtmegggomhjgehaaPFnCoverx3
import Derived.Test.YtmegggomhjgehaaPFnCoverx4
-- packed
-- packed2
namespace Go.Proofs.Ytmegggomhjgehaa.PFnCover
open Go.RowKit Go.Proofs.YtmegggomhjgehaaW.PrintWords Go.Proofs.YtmegggomhjgehaaW.PrintLast Go.Proofs.YtmegggomhjgehaaW.PrintMore
attribute [local go_sem] max2_int min2_int max_two min_two max_three min_three max_four min_four
set_option linter.unusedVariables false
set_option linter.unusedSimpArgs false

/-! ### impl_CoverMap: function 20 -/
def impl_CoverMap.f (k:Nat) (l0_0:List Int) (l0_1:List Int) (a1:Int) (l2:List (List Int)):Option (List Int×List Int×Bool):=(impl_VoltageValid.f k l0_0 l0_1 a1 l2).bind fun t188=>(if t188=true then ((impl_cover.f k l0_0 l0_1 a1 l2).bind fun bt189=>((impl_MapValid.f k bt189.1 bt189.2).bind fun t196=>(if t196=true then (some (bt189.1,bt189.2,true)) else (some (([]:List Int),([]:List Int),false))))) else (some (([]:List Int),([]:List Int),false)))
set_option maxHeartbeats 8000000 in
set_option maxRecDepth 100000 in
theorem impl_CoverMap.calls (k:Nat) (A0_0:Option Addr) (c0_0:Nat) (l0_0:List Int) (A0_1:Option Addr) (c0_1:Nat) (l0_1:List Int) (a1:Int) (A2:Option Addr) (c2:Nat) (l2:List (List Int)) (r1:List Int) (r2:List Int) (r3:Bool) (w:World) (hr0_0:Kd.C (Kd.int .i64) w A0_0 l0_0.length l0_0) (hc0_0:l0_0.length≤c0_0) (hr0_1:Kd.C (Kd.int .i64) w A0_1 l0_1.length l0_1) (hc0_1:l0_1.length≤c0_1) (hr2:Kd.C (Kd.slice 3 (Kd.int .i64)) w A2 l2.length l2) (hc2:l2.length≤c2) (h:impl_CoverMap.f k l0_0 l0_1 a1 l2=some (r1,r2,r3)) :
    Calls Try.prog 20 #[.agg #[.slice A0_0 l0_0.length c0_0,.slice A0_1 l0_1.length c0_1],.int .i64 a1,.slice A2 l2.length c2] w fun e w' => ∃ v0_ v1_:Value,e = .returned (.tuple #[.agg #[v0_,v1_],.bool r3])∧Kd.R (Kd.int .i64) 3 w' w.heap.size (fun k_=>some k_≠(v1_:Value).ownBlock) v0_ r1∧Kd.R (Kd.int .i64) 3 w' w.heap.size (fun k_=>some k_≠(v0_:Value).ownBlock) v1_ r2∧Below w.heap.size w w':=by
 have hu25:=Try.underlying25;have HR0_0:=A0_ hr0_0;have HC0_0:=A0_ hc0_0;clear hr0_0 hc0_0;have HR0_1:=A0_ hr0_1;have HC0_1:=A0_ hc0_1;clear hr0_1 hc0_1;have HR2:=A0_ hr2;have HC2:=A0_ hc2;clear hr2 hc2
 have HB:=A0_ (Below.refl w.heap.size w)
 have H:((impl_VoltageValid.f k l0_0 l0_1 a1 l2).bind fun t188=>(if t188=true then ((impl_cover.f k l0_0 l0_1 a1 l2).bind fun bt189=>((impl_MapValid.f k bt189.1 bt189.2).bind fun t196=>(if t196=true then (some (bt189.1,bt189.2,true)) else (some (([]:List Int),([]:List Int),false))))) else (some (([]:List Int),([]:List Int),false))))=some (r1,r2,r3):=h
 clear h;obtain⟨t188,A4,H⟩:=zbind H
 by_cases c5:t188=true
 ·subst c5
  have H1:((impl_cover.f k l0_0 l0_1 a1 l2).bind fun bt189=>((impl_MapValid.f k bt189.1 bt189.2).bind fun t196=>(if t196=true then (some (bt189.1,bt189.2,true)) else (some (([]:List Int),([]:List Int),false)))))=some (r1,r2,r3):=by rw [if_pos rfl] at H;exact H
  clear H;have H:=H1;clear H1;obtain⟨⟨t189,t192⟩,A6,H⟩:=zbind H;dsimp only at H;obtain⟨t196,A7,H⟩:=zbind H
  by_cases c8:t196=true
  ·subst c8
   have H1:(some (t189,t192,true))=some (r1,r2,r3):=by rw [if_pos rfl] at H;exact H
   clear H;have H:=H1;clear H1;simp only [Option.some.injEq,Prod.mk.injEq] at H;obtain⟨rfl,rfl,rfl⟩:=H
   go_enter Try.func20,Try.ntmps20
   go_wp2_with (first|((with_reducible refine gD (N:=3) rfl ?_);refine zX (N:=3) (cs := #[.slice A0_0 l0_0.length c0_0,.slice A0_1 l0_1.length c0_1]) (t:=25) ?_;intro gb186 hg w9 hbox hb;have BK186:=A0_ (hbox);have GW186:=zG hg HB;have GE186:=zG hg HB;replace HB:=zB HB hb;clear hb hbox hg)|((with_reducible refine gD (N:=6) rfl ?_);refine zX (N:=6) (cs := #[.slice none 0 0,.slice none 0 0]) (t:=25) ?_;intro gb187 hg w10 hbox hb;have BK187:=A0_ (hbox);have GW187:=zG hg HB;have GE187:=zG hg HB;replace HB:=zB HB hb;have NB186_187:=zL hg BK186;have NB187_186:=zM hg BK186;replace BK186:=zK BK186 hb;clear hb hbox hg;have hnb11:=NB186_187.out;have hnc11:=NB187_186.out;have hcz12_0:=zc0 BK186;have hcz12_1:=zc1 BK186;have hfz12_0:=kF BK186.out 0;have hfz12_1:=kF BK186.out 1)|((with_reducible refine gC (f:=53) rfl ?_);refine zJ (some 12) Try.func53 #[.agg #[.slice A0_0 l0_0.length c0_0,.slice A0_1 l0_1.length c0_1],.int .i64 a1,.slice A2 l2.length c2] ?_;(with_reducible refine(impl_VoltageValid.calls k _ _ l0_0 _ _ l0_1 a1 _ _ l2 true _ ?side1 ?side2 ?side3 ?side4 ?side5 ?side6 A4.out).mono ?_);(case side1=>exact zC HR0_0 HB);(case side2=>exact HC0_0.out);(case side3=>exact zC HR0_1 HB);(case side4=>exact HC0_1.out);(case side5=>exact zC HR2 HB);(case side6=>exact HC2.out);rintro e w13 ⟨rfl,hb⟩;refine⟨_,rfl,?_⟩;replace BK186:=zK BK186 hb;replace BK187:=zK BK187 hb;replace HB:=zB HB hb;(try clear hb);have hcz14_0:=zc0 BK186;have hcz14_1:=zc1 BK186;have hfz14_0:=kF BK186.out 0;have hfz14_1:=kF BK186.out 1)|((with_reducible refine gC (f:=55) rfl ?_);refine zJ (some 18) Try.func55 #[.agg #[.slice A0_0 l0_0.length c0_0,.slice A0_1 l0_1.length c0_1],.int .i64 a1,.slice A2 l2.length c2] ?_;(with_reducible refine(impl_cover.calls k _ _ l0_0 _ _ l0_1 a1 _ _ l2 t189 t192 _ ?side1 ?side2 ?side3 ?side4 ?side5 ?side6 A6.out).mono ?_);(case side1=>exact zC HR0_0 HB);(case side2=>exact HC0_0.out);(case side3=>exact zC HR0_1 HB);(case side4=>exact HC0_1.out);(case side5=>exact zC HR2 HB);(case side6=>exact HC2.out);rintro e w15 ⟨v190,v193,rfl,ho0,ho1,hb⟩;refine⟨_,rfl,?_⟩;have HO191:=A0_ (rL ho0 (bZ (zB_ HB)));have HO194:=A0_ (rL ho1 (bZ (zB_ HB)));replace BK186:=zK BK186 hb;replace BK187:=zK BK187 hb;replace HB:=zB HB hb;(try clear hb);(try clear ho0);(try clear ho1))|((with_reducible refine gD (N:=8) rfl ?_);refine zX (N:=8) (cs := #[.slice none 0 0,.slice none 0 0]) (t:=25) ?_;intro gb195 hg w16 hbox hb;replace HO191:=zR HO191 hb;replace HO194:=zR HO194 hb;have BK195:=A0_ (hbox);have GW195:=zG hg HB;have GE195:=zG hg HB;replace HB:=zB HB hb;have NB186_195:=zL hg BK186;have NB195_186:=zM hg BK186;replace BK186:=zK BK186 hb;have NB187_195:=zL hg BK187;have NB195_187:=zM hg BK187;replace BK187:=zK BK187 hb;clear hb hbox hg;obtain⟨Ao17,co17,eo17⟩:=rS HO191.out;subst eo17;have hnb18:=NB195_186.out;have hnc18:=NB186_195.out;have hnb19:=NB195_187.out;have hnc19:=NB187_195.out;have hcz20_0:=zc0 BK195;have hcz20_1:=zc1 BK195;have hfz20_0:=kF BK195.out 0;have hfz20_1:=kF BK195.out 1;obtain⟨Ao21,co21,eo21⟩:=rS HO194.out;subst eo21)|((with_reducible refine gS (t:=25) (p:=8) rfl ?_);refine store_event (t:=25) (p:=8) (v := ?vo_w22) (w1:=((w16.setCell ⟨gb195,0,none⟩ (.slice Ao17 t189.length co17)).setCell ⟨gb195,1,none⟩ (.slice Ao21 t192.length co21))) ?hg ?ho ?hn ?hr ?_;(case ho=>rfl);(case hg=>rfl);(case hn=>rfl);(case hr=>first|(go_simp;done)|(go_simp;rfl));intro w22 hw;replace HO191:Aside0 (Kd.R (Kd.int .i64) 3 w22 w.heap.size (fun k_=>some k_≠(.slice Ao21 t192.length co21:Value).ownBlock) (.slice Ao17 t189.length co17) t189):=⟨(by rw [hw];exact(zF HO191 BK195 (.slice Ao17 t189.length co17) (.slice Ao21 t192.length co21) 0 1))⟩;replace HO194:Aside0 (Kd.R (Kd.int .i64) 3 w22 w.heap.size (fun k_=>some k_≠(.slice Ao17 t189.length co17:Value).ownBlock) (.slice Ao21 t192.length co21) t192):=⟨(by rw [hw];exact(zF HO194 BK195 (.slice Ao17 t189.length co17) (.slice Ao21 t192.length co21) 0 1))⟩;replace BK186:Aside0 (w22.heap[gb186]? = some (.cells #[.slice A0_0 l0_0.length c0_0,.slice A0_1 l0_1.length c0_1] 25 (0,0))):=⟨(by rw [hw];exact(by(with_reducible repeat(first|refine kN ?_ _|refine kD ?_|refine kA ?_ _));refine blk_far ?_ NB186_195.out _;(with_reducible repeat(first|refine kN ?_ _|refine kD ?_|refine kA ?_ _));refine blk_far ?_ NB186_195.out _;(with_reducible repeat(first|refine kN ?_ _|refine kD ?_|refine kA ?_ _));exact BK186.out))⟩;replace BK187:Aside0 (w22.heap[gb187]? = some (.cells #[.slice none 0 0,.slice none 0 0] 25 (0,0))):=⟨(by rw [hw];exact(by(with_reducible repeat(first|refine kN ?_ _|refine kD ?_|refine kA ?_ _));refine blk_far ?_ NB187_195.out _;(with_reducible repeat(first|refine kN ?_ _|refine kD ?_|refine kA ?_ _));refine blk_far ?_ NB187_195.out _;(with_reducible repeat(first|refine kN ?_ _|refine kD ?_|refine kA ?_ _));exact BK187.out))⟩;replace BK195:Aside0 (w22.heap[gb195]? = some (.cells #[.slice Ao17 t189.length co17,.slice Ao21 t192.length co21] 25 (0,0))):=⟨(by rw [hw];exact(by(with_reducible repeat(first|refine kN ?_ _|refine kD ?_|refine kA ?_ _));refine blk_put (cs := #[.slice Ao17 t189.length co17,.slice none 0 0]) ?_ 1 _ rfl;(with_reducible repeat(first|refine kN ?_ _|refine kD ?_|refine kA ?_ _));refine blk_put (cs := #[.slice none 0 0,.slice none 0 0]) ?_ 0 _ rfl;(with_reducible repeat(first|refine kN ?_ _|refine kD ?_|refine kA ?_ _));exact BK195.out))⟩;replace HB:Aside0 (Below w.heap.size w w22):=⟨(by rw [hw];exact(zB_ HB))⟩;clear hw;have hcz23_0:=zc0 BK195;have hcz23_1:=zc1 BK195;have hfz23_0:=kF BK195.out 0;have hfz23_1:=kF BK195.out 1)|((with_reducible refine gC (f:=54) rfl ?_);refine zJ (some 20) Try.func54 #[.agg #[.slice Ao17 t189.length co17,.slice Ao21 t192.length co21]] ?_;(with_reducible refine(impl_MapValid.calls k (fun k_=>some k_=(.slice Ao17 t189.length co17:Value).ownBlock) _ _ t189 (fun k_=>some k_=(.slice Ao21 t192.length co21:Value).ownBlock) _ _ t192 true _ ?side1 ?side2 A7.out).mono ?_);(case side1=>exact Kd.R_V (Kd.R_tight rfl (rY (rY (rY (HO191.out) BK186.out (by decide)) BK187.out (by decide)) BK195.out (by decide))));(case side2=>exact Kd.R_V (Kd.R_tight rfl (rY (rY (rY (HO194.out) BK186.out (by decide)) BK187.out (by decide)) BK195.out (by decide))));rintro e w24 ⟨rfl,hb⟩;refine⟨_,rfl,?_⟩;replace HO191:=zR HO191 hb;replace HO194:=zR HO194 hb;replace BK186:=zK BK186 hb;replace BK187:=zK BK187 hb;replace BK195:=zK BK195 hb;replace HB:=zB HB hb;(try clear hb);have hcz25_0:=zc0 BK195;have hcz25_1:=zc1 BK195;have hfz25_0:=kF BK195.out 0;have hfz25_1:=kF BK195.out 1;have hcz26_0:=zc0 BK187;have hcz26_1:=zc1 BK187;have hfz26_0:=kF BK187.out 0;have hfz26_1:=kF BK187.out 1))
   refine bodyPost_ret (results_ct rfl _ _ gb187 25 #[.slice Ao17 t189.length co17,.slice Ao21 t192.length co21] (0,0) _ rfl (by(with_reducible repeat(first|refine kN ?_ _|refine kD ?_|refine kA ?_ _));refine blk_put (cs := #[.slice Ao17 t189.length co17,.slice none 0 0]) ?_ 1 _ rfl;(with_reducible repeat(first|refine kN ?_ _|refine kD ?_|refine kA ?_ _));refine blk_put (cs := #[.slice none 0 0,.slice none 0 0]) ?_ 0 _ rfl;(with_reducible repeat(first|refine kN ?_ _|refine kD ?_|refine kA ?_ _));exact BK187.out) Try.underlying25 rfl (by kernel_rfl)) rfl ?_
   exact⟨_,_,by first|rfl|(simp [*] <;> rfl),zF HO191 BK187 (.slice Ao17 t189.length co17) (.slice Ao21 t192.length co21) 0 1,zF HO194 BK187 (.slice Ao17 t189.length co17) (.slice Ao21 t192.length co21) 0 1,zB_ HB⟩
  replace c8:=Bool.eq_false_iff.mpr c8;subst c8
  have H1:(some (([]:List Int),([]:List Int),false))=some (r1,r2,r3):=by rw [if_neg (show ¬ (false=true) by decide)] at H;exact H
  clear H;have H:=H1;clear H1;simp only [Option.some.injEq,Prod.mk.injEq] at H;obtain⟨rfl,rfl,rfl⟩:=H
  go_enter Try.func20,Try.ntmps20
  go_wp2_with (first|((with_reducible refine gD (N:=3) rfl ?_);refine zX (N:=3) (cs := #[.slice A0_0 l0_0.length c0_0,.slice A0_1 l0_1.length c0_1]) (t:=25) ?_;intro gb186 hg w27 hbox hb;have BK186:=A0_ (hbox);have GW186:=zG hg HB;have GE186:=zG hg HB;replace HB:=zB HB hb;clear hb hbox hg)|((with_reducible refine gD (N:=6) rfl ?_);refine zX (N:=6) (cs := #[.slice none 0 0,.slice none 0 0]) (t:=25) ?_;intro gb187 hg w28 hbox hb;have BK187:=A0_ (hbox);have GW187:=zG hg HB;have GE187:=zG hg HB;replace HB:=zB HB hb;have NB186_187:=zL hg BK186;have NB187_186:=zM hg BK186;replace BK186:=zK BK186 hb;clear hb hbox hg;have hnb29:=NB186_187.out;have hnc29:=NB187_186.out;have hcz30_0:=zc0 BK186;have hcz30_1:=zc1 BK186;have hfz30_0:=kF BK186.out 0;have hfz30_1:=kF BK186.out 1)|((with_reducible refine gC (f:=53) rfl ?_);refine zJ (some 12) Try.func53 #[.agg #[.slice A0_0 l0_0.length c0_0,.slice A0_1 l0_1.length c0_1],.int .i64 a1,.slice A2 l2.length c2] ?_;(with_reducible refine(impl_VoltageValid.calls k _ _ l0_0 _ _ l0_1 a1 _ _ l2 true _ ?side1 ?side2 ?side3 ?side4 ?side5 ?side6 A4.out).mono ?_);(case side1=>exact zC HR0_0 HB);(case side2=>exact HC0_0.out);(case side3=>exact zC HR0_1 HB);(case side4=>exact HC0_1.out);(case side5=>exact zC HR2 HB);(case side6=>exact HC2.out);rintro e w31 ⟨rfl,hb⟩;refine⟨_,rfl,?_⟩;replace BK186:=zK BK186 hb;replace BK187:=zK BK187 hb;replace HB:=zB HB hb;(try clear hb);have hcz32_0:=zc0 BK186;have hcz32_1:=zc1 BK186;have hfz32_0:=kF BK186.out 0;have hfz32_1:=kF BK186.out 1)|((with_reducible refine gC (f:=55) rfl ?_);refine zJ (some 18) Try.func55 #[.agg #[.slice A0_0 l0_0.length c0_0,.slice A0_1 l0_1.length c0_1],.int .i64 a1,.slice A2 l2.length c2] ?_;(with_reducible refine(impl_cover.calls k _ _ l0_0 _ _ l0_1 a1 _ _ l2 t189 t192 _ ?side1 ?side2 ?side3 ?side4 ?side5 ?side6 A6.out).mono ?_);(case side1=>exact zC HR0_0 HB);(case side2=>exact HC0_0.out);(case side3=>exact zC HR0_1 HB);(case side4=>exact HC0_1.out);(case side5=>exact zC HR2 HB);(case side6=>exact HC2.out);rintro e w33 ⟨v190,v193,rfl,ho0,ho1,hb⟩;refine⟨_,rfl,?_⟩;have HO191:=A0_ (rL ho0 (bZ (zB_ HB)));have HO194:=A0_ (rL ho1 (bZ (zB_ HB)));replace BK186:=zK BK186 hb;replace BK187:=zK BK187 hb;replace HB:=zB HB hb;(try clear hb);(try clear ho0);(try clear ho1))|((with_reducible refine gD (N:=8) rfl ?_);refine zX (N:=8) (cs := #[.slice none 0 0,.slice none 0 0]) (t:=25) ?_;intro gb195 hg w34 hbox hb;replace HO191:=zR HO191 hb;replace HO194:=zR HO194 hb;have BK195:=A0_ (hbox);have GW195:=zG hg HB;have GE195:=zG hg HB;replace HB:=zB HB hb;have NB186_195:=zL hg BK186;have NB195_186:=zM hg BK186;replace BK186:=zK BK186 hb;have NB187_195:=zL hg BK187;have NB195_187:=zM hg BK187;replace BK187:=zK BK187 hb;clear hb hbox hg;obtain⟨Ao35,co35,eo35⟩:=rS HO191.out;subst eo35;have hnb36:=NB195_186.out;have hnc36:=NB186_195.out;have hnb37:=NB195_187.out;have hnc37:=NB187_195.out;have hcz38_0:=zc0 BK195;have hcz38_1:=zc1 BK195;have hfz38_0:=kF BK195.out 0;have hfz38_1:=kF BK195.out 1;obtain⟨Ao39,co39,eo39⟩:=rS HO194.out;subst eo39)|((with_reducible refine gS (t:=25) (p:=8) rfl ?_);refine store_event (t:=25) (p:=8) (v := ?vo_w40) (w1:=((w34.setCell ⟨gb195,0,none⟩ (.slice Ao35 t189.length co35)).setCell ⟨gb195,1,none⟩ (.slice Ao39 t192.length co39))) ?hg ?ho ?hn ?hr ?_;(case ho=>rfl);(case hg=>rfl);(case hn=>rfl);(case hr=>first|(go_simp;done)|(go_simp;rfl));intro w40 hw;replace HO191:Aside0 (Kd.R (Kd.int .i64) 3 w40 w.heap.size (fun k_=>some k_≠(.slice Ao39 t192.length co39:Value).ownBlock) (.slice Ao35 t189.length co35) t189):=⟨(by rw [hw];exact(zF HO191 BK195 (.slice Ao35 t189.length co35) (.slice Ao39 t192.length co39) 0 1))⟩;replace HO194:Aside0 (Kd.R (Kd.int .i64) 3 w40 w.heap.size (fun k_=>some k_≠(.slice Ao35 t189.length co35:Value).ownBlock) (.slice Ao39 t192.length co39) t192):=⟨(by rw [hw];exact(zF HO194 BK195 (.slice Ao35 t189.length co35) (.slice Ao39 t192.length co39) 0 1))⟩;replace BK186:Aside0 (w40.heap[gb186]? = some (.cells #[.slice A0_0 l0_0.length c0_0,.slice A0_1 l0_1.length c0_1] 25 (0,0))):=⟨(by rw [hw];exact(by(with_reducible repeat(first|refine kN ?_ _|refine kD ?_|refine kA ?_ _));refine blk_far ?_ NB186_195.out _;(with_reducible repeat(first|refine kN ?_ _|refine kD ?_|refine kA ?_ _));refine blk_far ?_ NB186_195.out _;(with_reducible repeat(first|refine kN ?_ _|refine kD ?_|refine kA ?_ _));exact BK186.out))⟩;replace BK187:Aside0 (w40.heap[gb187]? = some (.cells #[.slice none 0 0,.slice none 0 0] 25 (0,0))):=⟨(by rw [hw];exact(by(with_reducible repeat(first|refine kN ?_ _|refine kD ?_|refine kA ?_ _));refine blk_far ?_ NB187_195.out _;(with_reducible repeat(first|refine kN ?_ _|refine kD ?_|refine kA ?_ _));refine blk_far ?_ NB187_195.out _;(with_reducible repeat(first|refine kN ?_ _|refine kD ?_|refine kA ?_ _));exact BK187.out))⟩;replace BK195:Aside0 (w40.heap[gb195]? = some (.cells #[.slice Ao35 t189.length co35,.slice Ao39 t192.length co39] 25 (0,0))):=⟨(by rw [hw];exact(by(with_reducible repeat(first|refine kN ?_ _|refine kD ?_|refine kA ?_ _));refine blk_put (cs := #[.slice Ao35 t189.length co35,.slice none 0 0]) ?_ 1 _ rfl;(with_reducible repeat(first|refine kN ?_ _|refine kD ?_|refine kA ?_ _));refine blk_put (cs := #[.slice none 0 0,.slice none 0 0]) ?_ 0 _ rfl;(with_reducible repeat(first|refine kN ?_ _|refine kD ?_|refine kA ?_ _));exact BK195.out))⟩;replace HB:Aside0 (Below w.heap.size w w40):=⟨(by rw [hw];exact(zB_ HB))⟩;clear hw;have hcz41_0:=zc0 BK195;have hcz41_1:=zc1 BK195;have hfz41_0:=kF BK195.out 0;have hfz41_1:=kF BK195.out 1)|((with_reducible refine gC (f:=54) rfl ?_);refine zJ (some 20) Try.func54 #[.agg #[.slice Ao35 t189.length co35,.slice Ao39 t192.length co39]] ?_;(with_reducible refine(impl_MapValid.calls k (fun k_=>some k_=(.slice Ao35 t189.length co35:Value).ownBlock) _ _ t189 (fun k_=>some k_=(.slice Ao39 t192.length co39:Value).ownBlock) _ _ t192 false _ ?side1 ?side2 A7.out).mono ?_);(case side1=>exact Kd.R_V (Kd.R_tight rfl (rY (rY (rY (HO191.out) BK186.out (by decide)) BK187.out (by decide)) BK195.out (by decide))));(case side2=>exact Kd.R_V (Kd.R_tight rfl (rY (rY (rY (HO194.out) BK186.out (by decide)) BK187.out (by decide)) BK195.out (by decide))));rintro e w42 ⟨rfl,hb⟩;refine⟨_,rfl,?_⟩;replace HO191:=zR HO191 hb;replace HO194:=zR HO194 hb;replace BK186:=zK BK186 hb;replace BK187:=zK BK187 hb;replace BK195:=zK BK195 hb;replace HB:=zB HB hb;(try clear hb);have hcz43_0:=zc0 BK187;have hcz43_1:=zc1 BK187;have hfz43_0:=kF BK187.out 0;have hfz43_1:=kF BK187.out 1))
  refine bodyPost_ret (results_ct rfl _ _ gb187 25 #[.slice none 0 0,.slice none 0 0] (0,0) _ rfl (by(with_reducible repeat(first|refine kN ?_ _|refine kD ?_|refine kA ?_ _));refine blk_put (cs := #[.slice none 0 0,.slice none 0 0]) ?_ 1 _ rfl;(with_reducible repeat(first|refine kN ?_ _|refine kD ?_|refine kA ?_ _));refine blk_put (cs := #[.slice none 0 0,.slice none 0 0]) ?_ 0 _ rfl;(with_reducible repeat(first|refine kN ?_ _|refine kD ?_|refine kA ?_ _));exact BK187.out) Try.underlying25 rfl (by kernel_rfl)) rfl ?_
  exact⟨_,_,by first|rfl|(simp [*] <;> rfl),by first|exact Kd.R_nil _ _ _ _ _|exact Kd.N_nil _ _ _ _ _|exact Kd.V_nil _ _ _ _ _|exact Kd.Q_nil _ _ _ _ _|exact Kd.S_nil _ _ _ _ _,by first|exact Kd.R_nil _ _ _ _ _|exact Kd.N_nil _ _ _ _ _|exact Kd.V_nil _ _ _ _ _|exact Kd.Q_nil _ _ _ _ _|exact Kd.S_nil _ _ _ _ _,zB_ HB⟩
 replace c5:=Bool.eq_false_iff.mpr c5;subst c5
 have H1:(some (([]:List Int),([]:List Int),false))=some (r1,r2,r3):=by rw [if_neg (show ¬ (false=true) by decide)] at H;exact H
 clear H;have H:=H1;clear H1;simp only [Option.some.injEq,Prod.mk.injEq] at H;obtain⟨rfl,rfl,rfl⟩:=H
 go_enter Try.func20,Try.ntmps20
 go_wp2_with (first|((with_reducible refine gD (N:=3) rfl ?_);refine zX (N:=3) (cs := #[.slice A0_0 l0_0.length c0_0,.slice A0_1 l0_1.length c0_1]) (t:=25) ?_;intro gb186 hg w44 hbox hb;have BK186:=A0_ (hbox);have GW186:=zG hg HB;have GE186:=zG hg HB;replace HB:=zB HB hb;clear hb hbox hg)|((with_reducible refine gD (N:=6) rfl ?_);refine zX (N:=6) (cs := #[.slice none 0 0,.slice none 0 0]) (t:=25) ?_;intro gb187 hg w45 hbox hb;have BK187:=A0_ (hbox);have GW187:=zG hg HB;have GE187:=zG hg HB;replace HB:=zB HB hb;have NB186_187:=zL hg BK186;have NB187_186:=zM hg BK186;replace BK186:=zK BK186 hb;clear hb hbox hg;have hnb46:=NB186_187.out;have hnc46:=NB187_186.out;have hcz47_0:=zc0 BK186;have hcz47_1:=zc1 BK186;have hfz47_0:=kF BK186.out 0;have hfz47_1:=kF BK186.out 1)|((with_reducible refine gC (f:=53) rfl ?_);refine zJ (some 12) Try.func53 #[.agg #[.slice A0_0 l0_0.length c0_0,.slice A0_1 l0_1.length c0_1],.int .i64 a1,.slice A2 l2.length c2] ?_;(with_reducible refine(impl_VoltageValid.calls k _ _ l0_0 _ _ l0_1 a1 _ _ l2 false _ ?side1 ?side2 ?side3 ?side4 ?side5 ?side6 A4.out).mono ?_);(case side1=>exact zC HR0_0 HB);(case side2=>exact HC0_0.out);(case side3=>exact zC HR0_1 HB);(case side4=>exact HC0_1.out);(case side5=>exact zC HR2 HB);(case side6=>exact HC2.out);rintro e w48 ⟨rfl,hb⟩;refine⟨_,rfl,?_⟩;replace BK186:=zK BK186 hb;replace BK187:=zK BK187 hb;replace HB:=zB HB hb;(try clear hb);have hcz49_0:=zc0 BK187;have hcz49_1:=zc1 BK187;have hfz49_0:=kF BK187.out 0;have hfz49_1:=kF BK187.out 1))
 refine bodyPost_ret (results_ct rfl _ _ gb187 25 #[.slice none 0 0,.slice none 0 0] (0,0) _ rfl (by(with_reducible repeat(first|refine kN ?_ _|refine kD ?_|refine kA ?_ _));refine blk_put (cs := #[.slice none 0 0,.slice none 0 0]) ?_ 1 _ rfl;(with_reducible repeat(first|refine kN ?_ _|refine kD ?_|refine kA ?_ _));refine blk_put (cs := #[.slice none 0 0,.slice none 0 0]) ?_ 0 _ rfl;(with_reducible repeat(first|refine kN ?_ _|refine kD ?_|refine kA ?_ _));exact BK187.out) Try.underlying25 rfl (by kernel_rfl)) rfl ?_
 exact⟨_,_,by first|rfl|(simp [*] <;> rfl),by first|exact Kd.R_nil _ _ _ _ _|exact Kd.N_nil _ _ _ _ _|exact Kd.V_nil _ _ _ _ _|exact Kd.Q_nil _ _ _ _ _|exact Kd.S_nil _ _ _ _ _,by first|exact Kd.R_nil _ _ _ _ _|exact Kd.N_nil _ _ _ _ _|exact Kd.V_nil _ _ _ _ _|exact Kd.Q_nil _ _ _ _ _|exact Kd.S_nil _ _ _ _ _,zB_ HB⟩

/-! ### impl_cyclesOf: function 68 -/
mutual
def impl_cyclesOf.l0:Nat→List Int→List (List Int)→List Bool→Int→Int→Option ((List (List Int)))
  | 0,_,_,_,_,_=>none
  | k+1,x0,x3,x4,x13,x14=>if x14<x13 then (impl_cyclesOf.l1 k x0 x3 x4 (([]:List Int)) x14 x13 x14) else (some x3)
def impl_cyclesOf.l1:Nat→List Int→List (List Int)→List Bool→List Int→Int→Int→Int→Option ((List (List Int)))
  | 0,_,_,_,_,_,_,_=>none
  | k+1,x0,x3,x4,x6,x7,x13,x14=>if 0≤x7 then (if x7<(x4.length:Int) then (if rdOf false x4 x7=true then (if (x6.length:Int)>0 then (if x3.length<5864062014805 then (impl_cyclesOf.l0 k x0 (x3 ++ [x6]) x4 x13 (wrap64 (x14+1))) else (none)) else (impl_cyclesOf.l0 k x0 x3 x4 x13 (wrap64 (x14+1)))) else (if x6.length<17592186044416 then (if x7<(x0.length:Int) then (impl_cyclesOf.l1 k x0 x3 (x4.set (x7:Int).toNat true) (x6 ++ [x7]) (rd x0 x7) x13 x14) else (none)) else (none))) else (none)) else (none)
end
def impl_cyclesOf.f (k:Nat) (l0:List Int):Option ((List (List Int))):=if 0≤(l0.length:Int) then (if ((l0.length:Int):Int).toNat≤281474976710656 then (impl_cyclesOf.l0 k l0 (([]:List (List Int))) (List.replicate ((l0.length:Int):Int).toNat false) (l0.length:Int) 0) else (none)) else (none)
set_option maxHeartbeats 8000000 in
set_option maxRecDepth 100000 in
theorem impl_cyclesOf.calls (k:Nat) (A0:Option Addr) (c0:Nat) (l0:List Int) (r:List (List Int)) (w:World) (hr0:Kd.C (Kd.int .i64) w A0 l0.length l0) (hc0:l0.length≤c0) (h:impl_cyclesOf.f k l0=some r) :
    Calls Try.prog 68 #[.slice A0 l0.length c0] w fun e w' => ∃ v0_:Value,e = .returned (v0_)∧Kd.S (Kd.slice 3 (Kd.int .i64)) 23 w' w.heap.size (fun _=>True) v0_ r∧Below w.heap.size w w':=by
 have HR0:=A0_ hr0;have HC0:=A0_ hc0;clear hr0 hc0
 have HB:=A0_ (Below.refl w.heap.size w)
 have H:(if 0≤(l0.length:Int) then (if ((l0.length:Int):Int).toNat≤281474976710656 then (impl_cyclesOf.l0 k l0 (([]:List (List Int))) (List.replicate ((l0.length:Int):Int).toNat false) (l0.length:Int) 0) else (none)) else (none))=some r:=h
 clear h
 obtain⟨y197,hy197⟩ : ∃ y_:List (List Int),y_=(([]:List (List Int))):=⟨_,rfl⟩
 replace H:(if 0≤(l0.length:Int) then (if ((l0.length:Int):Int).toNat≤281474976710656 then (impl_cyclesOf.l0 k l0 y197 (List.replicate ((l0.length:Int):Int).toNat false) (l0.length:Int) 0) else (none)) else (none))=some r:=zH hy197 H
 have Ny197:=A0_ hy197;clear hy197
 have c2:=zpc H;replace H:=zph H
 have c2b0:=eq_true c2;have c2b1:=dT c2;clear c2
 have c3:=zpc H;replace H:=zph H
 have c3b0:=eq_true c3;have c3b1:=dT c3;clear c3
 obtain⟨y200,hy200⟩ : ∃ y_:List Bool,y_=(List.replicate ((l0.length:Int):Int).toNat false):=⟨_,rfl⟩
 replace H:(impl_cyclesOf.l0 k l0 y197 y200 (l0.length:Int) 0)=some r:=zH hy200 H
 have Ny200:=A0_ hy200;clear hy200;have H':=A0_ H;clear H
 go_enter Try.func68,Try.ntmps68
 go_wp2_with (first|((with_reducible refine gD (N:=8) rfl ?_);refine Kd.S_lit (Kd.slice 3 (Kd.int .i64)) _ 23 ?hg (N:=8) ?hd (xs:=([]:List (List Int))) (inner := []) (ok:=fun _=>True) (okp:=fun _=>True) ?hr ?hp (fun _ hk=>hk) trivial (Below.refl _ _) (Nat.le_refl _) (by simp) ?_;(case hd=>rfl);(case hg=>rfl);(case hr=>first|(go_simp;done)|(go_simp;rfl));(case hp=>exact(Reps.none _ _));intro v198 w4 ho5 hb hg_ hnew_;clear hg_ hnew_;(first|rw [← Ny197.out] at ho5|(simp only [Int.reduceToNat] at ho5;rw [← Ny197.out] at ho5));have HO199:=A0_ (Kd.S_lower ho5 (bZ (zB_ HB)));replace HB:=zB HB hb;clear hb ho5)|((with_reducible refine gD (N:=11) rfl ?_);refine Kd.R_make Kd.bool _ 4 rfl (N:=11) rfl 60 _ _ rfl (l0.length:Int) rfl rfl Try.underlying60 (.bool false) 1 info4 rfl (by decide) (by omega) false (ok:=fun _=>True) (okp:=fun _=>True) rfl (fun _ hk=>hk) trivial (zd) (Nat.le_trans (Nat.mul_le_mul_right _ (zd:(l0.length:Int).toNat≤281474976710656)) (by omega)) (Below.refl _ _) (Nat.le_refl _) ?_;intro v201 w6 ho7 hb hg_ hnew_;clear hg_ hnew_;(first|rw [← Ny200.out] at ho7|(simp only [Int.reduceToNat] at ho7;rw [← Ny200.out] at ho7));replace HO199:=zS HO199 hb;have HO202:=A0_ (rL ho7 (bZ (zB_ HB)));replace HB:=zB HB hb;clear hb ho7))
 go_loopg [3,14] k (fun kq v3 v14 w' => ∃ (x3_1:List (List Int)) (x4_1:List Bool) (x14_1:Int),v14 = .int .i64 x14_1∧Aside0 (impl_cyclesOf.l0 kq l0 x3_1 x4_1 (l0.length:Int) x14_1=some r)∧Aside0 (kq≤k)∧Aside0 (Kd.S (Kd.slice 3 (Kd.int .i64)) 23 w' w.heap.size (fun _=>True) v3 x3_1)∧Aside0 (Kd.R Kd.bool 4 w' w.heap.size (fun _=>True) v201 x4_1)∧Aside0 (Below w.heap.size w w'))
 case atStart=>exact⟨(y197),(y200),(0),zt,H',⟨Nat.le_refl _⟩,⟨zS_ HO199⟩,⟨zR_ HO202⟩,⟨zB_ HB⟩⟩
 case round =>
  clear H';(try clear c2);(try clear c2b0);(try clear c2b1);(try clear p2);(try clear c3);(try clear c3b0);(try clear c3b1);(try clear c6);obtain⟨x3_1,x4_1,x14_1,rfl,HA,HK1,HO_3,HO_4,HB⟩:=hrel
  cases gk with
  | zero=>exact absurd HA.out (by simp [impl_cyclesOf.l0])
  | succ k1 =>
   have H:=HA.out;clear HA;simp only [impl_cyclesOf.l0] at H
   by_cases c8:x14_1<(l0.length:Int)
   ·rw [if_pos c8] at H
    have c8b0:=dT c8;clear c8
    obtain⟨y203,hy203⟩ : ∃ y_:List Int,y_=(([]:List Int)):=⟨_,rfl⟩
    replace H:(impl_cyclesOf.l1 k1 l0 x3_1 x4_1 y203 x14_1 (l0.length:Int) x14_1)=some r:=zH hy203 H
    have Ny203:=A0_ hy203;clear hy203;have H':=A0_ H;clear H
    go_wp2_with (first|((with_reducible refine gD (N:=17) rfl ?_);refine Kd.R_lit (Kd.int .i64) _ 3 ?hg (N:=17) ?hd (xs:=([]:List Int)) (inner := []) (ok:=fun _=>True) (okp:=fun _=>True) ?hr ?hp (fun _ hk=>hk) trivial (Below.refl _ _) (Nat.le_refl _) (by simp) ?_;(case hd=>rfl);(case hg=>rfl);(case hr=>first|(go_simp;done)|(go_simp;rfl));(case hp=>exact(Reps.none _ _));intro v204 w9 ho10 hb hg_ hnew_;clear hg_ hnew_;(first|rw [← Ny203.out] at ho10|(simp only [Int.reduceToNat] at ho10;rw [← Ny203.out] at ho10));replace HO_3:=A0_ (Kd.S_elder' (zS_ HO_3) (Kd.R_base ho10) hb);replace HO_4:=zR HO_4 hb;have HO205:=A0_ (rL ho10 (bZ (zB_ HB)));replace HB:=zB HB hb;clear hb ho10))
    go_loopg [6,7] k1 (fun kq v6 v7 w' => ∃ (x4_2:List Bool) (x6_2:List Int) (x7_2:Int),v7 = .int .i64 x7_2∧Aside0 (impl_cyclesOf.l1 kq l0 x3_1 x4_2 x6_2 x7_2 (l0.length:Int) x14_1=some r)∧Aside0 (kq≤k1)∧Aside0 (Kd.S (Kd.slice 3 (Kd.int .i64)) 23 w' w.heap.size (fun k_=>some k_≠(v6:Value).ownBlock) u3 x3_1)∧Aside0 (Kd.R Kd.bool 4 w' w.heap.size (fun _=>True) v201 x4_2)∧Aside0 (Kd.R (Kd.int .i64) 3 w' w.heap.size (fun _=>True) v6 x6_2)∧Aside0 (Below w.heap.size w w'))
    case atStart=>exact⟨(x4_1),(y203),(x14_1),zt,H',⟨Nat.le_refl _⟩,⟨zmS HO_3 (fun _ hk=>hk.2)⟩,⟨zR_ HO_4⟩,⟨zR_ HO205⟩,⟨zB_ HB⟩⟩
    case round =>
     clear H';(try clear c2);(try clear c2b0);(try clear c2b1);(try clear p2);(try clear c3);(try clear c3b0);(try clear c3b1);(try clear c6);(try clear c8);(try clear c8b0);(try clear p2);obtain⟨x4_2,x6_2,x7_2,rfl,HA,HK2,HO_3,HO_4,HO_6,HB⟩:=hrel
     cases gk with
     | zero=>exact absurd HA.out (by simp [impl_cyclesOf.l1])
     | succ k2 =>
      have H:=HA.out;clear HA;simp only [impl_cyclesOf.l1] at H
      have c11:=zpc H;replace H:=zph H
      have c11b0:=dT c11;clear c11
      have c12:=zpc H;replace H:=zph H
      have c12b0:=dT c12;clear c12
      obtain⟨bq13,hbq13⟩ : ∃ b_:Bool,b_=(rdOf false x4_2 x7_2):=⟨_,rfl⟩
      replace H:(if bq13=true then (if (x6_2.length:Int)>0 then (if x3_1.length<5864062014805 then (impl_cyclesOf.l0 k2 l0 (x3_1 ++ [x6_2]) x4_2 (l0.length:Int) (wrap64 (x14_1+1))) else (none)) else (impl_cyclesOf.l0 k2 l0 x3_1 x4_2 (l0.length:Int) (wrap64 (x14_1+1)))) else (if x6_2.length<17592186044416 then (if x7_2<(l0.length:Int) then (impl_cyclesOf.l1 k2 l0 x3_1 (x4_2.set (x7_2:Int).toNat true) (x6_2 ++ [x7_2]) (rd l0 x7_2) (l0.length:Int) x14_1) else (none)) else (none)))=some r:=by rw [← hbq13] at H;exact H
      have Nbq13:=A0_ hbq13;clear hbq13
      by_cases c14:bq13=true
      ·subst c14
       rw [if_pos rfl] at H
       by_cases c15:(x6_2.length:Int)>0
       ·rw [if_pos c15] at H
        have c15b0:decide (0<(x6_2.length:Int))=true:=dT c15
        have c15b1:decide (0<x6_2.length)=true:=dT (by omega)
        clear c15
        have c16:=zpc H;replace H:=zph H
        have LMc16:=A0_ c16;clear c16
        obtain⟨y207,hy207⟩ : ∃ y_:List (List Int),y_=(x3_1 ++ [x6_2]):=⟨_,rfl⟩
        replace H:(impl_cyclesOf.l0 k2 l0 y207 x4_2 (l0.length:Int) (wrap64 (x14_1+1)))=some r:=zH hy207 H
        have Ny207:=A0_ hy207;clear hy207;have H':=A0_ H;clear H;obtain⟨Ao17,co17,eo17⟩:=rS HO_4.out;subst eo17
        have p206:0≤(x7_2:Int):=zd
        have q206:x7_2<(x4_2.length:Int):=zd
        obtain⟨ad206,e206,hx206_0⟩:=Kd.at_bool (rR HO_4.out).2.2 x7_2 p206 q206
        (try rw [← Nbq13.out] at hx206_0)
        cases e206
        replace p206:=eq_true p206;replace q206:=eq_true q206;obtain⟨Ao18,co18,eo18⟩:=rS HO_6.out;subst eo18
        go_wp2_with (first|((with_reducible refine gB (b := .append) (xs := #[.tmp 38,.tmp 40]) rfl ?_);at_builtin;refine Kd.S_append (Kd.slice 3 (Kd.int .i64)) (w0:=w) w.heap.size rfl (.tmp 38) (.tmp 40) 26 23 (.slice none 0 0) 24 rfl Try.underlying26 info23 rfl (by decide) (by omega) u3 x3_1 x6_2 [.slice Ao18 x6_2.length co18] (fun _=>True) (fun k_=>some k_=(.slice Ao18 x6_2.length co18:Value).ownBlock) rfl rfl ?aP (fun k_ hk_=>((rM (ok':=fun k_=>((fun _=>True)) k_∧some k_≠(u3:Value).ownBlock) (Kd.R_apart' (HO_6.out) (Kd.S_typed HO_3.out) (by decide)) (fun k_ hk=>⟨trivial,hk.2⟩))).1 k_ hk_.symm) ?aF ?aO ?aB ?aS ?aL ?_;(case aP=>exact Kd.M_row (rM (Kd.R_tight rfl (rM (ok':=fun k_=>((fun _=>True)) k_∧some k_≠(u3:Value).ownBlock) (Kd.R_apart' (HO_6.out) (Kd.S_typed HO_3.out) (by decide)) (fun k_ hk=>⟨trivial,hk.2⟩))) (fun _ h_=>h_)));(case aB=>exact(zB_ HB));(case aF=>exact(fun _ _=>trivial));(case aO=>exact(zmS HO_3 (fun k_ hk=>⟨trivial,fun e_=>hk e_⟩)));(case aS=>exact(bZ (zB_ HB)));(case aL=>have:=LMc16.out;omega);intro v208 w19 ho hb hg hat;rw [← Ny207.out] at ho;replace HO_4:=A0_ (Kd.R_over' (zR_ HO_4) (Kd.S_typed (zS_ HO_3)) (by decide) hg);replace HB:=A0_ (hb);have HO209:=A0_ (ho);clear HO_3 HO_6 ho hb hg hat))
        go_roundg k2
        case measure=>have:=HK1.out;have:=HK2.out;omega
        case rel=>exact⟨(y207),(x4_2),(wrap64 (x14_1+1)),zt,H',⟨by have:=HK1.out;have:=HK2.out;omega⟩,⟨zS_ HO209⟩,⟨zR_ HO_4⟩,⟨zB_ HB⟩⟩
       rw [if_neg c15] at H
       have c15b0:decide (0<(x6_2.length:Int))=false:=dF c15
       have c15b1:decide (0<x6_2.length)=false:=dF (by omega)
       clear c15;have H':=A0_ H;clear H;obtain⟨Ao20,co20,eo20⟩:=rS HO_4.out;subst eo20
       have p206:0≤(x7_2:Int):=zd
       have q206:x7_2<(x4_2.length:Int):=zd
       obtain⟨ad206,e206,hx206_0⟩:=Kd.at_bool (rR HO_4.out).2.2 x7_2 p206 q206
       (try rw [← Nbq13.out] at hx206_0)
       cases e206
       replace p206:=eq_true p206;replace q206:=eq_true q206;obtain⟨Ao21,co21,eo21⟩:=rS HO_6.out;subst eo21
       go_wp2
       go_roundg k2
       case measure=>have:=HK1.out;have:=HK2.out;omega
       case rel=>exact⟨(x3_1),(x4_2),(wrap64 (x14_1+1)),zt,H',⟨by have:=HK1.out;have:=HK2.out;omega⟩,⟨zmS HO_3 (fun _ hk=>trivial)⟩,⟨zR_ HO_4⟩,⟨zB_ HB⟩⟩
      replace c14:=Bool.eq_false_iff.mpr c14;subst c14
      rw [if_neg (show ¬ (false=true) by decide)] at H
      obtain⟨y210,hy210⟩ : ∃ y_:List Bool,y_=(x4_2.set (x7_2:Int).toNat true):=⟨_,rfl⟩
      replace H:(if x6_2.length<17592186044416 then (if x7_2<(l0.length:Int) then (impl_cyclesOf.l1 k2 l0 x3_1 y210 (x6_2 ++ [x7_2]) (rd l0 x7_2) (l0.length:Int) x14_1) else (none)) else (none))=some r:=zH hy210 H
      have Ny210:=A0_ hy210;clear hy210
      have c23:=zpc H;replace H:=zph H
      have LMc23:=A0_ c23;clear c23
      obtain⟨y211,hy211⟩ : ∃ y_:List Int,y_=(x6_2 ++ [x7_2]):=⟨_,rfl⟩
      replace H:(if x7_2<(l0.length:Int) then (impl_cyclesOf.l1 k2 l0 x3_1 y210 y211 (rd l0 x7_2) (l0.length:Int) x14_1) else (none))=some r:=zH hy211 H
      have Ny211:=A0_ hy211;clear hy211
      have c24:=zpc H;replace H:=zph H
      have c24b0:=dT c24;clear c24;have H':=A0_ H;clear H;obtain⟨Ao25,co25,eo25⟩:=rS HO_4.out;subst eo25
      have p206:0≤(x7_2:Int):=zd
      have q206:x7_2<(x4_2.length:Int):=zd
      obtain⟨ad206,e206,hx206_0⟩:=Kd.at_bool (rR HO_4.out).2.2 x7_2 p206 q206
      (try rw [← Nbq13.out] at hx206_0)
      cases e206
      replace p206:=eq_true p206;replace q206:=eq_true q206
      have p22:0≤(x7_2:Int):=zd
      have q22:(x7_2:Int)<((x4_2.length:Int):Int):=zd
      obtain⟨go22,co22,eo22,gb22,gl22,cl22,HG22⟩:=Kd.R_form HO_4.out (by omega)
      (first|cases eo22|(injection eo22 with ea_ en_ ec_;(first|subst ea_|(injection ea_ with ea_;subst ea_));subst ec_;clear en_))
      have GB22:=A0_ gb22;have GG22:=A0_ HG22;clear gb22 gl22 HG22
      (first|simp only [add_plain] at hx206_0|skip)
      obtain⟨hx22_0,hf22_0⟩:=Kd.R_celln false HO_4.out (x7_2:Int) p22 q22
      replace p22:=eq_true p22;replace q22:=eq_true q22
      have HP26:=Kd.R_putg HO_4.out (x7_2:Int) true
      go_wp2_with (first|((with_reducible refine gS (t:=4) (p:=30) rfl ?_);refine store_event (t:=4) (p:=30) (v := ?vo_w27) (w1:=(wr.setCell ⟨go22,(x7_2:Int).toNat,none⟩ (.bool true))) ?hg ?ho ?hn ?hr ?_;(case ho=>rfl);(case hg=>rfl);(case hn=>rfl);(case hr=>first|(go_simp;done)|(go_simp;rfl));intro w27 hw;have hg:wr.grownBy w27 (some go22):=(by rw [hw];exact HP26.2);have hp_:Kd.R Kd.bool 4 w27 w.heap.size (fun _=>True) (.slice (some ⟨go22,0,none⟩) x4_2.length co25) y210:=(by rw [hw,Ny210.out];exact HP26.1);clear HP26;replace HO_3:=A0_ (Kd.S_over' (v:=(.slice (some ⟨go22,0,none⟩) x4_2.length co25)) (zS_ HO_3) (Kd.R_typed HO_4.out) (by decide) hg);replace HO_6:=A0_ (Kd.R_over' (v:=(.slice (some ⟨go22,0,none⟩) x4_2.length co25)) (zR_ HO_6) (Kd.R_typed HO_4.out) (by decide) hg);replace HO_4:=A0_ (hp_);replace HB:=A0_ ((by rw [hw];exact bS (HB.out) GB22.out:Below w.heap.size w w27));clear hg hw hp_)|((with_reducible refine gB (b := .append) (xs := #[.tmp 31,.tmp 33]) rfl ?_);at_builtin;refine Kd.R_append (Kd.int .i64) (w0:=w) w.heap.size rfl (.tmp 31) (.tmp 33) 23 3 (.int .i64 0) 8 rfl Try.underlying23 info3 rfl (by decide) (by omega) u6 x6_2 x7_2 [.int .i64 x7_2] (fun _=>True) (fun _=>False) rfl rfl ?aP (fun _ hk=>hk.elim) ?aF ?aO ?aB ?aS ?aL ?_;(case aP=>exact rfl);(case aB=>exact(zB_ HB));(case aF=>exact(fun _ _=>trivial));(case aO=>exact(zR_ HO_6));(case aS=>exact(bZ (zB_ HB)));(case aL=>have:=LMc23.out;omega);intro v212 w28 ho hb hg hat;rw [← Ny211.out] at ho;replace HO_3:=A0_ (Kd.S_after (ok:=(fun _=>True)) (zmS HO_3 (fun _ hk=>⟨trivial,hk⟩)) hg hat);replace HO_4:=A0_ (Kd.R_over' (zR_ HO_4) (Kd.R_typed (zR_ HO_6)) (by decide) hg);replace HB:=A0_ (hb);have HO213:=A0_ (ho);clear HO_6 ho hb hg hat;have p214:0≤(x7_2:Int):=zd;have q214:x7_2<(l0.length:Int):=zd;obtain⟨ad214,e214,hx214_0⟩:=tI HR0.out x7_2 p214 q214;cases e214;try replace hx214_0:=(HB.out.cell (wL w _ hx214_0)).trans hx214_0;replace p214:=eq_true p214;replace q214:=eq_true q214))
      go_roundg k2
      case measure=>have:=HK1.out;have:=HK2.out;omega
      case rel=>exact⟨(y210),(y211),(rd l0 x7_2),zt,H',⟨by have:=HK1.out;have:=HK2.out;omega⟩,⟨zmS HO_3 (fun _ hk=>hk.2)⟩,⟨zR_ HO_4⟩,⟨zR_ HO213⟩,⟨zB_ HB⟩⟩
   rw [if_neg c8] at H;have c8b0:=dF c8;clear c8;obtain rfl:=sI H
   go_wp2
   go_ret
   exact⟨_,by first|rfl|(simp [*] <;> rfl),zS_ HO_3,zB_ HB⟩

/-! ### impl_mul: function 69 -/
def impl_mul.l0:Nat→List Int→List Int→List Int→Int→Int→Option (List Int)
  | 0,_,_,_,_,_=>none
  | k+1,x1,x5,x11,x12,x13=>if x13<x12 then (if 0≤x13 then (if x13<(x11.length:Int) then (if 0≤(rd x11 x13) then (if (rd x11 x13)<(x1.length:Int) then (if x13<(x5.length:Int) then (impl_mul.l0 k x1 (x5.set (x13:Int).toNat (rd x1 (rd x11 x13))) x11 x12 (wrap64 (x13+1))) else (none)) else (none)) else (none)) else (none)) else (none)) else (some x5)
def impl_mul.f (k:Nat) (l0:List Int) (l1:List Int):Option (List Int):=if 0≤(l0.length:Int) then (if ((l0.length:Int):Int).toNat≤35184372088832 then (impl_mul.l0 k l1 (List.replicate ((l0.length:Int):Int).toNat 0) l0 (l0.length:Int) 0) else (none)) else (none)
set_option maxHeartbeats 8000000 in
set_option maxRecDepth 100000 in
theorem impl_mul.calls (k:Nat) (A0:Option Addr) (c0:Nat) (l0:List Int) (A1:Option Addr) (c1:Nat) (l1:List Int) (r:List Int) (w:World) (hr0:Kd.C (Kd.int .i64) w A0 l0.length l0) (hc0:l0.length≤c0) (hr1:Kd.C (Kd.int .i64) w A1 l1.length l1) (hc1:l1.length≤c1) (h:impl_mul.f k l0 l1=some r) :
    Calls Try.prog 69 #[.slice A0 l0.length c0,.slice A1 l1.length c1] w fun e w' => ∃ v0_:Value,e = .returned (v0_)∧Kd.R (Kd.int .i64) 3 w' w.heap.size (fun _=>True) v0_ r∧Below w.heap.size w w':=by
 have HR0:=A0_ hr0;have HC0:=A0_ hc0;clear hr0 hc0;have HR1:=A0_ hr1;have HC1:=A0_ hc1;clear hr1 hc1
 have HB:=A0_ (Below.refl w.heap.size w)
 have H:(if 0≤(l0.length:Int) then (if ((l0.length:Int):Int).toNat≤35184372088832 then (impl_mul.l0 k l1 (List.replicate ((l0.length:Int):Int).toNat 0) l0 (l0.length:Int) 0) else (none)) else (none))=some r:=h
 clear h
 have c3:=zpc H;replace H:=zph H
 have c3b0:=eq_true c3;have c3b1:=dT c3;clear c3
 have c4:=zpc H;replace H:=zph H
 have c4b0:=eq_true c4;have c4b1:=dT c4;clear c4
 obtain⟨y215,hy215⟩ : ∃ y_:List Int,y_=(List.replicate ((l0.length:Int):Int).toNat 0):=⟨_,rfl⟩
 replace H:(impl_mul.l0 k l1 y215 l0 (l0.length:Int) 0)=some r:=zH hy215 H
 have Ny215:=A0_ hy215;clear hy215;have H':=A0_ H;clear H
 go_enter Try.func69,Try.ntmps69
 go_wp2_with (first|((with_reducible refine gD (N:=10) rfl ?_);refine Kd.R_make (Kd.int .i64) _ 3 rfl (N:=10) rfl 23 _ _ rfl (l0.length:Int) rfl rfl Try.underlying23 (.int .i64 0) 8 info3 rfl (by decide) (by omega) 0 (ok:=fun _=>True) (okp:=fun _=>True) rfl (fun _ hk=>hk) trivial (zd) (Nat.le_trans (Nat.mul_le_mul_right _ (zd:(l0.length:Int).toNat≤35184372088832)) (by omega)) (Below.refl _ _) (Nat.le_refl _) ?_;intro v216 w5 ho6 hb hg_ hnew_;clear hg_ hnew_;(first|rw [← Ny215.out] at ho6|(simp only [Int.reduceToNat] at ho6;rw [← Ny215.out] at ho6));have HO217:=A0_ (rL ho6 (bZ (zB_ HB)));replace HB:=zB HB hb;clear hb ho6))
 go_loopg [13] k (fun kq v13 w' => ∃ (x5_1:List Int) (x13_1:Int),v13 = .int .i64 x13_1∧Aside0 (impl_mul.l0 kq l1 x5_1 l0 (l0.length:Int) x13_1=some r)∧Aside0 (kq≤k)∧Aside0 (Kd.R (Kd.int .i64) 3 w' w.heap.size (fun _=>True) v216 x5_1)∧Aside0 (Below w.heap.size w w'))
 case atStart=>exact⟨(y215),(0),zt,H',⟨Nat.le_refl _⟩,⟨zR_ HO217⟩,⟨zB_ HB⟩⟩
 case round =>
  clear H';(try clear c1);(try clear p2);(try clear c3);(try clear c3b0);(try clear c3b1);(try clear c4);(try clear c4b0);(try clear c4b1);(try clear c6);obtain⟨x5_1,x13_1,rfl,HA,HK1,HO_5,HB⟩:=hrel
  cases gk with
  | zero=>exact absurd HA.out (by simp [impl_mul.l0])
  | succ k1 =>
   have H:=HA.out;clear HA;simp only [impl_mul.l0] at H
   by_cases c7:x13_1<(l0.length:Int)
   ·rw [if_pos c7] at H
    have c7b0:=dT c7;clear c7
    have c8:=zpc H;replace H:=zph H
    have c8b0:=dT c8;clear c8
    have c9:=zpc H;replace H:=zph H
    have c9b0:=dT c9;clear c9
    have c10:=zpc H;replace H:=zph H
    have c10b0:=dT c10;clear c10
    have c11:=zpc H;replace H:=zph H
    have c11b0:=dT c11;clear c11
    have c12:=zpc H;replace H:=zph H
    have c12b0:=dT c12;clear c12
    obtain⟨y220,hy220⟩ : ∃ y_:List Int,y_=(x5_1.set (x13_1:Int).toNat (rd l1 (rd l0 x13_1))):=⟨_,rfl⟩
    replace H:(impl_mul.l0 k1 l1 y220 l0 (l0.length:Int) (wrap64 (x13_1+1)))=some r:=zH hy220 H
    have Ny220:=A0_ hy220;clear hy220;have H':=A0_ H;clear H
    have p218:0≤(x13_1:Int):=zd
    have q218:x13_1<(l0.length:Int):=zd
    obtain⟨ad218,e218,hx218_0⟩:=tI HR0.out x13_1 p218 q218
    cases e218
    try replace hx218_0:=(HB.out.cell (wL w _ hx218_0)).trans hx218_0
    replace p218:=eq_true p218;replace q218:=eq_true q218
    have p219:0≤((rd l0 x13_1):Int):=zd
    have q219:(rd l0 x13_1)<(l1.length:Int):=zd
    obtain⟨ad219,e219,hx219_0⟩:=tI HR1.out (rd l0 x13_1) p219 q219
    cases e219
    try replace hx219_0:=(HB.out.cell (wL w _ hx219_0)).trans hx219_0
    replace p219:=eq_true p219;replace q219:=eq_true q219
    have p13:0≤(x13_1:Int):=zd
    have q13:(x13_1:Int)<((x5_1.length:Int):Int):=zd
    obtain⟨go13,co13,eo13,gb13,gl13,cl13,HG13⟩:=Kd.R_form HO_5.out (by omega)
    (first|cases eo13|(injection eo13 with ea_ en_ ec_;(first|subst ea_|(injection ea_ with ea_;subst ea_));subst ec_;clear en_))
    have GB13:=A0_ gb13;have GG13:=A0_ HG13;clear gb13 gl13 HG13
    obtain⟨hx13_0,hf13_0⟩:=Kd.R_celln 0 HO_5.out (x13_1:Int) p13 q13
    replace p13:=eq_true p13;replace q13:=eq_true q13
    have HP14:=Kd.R_putg HO_5.out (x13_1:Int) (rd l1 (rd l0 x13_1))
    go_wp2_with (first|((with_reducible refine gS (t:=3) (p:=24) rfl ?_);refine store_event (t:=3) (p:=24) (v := ?vo_w15) (w1:=(wr.setCell ⟨go13,(x13_1:Int).toNat,none⟩ (.int .i64 (rd l1 (rd l0 x13_1))))) ?hg ?ho ?hn ?hr ?_;(case ho=>rfl);(case hg=>rfl);(case hn=>rfl);(case hr=>first|(go_simp;done)|(go_simp;rfl));intro w15 hw;have hg:wr.grownBy w15 (some go13):=(by rw [hw];exact HP14.2);have hp_:Kd.R (Kd.int .i64) 3 w15 w.heap.size (fun _=>True) (.slice (some ⟨go13,0,none⟩) x5_1.length co13) y220:=(by rw [hw,Ny220.out];exact HP14.1);clear HP14;replace HO_5:=A0_ (hp_);replace HB:=A0_ ((by rw [hw];exact bS (HB.out) GB13.out:Below w.heap.size w w15));clear hg hw hp_))
    go_roundg k1
    case measure=>have:=HK1.out;omega
    case rel=>exact⟨(y220),(wrap64 (x13_1+1)),zt,H',⟨by have:=HK1.out;omega⟩,⟨zR_ HO_5⟩,⟨zB_ HB⟩⟩
   rw [if_neg c7] at H;have c7b0:=dF c7;clear c7;obtain rfl:=sI H
   go_wp2
   go_ret
   exact⟨_,by first|rfl|(simp [*] <;> rfl),zR_ HO_5,zB_ HB⟩

/-! ### impl_winding: function 70 -/
def impl_winding.l0:Nat→List (List Int)→List Int→List Int→Int→Int→List Int→List Int→Option (List Int)
  | 0,_,_,_,_,_,_,_=>none
  | k+1,x2,x9,x14,x15,x16,x222000,x222001=>if x16<x15 then (if 0≤x16 then (if x16<(x14.length:Int) then ((impl_along.f k x222000 x222001 x2 (rd x14 x16)).bind fun t226=>((impl_mul.f k x9 t226).bind fun t229=>(impl_winding.l0 k x2 t229 x14 x15 (wrap64 (x16+1)) x222000 x222001))) else (none)) else (none)) else (some x9)
def impl_winding.f (k:Nat) (l0_0:List Int) (l0_1:List Int) (a1:Int) (l2:List (List Int)) (l3:List Int):Option (List Int):=(impl_still.f k a1).bind fun t222=>(impl_winding.l0 k l2 t222 l3 (l3.length:Int) 0 l0_0 l0_1)
set_option maxHeartbeats 8000000 in
set_option maxRecDepth 100000 in
theorem impl_winding.calls (k:Nat) (A0_0:Option Addr) (c0_0:Nat) (l0_0:List Int) (A0_1:Option Addr) (c0_1:Nat) (l0_1:List Int) (a1:Int) (A2:Option Addr) (c2:Nat) (l2:List (List Int)) (A3:Option Addr) (c3:Nat) (l3:List Int) (r:List Int) (w:World) (hr0_0:Kd.C (Kd.int .i64) w A0_0 l0_0.length l0_0) (hc0_0:l0_0.length≤c0_0) (hr0_1:Kd.C (Kd.int .i64) w A0_1 l0_1.length l0_1) (hc0_1:l0_1.length≤c0_1) (hr2:Kd.C (Kd.slice 3 (Kd.int .i64)) w A2 l2.length l2) (hc2:l2.length≤c2) (hr3:Kd.C (Kd.int .i64) w A3 l3.length l3) (hc3:l3.length≤c3) (h:impl_winding.f k l0_0 l0_1 a1 l2 l3=some r) :
    Calls Try.prog 70 #[.agg #[.slice A0_0 l0_0.length c0_0,.slice A0_1 l0_1.length c0_1],.int .i64 a1,.slice A2 l2.length c2,.slice A3 l3.length c3] w fun e w' => ∃ v0_:Value,e = .returned (v0_)∧Kd.R (Kd.int .i64) 3 w' w.heap.size (fun _=>True) v0_ r∧Below w.heap.size w w':=by
 have hu25:=Try.underlying25;have HR0_0:=A0_ hr0_0;have HC0_0:=A0_ hc0_0;clear hr0_0 hc0_0;have HR0_1:=A0_ hr0_1;have HC0_1:=A0_ hc0_1;clear hr0_1 hc0_1;have HR2:=A0_ hr2;have HC2:=A0_ hc2;clear hr2 hc2;have HR3:=A0_ hr3;have HC3:=A0_ hc3;clear hr3 hc3
 have HB:=A0_ (Below.refl w.heap.size w)
 have H:((impl_still.f k a1).bind fun t222=>(impl_winding.l0 k l2 t222 l3 (l3.length:Int) 0 l0_0 l0_1))=some r:=h
 clear h;obtain⟨t222,A5,H⟩:=zbind H;have H':=A0_ H;clear H
 go_enter Try.func70,Try.ntmps70
 go_wp2_with (first|((with_reducible refine gD (N:=4) rfl ?_);refine zX (N:=4) (cs := #[.slice A0_0 l0_0.length c0_0,.slice A0_1 l0_1.length c0_1]) (t:=25) ?_;intro gb221 hg w6 hbox hb;have BK221:=A0_ (hbox);have GW221:=zG hg HB;have GE221:=zG hg HB;replace HB:=zB HB hb;clear hb hbox hg)|((with_reducible refine gC (f:=65) rfl ?_);refine zJ (some 13) Try.func65 #[.int .i64 a1] ?_;(with_reducible refine(impl_still.calls k a1 t222 _ A5.out).mono ?_);rintro e w7 ⟨v223,rfl,ho0,hb⟩;refine⟨_,rfl,?_⟩;have HO224:=A0_ (rL ho0 (bZ (zB_ HB)));replace BK221:=zK BK221 hb;replace HB:=zB HB hb;(try clear hb);(try clear ho0)))
 go_loopg [9,16] k (fun kq v9 v16 w' => ∃ (x9_1:List Int) (x16_1:Int),v16 = .int .i64 x16_1∧Aside0 (impl_winding.l0 kq l2 x9_1 l3 (l3.length:Int) x16_1 l0_0 l0_1=some r)∧Aside0 (kq≤k)∧Aside0 (Kd.R (Kd.int .i64) 3 w' w.heap.size (fun _=>True) v9 x9_1)∧Aside0 (w'.heap[gb221]? = some (.cells #[(.slice A0_0 l0_0.length c0_0),(.slice A0_1 l0_1.length c0_1)] 25 (0,0)))∧Aside0 (Below w.heap.size w w'))
 case atStart=>exact⟨(t222),(0),zt,H',⟨Nat.le_refl _⟩,⟨zR_ HO224⟩,⟨zK_ BK221⟩,⟨zB_ HB⟩⟩
 case round =>
  clear H';(try clear c2);(try clear p2);(try clear c3);(try clear c6);(try clear c7);obtain⟨x9_1,x16_1,rfl,HA,HK1,HO_9,BK221,HB⟩:=hrel
  cases gk with
  | zero=>exact absurd HA.out (by simp [impl_winding.l0])
  | succ k1 =>
   have H:=HA.out;clear HA;simp only [impl_winding.l0] at H
   by_cases c8:x16_1<(l3.length:Int)
   ·rw [if_pos c8] at H
    have c8b0:=dT c8;clear c8
    have c9:=zpc H;replace H:=zph H
    have c9b0:=dT c9;clear c9
    have c10:=zpc H;replace H:=zph H
    have c10b0:=dT c10;clear c10;obtain⟨t226,A11,H⟩:=zbind H;obtain⟨t229,A12,H⟩:=zbind H;have H':=A0_ H;clear H
    have p225:0≤(x16_1:Int):=zd
    have q225:x16_1<(l3.length:Int):=zd
    obtain⟨ad225,e225,hx225_0⟩:=tI HR3.out x16_1 p225 q225
    cases e225
    try replace hx225_0:=(HB.out.cell (wL w _ hx225_0)).trans hx225_0
    replace p225:=eq_true p225;replace q225:=eq_true q225;have hcz13_0:=zc0 BK221;have hcz13_1:=zc1 BK221;have hfz13_0:=kF BK221.out 0;have hfz13_1:=kF BK221.out 1
    go_wp2_with (first|((with_reducible refine gC (f:=62) rfl ?_);refine zJ (some 24) Try.func62 #[.agg #[.slice A0_0 l0_0.length c0_0,.slice A0_1 l0_1.length c0_1],.slice A2 l2.length c2,.int .i64 (rd l3 x16_1)] ?_;(with_reducible refine(impl_along.calls k1 _ _ l0_0 _ _ l0_1 (fun k_=>k_<w.heap.size) _ _ l2 (rd l3 x16_1) t226 _ ?side1 ?side2 ?side3 ?side4 ?side5 A11.out).mono ?_);(case side1=>exact zC HR0_0 HB);(case side2=>exact HC0_0.out);(case side3=>exact zC HR0_1 HB);(case side4=>exact HC0_1.out);(case side5=>exact Kd.V_mk HC2.out (Kd.F_below (Kd.C_F (Kd.heap_slice 3 (Kd.heap_int .i64)) HR2.out) (zB_ HB)));rintro e w14 ⟨v227,rfl,ho0,hb⟩;refine⟨_,rfl,?_⟩;have HO228:=A0_ (Kd.V_lower (Kd.V_mono (ok':=fun k_=>some k_≠(u9:Value).ownBlock∧k_≠gb221) ho0 (fun k_ hk_=>⟨Or.elim hk_ (fun hs_=>fun e_=>Nat.not_le.2 hs_ (Kd.R_base HO_9.out k_ e_.symm)) (fun hn_=>(Kd.fresh' (rX (zR_ HO_9)) k_ hn_)),Or.elim hk_ (fun hs_=>fun e_=>Nat.not_le.2 hs_ (by rw [e_];exact GW221.out)) (fun hn_=>(Kd.freshB (g:=gb221) (o := .cells #[.slice A0_0 l0_0.length c0_0,.slice A0_1 l0_1.length c0_1] 25 (0,0)) (zK_ BK221) k_ hn_))⟩)) (bZ (zB_ HB)));replace HO_9:=zR HO_9 hb;replace BK221:=zK BK221 hb;replace HB:=zB HB hb;(try clear hb);(try clear ho0);obtain⟨Ao15,co15,eo15⟩:=rS HO_9.out;subst eo15;obtain⟨Ao16,co16,eo16⟩:=Kd.V_slice HO228.out;subst eo16)|((with_reducible refine gC (f:=69) rfl ?_);refine zJ (some 25) Try.func69 #[.slice Ao15 x9_1.length co15,.slice Ao16 t226.length co16] ?_;(with_reducible refine(impl_mul.calls k1 _ _ x9_1 _ _ t226 t229 _ ?side1 ?side2 ?side3 ?side4 A12.out).mono ?_);(case side1=>exact zD HO_9);(case side2=>exact(rR HO_9.out).2.1);(case side3=>repeat(first|exact(Kd.V_reads' HO228.out).2.2|(with_reducible refine cA ?_ _)|(with_reducible refine cN ?_ _)|(with_reducible refine cD ?_)));(case side4=>exact(Kd.V_reads' HO228.out).2.1);rintro e w17 ⟨v230,rfl,ho0,hb⟩;refine⟨_,rfl,?_⟩;replace HO228:=A0_ (Kd.V_elder' (by(with_reducible repeat(first|apply Kd.V_alloc|apply Kd.V_drewN|apply Kd.V_drew));exact HO228.out) (Kd.R_base ho0) hb);have HO231:=A0_ (rL (Kd.R_new' ho0 (rX (zR_ HO_9))) (bZ (zB_ HB)));replace HO_9:=A0_ (Kd.R_elder' (zR_ HO_9) (Kd.R_base ho0) hb);replace BK221:=zK BK221 hb;replace HB:=zB HB hb;(try clear hb);(try clear ho0)))
    go_roundg k1
    case measure=>have:=HK1.out;omega
    case rel=>exact⟨(t229),(wrap64 (x16_1+1)),zt,H',⟨by have:=HK1.out;omega⟩,⟨zmR HO231 (fun _ hk=>trivial)⟩,⟨zK_ BK221⟩,⟨zB_ HB⟩⟩
   rw [if_neg c8] at H;have c8b0:=dF c8;clear c8;obtain rfl:=sI H
   go_wp2
   go_ret
   exact⟨_,by first|rfl|(simp [*] <;> rfl),zR_ HO_9,zB_ HB⟩

/-! ### impl_CoverBranch: function 22 -/
def impl_CoverBranch.l0:Nat→Int→List (List Int)→Int→List (List Int)→Int→Int→List Int→List Int→Option (Int)
  | 0,_,_,_,_,_,_,_,_=>none
  | k+1,x1,x2,x7,x20,x21,x22,x233000,x233001=>if x22<x21 then (if 0≤x22 then (if x22<(x20.length:Int) then ((impl_winding.f k x233000 x233001 x1 x2 (rd_L1 x20 x22)).bind fun t241=>((impl_cyclesOf.f k t241).bind fun t244=>(impl_CoverBranch.l0 k x1 x2 (wrap64 (x7+(wrap64 (x1 - (t244.length:Int))))) x20 x21 (wrap64 (x22+1)) x233000 x233001))) else (none)) else (none)) else (some x7)
def impl_CoverBranch.f (k:Nat) (l0_0:List Int) (l0_1:List Int) (a1:Int) (l2:List (List Int)):Option (Int):=(impl_VoltageValid.f k l0_0 l0_1 a1 l2).bind fun t233=>(if t233=true then ((impl_mul.f k l0_1 l0_0).bind fun t234=>((impl_cyclesOf.f k t234).bind fun t237=>(impl_CoverBranch.l0 k a1 l2 0 t237 (t237.length:Int) 0 l0_0 l0_1))) else (some (-1)))
set_option maxHeartbeats 8000000 in
set_option maxRecDepth 100000 in
theorem impl_CoverBranch.calls (k:Nat) (A0_0:Option Addr) (c0_0:Nat) (l0_0:List Int) (A0_1:Option Addr) (c0_1:Nat) (l0_1:List Int) (a1:Int) (A2:Option Addr) (c2:Nat) (l2:List (List Int)) (r:Int) (w:World) (hr0_0:Kd.C (Kd.int .i64) w A0_0 l0_0.length l0_0) (hc0_0:l0_0.length≤c0_0) (hr0_1:Kd.C (Kd.int .i64) w A0_1 l0_1.length l0_1) (hc0_1:l0_1.length≤c0_1) (hr2:Kd.C (Kd.slice 3 (Kd.int .i64)) w A2 l2.length l2) (hc2:l2.length≤c2) (h:impl_CoverBranch.f k l0_0 l0_1 a1 l2=some r) :
    Calls Try.prog 22 #[.agg #[.slice A0_0 l0_0.length c0_0,.slice A0_1 l0_1.length c0_1],.int .i64 a1,.slice A2 l2.length c2] w fun e w'=>e = .returned (.int .i64 r)∧Below w.heap.size w w':=by
 have hu25:=Try.underlying25;have HR0_0:=A0_ hr0_0;have HC0_0:=A0_ hc0_0;clear hr0_0 hc0_0;have HR0_1:=A0_ hr0_1;have HC0_1:=A0_ hc0_1;clear hr0_1 hc0_1;have HR2:=A0_ hr2;have HC2:=A0_ hc2;clear hr2 hc2
 have HB:=A0_ (Below.refl w.heap.size w)
 have H:((impl_VoltageValid.f k l0_0 l0_1 a1 l2).bind fun t233=>(if t233=true then ((impl_mul.f k l0_1 l0_0).bind fun t234=>((impl_cyclesOf.f k t234).bind fun t237=>(impl_CoverBranch.l0 k a1 l2 0 t237 (t237.length:Int) 0 l0_0 l0_1))) else (some (-1))))=some r:=h
 clear h;obtain⟨t233,A4,H⟩:=zbind H
 by_cases c5:t233=true
 ·subst c5
  rw [if_pos rfl] at H;obtain⟨t234,A6,H⟩:=zbind H;obtain⟨t237,A7,H⟩:=zbind H;have H':=A0_ H;clear H
  go_enter Try.func22,Try.ntmps22
  go_wp2_with (first|((with_reducible refine gD (N:=3) rfl ?_);refine zX (N:=3) (cs := #[.slice A0_0 l0_0.length c0_0,.slice A0_1 l0_1.length c0_1]) (t:=25) ?_;intro gb232 hg w8 hbox hb;have BK232:=A0_ (hbox);have GW232:=zG hg HB;have GE232:=zG hg HB;replace HB:=zB HB hb;clear hb hbox hg;have hcz9_0:=zc0 BK232;have hcz9_1:=zc1 BK232;have hfz9_0:=kF BK232.out 0;have hfz9_1:=kF BK232.out 1)|((with_reducible refine gC (f:=53) rfl ?_);refine zJ (some 13) Try.func53 #[.agg #[.slice A0_0 l0_0.length c0_0,.slice A0_1 l0_1.length c0_1],.int .i64 a1,.slice A2 l2.length c2] ?_;(with_reducible refine(impl_VoltageValid.calls k _ _ l0_0 _ _ l0_1 a1 _ _ l2 true _ ?side1 ?side2 ?side3 ?side4 ?side5 ?side6 A4.out).mono ?_);(case side1=>exact zC HR0_0 HB);(case side2=>exact HC0_0.out);(case side3=>exact zC HR0_1 HB);(case side4=>exact HC0_1.out);(case side5=>exact zC HR2 HB);(case side6=>exact HC2.out);rintro e w10 ⟨rfl,hb⟩;refine⟨_,rfl,?_⟩;replace BK232:=zK BK232 hb;replace HB:=zB HB hb;(try clear hb);have hcz11_0:=zc0 BK232;have hcz11_1:=zc1 BK232;have hfz11_0:=kF BK232.out 0;have hfz11_1:=kF BK232.out 1)|((with_reducible refine gC (f:=69) rfl ?_);refine zJ (some 19) Try.func69 #[.slice A0_1 l0_1.length c0_1,.slice A0_0 l0_0.length c0_0] ?_;(with_reducible refine(impl_mul.calls k _ _ l0_1 _ _ l0_0 t234 _ ?side1 ?side2 ?side3 ?side4 A6.out).mono ?_);(case side1=>exact zC HR0_1 HB);(case side2=>exact HC0_1.out);(case side3=>exact zC HR0_0 HB);(case side4=>exact HC0_0.out);rintro e w12 ⟨v235,rfl,ho0,hb⟩;refine⟨_,rfl,?_⟩;have HO236:=A0_ (rL ho0 (bZ (zB_ HB)));replace BK232:=zK BK232 hb;replace HB:=zB HB hb;(try clear hb);(try clear ho0);obtain⟨Ao13,co13,eo13⟩:=rS HO236.out;subst eo13)|((with_reducible refine gC (f:=68) rfl ?_);refine zJ (some 20) Try.func68 #[.slice Ao13 t234.length co13] ?_;(with_reducible refine(impl_cyclesOf.calls k _ _ t234 t237 _ ?side1 ?side2 A7.out).mono ?_);(case side1=>exact zD HO236);(case side2=>exact(rR HO236.out).2.1);rintro e w14 ⟨v238,rfl,ho0,hb⟩;refine⟨_,rfl,?_⟩;have HO239:=A0_ (Kd.S_lower (Kd.S_new' ho0 (rX (zR_ HO236))) (bZ (zB_ HB)));replace HO236:=zR HO236 hb;replace BK232:=zK BK232 hb;replace HB:=zB HB hb;(try clear hb);(try clear ho0);obtain⟨Ao15,co15,eo15⟩:=Kd.S_slice HO239.out;subst eo15))
  go_loopg [7,22] k (fun kq v7 v22 w' => ∃ (x7_1:Int) (x22_1:Int),v7 = .int .i64 x7_1∧v22 = .int .i64 x22_1∧Aside0 (impl_CoverBranch.l0 kq a1 l2 x7_1 t237 (t237.length:Int) x22_1 l0_0 l0_1=some r)∧Aside0 (kq≤k)∧Aside0 (Kd.S (Kd.slice 3 (Kd.int .i64)) 23 w' w.heap.size (fun _=>True) (.slice Ao15 t237.length co15) t237)∧Aside0 (w'.heap[gb232]? = some (.cells #[(.slice A0_0 l0_0.length c0_0),(.slice A0_1 l0_1.length c0_1)] 25 (0,0)))∧Aside0 (Below w.heap.size w w'))
  case atStart=>exact⟨(0),(0),zt,zt,H',⟨Nat.le_refl _⟩,⟨zmS HO239 (fun _ hk=>trivial)⟩,⟨zK_ BK232⟩,⟨zB_ HB⟩⟩
  case round =>
   clear H';(try clear c2);(try clear p2);(try clear c5);(try clear c6);(try clear hcz11_0);(try clear hcz11_1);(try clear hcz9_0);(try clear hcz9_1);(try clear hfz11_0);(try clear hfz11_1);(try clear hfz9_0);(try clear hfz9_1);obtain⟨x7_1,x22_1,rfl,rfl,HA,HK1,HO_20,BK232,HB⟩:=hrel
   cases gk with
   | zero=>exact absurd HA.out (by simp [impl_CoverBranch.l0])
   | succ k1 =>
    have H:=HA.out;clear HA;simp only [impl_CoverBranch.l0] at H
    by_cases c16:x22_1<(t237.length:Int)
    ·rw [if_pos c16] at H
     have c16b0:=dT c16;clear c16
     have c17:=zpc H;replace H:=zph H
     have c17b0:=dT c17;clear c17
     have c18:=zpc H;replace H:=zph H
     have c18b0:=dT c18;clear c18;obtain⟨t241,A19,H⟩:=zbind H;obtain⟨t244,A20,H⟩:=zbind H;have H':=A0_ H;clear H
     have p240:0≤(x22_1:Int):=zd
     have q240:x22_1<(t237.length:Int):=zd
     obtain⟨ad240,A240_0,c240_0,e240,hx240_0,hl240_0,hi240_0⟩:=at_L1 (Kd.S_reads' HO_20.out).2.2 x22_1 p240 q240
     cases e240
     obtain⟨ce240,hce240,hMe240,hcc240⟩:=Kd.S_get HO_20.out [] x22_1 p240 (by first|exact q240|exact zd|(have e_:=(Kd.S_reads' HO_20.out).1;omega))
     obtain⟨ve240_0,rfl,ge240_0⟩:=hMe240;have hv240_0:=hcc240 0 _ rfl
     rw [Nat.add_zero,show((Kd.slice 3 (Kd.int .i64))).sz=1 from rfl,Nat.mul_one] at hv240_0
     replace hv240_0:=sI (hv240_0.symm.trans hx240_0)
     rw [hv240_0] at ge240_0
     have HL240_0:=A0_ (show Kd.R (Kd.int .i64) 3 _ _ _ _ (rd_L1 t237 x22_1) from ge240_0)
     clear hv240_0 ge240_0 hcc240 hce240;have HR240_0:=A0_ hi240_0;have HC240_0:=A0_ hl240_0;clear hi240_0 hl240_0;replace p240:=eq_true p240;replace q240:=eq_true q240;have hcz21_0:=zc0 BK232;have hcz21_1:=zc1 BK232;have hfz21_0:=kF BK232.out 0;have hfz21_1:=kF BK232.out 1
     go_wp2_with (first|((with_reducible refine gC (f:=70) rfl ?_);refine zJ (some 32) Try.func70 #[.agg #[.slice A0_0 l0_0.length c0_0,.slice A0_1 l0_1.length c0_1],.int .i64 a1,.slice A2 l2.length c2,.slice A240_0 (rd_L1 t237 x22_1).length c240_0] ?_;(with_reducible refine(impl_winding.calls k1 _ _ l0_0 _ _ l0_1 a1 _ _ l2 _ _ (rd_L1 t237 x22_1) t241 _ ?side1 ?side2 ?side3 ?side4 ?side5 ?side6 ?side7 ?side8 A19.out).mono ?_);(case side1=>exact zC HR0_0 HB);(case side2=>exact HC0_0.out);(case side3=>exact zC HR0_1 HB);(case side4=>exact HC0_1.out);(case side5=>exact zC HR2 HB);(case side6=>exact HC2.out);(case side7=>repeat(first|exact(by repeat(first|(with_reducible exact HR240_0.out)|(with_reducible refine cA ?_ _)|(with_reducible refine cN ?_ _)|(with_reducible refine cD ?_)|exact HR240_0.out))|(with_reducible refine cA ?_ _)|(with_reducible refine cN ?_ _)|(with_reducible refine cD ?_)));(case side8=>exact HC240_0.out);rintro e w22 ⟨v242,rfl,ho0,hb⟩;refine⟨_,rfl,?_⟩;replace HO_20:=A0_ (Kd.S_elder' (zS_ HO_20) (Kd.R_base ho0) hb);have HO243:=A0_ (rL (Kd.R_new' ho0 (rX (zR_ HL240_0))) (bZ (zB_ HB)));replace HL240_0:=A0_ (Kd.R_elder' (zR_ HL240_0) (Kd.R_base ho0) hb);replace BK232:=zK BK232 hb;replace HR240_0:=A0_ (cB (by repeat(first|(with_reducible exact HR240_0.out)|(with_reducible refine cA ?_ _)|(with_reducible refine cN ?_ _)|(with_reducible refine cD ?_)|exact HR240_0.out)) hb);replace HB:=zB HB hb;(try clear hb);(try clear ho0);obtain⟨Ao23,co23,eo23⟩:=rS HO243.out;subst eo23)|((with_reducible refine gC (f:=68) rfl ?_);refine zJ (some 33) Try.func68 #[.slice Ao23 t241.length co23] ?_;(with_reducible refine(impl_cyclesOf.calls k1 _ _ t241 t244 _ ?side1 ?side2 A20.out).mono ?_);(case side1=>exact zD HO243);(case side2=>exact(rR HO243.out).2.1);rintro e w24 ⟨v245,rfl,ho0,hb⟩;refine⟨_,rfl,?_⟩;have HO246:=A0_ (Kd.S_lower (Kd.S_new' (Kd.S_new' (Kd.S_new' ho0 (Kd.S_lt (zS_ HO_20))) (rX (zR_ HL240_0))) (rX (zR_ HO243))) (bZ (zB_ HB)));replace HO_20:=A0_ (Kd.S_elder' (zS_ HO_20) (Kd.S_base ho0) hb);replace HL240_0:=zR HL240_0 hb;replace HO243:=zR HO243 hb;replace BK232:=zK BK232 hb;replace HR240_0:=A0_ (cB (by repeat(first|(with_reducible exact HR240_0.out)|(with_reducible refine cA ?_ _)|(with_reducible refine cN ?_ _)|(with_reducible refine cD ?_)|exact HR240_0.out)) hb);replace HB:=zB HB hb;(try clear hb);(try clear ho0);obtain⟨Ao25,co25,eo25⟩:=Kd.S_slice HO246.out;subst eo25))
     go_roundg k1
     case measure=>have:=HK1.out;omega
     case rel=>exact⟨(wrap64 (x7_1+(wrap64 (a1 - (t244.length:Int))))),(wrap64 (x22_1+1)),zt,zt,H',⟨by have:=HK1.out;omega⟩,⟨zmS HO_20 (fun _ hk=>trivial)⟩,⟨zK_ BK232⟩,⟨zB_ HB⟩⟩
    rw [if_neg c16] at H;have c16b0:=dF c16;clear c16;obtain rfl:=sI H
    go_wp2
    go_ret
    exact⟨by first|rfl|(simp [*] <;> rfl),zB_ HB⟩
 replace c5:=Bool.eq_false_iff.mpr c5;subst c5
 rw [if_neg (show ¬ (false=true) by decide)] at H
 obtain rfl:=sI H
 go_enter Try.func22,Try.ntmps22
 go_wp2_with (first|((with_reducible refine gD (N:=3) rfl ?_);refine zX (N:=3) (cs := #[.slice A0_0 l0_0.length c0_0,.slice A0_1 l0_1.length c0_1]) (t:=25) ?_;intro gb232 hg w26 hbox hb;have BK232:=A0_ (hbox);have GW232:=zG hg HB;have GE232:=zG hg HB;replace HB:=zB HB hb;clear hb hbox hg;have hcz27_0:=zc0 BK232;have hcz27_1:=zc1 BK232;have hfz27_0:=kF BK232.out 0;have hfz27_1:=kF BK232.out 1)|((with_reducible refine gC (f:=53) rfl ?_);refine zJ (some 13) Try.func53 #[.agg #[.slice A0_0 l0_0.length c0_0,.slice A0_1 l0_1.length c0_1],.int .i64 a1,.slice A2 l2.length c2] ?_;(with_reducible refine(impl_VoltageValid.calls k _ _ l0_0 _ _ l0_1 a1 _ _ l2 false _ ?side1 ?side2 ?side3 ?side4 ?side5 ?side6 A4.out).mono ?_);(case side1=>exact zC HR0_0 HB);(case side2=>exact HC0_0.out);(case side3=>exact zC HR0_1 HB);(case side4=>exact HC0_1.out);(case side5=>exact zC HR2 HB);(case side6=>exact HC2.out);rintro e w28 ⟨rfl,hb⟩;refine⟨_,rfl,?_⟩;replace BK232:=zK BK232 hb;replace HB:=zB HB hb;(try clear hb)))
 go_ret
 exact⟨by first|rfl|(simp [*] <;> rfl),zB_ HB⟩

end Go.Proofs.Ytmegggomhjgehaa.PFnCover
