-- Made by a program of this session (wip/tools) out of the loaded program; not trusted: Lean checks it.
import Derived.Test.YtmegggomhjgehaaPFnCoverx0
import Derived.Test.YtmegggomhjgehaaPFnCoverx5
import Derived.Test.YtmegggomhjgehaaPFnCoverx6
import Derived.Test.YtmegggomhjgehaaPFnCoverx10
import Derived.Test.YtmegggomhjgehaaPFnCoverx11
import Derived.Test.YtmegggomhjgehaaPFnCoverx12
-- packed
-- packed2
namespace Go.Proofs.Ytmegggomhjgehaa.PFnCover
open Go.RowKit Go.Proofs.YtmegggomhjgehaaW.PrintWords Go.Proofs.YtmegggomhjgehaaW.PrintLast Go.Proofs.YtmegggomhjgehaaW.PrintMore
attribute [local go_sem] max2_int min2_int max_two min_two max_three min_three max_four min_four
set_option linter.unusedVariables false
set_option linter.unusedSimpArgs false

/-! ### laws_FnCover: function 9 -/
mutual
def laws_FnCover.j0:Nat→Int→List (List Int)→Bool→Bool→Bool→List Int→List Int→List Int→List Int→List Int→List Int→Option (Bool)
  | 0,_,_,_,_,_,_,_,_,_,_,_=>none
  | k+1,x4,x5,x7,x9,x54,x516000,x516001,x524000,x524001,x532000,x532001=>if x54=true then (if (x7 == x9)=true then ((laws_sameMap.f k x524000 x524001 x532000 x532001).bind fun t533=>(some t533)) else (some false)) else ((impl_MapCounts.f k x516000 x516001).bind fun bt534=>((impl_MapCounts.f k x524000 x524001).bind fun bt538=>((impl_MapDegrees.f k x516000 x516001).bind fun bt542=>((impl_MapDegrees.f k x524000 x524001).bind fun bt546=>(laws_FnCover.l0 k x4 x5 bt534.1 bt534.2 bt538.1 bt538.2 bt542.1 bt542.2 bt546.1 bt546.2 0 x516000 x516001)))))
def laws_FnCover.l0:Nat→Int→List (List Int)→List Int→Bool→List Int→Bool→List Int→Bool→List Int→Bool→Int→List Int→List Int→Option (Bool)
  | 0,_,_,_,_,_,_,_,_,_,_,_,_,_=>none
  | k+1,x4,x5,x10,x11,x12,x13,x14,x15,x16,x17,x18,x516000,x516001=>if x18<(x16.length:Int) then (if 0≤x18 then (if x4=0 then (none) else (if 0≤(wrap64 (Int.tdiv x18 x4)) then (if (wrap64 (Int.tdiv x18 x4))<(x14.length:Int) then (if (rd x16 x18)=(rd x14 (wrap64 (Int.tdiv x18 x4))) then (laws_FnCover.l0 k x4 x5 x10 x11 x12 x13 x14 x15 x16 x17 (wrap64 (x18+1)) x516000 x516001) else (some false)) else (none)) else (none))) else (none)) else (if x11=true then (if x13=true then (if x15=true then (if x17=true then (if 0<(x12.length:Int) then (if 0<(x10.length:Int) then (if (rd x12 0)=(wrap64 (x4*(rd x10 0))) then (if 1<(x12.length:Int) then (if 1<(x10.length:Int) then (if (rd x12 1)=(wrap64 (x4*(rd x10 1))) then (if 2<(x12.length:Int) then (if 2<(x10.length:Int) then ((impl_CoverBranch.f k x516000 x516001 x4 x5).bind fun t558=>(some ((rd x12 2) == (wrap64 ((wrap64 (x4*(rd x10 2))) - t558))))) else (none)) else (none)) else (some false)) else (none)) else (none)) else (some false)) else (none)) else (none)) else (some false)) else (some false)) else (some false)) else (some false))
end
def laws_FnCover.f (k:Nat) (l0:List Int):Option (Bool):=if (l0.length:Int)>1048576 then (some true) else ((spec_DrawCoverMap.f k l0).bind fun bt505=>((impl_CoverMap.f k bt505.1 bt505.2.1 bt505.2.2.1 bt505.2.2.2).bind fun bt516=>((spec_CoverMap.f k bt505.1 bt505.2.1 bt505.2.2.1 bt505.2.2.2).bind fun bt524=>(if (bt516.2.2 != bt524.2.2)=true then (laws_FnCover.j0 k bt505.2.2.1 bt505.2.2.2 bt516.2.2 bt524.2.2 true bt505.1 bt505.2.1 bt516.1 bt516.2.1 bt524.1 bt524.2.1) else ((laws_sameMap.f k bt516.1 bt516.2.1 bt524.1 bt524.2.1).bind fun t532=>(if t532=true then (laws_FnCover.j0 k bt505.2.2.1 bt505.2.2.2 bt516.2.2 bt524.2.2 (!bt516.2.2) bt505.1 bt505.2.1 bt516.1 bt516.2.1 bt524.1 bt524.2.1) else (laws_FnCover.j0 k bt505.2.2.1 bt505.2.2.2 bt516.2.2 bt524.2.2 true bt505.1 bt505.2.1 bt516.1 bt516.2.1 bt524.1 bt524.2.1)))))))
def laws_FnCover.T15:Bool×List (List Nat×List Nat):=(true,[([],[]),([],[]),([0,1],[0,1]),([2],[2]),([],[]),([],[]),([],[]),([5,6],[5,6]),([4,7],[4,7]),([8],[8]),([3,9],[3,9])])
def laws_FnCover.B15:List Nat := [0,0,3,7,0,0,0,96,240,496,1023]
theorem laws_FnCover.tab15:rtab .any (opsOf Try.f9 15)=laws_FnCover.T15:=by kernel_rfl
theorem laws_FnCover.bits15:waitsOk laws_FnCover.T15.2 laws_FnCover.B15=true:=by kernel_rfl
def laws_FnCover.T17:Bool×List (List Nat×List Nat):=(true,[([],[]),([0],[0]),([1],[1]),([1,2],[1,2]),([3,1],[3]),([4],[4]),([4,5],[4,5]),([6,4],[6]),([7],[7]),([7,8],[7,8]),([9,7],[9]),([10],[10]),([11,10],[10,11]),([12,10],[10,12]),([10],[10]),([10],[10]),([15,10],[10,15]),([16,10],[10,16]),([14,17,10],[10,14,17]),([13,18,10],[10,13,18]),([10,19],[10,19]),([20,10],[20]),([21],[21]),([22,21],[21,22]),([23,21],[21,23]),([21],[21]),([21],[21]),([26,21],[21,26]),([27,21],[21,27]),([25,28,21],[21,25,28]),([24,29,21],[21,24,29]),([21,30],[21,30]),([31,21],[31]),([32],[32]),([33,32],[32,33]),([34,32],[32,34]),([32],[32]),([32],[32]),([37,32],[32,37]),([38,32],[32,38]),([36,39,32],[32,36,39]),([32],[32]),([32],[32]),([32],[32]),([41,42,43,32,32],[32,41,42,43]),([40,44,32],[32,40,44]),([35,45,32],[32,35,45]),([32,46],[32,46]),([47,44,0,1,2,3,4,5,6,7,8,9,10,11,12,13,14,15,16,17,18,19,20,21,22,23,24,25,26,27,28,29,30,31,32,33,34,35,36,37,38,39,40,41,42,43,44,45,46,47],[47])])
def laws_FnCover.B17:List Nat := [0,1,3,7,15,31,63,127,255,511,1023,2047,4095,8191,2047,2047,34815,100351,247807,524287,1048575,2097151,4194303,8388607,16777215,4194303,4194303,71303167,205520895,507510783,1073741823,2147483647,4294967295,8589934591,17179869183,34359738367,8589934591,8589934591,146028888063,420906795007,1039382085631,8589934591,8589934591,8589934591,15401752723455,35124242546687,70368744177663,140737488355327,281474976710655]
theorem laws_FnCover.tab17:rtab .any (opsOf Try.f9 17)=laws_FnCover.T17:=by kernel_rfl
theorem laws_FnCover.bits17:waitsOk laws_FnCover.T17.2 laws_FnCover.B17=true:=by kernel_rfl
set_option maxHeartbeats 8000000 in
set_option maxRecDepth 100000 in
theorem laws_FnCover.calls (k:Nat) (A0:Option Addr) (c0:Nat) (l0:List Int) (r:Bool) (w:World) (hr0:Kd.C (Kd.int .u8) w A0 l0.length l0) (hc0:l0.length≤c0) (h:laws_FnCover.f k l0=some r) :
    Calls Try.prog 9 #[.slice A0 l0.length c0] w fun e w'=>e = .returned (.bool r)∧Below w.heap.size w w':=by
 have hu25:=Try.underlying25;have HR0:=A0_ hr0;have HC0:=A0_ hc0;clear hr0 hc0
 have HB:=A0_ (Below.refl w.heap.size w)
 have H:(if (l0.length:Int)>1048576 then (some true) else ((spec_DrawCoverMap.f k l0).bind fun bt505=>((impl_CoverMap.f k bt505.1 bt505.2.1 bt505.2.2.1 bt505.2.2.2).bind fun bt516=>((spec_CoverMap.f k bt505.1 bt505.2.1 bt505.2.2.1 bt505.2.2.2).bind fun bt524=>(if (bt516.2.2 != bt524.2.2)=true then (laws_FnCover.j0 k bt505.2.2.1 bt505.2.2.2 bt516.2.2 bt524.2.2 true bt505.1 bt505.2.1 bt516.1 bt516.2.1 bt524.1 bt524.2.1) else ((laws_sameMap.f k bt516.1 bt516.2.1 bt524.1 bt524.2.1).bind fun t532=>(if t532=true then (laws_FnCover.j0 k bt505.2.2.1 bt505.2.2.2 bt516.2.2 bt524.2.2 (!bt516.2.2) bt505.1 bt505.2.1 bt516.1 bt516.2.1 bt524.1 bt524.2.1) else (laws_FnCover.j0 k bt505.2.2.1 bt505.2.2.2 bt516.2.2 bt524.2.2 true bt505.1 bt505.2.1 bt516.1 bt516.2.1 bt524.1 bt524.2.1))))))))=some r:=h
 clear h
 by_cases c2:(l0.length:Int)>1048576
 ·rw [if_pos c2] at H
  have c2b0:decide (1048576<(l0.length:Int))=true:=dT c2
  have c2b1:decide (1048576<l0.length)=true:=dT (by omega)
  clear c2;obtain rfl:=sI H
  go_enter Try.func9,Try.ntmps9
  go_wp2
  go_ret
  exact⟨by first|rfl|(simp [*] <;> rfl),zB_ HB⟩
 rw [if_neg c2] at H
 have c2b0:decide (1048576<(l0.length:Int))=false:=dF c2
 have c2b1:decide (1048576<l0.length)=false:=dF (by omega)
 clear c2;obtain⟨⟨t505,t508,t511,t512⟩,A3,H⟩:=zbind H;dsimp only at H;obtain⟨⟨t516,t519,t522⟩,A4,H⟩:=zbind H;dsimp only at H;obtain⟨⟨t524,t527,t530⟩,A5,H⟩:=zbind H;dsimp only at H;have HC6:=A0_ H;clear H
 go_enter Try.func9,Try.ntmps9
 go_upto_region 6 with(first|((with_reducible refine gC (f:=40) rfl ?_);refine zJ (some 24) Try.func40 #[.slice A0 l0.length c0] ?_;(with_reducible refine(spec_DrawCoverMap.calls k _ _ l0 t505 t508 t511 t512 _ ?side1 ?side2 A3.out).mono ?_);(case side1=>repeat(first|exact HR0.out|(with_reducible refine cA ?_ _)|(with_reducible refine cN ?_ _)|(with_reducible refine cD ?_)));(case side2=>exact HC0.out);rintro e w7 ⟨v506,v509,v513,rfl,ho0,ho1,ho2,hb⟩;refine⟨_,rfl,?_⟩;have HO507:=A0_ (Kd.Q_lower ho0 (bZ (zB_ HB)));have HO510:=A0_ (rL ho1 (bZ (zB_ HB)));have HO514:=A0_ (Kd.S_lower ho2 (bZ (zB_ HB)));replace HB:=zB HB hb;(try clear hb);(try clear ho0);(try clear ho1);(try clear ho2))|((with_reducible refine gD (N:=3) rfl ?_);refine zX (N:=3) (cs := #[.slice none 0 0,.slice none 0 0]) (t:=25) ?_;intro gb515 hg w8 hbox hb;replace HO507:=A0_ (Kd.Q_below (zQ_ HO507) hb);replace HO510:=zR HO510 hb;replace HO514:=zS HO514 hb;have BK515:=A0_ (hbox);have GW515:=zG hg HB;have GE515:=zG hg HB;replace HB:=zB HB hb;clear hb hbox hg;obtain⟨Ao9,co9,eo9,_⟩:=Kd.Q_slice HO507.out;subst eo9;have hcz10_0:=zc0 BK515;have hcz10_1:=zc1 BK515;have hfz10_0:=kF BK515.out 0;have hfz10_1:=kF BK515.out 1;obtain⟨Ao11,co11,eo11⟩:=rS HO510.out;subst eo11;obtain⟨Ao12,co12,eo12⟩:=Kd.S_slice HO514.out;subst eo12)|((with_reducible refine gC (f:=20) rfl ?_);refine zJ (some 32) Try.func20 #[.agg #[.slice Ao9 t505.length co9,.slice Ao11 t508.length co11],.int .i64 t511,.slice Ao12 t512.length co12] ?_;(with_reducible refine(impl_CoverMap.calls k _ _ t505 _ _ t508 t511 _ _ t512 t516 t519 t522 _ ?side1 ?side2 ?side3 ?side4 ?side5 ?side6 A4.out).mono ?_);(case side1=>refine(Kd.Q_reads' (e:=3) (base:=w.heap.size) (ok:=fun k_=>some k_≠(.slice Ao11 t508.length co11:Value).ownBlock) (n:=t505.length) (c:=co9) ?_).2.2;exact(by(with_reducible repeat(first|apply Kd.Q_alloc|apply Kd.Q_drewN|apply Kd.Q_drew));exact(Kd.Q_mono (Kd.Q_far (p:=⟨gb515,1,none⟩) (Kd.Q_far (p:=⟨gb515,0,none⟩) (Kd.Q_types HO507.out BK515.out (by decide)) (fun _ hk=>hk.2) (.slice Ao9 t505.length co9)) (fun _ hk=>hk.2) (.slice Ao11 t508.length co11)) (fun _ h_=>h_.1))));(case side2=>exact(Kd.Q_reads' HO507.out).2.1);(case side3=>refine(rR (e:=3) (base:=w.heap.size) (ok:=fun k_=>some k_≠(.slice Ao9 t505.length co9:Value).ownBlock) (n:=t508.length) (c:=co11) ?_).2.2;exact(zF HO510 BK515 (.slice Ao9 t505.length co9) (.slice Ao11 t508.length co11) 0 1));(case side4=>exact(rR HO510.out).2.1);(case side5=>refine(Kd.S_reads' (e:=23) (base:=w.heap.size) (ok:=fun k_=>(some k_≠(.slice Ao9 t505.length co9:Value).ownBlock∧some k_≠(.slice Ao11 t508.length co11:Value).ownBlock)) (n:=t512.length) (c:=co12) ?_).2.2;exact(zFS HO514 BK515 (.slice Ao9 t505.length co9) (.slice Ao11 t508.length co11) 0 1));(case side6=>exact(Kd.S_reads' HO514.out).2.1);rintro e w13 ⟨v517,v520,rfl,ho0,ho1,hb⟩;refine⟨_,rfl,?_⟩;replace HO514:=A0_ (sM (Kd.S_told (Kd.S_told (Kd.S_old (zFS HO514 BK515 (.slice Ao9 t505.length co9) (.slice Ao11 t508.length co11) 0 1) hb) (Kd.R_base ho0)) (Kd.R_base ho1)) (fun _ h_=>h_.1));have HO518:=A0_ (rL (Kd.R_new' (Kd.R_new' ho0 (Kd.Q_lt (by(with_reducible repeat(first|apply Kd.Q_alloc|apply Kd.Q_drewN|apply Kd.Q_drew));exact(Kd.Q_mono (Kd.Q_far (p:=⟨gb515,1,none⟩) (Kd.Q_far (p:=⟨gb515,0,none⟩) (Kd.Q_types HO507.out BK515.out (by decide)) (fun _ hk=>hk.2) (.slice Ao9 t505.length co9)) (fun _ hk=>hk.2) (.slice Ao11 t508.length co11)) (fun _ h_=>h_.1))))) (rX (zF HO510 BK515 (.slice Ao9 t505.length co9) (.slice Ao11 t508.length co11) 0 1))) (bZ (zB_ HB)));have HO521:=A0_ (rL (Kd.R_new' (Kd.R_new' ho1 (Kd.Q_lt (by(with_reducible repeat(first|apply Kd.Q_alloc|apply Kd.Q_drewN|apply Kd.Q_drew));exact(Kd.Q_mono (Kd.Q_far (p:=⟨gb515,1,none⟩) (Kd.Q_far (p:=⟨gb515,0,none⟩) (Kd.Q_types HO507.out BK515.out (by decide)) (fun _ hk=>hk.2) (.slice Ao9 t505.length co9)) (fun _ hk=>hk.2) (.slice Ao11 t508.length co11)) (fun _ h_=>h_.1))))) (rX (zF HO510 BK515 (.slice Ao9 t505.length co9) (.slice Ao11 t508.length co11) 0 1))) (bZ (zB_ HB)));replace HO507:=A0_ (Kd.Q_mono (Kd.Q_told (Kd.Q_told (Kd.Q_old (by(with_reducible repeat(first|apply Kd.Q_alloc|apply Kd.Q_drewN|apply Kd.Q_drew));exact(Kd.Q_mono (Kd.Q_far (p:=⟨gb515,1,none⟩) (Kd.Q_far (p:=⟨gb515,0,none⟩) (Kd.Q_types HO507.out BK515.out (by decide)) (fun _ hk=>hk.2) (.slice Ao9 t505.length co9)) (fun _ hk=>hk.2) (.slice Ao11 t508.length co11)) (fun _ h_=>h_.1))) hb) (Kd.R_base ho0)) (Kd.R_base ho1)) (fun _ h_=>h_.1));replace HO510:=A0_ (rM (rT (rT (rO (zF HO510 BK515 (.slice Ao9 t505.length co9) (.slice Ao11 t508.length co11) 0 1) hb) (Kd.R_base ho0)) (Kd.R_base ho1)) (fun _ h_=>h_.1));replace BK515:=A0_ (kB (g:=gb515) (o := .cells #[.slice Ao9 t505.length co9,.slice Ao11 t508.length co11] 25 (0,0)) (by(with_reducible repeat(first|refine kN ?_ _|refine kD ?_|refine kA ?_ _));refine blk_put (cs := #[.slice Ao9 t505.length co9,.slice none 0 0]) ?_ 1 _ rfl;(with_reducible repeat(first|refine kN ?_ _|refine kD ?_|refine kA ?_ _));refine blk_put (cs := #[.slice none 0 0,.slice none 0 0]) ?_ 0 _ rfl;(with_reducible repeat(first|refine kN ?_ _|refine kD ?_|refine kA ?_ _));exact BK515.out) hb);replace HB:=zB HB hb;(try clear hb);(try clear ho0);(try clear ho1))|((with_reducible refine gD (N:=6) rfl ?_);refine zX (N:=6) (cs := #[.slice none 0 0,.slice none 0 0]) (t:=25) ?_;intro gb523 hg w14 hbox hb;replace HO507:=A0_ (Kd.Q_below (zQ_ HO507) hb);replace HO510:=zR HO510 hb;replace HO514:=zS HO514 hb;replace HO518:=zR HO518 hb;replace HO521:=zR HO521 hb;have BK523:=A0_ (hbox);have GW523:=zG hg HB;have GE523:=zG hg HB;replace HB:=zB HB hb;have NB515_523:=zL hg BK515;have NB523_515:=zM hg BK515;replace BK515:=zK BK515 hb;clear hb hbox hg;obtain⟨Ao15,co15,eo15⟩:=rS HO518.out;subst eo15;have hnb16:=NB523_515.out;have hnc16:=NB515_523.out;have hcz17_0:=zc0 BK523;have hcz17_1:=zc1 BK523;have hfz17_0:=kF BK523.out 0;have hfz17_1:=kF BK523.out 1;obtain⟨Ao18,co18,eo18⟩:=rS HO521.out;subst eo18;have hcz19_0:=zc0 BK515;have hcz19_1:=zc1 BK515;have hfz19_0:=kF BK515.out 0;have hfz19_1:=kF BK515.out 1)|((with_reducible refine gC (f:=41) rfl ?_);refine zJ (some 39) Try.func41 #[.agg #[.slice Ao9 t505.length co9,.slice Ao11 t508.length co11],.int .i64 t511,.slice Ao12 t512.length co12] ?_;(with_reducible refine(spec_CoverMap.calls k _ _ t505 _ _ t508 t511 _ _ t512 t524 t527 t530 _ ?side1 ?side2 ?side3 ?side4 ?side5 ?side6 A5.out).mono ?_);(case side1=>refine(Kd.Q_reads' (e:=3) (base:=w.heap.size) (ok:=fun k_=>((some k_≠(.slice Ao11 t508.length co11:Value).ownBlock∧some k_≠(.slice Ao15 t516.length co15:Value).ownBlock)∧some k_≠(.slice Ao18 t519.length co18:Value).ownBlock)) (n:=t505.length) (c:=co9) ?_).2.2;exact(by(with_reducible repeat(first|apply Kd.Q_alloc|apply Kd.Q_drewN|apply Kd.Q_drew));exact(Kd.Q_mono (Kd.Q_far (p:=⟨gb523,1,none⟩) (Kd.Q_far (p:=⟨gb523,0,none⟩) (Kd.Q_types HO507.out BK523.out (by decide)) (fun _ hk=>hk.2) (.slice Ao15 t516.length co15)) (fun _ hk=>hk.2) (.slice Ao18 t519.length co18)) (fun _ h_=>h_.1))));(case side2=>exact(Kd.Q_reads' HO507.out).2.1);(case side3=>refine(rR (e:=3) (base:=w.heap.size) (ok:=fun k_=>((some k_≠(.slice Ao9 t505.length co9:Value).ownBlock∧some k_≠(.slice Ao15 t516.length co15:Value).ownBlock)∧some k_≠(.slice Ao18 t519.length co18:Value).ownBlock)) (n:=t508.length) (c:=co11) ?_).2.2;exact(zF HO510 BK523 (.slice Ao15 t516.length co15) (.slice Ao18 t519.length co18) 0 1));(case side4=>exact(rR HO510.out).2.1);(case side5=>refine(Kd.S_reads' (e:=23) (base:=w.heap.size) (ok:=fun k_=>(((some k_≠(.slice Ao9 t505.length co9:Value).ownBlock∧some k_≠(.slice Ao11 t508.length co11:Value).ownBlock)∧some k_≠(.slice Ao15 t516.length co15:Value).ownBlock)∧some k_≠(.slice Ao18 t519.length co18:Value).ownBlock)) (n:=t512.length) (c:=co12) ?_).2.2;exact(zFS HO514 BK523 (.slice Ao15 t516.length co15) (.slice Ao18 t519.length co18) 0 1));(case side6=>exact(Kd.S_reads' HO514.out).2.1);rintro e w20 ⟨v525,v528,rfl,ho0,ho1,hb⟩;refine⟨_,rfl,?_⟩;replace HO514:=A0_ (sM (Kd.S_told (Kd.S_told (Kd.S_old (zFS HO514 BK523 (.slice Ao15 t516.length co15) (.slice Ao18 t519.length co18) 0 1) hb) (Kd.R_base ho0)) (Kd.R_base ho1)) (fun _ h_=>h_.1));have HO526:=A0_ (rL (Kd.R_new' (Kd.R_new' (Kd.R_new' (Kd.R_new' ho0 (Kd.Q_lt (by(with_reducible repeat(first|apply Kd.Q_alloc|apply Kd.Q_drewN|apply Kd.Q_drew));exact(Kd.Q_mono (Kd.Q_far (p:=⟨gb523,1,none⟩) (Kd.Q_far (p:=⟨gb523,0,none⟩) (Kd.Q_types HO507.out BK523.out (by decide)) (fun _ hk=>hk.2) (.slice Ao15 t516.length co15)) (fun _ hk=>hk.2) (.slice Ao18 t519.length co18)) (fun _ h_=>h_.1))))) (rX (zF HO510 BK523 (.slice Ao15 t516.length co15) (.slice Ao18 t519.length co18) 0 1))) (rX (zF HO518 BK523 (.slice Ao15 t516.length co15) (.slice Ao18 t519.length co18) 0 1))) (rX (zF HO521 BK523 (.slice Ao15 t516.length co15) (.slice Ao18 t519.length co18) 0 1))) (bZ (zB_ HB)));have HO529:=A0_ (rL (Kd.R_new' (Kd.R_new' (Kd.R_new' (Kd.R_new' ho1 (Kd.Q_lt (by(with_reducible repeat(first|apply Kd.Q_alloc|apply Kd.Q_drewN|apply Kd.Q_drew));exact(Kd.Q_mono (Kd.Q_far (p:=⟨gb523,1,none⟩) (Kd.Q_far (p:=⟨gb523,0,none⟩) (Kd.Q_types HO507.out BK523.out (by decide)) (fun _ hk=>hk.2) (.slice Ao15 t516.length co15)) (fun _ hk=>hk.2) (.slice Ao18 t519.length co18)) (fun _ h_=>h_.1))))) (rX (zF HO510 BK523 (.slice Ao15 t516.length co15) (.slice Ao18 t519.length co18) 0 1))) (rX (zF HO518 BK523 (.slice Ao15 t516.length co15) (.slice Ao18 t519.length co18) 0 1))) (rX (zF HO521 BK523 (.slice Ao15 t516.length co15) (.slice Ao18 t519.length co18) 0 1))) (bZ (zB_ HB)));replace HO507:=A0_ (Kd.Q_mono (Kd.Q_told (Kd.Q_told (Kd.Q_old (by(with_reducible repeat(first|apply Kd.Q_alloc|apply Kd.Q_drewN|apply Kd.Q_drew));exact(Kd.Q_mono (Kd.Q_far (p:=⟨gb523,1,none⟩) (Kd.Q_far (p:=⟨gb523,0,none⟩) (Kd.Q_types HO507.out BK523.out (by decide)) (fun _ hk=>hk.2) (.slice Ao15 t516.length co15)) (fun _ hk=>hk.2) (.slice Ao18 t519.length co18)) (fun _ h_=>h_.1))) hb) (Kd.R_base ho0)) (Kd.R_base ho1)) (fun _ h_=>h_.1));replace HO510:=A0_ (rM (rT (rT (rO (zF HO510 BK523 (.slice Ao15 t516.length co15) (.slice Ao18 t519.length co18) 0 1) hb) (Kd.R_base ho0)) (Kd.R_base ho1)) (fun _ h_=>h_.1));replace HO518:=A0_ (rM (rT (rT (rO (zF HO518 BK523 (.slice Ao15 t516.length co15) (.slice Ao18 t519.length co18) 0 1) hb) (Kd.R_base ho0)) (Kd.R_base ho1)) (fun _ h_=>h_.1));replace HO521:=A0_ (rM (rT (rT (rO (zF HO521 BK523 (.slice Ao15 t516.length co15) (.slice Ao18 t519.length co18) 0 1) hb) (Kd.R_base ho0)) (Kd.R_base ho1)) (fun _ h_=>h_.1));replace BK515:=A0_ (kB (g:=gb515) (o := .cells #[.slice Ao9 t505.length co9,.slice Ao11 t508.length co11] 25 (0,0)) (by(with_reducible repeat(first|refine kN ?_ _|refine kD ?_|refine kA ?_ _));refine blk_far ?_ NB515_523.out _;(with_reducible repeat(first|refine kN ?_ _|refine kD ?_|refine kA ?_ _));refine blk_far ?_ NB515_523.out _;(with_reducible repeat(first|refine kN ?_ _|refine kD ?_|refine kA ?_ _));exact BK515.out) hb);replace BK523:=A0_ (kB (g:=gb523) (o := .cells #[.slice Ao15 t516.length co15,.slice Ao18 t519.length co18] 25 (0,0)) (by(with_reducible repeat(first|refine kN ?_ _|refine kD ?_|refine kA ?_ _));refine blk_put (cs := #[.slice Ao15 t516.length co15,.slice none 0 0]) ?_ 1 _ rfl;(with_reducible repeat(first|refine kN ?_ _|refine kD ?_|refine kA ?_ _));refine blk_put (cs := #[.slice none 0 0,.slice none 0 0]) ?_ 0 _ rfl;(with_reducible repeat(first|refine kN ?_ _|refine kD ?_|refine kA ?_ _));exact BK523.out) hb);replace HB:=zB HB hb;(try clear hb);(try clear ho0);(try clear ho1))|((with_reducible refine gD (N:=8) rfl ?_);refine zX (N:=8) (cs := #[.slice none 0 0,.slice none 0 0]) (t:=25) ?_;intro gb531 hg w21 hbox hb;replace HO507:=A0_ (Kd.Q_below (zQ_ HO507) hb);replace HO510:=zR HO510 hb;replace HO514:=zS HO514 hb;replace HO518:=zR HO518 hb;replace HO521:=zR HO521 hb;replace HO526:=zR HO526 hb;replace HO529:=zR HO529 hb;have BK531:=A0_ (hbox);have GW531:=zG hg HB;have GE531:=zG hg HB;replace HB:=zB HB hb;have NB515_531:=zL hg BK515;have NB531_515:=zM hg BK515;replace BK515:=zK BK515 hb;have NB523_531:=zL hg BK523;have NB531_523:=zM hg BK523;replace BK523:=zK BK523 hb;clear hb hbox hg;obtain⟨Ao22,co22,eo22⟩:=rS HO526.out;subst eo22;have hnb23:=NB531_515.out;have hnc23:=NB515_531.out;have hnb24:=NB531_523.out;have hnc24:=NB523_531.out;have hcz25_0:=zc0 BK531;have hcz25_1:=zc1 BK531;have hfz25_0:=kF BK531.out 0;have hfz25_1:=kF BK531.out 1;obtain⟨Ao26,co26,eo26⟩:=rS HO529.out;subst eo26))
 (try simp only [Act.put,List.setIfInBounds_toArray,List.set_cons_zero,List.set_cons_succ])
 go_cut [54] (fun v54 wc => ∃ (kq:Nat) (x54_5:Bool),v54 = .bool x54_5∧Aside0 (laws_FnCover.j0 kq t511 t512 t522 t530 x54_5 t505 t508 t516 t519 t524 t527=some r)∧Aside0 (kq≤k)∧Aside0 (Kd.S (Kd.slice 3 (Kd.int .i64)) 23 wc w.heap.size (fun k_=>some k_≠((.slice Ao9 t505.length co9):Value).ownBlock∧some k_≠((.slice Ao11 t508.length co11):Value).ownBlock∧some k_≠((.slice Ao15 t516.length co15):Value).ownBlock∧some k_≠((.slice Ao18 t519.length co18):Value).ownBlock∧some k_≠((.slice Ao22 t524.length co22):Value).ownBlock∧some k_≠((.slice Ao26 t527.length co26):Value).ownBlock) (.slice Ao12 t512.length co12) t512)∧Aside0 (Kd.Q (Kd.int .i64) 3 wc w.heap.size (fun k_=>some k_≠((.slice Ao11 t508.length co11):Value).ownBlock∧some k_≠((.slice Ao15 t516.length co15):Value).ownBlock∧some k_≠((.slice Ao18 t519.length co18):Value).ownBlock∧some k_≠((.slice Ao22 t524.length co22):Value).ownBlock∧some k_≠((.slice Ao26 t527.length co26):Value).ownBlock) (.slice Ao9 t505.length co9) t505)∧Aside0 (Kd.R (Kd.int .i64) 3 wc w.heap.size (fun k_=>some k_≠((.slice Ao9 t505.length co9):Value).ownBlock∧some k_≠((.slice Ao15 t516.length co15):Value).ownBlock∧some k_≠((.slice Ao18 t519.length co18):Value).ownBlock∧some k_≠((.slice Ao22 t524.length co22):Value).ownBlock∧some k_≠((.slice Ao26 t527.length co26):Value).ownBlock) (.slice Ao11 t508.length co11) t508)∧Aside0 (Kd.Q (Kd.int .i64) 3 wc w.heap.size (fun k_=>some k_≠((.slice Ao9 t505.length co9):Value).ownBlock∧some k_≠((.slice Ao11 t508.length co11):Value).ownBlock∧some k_≠((.slice Ao18 t519.length co18):Value).ownBlock∧some k_≠((.slice Ao22 t524.length co22):Value).ownBlock∧some k_≠((.slice Ao26 t527.length co26):Value).ownBlock) (.slice Ao15 t516.length co15) t516)∧Aside0 (Kd.R (Kd.int .i64) 3 wc w.heap.size (fun k_=>some k_≠((.slice Ao9 t505.length co9):Value).ownBlock∧some k_≠((.slice Ao11 t508.length co11):Value).ownBlock∧some k_≠((.slice Ao15 t516.length co15):Value).ownBlock∧some k_≠((.slice Ao22 t524.length co22):Value).ownBlock∧some k_≠((.slice Ao26 t527.length co26):Value).ownBlock) (.slice Ao18 t519.length co18) t519)∧Aside0 (Kd.Q (Kd.int .i64) 3 wc w.heap.size (fun k_=>some k_≠((.slice Ao9 t505.length co9):Value).ownBlock∧some k_≠((.slice Ao11 t508.length co11):Value).ownBlock∧some k_≠((.slice Ao15 t516.length co15):Value).ownBlock∧some k_≠((.slice Ao18 t519.length co18):Value).ownBlock∧some k_≠((.slice Ao26 t527.length co26):Value).ownBlock) (.slice Ao22 t524.length co22) t524)∧Aside0 (Kd.R (Kd.int .i64) 3 wc w.heap.size (fun k_=>some k_≠((.slice Ao9 t505.length co9):Value).ownBlock∧some k_≠((.slice Ao11 t508.length co11):Value).ownBlock∧some k_≠((.slice Ao15 t516.length co15):Value).ownBlock∧some k_≠((.slice Ao18 t519.length co18):Value).ownBlock∧some k_≠((.slice Ao22 t524.length co22):Value).ownBlock) (.slice Ao26 t527.length co26) t527)∧Aside0 (wc.heap[gb515]? = some (.cells #[(.slice Ao9 t505.length co9),(.slice Ao11 t508.length co11)] 25 (0,0)))∧Aside0 (wc.heap[gb523]? = some (.cells #[(.slice Ao15 t516.length co15),(.slice Ao18 t519.length co18)] 25 (0,0)))∧Aside0 (wc.heap[gb531]? = some (.cells #[(.slice Ao22 t524.length co22),(.slice Ao26 t527.length co26)] 25 (0,0)))∧Aside0 (Below w.heap.size w wc))
 case first =>
  have H:=HC6.out;clear HC6
  by_cases c27:(t522 != t530)=true
  ·rw [if_pos c27] at H
   have c27b0:(t522 != t530)=true:=c27
   (try(have c27b1:decide (t522=t530)=false:=by simpa using c27))
   (try(have c27b2:(t522 == t530)=false:=by simpa using c27))
   (try(have c27b3 : ¬ (t522=t530):=by simpa using c27))
   clear c27
   (first|rw [c27b0]|(simp only [i64_w,i32_w];rw [c27b0])|skip)
   have H':=A0_ H;clear H
   go_wp2
   go_meet
   case rel=>exact⟨_,(true),zt,H',zo,⟨by(with_reducible repeat(first|apply sA|apply sN|apply sD));exact sM (Kd.S_far (p:=⟨gb531,1,none⟩) (Kd.S_far (p:=⟨gb531,0,none⟩) (Kd.S_types HO514.out BK531.out (by decide)) (fun _ hk=>hk.2) (.slice Ao22 t524.length co22)) (fun _ hk=>hk.2) (.slice Ao26 t527.length co26)) (fun _ hk=>⟨hk.1.1.1.1.1.1,⟨hk.1.1.1.1.1.2,⟨hk.1.1.1.1.2,⟨hk.1.1.1.2,⟨hk.1.1.2,hk.1.2⟩⟩⟩⟩⟩)⟩,⟨by(with_reducible repeat(first|apply Kd.Q_alloc|apply Kd.Q_drewN|apply Kd.Q_drew));exact Kd.Q_mono (Kd.Q_far (p:=⟨gb531,1,none⟩) (Kd.Q_far (p:=⟨gb531,0,none⟩) (Kd.Q_types HO507.out BK531.out (by decide)) (fun _ hk=>hk.2) (.slice Ao22 t524.length co22)) (fun _ hk=>hk.2) (.slice Ao26 t527.length co26)) (fun _ hk=>⟨hk.1.1.1.1.1,⟨hk.1.1.1.1.2,⟨hk.1.1.1.2,⟨hk.1.1.2,hk.1.2⟩⟩⟩⟩)⟩,⟨by(with_reducible repeat(first|apply rA|apply rN|apply rD));exact rM (rF (p:=⟨gb531,1,none⟩) (rF (p:=⟨gb531,0,none⟩) (rY HO510.out BK531.out (by decide)) (fun _ hk=>hk.2) (.slice Ao22 t524.length co22)) (fun _ hk=>hk.2) (.slice Ao26 t527.length co26)) (fun _ hk=>⟨hk.1.1.1.1.1,⟨hk.1.1.1.1.2,⟨hk.1.1.1.2,⟨hk.1.1.2,hk.1.2⟩⟩⟩⟩)⟩,⟨Kd.Q_of_R (by(with_reducible repeat(first|apply rA|apply rN|apply rD));exact rM (rF (p:=⟨gb531,1,none⟩) (rF (p:=⟨gb531,0,none⟩) (rY HO518.out BK531.out (by decide)) (fun _ hk=>hk.2) (.slice Ao22 t524.length co22)) (fun _ hk=>hk.2) (.slice Ao26 t527.length co26)) (fun _ hk=>⟨hk.1.1.1.1.2,⟨hk.1.1.1.2,⟨hk.1.1.1.1.1,⟨hk.1.1.2,hk.1.2⟩⟩⟩⟩))⟩,⟨by(with_reducible repeat(first|apply rA|apply rN|apply rD));exact rM (rF (p:=⟨gb531,1,none⟩) (rF (p:=⟨gb531,0,none⟩) (rY HO521.out BK531.out (by decide)) (fun _ hk=>hk.2) (.slice Ao22 t524.length co22)) (fun _ hk=>hk.2) (.slice Ao26 t527.length co26)) (fun _ hk=>⟨hk.1.1.1.1.2,⟨hk.1.1.1.2,⟨hk.1.1.1.1.1,⟨hk.1.1.2,hk.1.2⟩⟩⟩⟩)⟩,⟨Kd.Q_of_R (by(with_reducible repeat(first|apply rA|apply rN|apply rD));exact rM (rF (p:=⟨gb531,1,none⟩) (rF (p:=⟨gb531,0,none⟩) (rY HO526.out BK531.out (by decide)) (fun _ hk=>hk.2) (.slice Ao22 t524.length co22)) (fun _ hk=>hk.2) (.slice Ao26 t527.length co26)) (fun _ hk=>⟨hk.1.1.1.1.2,⟨hk.1.1.1.2,⟨hk.1.1.2,⟨hk.1.2,hk.1.1.1.1.1⟩⟩⟩⟩))⟩,⟨by(with_reducible repeat(first|apply rA|apply rN|apply rD));exact rM (rF (p:=⟨gb531,1,none⟩) (rF (p:=⟨gb531,0,none⟩) (rY HO529.out BK531.out (by decide)) (fun _ hk=>hk.2) (.slice Ao22 t524.length co22)) (fun _ hk=>hk.2) (.slice Ao26 t527.length co26)) (fun _ hk=>⟨hk.1.1.1.1.2,⟨hk.1.1.1.2,⟨hk.1.1.2,⟨hk.1.2,hk.1.1.1.1.1⟩⟩⟩⟩)⟩,⟨by(with_reducible repeat(first|refine kN ?_ _|refine kD ?_|refine kA ?_ _));refine blk_far ?_ NB515_531.out _;(with_reducible repeat(first|refine kN ?_ _|refine kD ?_|refine kA ?_ _));refine blk_far ?_ NB515_531.out _;(with_reducible repeat(first|refine kN ?_ _|refine kD ?_|refine kA ?_ _));exact BK515.out⟩,⟨by(with_reducible repeat(first|refine kN ?_ _|refine kD ?_|refine kA ?_ _));refine blk_far ?_ NB523_531.out _;(with_reducible repeat(first|refine kN ?_ _|refine kD ?_|refine kA ?_ _));refine blk_far ?_ NB523_531.out _;(with_reducible repeat(first|refine kN ?_ _|refine kD ?_|refine kA ?_ _));exact BK523.out⟩,⟨by(with_reducible repeat(first|refine kN ?_ _|refine kD ?_|refine kA ?_ _));refine blk_put (cs := #[.slice Ao22 t524.length co22,.slice none 0 0]) ?_ 1 _ rfl;(with_reducible repeat(first|refine kN ?_ _|refine kD ?_|refine kA ?_ _));refine blk_put (cs := #[.slice none 0 0,.slice none 0 0]) ?_ 0 _ rfl;(with_reducible repeat(first|refine kN ?_ _|refine kD ?_|refine kA ?_ _));exact BK531.out⟩,⟨zB_ HB⟩⟩
  rw [if_neg c27] at H
  have c27b0:(t522 != t530)=false:=by simpa using c27
  (try(have c27b1:decide (t522=t530)=true:=by simpa using c27))
  (try(have c27b2:(t522 == t530)=true:=by simpa using c27))
  clear c27
  (first|rw [c27b0]|(simp only [i64_w,i32_w];rw [c27b0])|skip)
  obtain⟨t532,A28,H⟩:=zbind H
  by_cases c29:t532=true
  ·subst c29
   rw [if_pos rfl] at H;have H':=A0_ H;clear H;have hnb30:=NB523_515.out;have hnc30:=NB515_523.out;have hnb31:=NB523_531.out;have hnc31:=NB531_523.out;have hcz32_0:=zc0 BK523;have hcz32_1:=zc1 BK523;have hfz32_0:=kF BK523.out 0;have hfz32_1:=kF BK523.out 1;have hnb33:=NB531_515.out;have hnc33:=NB515_531.out;have hcz34_0:=zc0 BK531;have hcz34_1:=zc1 BK531;have hfz34_0:=kF BK531.out 0;have hfz34_1:=kF BK531.out 1
   go_wp2_with (first|(go_at_call 42;(with_reducible refine(laws_sameMap.calls k _ _ t516 _ _ t519 _ _ t524 _ _ t527 true _ ?side1 ?side2 ?side3 ?side4 ?side5 ?side6 ?side7 ?side8 A28.out).mono ?_);(case side1=>refine(rR (e:=3) (base:=w.heap.size) (ok:=fun k_=>((((some k_≠(.slice Ao18 t519.length co18:Value).ownBlock∧some k_≠(.slice Ao9 t505.length co9:Value).ownBlock)∧some k_≠(.slice Ao11 t508.length co11:Value).ownBlock)∧some k_≠(.slice Ao22 t524.length co22:Value).ownBlock)∧some k_≠(.slice Ao26 t527.length co26:Value).ownBlock)) (n:=t516.length) (c:=co15) ?_).2.2;exact(zF HO518 BK531 (.slice Ao22 t524.length co22) (.slice Ao26 t527.length co26) 0 1));(case side2=>exact(rR HO518.out).2.1);(case side3=>refine(rR (e:=3) (base:=w.heap.size) (ok:=fun k_=>((((some k_≠(.slice Ao15 t516.length co15:Value).ownBlock∧some k_≠(.slice Ao9 t505.length co9:Value).ownBlock)∧some k_≠(.slice Ao11 t508.length co11:Value).ownBlock)∧some k_≠(.slice Ao22 t524.length co22:Value).ownBlock)∧some k_≠(.slice Ao26 t527.length co26:Value).ownBlock)) (n:=t519.length) (c:=co18) ?_).2.2;exact(zF HO521 BK531 (.slice Ao22 t524.length co22) (.slice Ao26 t527.length co26) 0 1));(case side4=>exact(rR HO521.out).2.1);(case side5=>refine(rR (e:=3) (base:=w.heap.size) (ok:=fun k_=>((((some k_≠(.slice Ao26 t527.length co26:Value).ownBlock∧some k_≠(.slice Ao9 t505.length co9:Value).ownBlock)∧some k_≠(.slice Ao11 t508.length co11:Value).ownBlock)∧some k_≠(.slice Ao15 t516.length co15:Value).ownBlock)∧some k_≠(.slice Ao18 t519.length co18:Value).ownBlock)) (n:=t524.length) (c:=co22) ?_).2.2;exact(zF HO526 BK531 (.slice Ao22 t524.length co22) (.slice Ao26 t527.length co26) 0 1));(case side6=>exact(rR HO526.out).2.1);(case side7=>refine(rR (e:=3) (base:=w.heap.size) (ok:=fun k_=>((((some k_≠(.slice Ao22 t524.length co22:Value).ownBlock∧some k_≠(.slice Ao9 t505.length co9:Value).ownBlock)∧some k_≠(.slice Ao11 t508.length co11:Value).ownBlock)∧some k_≠(.slice Ao15 t516.length co15:Value).ownBlock)∧some k_≠(.slice Ao18 t519.length co18:Value).ownBlock)) (n:=t527.length) (c:=co26) ?_).2.2;exact(zF HO529 BK531 (.slice Ao22 t524.length co22) (.slice Ao26 t527.length co26) 0 1));(case side8=>exact(rR HO529.out).2.1);rintro e w35 ⟨rfl,hb⟩;replace HO507:=A0_ (Kd.Q_below (by(with_reducible repeat(first|apply Kd.Q_alloc|apply Kd.Q_drewN|apply Kd.Q_drew));exact(Kd.Q_mono (Kd.Q_far (p:=⟨gb531,1,none⟩) (Kd.Q_far (p:=⟨gb531,0,none⟩) (Kd.Q_types HO507.out BK531.out (by decide)) (fun _ hk=>hk.2) (.slice Ao22 t524.length co22)) (fun _ hk=>hk.2) (.slice Ao26 t527.length co26)) (fun _ h_=>h_.1))) hb);replace HO510:=A0_ (rB (zF HO510 BK531 (.slice Ao22 t524.length co22) (.slice Ao26 t527.length co26) 0 1) hb);replace HO514:=A0_ (sB (zFS HO514 BK531 (.slice Ao22 t524.length co22) (.slice Ao26 t527.length co26) 0 1) hb);replace HO518:=A0_ (rB (zF HO518 BK531 (.slice Ao22 t524.length co22) (.slice Ao26 t527.length co26) 0 1) hb);replace HO521:=A0_ (rB (zF HO521 BK531 (.slice Ao22 t524.length co22) (.slice Ao26 t527.length co26) 0 1) hb);replace HO526:=A0_ (rB (zF HO526 BK531 (.slice Ao22 t524.length co22) (.slice Ao26 t527.length co26) 0 1) hb);replace HO529:=A0_ (rB (zF HO529 BK531 (.slice Ao22 t524.length co22) (.slice Ao26 t527.length co26) 0 1) hb);replace BK515:=A0_ (kB (g:=gb515) (o := .cells #[.slice Ao9 t505.length co9,.slice Ao11 t508.length co11] 25 (0,0)) (by(with_reducible repeat(first|refine kN ?_ _|refine kD ?_|refine kA ?_ _));refine blk_far ?_ NB515_531.out _;(with_reducible repeat(first|refine kN ?_ _|refine kD ?_|refine kA ?_ _));refine blk_far ?_ NB515_531.out _;(with_reducible repeat(first|refine kN ?_ _|refine kD ?_|refine kA ?_ _));exact BK515.out) hb);replace BK523:=A0_ (kB (g:=gb523) (o := .cells #[.slice Ao15 t516.length co15,.slice Ao18 t519.length co18] 25 (0,0)) (by(with_reducible repeat(first|refine kN ?_ _|refine kD ?_|refine kA ?_ _));refine blk_far ?_ NB523_531.out _;(with_reducible repeat(first|refine kN ?_ _|refine kD ?_|refine kA ?_ _));refine blk_far ?_ NB523_531.out _;(with_reducible repeat(first|refine kN ?_ _|refine kD ?_|refine kA ?_ _));exact BK523.out) hb);replace BK531:=A0_ (kB (g:=gb531) (o := .cells #[.slice Ao22 t524.length co22,.slice Ao26 t527.length co26] 25 (0,0)) (by(with_reducible repeat(first|refine kN ?_ _|refine kD ?_|refine kA ?_ _));refine blk_put (cs := #[.slice Ao22 t524.length co22,.slice none 0 0]) ?_ 1 _ rfl;(with_reducible repeat(first|refine kN ?_ _|refine kD ?_|refine kA ?_ _));refine blk_put (cs := #[.slice none 0 0,.slice none 0 0]) ?_ 0 _ rfl;(with_reducible repeat(first|refine kN ?_ _|refine kD ?_|refine kA ?_ _));exact BK531.out) hb);replace HB:=zB HB hb;(try clear hb)))
   go_meet
   case rel=>exact⟨_,(!t522),zt,H',zo,⟨zmS HO514 (fun _ hk=>⟨hk.1.1.1.1.1,⟨hk.1.1.1.1.2,⟨hk.1.1.1.2,⟨hk.1.1.2,⟨hk.1.2,hk.2⟩⟩⟩⟩⟩)⟩,⟨zmQ HO507 (fun _ hk=>⟨hk.1.1.1.1,⟨hk.1.1.1.2,⟨hk.1.1.2,⟨hk.1.2,hk.2⟩⟩⟩⟩)⟩,⟨zmR HO510 (fun _ hk=>⟨hk.1.1.1.1,⟨hk.1.1.1.2,⟨hk.1.1.2,⟨hk.1.2,hk.2⟩⟩⟩⟩)⟩,⟨Kd.Q_of_R (zmR HO518 (fun _ hk=>⟨hk.1.1.1.2,⟨hk.1.1.2,⟨hk.1.1.1.1,⟨hk.1.2,hk.2⟩⟩⟩⟩))⟩,⟨zmR HO521 (fun _ hk=>⟨hk.1.1.1.2,⟨hk.1.1.2,⟨hk.1.1.1.1,⟨hk.1.2,hk.2⟩⟩⟩⟩)⟩,⟨Kd.Q_of_R (zmR HO526 (fun _ hk=>⟨hk.1.1.1.2,⟨hk.1.1.2,⟨hk.1.2,⟨hk.2,hk.1.1.1.1⟩⟩⟩⟩))⟩,⟨zmR HO529 (fun _ hk=>⟨hk.1.1.1.2,⟨hk.1.1.2,⟨hk.1.2,⟨hk.2,hk.1.1.1.1⟩⟩⟩⟩)⟩,⟨zK_ BK515⟩,⟨zK_ BK523⟩,⟨zK_ BK531⟩,⟨zB_ HB⟩⟩
  replace c29:=Bool.eq_false_iff.mpr c29;subst c29
  rw [if_neg (show ¬ (false=true) by decide)] at H
  have H':=A0_ H;clear H;have hnb36:=NB523_515.out;have hnc36:=NB515_523.out;have hnb37:=NB523_531.out;have hnc37:=NB531_523.out;have hcz38_0:=zc0 BK523;have hcz38_1:=zc1 BK523;have hfz38_0:=kF BK523.out 0;have hfz38_1:=kF BK523.out 1;have hnb39:=NB531_515.out;have hnc39:=NB515_531.out;have hcz40_0:=zc0 BK531;have hcz40_1:=zc1 BK531;have hfz40_0:=kF BK531.out 0;have hfz40_1:=kF BK531.out 1
  go_wp2_with (first|(go_at_call 42;(with_reducible refine(laws_sameMap.calls k _ _ t516 _ _ t519 _ _ t524 _ _ t527 false _ ?side1 ?side2 ?side3 ?side4 ?side5 ?side6 ?side7 ?side8 A28.out).mono ?_);(case side1=>refine(rR (e:=3) (base:=w.heap.size) (ok:=fun k_=>((((some k_≠(.slice Ao18 t519.length co18:Value).ownBlock∧some k_≠(.slice Ao9 t505.length co9:Value).ownBlock)∧some k_≠(.slice Ao11 t508.length co11:Value).ownBlock)∧some k_≠(.slice Ao22 t524.length co22:Value).ownBlock)∧some k_≠(.slice Ao26 t527.length co26:Value).ownBlock)) (n:=t516.length) (c:=co15) ?_).2.2;exact(zF HO518 BK531 (.slice Ao22 t524.length co22) (.slice Ao26 t527.length co26) 0 1));(case side2=>exact(rR HO518.out).2.1);(case side3=>refine(rR (e:=3) (base:=w.heap.size) (ok:=fun k_=>((((some k_≠(.slice Ao15 t516.length co15:Value).ownBlock∧some k_≠(.slice Ao9 t505.length co9:Value).ownBlock)∧some k_≠(.slice Ao11 t508.length co11:Value).ownBlock)∧some k_≠(.slice Ao22 t524.length co22:Value).ownBlock)∧some k_≠(.slice Ao26 t527.length co26:Value).ownBlock)) (n:=t519.length) (c:=co18) ?_).2.2;exact(zF HO521 BK531 (.slice Ao22 t524.length co22) (.slice Ao26 t527.length co26) 0 1));(case side4=>exact(rR HO521.out).2.1);(case side5=>refine(rR (e:=3) (base:=w.heap.size) (ok:=fun k_=>((((some k_≠(.slice Ao26 t527.length co26:Value).ownBlock∧some k_≠(.slice Ao9 t505.length co9:Value).ownBlock)∧some k_≠(.slice Ao11 t508.length co11:Value).ownBlock)∧some k_≠(.slice Ao15 t516.length co15:Value).ownBlock)∧some k_≠(.slice Ao18 t519.length co18:Value).ownBlock)) (n:=t524.length) (c:=co22) ?_).2.2;exact(zF HO526 BK531 (.slice Ao22 t524.length co22) (.slice Ao26 t527.length co26) 0 1));(case side6=>exact(rR HO526.out).2.1);(case side7=>refine(rR (e:=3) (base:=w.heap.size) (ok:=fun k_=>((((some k_≠(.slice Ao22 t524.length co22:Value).ownBlock∧some k_≠(.slice Ao9 t505.length co9:Value).ownBlock)∧some k_≠(.slice Ao11 t508.length co11:Value).ownBlock)∧some k_≠(.slice Ao15 t516.length co15:Value).ownBlock)∧some k_≠(.slice Ao18 t519.length co18:Value).ownBlock)) (n:=t527.length) (c:=co26) ?_).2.2;exact(zF HO529 BK531 (.slice Ao22 t524.length co22) (.slice Ao26 t527.length co26) 0 1));(case side8=>exact(rR HO529.out).2.1);rintro e w41 ⟨rfl,hb⟩;replace HO507:=A0_ (Kd.Q_below (by(with_reducible repeat(first|apply Kd.Q_alloc|apply Kd.Q_drewN|apply Kd.Q_drew));exact(Kd.Q_mono (Kd.Q_far (p:=⟨gb531,1,none⟩) (Kd.Q_far (p:=⟨gb531,0,none⟩) (Kd.Q_types HO507.out BK531.out (by decide)) (fun _ hk=>hk.2) (.slice Ao22 t524.length co22)) (fun _ hk=>hk.2) (.slice Ao26 t527.length co26)) (fun _ h_=>h_.1))) hb);replace HO510:=A0_ (rB (zF HO510 BK531 (.slice Ao22 t524.length co22) (.slice Ao26 t527.length co26) 0 1) hb);replace HO514:=A0_ (sB (zFS HO514 BK531 (.slice Ao22 t524.length co22) (.slice Ao26 t527.length co26) 0 1) hb);replace HO518:=A0_ (rB (zF HO518 BK531 (.slice Ao22 t524.length co22) (.slice Ao26 t527.length co26) 0 1) hb);replace HO521:=A0_ (rB (zF HO521 BK531 (.slice Ao22 t524.length co22) (.slice Ao26 t527.length co26) 0 1) hb);replace HO526:=A0_ (rB (zF HO526 BK531 (.slice Ao22 t524.length co22) (.slice Ao26 t527.length co26) 0 1) hb);replace HO529:=A0_ (rB (zF HO529 BK531 (.slice Ao22 t524.length co22) (.slice Ao26 t527.length co26) 0 1) hb);replace BK515:=A0_ (kB (g:=gb515) (o := .cells #[.slice Ao9 t505.length co9,.slice Ao11 t508.length co11] 25 (0,0)) (by(with_reducible repeat(first|refine kN ?_ _|refine kD ?_|refine kA ?_ _));refine blk_far ?_ NB515_531.out _;(with_reducible repeat(first|refine kN ?_ _|refine kD ?_|refine kA ?_ _));refine blk_far ?_ NB515_531.out _;(with_reducible repeat(first|refine kN ?_ _|refine kD ?_|refine kA ?_ _));exact BK515.out) hb);replace BK523:=A0_ (kB (g:=gb523) (o := .cells #[.slice Ao15 t516.length co15,.slice Ao18 t519.length co18] 25 (0,0)) (by(with_reducible repeat(first|refine kN ?_ _|refine kD ?_|refine kA ?_ _));refine blk_far ?_ NB523_531.out _;(with_reducible repeat(first|refine kN ?_ _|refine kD ?_|refine kA ?_ _));refine blk_far ?_ NB523_531.out _;(with_reducible repeat(first|refine kN ?_ _|refine kD ?_|refine kA ?_ _));exact BK523.out) hb);replace BK531:=A0_ (kB (g:=gb531) (o := .cells #[.slice Ao22 t524.length co22,.slice Ao26 t527.length co26] 25 (0,0)) (by(with_reducible repeat(first|refine kN ?_ _|refine kD ?_|refine kA ?_ _));refine blk_put (cs := #[.slice Ao22 t524.length co22,.slice none 0 0]) ?_ 1 _ rfl;(with_reducible repeat(first|refine kN ?_ _|refine kD ?_|refine kA ?_ _));refine blk_put (cs := #[.slice none 0 0,.slice none 0 0]) ?_ 0 _ rfl;(with_reducible repeat(first|refine kN ?_ _|refine kD ?_|refine kA ?_ _));exact BK531.out) hb);replace HB:=zB HB hb;(try clear hb)))
  go_meet
  case rel=>exact⟨_,(true),zt,H',zo,⟨zmS HO514 (fun _ hk=>⟨hk.1.1.1.1.1,⟨hk.1.1.1.1.2,⟨hk.1.1.1.2,⟨hk.1.1.2,⟨hk.1.2,hk.2⟩⟩⟩⟩⟩)⟩,⟨zmQ HO507 (fun _ hk=>⟨hk.1.1.1.1,⟨hk.1.1.1.2,⟨hk.1.1.2,⟨hk.1.2,hk.2⟩⟩⟩⟩)⟩,⟨zmR HO510 (fun _ hk=>⟨hk.1.1.1.1,⟨hk.1.1.1.2,⟨hk.1.1.2,⟨hk.1.2,hk.2⟩⟩⟩⟩)⟩,⟨Kd.Q_of_R (zmR HO518 (fun _ hk=>⟨hk.1.1.1.2,⟨hk.1.1.2,⟨hk.1.1.1.1,⟨hk.1.2,hk.2⟩⟩⟩⟩))⟩,⟨zmR HO521 (fun _ hk=>⟨hk.1.1.1.2,⟨hk.1.1.2,⟨hk.1.1.1.1,⟨hk.1.2,hk.2⟩⟩⟩⟩)⟩,⟨Kd.Q_of_R (zmR HO526 (fun _ hk=>⟨hk.1.1.1.2,⟨hk.1.1.2,⟨hk.1.2,⟨hk.2,hk.1.1.1.1⟩⟩⟩⟩))⟩,⟨zmR HO529 (fun _ hk=>⟨hk.1.1.1.2,⟨hk.1.1.2,⟨hk.1.2,⟨hk.2,hk.1.1.1.1⟩⟩⟩⟩)⟩,⟨zK_ BK515⟩,⟨zK_ BK523⟩,⟨zK_ BK531⟩,⟨zB_ HB⟩⟩
 case rest =>
  clear HC6;(try clear c1);(try clear c2);(try clear c2b0);(try clear c2b1);(try clear p2);(try clear c3);(try clear c4);(try clear c9);(try clear c16);(try clear c20);(try clear c23);(try clear c24);(try clear c27);(try clear c27b0);(try clear c27b1);(try clear c27b2);(try clear c29);(try clear c30);(try clear c31);(try clear c33);(try clear c36);(try clear c37);(try clear c39);(try clear c40);(try clear c41);(try clear hcz10_0);(try clear hcz10_1);(try clear hcz17_0);(try clear hcz17_1);(try clear hcz19_0);(try clear hcz19_1);(try clear hcz25_0);(try clear hcz25_1);(try clear hcz32_0);(try clear hcz32_1);(try clear hcz34_0);(try clear hcz34_1);(try clear hcz38_0);(try clear hcz38_1);(try clear hcz40_0);(try clear hcz40_1);(try clear hfz10_0);(try clear hfz10_1);(try clear hfz17_0);(try clear hfz17_1);(try clear hfz19_0);(try clear hfz19_1);(try clear hfz25_0);(try clear hfz25_1);(try clear hfz32_0);(try clear hfz32_1);(try clear hfz34_0);(try clear hfz34_1);(try clear hfz38_0);(try clear hfz38_1);(try clear hfz40_0);(try clear hfz40_1);obtain⟨kq,x54_5,rfl,HA,HJ5,HO_5,HO_516000,HO_516001,HO_524000,HO_524001,HO_532000,HO_532001,BK515,BK523,BK531,HB⟩:=hcut
  cases kq with
  | zero=>exact absurd HA.out (by simp [laws_FnCover.j0])
  | succ kj5 =>
   have H:=HA.out;clear HA;simp only [laws_FnCover.j0] at H
   by_cases c42:x54_5=true
   ·subst c42
    rw [if_pos rfl] at H
    by_cases c43:(t522 == t530)=true
    ·rw [if_pos c43] at H
     have c43b0:(t522 == t530)=true:=c43
     (try(have c43b1:decide (t522=t530)=true:=by simpa using c43))
     (try(have c43b2:(t522 == t530)=true:=by simpa using c43))
     clear c43;obtain⟨t533,A44,H⟩:=zbind H;obtain rfl:=sI H;have hnb45:=NB523_515.out;have hnc45:=NB515_523.out;have hnb46:=NB523_531.out;have hnc46:=NB531_523.out;have hcz47_0:=zc0 BK523;have hcz47_1:=zc1 BK523;have hfz47_0:=kF BK523.out 0;have hfz47_1:=kF BK523.out 1;have hnb48:=NB531_515.out;have hnc48:=NB515_531.out;have hcz49_0:=zc0 BK531;have hcz49_1:=zc1 BK531;have hfz49_0:=kF BK531.out 0;have hfz49_1:=kF BK531.out 1
     go_wp2_with (first|(go_at_call 42;(with_reducible refine(laws_sameMap.calls kj5 _ _ t516 _ _ t519 _ _ t524 _ _ t527 t533 _ ?side1 ?side2 ?side3 ?side4 ?side5 ?side6 ?side7 ?side8 A44.out).mono ?_);(case side1=>exact zDQ HO_524000);(case side2=>exact(Kd.Q_reads' HO_524000.out).2.1);(case side3=>exact zD HO_524001);(case side4=>exact(rR HO_524001.out).2.1);(case side5=>exact zDQ HO_532000);(case side6=>exact(Kd.Q_reads' HO_532000.out).2.1);(case side7=>exact zD HO_532001);(case side8=>exact(rR HO_532001.out).2.1);rintro e w50 ⟨rfl,hb⟩;replace HO_5:=zS HO_5 hb;replace HO_516000:=A0_ (Kd.Q_below (zQ_ HO_516000) hb);replace HO_516001:=zR HO_516001 hb;replace HO_524000:=A0_ (Kd.Q_below (zQ_ HO_524000) hb);replace HO_524001:=zR HO_524001 hb;replace HO_532000:=A0_ (Kd.Q_below (zQ_ HO_532000) hb);replace HO_532001:=zR HO_532001 hb;replace BK515:=zK BK515 hb;replace BK523:=zK BK523 hb;replace BK531:=zK BK531 hb;replace HB:=zB HB hb;(try clear hb)))
     go_ret
     exact⟨by first|rfl|(simp [*] <;> rfl),zB_ HB⟩
    rw [if_neg c43] at H
    have c43b0:(t522 == t530)=false:=by simpa using c43
    (try(have c43b1:decide (t522=t530)=false:=by simpa using c43))
    (try(have c43b2:(t522 == t530)=false:=by simpa using c43))
    (try(have c43b3 : ¬ (t522=t530):=by simpa using c43))
    clear c43;obtain rfl:=sI H
    go_wp2
    go_ret
    exact⟨by first|rfl|(simp [*] <;> rfl),zB_ HB⟩
   replace c42:=Bool.eq_false_iff.mpr c42;subst c42
   rw [if_neg (show ¬ (false=true) by decide)] at H
   obtain⟨⟨t534,t537⟩,A51,H⟩:=zbind H;dsimp only at H;obtain⟨⟨t538,t541⟩,A52,H⟩:=zbind H;dsimp only at H;obtain⟨⟨t542,t545⟩,A53,H⟩:=zbind H;dsimp only at H;obtain⟨⟨t546,t549⟩,A54,H⟩:=zbind H;dsimp only at H;have H':=A0_ H;clear H;have hnb55:=NB515_523.out;have hnc55:=NB523_515.out;have hnb56:=NB515_531.out;have hnc56:=NB531_515.out;have hcz57_0:=zc0 BK515;have hcz57_1:=zc1 BK515;have hfz57_0:=kF BK515.out 0;have hfz57_1:=kF BK515.out 1
   go_wp2_with (first|((with_reducible refine gC (f:=25) rfl ?_);refine zJ (some 65) Try.func25 #[.agg #[.slice Ao9 t505.length co9,.slice Ao11 t508.length co11]] ?_;(with_reducible refine(impl_MapCounts.calls kj5 _ _ t505 _ _ t508 t534 t537 _ ?side1 ?side2 ?side3 ?side4 A51.out).mono ?_);(case side1=>exact zDQ HO_516000);(case side2=>exact(Kd.Q_reads' HO_516000.out).2.1);(case side3=>exact zD HO_516001);(case side4=>exact(rR HO_516001.out).2.1);rintro e w58 ⟨v535,rfl,ho0,hb⟩;refine⟨_,rfl,?_⟩;replace HO_5:=A0_ (Kd.S_elder' (zS_ HO_5) (Kd.R_base ho0) hb);have HO536:=A0_ (rL (Kd.R_new' (Kd.R_new' (Kd.R_new' (Kd.R_new' (Kd.R_new' (Kd.R_new' ho0 (Kd.Q_lt (zQ_ HO_516000))) (rX (zR_ HO_516001))) (Kd.Q_lt (zQ_ HO_524000))) (rX (zR_ HO_524001))) (Kd.Q_lt (zQ_ HO_532000))) (rX (zR_ HO_532001))) (bZ (zB_ HB)));replace HO_516000:=A0_ (Kd.Q_elder' (zQ_ HO_516000) (Kd.R_base ho0) hb);replace HO_516001:=A0_ (Kd.R_elder' (zR_ HO_516001) (Kd.R_base ho0) hb);replace HO_524000:=A0_ (Kd.Q_elder' (zQ_ HO_524000) (Kd.R_base ho0) hb);replace HO_524001:=A0_ (Kd.R_elder' (zR_ HO_524001) (Kd.R_base ho0) hb);replace HO_532000:=A0_ (Kd.Q_elder' (zQ_ HO_532000) (Kd.R_base ho0) hb);replace HO_532001:=A0_ (Kd.R_elder' (zR_ HO_532001) (Kd.R_base ho0) hb);replace BK515:=zK BK515 hb;replace BK523:=zK BK523 hb;replace BK531:=zK BK531 hb;replace HB:=zB HB hb;(try clear hb);(try clear ho0);have hnb59:=NB523_531.out;have hnc59:=NB531_523.out;have hcz60_0:=zc0 BK523;have hcz60_1:=zc1 BK523;have hfz60_0:=kF BK523.out 0;have hfz60_1:=kF BK523.out 1)|((with_reducible refine gC (f:=25) rfl ?_);refine zJ (some 70) Try.func25 #[.agg #[.slice Ao15 t516.length co15,.slice Ao18 t519.length co18]] ?_;(with_reducible refine(impl_MapCounts.calls kj5 _ _ t516 _ _ t519 t538 t541 _ ?side1 ?side2 ?side3 ?side4 A52.out).mono ?_);(case side1=>exact zDQ HO_524000);(case side2=>exact(Kd.Q_reads' HO_524000.out).2.1);(case side3=>exact zD HO_524001);(case side4=>exact(rR HO_524001.out).2.1);rintro e w61 ⟨v539,rfl,ho0,hb⟩;refine⟨_,rfl,?_⟩;replace HO_5:=A0_ (Kd.S_elder' (zS_ HO_5) (Kd.R_base ho0) hb);have HO540:=A0_ (rL (Kd.R_new' (Kd.R_new' (Kd.R_new' (Kd.R_new' (Kd.R_new' (Kd.R_new' (Kd.R_new' ho0 (Kd.Q_lt (zQ_ HO_516000))) (rX (zR_ HO_516001))) (Kd.Q_lt (zQ_ HO_524000))) (rX (zR_ HO_524001))) (Kd.Q_lt (zQ_ HO_532000))) (rX (zR_ HO_532001))) (rX (zR_ HO536))) (bZ (zB_ HB)));replace HO_516000:=A0_ (Kd.Q_elder' (zQ_ HO_516000) (Kd.R_base ho0) hb);replace HO_516001:=A0_ (Kd.R_elder' (zR_ HO_516001) (Kd.R_base ho0) hb);replace HO_524000:=A0_ (Kd.Q_elder' (zQ_ HO_524000) (Kd.R_base ho0) hb);replace HO_524001:=A0_ (Kd.R_elder' (zR_ HO_524001) (Kd.R_base ho0) hb);replace HO_532000:=A0_ (Kd.Q_elder' (zQ_ HO_532000) (Kd.R_base ho0) hb);replace HO_532001:=A0_ (Kd.R_elder' (zR_ HO_532001) (Kd.R_base ho0) hb);replace HO536:=A0_ (Kd.R_elder' (zR_ HO536) (Kd.R_base ho0) hb);replace BK515:=zK BK515 hb;replace BK523:=zK BK523 hb;replace BK531:=zK BK531 hb;replace HB:=zB HB hb;(try clear hb);(try clear ho0);have hcz62_0:=zc0 BK515;have hcz62_1:=zc1 BK515;have hfz62_0:=kF BK515.out 0;have hfz62_1:=kF BK515.out 1)|((with_reducible refine gC (f:=43) rfl ?_);refine zJ (some 75) Try.func43 #[.agg #[.slice Ao9 t505.length co9,.slice Ao11 t508.length co11]] ?_;(with_reducible refine(impl_MapDegrees.calls kj5 _ _ t505 _ _ t508 t542 t545 _ ?side1 ?side2 ?side3 ?side4 A53.out).mono ?_);(case side1=>exact zDQ HO_516000);(case side2=>exact(Kd.Q_reads' HO_516000.out).2.1);(case side3=>exact zD HO_516001);(case side4=>exact(rR HO_516001.out).2.1);rintro e w63 ⟨v543,rfl,ho0,hb⟩;refine⟨_,rfl,?_⟩;replace HO_5:=A0_ (Kd.S_elder' (zS_ HO_5) (Kd.R_base ho0) hb);have HO544:=A0_ (rL (Kd.R_new' (Kd.R_new' (Kd.R_new' (Kd.R_new' (Kd.R_new' (Kd.R_new' (Kd.R_new' (Kd.R_new' ho0 (Kd.Q_lt (zQ_ HO_516000))) (rX (zR_ HO_516001))) (Kd.Q_lt (zQ_ HO_524000))) (rX (zR_ HO_524001))) (Kd.Q_lt (zQ_ HO_532000))) (rX (zR_ HO_532001))) (rX (zR_ HO536))) (rX (zR_ HO540))) (bZ (zB_ HB)));replace HO_516000:=A0_ (Kd.Q_elder' (zQ_ HO_516000) (Kd.R_base ho0) hb);replace HO_516001:=A0_ (Kd.R_elder' (zR_ HO_516001) (Kd.R_base ho0) hb);replace HO_524000:=A0_ (Kd.Q_elder' (zQ_ HO_524000) (Kd.R_base ho0) hb);replace HO_524001:=A0_ (Kd.R_elder' (zR_ HO_524001) (Kd.R_base ho0) hb);replace HO_532000:=A0_ (Kd.Q_elder' (zQ_ HO_532000) (Kd.R_base ho0) hb);replace HO_532001:=A0_ (Kd.R_elder' (zR_ HO_532001) (Kd.R_base ho0) hb);replace HO536:=A0_ (Kd.R_elder' (zR_ HO536) (Kd.R_base ho0) hb);replace HO540:=A0_ (Kd.R_elder' (zR_ HO540) (Kd.R_base ho0) hb);replace BK515:=zK BK515 hb;replace BK523:=zK BK523 hb;replace BK531:=zK BK531 hb;replace HB:=zB HB hb;(try clear hb);(try clear ho0);have hcz64_0:=zc0 BK523;have hcz64_1:=zc1 BK523;have hfz64_0:=kF BK523.out 0;have hfz64_1:=kF BK523.out 1)|((with_reducible refine gC (f:=43) rfl ?_);refine zJ (some 80) Try.func43 #[.agg #[.slice Ao15 t516.length co15,.slice Ao18 t519.length co18]] ?_;(with_reducible refine(impl_MapDegrees.calls kj5 _ _ t516 _ _ t519 t546 t549 _ ?side1 ?side2 ?side3 ?side4 A54.out).mono ?_);(case side1=>exact zDQ HO_524000);(case side2=>exact(Kd.Q_reads' HO_524000.out).2.1);(case side3=>exact zD HO_524001);(case side4=>exact(rR HO_524001.out).2.1);rintro e w65 ⟨v547,rfl,ho0,hb⟩;refine⟨_,rfl,?_⟩;replace HO_5:=A0_ (Kd.S_elder' (zS_ HO_5) (Kd.R_base ho0) hb);have HO548:=A0_ (rL (Kd.R_new' (Kd.R_new' (Kd.R_new' (Kd.R_new' (Kd.R_new' (Kd.R_new' (Kd.R_new' (Kd.R_new' (Kd.R_new' ho0 (Kd.Q_lt (zQ_ HO_516000))) (rX (zR_ HO_516001))) (Kd.Q_lt (zQ_ HO_524000))) (rX (zR_ HO_524001))) (Kd.Q_lt (zQ_ HO_532000))) (rX (zR_ HO_532001))) (rX (zR_ HO536))) (rX (zR_ HO540))) (rX (zR_ HO544))) (bZ (zB_ HB)));replace HO_516000:=A0_ (Kd.Q_elder' (zQ_ HO_516000) (Kd.R_base ho0) hb);replace HO_516001:=A0_ (Kd.R_elder' (zR_ HO_516001) (Kd.R_base ho0) hb);replace HO_524000:=A0_ (Kd.Q_elder' (zQ_ HO_524000) (Kd.R_base ho0) hb);replace HO_524001:=A0_ (Kd.R_elder' (zR_ HO_524001) (Kd.R_base ho0) hb);replace HO_532000:=A0_ (Kd.Q_elder' (zQ_ HO_532000) (Kd.R_base ho0) hb);replace HO_532001:=A0_ (Kd.R_elder' (zR_ HO_532001) (Kd.R_base ho0) hb);replace HO536:=A0_ (Kd.R_elder' (zR_ HO536) (Kd.R_base ho0) hb);replace HO540:=A0_ (Kd.R_elder' (zR_ HO540) (Kd.R_base ho0) hb);replace HO544:=A0_ (Kd.R_elder' (zR_ HO544) (Kd.R_base ho0) hb);replace BK515:=zK BK515 hb;replace BK523:=zK BK523 hb;replace BK531:=zK BK531 hb;replace HB:=zB HB hb;(try clear hb);(try clear ho0)))
   go_loopg [18] kj5 (fun kq v18 w' => ∃ (x18_2:Int),v18 = .int .i64 x18_2∧Aside0 (laws_FnCover.l0 kq t511 t512 t534 t537 t538 t541 t542 t545 t546 t549 x18_2 t505 t508=some r)∧Aside0 (kq≤kj5)∧Aside0 (Kd.S (Kd.slice 3 (Kd.int .i64)) 23 w' w.heap.size (fun k_=>some k_≠(v535:Value).ownBlock∧some k_≠(v539:Value).ownBlock∧some k_≠(v543:Value).ownBlock∧some k_≠(v547:Value).ownBlock∧some k_≠((.slice Ao9 t505.length co9):Value).ownBlock∧some k_≠((.slice Ao11 t508.length co11):Value).ownBlock∧some k_≠((.slice Ao15 t516.length co15):Value).ownBlock∧some k_≠((.slice Ao18 t519.length co18):Value).ownBlock∧some k_≠((.slice Ao22 t524.length co22):Value).ownBlock∧some k_≠((.slice Ao26 t527.length co26):Value).ownBlock) (.slice Ao12 t512.length co12) t512)∧Aside0 (Kd.R (Kd.int .i64) 3 w' w.heap.size (fun k_=>some k_≠(v539:Value).ownBlock∧some k_≠(v543:Value).ownBlock∧some k_≠(v547:Value).ownBlock∧some k_≠((.slice Ao9 t505.length co9):Value).ownBlock∧some k_≠((.slice Ao11 t508.length co11):Value).ownBlock∧some k_≠((.slice Ao15 t516.length co15):Value).ownBlock∧some k_≠((.slice Ao18 t519.length co18):Value).ownBlock∧some k_≠((.slice Ao22 t524.length co22):Value).ownBlock∧some k_≠((.slice Ao26 t527.length co26):Value).ownBlock) v535 t534)∧Aside0 (Kd.R (Kd.int .i64) 3 w' w.heap.size (fun k_=>some k_≠(v535:Value).ownBlock∧some k_≠(v543:Value).ownBlock∧some k_≠(v547:Value).ownBlock∧some k_≠((.slice Ao9 t505.length co9):Value).ownBlock∧some k_≠((.slice Ao11 t508.length co11):Value).ownBlock∧some k_≠((.slice Ao15 t516.length co15):Value).ownBlock∧some k_≠((.slice Ao18 t519.length co18):Value).ownBlock∧some k_≠((.slice Ao22 t524.length co22):Value).ownBlock∧some k_≠((.slice Ao26 t527.length co26):Value).ownBlock) v539 t538)∧Aside0 (Kd.R (Kd.int .i64) 3 w' w.heap.size (fun k_=>some k_≠(v535:Value).ownBlock∧some k_≠(v539:Value).ownBlock∧some k_≠(v547:Value).ownBlock∧some k_≠((.slice Ao9 t505.length co9):Value).ownBlock∧some k_≠((.slice Ao11 t508.length co11):Value).ownBlock∧some k_≠((.slice Ao15 t516.length co15):Value).ownBlock∧some k_≠((.slice Ao18 t519.length co18):Value).ownBlock∧some k_≠((.slice Ao22 t524.length co22):Value).ownBlock∧some k_≠((.slice Ao26 t527.length co26):Value).ownBlock) v543 t542)∧Aside0 (Kd.R (Kd.int .i64) 3 w' w.heap.size (fun k_=>some k_≠(v535:Value).ownBlock∧some k_≠(v539:Value).ownBlock∧some k_≠(v543:Value).ownBlock∧some k_≠((.slice Ao9 t505.length co9):Value).ownBlock∧some k_≠((.slice Ao11 t508.length co11):Value).ownBlock∧some k_≠((.slice Ao15 t516.length co15):Value).ownBlock∧some k_≠((.slice Ao18 t519.length co18):Value).ownBlock∧some k_≠((.slice Ao22 t524.length co22):Value).ownBlock∧some k_≠((.slice Ao26 t527.length co26):Value).ownBlock) v547 t546)∧Aside0 (Kd.Q (Kd.int .i64) 3 w' w.heap.size (fun k_=>some k_≠(v535:Value).ownBlock∧some k_≠(v539:Value).ownBlock∧some k_≠(v543:Value).ownBlock∧some k_≠(v547:Value).ownBlock∧some k_≠((.slice Ao11 t508.length co11):Value).ownBlock∧some k_≠((.slice Ao15 t516.length co15):Value).ownBlock∧some k_≠((.slice Ao18 t519.length co18):Value).ownBlock∧some k_≠((.slice Ao22 t524.length co22):Value).ownBlock∧some k_≠((.slice Ao26 t527.length co26):Value).ownBlock) (.slice Ao9 t505.length co9) t505)∧Aside0 (Kd.R (Kd.int .i64) 3 w' w.heap.size (fun k_=>some k_≠(v535:Value).ownBlock∧some k_≠(v539:Value).ownBlock∧some k_≠(v543:Value).ownBlock∧some k_≠(v547:Value).ownBlock∧some k_≠((.slice Ao9 t505.length co9):Value).ownBlock∧some k_≠((.slice Ao15 t516.length co15):Value).ownBlock∧some k_≠((.slice Ao18 t519.length co18):Value).ownBlock∧some k_≠((.slice Ao22 t524.length co22):Value).ownBlock∧some k_≠((.slice Ao26 t527.length co26):Value).ownBlock) (.slice Ao11 t508.length co11) t508)∧Aside0 (Kd.Q (Kd.int .i64) 3 w' w.heap.size (fun k_=>some k_≠(v535:Value).ownBlock∧some k_≠(v539:Value).ownBlock∧some k_≠(v543:Value).ownBlock∧some k_≠(v547:Value).ownBlock∧some k_≠((.slice Ao9 t505.length co9):Value).ownBlock∧some k_≠((.slice Ao11 t508.length co11):Value).ownBlock∧some k_≠((.slice Ao18 t519.length co18):Value).ownBlock∧some k_≠((.slice Ao22 t524.length co22):Value).ownBlock∧some k_≠((.slice Ao26 t527.length co26):Value).ownBlock) (.slice Ao15 t516.length co15) t516)∧Aside0 (Kd.R (Kd.int .i64) 3 w' w.heap.size (fun k_=>some k_≠(v535:Value).ownBlock∧some k_≠(v539:Value).ownBlock∧some k_≠(v543:Value).ownBlock∧some k_≠(v547:Value).ownBlock∧some k_≠((.slice Ao9 t505.length co9):Value).ownBlock∧some k_≠((.slice Ao11 t508.length co11):Value).ownBlock∧some k_≠((.slice Ao15 t516.length co15):Value).ownBlock∧some k_≠((.slice Ao22 t524.length co22):Value).ownBlock∧some k_≠((.slice Ao26 t527.length co26):Value).ownBlock) (.slice Ao18 t519.length co18) t519)∧Aside0 (Kd.Q (Kd.int .i64) 3 w' w.heap.size (fun k_=>some k_≠(v535:Value).ownBlock∧some k_≠(v539:Value).ownBlock∧some k_≠(v543:Value).ownBlock∧some k_≠(v547:Value).ownBlock∧some k_≠((.slice Ao9 t505.length co9):Value).ownBlock∧some k_≠((.slice Ao11 t508.length co11):Value).ownBlock∧some k_≠((.slice Ao15 t516.length co15):Value).ownBlock∧some k_≠((.slice Ao18 t519.length co18):Value).ownBlock∧some k_≠((.slice Ao26 t527.length co26):Value).ownBlock) (.slice Ao22 t524.length co22) t524)∧Aside0 (Kd.R (Kd.int .i64) 3 w' w.heap.size (fun k_=>some k_≠(v535:Value).ownBlock∧some k_≠(v539:Value).ownBlock∧some k_≠(v543:Value).ownBlock∧some k_≠(v547:Value).ownBlock∧some k_≠((.slice Ao9 t505.length co9):Value).ownBlock∧some k_≠((.slice Ao11 t508.length co11):Value).ownBlock∧some k_≠((.slice Ao15 t516.length co15):Value).ownBlock∧some k_≠((.slice Ao18 t519.length co18):Value).ownBlock∧some k_≠((.slice Ao22 t524.length co22):Value).ownBlock) (.slice Ao26 t527.length co26) t527)∧Aside0 (w'.heap[gb515]? = some (.cells #[(.slice Ao9 t505.length co9),(.slice Ao11 t508.length co11)] 25 (0,0)))∧Aside0 (w'.heap[gb523]? = some (.cells #[(.slice Ao15 t516.length co15),(.slice Ao18 t519.length co18)] 25 (0,0)))∧Aside0 (w'.heap[gb531]? = some (.cells #[(.slice Ao22 t524.length co22),(.slice Ao26 t527.length co26)] 25 (0,0)))∧Aside0 (Below w.heap.size w w'))
   case atStart=>exact⟨(0),zt,H',⟨Nat.le_refl _⟩,⟨zmS HO_5 (fun _ hk=>⟨hk.1.1.1.2,⟨hk.1.1.2,⟨hk.1.2,⟨hk.2,⟨hk.1.1.1.1.1,⟨hk.1.1.1.1.2.1,⟨hk.1.1.1.1.2.2.1,⟨hk.1.1.1.1.2.2.2.1,⟨hk.1.1.1.1.2.2.2.2.1,hk.1.1.1.1.2.2.2.2.2⟩⟩⟩⟩⟩⟩⟩⟩⟩)⟩,⟨zmR HO536 (fun _ hk=>⟨hk.1.1.2,⟨hk.1.2,⟨hk.2,⟨hk.1.1.1.1.1.1.1.1.2,⟨hk.1.1.1.1.1.1.1.2,⟨hk.1.1.1.1.1.1.2,⟨hk.1.1.1.1.1.2,⟨hk.1.1.1.1.2,hk.1.1.1.2⟩⟩⟩⟩⟩⟩⟩⟩)⟩,⟨zmR HO540 (fun _ hk=>⟨hk.1.1.2,⟨hk.1.2,⟨hk.2,⟨hk.1.1.1.1.1.1.1.1.2,⟨hk.1.1.1.1.1.1.1.2,⟨hk.1.1.1.1.1.1.2,⟨hk.1.1.1.1.1.2,⟨hk.1.1.1.1.2,hk.1.1.1.2⟩⟩⟩⟩⟩⟩⟩⟩)⟩,⟨zmR HO544 (fun _ hk=>⟨hk.1.1.2,⟨hk.1.2,⟨hk.2,⟨hk.1.1.1.1.1.1.1.1.2,⟨hk.1.1.1.1.1.1.1.2,⟨hk.1.1.1.1.1.1.2,⟨hk.1.1.1.1.1.2,⟨hk.1.1.1.1.2,hk.1.1.1.2⟩⟩⟩⟩⟩⟩⟩⟩)⟩,⟨zmR HO548 (fun _ hk=>⟨hk.1.1.2,⟨hk.1.2,⟨hk.2,⟨hk.1.1.1.1.1.1.1.1.2,⟨hk.1.1.1.1.1.1.1.2,⟨hk.1.1.1.1.1.1.2,⟨hk.1.1.1.1.1.2,⟨hk.1.1.1.1.2,hk.1.1.1.2⟩⟩⟩⟩⟩⟩⟩⟩)⟩,⟨zmQ HO_516000 (fun _ hk=>⟨hk.1.1.1.2,⟨hk.1.1.2,⟨hk.1.2,⟨hk.2,⟨hk.1.1.1.1.1,⟨hk.1.1.1.1.2.1,⟨hk.1.1.1.1.2.2.1,⟨hk.1.1.1.1.2.2.2.1,hk.1.1.1.1.2.2.2.2⟩⟩⟩⟩⟩⟩⟩⟩)⟩,⟨zmR HO_516001 (fun _ hk=>⟨hk.1.1.1.2,⟨hk.1.1.2,⟨hk.1.2,⟨hk.2,⟨hk.1.1.1.1.1,⟨hk.1.1.1.1.2.1,⟨hk.1.1.1.1.2.2.1,⟨hk.1.1.1.1.2.2.2.1,hk.1.1.1.1.2.2.2.2⟩⟩⟩⟩⟩⟩⟩⟩)⟩,⟨zmQ HO_524000 (fun _ hk=>⟨hk.1.1.1.2,⟨hk.1.1.2,⟨hk.1.2,⟨hk.2,⟨hk.1.1.1.1.1,⟨hk.1.1.1.1.2.1,⟨hk.1.1.1.1.2.2.1,⟨hk.1.1.1.1.2.2.2.1,hk.1.1.1.1.2.2.2.2⟩⟩⟩⟩⟩⟩⟩⟩)⟩,⟨zmR HO_524001 (fun _ hk=>⟨hk.1.1.1.2,⟨hk.1.1.2,⟨hk.1.2,⟨hk.2,⟨hk.1.1.1.1.1,⟨hk.1.1.1.1.2.1,⟨hk.1.1.1.1.2.2.1,⟨hk.1.1.1.1.2.2.2.1,hk.1.1.1.1.2.2.2.2⟩⟩⟩⟩⟩⟩⟩⟩)⟩,⟨zmQ HO_532000 (fun _ hk=>⟨hk.1.1.1.2,⟨hk.1.1.2,⟨hk.1.2,⟨hk.2,⟨hk.1.1.1.1.1,⟨hk.1.1.1.1.2.1,⟨hk.1.1.1.1.2.2.1,⟨hk.1.1.1.1.2.2.2.1,hk.1.1.1.1.2.2.2.2⟩⟩⟩⟩⟩⟩⟩⟩)⟩,⟨zmR HO_532001 (fun _ hk=>⟨hk.1.1.1.2,⟨hk.1.1.2,⟨hk.1.2,⟨hk.2,⟨hk.1.1.1.1.1,⟨hk.1.1.1.1.2.1,⟨hk.1.1.1.1.2.2.1,⟨hk.1.1.1.1.2.2.2.1,hk.1.1.1.1.2.2.2.2⟩⟩⟩⟩⟩⟩⟩⟩)⟩,⟨zK_ BK515⟩,⟨zK_ BK523⟩,⟨zK_ BK531⟩,⟨zB_ HB⟩⟩
   case round =>
    clear H';(try clear c1);(try clear c2);(try clear c2b0);(try clear c2b1);(try clear p2);(try clear c3);(try clear c4);(try clear c5);(try clear c9);(try clear c16);(try clear c20);(try clear c23);(try clear c24);(try clear c25);(try clear c27);(try clear c27b0);(try clear c27b1);(try clear c27b2);(try clear c29);(try clear c30);(try clear c31);(try clear c33);(try clear c36);(try clear c37);(try clear c39);(try clear c40);(try clear c41);(try clear c42);(try clear c43);(try clear c43b0);(try clear c43b1);(try clear c43b2);(try clear c45);(try clear c46);(try clear c48);(try clear c55);(try clear c56);(try clear c59);(try clear hcz10_0);(try clear hcz10_1);(try clear hcz17_0);(try clear hcz17_1);(try clear hcz19_0);(try clear hcz19_1);(try clear hcz25_0);(try clear hcz25_1);(try clear hcz32_0);(try clear hcz32_1);(try clear hcz34_0);(try clear hcz34_1);(try clear hcz38_0);(try clear hcz38_1);(try clear hcz40_0);(try clear hcz40_1);(try clear hcz47_0);(try clear hcz47_1);(try clear hcz49_0);(try clear hcz49_1);(try clear hcz57_0);(try clear hcz57_1);(try clear hcz60_0);(try clear hcz60_1);(try clear hcz62_0);(try clear hcz62_1);(try clear hcz64_0);(try clear hcz64_1);(try clear hfz10_0);(try clear hfz10_1);(try clear hfz17_0);(try clear hfz17_1);(try clear hfz19_0);(try clear hfz19_1);(try clear hfz25_0);(try clear hfz25_1);(try clear hfz32_0);(try clear hfz32_1);(try clear hfz34_0);(try clear hfz34_1);(try clear hfz38_0);(try clear hfz38_1);(try clear hfz40_0);(try clear hfz40_1);(try clear hfz47_0);(try clear hfz47_1);(try clear hfz49_0);(try clear hfz49_1);(try clear hfz57_0);(try clear hfz57_1);(try clear hfz60_0);(try clear hfz60_1);(try clear hfz62_0);(try clear hfz62_1);(try clear hfz64_0);(try clear hfz64_1);(try clear p2);obtain⟨x18_2,rfl,HA,HK2,HO_5,HO_10,HO_12,HO_14,HO_16,HO_516000,HO_516001,HO_524000,HO_524001,HO_532000,HO_532001,BK515,BK523,BK531,HB⟩:=hrel
    cases gk with
    | zero=>exact absurd HA.out (by simp [laws_FnCover.l0])
    | succ k2 =>
     have H:=HA.out;clear HA;simp only [laws_FnCover.l0] at H
     by_cases c66:x18_2<(t546.length:Int)
     ·rw [if_pos c66] at H
      have c66b0:=dT c66;clear c66
      have c67:=zpc H;replace H:=zph H
      have c67b0:=dT c67;clear c67
      have c68:=zqc H;replace H:=zqh H
      have c68b0:(t511 == 0)=false:=beq_eq_false_iff_ne.mpr c68
      have c68b1:(t511 != 0)=true:=bne_iff_ne.mpr c68
      obtain⟨ji69,hji69⟩ : ∃ j_:Int,(wrap64 (Int.tdiv x18_2 t511))=j_:=⟨_,rfl⟩
      replace H:(if 0≤(ji69) then (if (ji69)<(t542.length:Int) then (if (rd t546 x18_2)=(rd t542 (ji69)) then (laws_FnCover.l0 k2 t511 t512 t534 t537 t538 t541 t542 t545 t546 t549 (wrap64 (x18_2+1)) t505 t508) else (some false)) else (none)) else (none))=some r:=by first|(rw [hji69] at H;exact H)|(simp only [hji69] at H ⊢;exact H)
      have hji69w:(IntKind.i64.wrap (Int.tdiv x18_2 t511))=ji69:=(i64_w _).trans hji69
      have c70:=zpc H;replace H:=zph H
      have c70b0:=dT c70;clear c70
      have c71:=zpc H;replace H:=zph H
      have c71b0:=dT c71;clear c71
      by_cases c72:(rd t546 x18_2)=(rd t542 (ji69))
      ·rw [if_pos c72] at H
       have c72b0:((rd t546 x18_2) == (rd t542 (ji69)))=true:=beq_iff_eq.mpr c72
       have c72b1:((rd t546 x18_2) != (rd t542 (ji69)))=false:=bne_eq_false_iff_eq.mpr c72
       clear c72;have H':=A0_ H;clear H;obtain⟨Ao73,co73,eo73⟩:=rS HO_16.out;subst eo73
       try go_wp2
       replace HO_5:=A0_ (sD HO_5.out)
       replace HO_10:=A0_ (rD HO_10.out)
       replace HO_12:=A0_ (rD HO_12.out)
       replace HO_14:=A0_ (rD HO_14.out)
       replace HO_16:=A0_ (rD HO_16.out)
       replace HO_516000:=A0_ (Kd.Q_drew HO_516000.out)
       replace HO_516001:=A0_ (rD HO_516001.out)
       replace HO_524000:=A0_ (Kd.Q_drew HO_524000.out)
       replace HO_524001:=A0_ (rD HO_524001.out)
       replace HO_532000:=A0_ (Kd.Q_drew HO_532000.out)
       replace HO_532001:=A0_ (rD HO_532001.out)
       replace BK515:=A0_ (kD BK515.out)
       replace BK523:=A0_ (kD BK523.out)
       replace BK531:=A0_ (kD BK531.out)
       replace HB:=A0_ (bD HB.out)
       have p550:0≤(x18_2:Int):=zd
       have q550:x18_2<(t546.length:Int):=zd
       obtain⟨ad550,e550,hx550_0⟩:=tI (rR HO_16.out).2.2 x18_2 p550 q550
       cases e550
       replace p550:=eq_true p550;replace q550:=eq_true q550;obtain⟨Ao75,co75,eo75⟩:=rS HO_14.out
       (first|subst eo75|(injection eo75 with f1_ f2_ f3_;have f4_:=f1_.symm;have f5_:=f3_.symm;clear f1_ f2_ f3_;subst f4_;subst f5_))
       have p551:0≤((ji69):Int):=zd
       have q551:(ji69)<(t542.length:Int):=zd
       obtain⟨ad551,e551,hx551_0⟩:=tI (rR HO_14.out).2.2 (ji69) p551 q551
       cases e551
       replace p551:=eq_true p551;replace q551:=eq_true q551
       refine start_ (n:=11) (S:=fun w'=>w'.cell? (ad550.add (x18_2).toNat)=some (.int .i64 (rd t546 x18_2))∧w'.cell? (ad551.add ((ji69)).toNat)=some (.int .i64 (rd t542 (ji69)))) (ds := []) (bs 11 0) (by kernel_rfl) rfl rfl ⟨hx550_0,hx551_0⟩ (fun hHeld => ?_);refine with_tabW laws_FnCover.tab15 laws_FnCover.bits15 (fun HT_ HW_ => ?_)
       generalize wr.drew=w74 at HO_5 HO_10 HO_12 HO_14 HO_16 HO_516000 HO_516001 HO_524000 HO_524001 HO_532000 HO_532001 BK515 BK523 BK531 HB hx550_0 hx551_0 hHeld ⊢
       refine zP 0 (some 89) (bs 11 1) ?_
       refine zP 1 (some 90) (bs 11 3) ?_
       refine zP 2 (some 91) (bs 11 7) ?_
       refine zP 4 (some 93) (bs 11 23) ?_
       refine zP 5 (some 94) (bs 11 55) ?_
       refine zP 6 (some 95) (bs 11 119) ?_
       refine zP 7 (some 96) (bs 11 247) ?_
       refine zP 8 (some 97) (bs 11 503) ?_
       refine zT 3 (some 92) (bs 11 511) hHeld ?_
       refine zT 9 (some 98) (bs 11 1023) hHeld ?_
       refine zP 10 (some 99) (bs 11 2047) ?_
       refine done_ (done_of HT_.out (by kernel_rfl)) ?_
       try go_wp2
       go_roundg k2
       case measure=>have:=HJ5.out;have:=HK2.out;omega
       case rel=>exact⟨(wrap64 (x18_2+1)),zt,H',⟨by have:=HJ5.out;have:=HK2.out;omega⟩,⟨zS_ HO_5⟩,⟨zR_ HO_10⟩,⟨zR_ HO_12⟩,⟨zR_ HO_14⟩,⟨zR_ HO_16⟩,⟨zQ_ HO_516000⟩,⟨zR_ HO_516001⟩,⟨zQ_ HO_524000⟩,⟨zR_ HO_524001⟩,⟨zQ_ HO_532000⟩,⟨zR_ HO_532001⟩,⟨zK_ BK515⟩,⟨zK_ BK523⟩,⟨zK_ BK531⟩,⟨zB_ HB⟩⟩
      rw [if_neg c72] at H
      have c72b0:((rd t546 x18_2) == (rd t542 (ji69)))=false:=beq_eq_false_iff_ne.mpr c72
      have c72b1:((rd t546 x18_2) != (rd t542 (ji69)))=true:=bne_iff_ne.mpr c72
      obtain rfl:=sI H;obtain⟨Ao76,co76,eo76⟩:=rS HO_16.out;subst eo76
      try go_wp2
      replace HO_5:=A0_ (sD HO_5.out)
      replace HO_10:=A0_ (rD HO_10.out)
      replace HO_12:=A0_ (rD HO_12.out)
      replace HO_14:=A0_ (rD HO_14.out)
      replace HO_16:=A0_ (rD HO_16.out)
      replace HO_516000:=A0_ (Kd.Q_drew HO_516000.out)
      replace HO_516001:=A0_ (rD HO_516001.out)
      replace HO_524000:=A0_ (Kd.Q_drew HO_524000.out)
      replace HO_524001:=A0_ (rD HO_524001.out)
      replace HO_532000:=A0_ (Kd.Q_drew HO_532000.out)
      replace HO_532001:=A0_ (rD HO_532001.out)
      replace BK515:=A0_ (kD BK515.out)
      replace BK523:=A0_ (kD BK523.out)
      replace BK531:=A0_ (kD BK531.out)
      replace HB:=A0_ (bD HB.out)
      have p550:0≤(x18_2:Int):=zd
      have q550:x18_2<(t546.length:Int):=zd
      obtain⟨ad550,e550,hx550_0⟩:=tI (rR HO_16.out).2.2 x18_2 p550 q550
      cases e550
      replace p550:=eq_true p550;replace q550:=eq_true q550;obtain⟨Ao78,co78,eo78⟩:=rS HO_14.out
      (first|subst eo78|(injection eo78 with f1_ f2_ f3_;have f4_:=f1_.symm;have f5_:=f3_.symm;clear f1_ f2_ f3_;subst f4_;subst f5_))
      have p551:0≤((ji69):Int):=zd
      have q551:(ji69)<(t542.length:Int):=zd
      obtain⟨ad551,e551,hx551_0⟩:=tI (rR HO_14.out).2.2 (ji69) p551 q551
      cases e551
      replace p551:=eq_true p551;replace q551:=eq_true q551
      refine start_ (n:=11) (S:=fun w'=>w'.cell? (ad550.add (x18_2).toNat)=some (.int .i64 (rd t546 x18_2))∧w'.cell? (ad551.add ((ji69)).toNat)=some (.int .i64 (rd t542 (ji69)))) (ds := []) (bs 11 0) (by kernel_rfl) rfl rfl ⟨hx550_0,hx551_0⟩ (fun hHeld => ?_);refine with_tabW laws_FnCover.tab15 laws_FnCover.bits15 (fun HT_ HW_ => ?_)
      generalize wr.drew=w77 at HO_5 HO_10 HO_12 HO_14 HO_16 HO_516000 HO_516001 HO_524000 HO_524001 HO_532000 HO_532001 BK515 BK523 BK531 HB hx550_0 hx551_0 hHeld ⊢
      refine zP 0 (some 89) (bs 11 1) ?_
      refine zP 1 (some 90) (bs 11 3) ?_
      refine zP 2 (some 91) (bs 11 7) ?_
      refine zP 4 (some 93) (bs 11 23) ?_
      refine zP 5 (some 94) (bs 11 55) ?_
      refine zP 6 (some 95) (bs 11 119) ?_
      refine zP 7 (some 96) (bs 11 247) ?_
      refine zP 8 (some 97) (bs 11 503) ?_
      refine zT 3 (some 92) (bs 11 511) hHeld ?_
      refine zT 9 (some 98) (bs 11 1023) hHeld ?_
      refine zP 10 (some 99) (bs 11 2047) ?_
      refine done_ (done_of HT_.out (by kernel_rfl)) ?_
      try go_wp2
      go_ret
      exact⟨by first|rfl|(simp [errW_none,errW_some] <;> rfl)|(simp only [← hji69];first|rfl|(simp [errW_none,errW_some] <;> rfl))|(simp [*,errW_none,errW_some] <;> rfl),zB_ HB⟩
     rw [if_neg c66] at H;have c66b0:=dF c66;clear c66
     by_cases c79:t537=true
     ·subst c79
      rw [if_pos rfl] at H
      by_cases c80:t541=true
      ·subst c80
       rw [if_pos rfl] at H
       by_cases c81:t545=true
       ·subst c81
        rw [if_pos rfl] at H
        by_cases c82:t549=true
        ·subst c82
         rw [if_pos rfl] at H
         have c83:=zpc H;replace H:=zph H
         have c83b0:=dT c83
         have c83b1:decide (0<t538.length)=true:=dT (by omega)
         clear c83
         have c84:=zpc H;replace H:=zph H
         have c84b0:=dT c84
         have c84b1:decide (0<t534.length)=true:=dT (by omega)
         clear c84
         by_cases c85:(rd t538 0)=(wrap64 (t511*(rd t534 0)))
         ·rw [if_pos c85] at H
          have c85b0:((rd t538 0) == (wrap64 (t511*(rd t534 0))))=true:=beq_iff_eq.mpr c85
          have c85b1:((rd t538 0) != (wrap64 (t511*(rd t534 0))))=false:=bne_eq_false_iff_eq.mpr c85
          clear c85
          have c86:=zpc H;replace H:=zph H
          have c86b0:=dT c86
          have c86b1:decide (1<t538.length)=true:=dT (by omega)
          clear c86
          have c87:=zpc H;replace H:=zph H
          have c87b0:=dT c87
          have c87b1:decide (1<t534.length)=true:=dT (by omega)
          clear c87
          by_cases c88:(rd t538 1)=(wrap64 (t511*(rd t534 1)))
          ·rw [if_pos c88] at H
           have c88b0:((rd t538 1) == (wrap64 (t511*(rd t534 1))))=true:=beq_iff_eq.mpr c88
           have c88b1:((rd t538 1) != (wrap64 (t511*(rd t534 1))))=false:=bne_eq_false_iff_eq.mpr c88
           clear c88
           have c89:=zpc H;replace H:=zph H
           have c89b0:=dT c89
           have c89b1:decide (2<t538.length)=true:=dT (by omega)
           clear c89
           have c90:=zpc H;replace H:=zph H
           have c90b0:=dT c90
           have c90b1:decide (2<t534.length)=true:=dT (by omega)
           clear c90;obtain⟨t558,A91,H⟩:=zbind H;obtain rfl:=sI H;obtain⟨Ao92,co92,eo92⟩:=rS HO_16.out;subst eo92
           try go_wp2
           replace HO_5:=A0_ (sD HO_5.out)
           replace HO_10:=A0_ (rD HO_10.out)
           replace HO_12:=A0_ (rD HO_12.out)
           replace HO_14:=A0_ (rD HO_14.out)
           replace HO_16:=A0_ (rD HO_16.out)
           replace HO_516000:=A0_ (Kd.Q_drew HO_516000.out)
           replace HO_516001:=A0_ (rD HO_516001.out)
           replace HO_524000:=A0_ (Kd.Q_drew HO_524000.out)
           replace HO_524001:=A0_ (rD HO_524001.out)
           replace HO_532000:=A0_ (Kd.Q_drew HO_532000.out)
           replace HO_532001:=A0_ (rD HO_532001.out)
           replace BK515:=A0_ (kD BK515.out)
           replace BK523:=A0_ (kD BK523.out)
           replace BK531:=A0_ (kD BK531.out)
           replace HB:=A0_ (bD HB.out)
           obtain⟨Ao94,co94,eo94⟩:=rS HO_12.out
           (first|subst eo94|(injection eo94 with f1_ f2_ f3_;have f4_:=f1_.symm;have f5_:=f3_.symm;clear f1_ f2_ f3_;subst f4_;subst f5_))
           have p552:0≤(0:Int):=(by omega)
           have q552:0<(t538.length:Int):=zd
           obtain⟨ad552,e552,hx552_0⟩:=tI (rR HO_12.out).2.2 0 p552 q552
           cases e552
           have qi552:(0<t538.length)=True:=eq_true (by omega)
           (try rw [show((0:Int)).toNat=0 from rfl] at hx552_0)
           (try rw [Addr.add_zero'] at hx552_0)
           replace p552:=eq_true p552;replace q552:=eq_true q552;obtain⟨Ao95,co95,eo95⟩:=rS HO_10.out
           (first|subst eo95|(injection eo95 with f1_ f2_ f3_;have f4_:=f1_.symm;have f5_:=f3_.symm;clear f1_ f2_ f3_;subst f4_;subst f5_))
           have p553:0≤(0:Int):=(by omega)
           have q553:0<(t534.length:Int):=zd
           obtain⟨ad553,e553,hx553_0⟩:=tI (rR HO_10.out).2.2 0 p553 q553
           cases e553
           have qi553:(0<t534.length)=True:=eq_true (by omega)
           (try rw [show((0:Int)).toNat=0 from rfl] at hx553_0)
           (try rw [Addr.add_zero'] at hx553_0)
           replace p553:=eq_true p553;replace q553:=eq_true q553
           have p554:0≤(1:Int):=(by omega)
           have q554:1<(t538.length:Int):=zd
           obtain⟨ad554,e554,hx554_0⟩:=tI (rR HO_12.out).2.2 1 p554 q554
           obtain rfl:ad552=ad554:=(by injection e554)
           (try simp only [show(1:Int).toNat=1 from rfl,Nat.reduceMul,Nat.reduceEqDiff,Go.Addr.add,↓reduceIte] at hx554_0)
           have qi554:(1<t538.length)=True:=eq_true (by omega)
           (try rw [show((1:Int)).toNat=1 from rfl] at hx554_0)
           replace p554:=eq_true p554;replace q554:=eq_true q554
           have p555:0≤(1:Int):=(by omega)
           have q555:1<(t534.length:Int):=zd
           obtain⟨ad555,e555,hx555_0⟩:=tI (rR HO_10.out).2.2 1 p555 q555
           obtain rfl:ad553=ad555:=(by injection e555)
           (try simp only [show(1:Int).toNat=1 from rfl,Nat.reduceMul,Nat.reduceEqDiff,Go.Addr.add,↓reduceIte] at hx555_0)
           have qi555:(1<t534.length)=True:=eq_true (by omega)
           (try rw [show((1:Int)).toNat=1 from rfl] at hx555_0)
           replace p555:=eq_true p555;replace q555:=eq_true q555
           have p556:0≤(2:Int):=(by omega)
           have q556:2<(t538.length:Int):=zd
           obtain⟨ad556,e556,hx556_0⟩:=tI (rR HO_12.out).2.2 2 p556 q556
           obtain rfl:ad552=ad556:=(by injection e556)
           (try simp only [show(2:Int).toNat=2 from rfl,Nat.reduceMul,Nat.reduceEqDiff,Go.Addr.add,↓reduceIte] at hx556_0)
           have qi556:(2<t538.length)=True:=eq_true (by omega)
           (try rw [show((2:Int)).toNat=2 from rfl] at hx556_0)
           replace p556:=eq_true p556;replace q556:=eq_true q556
           have p557:0≤(2:Int):=(by omega)
           have q557:2<(t534.length:Int):=zd
           obtain⟨ad557,e557,hx557_0⟩:=tI (rR HO_10.out).2.2 2 p557 q557
           obtain rfl:ad553=ad557:=(by injection e557)
           (try simp only [show(2:Int).toNat=2 from rfl,Nat.reduceMul,Nat.reduceEqDiff,Go.Addr.add,↓reduceIte] at hx557_0)
           have qi557:(2<t534.length)=True:=eq_true (by omega)
           (try rw [show((2:Int)).toNat=2 from rfl] at hx557_0)
           replace p557:=eq_true p557;replace q557:=eq_true q557
           refine start_ (n:=49) (S:=fun w'=>w'.cell? ⟨gb515,0,none⟩=some (.slice Ao9 t505.length co9)∧w'.cell? ⟨gb515,1,none⟩=some (.slice Ao11 t508.length co11)∧w'.cell? ad552=some (.int .i64 (rd t538 0))∧w'.cell? ad553=some (.int .i64 (rd t534 0))∧w'.cell? ⟨ad552.block,ad552.off+1,none⟩=some (.int .i64 (rd t538 1))∧w'.cell? ⟨ad553.block,ad553.off+1,none⟩=some (.int .i64 (rd t534 1))∧w'.cell? ⟨ad552.block,ad552.off+2,none⟩=some (.int .i64 (rd t538 2))∧w'.cell? ⟨ad553.block,ad553.off+2,none⟩=some (.int .i64 (rd t534 2))) (ds := []) (bs 49 0) (by kernel_rfl) rfl rfl ⟨(kC BK515.out 0).trans rfl,(kC BK515.out 1).trans rfl,hx552_0,hx553_0,hx554_0,hx555_0,hx556_0,hx557_0⟩ (fun hHeld => ?_);refine with_tabW laws_FnCover.tab17 laws_FnCover.bits17 (fun HT_ HW_ => ?_)
           generalize wr.drew=w93 at HO_5 HO_10 HO_12 HO_14 HO_16 HO_516000 HO_516001 HO_524000 HO_524001 HO_532000 HO_532001 BK515 BK523 BK531 HB hx552_0 hx553_0 hx554_0 hx555_0 hx556_0 hx557_0 hHeld ⊢
           refine zP 0 (some 100) (bs 49 1) ?_
           refine zP 1 (some 101) (bs 49 3) ?_
           refine zP 2 (some 102) (bs 49 7) ?_
           refine zP 3 (some 103) (bs 49 15) ?_
           refine zP 4 (some 104) (bs 49 31) ?_
           refine zP 5 (some 105) (bs 49 63) ?_
           refine zP 6 (some 106) (bs 49 127) ?_
           refine zP 7 (some 107) (bs 49 255) ?_
           refine zP 8 (some 108) (bs 49 511) ?_
           refine zP 9 (some 109) (bs 49 1023) ?_
           refine zP 10 (some 110) (bs 49 2047) ?_
           refine zP 11 (some 111) (bs 49 4095) ?_
           refine zP 12 (some 112) (bs 49 8191) ?_
           refine zP 14 (some 114) (bs 49 24575) ?_
           refine zP 15 (some 115) (bs 49 57343) ?_
           refine zP 16 (some 116) (bs 49 122879) ?_
           refine zT 13 (some 113) (bs 49 131071) hHeld ?_
           refine zT 17 (some 117) (bs 49 262143) hHeld ?_
           refine zP 18 (some 118) (bs 49 524287) ?_
           refine zP 19 (some 119) (bs 49 1048575) ?_
           refine zP 20 (some 120) (bs 49 2097151) ?_
           refine zP 21 (some 121) (bs 49 4194303) ?_
           refine zP 22 (some 122) (bs 49 8388607) ?_
           refine zP 23 (some 123) (bs 49 16777215) ?_
           refine zP 25 (some 125) (bs 49 50331647) ?_
           refine zP 26 (some 126) (bs 49 117440511) ?_
           refine zP 27 (some 127) (bs 49 251658239) ?_
           refine zT 24 (some 124) (bs 49 268435455) hHeld ?_
           refine zT 28 (some 128) (bs 49 536870911) hHeld ?_
           refine zP 29 (some 129) (bs 49 1073741823) ?_
           refine zP 30 (some 130) (bs 49 2147483647) ?_
           refine zP 31 (some 131) (bs 49 4294967295) ?_
           refine zP 32 (some 132) (bs 49 8589934591) ?_
           refine zP 33 (some 133) (bs 49 17179869183) ?_
           refine zP 34 (some 134) (bs 49 34359738367) ?_
           refine zP 36 (some 136) (bs 49 103079215103) ?_
           refine zP 37 (some 137) (bs 49 240518168575) ?_
           refine zP 38 (some 138) (bs 49 515396075519) ?_
           refine zP 42 (some 142) (bs 49 4913442586623) ?_
           refine zP 43 (some 143) (bs 49 13709535608831) ?_
           refine zT 35 (some 135) (bs 49 13743895347199) hHeld ?_
           refine zT 39 (some 139) (bs 49 14293651161087) hHeld ?_
           refine zP 40 (some 140) (bs 49 15393162788863) ?_
           refine zT 41 (some 141) (bs 49 17592186044415) hHeld ?_
           refine one_ (i:=44) (N:=some 144) (bs 49 35184372088831) rfl rfl (one_of HT_.out (by kernel_rfl)) (by decide) (fun K hK => ?_)
           refine goes_ Try.func22 (by kernel_rfl) rfl #[.agg #[.slice Ao9 t505.length co9,.slice Ao11 t508.length co11],.int .i64 t511,.slice Ao12 t512.length co12] (by rfl) rfl rfl (by(try simp only [List.map_toArray,List.map_cons,List.map_nil]);first|done|rfl|(simp only [List.length_drop,List.length_take];rfl)) ?_
           with_reducible refine(impl_CoverBranch.calls k2 _ _ t505 _ _ t508 t511 _ _ t512 t558 _ ?side1 ?side2 ?side3 ?side4 ?side5 ?side6 A91.out).mono ?_
           (case side1=>exact zDQ HO_516000)
           (case side2=>exact(Kd.Q_reads' HO_516000.out).2.1)
           (case side3=>exact zD HO_516001)
           (case side4=>exact(rR HO_516001.out).2.1)
           (case side5=>exact zDS HO_5)
           (case side6=>exact(Kd.S_reads' HO_5.out).2.1)
           rintro e w96 ⟨rfl,hb⟩
           have HS2_:=(hb.cell (wL _ _ (hHeld.2.2.1))).trans (hHeld.2.2.1)
           have HS3_:=(hb.cell (wL _ _ (hHeld.2.2.2.1))).trans (hHeld.2.2.2.1)
           have HS4_:=(hb.cell (wL _ _ (hHeld.2.2.2.2.1))).trans (hHeld.2.2.2.2.1)
           have HS5_:=(hb.cell (wL _ _ (hHeld.2.2.2.2.2.1))).trans (hHeld.2.2.2.2.2.1)
           have HS6_:=(hb.cell (wL _ _ (hHeld.2.2.2.2.2.2.1))).trans (hHeld.2.2.2.2.2.2.1)
           have HS7_:=(hb.cell (wL _ _ (hHeld.2.2.2.2.2.2.2))).trans (hHeld.2.2.2.2.2.2.2)
           refine⟨_,rfl,?_⟩
           replace HO_5:=zS HO_5 hb;replace HO_10:=zR HO_10 hb;replace HO_12:=zR HO_12 hb;replace HO_14:=zR HO_14 hb;replace HO_16:=zR HO_16 hb
           replace HO_516000:=A0_ (Kd.Q_below (zQ_ HO_516000) hb)
           replace HO_516001:=zR HO_516001 hb
           replace HO_524000:=A0_ (Kd.Q_below (zQ_ HO_524000) hb)
           replace HO_524001:=zR HO_524001 hb
           replace HO_532000:=A0_ (Kd.Q_below (zQ_ HO_532000) hb)
           replace HO_532001:=zR HO_532001 hb;replace BK515:=zK BK515 hb;replace BK523:=zK BK523 hb;replace BK531:=zK BK531 hb;replace HB:=zB HB hb;(try clear hb);(try clear hb2);(try clear hk);(try clear hi)
           refine hK.out _ _ ⟨(kC BK515.out 0).trans rfl,(kC BK515.out 1).trans rfl,HS2_,HS3_,HS4_,HS5_,HS6_,HS7_⟩ (fun hHeld => ?_)
           clear hK K
           refine norm_ (a' := ?_) ?_ ?_
           rotate_left
           ·show Act.put _ (some 144) _=_
            simp only [Act.put,List.setIfInBounds_toArray,List.set_cons_zero,List.set_cons_succ,i64_w,i32_w]
            rfl
           refine zP 45 (some 145) (bs 49 70368744177663) ?_
           refine zP 46 (some 146) (bs 49 140737488355327) ?_
           refine zP 47 (some 147) (bs 49 281474976710655) ?_
           refine zP 48 (some 2) (bs 49 562949953421311) ?_
           refine done_ (done_of HT_.out (by kernel_rfl)) ?_
           try go_wp2
           go_ret
           exact⟨by first|rfl|(simp [*] <;> rfl),zB_ HB⟩
          rw [if_neg c88] at H
          have c88b0:((rd t538 1) == (wrap64 (t511*(rd t534 1))))=false:=beq_eq_false_iff_ne.mpr c88
          have c88b1:((rd t538 1) != (wrap64 (t511*(rd t534 1))))=true:=bne_iff_ne.mpr c88
          obtain rfl:=sI H;obtain⟨Ao97,co97,eo97⟩:=rS HO_16.out;subst eo97
          try go_wp2
          replace HO_5:=A0_ (sD HO_5.out)
          replace HO_10:=A0_ (rD HO_10.out)
          replace HO_12:=A0_ (rD HO_12.out)
          replace HO_14:=A0_ (rD HO_14.out)
          replace HO_16:=A0_ (rD HO_16.out)
          replace HO_516000:=A0_ (Kd.Q_drew HO_516000.out)
          replace HO_516001:=A0_ (rD HO_516001.out)
          replace HO_524000:=A0_ (Kd.Q_drew HO_524000.out)
          replace HO_524001:=A0_ (rD HO_524001.out)
          replace HO_532000:=A0_ (Kd.Q_drew HO_532000.out)
          replace HO_532001:=A0_ (rD HO_532001.out)
          replace BK515:=A0_ (kD BK515.out)
          replace BK523:=A0_ (kD BK523.out)
          replace BK531:=A0_ (kD BK531.out)
          replace HB:=A0_ (bD HB.out)
          obtain⟨Ao99,co99,eo99⟩:=rS HO_12.out
          (first|subst eo99|(injection eo99 with f1_ f2_ f3_;have f4_:=f1_.symm;have f5_:=f3_.symm;clear f1_ f2_ f3_;subst f4_;subst f5_))
          have p552:0≤(0:Int):=(by omega)
          have q552:0<(t538.length:Int):=zd
          obtain⟨ad552,e552,hx552_0⟩:=tI (rR HO_12.out).2.2 0 p552 q552
          cases e552
          have qi552:(0<t538.length)=True:=eq_true (by omega)
          (try rw [show((0:Int)).toNat=0 from rfl] at hx552_0)
          (try rw [Addr.add_zero'] at hx552_0)
          replace p552:=eq_true p552;replace q552:=eq_true q552;obtain⟨Ao100,co100,eo100⟩:=rS HO_10.out
          (first|subst eo100|(injection eo100 with f1_ f2_ f3_;have f4_:=f1_.symm;have f5_:=f3_.symm;clear f1_ f2_ f3_;subst f4_;subst f5_))
          have p553:0≤(0:Int):=(by omega)
          have q553:0<(t534.length:Int):=zd
          obtain⟨ad553,e553,hx553_0⟩:=tI (rR HO_10.out).2.2 0 p553 q553
          cases e553
          have qi553:(0<t534.length)=True:=eq_true (by omega)
          (try rw [show((0:Int)).toNat=0 from rfl] at hx553_0)
          (try rw [Addr.add_zero'] at hx553_0)
          replace p553:=eq_true p553;replace q553:=eq_true q553
          have p554:0≤(1:Int):=(by omega)
          have q554:1<(t538.length:Int):=zd
          obtain⟨ad554,e554,hx554_0⟩:=tI (rR HO_12.out).2.2 1 p554 q554
          obtain rfl:ad552=ad554:=(by injection e554)
          (try simp only [show(1:Int).toNat=1 from rfl,Nat.reduceMul,Nat.reduceEqDiff,Go.Addr.add,↓reduceIte] at hx554_0)
          have qi554:(1<t538.length)=True:=eq_true (by omega)
          (try rw [show((1:Int)).toNat=1 from rfl] at hx554_0)
          replace p554:=eq_true p554;replace q554:=eq_true q554
          have p555:0≤(1:Int):=(by omega)
          have q555:1<(t534.length:Int):=zd
          obtain⟨ad555,e555,hx555_0⟩:=tI (rR HO_10.out).2.2 1 p555 q555
          obtain rfl:ad553=ad555:=(by injection e555)
          (try simp only [show(1:Int).toNat=1 from rfl,Nat.reduceMul,Nat.reduceEqDiff,Go.Addr.add,↓reduceIte] at hx555_0)
          have qi555:(1<t534.length)=True:=eq_true (by omega)
          (try rw [show((1:Int)).toNat=1 from rfl] at hx555_0)
          replace p555:=eq_true p555;replace q555:=eq_true q555
          refine start_ (n:=49) (S:=fun w'=>w'.cell? ad552=some (.int .i64 (rd t538 0))∧w'.cell? ad553=some (.int .i64 (rd t534 0))∧w'.cell? ⟨ad552.block,ad552.off+1,none⟩=some (.int .i64 (rd t538 1))∧w'.cell? ⟨ad553.block,ad553.off+1,none⟩=some (.int .i64 (rd t534 1))) (ds := []) (bs 49 0) (by kernel_rfl) rfl rfl ⟨hx552_0,hx553_0,hx554_0,hx555_0⟩ (fun hHeld => ?_);refine with_tabW laws_FnCover.tab17 laws_FnCover.bits17 (fun HT_ HW_ => ?_)
          generalize wr.drew=w98 at HO_5 HO_10 HO_12 HO_14 HO_16 HO_516000 HO_516001 HO_524000 HO_524001 HO_532000 HO_532001 BK515 BK523 BK531 HB hx552_0 hx553_0 hx554_0 hx555_0 hHeld ⊢
          refine zP 0 (some 100) (bs 49 1) ?_
          refine zP 1 (some 101) (bs 49 3) ?_
          refine zP 2 (some 102) (bs 49 7) ?_
          refine zP 3 (some 103) (bs 49 15) ?_
          refine zP 4 (some 104) (bs 49 31) ?_
          refine zP 5 (some 105) (bs 49 63) ?_
          refine zP 6 (some 106) (bs 49 127) ?_
          refine zP 7 (some 107) (bs 49 255) ?_
          refine zP 8 (some 108) (bs 49 511) ?_
          refine zP 9 (some 109) (bs 49 1023) ?_
          refine zP 10 (some 110) (bs 49 2047) ?_
          refine zP 11 (some 111) (bs 49 4095) ?_
          refine zP 12 (some 112) (bs 49 8191) ?_
          refine zP 14 (some 114) (bs 49 24575) ?_
          refine zP 15 (some 115) (bs 49 57343) ?_
          refine zP 16 (some 116) (bs 49 122879) ?_
          refine zT 13 (some 113) (bs 49 131071) hHeld ?_
          refine zT 17 (some 117) (bs 49 262143) hHeld ?_
          refine zP 18 (some 118) (bs 49 524287) ?_
          refine zP 19 (some 119) (bs 49 1048575) ?_
          refine zP 20 (some 120) (bs 49 2097151) ?_
          refine zP 21 (some 121) (bs 49 4194303) ?_
          refine zP 22 (some 122) (bs 49 8388607) ?_
          refine zP 23 (some 123) (bs 49 16777215) ?_
          refine zP 25 (some 125) (bs 49 50331647) ?_
          refine zP 26 (some 126) (bs 49 117440511) ?_
          refine zP 27 (some 127) (bs 49 251658239) ?_
          refine zT 24 (some 124) (bs 49 268435455) hHeld ?_
          refine zT 28 (some 128) (bs 49 536870911) hHeld ?_
          refine zP 29 (some 129) (bs 49 1073741823) ?_
          refine zP 30 (some 130) (bs 49 2147483647) ?_
          refine zP 31 (some 131) (bs 49 4294967295) ?_
          refine zP 32 (some 132) (bs 49 8589934591) ?_
          refine zU 33 (some 133) (bs 49 17179869183) ?_
          refine zU 34 (some 134) (bs 49 34359738367) ?_
          refine zU 35 (some 135) (bs 49 68719476735) ?_
          refine zU 36 (some 136) (bs 49 137438953471) ?_
          refine zU 37 (some 137) (bs 49 274877906943) ?_
          refine zU 38 (some 138) (bs 49 549755813887) ?_
          refine zU 39 (some 139) (bs 49 1099511627775) ?_
          refine zU 40 (some 140) (bs 49 2199023255551) ?_
          refine zU 41 (some 141) (bs 49 4398046511103) ?_
          refine zU 42 (some 142) (bs 49 8796093022207) ?_
          refine zU 43 (some 143) (bs 49 17592186044415) ?_
          refine zU 44 (some 144) (bs 49 35184372088831) ?_
          refine zU 45 (some 145) (bs 49 70368744177663) ?_
          refine zU 46 (some 146) (bs 49 140737488355327) ?_
          refine zP 47 (some 147) (bs 49 281474976710655) ?_
          refine zP 48 (some 2) (bs 49 562949953421311) ?_
          refine done_ (done_of HT_.out (by kernel_rfl)) ?_
          try go_wp2
          go_ret
          exact⟨by first|rfl|(simp [*] <;> rfl),zB_ HB⟩
         rw [if_neg c85] at H
         have c85b0:((rd t538 0) == (wrap64 (t511*(rd t534 0))))=false:=beq_eq_false_iff_ne.mpr c85
         have c85b1:((rd t538 0) != (wrap64 (t511*(rd t534 0))))=true:=bne_iff_ne.mpr c85
         obtain rfl:=sI H;obtain⟨Ao101,co101,eo101⟩:=rS HO_16.out;subst eo101
         try go_wp2
         replace HO_5:=A0_ (sD HO_5.out)
         replace HO_10:=A0_ (rD HO_10.out)
         replace HO_12:=A0_ (rD HO_12.out)
         replace HO_14:=A0_ (rD HO_14.out)
         replace HO_16:=A0_ (rD HO_16.out)
         replace HO_516000:=A0_ (Kd.Q_drew HO_516000.out)
         replace HO_516001:=A0_ (rD HO_516001.out)
         replace HO_524000:=A0_ (Kd.Q_drew HO_524000.out)
         replace HO_524001:=A0_ (rD HO_524001.out)
         replace HO_532000:=A0_ (Kd.Q_drew HO_532000.out)
         replace HO_532001:=A0_ (rD HO_532001.out)
         replace BK515:=A0_ (kD BK515.out)
         replace BK523:=A0_ (kD BK523.out)
         replace BK531:=A0_ (kD BK531.out)
         replace HB:=A0_ (bD HB.out)
         obtain⟨Ao103,co103,eo103⟩:=rS HO_12.out
         (first|subst eo103|(injection eo103 with f1_ f2_ f3_;have f4_:=f1_.symm;have f5_:=f3_.symm;clear f1_ f2_ f3_;subst f4_;subst f5_))
         have p552:0≤(0:Int):=(by omega)
         have q552:0<(t538.length:Int):=zd
         obtain⟨ad552,e552,hx552_0⟩:=tI (rR HO_12.out).2.2 0 p552 q552
         cases e552
         have qi552:(0<t538.length)=True:=eq_true (by omega)
         (try rw [show((0:Int)).toNat=0 from rfl] at hx552_0)
         (try rw [Addr.add_zero'] at hx552_0)
         replace p552:=eq_true p552;replace q552:=eq_true q552;obtain⟨Ao104,co104,eo104⟩:=rS HO_10.out
         (first|subst eo104|(injection eo104 with f1_ f2_ f3_;have f4_:=f1_.symm;have f5_:=f3_.symm;clear f1_ f2_ f3_;subst f4_;subst f5_))
         have p553:0≤(0:Int):=(by omega)
         have q553:0<(t534.length:Int):=zd
         obtain⟨ad553,e553,hx553_0⟩:=tI (rR HO_10.out).2.2 0 p553 q553
         cases e553
         have qi553:(0<t534.length)=True:=eq_true (by omega)
         (try rw [show((0:Int)).toNat=0 from rfl] at hx553_0)
         (try rw [Addr.add_zero'] at hx553_0)
         replace p553:=eq_true p553;replace q553:=eq_true q553
         refine start_ (n:=49) (S:=fun w'=>w'.cell? ad552=some (.int .i64 (rd t538 0))∧w'.cell? ad553=some (.int .i64 (rd t534 0))) (ds := []) (bs 49 0) (by kernel_rfl) rfl rfl ⟨hx552_0,hx553_0⟩ (fun hHeld => ?_);refine with_tabW laws_FnCover.tab17 laws_FnCover.bits17 (fun HT_ HW_ => ?_)
         generalize wr.drew=w102 at HO_5 HO_10 HO_12 HO_14 HO_16 HO_516000 HO_516001 HO_524000 HO_524001 HO_532000 HO_532001 BK515 BK523 BK531 HB hx552_0 hx553_0 hHeld ⊢
         refine zP 0 (some 100) (bs 49 1) ?_
         refine zP 1 (some 101) (bs 49 3) ?_
         refine zP 2 (some 102) (bs 49 7) ?_
         refine zP 3 (some 103) (bs 49 15) ?_
         refine zP 4 (some 104) (bs 49 31) ?_
         refine zP 5 (some 105) (bs 49 63) ?_
         refine zP 6 (some 106) (bs 49 127) ?_
         refine zP 7 (some 107) (bs 49 255) ?_
         refine zP 8 (some 108) (bs 49 511) ?_
         refine zP 9 (some 109) (bs 49 1023) ?_
         refine zP 10 (some 110) (bs 49 2047) ?_
         refine zP 11 (some 111) (bs 49 4095) ?_
         refine zP 12 (some 112) (bs 49 8191) ?_
         refine zP 14 (some 114) (bs 49 24575) ?_
         refine zP 15 (some 115) (bs 49 57343) ?_
         refine zP 16 (some 116) (bs 49 122879) ?_
         refine zT 13 (some 113) (bs 49 131071) hHeld ?_
         refine zT 17 (some 117) (bs 49 262143) hHeld ?_
         refine zP 18 (some 118) (bs 49 524287) ?_
         refine zP 19 (some 119) (bs 49 1048575) ?_
         refine zP 20 (some 120) (bs 49 2097151) ?_
         refine zP 21 (some 121) (bs 49 4194303) ?_
         refine zU 22 (some 122) (bs 49 8388607) ?_
         refine zU 23 (some 123) (bs 49 16777215) ?_
         refine zU 24 (some 124) (bs 49 33554431) ?_
         refine zU 25 (some 125) (bs 49 67108863) ?_
         refine zU 26 (some 126) (bs 49 134217727) ?_
         refine zU 27 (some 127) (bs 49 268435455) ?_
         refine zU 28 (some 128) (bs 49 536870911) ?_
         refine zU 29 (some 129) (bs 49 1073741823) ?_
         refine zU 30 (some 130) (bs 49 2147483647) ?_
         refine zP 31 (some 131) (bs 49 4294967295) ?_
         refine zP 32 (some 132) (bs 49 8589934591) ?_
         refine zU 33 (some 133) (bs 49 17179869183) ?_
         refine zU 34 (some 134) (bs 49 34359738367) ?_
         refine zU 35 (some 135) (bs 49 68719476735) ?_
         refine zU 36 (some 136) (bs 49 137438953471) ?_
         refine zU 37 (some 137) (bs 49 274877906943) ?_
         refine zU 38 (some 138) (bs 49 549755813887) ?_
         refine zU 39 (some 139) (bs 49 1099511627775) ?_
         refine zU 40 (some 140) (bs 49 2199023255551) ?_
         refine zU 41 (some 141) (bs 49 4398046511103) ?_
         refine zU 42 (some 142) (bs 49 8796093022207) ?_
         refine zU 43 (some 143) (bs 49 17592186044415) ?_
         refine zU 44 (some 144) (bs 49 35184372088831) ?_
         refine zU 45 (some 145) (bs 49 70368744177663) ?_
         refine zU 46 (some 146) (bs 49 140737488355327) ?_
         refine zP 47 (some 147) (bs 49 281474976710655) ?_
         refine zP 48 (some 2) (bs 49 562949953421311) ?_
         refine done_ (done_of HT_.out (by kernel_rfl)) ?_
         try go_wp2
         go_ret
         exact⟨by first|rfl|(simp [*] <;> rfl),zB_ HB⟩
        replace c82:=Bool.eq_false_iff.mpr c82;subst c82
        rw [if_neg (show ¬ (false=true) by decide)] at H
        obtain rfl:=sI H;obtain⟨Ao105,co105,eo105⟩:=rS HO_16.out;subst eo105
        try go_wp2
        replace HO_5:=A0_ (sD HO_5.out)
        replace HO_10:=A0_ (rD HO_10.out)
        replace HO_12:=A0_ (rD HO_12.out)
        replace HO_14:=A0_ (rD HO_14.out)
        replace HO_16:=A0_ (rD HO_16.out)
        replace HO_516000:=A0_ (Kd.Q_drew HO_516000.out)
        replace HO_516001:=A0_ (rD HO_516001.out)
        replace HO_524000:=A0_ (Kd.Q_drew HO_524000.out)
        replace HO_524001:=A0_ (rD HO_524001.out)
        replace HO_532000:=A0_ (Kd.Q_drew HO_532000.out)
        replace HO_532001:=A0_ (rD HO_532001.out)
        replace BK515:=A0_ (kD BK515.out)
        replace BK523:=A0_ (kD BK523.out)
        replace BK531:=A0_ (kD BK531.out)
        replace HB:=A0_ (bD HB.out)
        refine start_ (n:=49) (S:=fun w'=>True) (ds := []) (bs 49 0) (by kernel_rfl) rfl rfl trivial (fun hHeld => ?_);refine with_tabW laws_FnCover.tab17 laws_FnCover.bits17 (fun HT_ HW_ => ?_)
        generalize wr.drew=w106 at HO_5 HO_10 HO_12 HO_14 HO_16 HO_516000 HO_516001 HO_524000 HO_524001 HO_532000 HO_532001 BK515 BK523 BK531 HB hHeld ⊢
        refine zP 0 (some 100) (bs 49 1) ?_
        refine zP 1 (some 101) (bs 49 3) ?_
        refine zP 2 (some 102) (bs 49 7) ?_
        refine zP 3 (some 103) (bs 49 15) ?_
        refine zP 4 (some 104) (bs 49 31) ?_
        refine zP 5 (some 105) (bs 49 63) ?_
        refine zP 6 (some 106) (bs 49 127) ?_
        refine zP 7 (some 107) (bs 49 255) ?_
        refine zP 8 (some 108) (bs 49 511) ?_
        refine zP 9 (some 109) (bs 49 1023) ?_
        refine zP 10 (some 110) (bs 49 2047) ?_
        refine zU 11 (some 111) (bs 49 4095) ?_
        refine zU 12 (some 112) (bs 49 8191) ?_
        refine zU 13 (some 113) (bs 49 16383) ?_
        refine zU 14 (some 114) (bs 49 32767) ?_
        refine zU 15 (some 115) (bs 49 65535) ?_
        refine zU 16 (some 116) (bs 49 131071) ?_
        refine zU 17 (some 117) (bs 49 262143) ?_
        refine zU 18 (some 118) (bs 49 524287) ?_
        refine zU 19 (some 119) (bs 49 1048575) ?_
        refine zP 20 (some 120) (bs 49 2097151) ?_
        refine zP 21 (some 121) (bs 49 4194303) ?_
        refine zU 22 (some 122) (bs 49 8388607) ?_
        refine zU 23 (some 123) (bs 49 16777215) ?_
        refine zU 24 (some 124) (bs 49 33554431) ?_
        refine zU 25 (some 125) (bs 49 67108863) ?_
        refine zU 26 (some 126) (bs 49 134217727) ?_
        refine zU 27 (some 127) (bs 49 268435455) ?_
        refine zU 28 (some 128) (bs 49 536870911) ?_
        refine zU 29 (some 129) (bs 49 1073741823) ?_
        refine zU 30 (some 130) (bs 49 2147483647) ?_
        refine zP 31 (some 131) (bs 49 4294967295) ?_
        refine zP 32 (some 132) (bs 49 8589934591) ?_
        refine zU 33 (some 133) (bs 49 17179869183) ?_
        refine zU 34 (some 134) (bs 49 34359738367) ?_
        refine zU 35 (some 135) (bs 49 68719476735) ?_
        refine zU 36 (some 136) (bs 49 137438953471) ?_
        refine zU 37 (some 137) (bs 49 274877906943) ?_
        refine zU 38 (some 138) (bs 49 549755813887) ?_
        refine zU 39 (some 139) (bs 49 1099511627775) ?_
        refine zU 40 (some 140) (bs 49 2199023255551) ?_
        refine zU 41 (some 141) (bs 49 4398046511103) ?_
        refine zU 42 (some 142) (bs 49 8796093022207) ?_
        refine zU 43 (some 143) (bs 49 17592186044415) ?_
        refine zU 44 (some 144) (bs 49 35184372088831) ?_
        refine zU 45 (some 145) (bs 49 70368744177663) ?_
        refine zU 46 (some 146) (bs 49 140737488355327) ?_
        refine zP 47 (some 147) (bs 49 281474976710655) ?_
        refine zP 48 (some 2) (bs 49 562949953421311) ?_
        refine done_ (done_of HT_.out (by kernel_rfl)) ?_
        try go_wp2
        go_ret
        exact⟨by first|rfl|(simp [*] <;> rfl),zB_ HB⟩
       replace c81:=Bool.eq_false_iff.mpr c81;subst c81
       rw [if_neg (show ¬ (false=true) by decide)] at H
       obtain rfl:=sI H;obtain⟨Ao107,co107,eo107⟩:=rS HO_16.out;subst eo107
       try go_wp2
       replace HO_5:=A0_ (sD HO_5.out)
       replace HO_10:=A0_ (rD HO_10.out)
       replace HO_12:=A0_ (rD HO_12.out)
       replace HO_14:=A0_ (rD HO_14.out)
       replace HO_16:=A0_ (rD HO_16.out)
       replace HO_516000:=A0_ (Kd.Q_drew HO_516000.out)
       replace HO_516001:=A0_ (rD HO_516001.out)
       replace HO_524000:=A0_ (Kd.Q_drew HO_524000.out)
       replace HO_524001:=A0_ (rD HO_524001.out)
       replace HO_532000:=A0_ (Kd.Q_drew HO_532000.out)
       replace HO_532001:=A0_ (rD HO_532001.out)
       replace BK515:=A0_ (kD BK515.out)
       replace BK523:=A0_ (kD BK523.out)
       replace BK531:=A0_ (kD BK531.out)
       replace HB:=A0_ (bD HB.out)
       refine start_ (n:=49) (S:=fun w'=>True) (ds := []) (bs 49 0) (by kernel_rfl) rfl rfl trivial (fun hHeld => ?_);refine with_tabW laws_FnCover.tab17 laws_FnCover.bits17 (fun HT_ HW_ => ?_)
       generalize wr.drew=w108 at HO_5 HO_10 HO_12 HO_14 HO_16 HO_516000 HO_516001 HO_524000 HO_524001 HO_532000 HO_532001 BK515 BK523 BK531 HB hHeld ⊢
       refine zP 0 (some 100) (bs 49 1) ?_
       refine zP 1 (some 101) (bs 49 3) ?_
       refine zP 2 (some 102) (bs 49 7) ?_
       refine zP 3 (some 103) (bs 49 15) ?_
       refine zP 4 (some 104) (bs 49 31) ?_
       refine zP 5 (some 105) (bs 49 63) ?_
       refine zP 6 (some 106) (bs 49 127) ?_
       refine zP 7 (some 107) (bs 49 255) ?_
       refine zU 8 (some 108) (bs 49 511) ?_
       refine zP 9 (some 109) (bs 49 1023) ?_
       refine zP 10 (some 110) (bs 49 2047) ?_
       refine zU 11 (some 111) (bs 49 4095) ?_
       refine zU 12 (some 112) (bs 49 8191) ?_
       refine zU 13 (some 113) (bs 49 16383) ?_
       refine zU 14 (some 114) (bs 49 32767) ?_
       refine zU 15 (some 115) (bs 49 65535) ?_
       refine zU 16 (some 116) (bs 49 131071) ?_
       refine zU 17 (some 117) (bs 49 262143) ?_
       refine zU 18 (some 118) (bs 49 524287) ?_
       refine zU 19 (some 119) (bs 49 1048575) ?_
       refine zP 20 (some 120) (bs 49 2097151) ?_
       refine zP 21 (some 121) (bs 49 4194303) ?_
       refine zU 22 (some 122) (bs 49 8388607) ?_
       refine zU 23 (some 123) (bs 49 16777215) ?_
       refine zU 24 (some 124) (bs 49 33554431) ?_
       refine zU 25 (some 125) (bs 49 67108863) ?_
       refine zU 26 (some 126) (bs 49 134217727) ?_
       refine zU 27 (some 127) (bs 49 268435455) ?_
       refine zU 28 (some 128) (bs 49 536870911) ?_
       refine zU 29 (some 129) (bs 49 1073741823) ?_
       refine zU 30 (some 130) (bs 49 2147483647) ?_
       refine zP 31 (some 131) (bs 49 4294967295) ?_
       refine zP 32 (some 132) (bs 49 8589934591) ?_
       refine zU 33 (some 133) (bs 49 17179869183) ?_
       refine zU 34 (some 134) (bs 49 34359738367) ?_
       refine zU 35 (some 135) (bs 49 68719476735) ?_
       refine zU 36 (some 136) (bs 49 137438953471) ?_
       refine zU 37 (some 137) (bs 49 274877906943) ?_
       refine zU 38 (some 138) (bs 49 549755813887) ?_
       refine zU 39 (some 139) (bs 49 1099511627775) ?_
       refine zU 40 (some 140) (bs 49 2199023255551) ?_
       refine zU 41 (some 141) (bs 49 4398046511103) ?_
       refine zU 42 (some 142) (bs 49 8796093022207) ?_
       refine zU 43 (some 143) (bs 49 17592186044415) ?_
       refine zU 44 (some 144) (bs 49 35184372088831) ?_
       refine zU 45 (some 145) (bs 49 70368744177663) ?_
       refine zU 46 (some 146) (bs 49 140737488355327) ?_
       refine zP 47 (some 147) (bs 49 281474976710655) ?_
       refine zP 48 (some 2) (bs 49 562949953421311) ?_
       refine done_ (done_of HT_.out (by kernel_rfl)) ?_
       try go_wp2
       go_ret
       exact⟨by first|rfl|(simp [*] <;> rfl),zB_ HB⟩
      replace c80:=Bool.eq_false_iff.mpr c80;subst c80
      rw [if_neg (show ¬ (false=true) by decide)] at H
      obtain rfl:=sI H;obtain⟨Ao109,co109,eo109⟩:=rS HO_16.out;subst eo109
      try go_wp2
      replace HO_5:=A0_ (sD HO_5.out)
      replace HO_10:=A0_ (rD HO_10.out)
      replace HO_12:=A0_ (rD HO_12.out)
      replace HO_14:=A0_ (rD HO_14.out)
      replace HO_16:=A0_ (rD HO_16.out)
      replace HO_516000:=A0_ (Kd.Q_drew HO_516000.out)
      replace HO_516001:=A0_ (rD HO_516001.out)
      replace HO_524000:=A0_ (Kd.Q_drew HO_524000.out)
      replace HO_524001:=A0_ (rD HO_524001.out)
      replace HO_532000:=A0_ (Kd.Q_drew HO_532000.out)
      replace HO_532001:=A0_ (rD HO_532001.out)
      replace BK515:=A0_ (kD BK515.out)
      replace BK523:=A0_ (kD BK523.out)
      replace BK531:=A0_ (kD BK531.out)
      replace HB:=A0_ (bD HB.out)
      refine start_ (n:=49) (S:=fun w'=>True) (ds := []) (bs 49 0) (by kernel_rfl) rfl rfl trivial (fun hHeld => ?_);refine with_tabW laws_FnCover.tab17 laws_FnCover.bits17 (fun HT_ HW_ => ?_)
      generalize wr.drew=w110 at HO_5 HO_10 HO_12 HO_14 HO_16 HO_516000 HO_516001 HO_524000 HO_524001 HO_532000 HO_532001 BK515 BK523 BK531 HB hHeld ⊢
      refine zP 0 (some 100) (bs 49 1) ?_
      refine zP 1 (some 101) (bs 49 3) ?_
      refine zP 2 (some 102) (bs 49 7) ?_
      refine zP 3 (some 103) (bs 49 15) ?_
      refine zP 4 (some 104) (bs 49 31) ?_
      refine zU 5 (some 105) (bs 49 63) ?_
      refine zP 6 (some 106) (bs 49 127) ?_
      refine zP 7 (some 107) (bs 49 255) ?_
      refine zU 8 (some 108) (bs 49 511) ?_
      refine zP 9 (some 109) (bs 49 1023) ?_
      refine zP 10 (some 110) (bs 49 2047) ?_
      refine zU 11 (some 111) (bs 49 4095) ?_
      refine zU 12 (some 112) (bs 49 8191) ?_
      refine zU 13 (some 113) (bs 49 16383) ?_
      refine zU 14 (some 114) (bs 49 32767) ?_
      refine zU 15 (some 115) (bs 49 65535) ?_
      refine zU 16 (some 116) (bs 49 131071) ?_
      refine zU 17 (some 117) (bs 49 262143) ?_
      refine zU 18 (some 118) (bs 49 524287) ?_
      refine zU 19 (some 119) (bs 49 1048575) ?_
      refine zP 20 (some 120) (bs 49 2097151) ?_
      refine zP 21 (some 121) (bs 49 4194303) ?_
      refine zU 22 (some 122) (bs 49 8388607) ?_
      refine zU 23 (some 123) (bs 49 16777215) ?_
      refine zU 24 (some 124) (bs 49 33554431) ?_
      refine zU 25 (some 125) (bs 49 67108863) ?_
      refine zU 26 (some 126) (bs 49 134217727) ?_
      refine zU 27 (some 127) (bs 49 268435455) ?_
      refine zU 28 (some 128) (bs 49 536870911) ?_
      refine zU 29 (some 129) (bs 49 1073741823) ?_
      refine zU 30 (some 130) (bs 49 2147483647) ?_
      refine zP 31 (some 131) (bs 49 4294967295) ?_
      refine zP 32 (some 132) (bs 49 8589934591) ?_
      refine zU 33 (some 133) (bs 49 17179869183) ?_
      refine zU 34 (some 134) (bs 49 34359738367) ?_
      refine zU 35 (some 135) (bs 49 68719476735) ?_
      refine zU 36 (some 136) (bs 49 137438953471) ?_
      refine zU 37 (some 137) (bs 49 274877906943) ?_
      refine zU 38 (some 138) (bs 49 549755813887) ?_
      refine zU 39 (some 139) (bs 49 1099511627775) ?_
      refine zU 40 (some 140) (bs 49 2199023255551) ?_
      refine zU 41 (some 141) (bs 49 4398046511103) ?_
      refine zU 42 (some 142) (bs 49 8796093022207) ?_
      refine zU 43 (some 143) (bs 49 17592186044415) ?_
      refine zU 44 (some 144) (bs 49 35184372088831) ?_
      refine zU 45 (some 145) (bs 49 70368744177663) ?_
      refine zU 46 (some 146) (bs 49 140737488355327) ?_
      refine zP 47 (some 147) (bs 49 281474976710655) ?_
      refine zP 48 (some 2) (bs 49 562949953421311) ?_
      refine done_ (done_of HT_.out (by kernel_rfl)) ?_
      try go_wp2
      go_ret
      exact⟨by first|rfl|(simp [*] <;> rfl),zB_ HB⟩
     replace c79:=Bool.eq_false_iff.mpr c79;subst c79
     rw [if_neg (show ¬ (false=true) by decide)] at H
     obtain rfl:=sI H;obtain⟨Ao111,co111,eo111⟩:=rS HO_16.out;subst eo111
     try go_wp2
     replace HO_5:=A0_ (sD HO_5.out)
     replace HO_10:=A0_ (rD HO_10.out)
     replace HO_12:=A0_ (rD HO_12.out)
     replace HO_14:=A0_ (rD HO_14.out)
     replace HO_16:=A0_ (rD HO_16.out)
     replace HO_516000:=A0_ (Kd.Q_drew HO_516000.out)
     replace HO_516001:=A0_ (rD HO_516001.out)
     replace HO_524000:=A0_ (Kd.Q_drew HO_524000.out)
     replace HO_524001:=A0_ (rD HO_524001.out)
     replace HO_532000:=A0_ (Kd.Q_drew HO_532000.out)
     replace HO_532001:=A0_ (rD HO_532001.out)
     replace BK515:=A0_ (kD BK515.out)
     replace BK523:=A0_ (kD BK523.out)
     replace BK531:=A0_ (kD BK531.out)
     replace HB:=A0_ (bD HB.out)
     refine start_ (n:=49) (S:=fun w'=>True) (ds := []) (bs 49 0) (by kernel_rfl) rfl rfl trivial (fun hHeld => ?_);refine with_tabW laws_FnCover.tab17 laws_FnCover.bits17 (fun HT_ HW_ => ?_)
     generalize wr.drew=w112 at HO_5 HO_10 HO_12 HO_14 HO_16 HO_516000 HO_516001 HO_524000 HO_524001 HO_532000 HO_532001 BK515 BK523 BK531 HB hHeld ⊢
     refine zP 0 (some 100) (bs 49 1) ?_
     refine zP 1 (some 101) (bs 49 3) ?_
     refine zU 2 (some 102) (bs 49 7) ?_
     refine zP 3 (some 103) (bs 49 15) ?_
     refine zP 4 (some 104) (bs 49 31) ?_
     refine zU 5 (some 105) (bs 49 63) ?_
     refine zP 6 (some 106) (bs 49 127) ?_
     refine zP 7 (some 107) (bs 49 255) ?_
     refine zU 8 (some 108) (bs 49 511) ?_
     refine zP 9 (some 109) (bs 49 1023) ?_
     refine zP 10 (some 110) (bs 49 2047) ?_
     refine zU 11 (some 111) (bs 49 4095) ?_
     refine zU 12 (some 112) (bs 49 8191) ?_
     refine zU 13 (some 113) (bs 49 16383) ?_
     refine zU 14 (some 114) (bs 49 32767) ?_
     refine zU 15 (some 115) (bs 49 65535) ?_
     refine zU 16 (some 116) (bs 49 131071) ?_
     refine zU 17 (some 117) (bs 49 262143) ?_
     refine zU 18 (some 118) (bs 49 524287) ?_
     refine zU 19 (some 119) (bs 49 1048575) ?_
     refine zP 20 (some 120) (bs 49 2097151) ?_
     refine zP 21 (some 121) (bs 49 4194303) ?_
     refine zU 22 (some 122) (bs 49 8388607) ?_
     refine zU 23 (some 123) (bs 49 16777215) ?_
     refine zU 24 (some 124) (bs 49 33554431) ?_
     refine zU 25 (some 125) (bs 49 67108863) ?_
     refine zU 26 (some 126) (bs 49 134217727) ?_
     refine zU 27 (some 127) (bs 49 268435455) ?_
     refine zU 28 (some 128) (bs 49 536870911) ?_
     refine zU 29 (some 129) (bs 49 1073741823) ?_
     refine zU 30 (some 130) (bs 49 2147483647) ?_
     refine zP 31 (some 131) (bs 49 4294967295) ?_
     refine zP 32 (some 132) (bs 49 8589934591) ?_
     refine zU 33 (some 133) (bs 49 17179869183) ?_
     refine zU 34 (some 134) (bs 49 34359738367) ?_
     refine zU 35 (some 135) (bs 49 68719476735) ?_
     refine zU 36 (some 136) (bs 49 137438953471) ?_
     refine zU 37 (some 137) (bs 49 274877906943) ?_
     refine zU 38 (some 138) (bs 49 549755813887) ?_
     refine zU 39 (some 139) (bs 49 1099511627775) ?_
     refine zU 40 (some 140) (bs 49 2199023255551) ?_
     refine zU 41 (some 141) (bs 49 4398046511103) ?_
     refine zU 42 (some 142) (bs 49 8796093022207) ?_
     refine zU 43 (some 143) (bs 49 17592186044415) ?_
     refine zU 44 (some 144) (bs 49 35184372088831) ?_
     refine zU 45 (some 145) (bs 49 70368744177663) ?_
     refine zU 46 (some 146) (bs 49 140737488355327) ?_
     refine zP 47 (some 147) (bs 49 281474976710655) ?_
     refine zP 48 (some 2) (bs 49 562949953421311) ?_
     refine done_ (done_of HT_.out (by kernel_rfl)) ?_
     try go_wp2
     go_ret
     exact⟨by first|rfl|(simp [*] <;> rfl),zB_ HB⟩

/-- THE ONE PURE STATEMENT of laws_FnCover: yours. -/
def laws_FnCover.Pure:Prop := ∀ (l0:List Int),l0.length≤maxLen→l0.length*1≤140737488351232→(∀ x ∈ l0,(Lit.int .u8 x).wf=true) → ∃ k,laws_FnCover.f k l0=some true
theorem laws_FnCover.walk (P:laws_FnCover.Pure) (a0:Option Addr) (len0 cap0:Nat) (z0:List Int) (w:World) (w0:(a0=none∧len0=0∧cap0=0∧z0 = []) ∨ ∃ x,a0=some x∧len0≤cap0∧cap0≤maxLen∧z0.length=cap0∧(∀ i,i<z0.length→w.cell? (x.add i)=some (.int .u8 (z0.getD i 0))) ∧ ∀ n ∈ z0,(Lit.int .u8 n).wf=true) (y0:len0*1≤140737488351232) :
  Calls Try.prog 9 #[.slice a0 len0 cap0] w fun e w'=>e = .returned (.bool true)∧Below w.heap.size w w':=by
 obtain⟨l0,rfl,hr0,hm0,hw0,hc0⟩:=ReadsInt.ofRowC w0;obtain⟨k,h⟩:=P l0 hm0 y0 hw0
 refine(laws_FnCover.calls k _ _ l0 true w (Kd.C_of_reads (d:=(0:Int)) (h1:=fun _=>rfl) hr0) hc0 h).mono ?_
 rintro e w' ⟨rfl,hd⟩
 exact⟨rfl,hd⟩

end Go.Proofs.Ytmegggomhjgehaa.PFnCover
